import PyProof.Rows.All
import Wide.All
import OpenK.AllK
import Wide.FinOn
import HandS.ForMost
import HandS.Zip
import HandS.Walk
import PyProof.ReprRoads
import KE.DatumOrd
import KE.KDictKeyed
import HandS.ForExc
import HandS.IsInst
import HandS.TupAny
import HandS.TupMul
import HandS.Strs
import KE.KExcSuper
import HandS.TryMany
import HandS.ExcSuper
import HandS.Lambda
import HandS.EndTab
import KE.KDflt
import HandS.Star
import HandS.CallRecv
import PyProof.ReprBulk
import PySem.Challenge.RW_termseats_k88_whole_phases
set_option Elab.async false
set_option linter.all false
set_option maxRecDepth 100000
/-! The plain law of claim k88: rounds, loads, the search, the first best row. No program in sight. -/
namespace K88
/-! ### rounds -/
def rnd (ts : List Nat) : Nat := ts.foldl Nat.lcm 1
theorem div_gcd_mul (m n : Nat) : m / Nat.gcd m n * n = Nat.lcm m n := by
  unfold Nat.lcm
  exact Nat.div_mul_right_comm (Nat.gcd_dvd_left m n) n
theorem foldl_lcm_dvd_acc : ∀ (ts : List Nat) (a : Nat), a ∣ ts.foldl Nat.lcm a
  | [], a => Nat.dvd_refl a
  | t :: ts, a => Nat.dvd_trans (Nat.dvd_lcm_left a t) (foldl_lcm_dvd_acc ts _)
theorem foldl_lcm_mem : ∀ (ts : List Nat) (a t : Nat), t ∈ ts → t ∣ ts.foldl Nat.lcm a
  | s :: ts, a, t, h => by
    rcases List.mem_cons.mp h with e | h
    · subst e
      exact Nat.dvd_trans (Nat.dvd_lcm_right a t) (foldl_lcm_dvd_acc ts _)
    · exact foldl_lcm_mem ts _ t h
theorem foldl_lcm_least : ∀ (ts : List Nat) (a n : Nat), a ∣ n → (∀ t ∈ ts, t ∣ n) → ts.foldl Nat.lcm a ∣ n
  | [], a, n, h, _ => h
  | s :: ts, a, n, h, k => foldl_lcm_least ts _ n (Nat.lcm_dvd h (k s (List.mem_cons_self ..))) fun t ht => k t (List.mem_cons_of_mem _ ht)
theorem foldl_lcm_pos : ∀ (ts : List Nat) (a : Nat), 0 < a → (∀ t ∈ ts, 0 < t) → 0 < ts.foldl Nat.lcm a
  | [], a, h, _ => h
  | s :: ts, a, h, k => foldl_lcm_pos ts _ (Nat.lcm_pos h (k s (List.mem_cons_self ..))) fun t ht => k t (List.mem_cons_of_mem _ ht)
theorem dvd_rnd {ts : List Nat} {t : Nat} (h : t ∈ ts) : t ∣ rnd ts := foldl_lcm_mem ts 1 t h
theorem rnd_dvd {ts : List Nat} {n : Nat} (h : ∀ t ∈ ts, t ∣ n) : rnd ts ∣ n := foldl_lcm_least ts 1 n (Nat.one_dvd n) h
theorem rnd_pos {ts : List Nat} (h : ∀ t ∈ ts, 0 < t) : 0 < rnd ts := foldl_lcm_pos ts 1 Nat.one_pos h
theorem rnd_le_of {ts : List Nat} {n : Nat} (hn : 0 < n) (h : ∀ t ∈ ts, t ∣ n) : rnd ts ≤ n := Nat.le_of_dvd hn (rnd_dvd h)
theorem rnd_append (a b : List Nat) : rnd (a ++ b) = b.foldl Nat.lcm (rnd a) := by unfold rnd; rw [List.foldl_append]

/-! ### loads -/
def due (n t p : Nat) : Bool := (n + t - p) % t == 0
def loads (ts ps : List Nat) : List Nat := (List.range (rnd ts)).map fun n => (ts.zip ps).countP fun q => due n q.1 q.2
def loaded (s : List Nat) (t p : Nat) : List Nat := s.mapIdx fun n one => one + (if due n t p then 1 else 0)
def addAll : List Nat → List Nat → List Nat → List Nat
  | s, t :: ts, p :: ps => addAll (loaded s t p) ts ps
  | s, _, _ => s
theorem loaded_length (s : List Nat) (t p : Nat) : (loaded s t p).length = s.length := by simp [loaded]
theorem addAll_eq : ∀ (ts ps s : List Nat), addAll s ts ps = s.mapIdx fun n one => one + (ts.zip ps).countP fun q => due n q.1 q.2
  | [], ps, s => by
    refine List.ext_getElem (by simp [addAll]) fun i h1 h2 => ?_
    simp [addAll]
  | t :: ts, [], s => by
    refine List.ext_getElem (by simp [addAll]) fun i h1 h2 => ?_
    simp [addAll]
  | t :: ts, p :: ps, s => by
    rw [addAll, addAll_eq ts ps]
    refine List.ext_getElem (by simp [loaded]) fun i h1 h2 => ?_
    simp only [loaded, List.getElem_mapIdx, List.zip_cons_cons, List.countP_cons]
    omega
theorem addAll_zero (ts ps : List Nat) : addAll (List.replicate (rnd ts) 0) ts ps = loads ts ps := by
  rw [addAll_eq]
  refine List.ext_getElem (by simp [loads]) fun i h1 h2 => ?_
  simp [loads]

/-! ### the greatest -/
def maxL (s : List Nat) : Nat := s.foldl max 0
theorem foldl_max_ge : ∀ (s : List Nat) (a : Nat), a ≤ s.foldl max a
  | [], a => Nat.le_refl a
  | x :: s, a => Nat.le_trans (Nat.le_max_left a x) (foldl_max_ge s _)
theorem foldl_max_mem : ∀ (s : List Nat) (a x : Nat), x ∈ s → x ≤ s.foldl max a
  | y :: s, a, x, h => by
    rcases List.mem_cons.mp h with e | h
    · subst e
      exact Nat.le_trans (Nat.le_max_right a x) (foldl_max_ge s _)
    · exact foldl_max_mem s _ x h
theorem foldl_max_le : ∀ (s : List Nat) (a m : Nat), a ≤ m → (∀ x ∈ s, x ≤ m) → s.foldl max a ≤ m
  | [], a, m, h, _ => h
  | y :: s, a, m, h, k => foldl_max_le s _ m (Nat.max_le.mpr ⟨h, k y (List.mem_cons_self ..)⟩) fun x hx => k x (List.mem_cons_of_mem _ hx)
theorem le_maxL {s : List Nat} {x : Nat} (h : x ∈ s) : x ≤ maxL s := foldl_max_mem s 0 x h
theorem maxL_le {s : List Nat} {m : Nat} (h : ∀ x ∈ s, x ≤ m) : maxL s ≤ m := foldl_max_le s 0 m (Nat.zero_le _) h
theorem maxL_le_iff {s : List Nat} {m : Nat} : maxL s ≤ m ↔ ∀ x ∈ s, x ≤ m := ⟨fun h x hx => Nat.le_trans (le_maxL hx) h, maxL_le⟩
/-- the greatest is the one item that no item exceeds -/
theorem maxL_of {s : List Nat} {m : Nat} (h1 : m ∈ s) (h2 : ∀ x ∈ s, x ≤ m) : m = maxL s := Nat.le_antisymm (le_maxL h1) (maxL_le h2)
theorem maxL_mem : ∀ {s : List Nat}, s ≠ [] → maxL s ∈ s := by
  have go : ∀ (s : List Nat) (a : Nat), s.foldl max a = a ∨ s.foldl max a ∈ s := by
    intro s
    induction s with
    | nil => exact fun a => .inl rfl
    | cons x s ih =>
      intro a
      simp only [List.foldl_cons]
      rcases ih (max a x) with h | h
      · rw [h]
        rcases Nat.le_total a x with q | q
        · rw [Nat.max_eq_right q]; exact .inr (List.mem_cons_self ..)
        · rw [Nat.max_eq_left q]; exact .inl rfl
      · exact .inr (List.mem_cons_of_mem _ h)
  intro s hs
  rcases go s 0 with h | h
  · obtain ⟨x, s', rfl⟩ := List.exists_cons_of_ne_nil hs
    have hx : x ≤ maxL (x :: s') := le_maxL (List.mem_cons_self ..)
    have h' : maxL (x :: s') = 0 := h
    have : x = 0 := by omega
    rw [h', ← this]
    exact List.mem_cons_self ..
  · exact h

/-! ### the search -/
def go (hi : Nat) : List Nat → List Nat → Option (List Nat)
  | [], _ => some []
  | t :: ts, s => (List.range t).findSome? fun p => if maxL (loaded s t p) ≤ hi then (go hi ts (loaded s t p)).map (p :: ·) else none
def rows : List Nat → List (List Nat)
  | [] => [[]]
  | t :: ts => (List.range t).flatMap fun p => (rows ts).map (p :: ·)
theorem loaded_ge {s : List Nat} {t p hi : Nat} (h : maxL (loaded s t p) ≤ hi) : maxL s ≤ hi := by
  refine maxL_le fun x hx => ?_
  obtain ⟨i, hi', rfl⟩ := List.getElem_of_mem hx
  have h1 : i < (loaded s t p).length := by rw [loaded_length]; exact hi'
  have h2 : (loaded s t p)[i] ≤ hi := Nat.le_trans (le_maxL (List.getElem_mem h1)) h
  simp only [loaded, List.getElem_mapIdx] at h2
  omega
theorem addAll_ge {hi : Nat} : ∀ (ts ps s : List Nat), maxL (addAll s ts ps) ≤ hi → maxL s ≤ hi
  | [], ps, s, h => by simpa [addAll] using h
  | t :: ts, [], s, h => by simpa [addAll] using h
  | t :: ts, p :: ps, s, h => loaded_ge (addAll_ge ts ps _ (by rw [addAll] at h; exact h))
theorem findSome_congr {α β : Type} {f g : α → Option β} : ∀ {l : List α}, (∀ x ∈ l, f x = g x) → l.findSome? f = l.findSome? g
  | [], _ => rfl
  | x :: l, h => by
    rw [List.findSome?_cons, List.findSome?_cons, h x (List.mem_cons_self ..), findSome_congr fun y hy => h y (List.mem_cons_of_mem _ hy)]
theorem find_none {α : Type} {p : α → Bool} {l : List α} (h : ∀ x ∈ l, p x = false) : l.find? p = none := List.find?_eq_none.mpr fun x hx => by rw [h x hx]; exact Bool.false_ne_true
theorem go_eq (hi : Nat) : ∀ (ts s : List Nat), maxL s ≤ hi → go hi ts s = (rows ts).find? fun r => decide (maxL (addAll s ts r) ≤ hi)
  | [], s, h => by simp [go, rows, addAll, h]
  | t :: ts, s, h => by
    rw [go, rows, List.find?_flatMap]
    refine findSome_congr fun p _ => ?_
    rw [List.find?_map]
    by_cases c : maxL (loaded s t p) ≤ hi
    · rw [if_pos c, go_eq hi ts _ c]
      rfl
    · rw [if_neg c, find_none]
      · rfl
      · intro r _
        show decide (maxL (addAll s (t :: ts) (p :: r)) ≤ hi) = false
        rw [addAll]
        exact decide_eq_false fun q => c (addAll_ge ts r _ q)

/-! ### the rows -/
theorem rows_len : ∀ (ts r : List Nat), r ∈ rows ts → r.length = ts.length
  | [], r, h => by rw [rows, List.mem_singleton] at h; subst h; rfl
  | t :: ts, r, h => by
    rw [rows, List.mem_flatMap] at h
    obtain ⟨p, _, h⟩ := h
    obtain ⟨q, hq, rfl⟩ := List.mem_map.mp h
    simp [rows_len ts q hq]
/-- a row of phases: each below its term -/
inductive Phs : List Nat → List Nat → Prop
  | nil : Phs [] []
  | cons {t p : Nat} {ts ps : List Nat} : p < t → Phs ts ps → Phs (t :: ts) (p :: ps)
theorem Phs.length {ts ps : List Nat} (h : Phs ts ps) : ps.length = ts.length := by
  induction h with
  | nil => rfl
  | cons _ _ ih => simp [ih]
theorem rows_phs : ∀ (ts r : List Nat), r ∈ rows ts → Phs ts r
  | [], r, h => by rw [rows, List.mem_singleton] at h; subst h; exact .nil
  | t :: ts, r, h => by
    rw [rows, List.mem_flatMap] at h
    obtain ⟨p, hp, h⟩ := h
    obtain ⟨q, hq, rfl⟩ := List.mem_map.mp h
    exact .cons (List.mem_range.mp hp) (rows_phs ts q hq)
theorem rows_ne : ∀ (ts : List Nat), (∀ t ∈ ts, 0 < t) → rows ts ≠ []
  | [], _ => by simp [rows]
  | t :: ts, h => by
    intro q
    have h1 := rows_ne ts fun x hx => h x (List.mem_cons_of_mem _ hx)
    obtain ⟨r, hr⟩ := List.exists_mem_of_ne_nil _ h1
    have : 0 :: r ∈ rows (t :: ts) := by
      rw [rows, List.mem_flatMap]
      exact ⟨0, List.mem_range.mpr (h t (List.mem_cons_self ..)), List.mem_map.mpr ⟨r, hr, rfl⟩⟩
    rw [q] at this
    exact nomatch this
def prodL (ts : List Nat) : Nat := ts.foldl (· * ·) 1
theorem foldl_mul : ∀ (ts : List Nat) (a : Nat), ts.foldl (· * ·) a = a * prodL ts
  | [], a => by simp [prodL]
  | t :: ts, a => by
    have h1 := foldl_mul ts (a * t)
    have h2 := foldl_mul ts (1 * t)
    simp only [prodL, List.foldl_cons] at *
    rw [h1, h2, Nat.one_mul, Nat.mul_assoc]
theorem flatMap_len {α β : Type} (f : α → List β) (n : Nat) : ∀ l : List α, (∀ x ∈ l, (f x).length = n) → (l.flatMap f).length = l.length * n
  | [], _ => by simp
  | x :: l, h => by
    rw [List.flatMap_cons, List.length_append, h x (List.mem_cons_self ..), flatMap_len f n l fun y hy => h y (List.mem_cons_of_mem _ hy), List.length_cons, Nat.succ_mul, Nat.add_comm]
theorem rows_count : ∀ ts : List Nat, (rows ts).length = prodL ts
  | [] => by simp [rows, prodL]
  | t :: ts => by
    rw [rows, flatMap_len _ (prodL ts) _ fun p _ => by rw [List.length_map, rows_count ts], List.length_range]
    have := foldl_mul ts (1 * t)
    simp only [prodL, List.foldl_cons] at *
    rw [this, Nat.one_mul]
/-- how the law makes them -/
def grow (rs : List (List Nat)) (t : Nat) : List (List Nat) := rs.flatMap fun r => (List.range t).map fun o => r ++ [o]
theorem grow_all : ∀ (ts : List Nat) (rs : List (List Nat)), ts.foldl grow rs = rs.flatMap fun a => (rows ts).map (a ++ ·)
  | [], rs => by simp [rows]
  | t :: ts, rs => by
    rw [List.foldl_cons, grow_all ts, grow, List.flatMap_assoc]
    congr 1
    funext r
    rw [rows, List.map_flatMap, List.flatMap_map]
    congr 1
    funext o
    rw [List.map_map]
    congr 1
    funext q
    simp
theorem rows_grow (ts : List Nat) : ts.foldl grow [[]] = rows ts := by rw [grow_all]; simp

/-! ### the first best row -/
def bestStep (f : List Nat → Nat) (o : Option (Nat × List Nat)) (r : List Nat) : Option (Nat × List Nat) :=
  match o with
  | none => some (f r, r)
  | some (b, q) => if f r < b then some (f r, r) else some (b, q)
def bestOf (f : List Nat → Nat) (rs : List (List Nat)) : Option (Nat × List Nat) := rs.foldl (bestStep f) none
structure Best (f : List Nat → Nat) (rs : List (List Nat)) (b : Nat) (q : List Nat) : Prop where
  less : ∀ m, m < b → rs.find? (fun r => decide (f r ≤ m)) = none
  at_ : rs.find? (fun r => decide (f r ≤ b)) = some q
  val : f q = b
theorem Best.one (f : List Nat → Nat) (r : List Nat) : Best f [r] (f r) r := by
  refine ⟨fun m hm => ?_, ?_, rfl⟩
  · have h : ¬ f r ≤ m := by omega
    simp [h]
  · simp
theorem Best.step {f : List Nat → Nat} {rs : List (List Nat)} {b : Nat} {q r : List Nat} (B : Best f rs b q) :
    ∃ b' q', bestStep f (some (b, q)) r = some (b', q') ∧ Best f (rs ++ [r]) b' q' := by
  by_cases c : f r < b
  · refine ⟨f r, r, by simp [bestStep, c], fun m hm => ?_, ?_, rfl⟩
    · rw [List.find?_append, B.less m (by omega)]
      have h : ¬ f r ≤ m := by omega
      simp [h]
    · rw [List.find?_append, B.less (f r) c]
      simp
  · refine ⟨b, q, by simp [bestStep, c], fun m hm => ?_, ?_, B.val⟩
    · rw [List.find?_append, B.less m hm]
      have h : ¬ f r ≤ m := by omega
      simp [h]
    · rw [List.find?_append, B.at_]
      simp
/-- the law's loop over the rows, behind rs -/
def BestAt (f : List Nat → Nat) (rs : List (List Nat)) (o : Option (Nat × List Nat)) : Prop :=
  (rs = [] ∧ o = none) ∨ ∃ b q, o = some (b, q) ∧ Best f rs b q
theorem BestAt.step {f : List Nat → Nat} {rs : List (List Nat)} {o : Option (Nat × List Nat)} (B : BestAt f rs o) (r : List Nat) : BestAt f (rs ++ [r]) (bestStep f o r) := by
  rcases B with ⟨e, e2⟩ | ⟨b, q, e, h⟩
  · subst e; subst e2
    exact .inr ⟨_, _, rfl, Best.one f r⟩
  · subst e
    obtain ⟨b', q', e1, h1⟩ := h.step (r := r)
    exact .inr ⟨b', q', e1, h1⟩

/-! ### the search finds it -/
abbrev cost (ts : List Nat) (r : List Nat) : Nat := maxL (loads ts r)
abbrev search (ts : List Nat) (m : Nat) : Option (List Nat) := go m ts (List.replicate (rnd ts) 0)
theorem search_eq (ts : List Nat) (m : Nat) : search ts m = (rows ts).find? fun r => decide (cost ts r ≤ m) := by
  unfold search
  rw [go_eq m ts _ (maxL_le fun x hx => by rw [List.mem_replicate] at hx; omega)]
  congr 1
  funext r
  rw [addAll_zero]
theorem Best.search_less {ts : List Nat} {b : Nat} {q : List Nat} (B : Best (cost ts) (rows ts) b q) {m : Nat} (h : m < b) : search ts m = none := by rw [search_eq]; exact B.less m h
theorem Best.search_at {ts : List Nat} {b : Nat} {q : List Nat} (B : Best (cost ts) (rows ts) b q) : search ts b = some q := by rw [search_eq]; exact B.at_
theorem Best.mem {f : List Nat → Nat} {rs : List (List Nat)} {b : Nat} {q : List Nat} (B : Best f rs b q) : q ∈ rs := List.mem_of_find?_eq_some B.at_
theorem due_self {p t : Nat} (h : p < t) : due p t p = true := by
  unfold due
  have : p + t - p = t := by omega
  rw [this, Nat.mod_self]
  rfl
/-- somebody comes up some day -/
theorem cost_pos {t p : Nat} {ts ps : List Nat} (h : Phs (t :: ts) (p :: ps)) (hp : ∀ x ∈ t :: ts, 0 < x) : 1 ≤ cost (t :: ts) (p :: ps) := by
  cases h with
  | cons hpt _ =>
    have hd : t ∣ rnd (t :: ts) := dvd_rnd (List.mem_cons_self ..)
    have hR : t ≤ rnd (t :: ts) := Nat.le_of_dvd (rnd_pos hp) hd
    have hm : ((t :: ts).zip (p :: ps)).countP (fun q => due p q.1 q.2) ∈ loads (t :: ts) (p :: ps) :=
      List.mem_map.mpr ⟨p, List.mem_range.mpr (Nat.lt_of_lt_of_le hpt hR), rfl⟩
    refine Nat.le_trans ?_ (le_maxL hm)
    rw [List.zip_cons_cons, List.countP_cons, due_self hpt]
    simp
theorem Best.pos {ts : List Nat} {b : Nat} {q : List Nat} (B : Best (cost ts) (rows ts) b q) (hne : ts ≠ []) (hp : ∀ x ∈ ts, 0 < x) : 1 ≤ b := by
  rw [← B.val]
  have hq := rows_phs ts q B.mem
  cases hq with
  | nil => exact absurd rfl hne
  | cons a c => exact cost_pos (.cons a c) hp
/-- there is a best row -/
theorem best_some {f : List Nat → Nat} {rs : List (List Nat)} (h : rs ≠ []) : ∃ b q, Best f rs b q := by
  have go : ∀ (rs ahead : List (List Nat)) (o : Option (Nat × List Nat)), BestAt f ahead o → ∃ o', BestAt f (ahead ++ rs) o' := by
    intro rs
    induction rs with
    | nil => exact fun ahead o B => ⟨o, by rw [List.append_nil]; exact B⟩
    | cons r rs ih =>
      intro ahead o B
      have := ih (ahead ++ [r]) _ (B.step r)
      rw [List.append_assoc, List.singleton_append] at this
      exact this
  obtain ⟨o', B⟩ := go rs [] none (.inl ⟨rfl, rfl⟩)
  rw [List.nil_append] at B
  rcases B with ⟨e, _⟩ | ⟨b, q, _, h⟩
  · exact absurd e ‹_›
  · exact ⟨b, q, h⟩
/-- two that are best are one -/
theorem Best.uniq {f : List Nat → Nat} {rs : List (List Nat)} {b b' : Nat} {q q' : List Nat} (B : Best f rs b q) (B' : Best f rs b' q') : b = b' ∧ q = q' := by
  have e : b = b' := by
    rcases Nat.lt_trichotomy b b' with h | h | h
    · have := B'.less b h
      rw [B.at_] at this
      cases this
    · exact h
    · have := B.less b' h
      rw [B'.at_] at this
      cases this
  subst e
  have := B.at_
  rw [B'.at_] at this
  exact ⟨rfl, (Option.some.inj this).symm⟩

/-! ### floors -/
theorem fmod_comes {n t p : Nat} (ht : 0 < t) (hp : p ≤ t) : (((n : Int) - (p : Int)).fmod (t : Int) = 0) ↔ due n t p = true := by
  unfold due
  rw [Int.fmod_eq_emod_of_nonneg _ (by omega), beq_iff_eq]
  have e : ((n : Int) - (p : Int)) % (t : Int) = (((n + t - p : Nat) : Int)) % (t : Int) := by
    have : ((n + t - p : Nat) : Int) = ((n : Int) - p) + t := by omega
    rw [this, Int.add_emod_right]
  rw [e, ← Int.natCast_emod]
  omega
theorem fmod_due {n t p : Nat} (ht : 0 < t) (hp : p ≤ t) : (((n : Int) + (t : Int) - (p : Int)).fmod (t : Int) = 0) ↔ due n t p = true := by
  rw [← fmod_comes ht hp, Int.fmod_eq_emod_of_nonneg _ (by omega), Int.fmod_eq_emod_of_nonneg _ (by omega)]
  have : (n : Int) + t - p = ((n : Int) - p) + t := by omega
  rw [this, Int.add_emod_right]
end K88
set_option maxHeartbeats 1000000
/-! enumerate(tuple): the library has it of lists. -/
namespace K88
open PySem
open PySem.Sem (wp)
open PySem.AutoSeq1 (wpAny_loadPart')
theorem enum_new_of_tuple (l : Addr) (items : Array Value) (n : Nat) (dct : Option Addr) (sl : Array (Option Value)) :
    Meets (Builtin.«enumerate.__new__» ⟨[.type "enumerate", .ref l], []⟩) (fun _ R st => st.heap.get? l = some { cls := .type "tuple", dict := dct, data := .seq items n, slots := sl } ∧
      R (.ok (.ret (.ref (st.heap.push { cls := .type "tuple_iterator", data := .fields #[.ref l, .int 0 0] }).objs.size)))
        { st with heap := (st.heap.push { cls := .type "tuple_iterator", data := .fields #[.ref l, .int 0 0] }).push { cls := .type "enumerate", data := .fields #[.none, .bool false, .ref st.heap.objs.size, rawInt 0, .none, .none] } }) :=
  .of_wp fun prog w A R st h => by
    obtain ⟨hp, g, d, tk, os⟩ := st
    obtain ⟨hl, h⟩ := h
    have hsub := sub_enumerate
    have hT : Heap.IsTuple (Shared.heap ⟨hp, g, d, tk, os⟩) l items := ⟨_, hl, rfl, n, rfl⟩
    wp_walk using wpAny_loadPart' hl
    refine wpAny_stack_any fun stk => wpAny_pure ?_
    split
    · rename_i c _ _ _ _ _
      cases (c == Value.type "enumerate")
      all_goals
        wp_walk using wpAny_loadPart' hl, wpAny_pyIter_tuple hT
        exact ⟨_, rfl, h⟩
    · wp_walk using wpAny_loadPart' hl, wpAny_pyIter_tuple hT
      exact ⟨_, rfl, h⟩

section
variable {prog : Program} {w : World} {A : Around} {E : Value → Shared → Prop} {s : Shared}
theorem call_enum_tuple {l : Addr} {items : Array Value} {Q : Value → Shared → Prop} (hT : s.heap.IsTuple l items)
    (h : ∀ h', IsEnum h' (s.heap.objs.size + 1) s.heap.objs.size 0 .none → h'.IsTupleIter s.heap.objs.size l 0 → h'.objs.size = s.heap.objs.size + 2 →
      (∀ b o, s.heap.get? b = some o → h'.get? b = some o) → Q (.ref (s.heap.objs.size + 1)) { s with heap := h' }) :
    wpAny (model prog w) A (call (.type "enumerate") [.ref l]) Q E s := by
  obtain ⟨⟨c, dct, dt, sl⟩, hl, hc, n, hd⟩ := hT
  replace hc : c = .type "tuple" := hc
  replace hd : dt = .seq items n := hd
  subst hc
  subst hd
  refine callType_new F.called_enumerate (by decide) (F.typeCall_enumerate_1 _) (F.newCall_enumerate_1 _) (fun obj => F.args_object_init_2 obj _) F.entry_enumerate_new
    (enum_new_of_tuple l items n dct sl) ⟨hl, ?_⟩
  have hz : (s.heap.push { cls := .type "tuple_iterator", data := .fields #[.ref l, .int 0 0] }).objs.size = s.heap.objs.size + 1 := Heap.size_push ..
  show _ ∧ _
  rw [hz]
  have he : IsEnum ((s.heap.push { cls := .type "tuple_iterator", data := .fields #[.ref l, .int 0 0] }).push
      { cls := .type "enumerate", data := .fields #[.none, .bool false, .ref s.heap.objs.size, rawInt 0, .none, .none] }) (s.heap.objs.size + 1) s.heap.objs.size 0 .none := by
    have q := Heap.get?_push_size (s.heap.push { cls := .type "tuple_iterator", data := .fields #[.ref l, .int 0 0] })
      (o := { cls := .type "enumerate", data := .fields #[.none, .bool false, .ref s.heap.objs.size, rawInt 0, .none, .none] }) rfl
    rw [hz] at q
    exact q
  exact ⟨⟨_, he, rfl⟩, h _ he ⟨_, Heap.get?_push_of_some _ (Heap.get?_push_size _ rfl), rfl, rfl⟩ (by rw [Heap.size_push, hz]) fun b o x => Heap.get?_push_of_some _ (Heap.get?_push_of_some _ x)⟩
/-- a turn of enumerate over a tuple: the pair is new -/
theorem enum_tuple_next {e it l : Addr} {i : Nat} {items : Array Value} {x old : Value} {Q : Value → Shared → Prop}
    (he : IsEnum s.heap e it i old) (hit : s.heap.IsTupleIter it l i) (hl : s.heap.IsTuple l items) (hx : items[i]? = some x) (hne : e ≠ it)
    (hQ : ∀ h', IsEnumOut h' e it ((i : Int) + 1) x s.heap.objs.size → h'.IsTupleIter it l (i + 1) →
      h'.get? s.heap.objs.size = some { cls := .type "tuple", data := .seq #[.int i s.toks, x] } →
      (∀ b o, b ≠ e → b ≠ it → s.heap.get? b = some o → h'.get? b = some o) → Q (.ref s.heap.objs.size) { s with heap := h', toks := s.toks + 1 }) :
    wpAny (model prog w) A (Builtin.«enumerate.__next__» ⟨[.ref e], []⟩) (fun fin s' => ∃ v, fin = .done (.ret v) ∧ Q v s') E s := by
  obtain ⟨hp, g, d, tk, os⟩ := s
  show wpAny _ _ (field (.ref e) 2 >>= _) _ _ _
  refine wpAny_bind (wpAny_field he rfl (x := .ref it) rfl ?_)
  refine wpAny_bind (RZ.nextOf_tuple_item hit hl hx fun h1 hit1 (hs1 : Heap.SameBut it hp h1) => ?_)
  have he1 : IsEnum h1 e it i old := (hs1.2 e hne).trans he
  show wpAny _ _ (field (.ref e) 3 >>= _) _ _ ⟨h1, g, d, tk, os⟩
  refine wpAny_bind (wpAny_field he1 rfl (x := rawInt i) rfl ?_)
  show wpAny _ _ (field (.ref e) 4 >>= _) _ _ ⟨h1, g, d, tk, os⟩
  refine wpAny_bind (wpAny_field he1 rfl (x := .none) rfl ?_)
  show wpAny _ _ (mkInt i >>= _) _ _ ⟨h1, g, d, tk, os⟩
  refine wpAny_bind (wpAny_mkInt ?_)
  show wpAny _ _ (setField (.ref e) 3 (rawInt ((i : Int) + 1)) >>= _) _ _ ⟨h1, g, d, tk + 1, os⟩
  refine wpAny_bind (wpAny_setField_rec he1 (by simp) fun h2 (he2 : IsEnum h2 e it ((i : Int) + 1) old) (hs2 : Heap.SameBut e h1 h2) => ?_)
  show wpAny _ _ (setField (.ref e) 4 .none >>= _) _ _ ⟨h2, g, d, tk + 1, os⟩
  refine wpAny_bind (wpAny_setField_rec he2 (by simp) fun h3 (he3 : IsEnum h3 e it ((i : Int) + 1) old) (hs3 : Heap.SameBut e h2 h3) => ?_)
  show wpAny _ _ (newTuple [.int i tk, x] >>= _) _ _ ⟨h3, g, d, tk + 1, os⟩
  refine wpAny_bind (wpAny_newTuple ?_)
  have he4 : IsEnum (h3.push { cls := .type "tuple", data := .seq #[.int i tk, x] }) e it ((i : Int) + 1) old := Heap.get?_push_of_some _ he3
  generalize hh4 : h3.push { cls := .type "tuple", data := .seq #[.int i tk, x] } = h4 at he4
  have hsz : h3.objs.size = hp.objs.size := by rw [hs3.1, hs2.1, hs1.1]
  have hel : e < hp.objs.size := Heap.lt_size he
  have ht4 : h4.get? hp.objs.size = some { cls := .type "tuple", data := .seq #[.int i tk, x] } := by rw [← hh4, ← hsz]; exact Heap.get?_push_size _ rfl
  have hk4 : ∀ b o, b ≠ e → b ≠ it → hp.get? b = some o → h4.get? b = some o := fun b o hbe hbi hb => by
    rw [← hh4]; exact Heap.get?_push_of_some _ (hs3.extBut b o hbe (hs2.extBut b o hbe (hs1.extBut b o hbi hb)))
  have hit4 : h4.IsTupleIter it l (i + 1) := by
    rw [← hh4]; obtain ⟨o, ho, r⟩ := (hit1.extBut hs2.extBut (Ne.symm hne)).extBut hs3.extBut (Ne.symm hne); exact ⟨o, Heap.get?_push_of_some _ ho, r⟩
  show wpAny _ _ (Builtin.SmallTypes.ownedTupleIsFree (.ref e) >>= _) _ _ ⟨h4, g, d, tk + 1, os⟩
  rw [hsz]
  clear hh4 he3 hs3 he2 hs2 he1 hs1 hit1 hsz h3 h2 h1
  refine wpAny_bind ?_
  unfold Builtin.SmallTypes.ownedTupleIsFree
  refine wpAny_bind (wpAny_field he4 rfl (x := .none) rfl (wpAny_pure ?_))
  simp only [if_true]
  refine wpAny_bind (wpAny_rule ?_)
  refine wpAny_bind (wpAny_field he4 rfl (x := old) rfl ?_)
  refine wpAny_bind (wpAny_setField_rec he4 (by simp) fun h5 (he5 : IsEnum h5 e it ((i : Int) + 1) x) (hs5 : Heap.SameBut e h4 h5) => ?_)
  show wpAny _ _ (Builtin.SmallTypes.ownedTupleHandOut (.ref e) (.ref hp.objs.size) >>= _) _ _ ⟨h5, g, d, tk + 1, os⟩
  refine wpAny_bind ?_
  unfold Builtin.SmallTypes.ownedTupleHandOut
  refine wpAny_bind (wpAny_setField_rec he5 (by simp) fun h6 (he6 : IsEnumOut h6 e it ((i : Int) + 1) x hp.objs.size) (hs6 : Heap.SameBut e h5 h6) => ?_)
  refine wpAny_setField_rec he6 (by simp) fun h7 (he7 : IsEnumOut h7 e it ((i : Int) + 1) x hp.objs.size) (hs7 : Heap.SameBut e h6 h7) => ?_
  refine wpAny_bind (wpAny_letGo (wpAny_pure ⟨_, rfl, hQ h7 he7 ?_ ?_ ?_⟩))
  · exact ((hit4.extBut hs5.extBut (Ne.symm hne)).extBut hs6.extBut (Ne.symm hne)).extBut hs7.extBut (Ne.symm hne)
  · exact hs7.extBut _ _ (Nat.ne_of_gt hel) (hs6.extBut _ _ (Nat.ne_of_gt hel) (hs5.extBut _ _ (Nat.ne_of_gt hel) ht4))
  · exact fun b o hbe hbi hb => hs7.extBut b o hbe (hs6.extBut b o hbe (hs5.extBut b o hbe (hk4 b o hbe hbi hb)))
theorem enum_tuple_item {e it l : Addr} {i : Nat} {items : Array Value} {x old : Value} {Q : Option Value → Shared → Prop}
    (he : IsEnum s.heap e it i old) (hit : s.heap.IsTupleIter it l i) (hl : s.heap.IsTuple l items) (hx : items[i]? = some x) (hne : e ≠ it)
    (hQ : ∀ h', IsEnumOut h' e it ((i : Int) + 1) x s.heap.objs.size → h'.IsTupleIter it l (i + 1) →
      h'.get? s.heap.objs.size = some { cls := .type "tuple", data := .seq #[.int i s.toks, x] } →
      (∀ b o, b ≠ e → b ≠ it → s.heap.get? b = some o → h'.get? b = some o) → Q (some (.ref s.heap.objs.size)) { s with heap := h', toks := s.toks + 1 }) :
    wpAny (model prog w) A (pyNext (.ref e)) Q E s := by
  have hT : s.TypeIs (.ref e) "enumerate" := ⟨_, he, rfl⟩
  unfold pyNext
  refine wpAny_bind (wpAny_attempt (wpAny_callSpecial?_slot (name := Str.ofString "__next__") hT F.slot_enumerate_next
    (wpAny_call_entry F.slot_enumerate_next hT F.entry_enumerate_next ?_ (F.args_enumerate_next_1 _))))
  exact enum_tuple_next he hit hl hx hne fun h' a b c k => wpAny_pure (hQ h' a b c k)
theorem enum_tuple_end {e it l : Addr} {i : Nat} {items : Array Value} {old : Value} {Q : Option Value → Shared → Prop} (hh : A.handled = none)
    (he : IsEnum s.heap e it i old) (hit : s.heap.IsTupleIter it l i) (hl : s.heap.IsTuple l items) (hx : items[i]? = none)
    (hQ : ∀ h', Heap.ExtBut it s.heap h' → Q none { s with heap := h' }) : wpAny (model prog w) A (pyNext (.ref e)) Q E s := by
  have hT : s.TypeIs (.ref e) "enumerate" := ⟨_, he, rfl⟩
  unfold pyNext
  refine wpAny_bind (wpAny_attempt (wpAny_callSpecial?_slot (name := Str.ofString "__next__") hT F.slot_enumerate_next
    (wpAny_call_entry F.slot_enumerate_next hT F.entry_enumerate_next ?_ (F.args_enumerate_next_1 _))))
  show wpAny _ _ (field (.ref e) 2 >>= _) _ _ _
  refine wpAny_bind (wpAny_field he rfl (x := .ref it) rfl ?_)
  refine wpAny_bind (RZ.nextOf_tuple_end hh hit hl hx fun h' x he' hx' => ?_)
  obtain ⟨o, ho, hc⟩ := hx'
  exact wpAny_bind (wpAny_isInstance (T := "StopIteration") (b := true) ⟨o, ho, hc⟩ isSubtype_stop (wpAny_pure (hQ _ he')))
end
end K88

namespace K88
open PySem PySem.Spec PyProof.Rows L2
/-- the tuple at a, each item in a new pair with its number -/
def IteT (K : PySem.W.Frag) (a : Addr) : It :=
  ⟨fun i H => ∃ (xs : List V) (x : V), SqT K H a xs ∧ xs[i]? = some x, fun i H v H' => ∃ T x, v = .ref T ∧ H T = none ∧ H' = upd H T (.tup [.int (i : Nat), x]) ∧ ∀ xs, SqT K H a xs → xs[i]? = some x, fun i H => ∃ xs : List V, SqT K H a xs ∧ xs.length ≤ i⟩
theorem turn_enumT {P : Program} {w : World} {K : PySem.W.Frag} {elts : List Expr} {kk : Nat} {tpos : Pos} (a e it : Addr) :
    Turn P w K (.Tuple elts kk tpos) (IteT K a) [e, it] e (fun i h => (∃ old, IsEnum h e it ((i : Nat) : Int) old) ∧ h.IsTupleIter it a i ∧ e ≠ it) where
  mem := by simp
  obj := fun i h st b hb => by
    obtain ⟨⟨old, he⟩, ⟨o, ho, hc, hd⟩, _⟩ := st
    have hb' : b = e ∨ b = it := by simpa using hb
    rcases hb' with z | z
    · rw [z]
      exact ⟨_, he, fun v q => nomatch q⟩
    · rw [z]
      exact ⟨o, ho, fun v q => by rw [hd] at q; cases q⟩
  keep := fun i h h' st k => let ⟨⟨old, he⟩, hi, hne⟩ := st; ⟨⟨old, k e (by simp) _ he⟩, hi.at fun o q => k it (by simp) o q, hne⟩
  item := by
    intro X hP hw hK hc i pins s σ H E I hf st hg
    subst hP
    subst hw
    subst hK
    obtain ⟨⟨old, he⟩, hit, hne⟩ := st
    obtain ⟨xs, x, hq, hx⟩ := hg
    obtain ⟨its, rv, p, hz⟩ := I.tuple hq
    obtain ⟨u, hu, ru⟩ := rv.get hx
    have hel : e < s.heap.objs.size := Heap.lt_size he
    have hil : it < s.heap.objs.size := by obtain ⟨_, q, _⟩ := hit; exact Heap.lt_size q
    refine enum_tuple_item he hit (show s.heap.IsTuple a its.toArray from p) (x := u) (by simpa using hu) hne fun h' ho hit' hT hk => ?_
    refine ⟨_, rfl, wpAny_letOwnedTupleGo_enum (s := { s with heap := h', toks := s.toks + 1 }) ho fun h'' he' sb => ?_⟩
    have hT2 : h''.get? s.heap.objs.size = some { cls := .type "tuple", data := .seq #[.int i s.toks, u] } := (sb.2 _ (Nat.ne_of_gt hel)).trans hT
    have new : ObjOk X.prog X.w (upd H s.heap.objs.size (.tup [.int (i : Nat), x])) h'' s.heap.objs.size (.tup [.int (i : Nat), x]) :=
      ⟨by show 2 ≤ sizeLine; decide, [.int i s.toks, u], .cons ⟨_, rfl⟩ (.cons ru .nil), ⟨_, hT2, rfl, _, rfl⟩⟩
    have I1 : Inv X pins σ (upd H s.heap.objs.size (.tup [.int (i : Nat), x])) { s with heap := h'', toks := s.toks + 1 } :=
      I.turnedNew (ch := [e, it]) (fun b ob hb q => (sb.2 b (fun z => hb (by simp [z]))).trans (hk b ob (fun z => hb (by simp [z])) (fun z => hb (by simp [z])) q)) hf (Nat.le_refl _) new
    refine ⟨.ref s.heap.objs.size, _, I1, rfl, ⟨_, x, rfl, I.hok.fresh (Nat.le_refl _), rfl, fun ys hy => by rw [I.tuple_inj hy hq]; exact hx⟩, ⟨⟨u, ?_⟩, hit'.at fun o q => (sb.2 it (Ne.symm hne)).trans q, hne⟩, fun b hb => ?_⟩
    · have e1 : ((i + 1 : Nat) : Int) = (i : Int) + 1 := by omega
      rw [e1]
      exact he'
    · have hb' : b < s.heap.objs.size := by
        have q : b = e ∨ b = it := by simpa using hb
        rcases q with z | z <;> (rw [z]; assumption)
      rw [upd_ne (Nat.ne_of_lt hb')]
      exact (hf b hb).1
  done := by
    intro X hP hw hK hc i pins s σ H E I hf st hg
    subst hP
    subst hw
    subst hK
    obtain ⟨⟨old, he⟩, hit, hne⟩ := st
    obtain ⟨xs, hq, hx⟩ := hg
    obtain ⟨its, rv, p, hz⟩ := I.tuple hq
    obtain ⟨f0, f1, f2, f3, f4, f5⟩ := hf it (by simp)
    have hl := rv.length
    exact enum_tuple_end (I.ok.hd hc) he hit (show s.heap.IsTuple a its.toArray from p) (by simp; omega) fun h' eb => ⟨rfl, I.turned (t' := s.toks) (fun b o hb q => eb b o hb q) f0 f1 f3 f4 f5⟩
  self := fun A i s Q E st h => let ⟨⟨_, he⟩, _⟩ := st; wpAny_pyIter_enum he h
def iEnumT (K : PySem.W.Frag) (ta : TA) : TI := fun σ H R => ta σ H fun vs H1 => ∃ a xs, vs = [.ref a] ∧ SqT K H1 a xs ∧ R (IteT K a) H1
theorem pi_enumT {X : Cx} {e : Expr} {ta : TA} {p pos tpos : Pos} {elts : List Expr} {kk : Nat} (hg : Gl X "enumerate") (hm : X.mg "enumerate" = none) (ha : PA X [e] ta) (hs : starEach [e] X.env = [(false, eval e X.env)] := by rfl) :
    PI X (.Tuple elts kk tpos) (.Call (.Name "enumerate" p) [e] [] pos) (iEnumT X.K ta) := by
  refine ⟨fun pins s σ H R I h => ?_⟩
  refine Call_ (ld_blt I hg hm boot_enumerate (PyProof.Rows.callWith_type1 (thn (ha.run pos pins s σ H _ I h) fun us s1 ⟨vs, H1, I1, r1, q1⟩ => ?_) hs rfl))
  obtain ⟨a, xs, ex, hq, q⟩ := q1
  subst ex
  cases r1 with
  | cons r rr =>
    cases rr
    cases r
    obtain ⟨its, rv, p', hz⟩ := I1.tuple hq
    refine call_enum_tuple (show s1.heap.IsTuple a its.toArray from p') fun h' he hit hsz hk => wpAny_pyIter_enum he ?_
    have I2 : Inv X pins σ H1 { s1 with heap := h' } := I1.kept (t' := s1.toks) hk
    refine ⟨s1.heap.objs.size + 1, [s1.heap.objs.size + 1, s1.heap.objs.size], _, _, H1, rfl, I2, turn_enumT a (s1.heap.objs.size + 1) s1.heap.objs.size, ⟨⟨.none, he⟩, hit, Nat.succ_ne_self _⟩, fun b hb => ?_, q⟩
    have hle : s1.heap.objs.size ≤ b := by
      have z : b = s1.heap.objs.size + 1 ∨ b = s1.heap.objs.size := by simpa using hb
      rcases z with z | z
      · rw [z]
        exact Nat.le_add_right _ _
      · rw [z]
        exact Nat.le_refl _
    exact I1.fpOk hle (I1.hok.fresh hle)
theorem walk_enumT {K : PySem.W.Frag} {a : Addr} {xs : List V} : Walk (IteT K a) xs.length (fun H => SqT K H a xs) (YPair (fun i => some (.int (i : Nat))) (fun i => xs[i]?)) := by
  refine ⟨fun i H hi h => ⟨xs, xs[i], h, List.getElem?_eq_getElem hi⟩, fun H h => ⟨xs, h, Nat.le_refl _⟩, fun i H x H' hi h y => ?_⟩
  obtain ⟨T, z, e1, e2, e3, e4⟩ := y
  exact ⟨T, _, z, e1, e2, e3, rfl, e4 xs h⟩
theorem walk_zipT {K : PySem.W.Frag} {a b : Addr} {xs ys : List V} {n : Nat} (hn : n = min xs.length ys.length) : Walk (RZ.ItzT K a b) n (fun H => SqT K H a xs ∧ SqT K H b ys) (YPair (fun i => xs[i]?) (fun i => ys[i]?)) := by
  subst hn
  refine ⟨fun i H hi h => ⟨xs, ys, _, _, h.1, h.2, List.getElem?_eq_getElem (by omega), List.getElem?_eq_getElem (by omega)⟩, fun H h => ⟨xs, ys, h.1, h.2, by omega⟩, fun i H x H' hi h y => ?_⟩
  obtain ⟨T, z, z2, e1, e2, e3, e4, e5⟩ := y
  exact ⟨T, z, z2, e1, e2, e3, e4 xs h.1, e5 ys h.2⟩
end K88
set_option maxHeartbeats 1000000
/-! Rules that the hand layer lacks: max and index of a tuple of ints, t * n with n = 1, repr of data. -/
namespace K88
open PySem PySem.Spec PyProof.Rows L2
section
variable {X : Cx}
/-! ### max of a tuple of ints -/
theorem maxOf_spec : ∀ (xs : List Int) (x : Int), PySem.W.maxOf x xs ∈ x :: xs ∧ ∀ y ∈ x :: xs, y ≤ PySem.W.maxOf x xs
  | [], x => by
    refine ⟨List.mem_cons_self .., fun y hy => ?_⟩
    rw [List.mem_singleton] at hy
    subst hy
    exact Int.le_refl _
  | z :: xs, x => by
    have e : PySem.W.maxOf x (z :: xs) = PySem.W.maxOf (if decide (x < z) = true then z else x) xs := rfl
    rw [e]
    obtain ⟨h1, h2⟩ := maxOf_spec xs (if decide (x < z) = true then z else x)
    by_cases c : x < z
    · rw [if_pos (decide_eq_true c)] at h1 h2 ⊢
      refine ⟨List.mem_cons_of_mem _ h1, fun y hy => ?_⟩
      rcases List.mem_cons.mp hy with q | q
      · subst q
        exact Int.le_trans (Int.le_of_lt c) (h2 z (List.mem_cons_self ..))
      · exact h2 y q
    · have n : ¬ decide (x < z) = true := by simpa using c
      rw [if_neg n] at h1 h2 ⊢
      refine ⟨?_, fun y hy => ?_⟩
      · rcases List.mem_cons.mp h1 with q | q
        · rw [q]
          exact List.mem_cons_self ..
        · exact List.mem_cons_of_mem _ (List.mem_cons_of_mem _ q)
      · rcases List.mem_cons.mp hy with q | q
        · subst q
          exact h2 y (List.mem_cons_self ..)
        · rcases List.mem_cons.mp q with q | q
          · subst q
            exact Int.le_trans (Int.not_lt.mp c) (h2 x (List.mem_cons_self ..))
          · exact h2 y (List.mem_cons_of_mem _ q)
def rMaxT (K : PySem.W.Frag) : List V → Hp → VK → Prop := fun vs H Q => ∃ (a : Addr) (ns : List Int), vs = [V.ref a] ∧ SqT K H a (ns.map V.int) ∧ 0 < ns.length ∧ ∀ m, m ∈ ns → (∀ y, y ∈ ns → y ≤ m) → Q (.int m) H
theorem cr_maxT (hc : X.calm = true) (hu : X.A.units + 64 < cLine) : CallR X (.builtin "max") (rMaxT X.K) := by
  intro pins s σ H vs us Q I r h
  obtain ⟨a, ns, rfl, hs, hne, q⟩ := h
  obtain ⟨its, rv, hl, _⟩ := I.tuple hs
  rw [Vals.ref1 r]
  cases ns with
  | nil => exact absurd hne (by simp)
  | cons n ns =>
    have hi := rv.ints
    refine PySem.W.max_tuple_datum (α := Int) (x := n) (xs := ns) (I.ok.hd hc) (show s.heap.IsTuple a its.toArray from hl) (by exact PySem.W.HoldAll.of_ints hi) (by show X.A.units + 1 + 0 < cLine; omega) fun i v h' tk hv hh hk => ?_
    obtain ⟨as, rd⟩ := hh
    have rd' : Reads h' v (.int (PySem.W.maxOf n ns)) as := rd
    obtain ⟨h1, h2⟩ := maxOf_spec ns n
    cases rd' with
    | int i t => exact ⟨.int _, H, I.kept hk, ⟨_, rfl⟩, q _ h1 h2⟩
/-! ### t.index(n) of a tuple of ints: the first place -/
theorem flat_ints (ys : List Int) : (ys.map V.int).all flatV = true := by
  rw [List.all_map]
  exact List.all_eq_true.mpr fun _ _ => rfl
theorem mt_tup_indexI : MtR X "tuple.index" (fun x xs H Q => ∃ p, ∃ ys : List Int, ∃ z j, x = .ref p ∧ xs = [.int z] ∧ SqT X.K H p (ys.map V.int) ∧ ys[j]? = some z ∧ (∀ m, m < j → ys[m]? ≠ some z) ∧ Q (.int (j : Nat)) H) := by
  intro pins s σ H x xs v us Q I rx rs h
  obtain ⟨p, ys, z, j, rfl, rfl, hq, hy, hno, q⟩ := h
  cases rx
  obtain ⟨u, rfl, t, rfl⟩ := vals1 rs
  obtain ⟨its, r, pl, hz⟩ := I.tuple hq
  obtain ⟨⟨cls, dd, dt, sl⟩, ho, hc, n, hd⟩ := pl
  simp only at hc hd
  subst hc
  subst hd
  have hl : its.toArray.size = ys.length := by rw [List.size_toArray, ← r.length, List.length_map]
  have hj : j < its.toArray.size := by rw [hl]; exact (List.getElem?_eq_some_iff.mp hy).1
  have place : ∀ (m : Nat) (hm : m < its.toArray.size), ∃ y t', ys[m]? = some y ∧ its.toArray[m] = Value.int y t' := fun m hm => by
    have hm' : m < ys.length := by rw [← hl]; exact hm
    obtain ⟨w, hw, t', hw'⟩ := r.get (i := m) (x := .int ys[m]) (by simp [hm'])
    refine ⟨ys[m], t', List.getElem?_eq_getElem hm', ?_⟩
    have e := (List.getElem?_eq_some_iff.mp hw).2
    rw [← hw', ← e]
    simp
  refine call_meets PySem.F.slot_tuple_index ⟨_, ho, rfl⟩ PySem.F.entry_tuple_index (PySem.F.args_tuple_index_2 _ _) (TI.tuple_indexAt p its.toArray n dd sl (.int z t) (eqU (.int z)) j hj ?_ ?_)
    ⟨ho, fun w hw => mem_eqAt (x := .int z) ⟨t, rfl⟩ rfl r (flat_ints ys) w (by simpa using hw), ⟨.int (j : Nat), H, I.tok _, ⟨_, rfl⟩, q⟩⟩
  · obtain ⟨y, t', h1, h2⟩ := place j hj
    rw [hy] at h1
    cases h1
    rw [h2]
    show (z == z) = true
    exact beq_self_eq_true z
  · intro m hm hmj
    obtain ⟨y, t', h1, h2⟩ := place m hm
    rw [h2]
    show (y == z) = false
    exact beq_eq_false_iff_ne.mpr fun e => hno m hmj (by rw [h1, e])
/-! ### t * 1 is t itself -/
open PySem.AutoSeq1 (wpAny_loadPart')
theorem tuple_mul_one (l : Addr) (items : Array Value) (n : Nat) (sl : Array (Option Value)) (dd : Option Addr) (u : Tok) :
    Meets (Builtin.«tuple.__mul__» ⟨[.ref l, .int 1 u], []⟩) (fun _ R s => s.heap.get? l = some { cls := .type "tuple", dict := dd, data := .seq items n, slots := sl } ∧ R (.ok (.ret (Value.ref l))) s) :=
  .of_wp fun prog w A R s h => by
    obtain ⟨hp, g, d, tk, os⟩ := s
    obtain ⟨hl, h⟩ := h
    have f1 := AutoSeq1.idx_int
    wp_walk using wpAny_loadPart' hl
    have c1 : (items.isEmpty || (1 : Int) == 1) = true := by rw [beq_self_eq_true, Bool.or_true]
    repeat (first
      | (refine wpAny_ite_true (decide_eq_true c1) ?_; wp_walk using wpAny_loadPart' hl)
      | (refine wpAny_ite_true c1 ?_; wp_walk using wpAny_loadPart' hl))
    exact ⟨_, rfl, h⟩
/-- t * n, n at least 1 -/
def rRep1 (K : PySem.W.Frag) : R2 := fun x y H Q => ∃ l k xs, x = .ref l ∧ y = .int k ∧ SqT K H l xs ∧ xs ≠ [] ∧ 1 ≤ k ∧ k ≤ 1000 ∧ xs.length ≤ 1000 ∧
  (k = 1 → Q (.ref l) H) ∧ (2 ≤ k → ∀ p, H p = none → Q (.ref p) (upd H p (.tup (List.replicate k.toNat xs).flatten)))
theorem op_rep1 : OpR X (binaryOp .Mult) (rRep1 X.K) := by
  intro pins s σ H x y v u Q I rx ry h
  obtain ⟨l, k, xs, rfl, rfl, hT, hne, h1, h2, hz, q1, q2⟩ := h
  by_cases c : k = 1
  · subst c
    cases rx
    obtain ⟨t, rfl⟩ := ry
    obtain ⟨its, r, ⟨⟨cls, dd, data, sl⟩, ho, hc, n, hd⟩, hs⟩ := I.tuple hT
    simp only at hc hd
    subst hc
    subst hd
    refine wpAny_binaryOp_repeat_ref (T := "tuple") (U := "int") (by decide) ⟨_, ho, rfl⟩ (fun s' => typeIs_int s' 1 t) noFill_tuple_mul F.fills_int_mul F.slot_int_rmul repeat_tuple F.slot_int_index.lookup
      (call_meets F.slot_int_rmul (typeIs_int s 1 t) F.entry_int_rmul (F.args_int_rmul_2 _ _) (int_rmul_tuple 1 t l its.toArray n dd sl)
        ⟨ho, rfl, ⟨_, ho, rfl⟩, call_meets F.slot_tuple_mul ⟨_, ho, rfl⟩ F.entry_tuple_mul (F.args_tuple_mul_2 _ _) (tuple_mul_one l its.toArray n sl dd t) ⟨ho, ?_⟩⟩)
    exact ⟨.ref l, H, I, rfl, q1 rfl⟩
  · exact op_repT pins s σ H _ _ v u Q I rx ry ⟨l, k, xs, rfl, rfl, hT, hne, by omega, h2, hz, q2 (by omega)⟩
/-! ### repr of a list or a tuple of data -/
mutual
theorem noDict_dp {K : PySem.W.Frag} {H : Hp} : ∀ (d : PyData) (v : V), Dp K H v d → d.hasDict = false
  | .none, _, _ => by simp only [PyData.hasDict]
  | .bool _, _, _ => by simp only [PyData.hasDict]
  | .int _, _, _ => by simp only [PyData.hasDict]
  | .str _, _, _ => by simp only [PyData.hasDict]
  | .list ds, _, h => by
    cases h with
    | lst _ ha =>
      simp only [PyData.hasDict]
      exact noDict_dpAll ds _ ha
  | .tuple ds, _, h => by
    cases h with
    | tup _ ha =>
      simp only [PyData.hasDict]
      exact noDict_dpAll ds _ ha
  | .dict _, _, h => by cases h
theorem noDict_dpAll {K : PySem.W.Frag} {H : Hp} : ∀ (ds : List PyData) (vs : List V), DpAll K H vs ds → PyData.hasDictAll ds = false
  | [], _, _ => by simp only [PyData.hasDictAll]
  | d :: ds, _, h => by
    cases h with
    | cons h1 h2 => simp only [PyData.hasDictAll, noDict_dp d _ h1, noDict_dpAll ds _ h2, Bool.or_self]
end
def rReprD (K : PySem.W.Frag) : List V → Hp → VK → Prop := fun xs H Q => ∃ (a : Addr) (d : PyData), xs = [.ref a] ∧ Dp K H (.ref a) d ∧ d.showable = true ∧ d.depth ≤ 60 ∧ d.shown.length ≤ sizeLine ∧ Q (.str d.shown) H
theorem call_reprD (hg : X.A.guards = some []) (hu : X.A.units + 64 < cLine) : CallR X (.builtin "repr") (rReprD X.K) := by
  intro pins s σ H xs us Q I rs h
  obtain ⟨a, d, rfl, hd, hs, hdep, hsz, q⟩ := h
  rw [Vals.ref1 rs]
  obtain ⟨as, r⟩ := Dp.reads I d (.ref a) (.ref a) hd rfl
  refine repr_of_reads' r hs (PyData.noDict_hsm (noDict_dp d _ hd)) hg (by omega) (fun _ _ e => e) (fun h' u tk hk => ?_) hsz
  exact ⟨.str d.shown, H, I.kept hk, ⟨_, rfl⟩, q⟩
end
end K88
set_option maxHeartbeats 1000000
/-! A dict whose keys are pairs (a number, a tuple of numbers): made, asked, written. -/
namespace K88
open PySem PySem.Spec PyProof.Rows L2
abbrev MKey := Nat × List Nat
/-- numbers as values, as keys -/
def nats (l : List Nat) : List V := l.map fun (n : Nat) => V.int (n : Int)
def natk (l : List Nat) : List NestedKey := l.map fun (n : Nat) => NestedKey.num (n : Int)
/-- the key (place, loads) -/
def nk (k : MKey) : NestedKey := .tup [.num (k.1 : Int), .tup (natk k.2)]
theorem nums_inj : ∀ {a b : List Nat}, natk a = natk b → a = b
  | [], [], _ => rfl
  | x :: a, y :: b, h => by
    unfold natk at h
    rw [List.map_cons, List.map_cons] at h
    injection h with h1 h2
    injection h1 with h1
    rw [nums_inj h2, Int.ofNat.inj h1]
  | [], y :: b, h => by
    unfold natk at h
    rw [List.map_cons] at h
    exact nomatch h
  | x :: a, [], h => by
    unfold natk at h
    rw [List.map_cons] at h
    exact nomatch h
theorem nk_inj {a b : MKey} (h : nk a = nk b) : a = b := by
  obtain ⟨a1, a2⟩ := a
  obtain ⟨b1, b2⟩ := b
  unfold nk at h
  simp only [NestedKey.tup.injEq, List.cons.injEq, NestedKey.num.injEq, and_true] at h
  have e1 : a1 = b1 := Int.ofNat.inj h.1
  rw [e1, nums_inj h.2]
theorem depth_nums : ∀ a : List Nat, NestedKey.depthAll (natk a) = 0
  | [] => by simp [natk, NestedKey.depthAll]
  | x :: a => by
    have h := depth_nums a
    unfold natk at h ⊢
    rw [List.map_cons]
    simp only [NestedKey.depthAll, NestedKey.depth, h]
    rfl
theorem nk_depth (k : MKey) : (nk k).depth ≤ 8 := by
  unfold nk
  simp only [NestedKey.depth, NestedKey.depthAll, depth_nums]
  decide
abbrev MEnt := NestedKey × Addr × Value
/-- the dict at d with the entries xs (where the keys' own tuples stand is told apart) -/
def memoO (P : Program) (w : World) (d : Addr) (xs : List MEnt) : HO := .ext fun h => (d == sysModules) = false ∧ ∃ o es ep, h.get? d = some o ∧ o.ExactDict ∧ o.data = .dict es ep ∧ es.toList = xs.map (entryOfKey (nestedKind P w)) ∧ (xs.map (·.1)).Nodup
theorem memoO_ok {P : Program} {w : World} {H : Hp} {h : Heap} {d : Addr} {xs : List MEnt} (hd : (d == sysModules) = false) {o : Obj} {es : Array DictEntry} {ep : Nat} (h1 : h.get? d = some o) (h2 : o.ExactDict) (h3 : o.data = .dict es ep)
    (h4 : es.toList = xs.map (entryOfKey (nestedKind P w))) (h5 : (xs.map (·.1)).Nodup) : ObjOk P w H h d (memoO P w d xs) :=
  ⟨⟨hd, o, es, ep, h1, h2, h3, h4, h5⟩, ⟨o, h1⟩, fun a b ⟨q0, o, es, ep, q1, q2, q3, q4, q5⟩ st => ⟨q0, o, es, ep, st _ q1, q2, q3, q4, q5⟩⟩
/-- the tuple at b is the key k -/
def KeyAt (K : PySem.W.Frag) (H : Hp) (b : Addr) (k : MKey) : Prop := ∃ sa, SqT K H b [.int (k.1 : Int), .ref sa] ∧ SqT K H sa (nats k.2)
def KeysAt (K : PySem.W.Frag) (H : Hp) (xs : List MEnt) : Prop := ∀ x ∈ xs, ∃ k, x.1 = nk k ∧ KeyAt K H x.2.1 k
theorem nested_nums {h : Heap} : ∀ {a : List Nat} {us : List Value}, Vals (nats a) us → NestedAll h (natk a) us
  | [], _, r => by cases r; exact .nil
  | n :: a, _, r => by
    cases r with
    | cons r1 r2 =>
      obtain ⟨t, rfl⟩ := (show ∃ t, _ = Value.int (n : Int) t from r1)
      exact .cons (.int _ t) (nested_nums r2)
section
variable {X : Cx} {pins : List (Addr × Obj)} {σ : L2.St} {H : Hp} {s : Shared}
theorem KeyAt.is {b : Addr} {k : MKey} (I : Inv X pins σ H s) (x : KeyAt X.K H b k) : (nestedKind X.prog X.w).is s.heap (nk k) b := by
  obtain ⟨sa, h1, h2⟩ := x
  obtain ⟨i1, r1, ⟨o1, g1, c1, n1, d1⟩, _⟩ := I.tuple h1
  obtain ⟨i2, r2, ⟨o2, g2, c2, n2, d2⟩, _⟩ := I.tuple h2
  refine ⟨.tup g1 c1 d1 ?_, nk_depth k⟩
  cases r1 with
  | cons a1 r1 =>
    cases r1 with
    | cons a2 r1 =>
      cases r1
      obtain ⟨t, rfl⟩ := (show ∃ t, _ = Value.int (k.1 : Int) t from a1)
      cases (show _ = Value.ref sa from a2)
      exact .cons (.int _ t) (.cons (.tup g2 c2 d2 (nested_nums r2)) .nil)
theorem memo_at {d : Addr} {xs : List MEnt} (I : Inv X pins σ H s) (e : H d = some (memoO X.prog X.w d xs)) (hk : KeysAt X.K H xs) : (d == sysModules) = false ∧ s.heap.DictOfH (nestedKind X.prog X.w) d xs := by
  obtain ⟨⟨h0, o, es, ep, h1, h2, h3, h4, h5⟩, _, _⟩ := I.hok d _ e
  refine ⟨h0, o, es, ep, h1, h2, h3, h4, fun x hx => ?_, h5⟩
  obtain ⟨k, e1, e2⟩ := hk x hx
  rw [e1]
  exact e2.is I
theorem atKey_isSome (xs : List MEnt) (k : NestedKey) : (atKey xs k).isSome = decide (k ∈ xs.map (·.1)) := by
  unfold atKey
  rw [Option.isSome_map, Bool.eq_iff_iff, List.find?_isSome]
  simp only [decide_eq_true_eq, List.mem_map]
end
/-- k in d -/
def rInN (P : Program) (w : World) (K : PySem.W.Frag) : R2 := fun x y H Q => ∃ b d xs k, x = .ref b ∧ y = .ref d ∧ H d = some (memoO P w d xs) ∧ KeysAt K H xs ∧ KeyAt K H b k ∧ Q (.bl (decide (nk k ∈ xs.map (·.1)))) H
section
variable {X : Cx} {o i value : Expr} {pos pos' : Pos} {td ty tv : TE}
theorem op_inN (hu : X.A.units + 64 < cLine) : OpR X (compareOp .In) (rInN X.prog X.w X.K) := by
  intro pins s σ H x y v u Q I rx ry h
  obtain ⟨b, d, xs, k, rfl, rfl, e, hk, kb, q⟩ := h
  cases rx
  cases ry
  obtain ⟨hd, dd⟩ := memo_at I e hk
  refine wpAny_in_heap (knd := nestedKind X.prog X.w) (show X.A.in1.units + 8 < cLine by show X.A.units + 1 + 8 < cLine; omega) (kb.is I) hd dd ?_
  rw [atKey_isSome]
  exact ⟨.bl _, H, I.tok _, rfl, q⟩
/-- {} that will be such a dict -/
theorem pe_dnewN : PE X (.Dict [] [] pos) (fun _ H Q => ∀ p, H p = none → Q (.ref p) (upd H p (memoO X.prog X.w p []))) := ⟨fun pins s σ H Q I h => by
  have hb := I.big
  refine wpAny_Dict_empty ⟨.ref s.heap.objs.size, _, I.laid (a := s.heap.objs.size) (o := memoO X.prog X.w s.heap.objs.size []) (t' := s.toks) (fun _ _ q => Heap.get?_push_of_some _ q) (Nat.le_refl _) ?_, rfl, h _ (I.hok.fresh (Nat.le_refl _))⟩
  exact memoO_ok (beq_eq_false_iff_ne.mpr (Ne.symm (Nat.ne_of_lt hb))) (es := #[]) (ep := 0) (Heap.get?_push_size _ rfl) ⟨rfl, rfl, rfl⟩ rfl rfl List.nodup_nil⟩
/-- the entries behind d[k] = v -/
def MPut (xs : List MEnt) (k : MKey) (b : Addr) (xs' : List MEnt) : Prop := xs'.length ≤ xs.length + 1 ∧ ∀ z ∈ xs', (∃ z0 ∈ xs, z.1 = z0.1 ∧ z.2.1 = z0.2.1) ∨ (z.1 = nk k ∧ z.2.1 = b)
theorem mput_stored (xs : List MEnt) (k : MKey) (b : Addr) (v : Value) : MPut xs k b (storedH xs (nk k) b v) := by
  unfold storedH
  by_cases c : (atKey xs (nk k)).isSome = true
  · rw [if_pos c]
    refine ⟨by rw [List.length_map]; omega, fun z hz => ?_⟩
    obtain ⟨z0, h0, rfl⟩ := List.mem_map.mp hz
    refine .inl ⟨z0, h0, ?_⟩
    unfold putAt
    split <;> exact ⟨rfl, rfl⟩
  · rw [if_neg c]
    refine ⟨by rw [List.length_append, List.length_singleton]; omega, fun z hz => ?_⟩
    rcases List.mem_append.mp hz with h | h
    · exact .inl ⟨z, h, rfl, rfl⟩
    · rw [List.mem_singleton] at h
      subst h
      exact .inr ⟨rfl, rfl⟩
def sPutN (P : Program) (w : World) (K : PySem.W.Frag) (td ty tv : TE) : TS := fun D σ H => tv σ H fun v H1 => td σ H1 fun x H2 => ty σ H2 fun y H3 => ∃ d b xs k, x = .ref d ∧ y = .ref b ∧ H3 d = some (memoO P w d xs) ∧ KeysAt K H3 xs ∧ KeyAt K H3 b k ∧ xs.length < sizeLine ∧
  ∀ xs', MPut xs k b xs' → D.nx σ (upd H3 d (memoO P w d xs'))
theorem ps_putN (hu : X.A.units + 64 < cLine) (ho : PE X o td) (hi : PE X i ty) (hv : PE X value tv) (hs : swapsWith value (some (.Subscript o i pos')) pos.line X.env = pure false) :
    PS X (.Assign [.Subscript o i pos'] value pos) (sPutN X.prog X.w X.K td ty tv) := by
  refine ⟨fun pins s σ H D I h => ?_⟩
  refine wpAny_Assign_Subscript (thn (hv.run pins s σ H _ I h) fun r s1 ⟨v, H1, I1, rv, q1⟩ => thn (ho.run pins s1 σ H1 _ I1 q1) fun u s2 ⟨x, H2, I2, rx, q2⟩ => thn (hi.run pins s2 σ H2 _ I2 q2) fun iv s3 ⟨y, H3, I3, ry, d, b, xs, k, ex, ey, e, hk, kb, hl, q3⟩ => ?_) hs
  subst ex
  subst ey
  obtain rfl : u = Value.ref d := rx
  obtain rfl : iv = Value.ref b := ry
  obtain ⟨hd, dd⟩ := memo_at I3 e hk
  refine wpAny_setItem_heap (hsz := Nat.le_of_lt hl) (knd := nestedKind X.prog X.w) (show X.A.in1.units + 8 < cLine by show X.A.units + 1 + 8 < cLine; omega) (kb.is I3) dd fun h' dd' hs' => ?_
  obtain ⟨ob, es, ep, g1, g2, g3, g4, _, g5⟩ := dd'
  exact ⟨σ, _, I3.write (x := d) (e := d) (by rw [e]; exact True.intro) (.inl rfl) (fun c q hc z => (hs'.2 c hc).trans z) ⟨ob, g1⟩ (memoO_ok hd g1 g2 g3 g4 g5), q3 _ (mput_stored xs k b r)⟩
end
end K88
/-! The text by places. -/
namespace K88
open PySem L2
def top (i : Nat) : Stmt := PySem.Challenge.pw_termseats_k88_whole_phases.main.body.getD i (.Pass ⟨0, 0, 0, 0⟩)
abbrev sBadHouse : Stmt := inClass (top 2) 0
abbrev sBadPhases : Stmt := inClass (top 9) 0
abbrev sWhole : Stmt := top 24
abbrev sWay : Stmt := top 25
abbrev sSeat : Stmt := top 26
abbrev sCommon : Stmt := top 27
abbrev sRoundOf : Stmt := top 28
abbrev sNeedBodies : Stmt := top 29
abbrev sNeedHouse : Stmt := top 30
abbrev sComesUp : Stmt := top 32
abbrev sPhasesOf : Stmt := top 34
abbrev sArePhases : Stmt := top 35
abbrev sWithPhases : Stmt := top 36
abbrev sLoadsOf : Stmt := top 37
abbrev sLoads : Stmt := top 38
abbrev sBusiest : Stmt := top 39
abbrev sLoaded : Stmt := top 40
abbrev sSpreadInit : Stmt := inClass (top 41) 0
abbrev sGoneOn : Stmt := inClass (top 41) 1
abbrev sSpread : Stmt := top 42
abbrev sMixed : Stmt := top 44
abbrev sFolded : Stmt := top 45
abbrev sDraw : Stmt := top 46
abbrev sBegun : Stmt := top 47
abbrev sLike : Stmt := top 48
abbrev sOf : Stmt := top 49
abbrev sLWay : Stmt := top 50
abbrev sLSeat : Stmt := top 51
abbrev sLHouse : Stmt := top 52
abbrev sIsDue : Stmt := top 53
abbrev sSaid : Stmt := top 54
abbrev sRound : Stmt := top 55
abbrev sLLoads : Stmt := top 56
abbrev sAllPhases : Stmt := top 57
abbrev sParted : Stmt := top 58
abbrev sSpreadRight : Stmt := top 59
abbrev sLaw : Stmt := top 60
end K88
set_option maxHeartbeats 2000000
/-! The program's own errors: a class over SeatError over ValueError whose __init__ says super().__init__(a text) and keeps one value. -/
namespace K88X
open PySem PySem.W PySem.Calls PyProof.Rows PySem.HandSPX
/-! ### what the written part says of such a class nm at C, its __init__ at fI -/
structure ExTxt (P : Program) (K : Frag) (mg : Str → Option Value) (nm qual fld : Str) (st : Stmt) (C fI : Addr) : Prop where
  gC : mg nm = some (.ref C)
  gS : mg "super" = none
  cls : ∃ nm q N bs bm sn sub ab col dd k0 k1 k2 k3 k5, K.lookup C = some (excClassObj nm q C N bs bm true sn sub ab col dd k0 k1 k2 k3 k5 "ValueError.__new__") ∧ refsVE bm = true
  sa : findIn K (.ref C) "__setattr__" = some (some (.builtin "object.__setattr__"))
  ga : findIn K (.ref C) "__getattribute__" = some (some (.builtin "BaseException.__getattribute__"))
  gg : findIn K (.ref C) "__getattr__" = some none
  noN : findIn K (.ref C) fld = some none
  iC : findIn K (.ref C) "__init__" = some (some (.ref fI))
  tC : typeIn K (.ref fI) = some (.type "function")
  kC : keepIn K (.ref C) = true
  exC : subIn K (.ref C) (.type "BaseException") = some true
  tyC : typeIn K (.ref C) = some (.type "type")
  hdC : hasDictIn K C = true
  opq : nsIn K cStatics "thirdparty.any" = some none
  sup : ks_superIn K C C "__init__" = some (some (.builtin "ValueError.__init__"))
  subV : subIn K (.ref C) (.type "ValueError") = some true
  mroC : mroIn K C (.ref C) = some true
  top : (P.main.scope.names.lookup ("super" : Str)).isSome = false
  fn : ∃ (oc : Value) (od : Option Addr) (doc pm : Value) (an : Option Addr) (cda cc : Addr) (ct : Value) (osl : Array (Option Value)),
    K.lookup fI = some ⟨oc, od, .func (ksFn "__init__" qual (L2.defArgs st) (L2.defBody st) (L2.defScope st) .none .none doc pm an (.ref cda) ct cc), osl⟩ ∧ codeIn K (.ref cda) qual = true ∧
    (∃ ccl cdd vs ccs file tf, K.lookup cda = some ⟨ccl, cdd, .fields vs, ccs⟩ ∧ vs[2]? = some (.str file tf) ∧ ((P.main.file : Str) == file) = true) ∧ ∃ cl cld csl, K.lookup cc = some ⟨cl, cld, .cell (some (.ref C)), csl⟩
theorem one_ok (v : Value) : [v].length ≤ sizeLine := by
  rw [sizeLine_eq]
  exact (by decide : 1 ≤ 16777216)
/-- what __init__ leaves of a fresh error at x -/
structure Made1 (h h' : Heap) (x C dx t1 : Addr) (fld : Str) (v : Value) : Prop where
  keep : ∀ b o, b ≠ x → h.get? b = some o → h'.get? b = some o
  obj : h'.get? x = some { cls := .ref C, dict := some dx, data := .fields #[.ref t1, .none, .none, .none, .bool false, .none] }
  dbig : h.objs.size ≤ dx
  dne : dx ≠ x
  ns : h'.Ns1 dx (fun y => if y = fld then some v else none)
section
variable {prog : Program} {w : World} {A : Around} {E : Value → Shared → Prop} {R : Result → Shared → Prop} {s : Shared} {K : Frag} {mg mb : Str → Option Value} {nm qual fld : Str} {C fI : Addr}
/-- the bound built-in __init__ called: the args are laid anew -/
theorem call_mw {h : Heap} {g : Array GenState} {d : Drawn} {t : Nat} {os : OsState} {cnm q : Str} {N u x t0 : Addr} {bs bm : List Value} {hdct : Bool} {sn : List Str} {sub : List Value} {ab : Bool} {col : Option Bool} {dd : Option Addr} {k0 k1 k2 k3 k5 : Option Value}
    {rest : List Value} {Q : Value → Shared → Prop} (hC : h.get? C = some (excClassObj cnm q C N bs bm hdct sn sub ab col dd k0 k1 k2 k3 k5 "ValueError.__new__")) (he : h.get? x = some (excO C t0)) (hu : h.get? u = some (kxs_mw "ValueError.__init__" x)) (hz : rest.length ≤ sizeLine)
    (hq : ∀ h' t1, (∀ b o, b ≠ x → h.get? b = some o → h'.get? b = some o) → h'.get? x = some (excO C t1) → Q .none ⟨h', g, d, t, os⟩) : wpAny (model prog w) A (call (.ref u) rest) Q E ⟨h, g, d, t, os⟩ := by
  refine wpAny_call (codeAny_of_tree ?_)
  show wpAny _ A.in1 (callAny (.ref u) ⟨rest, []⟩) _ _ _
  simp only [callAny]
  refine wpAny_bind (wpAny_load hu ?_)
  simp only [kxs_mw, show (Value.type "method-wrapper" == Value.type "method" || Value.type "method-wrapper" == Value.type "builtin_function_or_method" || Value.type "method-wrapper" == Value.type "method-wrapper") = true by decide, if_true]
  refine KFB.if_so (by decide) ?_
  refine wpAny_bind (check_bound_init PySem.F.excBase_ValueError.toExcCallFacts hC he rfl ?_)
  refine wpAny_bind (wpAny_pure (wpAny_pure ?_))
  refine ⟨plainId_quiet PySem.F.excBase_ValueError.init.plain _, codeAny_builtin PySem.F.excBase_ValueError.initEntry ?_⟩
  exact exc_init_tree (cls := .ref C) (t0 := t0) (dv := none) (c2 := .none) (c3 := .none) (b4 := .bool false) he hz fun h' k e1 e2 => hq h' _ k e1
theorem callWith_mw {M : Model} {i : String} {x u : Addr} {pos : Pos} {env : Env} {e : Expr} {vs : Value → List Value} {Q : Value → Shared → Prop} (h : wpAny M A (eval e env) (fun v s1 => KxsAt i u x s1.heap ∧ wpAny M A (call (.ref u) [v]) Q E s1) E s)
    (he : starEach [e] env = [(false, eval e env)] := by rfl) : wpAny M A (callWith pos (.ref u) [] (backTo pos (starEach [e] env)) []) Q E s := by
  rw [he]
  refine kxs_callWith (i := i) (x := x) (by rfl) (evalArgs_plain ?_)
  show wpAny M A (spliced [(false, eval e env)]) _ E s
  exact Calls.spliced_cons (wpAny_mono h (fun v s1 h1 => Calls.spliced_nil h1) fun _ _ z => z)
theorem bad_init_place (T : ExTxt prog K mg nm qual "place" K88.sBadHouse C fI) {x t0 : Addr} {v : Value} (X : K.In s.heap) (hG : s.heap.Ns mainGlobals mg) (hB : s.heap.Ns builtinsNs mb) (hbb : ∀ x : Str, x ≠ "__name__" → mb x = bootBuiltins x) (hlim : s.heap.NoLimit)
    (hx : s.heap.get? x = some (excO C t0)) (hnx : K.lookup x = none) (hroom : A.depth < recursionLimit)
    (hq : ∀ h' tk dx t1, Made1 s.heap h' x C dx t1 "place" v → R (.ok (.ret .none)) { s with heap := h', toks := tk }) :
    codeAny (model prog w) A (.call (.ref fI) ⟨[.ref x, v], []⟩) R s := by
  obtain ⟨hp, g, d, tk, os⟩ := s
  obtain ⟨oc, od, doc, pm, an, cda, cc, ct, osl, ho, hcd, ⟨ccl, cdd, vs, ccs, file, tf, hcode, hvs, hfile⟩, cl, cld, csl, hcell⟩ := T.fn
  obtain ⟨cnm, q, N, bs, bm, sn, sub, ab, col, dd, k0, k1, k2, k3, k5, hC, hbm⟩ := T.cls
  have hcl : clsIn K C = some { name := cnm, bases := bs, mro := .ref C :: bm, ns := N, qualname := q, hasDict := true, slotNames := sn, subclasses := sub, abstract := ab, collection := col, hasDel := false } := by unfold clsIn; rw [hC] <;> rfl
  have hT : ∀ X : String, bm.contains (.type X) = veTail.contains (.type X) := fun X => refsVE_contains X bm hbm
  have ne : refsVE (.ref C :: bm) = true := hbm
  refine ks_codeAny_call_defAt (binds := [("self", .ref x), ("place", v)]) hroom (X _ _ ho) rfl hlim (codeRec_of X hcd) rfl (BindsTo.of_eq (by rfl)) ?_ ?_ (fun h1 hn k => ?_)
  · intro y hy
    have hy' : y ∈ ([("self", .local), ("place", .local), ("__class__", .free), ("super", .globalImplicit)] : List (Str × NameKind)) := hy
    simp only [List.mem_cons, List.not_mem_nil, or_false] at hy'
    rcases hy' with rfl | rfl | rfl | rfl <;> exact fun z => nomatch z
  · intro y hy
    simp only [List.mem_cons, List.not_mem_nil, or_false] at hy
    rcases hy with rfl | rfl <;> rfl
  · have X1 : K.In h1 := X.keeps k
    have hG1 := hG.keeps k
    have hB1 := hB.keeps k
    have hx1 : h1.get? x = some (excO C t0) := k _ _ hx
    have hC1 := X1 _ _ hC
    have xC : x ≠ C := fun z => by
      rw [z] at hnx
      have hnx' : K.lookup C = none := hnx
      rw [hC] at hnx'
      cases hnx'
    have hL : hp.objs.size ≠ x := Nat.ne_of_gt (Heap.lt_size hx)
    refine ks_wpAt_execs_cons (ks_wpAt_Expr_any (ks_wpAt_MethodCall ?_))
    refine ks_wpAt_super_base (of := _) (fd := ksFn "__init__" qual (L2.defArgs K88.sBadHouse) (L2.defBody K88.sBadHouse) (L2.defScope K88.sBadHouse) .none .none doc pm an (.ref cda) ct cc) rfl rfl (by decide +kernel) rfl (X1 _ _ ho) rfl rfl rfl (X1 _ _ hcode) rfl hvs hfile T.top ?_
    refine ks_loadName_global rfl rfl (loadGlobal_builtin hG1 T.gS hB1 ((hbb _ (by decide +kernel)).trans (by first | rfl | kernel_rfl)) ⟨rfl, ?_⟩)
    refine wpAny_loadName_free rfl rfl rfl ⟨_, X1 _ _ hcell, rfl⟩ ?_
    refine wpAny_loadName_local rfl rfl hn (by rfl) ?_
    refine ks_wpAny_isType_cls hC1 rfl ⟨rfl, ?_⟩
    refine ks_wpAny_call_super hC1 rfl hx1 rfl (fun c z => nomatch z) (looks_mroIn X1 T.mroC) (fun h2 e2 kk2 => ?_)
    have X2 : K.In h2 := X1.keeps kk2
    have hx2 := kk2 _ _ hx1
    have hC2 := kk2 _ _ hC1
    have hsup : alongIn K "__init__" (((Value.ref C :: bm).dropWhile (· != .ref C)).drop 1) = some (some (.builtin "ValueError.__init__")) := by
      have z := T.sup
      unfold ks_superIn at z
      rw [hcl] at z
      exact z
    have J : InstAt h2 x (excO C t0) C none := ⟨hx2, rfl, rfl, trivial⟩
    refine kxs_getMethod kxs_ValueError e2 (looks_opaque X2 T.opq) (l₀ := .ref C :: bm) ((looks_clsIn X2 hcl).andThen .now) rfl X2 hsup (J.type.andThen (looks_subIn X2 T.subV)) xC (by decide +kernel) ?_
    have k3 : ∀ b o, h2.get? b = some o → (h2.push (kxs_mw "ValueError.__init__" x)).get? b = some o := fun b o e => Heap.get?_push_of_some _ e
    refine callWith_mw (i := "ValueError.__init__") (x := x) (vs := fun v => [v]) (Calls.Constant_str ⟨?_, ?_⟩)
    · exact Heap.get?_push_size _ rfl
    refine call_mw (k3 _ _ hC2) (k3 _ _ hx2) (Heap.get?_push_size _ rfl) (one_ok _) fun h4 t1 k4 hx4 => ?_
    have k14 : ∀ b o, b ≠ x → h1.get? b = some o → h4.get? b = some o := fun b o hb e => k4 b o hb (k3 b o (kk2 b o e))
    have hn4 : h4.Ns hp.objs.size fun y => ([("self", .ref x), ("place", v)] : List (Str × Value)).reverse.lookup y := by
      obtain ⟨o, es, ep, e, r⟩ := hn
      exact ⟨o, es, ep, k14 _ _ hL e, r⟩
    have X4 : K.In h4 := fun a o e => k14 a o (fun z => by
      rw [z] at e
      have hnx' : K.lookup x = none := hnx
      rw [hnx'] at e
      cases e) (X1 a o e)
    refine wpAt_of_wpAny ?_
    refine wpAny_execs_cons (plainObj_wpAny_Assign_Attribute ?_)
    refine ESX.ldL (v := v) hn4 (by rfl) (ESX.ldL (v := .ref x) hn4 (by rfl) ?_)
    refine set_plain X4 (ox := excO C t1) (od := none) ⟨hx4, rfl, rfl, trivial⟩ T.sa ?_
    refine exc_osa X4 hx4 hcl ne rfl T.noN (fun h5 tk5 dx k5 dn dne hx5 hn5 => ?_)
    have z1 : hp.objs.size < h4.objs.size := hn4.lt
    have dn' : h4.objs.size ≤ dx := dn
    exact wpAny_execs_nil (hq h5 tk5 dx t1 ⟨fun b o hb e => k5 b o hb (k14 b o hb (k b o e)), hx5, Nat.le_of_lt (Nat.lt_of_lt_of_le z1 dn'), dne, hn5⟩)
theorem bad_init_value (T : ExTxt prog K mg nm qual "value" K88.sBadPhases C fI) {x t0 : Addr} {v : Value} (X : K.In s.heap) (hG : s.heap.Ns mainGlobals mg) (hB : s.heap.Ns builtinsNs mb) (hbb : ∀ x : Str, x ≠ "__name__" → mb x = bootBuiltins x) (hlim : s.heap.NoLimit)
    (hx : s.heap.get? x = some (excO C t0)) (hnx : K.lookup x = none) (hroom : A.depth < recursionLimit)
    (hq : ∀ h' tk dx t1, Made1 s.heap h' x C dx t1 "value" v → R (.ok (.ret .none)) { s with heap := h', toks := tk }) :
    codeAny (model prog w) A (.call (.ref fI) ⟨[.ref x, v], []⟩) R s := by
  obtain ⟨hp, g, d, tk, os⟩ := s
  obtain ⟨oc, od, doc, pm, an, cda, cc, ct, osl, ho, hcd, ⟨ccl, cdd, vs, ccs, file, tf, hcode, hvs, hfile⟩, cl, cld, csl, hcell⟩ := T.fn
  obtain ⟨cnm, q, N, bs, bm, sn, sub, ab, col, dd, k0, k1, k2, k3, k5, hC, hbm⟩ := T.cls
  have hcl : clsIn K C = some { name := cnm, bases := bs, mro := .ref C :: bm, ns := N, qualname := q, hasDict := true, slotNames := sn, subclasses := sub, abstract := ab, collection := col, hasDel := false } := by unfold clsIn; rw [hC] <;> rfl
  have hT : ∀ X : String, bm.contains (.type X) = veTail.contains (.type X) := fun X => refsVE_contains X bm hbm
  have ne : refsVE (.ref C :: bm) = true := hbm
  refine ks_codeAny_call_defAt (binds := [("self", .ref x), ("value", v)]) hroom (X _ _ ho) rfl hlim (codeRec_of X hcd) rfl (BindsTo.of_eq (by rfl)) ?_ ?_ (fun h1 hn k => ?_)
  · intro y hy
    have hy' : y ∈ ([("self", .local), ("value", .local), ("__class__", .free), ("super", .globalImplicit)] : List (Str × NameKind)) := hy
    simp only [List.mem_cons, List.not_mem_nil, or_false] at hy'
    rcases hy' with rfl | rfl | rfl | rfl <;> exact fun z => nomatch z
  · intro y hy
    simp only [List.mem_cons, List.not_mem_nil, or_false] at hy
    rcases hy with rfl | rfl <;> rfl
  · have X1 : K.In h1 := X.keeps k
    have hG1 := hG.keeps k
    have hB1 := hB.keeps k
    have hx1 : h1.get? x = some (excO C t0) := k _ _ hx
    have hC1 := X1 _ _ hC
    have xC : x ≠ C := fun z => by
      rw [z] at hnx
      have hnx' : K.lookup C = none := hnx
      rw [hC] at hnx'
      cases hnx'
    have hL : hp.objs.size ≠ x := Nat.ne_of_gt (Heap.lt_size hx)
    refine ks_wpAt_execs_cons (ks_wpAt_Expr_any (ks_wpAt_MethodCall ?_))
    refine ks_wpAt_super_base (of := _) (fd := ksFn "__init__" qual (L2.defArgs K88.sBadPhases) (L2.defBody K88.sBadPhases) (L2.defScope K88.sBadPhases) .none .none doc pm an (.ref cda) ct cc) rfl rfl (by decide +kernel) rfl (X1 _ _ ho) rfl rfl rfl (X1 _ _ hcode) rfl hvs hfile T.top ?_
    refine ks_loadName_global rfl rfl (loadGlobal_builtin hG1 T.gS hB1 ((hbb _ (by decide +kernel)).trans (by first | rfl | kernel_rfl)) ⟨rfl, ?_⟩)
    refine wpAny_loadName_free rfl rfl rfl ⟨_, X1 _ _ hcell, rfl⟩ ?_
    refine wpAny_loadName_local rfl rfl hn (by rfl) ?_
    refine ks_wpAny_isType_cls hC1 rfl ⟨rfl, ?_⟩
    refine ks_wpAny_call_super hC1 rfl hx1 rfl (fun c z => nomatch z) (looks_mroIn X1 T.mroC) (fun h2 e2 kk2 => ?_)
    have X2 : K.In h2 := X1.keeps kk2
    have hx2 := kk2 _ _ hx1
    have hC2 := kk2 _ _ hC1
    have hsup : alongIn K "__init__" (((Value.ref C :: bm).dropWhile (· != .ref C)).drop 1) = some (some (.builtin "ValueError.__init__")) := by
      have z := T.sup
      unfold ks_superIn at z
      rw [hcl] at z
      exact z
    have J : InstAt h2 x (excO C t0) C none := ⟨hx2, rfl, rfl, trivial⟩
    refine kxs_getMethod kxs_ValueError e2 (looks_opaque X2 T.opq) (l₀ := .ref C :: bm) ((looks_clsIn X2 hcl).andThen .now) rfl X2 hsup (J.type.andThen (looks_subIn X2 T.subV)) xC (by decide +kernel) ?_
    have k3 : ∀ b o, h2.get? b = some o → (h2.push (kxs_mw "ValueError.__init__" x)).get? b = some o := fun b o e => Heap.get?_push_of_some _ e
    refine callWith_mw (i := "ValueError.__init__") (x := x) (vs := fun v => [v]) (Calls.Constant_str ⟨?_, ?_⟩)
    · exact Heap.get?_push_size _ rfl
    refine call_mw (k3 _ _ hC2) (k3 _ _ hx2) (Heap.get?_push_size _ rfl) (one_ok _) fun h4 t1 k4 hx4 => ?_
    have k14 : ∀ b o, b ≠ x → h1.get? b = some o → h4.get? b = some o := fun b o hb e => k4 b o hb (k3 b o (kk2 b o e))
    have hn4 : h4.Ns hp.objs.size fun y => ([("self", .ref x), ("value", v)] : List (Str × Value)).reverse.lookup y := by
      obtain ⟨o, es, ep, e, r⟩ := hn
      exact ⟨o, es, ep, k14 _ _ hL e, r⟩
    have X4 : K.In h4 := fun a o e => k14 a o (fun z => by
      rw [z] at e
      have hnx' : K.lookup x = none := hnx
      rw [hnx'] at e
      cases e) (X1 a o e)
    refine wpAt_of_wpAny ?_
    refine wpAny_execs_cons (plainObj_wpAny_Assign_Attribute ?_)
    refine ESX.ldL (v := v) hn4 (by rfl) (ESX.ldL (v := .ref x) hn4 (by rfl) ?_)
    refine set_plain X4 (ox := excO C t1) (od := none) ⟨hx4, rfl, rfl, trivial⟩ T.sa ?_
    refine exc_osa X4 hx4 hcl ne rfl T.noN (fun h5 tk5 dx k5 dn dne hx5 hn5 => ?_)
    have z1 : hp.objs.size < h4.objs.size := hn4.lt
    have dn' : h4.objs.size ≤ dx := dn
    exact wpAny_execs_nil (hq h5 tk5 dx t1 ⟨fun b o hb e => k5 b o hb (k14 b o hb (k b o e)), hx5, Nat.le_of_lt (Nat.lt_of_lt_of_le z1 dn'), dne, hn5⟩)
/-- __init__ of the class at C, as shown -/
def InitDoes (prog : Program) (w : World) (K : Frag) (mg : Str → Option Value) (fld : Str) (C fI : Addr) : Prop :=
  ∀ (A : Around) (R : Result → Shared → Prop) (s : Shared) (mb : Str → Option Value) (x t0 : Addr) (v : Value), K.In s.heap → s.heap.Ns mainGlobals mg → s.heap.Ns builtinsNs mb → (∀ x : Str, x ≠ "__name__" → mb x = bootBuiltins x) → s.heap.NoLimit →
    s.heap.get? x = some (excO C t0) → K.lookup x = none → A.depth < recursionLimit → (∀ h' tk dx t1, Made1 s.heap h' x C dx t1 fld v → R (.ok (.ret .none)) { s with heap := h', toks := tk }) → codeAny (model prog w) A (.call (.ref fI) ⟨[.ref x, v], []⟩) R s
/-- a made error -/
structure Made2 (h h' : Heap) (e C d : Addr) (fld : Str) (v : Value) : Prop where
  keep : ∀ b o, h.get? b = some o → h'.get? b = some o
  new : h.objs.size ≤ e
  obj : ∃ oe vs, h'.get? e = some oe ∧ oe.cls = .ref C ∧ oe.dict = some d ∧ oe.data = .fields vs ∧ vs[1]? = some .none
  dbig : h.objs.size ≤ d
  dne : d ≠ e
  ns : h'.Ns1 d (fun y => if y = fld then some v else none)
theorem bad_made {st : Stmt} (T : ExTxt prog K mg nm qual fld st C fI) (D : InitDoes prog w K mg fld C fI) {v : Value} (X : K.In s.heap) (hG : s.heap.Ns mainGlobals mg) (hB : s.heap.Ns builtinsNs mb) (hbb : ∀ x : Str, x ≠ "__name__" → mb x = bootBuiltins x) (hlim : s.heap.NoLimit) (hroom : A.depth + 1 < recursionLimit)
    (hq : ∀ h' tk e d, Made2 s.heap h' e C d fld v → R (.ok (.ret (.ref e))) { s with heap := h', toks := tk }) :
    codeAny (model prog w) A (.call (.ref C) ⟨[v], []⟩) R s := by
  obtain ⟨cnm, q, N, bs, bm, sn, sub, ab, col, dd, k0, k1, k2, k3, k5, hC, hbm⟩ := T.cls
  obtain ⟨hp, g, dr, tk, os⟩ := s
  have k : ∀ b o, hp.get? b = some o → ((hp.push (kdv_tup [v])).push (excO C hp.objs.size)).get? b = some o := fun b o e => Heap.get?_push_of_some _ (Heap.get?_push_of_some _ e)
  have hget : ((hp.push (kdv_tup [v])).push (excO C hp.objs.size)).get? (hp.objs.size + 1) = some (excO C hp.objs.size) := by heap_get
  have hnx : K.lookup (hp.objs.size + 1) = none := by
    cases e : K.lookup (hp.objs.size + 1) with
    | none => rfl
    | some o =>
      have z : hp.get? (hp.objs.size + 1) = some o := X _ _ e
      exact absurd (Nat.lt_of_succ_lt (Heap.lt_size z)) (Nat.lt_irrefl _)
  refine call_own F.excBase_ValueError (fun X => refsVE_contains X bm hbm) (X _ _ hC) (looks_findIn X T.iC) (fun self => bind_fn X self T.tC) (one_ok v) ?_
  refine D _ _ ⟨(hp.push (kdv_tup [v])).push (excO C hp.objs.size), g, dr, tk, os⟩ mb _ _ _ (X.keeps k) (hG.keeps k) (hB.keeps k) hbb (hlim.keeps k) hget hnx ?_ fun h' tk' dx t1 ⟨k', hx, dn, dne, hns⟩ => ?_
  · show A.depth + 1 < recursionLimit
    exact hroom
  · have old : ∀ b o, hp.get? b = some o → h'.get? b = some o := fun b o e => k' b o (Nat.ne_of_lt (Nat.lt_succ_of_lt (Heap.lt_size e))) (k b o e)
    have z : hp.objs.size + 1 + 1 ≤ dx := by
      have q := dn
      first
        | (simpa only [Heap.size_push] using q)
        | (rw [Heap.size_push, Heap.size_push] at q; exact q)
    exact ⟨rfl, hq h' tk' (hp.objs.size + 1) dx ⟨old, Nat.le_succ _, ⟨_, _, hx, rfl, rfl, rfl, rfl⟩, Nat.le_trans (Nat.le_trans (Nat.le_succ _) (Nat.le_succ _)) z, dne, hns⟩⟩
end
end K88X

namespace K88
open PySem PySem.Spec PyProof.Rows L2 K88X
theorem relO_one {fld : Str} {v : V} {v' : Value} (r : RelV v v') (f : Str) : RelO (List.lookup f [(fld, v)]) (if f = fld then some v' else none) := by
  by_cases hw : f = fld
  · subst hw
    rw [if_pos rfl]
    have q : List.lookup f [(f, v)] = some v := by simp [List.lookup]
    rw [q]
    exact r
  · rw [if_neg hw]
    have qw : (f == fld) = false := by simpa using hw
    have q2 : List.lookup f [(fld, v)] = none := by simp [List.lookup, qw]
    rw [q2]
    trivial
section
variable {X : Cx} {nm qual fld : Str} {st : Stmt} {C fI : Addr}
/-- NM(e) -/
def tMkBad (fld : Str) (C : Addr) (ta : TA) : L2.St → Hp → XK → Prop := fun σ H Q => ta σ H fun vs H1 => ∃ v, vs = [v] ∧ ∀ d, H1 d = none → Q (.ref C) (some d) (upd H1 d (.xd [(fld, v)]))
theorem pmk_bad {a : Expr} {ta : TA} {p pos : Pos} {k : Nat} (T : ExTxt X.prog X.K X.mg nm qual fld st C fI) (D : InitDoes X.prog X.w X.K X.mg fld C fI) (hr : Room k X.A) (ha : PA X [a] ta) (hg : Gl X nm := by rfl) (hdb : (nm == ("__debug__" : Str)) = false := by decide)
    (he : starEach (a :: []) X.env = (false, eval a X.env) :: starEach [] X.env := by rfl) (hpl : (backTo pos (starEach [] X.env)).any (·.1) = false := by rfl) :
    PMk X (.Call (.Name nm p) [a] [] pos) (tMkBad fld C ta) := by
  intro pins s σ H Q I h
  refine wpAny_Call_Name_kw (ld_glob I hg T.gC ?_ hdb)
  refine PySem.W.callWith_K (h₀ := X.base) I.ok.mod.kin T.kC (thn (ha.run pos pins s σ H _ I h) fun us s1 hh => ?_) he hpl
  obtain ⟨vs, H1, I1, r1, v, ev, q1⟩ := hh
  subst ev
  refine ⟨I1.kIn, ?_⟩
  cases r1 with
  | cons rv rn =>
    rename_i v' us'
    cases rn
    show wpAny _ _ (call (.ref C) [v']) _ _ _
    have hlim := I1.nolimit
    obtain ⟨mb, b1, b2⟩ := I1.mod.blt
    have g1 := I1.mod.glob.keeps I1.bk
    have b1' := b1.keeps I1.bk
    have hrd := hr.dp
    obtain ⟨hp, g, dr, tk, os⟩ := s1
    refine wpAny_call (bad_made T D I1.kIn g1 b1' b2 hlim (by omega) fun h' tk' e d M => ?_)
    show MkP X pins σ Q (.ref e) ⟨h', g, dr, tk', os⟩
    obtain ⟨oe, fv, hoe, hc, hd, hdat, h1⟩ := M.obj
    have hns := M.ns
    obtain ⟨G', q1', q2'⟩ := restrict h' fun b => decide (b ≠ e)
    have gk : ∀ b, b ≠ e → G'.get? b = h'.get? b := fun b hb => q1' b (decide_eq_true hb)
    have ge : G'.get? e = none := q2' e (by simp)
    have old : ∀ b o, hp.get? b = some o → G'.get? b = some o := fun b o q => (gk b (Nat.ne_of_lt (Nat.lt_of_lt_of_le (Heap.lt_size q) M.new))).trans (M.keep b o q)
    have ob : ObjOk X.prog X.w (upd H1 d (.xd [(fld, v)])) G' d (.xd [(fld, v)]) :=
      ⟨_, hns.at (fun o q => (gk d M.dne).trans q), fun f => relO_one rv f⟩
    have J : Inv X pins σ (upd H1 d (.xd [(fld, v)])) ⟨G', g, dr, tk', os⟩ := I1.laid (t' := tk') old M.dbig ob
    refine ⟨e, oe, fv, ⟨G', g, dr, tk', os⟩, _, .ref C, some d, rfl, J, fun b o q => ?_, ge, hoe, ⟨hc, hd⟩, hdat, h1, ?_, rfl, I1.bare, raises_own T.exC T.tyC, q1 d (I1.hok.fresh M.dbig)⟩
    · by_cases hb : b = e
      · have q' : G'.get? b = some o := q
        rw [hb, ge] at q'
        cases q'
      · exact (gk b hb).symm.trans q
    · rw [upd_ne (Ne.symm M.dne)]
      exact I1.hok.fresh M.new
/-- raise NM(e) -/
def tRaiseBad (fld : Str) (C : Addr) (W : WX) (ta : TA) : TS := fun _ σ H => tMkBad fld C ta σ H fun cls d H' => W cls d σ H'
theorem ps_raiseBad {a : Expr} {ta : TA} {W : WX} {p pos pos2 : Pos} {k : Nat} (hc : X.calm = true) (T : ExTxt X.prog X.K X.mg nm qual fld st C fI) (D : InitDoes X.prog X.w X.K X.mg fld C fI) (hr : Room k X.A) (tk : Takes X W) (ha : PA X [a] ta) (hg : Gl X nm := by rfl) (hdb : (nm == ("__debug__" : Str)) = false := by decide)
    (he : starEach (a :: []) X.env = (false, eval a X.env) :: starEach [] X.env := by rfl) (hpl : (backTo pos (starEach [] X.env)).any (·.1) = false := by rfl) :
    PS X (.Raise (some (.Call (.Name nm p) [a] [] pos)) none pos2) (tRaiseBad fld C W ta) := ps_raise hc tk (pmk_bad T D hr ha hg hdb he hpl)
/-- e.fld, e the error that the suite holds (at a; its class cls, its dict d) -/
def tByBad (fld : Str) (C : Addr) (a : Addr) (cls : Value) (d : Option Addr) (te : TE) : TE := fun σ H Q => te σ H fun x H1 => x = .ref a ∧ cls = .ref C ∧ ∃ (dd : Addr) (v : V), d = some dd ∧ H1 dd = some (.xd [(fld, v)]) ∧ Q v H1
theorem pe_byBad {a : Addr} {oe : Obj} {cls : Value} {d : Option Addr} {pn : List (Addr × Obj)} {e : Expr} {te : TE} {pos : Pos} (T : ExTxt X.prog X.K X.mg nm qual fld st C fI) (hz : Zc cls d oe) (hf : ∃ vs, oe.data = .fields vs) (he : PE (X.suite a ((a, oe) :: pn)) e te)
    (hb : attributeBase e fld X.env (eval e X.env) = eval e X.env := by rfl) :
    PE (X.suite a ((a, oe) :: pn)) (.Attribute e fld pos) (tByBad fld C a cls d te) := by
  refine ⟨fun pins s σ H Q I h => ?_⟩
  refine attr_of hb (thn (he.run pins s σ H _ I h) fun u s1 hh => ?_)
  obtain ⟨x, H1, I1, rx, ex, ec, dd, v, ed, ea, q⟩ := hh
  subst ex
  obtain rfl : u = Value.ref a := rx
  subst ec
  subst ed
  obtain ⟨ha, _⟩ := I1.pin (a, oe) (List.mem_append_left _ List.mem_cons_self)
  obtain ⟨vs, hd⟩ := hf
  have hx : ObjOk X.prog X.w H1 s1.heap dd (.xd [(fld, v)]) := I1.hok dd _ ea
  obtain ⟨mA, hns, hr⟩ := hx
  obtain ⟨od, ho, hl⟩ := lookIn_ns hns
  have l : List.lookup fld [(fld, v)] = some v := by simp [List.lookup]
  obtain ⟨u, hu, ru⟩ := RelO.some_of (v := v) (o := mA fld) (by rw [← l]; exact hr fld)
  have J : PySem.W.InstAt s1.heap a oe C (some od) := ⟨ha, hz.1, by unfold PySem.W.notCls; rw [hd] <;> rfl, by rw [hz.2]; exact ho⟩
  exact HandSPX.exc_get I1.kIn J T.ga T.gg T.exC (PySem.W.findObj_own T.hdC T.noN rfl (by rw [hl, hu])) (handed_of ru) ⟨v, H1, I1.tok _, ru, q⟩
end
end K88
set_option maxHeartbeats 2000000
/-! try: .. with several clauses «except C as e», one name for all. -/
namespace K88
open PySem PySem.Spec PyProof.Rows L2
/-- the ends behind a clause: its name is gone -/
def gone (i : Nat) (D : Ends) : Ends := { nx := fun σ' H' => D.nx (σ'.set i none) H', rt := D.rt, bk := fun σ' H' => D.bk (σ'.set i none) H', ct := fun σ' H' => D.ct (σ'.set i none) H' }
abbrev Clause := Value × (Addr → Value → Option Addr → TS)
/-- what the clauses wish of an error of the body, one behind the other -/
def wEach (K : PySem.W.Frag) (i : Nat) (Wout : WX) (D : Ends) : List Clause → WX
  | [] => Wout
  | (c, ts) :: r => fun cls d σ H => ∃ b, PySem.W.exmOne K cls c = some b ∧ (b = true → ∀ a, H a = none → ts a cls d (gone i D) (σ.set i (some (.ref a))) H) ∧ (b = false → wEach K i Wout D r cls d σ H)
inductive EachOk (X : Cx) (n : Str) : List ExceptHandler → List Clause → Prop
  | nil : EachOk X n [] []
  | cons {x : Str} {c : Value} {ts : Addr → Value → Option Addr → TS} {b₀ : Stmt} {suite : List Stmt} {np pos' : Pos} {hds : List ExceptHandler} {l : List Clause} (hc : Names X x c)
      (hsu : ∀ (a : Addr) (oe : Obj) (cls : Value) (d : Option Addr) (pn : List (Addr × Obj)), Zc cls d oe → (∃ vs, oe.data = .fields vs) → PSs (X.suite a ((a, oe) :: pn)) (b₀ :: suite) (ts a cls d)) (r : EachOk X n hds l) :
      EachOk X n (.ExceptHandler (some (.Name x np)) (some n) (b₀ :: suite) pos' :: hds) ((c, ts) :: l)
section
variable {X : Cx} {n : Str} {i : Nat} {body : List Stmt} {h₀ : ExceptHandler} {hds : List ExceptHandler} {l : List Clause} {pos : Pos} {tb : WX → TS} {Wout : WX}
theorem ps_try_each (hs : X.stack = X.env :: X.outer) (hf : X.env.frame = some X.env.locals) (hN : X.N.Nodup) (hi : X.N[i]? = some n) (hln : X.env.kindOf n = some .local) (tk : Takes X Wout)
    (hb : ∀ (W : WX) (pn : List (Addr × Obj)) (xe : Value → Shared → Prop), Takes (X.tr pn xe) W → PassesOwn (model X.prog X.w) X.A X.env xe → PSs (X.tr pn xe) body (tb W))
    (hh : EachOk X n (h₀ :: hds) l) : PS X (.Try body (h₀ :: hds) [] [] pos) (fun D σ H => tb (wEach X.K i Wout D l) D σ H) := by
  refine ⟨fun pins s σ H D I h => ?_⟩
  have ok := I.ok
  have hfr : X.A.frames = some (X.env :: X.outer) := by rw [ok.frames, hs]
  have hloc : Loc X.env.scope n := .inl hln
  refine wpAny_Try_except ?_
  refine wpAny_mono ((hb (wEach X.K i Wout D l) (X.pn ++ pins) (fun e s1 => wpAny (model X.prog X.w) X.A (noteFrame e X.env) (fun _ s2 => wpAny (model X.prog X.w) X.A (setFlight e none) (fun _ s3 =>
    wpAny (model X.prog X.w) X.A (handleBy e X.env (h₀ :: hds)) (SP X pins D) X.xe s3) X.xe s2) X.xe s1) (fun u s' xx => ?_) PassesOwn.looking).run [] s σ H D (I.toTry _) h) (fun f s1 hsp => ?_) (fun e s1 he => he)
  · obtain ⟨a, B, sI, pins', σ', H', cls, d, rfl, J', nb, up, sky, na, os, ag, w⟩ := xx
    have J : Inv X pins σ' H' sI := J'.ofTry ok
    have sky' : Sky B (X.env :: X.outer) a (Zc cls d) X.env.locals s'.heap := by rw [← hs]; exact sky
    show wpAny (model X.prog X.w) X.A (noteFrame (.ref a) X.env) _ _ _
    refine Sky.land Zc.steady hfr hf sky' fun h3 fl3 up3 => ?_
    have J3 : Inv X pins σ' H' { s' with heap := h3 } := J.landed nb fl3.1 (up.trans up3) os ag
    obtain ⟨oe3, vs3, he3, hz3, hd3⟩ := fl3.there
    have apart : ∀ {h : Heap} {o : Obj} {vs : Array Value}, h.FunFrames B (X.env :: X.outer) → h.get? a = some o → o.data = .fields vs → a ∉ frs (X.env :: X.outer) := fun {h o vs} ff e dd hm => by
      obtain ⟨_, o', e', hnf⟩ := ff.mem hm
      rw [e] at e'
      cases e'
      exact hnf _ dd
    have nfr := apart fl3.2.2.1 he3 hd3
    have nL : a ≠ X.env.locals := fun z => nfr (List.mem_filterMap.mpr ⟨X.env, List.mem_cons_self, by rw [hf, z]⟩)
    have nF : a ∉ X.fs := fun hm => by
      obtain ⟨e, he, q⟩ := List.mem_filterMap.mp hm
      exact nfr (List.mem_filterMap.mpr ⟨e, List.mem_cons_of_mem _ he, q⟩)
    have S3 := J3.suite he3 hd3 na nL nF
    have walk : ∀ {hds' : List ExceptHandler} {l' : List Clause}, EachOk X n hds' l' → wEach X.K i Wout D l' cls d σ' H' →
        wpAny (model X.prog X.w) X.A (handleBy (.ref a) X.env hds') (SP X pins D) X.xe { s' with heap := h3 } := by
      intro hds' l' hk
      induction hk with
      | nil =>
        intro w
        refine wpAny_handleBy_nil ?_
        obtain ⟨k1, k2, k3, oe, vs, T, oT, ts', he, hz, hd, h1, hr⟩ := id fl3
        unfold PySem.passOn
        refine wpAny_bind (wpAny_field he hd h1 ?_)
        rw [if_neg (show ¬ ((Value.ref T == Value.none) = true) from by simp)]
        have fin : wpAny (model X.prog X.w) X.A (setFlight (.ref a) X.env.frame) (fun _ s4 => wpAny (model X.prog X.w) X.A (throw (.ref a) : Sem Flow) (SP X pins D) X.xe s4) X.xe { s' with heap := h3 } := by
          rw [hf]
          refine HandSPX.setFlight_upZ fl3 fun h4 hh4 up4 => wpAny_throw (tk _ _ ?_)
          exact ⟨a, B, sI, pins, σ', H', cls, d, rfl, J, nb, (up.trans up3).trans up4, .inr (.inr (by rw [hs]; exact hh4)), na, os, ag, w⟩
        first
          | exact wpAny_bind (wpAny_pure (wpAny_bind fin))
          | exact wpAny_bind fin
      | @cons x c ts b₀ suite np pos' hds2 l2 hc hsu r ih =>
        intro w
        obtain ⟨b, hb1, hyes, hno⟩ := w
        refine wpAny_handleBy_cons (codeAny_handlers_test ?_) (by intro q; cases q)
        have LT : PySem.W.Looks (model X.prog X.w) h3 (typeOf (.ref a)) cls := fun A Q E s k q => wpAny_typeOf_ref (k _ _ he3) (by rw [hz3.1]; exact q)
        have LM := PySem.W.exm_one (M := model X.prog X.w) (J3.kIn) LT hb1
        have test : ∀ {Q : Value → Shared → Prop} {E : Value → Shared → Prop}, Q c { s' with heap := h3 } → wpAny (model X.prog X.w) (X.A.mark (some (.ref a))) (eval (.Name x np) X.env) Q E { s' with heap := h3 } := fun {Q E} q => by
          obtain ⟨hg, hdbg, hm | ⟨hm, hv, hnn⟩⟩ := hc
          · exact ld_glob (X := X.suite a ((a, oe3) :: (X.pn ++ pins))) S3 hg hm q hdbg
          · exact ld_blt (X := X.suite a ((a, oe3) :: (X.pn ++ pins))) S3 hg hm hv q hnn hdbg
        refine test (LM.here ?_)
        cases b with
        | true =>
          refine codeAny_handlers_suite_as ?_
          refine HandSPX.lands_againZ fl3 fun h4 fl4 up4 => ?_
          have J4 : Inv X pins σ' H' { s' with heap := h4 } := J.landed nb fl4.1 ((up.trans up3).trans up4) os ag
          obtain ⟨oe4, vs4, he4, hz4, hd4⟩ := fl4.there
          have S4 := J4.suite he4 hd4 na nL nF
          refine store_ok (X := X.suite a ((a, oe4) :: (X.pn ++ pins))) (v := .ref a) S4 hN hi hloc rfl (fun s5 S5 => ?_) (.inr hln)
          refine wpAny_mono ((hsu a oe4 cls d (X.pn ++ pins) hz4 ⟨_, hd4⟩).run [] s5 _ H' _ S5 (hyes rfl a na)) (fun f s6 hsp => ?_) (fun _ _ z => False.elim z)
          have leave : ∀ {σ6 : L2.St} {H6 : Hp} {Q : Shared → Prop}, Inv (X.suite a ((a, oe4) :: (X.pn ++ pins))) [] σ6 H6 s6 → (∀ s7, Inv X pins (σ6.set i none) H6 s7 → Q s7) →
              wpAny (model X.prog X.w) X.A (do bindName X.env n .none; unbindBehindTheSuite X.env n pos') (fun _ s7 => Q s7) X.xe s6 := fun {σ6 H6 Q} S6 hq => gone_ok (S6.unsuite ok) hN hi hln hq
          cases f with
          | next =>
            obtain ⟨σ6, H6, S6, q6⟩ := hsp
            exact leave S6 fun s7 J7 => ⟨_, _, J7, q6⟩
          | brk =>
            obtain ⟨σ6, H6, S6, q6⟩ := hsp
            exact leave S6 fun s7 J7 => ⟨_, _, J7, q6⟩
          | cont =>
            obtain ⟨σ6, H6, S6, q6⟩ := hsp
            exact leave S6 fun s7 J7 => ⟨_, _, J7, q6⟩
          | ret u =>
            obtain ⟨v6, σ6, H6, S6, r6, q6⟩ := hsp
            exact leave S6 fun s7 J7 => ⟨_, _, _, J7, r6, q6⟩
        | false =>
          show wpAny _ X.A (handleBy (.ref a) X.env hds2) _ _ _
          exact ih (hno rfl)
    exact walk hh w
  · cases f with
    | next =>
      obtain ⟨σ', H', J', q⟩ := hsp
      exact wpAny_execs_nil ⟨σ', H', J'.ofTry ok, q⟩
    | brk =>
      obtain ⟨σ', H', J', q⟩ := hsp
      exact ⟨σ', H', J'.ofTry ok, q⟩
    | cont =>
      obtain ⟨σ', H', J', q⟩ := hsp
      exact ⟨σ', H', J'.ofTry ok, q⟩
    | ret u =>
      obtain ⟨v, σ', H', J', r, q⟩ := hsp
      exact ⟨v, σ', H', J'.ofTry ok, r, q⟩
end
end K88
set_option maxHeartbeats 2000000
/-! x(lambda: body), x(lambda y=0: body): the lambda handed to a def that calls it without arguments. -/
namespace K88
open PySem PySem.Spec PyProof.Rows L2 LamX
section
variable {M : Model} {A : Around} {E : Value → Shared → Prop} {s : Shared} {params : Arguments} {body : Expr} {scope : Scope} {pos : Pos} {env : Env}
theorem lam_eval {Q : Value → Shared → Prop} (hk0 : params.kw_defaults = [])
    (h : wpAny M A (evalAll (evalEach params.defaults env)) (fun dv s1 => wpAny M A (makeFunction "<lambda>" (env.qual ++ "<lambda>") params (.expr body) scope env dv [] [] pos pos.line) Q E s1) E s) :
    wpAny M A (eval (.Lambda params body scope pos) env) Q E s := by
  rw [arm_eval_Lambda, defaultsOf_eq, hk0]
  show wpAny M A (do let dv ← evalAll (evalEach params.defaults env); let kdv ← holding dv (evalAllOpt []); makeFunction "<lambda>" (env.qual ++ "<lambda>") params (.expr body) scope env dv kdv [] pos pos.line) Q E s
  exact wpAny_bind (wpAny_mono h (fun dv s1 h1 => wpAny_bind (wpAny_holding (wpAny_pure h1))) fun _ _ x => x)
/-- what stands for the defaults -/
def DvNew (h h' : Heap) (dv : List Value) (dV : Value) : Prop := (dv = [] ∧ dV = .none ∧ h' = h) ∨ (dV = .ref h.objs.size ∧ h' = h.push (PySem.W.kdv_tup dv))
theorem mf_defaults {dv : List Value} {Q : Value → Shared → Prop} {name qual : Str} {fb : FuncBody} {line : Nat} (h : ∀ dV h', DvNew s.heap h' dv dV → wpAny M A (makeTail name qual params fb scope env dV .none none pos line) Q E { s with heap := h' }) :
    wpAny M A (makeFunction name qual params fb scope env dv [] [] pos line) Q E s := by
  rw [makeFunction_eq]
  cases dv with
  | nil =>
    simp only [List.zip_nil_right, List.filterMap_nil, List.isEmpty_nil, if_true, pure_bind]
    exact h .none s.heap (.inl ⟨rfl, rfl, rfl⟩)
  | cons x r =>
    simp only [List.zip_nil_right, List.filterMap_nil, List.isEmpty_nil, List.isEmpty_cons, if_true, pure_bind, Bool.false_eq_true, if_false]
    exact wpAny_bind (wpAny_newTextTuple (h _ _ (.inr ⟨rfl, rfl⟩)))
end
/-- the defaults of a lambda that stands: none, or a tuple out of the tracked heap -/
def DefsAt (h : Heap) (H : Hp) (fs : List Addr) (dv : List Value) (dV : Value) : Prop := (dv = [] ∧ dV = .none) ∨ ∃ t, dV = .ref t ∧ h.get? t = some (PySem.W.kdv_tup dv) ∧ H t = none ∧ t ∉ fs
section
variable {X : Cx} {pins : List (Addr × Obj)} {σ : L2.St} {H : Hp} {s : Shared}
theorem lam_make3 {T : List (Addr × Str)} {c P : Addr} {params : Arguments} {body : Expr} {scope : Scope} {pos : Pos} {E : Value → Shared → Prop} {Q : Value → Shared → Prop} {Dv : List Value → Prop} (I : Inv X pins σ H s) (TB : TabB X.base X.mg c P) (hcode : X.env.code = .ref c)
    (hm : (P, X.env.qual ++ "<lambda>") ∈ T) (hu : ∀ p ∈ T, p.1 = P → p.2 = X.env.qual ++ "<lambda>") (hT : Tabs T H) (hk0 : params.kw_defaults = [])
    (hdv : ∀ (s : Shared) (Q : List Value → Shared → Prop), (∀ dv tk, Dv dv → Q dv { s with toks := tk }) → wpAny (model X.prog X.w) X.A (evalAll (evalEach params.defaults X.env)) Q E s) (hfree : ∀ y ∈ scope.names, y.2 = .free → ∃ c, X.env.cells.lookup y.1 = some c)
    (h : ∀ (f c' : Addr) (pm ctv dV doc : Value) (dv : List Value) (H1 : Hp) (s' : Shared), Inv X pins σ H1 s' → ExtN H H1 → Tabs T H1 →
      s'.heap.get? f = some (PySem.W.kdv_obj "<lambda>" (X.env.qual ++ "<lambda>") params (.expr body) scope (cloFrom X.env.cells scope.names []) dV doc pm c' ctv) → H1 f = none → f ∉ frs X.stack → H1 c' = some (CodeO c' (X.env.qual ++ "<lambda>")) →
      Dv dv → DefsAt s'.heap H1 (frs X.stack) dv dV → Q (.ref f) s') :
    wpAny (model X.prog X.w) X.A (eval (.Lambda params body scope pos) X.env) Q E s := by
  refine lam_eval hk0 (hdv s _ fun dv tk0 hdv' => mf_defaults fun dV h0 hdV => ?_)
  have hdV : DvNew s.heap h0 dv dV := hdV
  have kh : ∀ b o, s.heap.get? b = some o → h0.get? b = some o := fun b o e => by
    rcases hdV with ⟨_, _, z⟩ | ⟨_, z⟩
    · rw [z]
      exact e
    · rw [z]
      exact Heap.get?_push_of_some _ e
  have hsz0 : s.heap.objs.size ≤ h0.objs.size := by
    rcases hdV with ⟨_, _, z⟩ | ⟨_, z⟩
    · rw [z]
      exact Nat.le_refl _
    · rw [z, Heap.size_push]
      exact Nat.le_succ _
  have I0 : Inv X pins σ H { s with heap := h0, toks := tk0 } := I.kept (t' := tk0) kh
  obtain ⟨ps, hP, ht, ha⟩ := hT _ hm
  have bP : h0.BuiltinsAt X.mg P := TB.bm.keeps I0.bk
  have hP' : h0.get? P = some { cls := .none, data := .fields ps } := I0.hok P _ hP
  have nofr : ∀ f, s.heap.objs.size ≤ f → f ∉ frs X.stack := fun f hf z => by
    rcases List.mem_cons.mp (I.stkSub _ z) with e | e
    · have h1 := I.lt
      rw [← e] at h1
      exact Nat.lt_irrefl _ (Nat.lt_of_lt_of_le h1 hf)
    · exact I.nofs hf e
  -- the defaults' tuple, whatever is laid behind it
  have defs : ∀ (h' : Heap) (H1 : Hp), (∀ b o, b ≠ P → h0.get? b = some o → h'.get? b = some o) → (∀ b, s.heap.objs.size ≤ b → b < h0.objs.size → H1 b = none) → DefsAt h' H1 (frs X.stack) dv dV := fun h' H1 kp hn => by
    rcases hdV with ⟨e1, e2, _⟩ | ⟨e1, e2⟩
    · exact .inl ⟨e1, e2⟩
    · have lt : s.heap.objs.size < h0.objs.size := by
        rw [e2, Heap.size_push]
        exact Nat.lt_succ_self _
      have at0 : h0.get? s.heap.objs.size = some (PySem.W.kdv_tup dv) := by
        rw [e2]
        exact Heap.get?_push_size _ rfl
      refine .inr ⟨_, e1, kp _ _ (fun z => ?_) at0, hn _ (Nat.le_refl _) lt, nofr _ (Nat.le_refl _)⟩
      rw [z, hP'] at at0
      cases at0
  cases hc : codeAmong pos ps.toList with
  | none =>
    refine PySem.W.kdv_makeTail (mg := X.mg) (c := c) (P := P) (ps := ps) (closure_ok hfree) I.ok.glob (I0.mod.glob.keeps I0.bk) hcode (TB.code.keeps I0.bk) hP' ht hc TB.gP bP fun c' ctv doc h' tk hx hge hlt hrec htb => ?_
    obtain ⟨c2, oc, vs, t, e2, hoc, hd, hv⟩ := hrec
    cases e2
    have hge' : h0.objs.size ≤ c' := hge
    have hsz : h0.objs.size ≤ h'.objs.size := Nat.le_trans hge (Nat.le_of_lt hlt)
    have nC : H c' = none := I0.hok.fresh hge
    have hx' : ∀ b o, b ≠ P → h0.get? b = some o → h'.get? b = some o := fun b o hb e => hx b o hb e
    have I1 := inv_table (t' := tk) (more := #[rawInt pos.line, rawInt pos.col, .ref c']) (h' := h'.push (PySem.W.kdv_obj "<lambda>" (X.env.qual ++ "<lambda>") params (.expr body) scope (cloFrom X.env.cells scope.names []) dV doc ((X.mg "__name__").getD .none) c' ctv)) I0 hP
      (fun b o hb e => Heap.get?_push_of_some _ (hx' b o hb e)) (Heap.get?_push_of_some _ htb) hge ⟨oc, vs, t, Heap.get?_push_of_some _ hoc, hd, hv⟩
    have hE : ExtN H (upd (upd H P (.tbl (ps ++ #[rawInt pos.line, rawInt pos.col, .ref c']))) c' (CodeO c' (X.env.qual ++ "<lambda>"))) := fun b o e n => by
      rw [upd_ne (ne_of_none e nC), upd_ne (fun z => n ps (Option.some.inj (e.symm.trans (by rw [z]; exact hP))))]
      exact e
    have eL : (ps ++ #[rawInt pos.line, rawInt pos.col, .ref c']).toList = ps.toList ++ [rawInt pos.line, rawInt pos.col, .ref c'] := by simp
    have hPlt : P < h0.objs.size := Heap.lt_size hP'
    refine h h'.objs.size c' ((X.mg "__name__").getD .none) ctv dV doc dv _ _ I1 hE (fun p hp => ?_) (Heap.get?_push_size _ rfl) ?_ (nofr _ (Nat.le_trans hsz0 hsz)) upd_same hdv' (defs _ _ (fun b o hb e => Heap.get?_push_of_some _ (hx' b o hb e)) fun b b1 b2 => ?_)
    · by_cases hb : p.1 = P
      · rw [hu p hp hb, hb]
        refine ⟨_, by rw [upd_ne (ne_of_none hP nC), upd_same], by rw [eL]; exact PySem.TriplesOk_snoc _ _ _ _ ht, fun p' cv hcv => ?_⟩
        rw [eL] at hcv
        rcases among_app _ ht hcv with z | z
        · obtain ⟨c0, e1, e2⟩ := ha p' cv z
          exact ⟨c0, e1, hE _ _ e2 codeO_ne⟩
        · exact ⟨c', z, upd_same⟩
      · obtain ⟨ps', a1, a2, a3⟩ := hT p hp
        refine ⟨ps', by rw [upd_ne (ne_of_none a1 nC), upd_ne hb]; exact a1, a2, fun p' cv hcv => ?_⟩
        obtain ⟨c0, e1, e2⟩ := a3 p' cv hcv
        exact ⟨c0, e1, hE _ _ e2 codeO_ne⟩
    · have n1 : h'.objs.size ≠ c' := Nat.ne_of_gt hlt
      have n2 : h'.objs.size ≠ P := Nat.ne_of_gt (Nat.lt_of_lt_of_le hPlt hsz)
      rw [upd_ne n1, upd_ne n2]
      exact I0.hok.fresh hsz
    · have n1 : b ≠ c' := Nat.ne_of_lt (Nat.lt_of_lt_of_le b2 hge')
      have n2 : b ≠ P := fun z => by
        have q : H b = none := I.hok.fresh b1
        rw [z, hP] at q
        cases q
      rw [upd_ne n1, upd_ne n2]
      exact I.hok.fresh b1
  | some cv =>
    obtain ⟨c', e, hco⟩ := ha pos cv hc
    subst e
    refine PySem.W.kdv_makeTailHit (mg := X.mg) (c := c) (P := P) (ps := ps) (closure_ok hfree) I.ok.glob (I0.mod.glob.keeps I0.bk) hcode (TB.code.keeps I0.bk) hP' ht hc bP fun ctv doc h' tk hx hsz => ?_
    have hx' : ∀ b o, h0.get? b = some o → h'.get? b = some o := hx
    have hsz' : h0.objs.size ≤ h'.objs.size := hsz
    have I1 : Inv X pins σ H { s with heap := h'.push (PySem.W.kdv_obj "<lambda>" (X.env.qual ++ "<lambda>") params (.expr body) scope (cloFrom X.env.cells scope.names []) dV doc ((X.mg "__name__").getD .none) c' ctv), toks := tk } := I.kept fun b o e => Heap.get?_push_of_some _ (hx' b o (kh b o e))
    refine h h'.objs.size c' ((X.mg "__name__").getD .none) ctv dV doc dv H _ I1 (ExtN.refl H) hT (Heap.get?_push_size _ rfl) (I0.hok.fresh hsz') (nofr _ (Nat.le_trans hsz0 hsz')) hco hdv' (defs _ _ (fun b o _ e => Heap.get?_push_of_some _ (hx' b o e)) fun b b1 _ => I.hok.fresh b1)
end
/-! ### the lambda's names -/
/-- own names (parameters) that the maker does not use, captured ones, globals -/
structure LamN (N : List Str) (sc scope : Scope) : Prop where
  kind : scope.kind = .function
  co : scope.isCoroutine = false
  gen : scope.isGenerator = false
  own : ∀ y ∈ scope.names, y.2 ≠ .cell ∧ (y.2 = .local → y.1 ∉ N)
  free : ∀ y ∈ scope.names, y.2 = .free → sc.names.lookup y.1 = some .cell ∨ sc.names.lookup y.1 = some .free
def lamNB (N : List Str) (sc scope : Scope) : Bool :=
  decide (scope.kind = .function) && !scope.isCoroutine && !scope.isGenerator && scope.names.all fun y => !decide (y.2 = .cell) && (!decide (y.2 = .local) || decide (y.1 ∉ N)) && (!decide (y.2 = .free) || decide (sc.names.lookup y.1 = some .cell) || decide (sc.names.lookup y.1 = some .free))
theorem lamN_by {N : List Str} {sc scope : Scope} (h : lamNB N sc scope = true) : LamN N sc scope := by
  unfold lamNB at h
  simp only [Bool.and_eq_true, Bool.or_eq_true, Bool.not_eq_true', decide_eq_true_eq, decide_eq_false_iff_not, List.all_eq_true] at h
  obtain ⟨⟨⟨h1, h2⟩, h3⟩, h4⟩ := h
  refine ⟨h1, h2, h3, fun y hy => ⟨(h4 y hy).1.1, fun e => ?_⟩, fun y hy e => ?_⟩
  · rcases (h4 y hy).1.2 with z | z
    · exact absurd e z
    · exact z
  · rcases (h4 y hy).2 with (z | z) | z
    · exact absurd e z
    · exact .inl z
    · exact .inr z
theorem LamN.has {X : Cx} {N : List Str} {scope : Scope} (L : LamN N X.env.scope scope) (ok : X.Ok) : ∀ y ∈ scope.names, y.2 = .free → ∃ c, X.env.cells.lookup y.1 = some c := fun y hy e => by
  rcases L.free y hy e with k | k
  · exact ok.has _ (.inl k)
  · exact ok.has _ (.inr k)
section
variable {X : Cx} {pins : List (Addr × Obj)} {σ : L2.St} {H HZ : Hp} {s s1 : Shared}
theorem lam_start3 {A : Around} {outer : List Env} {E : XK} {scope : Scope} {f c' : Addr} {h₁ : Heap} {tk : Nat} {binds : List (Str × Value)} (I : Inv X pins σ H s) (L : LamN X.N X.env.scope scope) (e0 : Env0 X.prog X.w X.K X.mg X.base A outer s1 HZ) (hd : A.handled = none)
    (un : Un (frs X.stack) [] H HZ s.heap s1.heap) (hns : h₁.Ns s1.heap.objs.size fun y => binds.reverse.lookup y) (kp : ∀ b o, s1.heap.get? b = some o → h₁.get? b = some o) :
    Inv (lamCx X A outer s1 HZ E scope f c') [] σ HZ { s1 with heap := h₁, toks := tk } := by
  have hfree := L.has I.ok
  have cm : ∀ {y c}, (cloFrom X.env.cells scope.names []).lookup y = some c → X.env.cells.lookup y = some c := fun {y c} e => by
    rcases cloFrom_mem (PySem.mem_of_lookup e) with hm | ⟨h1, h2⟩
    · cases hm
    · obtain ⟨c1, hc⟩ := hfree _ h1 rfl
      have hc : X.env.cells.lookup y = some c1 := hc
      have e2 : c = c1 := by
        rw [h2, hc] <;> rfl
      rw [e2]
      exact hc
  have look : ∀ {y}, scope.names.lookup y = some .free → ∃ c, (cloFrom X.env.cells scope.names []).lookup y = some c := fun {y} hl => by
    have hy : (y, NameKind.free) ∈ scope.names := PySem.mem_of_lookup hl
    exact mem_lookup (cloFrom_has (cells := X.env.cells) (acc := []) hy)
  have cellK : ∀ {c : Addr} {v : Option Value}, H c = none → s.heap.IsCell c v → h₁.IsCell c v := fun {c v} n ⟨o, ho, hd⟩ => by
    obtain ⟨sl, q⟩ := un.any ho n (by simp)
    exact ⟨_, kp _ _ q, hd⟩
  have noA : ∀ b : Addr, b ∉ (lamCx X A outer s1 HZ E scope f c').ex := fun b z => absurd (show b ∈ ([] : List Addr) from z) (by simp)
  refine ⟨⟨e0.mod, L.kind, rfl, rfl, Nat.le_refl _, fun y z c e1 e2 => I.ok.inj y z c (cm e1) (cm e2), fun y hy => ?_, fun y c z _ => ?_, fun _ => hd, Around.frames_deeper e0.frames, .inr ⟨rfl, rfl⟩, fun b z => absurd z (noA b), e0.bs, e0.bsz, fun b _ _ => noA b,
      fun b z => absurd z (noA b), e0.funs, e0.frf⟩,
    rfl, e0.bare, Un.kept kp, ⟨_, hns, fun i y v e1 e2 e3 => ?_⟩, fun y c e => ?_, e0.hok.fresh (Nat.le_refl _), fun y c e => ?_, fun q hq => absurd (show q ∈ ([] : List (Addr × Obj)) ++ [] from hq) (by simp), e0.hok.kept kp, I.len⟩
  · have hy : scope.names.lookup y = some .cell ∨ scope.names.lookup y = some .free := hy
    rcases hy with hy | hy
    · exact absurd rfl (L.own _ (PySem.mem_of_lookup hy)).1
    · exact look hy
  · have z : false = true := z
    cases z
  · have e3 : Vis scope y := e3
    have e1 : X.N[i]? = some y := e1
    rcases e3 with k | k | k
    · exact absurd (List.mem_of_getElem? e1) ((L.own _ (PySem.mem_of_lookup k)).2 rfl)
    · exact absurd rfl (L.own _ (PySem.mem_of_lookup k)).1
    · obtain ⟨m, hn, hl⟩ := I.loc
      have hvis : Vis X.env.scope y := (L.free _ (PySem.mem_of_lookup k) rfl).elim (fun k => .inr (.inl k)) (fun k => .inr (.inr k))
      obtain ⟨w', r, q⟩ := hl i y v e1 e2 hvis
      obtain ⟨c2, h2⟩ := look k
      refine ⟨w', r, .inr ⟨.inr k, c2, h2, ?_⟩⟩
      have c1 := cm h2
      rcases q with ⟨k', _⟩ | ⟨_, c3, e', z⟩
      · have k' : X.env.scope.names.lookup y = some .local := k'
        rcases L.free _ (PySem.mem_of_lookup k) rfl with k2 | k2 <;> rw [show X.env.scope.names.lookup y = _ from k2] at k' <;> cases k'
      · rw [c1] at e'
        cases e'
        exact cellK (I.freeC y _ c1) z
  · obtain ⟨w', z⟩ := I.cell y c (cm e)
    exact ⟨w', cellK (I.freeC y c (cm e)) z⟩
  · obtain ⟨v, o, ho, hd⟩ := I.cell y c (cm e)
    exact un.free c o ho (I.freeC y c (cm e)) (by simp)
/-- call(), in the def that got the lambda -/
theorem pe_act3 {CXg : CXT} {Eg : XK} {Ng : List Str} {qg : Str} {sg : Scope} {g f c' : Addr} {cdg pm ctv dV doc : Value} {dv : List Value} {params : Arguments} {body : Expr} {scope : Scope} {k i : Nat} {a : Str} {pn : List (Addr × Obj)} {xe : Value → Shared → Prop} {W : WX} {E : XK} {tb : TE} {p1 p2 : Pos}
    (I : Inv X pins σ H s) (L : LamN X.N X.env.scope scope) (hf : s.heap.get? f = some (PySem.W.kdv_obj "<lambda>" (X.env.qual ++ "<lambda>") params (.expr body) scope (cloFrom X.env.cells scope.names []) dV doc pm c' ctv)) (hfn : H f = none) (hfr : f ∉ frs X.stack)
    (hD : DefsAt s.heap H (frs X.stack) dv dV)
    (hbind : ∀ (s1 : Shared), (dv = [] ∧ dV = .none ∨ ∃ t, dV = .ref t ∧ s1.heap.get? t = some (PySem.W.kdv_tup dv)) → ∃ binds, BindsTo s1 (PySem.W.kdv_fn "<lambda>" (X.env.qual ++ "<lambda>") params (.expr body) scope (cloFrom X.env.cells scope.names []) dV doc pm (.ref c') ctv) ⟨[], []⟩ binds ∧ ∀ y ∈ binds, scope.names.lookup y.1 = some .local)
    (tk : Takes ((cxOf CXg X.prog X.w X.K X.mg X.base Ng qg sg g cdg X.A X.stack s H Eg).tr pn xe) W) (hW : ∀ cls d σ' H', E cls d H' → W cls d σ' H') (hr : Room (k + 1) (X.A.deeper (envOfC qg sg s.heap.objs.size g cdg)))
    (hbody : ∀ (A : Around) (outer : List Env) (s : Shared) (H : Hp), Room k (A.deeper (lamEnv X scope s.heap.objs.size f c')) → PE (lamCx X A outer s H E scope f c') body tb)
    (hN : Ng[i]? = some a) (hv : Vis sg a) (hd : (a == ("__debug__" : Str)) = false := by decide) (hcd : (a == ("__classdict__" : Str)) = false := by decide) :
    PE ((cxOf CXg X.prog X.w X.K X.mg X.base Ng qg sg g cdg X.A X.stack s H Eg).tr pn xe) (.Call (.Name a p1) [] [] p2)
      (fun σZ HZ Q => σZ[i]? = some (some (.ref f)) ∧ HZ c' = some (CodeO c' (X.env.qual ++ "<lambda>")) ∧ tb σ HZ Q) := by
  refine ⟨fun pinsZ sZ σZ HZ Q IZ h => ?_⟩
  obtain ⟨hs, hc, ht⟩ := h
  refine wpAny_Call_Name_kw (thn ((pe_var (pos := p1) (i := i) hN hv hd hcd).run pinsZ sZ σZ HZ (fun v H1 => v = .ref f ∧ H1 = HZ) IZ ⟨.ref f, hs, rfl, rfl⟩) fun u s1 ⟨v, H1, I1, r1, q1⟩ => ?_)
  obtain ⟨ev, eH⟩ := q1
  subst ev
  rw [eH] at I1
  obtain rfl : u = Value.ref f := r1
  have stays : ∀ (b : Addr) (o : Obj), s.heap.get? b = some o → H b = none → b ∉ frs X.stack → s1.heap.get? b = some o := fun b o e n nf => I1.base.keep b o e n nf (fun z => nomatch (show b ∈ ([] : List Addr) from z))
  have of1 := stays f _ hf hfn hfr
  have d1 : dv = [] ∧ dV = .none ∨ ∃ t, dV = .ref t ∧ s1.heap.get? t = some (PySem.W.kdv_tup dv) := by
    rcases hD with z | ⟨t, e1, e2, e3, e4⟩
    · exact .inl z
    · exact .inr ⟨t, e1, stays t _ e2 e3 e4⟩
  obtain ⟨binds, hb, hloc⟩ := hbind s1 d1
  refine PySem.W.callWith_F0 ⟨_, _, _, _, of1⟩ ?_
  have un : Un (frs X.stack) [] H HZ s.heap s1.heap := I1.base
  obtain ⟨⟨oc, vs, t, hoc, hdc, hvc⟩, _, _⟩ := I1.hok c' _ hc
  have rc : codeAny (model X.prog X.w) (X.A.deeper (envOfC qg sg s.heap.objs.size g cdg)) (.call (.ref f) ⟨[], []⟩) (CR (L2.CX X.prog X.w) (envOfC qg sg s.heap.objs.size g cdg :: X.stack) X.prog X.w HZ s1 Q E) s1 := by
    refine PySem.W.kla_callFunE hr.depth of1 rfl L.co L.gen rfl ⟨c', oc, vs, t, rfl, hoc, hdc, hvc⟩ (hb _ _ _ _ ?_)
    refine wpAny_newFunctionEnv (fun y hy => (L.own y hy).1) hloc (fun h₁ hns hsb => ⟨I1.nolimit.fresh _ hsb, ?_⟩) L.kind
    show codeAny _ _ (.expr body (lamEnv X scope s1.heap.objs.size f c')) _ _
    have kp : ∀ b o, s1.heap.get? b = some o → h₁.get? b = some o := fun b o e => hsb.extBut b o (Nat.ne_of_lt (Heap.lt_size e)) (Heap.get?_push_of_some _ e)
    have J : Inv (lamCx X (X.A.deeper (envOfC qg sg s.heap.objs.size g cdg)) (envOfC qg sg s.heap.objs.size g cdg :: X.stack) s1 HZ E scope f c') [] σ HZ { s1 with heap := h₁, toks := s1.toks + binds.length } :=
      lam_start3 I L I1.env0 hr.hd un hns kp
    refine PySem.W.kla_codeExpr (wpAny_mono ((hbody _ _ s1 HZ (hr.deeper _)).run [] _ _ HZ Q J ht) (fun v s' hq => ?_) fun e s' hq => hq)
    obtain ⟨w', H', J', rv, q⟩ := hq
    exact ⟨w', H', J'.os, J'.bare, J'.base, J'.hok, rv, q⟩
  have hx : Passes (L2.CX X.prog X.w) ((cxOf CXg X.prog X.w X.K X.mg X.base Ng qg sg g cdg X.A X.stack s H Eg).tr pn xe) E := passes_call tk hW
  refine wpAny_call (codeAny_mono rc fun r s' hq => ?_)
  cases r with
  | error e => exact hx pinsZ σZ HZ s1 e s' I1 hq
  | ok fl =>
    cases fl with
    | ret u => exact I1.after hq
    | next => exact False.elim hq
    | brk => exact False.elim hq
    | cont => exact False.elim hq
end
section
variable {X : Cx}
/-- x(lambda ..: body) -/
theorem pe_lamcall3 {T : List (Addr × Str)} {TT : (XK → Hp → VK → Prop) → Hp → VK → Prop} {x a : Str} {g c P : Addr} {k : Nat} {pg : Arguments} {bg : List Stmt} {sg : Scope} {dVg kV docg pmg cdv ct oc : Value} {an od : Option Addr} {osl : Array (Option Value)} {Ng : List Str}
    {params : Arguments} {body : Expr} {scope : Scope} {t : XK → TE} {p lpos pos : Pos} {Dv : List Value → Prop} (hg : Gl X x) (hm : X.mg x = some (.ref g)) (hk : PySem.W.keepIn X.K (.ref g) = true)
    (lk : X.K.lookup g = some ⟨oc, od, .func (PySem.W.fnOf x x pg bg sg dVg kV docg pmg an cdv ct), osl⟩) (hcg : PySem.W.codeIn X.K cdv x = true) (hb : L2.Binds X.K (PySem.W.fnOf x x pg bg sg dVg kV docg pmg an cdv ct) [a] []) (Sg : FnScope Ng [a] sg) (hNg : Ng[0]? = some a) (hva : Vis sg a)
    (hG : GivesTo X Ng x sg g cdv bg a (X.env.qual ++ "<lambda>") TT)
    (TB : TabB X.base X.mg c P) (hcode : X.env.code = .ref c) (hmT : (P, X.env.qual ++ "<lambda>") ∈ T) (hu : ∀ p ∈ T, p.1 = P → p.2 = X.env.qual ++ "<lambda>") (hr : Room (k + 2) X.A) (L : LamN X.N X.env.scope scope) (hk0 : params.kw_defaults = [])
    (hdv : ∀ (s : Shared) (Q : List Value → Shared → Prop), (∀ dv tk, Dv dv → Q dv { s with toks := tk }) → wpAny (model X.prog X.w) X.A (evalAll (evalEach params.defaults X.env)) Q X.xe s)
    (hbind : ∀ (q : Str) (cl : List (Str × Addr)) (dV doc pm cv ctv : Value) (dv : List Value), Dv dv → ∀ (s1 : Shared), (dv = [] ∧ dV = .none ∨ ∃ t, dV = .ref t ∧ s1.heap.get? t = some (PySem.W.kdv_tup dv)) → ∃ binds, BindsTo s1 (PySem.W.kdv_fn "<lambda>" q params (.expr body) scope cl dV doc pm cv ctv) ⟨[], []⟩ binds ∧ ∀ y ∈ binds, scope.names.lookup y.1 = some .local)
    (hbody : ∀ (A : Around) (outer : List Env) (s : Shared) (H : Hp) (E : XK) (f c' : Addr), Room k (A.deeper (lamEnv X scope s.heap.objs.size f c')) → PE (lamCx X A outer s H E scope f c') body (t E))
    (hdb : (x == ("__debug__" : Str)) = false := by decide) (hd : (a == ("__debug__" : Str)) = false := by decide) (hcd : (a == ("__classdict__" : Str)) = false := by decide) :
    PE X (.Call (.Name x p) [.Lambda params body scope lpos] [] pos) (tLam T TT t) := by
  refine ⟨fun pins s σ H Q I h => ?_⟩
  obtain ⟨hT, h⟩ := h
  refine wpAny_Call_Name_kw (ld_glob I hg hm ?_ hdb)
  refine PySem.W.callWith_K (h₀ := X.base) I.ok.mod.kin hk ?_ (by rfl) (by rfl)
  show wpAny _ _ (spliced ((false, eval (.Lambda params body scope lpos) X.env) :: backTo pos (starEach [] X.env))) _ _ s
  refine Calls.spliced_cons (lam_make3 (Dv := Dv) I TB hcode hmT hu hT hk0 hdv (L.has I.ok) fun f c' pm' ctv dV doc dv H1 s' I1 eN T1 hf hfn hfr hco hdv' hD => ?_)
  refine Calls.spliced_nil ⟨I1.kIn, ?_⟩
  have rc : codeAny (model X.prog X.w) X.A (.call (.ref g) ⟨[.ref f], []⟩) (CR C8.CX0 X.stack X.prog X.w H1 s' Q C8.E0) s' := by
    refine run_ofS (N := Ng) (ps := [a]) (us := [.ref f]) (vs := [.ref f]) lk hcg Sg hr I1.env0 (hb s' [.ref f] I1.kIn rfl) (.cons rfl .nil) rfl fun hr' => ?_
    obtain ⟨t', ht', hq'⟩ := hG f c' s' H1 Q (fun E H' Q' => t E σ H' Q') (fun W pn xe E p1 p2 tk hW => pe_act3 (i := 0) I1 L hf hfn hfr hD (hbind _ _ _ _ _ _ _ _ hdv') tk hW hr' (fun A outer s H hr2 => hbody A outer s H E f c' hr2) hNg hva hd hcd) hco (h H1 eN T1)
    exact ⟨t', ht'.nox, hq'⟩
  refine wpAny_call (codeAny_mono rc fun r s2 hq => ?_)
  cases r with
  | error e => exact (show False from hq).elim
  | ok fl =>
    cases fl with
    | ret u => exact I1.after hq
    | next => exact False.elim hq
    | brk => exact False.elim hq
    | cont => exact False.elim hq
end
end K88
set_option maxHeartbeats 2000000
/-! Promises of defs that are called while no repr is under way; the end of the row. -/
namespace K88
open PySem PySem.Spec PyProof.Rows L2 LamX
structure FnOkG (P : Program) (w : World) (K : PySem.W.Frag) (mg : Str → Option Value) (base : Heap) (CX : CXT) (k : Nat) (f : Addr) (fd : FuncData) (ps : List Str) (sp : Sp) : Prop where
  len : ∀ vs H Q E, sp vs H Q E → vs.length = ps.length
  run : ∀ (A : Around) (outer : List Env) (s : Shared) (H : Hp) (args : Args) (us : List Value) (vs : List V) (Q : VK) (E : XK), A.guards = some [] → Room k A → Env0 P w K mg base A outer s H → BindsTo s fd args (ps.zip us) → Vals vs us → sp vs H Q E →
    codeAny (model P w) A (.call (.ref f) args) (CR CX outer P w H s Q E) s
section
variable {X : Cx} {CX : CXT} {k : Nat} {f : Addr} {fd : FuncData} {ps : List Str} {sp : Sp} {dvs : List V} {ds : List Value} {E : XK} {x : Str} {p pos : Pos} {e : Expr} {es : List Expr} {t : TA}
theorem run_fnG {pins : List (Addr × Obj)} {σ : L2.St} {H : Hp} {s : Shared} {Q : VK} {us : List Value} {vs : List V} (hgu : X.A.guards = some []) (F : FnOkG X.prog X.w X.K X.mg X.base CX k f fd ps sp) (hr : Room k X.A) (hb : L2.Binds X.K fd ps ds) (hd : Vals dvs ds) (hx : Passes CX X E)
    (I : Inv X pins σ H s) (r : Vals vs us) (h : sp (vs ++ dvs) H Q E) : wpAny (model X.prog X.w) X.A (call (.ref f) us) (EP X pins σ Q) X.xe s := by
  have r2 : Vals (vs ++ dvs) (us ++ ds) := r.append hd
  have hl : (us ++ ds).length = ps.length := by rw [← r2.length]; exact F.len _ _ _ _ h
  refine wpAny_call (codeAny_mono (F.run X.A X.stack s H ⟨us, []⟩ (us ++ ds) (vs ++ dvs) Q E hgu hr I.env0 (hb s us I.kIn hl) r2 h) fun r s' hq => ?_)
  cases r with
  | error e => exact hx pins σ H s e s' I hq
  | ok fl =>
    cases fl with
    | ret u => exact I.after hq
    | next => exact False.elim hq
    | brk => exact False.elim hq
    | cont => exact False.elim hq
theorem pe_callG (hgu : X.A.guards = some []) (F : FnOkG X.prog X.w X.K X.mg X.base CX k f fd ps sp) (hr : Room k X.A) (hg : Gl X x) (hm : X.mg x = some (.ref f)) (hk : PySem.W.keepIn X.K (.ref f) = true) (hb : L2.Binds X.K fd ps ds) (hd : Vals dvs ds) (hx : Passes CX X E)
    (ha : PA X (e :: es) t) (hdb : (x == ("__debug__" : Str)) = false := by decide) (he : starEach (e :: es) X.env = (false, eval e X.env) :: starEach es X.env := by rfl) (hpl : (backTo pos (starEach es X.env)).any (·.1) = false := by rfl) :
    PE X (.Call (.Name x p) (e :: es) [] pos) (tCall sp dvs E t) := by
  refine ⟨fun pins s σ H Q I h => ?_⟩
  refine wpAny_Call_Name_kw (ld_glob I hg hm ?_ hdb)
  refine PySem.W.callWith_K (h₀ := X.base) I.ok.mod.kin hk (thn (ha.run pos pins s σ H _ I h) fun us s1 ⟨vs, H1, I1, r, q⟩ => ⟨I1.kIn, ?_⟩) he hpl
  exact run_fnG hgu F hr hb hd hx I1 r q
end
section
variable {P : Program} {w : World} {K : PySem.W.Frag} {mg : Str → Option Value} {base : Heap}
theorem okG {x qual : Str} {st : Stmt} {f : Addr} {fd : FuncData} {N ps : List Str} {k : Nat} {sp : Sp} (F : Fun K x qual st f fd) (S : FnScope N ps (defScope st)) (len : ∀ vs H Q E, sp vs H Q E → vs.length = ps.length)
    (hbody : ∀ (cdv : Value) (A : Around) (outer : List Env) (s : Shared) (H : Hp) (vs : List V) (Q : VK) (E : XK), A.guards = some [] → PySem.W.codeIn K cdv qual = true → fd.code = cdv → Room k (A.deeper (envOfC qual (defScope st) s.heap.objs.size f cdv)) → sp vs H Q E →
      ∃ t, PSs (cxOf CX0 P w K mg base N qual (defScope st) f cdv A outer s H E).nox (defBody st) t ∧ t { nx := fun _ H' => Q .non H', rt := Q } (L2.start N vs) H) : FnOkG P w K mg base CX0 (k + 1) f fd ps sp := by
  obtain ⟨oc, od, kV, doc, pm, an, cdv, ct, osl, rfl, lk, hcd⟩ := F.ex
  refine ⟨len, fun A outer s H args us vs Q E hgu hr e0 hb r hsp => ?_⟩
  have hl := len _ _ _ _ hsp
  have KX : K.In s.heap := e0.mod.kin.keeps fun b o e => (e0.bs b o e).1
  have lim : s.heap.NoLimit := e0.mod.nolimit.keeps fun b o e => (e0.bs b o e).1
  have hkind : ∀ y ∈ ps.zip us, (defScope st).names.lookup y.1 = some .local ∨ ((defScope st).names.lookup y.1 = some .cell ∧ ((cellsFrom (s.heap.objs.size + 1) (defScope st).names []).lookup y.1).isSome = true) := fun ⟨n, v⟩ hy => by
    rcases S.par n (List.of_mem_zip hy).1 with q | q
    · exact .inl q
    · exact .inr ⟨q, PySem.W.cellsFrom_some _ _ _ (.inl q)⟩
  refine codeAny_call_function hr.depth (KX _ _ lk) rfl S.co S.gen rfl (PySem.W.codeRec_of KX hcd) (hb _ _ _ _ ?_)
  refine wpAny_newFunctionEnv_cells S.kind hkind fun env he s1 x => ?_
  subst he
  refine ⟨lim.keeps x.toInCall.keep, codeAny_func ?_⟩
  obtain ⟨t, ht0, hq⟩ := hbody cdv A outer s H vs Q E hgu hcd rfl (hr.deeper _) hsp
  have ht := ht0.nox
  have I : Inv (cxOf CX0 P w K mg base N qual (defScope st) f cdv A outer s H E) [] (L2.start N vs) H s1 := inv_start S hr.hd e0 hl r x
  refine wpAny_mono (ht.run [] s1 (L2.start N vs) H _ I hq) (fun fl s' hs => ?_) fun e s' hs => hs
  have fin : ∀ {σ' : L2.St} {H' : Hp} {v : V} {u : Value}, Inv (cxOf CX0 P w K mg base N qual (defScope st) f cdv A outer s H E) [] σ' H' s' → RelV v u → Q v H' → CE outer P w H s Q u s' :=
    fun {σ' H' v u} J rv q => ⟨v, H', J.os, J.bare, J.base, J.hok, rv, q⟩
  cases fl with
  | ret u =>
    obtain ⟨v, σ', H', J, rv, q⟩ := hs
    exact fin J rv q
  | next =>
    obtain ⟨σ', H', J, q⟩ := hs
    exact fin (v := V.non) (u := Value.none) J rfl q
  | brk =>
    obtain ⟨_, _, _, q⟩ := hs
    exact False.elim q
  | cont =>
    obtain ⟨_, _, _, q⟩ := hs
    exact False.elim q
end
/-! ### the end of the row: one code object's table, no repr under way -/
theorem law_callG {P : Program} {w : World} {K : PySem.W.Frag} {mg mb : Str → Option Value} {k : Nat} {fa a c T : Addr} {fd : FuncData} {x : Str} {sp : Sp} {s₁ : Shared} {vs : List Value} {ns : List Int}
    (KX : K.In s₁.heap) (hns : s₁.heap.Ns mainGlobals mg) (hb : s₁.heap.Ns builtinsNs mb) (hbb : ∀ x : Str, x ≠ "__name__" → mb x = bootBuiltins x) (hlim : s₁.heap.NoLimit) (hg : s₁.gens = #[])
    (hT : s₁.heap.get? T = some { cls := .none, data := .fields #[] }) (nT : K.lookup T = none) (C : PySem.W.CodeHd s₁.heap c T)
    (hbm : ∃ (bm : Addr) (ob : Obj), mg "__builtins__" = some (.ref bm) ∧ bm ≠ builtinsNs ∧ s₁.heap.get? bm = some ob ∧ ob.cls = .type "module" ∧ ob.dict = some builtinsNs ∧ ob.data = .plain)
    (ha : s₁.heap.get? a = some { cls := .type "list", data := .seq vs.toArray }) (hi : IntsAre vs ns) (hl : ns.length ≤ sizeLine) (hr : Room k callerA)
    (F : ∀ base : Heap, K.In base → base.Ns mainGlobals mg → TabB base mg c T → FnOkG P w K mg base CX0 k fa fd [x] sp) (hbind : ∀ (s : Shared) (u : Value), BindsTo s fd ⟨[u], []⟩ [(x, u)])
    (hsp : ∀ H : Hp, H T = some (.tbl #[]) → SqL K H a (ns.map V.int) → sp [.ref a] H (fun v _ => v = .bl true) fun _ _ _ => False) :
    codeAny (model P w) callerA (.call (.ref fa) ⟨[.ref a], []⟩) (fun r s' => r = .ok (.ret (.bool true)) ∧ OldK s₁.heap s'.heap ∧ s'.os = s₁.os ∧ AllBare s'.gens) s₁ := by
  have rv := vals_ints hi
  have lenV := hi.length
  have aT : a ≠ T := fun z => by
    rw [z, hT] at ha
    cases ha
  -- H tracks the table, and perhaps the script
  have core : ∀ H : Hp, H T = some (.tbl #[]) → (∀ b, H b = none ∨ b = T ∨ ∃ o xs, H b = some (.frz o (.lst xs))) → SqL K H a (ns.map V.int) → HOk P w H s₁.heap → (∀ b, H b ≠ none → b = a ∨ b = T) → (H a ≠ none → K.lookup a = none) →
      codeAny (model P w) callerA (.call (.ref fa) ⟨[.ref a], []⟩) (fun r s' => r = .ok (.ret (.bool true)) ∧ OldK s₁.heap s'.heap ∧ s'.os = s₁.os ∧ AllBare s'.gens) s₁ := by
    intro H hH hO hS hok hA hK
    have keepB : ∀ {b : Addr} {o : Obj}, s₁.heap.get? b = some o → H b = none → (hidT s₁.heap H).get? b = some o := fun e n => hidT_get e n
    have untr : ∀ {b : Addr} {o : Obj}, s₁.heap.get? b = some o → (∀ vs n, o.data ≠ .seq vs n) → o.data ≠ .fields #[] → H b = none := fun {b o} e h1 h2 => by
      cases q : H b with
      | none => rfl
      | some u =>
        rcases hA b (by rw [q]; simp) with e' | e'
        · rw [e', ha] at e
          cases e
          exact (h1 _ _ rfl).elim
        · rw [e', hT] at e
          cases e
          exact (h2 rfl).elim
    have untrD : ∀ {b : Addr} {o : Obj} {es : Array DictEntry} {ep : Nat}, s₁.heap.get? b = some o → o.data = .dict es ep → H b = none := fun {b o es ep} e d =>
      untr e (fun vs n z => by rw [d] at z; cases z) fun z => by rw [d] at z; cases z
    have nsK : ∀ {b : Addr} {m : Str → Option Value}, s₁.heap.Ns b m → (hidT s₁.heap H).Ns b m := fun {b m} ⟨o, es, ep, e, d, r⟩ => ⟨o, es, ep, keepB e (untrD e d), d, r⟩
    have hKb : K.In (hidT s₁.heap H) := fun b o e => keepB (KX b o e) (by
      cases q : H b with
      | none => rfl
      | some u =>
        rcases hA b (by rw [q]; simp) with e' | e'
        · rw [e'] at e q
          have e1 : K.lookup a = some o := e
          rw [hK (by rw [q]; simp)] at e1
          cases e1
        · rw [e'] at e
          have e1 : K.lookup T = some o := e
          rw [nT] at e1
          cases e1)
    have hM : L2.Mod K mg (hidT s₁.heap H) := ⟨hKb, nsK hns, ⟨mb, nsK hb, hbb⟩, let ⟨mc, h1, h2⟩ := hlim; ⟨mc, nsK h1, h2⟩⟩
    have TB : TabB (hidT s₁.heap H) mg c T := by
      refine ⟨?_, ?_, fun z => ?_⟩
      · obtain ⟨o, us, file, tf, flags, tg, inF, text, tt, e1, r1, r2, r3, r4, r5, r6, r7, r8, hne⟩ := C
        refine ⟨o, us, file, tf, flags, tg, inF, text, tt, keepB e1 (untr e1 (fun vs n z => ?_) fun z => ?_), r1, r2, r3, r4, r5, r6, r7, r8, hne⟩
        · rw [r2] at z
          cases z
        · rw [r2] at z
          cases z
          simp at r3
      · obtain ⟨bm, ob, b1, b2, b3, b4, b5, b6⟩ := hbm
        have nG : bm ≠ mainGlobals := fun q => by
          obtain ⟨o, es, ep, e, hd, _⟩ := hns
          rw [q, e] at b3
          cases b3
          rw [hd] at b6
          cases b6
        have nP : bm ≠ T := fun q => by
          rw [q, hT] at b3
          cases b3
          cases b6
        exact ⟨bm, ob, b1, b2, nG, nP, keepB b3 (untr b3 (fun vs n z => by rw [b6] at z; cases z) fun z => by rw [b6] at z; cases z), b4, b5, b6⟩
      · obtain ⟨o, es, ep, e, hd, _⟩ := hns
        rw [z, hT] at e
        cases e
        cases hd
    have e0 : Env0 P w K mg (hidT s₁.heap H) callerA [] s₁ H := ⟨rfl, hM, fun b o e => of_hidT e, Nat.le_of_eq (hidT_size _ _), trivial, fun b hb => absurd (show b ∈ ([] : List Addr) from hb) (by simp), hok, .of_eq hg⟩
    refine codeAny_mono ((F _ hKb (nsK hns) TB).run callerA [] s₁ H ⟨[.ref a], []⟩ [.ref a] [.ref a] _ _ rfl hr e0 (hbind s₁ (.ref a)) (.cons rfl .nil) (hsp H hH hS)) fun r s' h => ?_
    cases r with
    | error e => exact False.elim h
    | ok fl =>
      cases fl with
      | next => exact False.elim h
      | brk => exact False.elim h
      | cont => exact False.elim h
      | ret u =>
        obtain ⟨v, H', os, bare, un, hok', r', q⟩ := h
        have q' : v = .bl true := q
        subst q'
        obtain rfl : u = Value.bool true := r'
        have same : ∀ b o, b ≠ T → s₁.heap.get? b = some o → s'.heap.get? b = some o := fun b o nb e => by
          cases q : H b with
          | none => exact un.keep b o e q (by intro z; exact absurd (show b ∈ ([] : List Addr) from z) (by simp)) (by simp)
          | some u =>
            rcases hO b with z | z | ⟨ob, xs, z⟩
            · rw [q] at z
              cases z
            · exact absurd z nb
            · have z2 := un.frzs b ob _ z
              obtain ⟨e1, _⟩ := hok b _ z
              obtain ⟨e2, _⟩ := hok' b _ z2
              rw [e] at e1
              cases e1
              exact e2
        obtain ⟨more, zT⟩ := un.tbls T #[] hH
        have hm : s'.heap.get? T = some { cls := .none, data := .fields (#[] ++ more) } := hok' T _ zT
        refine ⟨rfl, ⟨fun b o e => ?_, fun b o e => ?_⟩, os, bare⟩
        · by_cases hb : b = T
          · rw [hb] at e ⊢
            rw [hT] at e
            cases e
            exact .inr (.inl ⟨(C.tab hT).isCodeTable, rfl, #[], more, rfl, hm⟩)
          · exact .inl (same b o hb e)
        · by_cases hb : b = T
          · rw [hb]
            exact ⟨_, hm⟩
          · exact ⟨o, same b o hb e⟩
  cases hk : K.lookup a with
  | some o =>
    have e := KX a o hk
    rw [ha] at e
    cases e
    refine core (fun b => if b = T then some (.tbl #[]) else none) (if_pos rfl) (fun b => ?_) (.inr ⟨_, vs.toArray, _, hk, rfl, rfl, rfl, by rw [List.size_toArray, lenV]; exact hl, by simpa using rv⟩) (fun b u z => ?_) (fun b z => ?_) fun z => absurd (show (if a = T then some (HO.tbl #[]) else none) = none from if_neg aT) z
    · by_cases hb : b = T
      · exact .inr (.inl hb)
      · exact .inl (if_neg hb)
    · by_cases hb : b = T
      · have z' := (if_pos hb).symm.trans z
        cases z'
        rw [hb]
        exact hT
      · have z' := (if_neg hb).symm.trans z
        cases z'
    · by_cases hb : b = T
      · exact .inr hb
      · exact absurd (if_neg hb) z
  | none =>
    refine core (fun b => if b = a then some (.frz { cls := .type "list", data := .seq vs.toArray } (.lst (ns.map V.int))) else if b = T then some (.tbl #[]) else none) ((if_neg (show ¬ T = a from fun z => aT z.symm)).trans (if_pos rfl)) (fun b => ?_)
      (.inl (.inr ⟨{ cls := .type "list", data := .seq vs.toArray }, if_pos rfl⟩)) (fun b u z => ?_) (fun b z => ?_) fun _ => hk
    · by_cases hb : b = a
      · exact .inr (.inr ⟨_, _, if_pos hb⟩)
      · by_cases hb2 : b = T
        · exact .inr (.inl hb2)
        · exact .inl ((if_neg hb).trans (if_neg hb2))
    · by_cases hb : b = a
      · have z' := (if_pos hb).symm.trans z
        cases z'
        rw [hb]
        exact ⟨ha, by rw [List.length_map]; exact hl, vs, _, rv, ha⟩
      · have z1 := (if_neg hb).symm.trans z
        by_cases hb2 : b = T
        · have z' := (if_pos hb2).symm.trans z1
          cases z'
          rw [hb2]
          exact hT
        · have z' := (if_neg hb2).symm.trans z1
          cases z'
    · by_cases hb : b = a
      · exact .inl hb
      · by_cases hb2 : b = T
        · exact .inr hb2
        · exact absurd ((if_neg hb).trans (if_neg hb2)) z
/-- the end: what is to be shown at the head's heap -/
def LawAtG (l : PySem.W.OpenLaw) (w : World) (K : PySem.W.Frag) (k n : Nat) (x : Str) (mg : Str → Option Value) (fa : Addr) (h : Heap) : Prop :=
  ∃ (fd : FuncData) (c T : Addr) (sp : Sp), h.get? T = some { cls := .none, data := .fields #[] } ∧ K.lookup T = none ∧ PySem.W.CodeHd h c T ∧ (∀ (s : Shared) (u : Value), BindsTo s fd ⟨[u], []⟩ [(x, u)]) ∧
    (∀ (H : Hp) (a : Addr) (ns : List Int), ns.length ≤ n → (∀ z ∈ ns, Builtin.Int.intBits z ≤ 1048576) → H T = some (.tbl #[]) → SqL K H a (ns.map V.int) → sp [.ref a] H (fun v _ => v = .bl true) fun _ _ _ => False) ∧
    ∀ base : Heap, K.In base → base.Ns mainGlobals mg → TabB base mg c T → FnOkG l.prog w K mg base CX0 k fa fd [x] sp
theorem walk_ofG {l : PySem.W.OpenLaw} {n k : Nat} {q : Program} {loose : List Str} {XP : (Str → Option Value) → Heap → Prop} {YP : World → Heap → Prop} {d : DefRec} {K : Params → PySem.W.Frag} {x : Str}
    (hn : l.most = some n) (hn2 : n ≤ sizeLine) (hdf : d.params.defaults = []) (hr : Room k callerA) (hY : ∀ (w : World) (h : Heap), YP w h → (K w.params).In h)
    (F : ∀ (w : World) (s₀ : Shared) (mg mb : Str → Option Value) (fa : Addr) (h : Heap), PySem.W.Ground q loose [] XP w s₀ mg mb h → YP w h → (K w.params).In h → mg d.name = some (.ref fa) → LawAtG l w (K w.params) k n x mg fa h) :
    PySem.W.WalkO q loose XP YP l.row.toRowW d [] (fun f vs => PySem.call f vs) := by
  refine Att.attach_callB hn hdf fun w s₀ s₁ mg mb fa o pm cd doc a vs ns G Y ho hd hcd hmg hobj hints hlen hbits hg => ?_
  have KX := hY w _ Y
  obtain ⟨fd, c, T, sp, hT, nT, C, hb, hsp, hF⟩ := F w s₀ mg mb fa _ G Y KX hmg
  exact law_callG KX G.T.g G.T.b G.T.builtins G.T.nolimit hg hT nT C G.T.bmain hobj hints (Nat.le_trans hlen hn2) hr hF hb (fun H hH hS => hsp H a ns hlen hbits hH hS)
end K88
set_option maxHeartbeats 1000000
/-! Data in the tracked heap, and short words for the walks. -/
namespace K88
open PySem PySem.Spec PyProof.Rows L2 LamX
/-! ### tuples stay -/
structure Tups (H H' : Hp) : Prop where
  tup : ∀ b xs, H b = some (.tup xs) → H' b = some (.tup xs)
  frz : ∀ b o u, H b = some (.frz o u) → H' b = some (.frz o u)
theorem Tups.refl (H : Hp) : Tups H H := ⟨fun _ _ h => h, fun _ _ _ h => h⟩
theorem Tups.trans {H H1 H2 : Hp} (a : Tups H H1) (b : Tups H1 H2) : Tups H H2 := ⟨fun c xs h => b.tup c xs (a.tup c xs h), fun c o u h => b.frz c o u (a.frz c o u h)⟩
theorem Tups.of {H H' : Hp} (e : Same H H') : Tups H H' := ⟨fun _ _ h => e _ _ h, fun _ _ _ h => e _ _ h⟩
theorem Tups.ofN {H H' : Hp} (e : ExtN H H') : Tups H H' := ⟨fun _ _ h => e _ _ h (fun _ z => by cases z), fun _ _ _ h => e _ _ h (fun _ z => by cases z)⟩
theorem Tups.put {H : Hp} {p : Addr} {o : HO} (h : Mut (H p)) : Tups H (upd H p o) := by
  constructor
  · intro b xs e
    have n : b ≠ p := fun z => by rw [← z, e] at h; exact h
    rw [upd_ne n]
    exact e
  · intro b o' u e
    have n : b ≠ p := fun z => by rw [← z, e] at h; exact h
    rw [upd_ne n]
    exact e
theorem Tups.seq {K : PySem.W.Frag} {H H' : Hp} (t : Tups H H') {a : Addr} {xs : List V} (h : SqT K H a xs) : SqT K H' a xs := by
  rcases h with (h | ⟨o, h⟩) | h
  · exact .inl (.inl (t.tup _ _ h))
  · exact .inl (.inr ⟨o, t.frz _ _ _ h⟩)
  · exact .inr h
theorem same_new {H : Hp} {p : Addr} {o : HO} (h : H p = none) : Same H (upd H p o) := fun b u e => by
  rw [upd_ne (ne_of_none e h)]
  exact e
theorem _root_.L2.Same.seqT {K : PySem.W.Frag} {H H' : Hp} {a : Addr} {xs : List V} (e : Same H H') (h : SqT K H a xs) : SqT K H' a xs := (Tups.of e).seq h
/-- behind a store to an object that was not tracked at the beginning -/
theorem _root_.L2.Same.put {H H1 : Hp} {p : Addr} {o : HO} (e : Same H H1) (h : H p = none) : Same H (upd H1 p o) := fun b u q => by
  rw [upd_ne (ne_of_none q h)]
  exact e _ _ q
theorem _root_.L2.Same.new {H H1 : Hp} {p : Addr} {o : HO} (e : Same H H1) (h : H1 p = none) : Same H (upd H1 p o) := e.put (e.free h)
/-! ### data of tuples alone -/
mutual
def tupOnly : PyData → Bool
  | .none => true
  | .bool _ => true
  | .int _ => true
  | .str _ => true
  | .tuple xs => tupOnlyAll xs
  | .list _ => false
  | .dict _ => false
def tupOnlyAll : List PyData → Bool
  | [] => true
  | x :: xs => tupOnly x && tupOnlyAll xs
end
theorem tupOnlyAll_iff : ∀ {ds : List PyData}, tupOnlyAll ds = true ↔ ∀ d ∈ ds, tupOnly d = true
  | [] => by simp [tupOnlyAll]
  | d :: ds => by
    rw [tupOnlyAll, Bool.and_eq_true, tupOnlyAll_iff]
    simp
section
variable {K : PySem.W.Frag} {H H' : Hp}
mutual
theorem dp_tups (t : Tups H H') : ∀ (d : PyData) (v : V), tupOnly d = true → Dp K H v d → Dp K H' v d
  | .none, _, _, h => by cases h; exact .non
  | .bool b, _, _, h => by cases h; exact .bl b
  | .int i, _, _, h => by cases h; exact .int i
  | .str x, _, _, h => by cases h; exact .str x
  | .tuple ds, _, n, h => by
    cases h with
    | tup hs ha => exact .tup (t.seq hs) (dpAll_tups t ds _ (by rw [tupOnly] at n; exact n) ha)
  | .list ds, _, n, _ => by rw [tupOnly] at n; cases n
  | .dict ds, _, n, _ => by rw [tupOnly] at n; cases n
theorem dpAll_tups (t : Tups H H') : ∀ (ds : List PyData) (vs : List V), tupOnlyAll ds = true → DpAll K H vs ds → DpAll K H' vs ds
  | [], _, _, h => by cases h; exact .nil
  | d :: ds, _, n, h => by
    rw [tupOnlyAll, Bool.and_eq_true] at n
    cases h with
    | cons h1 h2 => exact .cons (dp_tups t d _ n.1 h1) (dpAll_tups t ds _ n.2 h2)
end
theorem dp_seq_ext (e : ExtN H H') {a : Addr} {xs : List V} (h : SqL K H a xs) : SqL K H' a xs := by
  rcases h with (h | ⟨o, h⟩) | h
  · exact .inl (.inl (e _ _ h (fun _ z => by cases z)))
  · exact .inl (.inr ⟨o, e _ _ h (fun _ z => by cases z)⟩)
  · exact .inr h
mutual
theorem dp_ext (e : ExtN H H') : ∀ (d : PyData) (v : V), Dp K H v d → Dp K H' v d
  | .none, _, h => by cases h; exact .non
  | .bool b, _, h => by cases h; exact .bl b
  | .int i, _, h => by cases h; exact .int i
  | .str x, _, h => by cases h; exact .str x
  | .tuple ds, _, h => by
    cases h with
    | tup hs ha => exact .tup ((Tups.ofN e).seq hs) (dpAll_ext e ds _ ha)
  | .list ds, _, h => by
    cases h with
    | lst hs ha => exact .lst (dp_seq_ext e hs) (dpAll_ext e ds _ ha)
  | .dict ds, _, h => by cases h
theorem dpAll_ext (e : ExtN H H') : ∀ (ds : List PyData) (vs : List V), DpAll K H vs ds → DpAll K H' vs ds
  | [], _, h => by cases h; exact .nil
  | d :: ds, _, h => by
    cases h with
    | cons h1 h2 => exact .cons (dp_ext e d _ h1) (dpAll_ext e ds _ h2)
end
theorem dp_same (e : Same H H') {d : PyData} {v : V} (h : Dp K H v d) : Dp K H' v d := dp_ext (ExtN.of e) d v h
theorem dpAll_same (e : Same H H') {ds : List PyData} {vs : List V} (h : DpAll K H vs ds) : DpAll K H' vs ds := dpAll_ext (ExtN.of e) ds vs h
theorem dp_tuple {v : V} {ds : List PyData} (h : Dp K H v (.tuple ds)) : ∃ a vs, v = .ref a ∧ SqT K H a vs ∧ DpAll K H vs ds := by
  cases h with
  | tup h1 h2 => exact ⟨_, _, rfl, h1, h2⟩
theorem dp_list {v : V} {ds : List PyData} (h : Dp K H v (.list ds)) : ∃ a vs, v = .ref a ∧ SqL K H a vs ∧ DpAll K H vs ds := by
  cases h with
  | lst h1 h2 => exact ⟨_, _, rfl, h1, h2⟩
theorem dp_int {v : V} {i : Int} (h : Dp K H v (.int i)) : v = .int i := by cases h; rfl
theorem dp_str {v : V} {x : Str} (h : Dp K H v (.str x)) : v = .str x := by cases h; rfl
theorem dpAll_len {vs : List V} {ds : List PyData} (h : DpAll K H vs ds) : vs.length = ds.length := by
  induction ds generalizing vs with
  | nil => cases h; rfl
  | cons d ds ih =>
    cases h with
    | cons h1 h2 => rw [List.length_cons, List.length_cons, ih h2]
theorem dpAll_at {vs : List V} {ds : List PyData} (h : DpAll K H vs ds) {i : Nat} {x : V} (hx : vs[i]? = some x) : ∃ d, ds[i]? = some d ∧ Dp K H x d := by
  induction ds generalizing vs i with
  | nil => cases h; simp at hx
  | cons d ds ih =>
    cases h with
    | cons h1 h2 =>
      cases i with
      | zero =>
        simp only [List.getElem?_cons_zero, Option.some.injEq] at hx
        subst hx
        exact ⟨d, rfl, h1⟩
      | succ i => exact ih h2 (by simpa using hx)
theorem dpAll_get {vs : List V} {ds : List PyData} (h : DpAll K H vs ds) {i : Nat} {d : PyData} (hd : ds[i]? = some d) : ∃ x, vs[i]? = some x ∧ Dp K H x d := by
  have l := dpAll_len h
  have hi : i < vs.length := by rw [l]; exact (List.getElem?_eq_some_iff.mp hd).1
  obtain ⟨d', e1, e2⟩ := dpAll_at h (List.getElem?_eq_getElem hi)
  rw [hd] at e1
  cases e1
  exact ⟨_, List.getElem?_eq_getElem hi, e2⟩
theorem dpAll_append {vs ws : List V} {ds es : List PyData} (h : DpAll K H vs ds) (k : DpAll K H ws es) : DpAll K H (vs ++ ws) (ds ++ es) := by
  induction ds generalizing vs with
  | nil => cases h; exact k
  | cons d ds ih =>
    cases h with
    | cons h1 h2 => exact .cons h1 (ih h2)
theorem dpAll_snoc {vs : List V} {ds : List PyData} {x : V} {d : PyData} (h : DpAll K H vs ds) (k : Dp K H x d) : DpAll K H (vs ++ [x]) (ds ++ [d]) := dpAll_append h (.cons k .nil)
theorem dpAll_take {vs : List V} {ds : List PyData} (n : Nat) (h : DpAll K H vs ds) : DpAll K H (vs.take n) (ds.take n) := by
  induction ds generalizing vs n with
  | nil => cases h; simp; exact .nil
  | cons d ds ih =>
    cases h with
    | cons h1 h2 =>
      cases n with
      | zero => simp; exact .nil
      | succ n => rw [List.take_succ_cons, List.take_succ_cons]; exact .cons h1 (ih n h2)
theorem dpAll_drop {vs : List V} {ds : List PyData} (n : Nat) (h : DpAll K H vs ds) : DpAll K H (vs.drop n) (ds.drop n) := by
  induction ds generalizing vs n with
  | nil => cases h; simp; exact .nil
  | cons d ds ih =>
    cases n with
    | zero => simpa using h
    | succ n =>
      cases h with
      | cons h1 h2 => rw [List.drop_succ_cons, List.drop_succ_cons]; exact ih n h2
/-- numbers -/
def natD (l : List Nat) : List PyData := l.map fun (n : Nat) => .int (n : Int)
theorem dpAll_nats : ∀ l : List Nat, DpAll K H (nats l) (natD l)
  | [] => .nil
  | n :: l => .cons (.int _) (dpAll_nats l)
theorem nats_of : ∀ {l : List Nat} {vs : List V}, DpAll K H vs (natD l) → vs = nats l
  | [], _, h => by cases h; rfl
  | n :: l, _, h => by
    cases h with
    | cons h1 h2 =>
      rw [dp_int h1, nats_of h2]
      rfl
theorem nats_len (l : List Nat) : (nats l).length = l.length := by simp [nats]
theorem natD_len (l : List Nat) : (natD l).length = l.length := by simp [natD]
theorem nats_get (l : List Nat) (i : Nat) : (nats l)[i]? = l[i]?.map fun (n : Nat) => V.int (n : Int) := by simp [nats]
theorem nats_ints (l : List Nat) : nats l = (l.map fun (n : Nat) => (n : Int)).map V.int := by simp [nats]
theorem tupOnly_nat (l : List Nat) : tupOnlyAll (natD l) = true := by
  rw [tupOnlyAll_iff]
  intro d hd
  obtain ⟨n, _, rfl⟩ := List.mem_map.mp hd
  rfl
/-! ### types -/
def tyD : PyData → String
  | .none => "NoneType"
  | .bool _ => "bool"
  | .int _ => "int"
  | .str _ => "str"
  | .list _ => "list"
  | .tuple _ => "tuple"
  | .dict _ => "dict"
theorem dp_ty {v : V} {d : PyData} (h : Dp K H v d) : TyX K H v (.type (tyD d)) := by
  cases h with
  | non => exact .base .non
  | bl b => exact .base (.bl b)
  | int i => exact .base (.int i)
  | str x => exact .base (.str x)
  | lst hs _ =>
    rcases hs with (hs | ⟨o, hs⟩) | ⟨o, _, _, h1, h2, _⟩
    · exact .base (.lst hs)
    · exact .base (.frz hs)
    · exact .kList h1 h2
  | tup hs _ =>
    rcases hs with (hs | ⟨o, hs⟩) | ⟨o, _, _, h1, h2, _⟩
    · exact .base (.tup hs)
    · exact .fTuple hs
    · exact .kTuple h1 h2
end
def rIsD (K : PySem.W.Frag) : List V → Hp → VK → Prop := fun xs H Q => ∃ (x : V) (d : PyData) (T : String) (b : Bool), xs = [x, .ty T] ∧ Dp K H x d ∧ kitB (tyD d) T = some b ∧ Q (.bl b) H
theorem call_isD {X : Cx} : CallR X (.builtin "isinstance") (rIsD X.K) := by
  intro pins s σ H xs us Q I r h
  obtain ⟨x, d, T, b, rfl, hd, hk, q⟩ := h
  exact call_isi pins s σ H _ us Q I r ⟨x, .ty T, _, _, b, rfl, .ty T, dp_ty hd, kit_ty hk, q⟩
/-! ### defs that do as promised -/
def Does (P : Program) (w : World) (K : PySem.W.Frag) (mg : Str → Option Value) (base : Heap) (CX : CXT) (k : Nat) (x : Str) (ps : List Str) (sp : Sp) : Prop :=
  ∃ f fd, mg x = some (.ref f) ∧ PySem.W.keepIn K (.ref f) = true ∧ L2.Binds K fd ps [] ∧ FnOk P w K mg base CX k f fd ps sp
def DoesG (P : Program) (w : World) (K : PySem.W.Frag) (mg : Str → Option Value) (base : Heap) (CX : CXT) (k : Nat) (x : Str) (ps : List Str) (sp : Sp) : Prop :=
  ∃ f fd, mg x = some (.ref f) ∧ PySem.W.keepIn K (.ref f) = true ∧ L2.Binds K fd ps [] ∧ FnOkG P w K mg base CX k f fd ps sp
/-- where a def stands behind the top -/
def At (K : PySem.W.Frag) (mg : Str → Option Value) (x : Str) (st : Stmt) : Prop := ∃ f fd, Fun K x x st f fd ∧ mg x = some (.ref f)
section
variable {X : Cx} {CX : CXT} {k : Nat} {ps : List Str} {sp : Sp} {E : XK} {x : Str} {p pos : Pos} {e : Expr} {es : List Expr} {t : TA}
theorem pe_do (D : Does X.prog X.w X.K X.mg X.base CX k x ps sp) (hr : Room k X.A) (hx : Passes CX X E) (ha : PA X (e :: es) t) (hg : Gl X x := by rfl) (hdb : (x == ("__debug__" : Str)) = false := by decide)
    (he : starEach (e :: es) X.env = (false, eval e X.env) :: starEach es X.env := by rfl) (hpl : (backTo pos (starEach es X.env)).any (·.1) = false := by rfl) : PE X (.Call (.Name x p) (e :: es) [] pos) (tCall sp [] E t) := by
  obtain ⟨f, fd, h1, h2, h3, h4⟩ := D
  exact pe_call h4 hr hg h1 h2 h3 .nil hx ha hdb he hpl
theorem pe_doG (hgu : X.A.guards = some []) (D : DoesG X.prog X.w X.K X.mg X.base CX k x ps sp) (hr : Room k X.A) (hx : Passes CX X E) (ha : PA X (e :: es) t) (hg : Gl X x := by rfl) (hdb : (x == ("__debug__" : Str)) = false := by decide)
    (he : starEach (e :: es) X.env = (false, eval e X.env) :: starEach es X.env := by rfl) (hpl : (backTo pos (starEach es X.env)).any (·.1) = false := by rfl) : PE X (.Call (.Name x p) (e :: es) [] pos) (tCall sp [] E t) := by
  obtain ⟨f, fd, h1, h2, h3, h4⟩ := D
  exact pe_callG hgu h4 hr hg h1 h2 h3 .nil hx ha hdb he hpl
end
theorem Does.mono {P : Program} {w : World} {K : PySem.W.Frag} {mg : Str → Option Value} {base : Heap} {CX : CXT} {j k : Nat} {x : Str} {ps : List Str} {sp : Sp} (D : Does P w K mg base CX j x ps sp) (h : j ≤ k) : Does P w K mg base CX k x ps sp := by
  obtain ⟨f, fd, h1, h2, h3, h4⟩ := D
  exact ⟨f, fd, h1, h2, h3, h4.mono h⟩
/-! ### comprehensions that make data -/
section
variable {K : PySem.W.Frag} {J : It} {n : Nat} {G : Hp → Prop} {Y : Nat → Hp → V → Hp → Prop}
/-- a list of data ds, item by item; nothing that stood is changed -/
theorem lc_data (w : Walk J n G Y) {g : TG} {tt : TT} {te : TE} {vs : List Nat} {σ : L2.St} {H1 : Hp} {D : Addr} {Qd : Hp → Prop} (ds : List PyData) (hn : ds.length = n) (hz : n ≤ sizeLine) (hD : H1 D = none) (hG : ∀ H, Same H1 H → G H)
    (hs : ∀ i x H H' d (R : V → Hp → Prop) (R' : Hp → Prop), ds[i]? = some d → Same H1 H → Y i H x H' → (∀ y H4, Same H H4 → Dp K H4 y d → R y H4) → g x (wipe σ vs) H' fun σ2 H2 => wipe σ2 vs = wipe σ vs ∧ tt σ2 H2 fun b H3 => if b = true then te σ2 H3 R else R' H3)
    (to : tupOnlyAll ds = true)
    (hd : ∀ H us, Same H1 H → H D = some (.lst us) → DpAll K H us ds → Qd H) :
    ∃ W : Nat → Nat → Hp → Prop, (∃ m, W 0 m (upd H1 D (.lst []))) ∧ ∀ i m H, W i m H →
      (J.stop i H ∧ Qd H) ∨ (J.go i H ∧ ∃ Nx : Hp → Prop, (∀ H', Nx H' → ∃ m', m' < m ∧ W (i + 1) m' H') ∧ ∀ x H', J.yld i H x H' → g x (wipe σ vs) H' fun σ2 H2 => wipe σ2 vs = wipe σ vs ∧ tt σ2 H2 fun b H3 =>
        if b = true then te σ2 H3 fun y H4 => ∃ acc, H4 D = some (.lst acc) ∧ acc.length < sizeLine ∧ Nx (upd H4 D (.lst (acc ++ [y]))) else Nx H3) := by
  refine lc_it w (fun i H => Same H1 H ∧ ∃ us, H D = some (.lst us) ∧ DpAll K H us (ds.take i)) ⟨same_new hD, [], upd_same, .nil⟩ (fun i H _ h => hG H h.1) (fun i x H H' hi ⟨s, us, e, du⟩ y => ?_) fun H ⟨s, us, e, du⟩ => hd H us s e (by rw [← hn, List.take_length] at du; exact du)
  have hi' : i < ds.length := by omega
  refine hs i x H H' ds[i] _ _ (List.getElem?_eq_getElem hi') s y fun z H4 s4 dz => ⟨us, s4 _ _ e, ?_, ?_⟩
  · rw [dpAll_len du, List.length_take]
    omega
  · have t4 : Tups H4 (upd H4 D (.lst (us ++ [z]))) := Tups.put (by rw [s4 _ _ e]; exact True.intro)
    refine ⟨(s.trans s4).put hD, us ++ [z], upd_same, ?_⟩
    have et : ds.take (i + 1) = ds.take i ++ [ds[i]] := (List.take_append_getElem hi').symm
    rw [et]
    have toI : tupOnlyAll (ds.take i) = true := tupOnlyAll_iff.mpr fun d hd => tupOnlyAll_iff.mp to d (List.mem_of_mem_take hd)
    exact dpAll_tups t4 _ _ (tupOnlyAll_iff.mpr fun d hd => by
      rcases List.mem_append.mp hd with q | q
      · exact tupOnlyAll_iff.mp toI d q
      · rw [List.mem_singleton] at q
        rw [q]
        exact tupOnlyAll_iff.mp to _ (List.getElem_mem hi')) (dpAll_snoc (dpAll_same s4 du) dz)
/-- flat items out i of the turns that pass the test p -/
theorem lc_pick (w : Walk J n G Y) {g : TG} {tt : TT} {te : TE} {vs : List Nat} {σ : L2.St} {H1 : Hp} {D : Addr} {Qd : Hp → Prop} (p : Nat → Bool) (out : Nat → V) (hz : n ≤ sizeLine) (hD : H1 D = none) (hG : ∀ H, Same H1 H → G H)
    (hs : ∀ i x H H' (R : V → Hp → Prop) (R' : Hp → Prop), i < n → Same H1 H → Y i H x H' → (p i = true → ∀ H4, Same H H4 → R (out i) H4) → (p i = false → ∀ H4, Same H H4 → R' H4) →
      g x (wipe σ vs) H' fun σ2 H2 => wipe σ2 vs = wipe σ vs ∧ tt σ2 H2 fun b H3 => if b = true then te σ2 H3 R else R' H3)
    (hd : ∀ H, Same H1 H → H D = some (.lst (((List.range n).filter p).map out)) → Qd H) :
    ∃ W : Nat → Nat → Hp → Prop, (∃ m, W 0 m (upd H1 D (.lst []))) ∧ ∀ i m H, W i m H →
      (J.stop i H ∧ Qd H) ∨ (J.go i H ∧ ∃ Nx : Hp → Prop, (∀ H', Nx H' → ∃ m', m' < m ∧ W (i + 1) m' H') ∧ ∀ x H', J.yld i H x H' → g x (wipe σ vs) H' fun σ2 H2 => wipe σ2 vs = wipe σ vs ∧ tt σ2 H2 fun b H3 =>
        if b = true then te σ2 H3 fun y H4 => ∃ acc, H4 D = some (.lst acc) ∧ acc.length < sizeLine ∧ Nx (upd H4 D (.lst (acc ++ [y]))) else Nx H3) := by
  have len : ∀ i, (((List.range i).filter p).map out).length ≤ i := fun i => by
    rw [List.length_map]
    exact Nat.le_trans (List.length_filter_le _ _) (by rw [List.length_range]; exact Nat.le_refl _)
  refine lc_it w (fun i H => Same H1 H ∧ H D = some (.lst (((List.range i).filter p).map out))) ⟨same_new hD, upd_same⟩ (fun i H _ h => hG H h.1) (fun i x H H' hi ⟨s, e⟩ y => ?_) fun H ⟨s, e⟩ => hd H s e
  refine hs i x H H' _ _ hi s y (fun hp H4 s4 => ⟨_, s4 _ _ e, ?_, ?_⟩) fun hp H4 s4 => ⟨s.trans s4, ?_⟩
  · have := len i
    omega
  · refine ⟨(s.trans s4).put hD, ?_⟩
    rw [upd_same, List.range_succ, List.filter_append, List.map_append]
    simp [hp]
  · rw [s4 _ _ e, List.range_succ, List.filter_append, List.map_append]
    simp [hp]
end
end K88
set_option maxHeartbeats 1000000
/-! The walks: is_whole, is_way, is_seat, common, round_of. -/
namespace K88
open PySem PySem.Spec PyProof.Rows L2 LamX
/-- the built-ins that the text calls are still the built-ins -/
structure Blt (mg : Str → Option Value) : Prop where
  isinstance : mg "isinstance" = none
  int : mg "int" = none
  bool : mg "bool" = none
  tuple : mg "tuple" = none
  str : mg "str" = none
  len : mg "len" = none
  sum : mg "sum" = none
  enumerate : mg "enumerate" = none
  zip : mg "zip" = none
  all : mg "all" = none
  range : mg "range" = none
  max : mg "max" = none
  min : mg "min" = none
  list : mg "list" = none
  repr : mg "repr" = none
/-- the module's constants -/
structure Cns (mg : Str → Option Value) : Prop where
  sideA : ∃ t, mg "SIDE_A" = some (.str "a" t)
  sideB : ∃ t, mg "SIDE_B" = some (.str "b" t)
  kept : ∃ t, mg "KEPT" = some (.str "kept" t)
  ward : ∃ t, mg "WARD" = some (.str "ward" t)
  body : ∃ t, mg "BODY" = some (.str "body" t)
  rest : ∃ t, mg "REST" = some (.str "rest" t)
  mostBodies : ∃ t, mg "MOST_BODIES" = some (.int 3 t)
  mostSeats : ∃ t, mg "MOST_SEATS" = some (.int 9 t)
  mostTerm : ∃ t, mg "MOST_TERM" = some (.int 6 t)
  mostWards : ∃ t, mg "MOST_WARDS" = some (.int 4 t)
  mostRound : ∃ t, mg "MOST_ROUND" = some (.int 12 t)
section
variable {P : Program} {w : World} {K : PySem.W.Frag} {mg : Str → Option Value} {base : Heap}
/-! ### is_whole -/
def wholeD : PyData → Int → Int → Bool
  | .int i, lo, hi => decide (lo ≤ i) && decide (i ≤ hi)
  | _, _, _ => false
def spWhole (K : PySem.W.Frag) : Sp := fun vs H Q _ => ∃ x lo hi d, vs = [x, .int lo, .int hi] ∧ Dp K H x d ∧ Q (.bl (wholeD d lo hi)) H
theorem sc_whole : FnScope ["value", "least", "most"] ["value", "least", "most"] (defScope sWhole) := ⟨rfl, rfl, rfl, by decide +kernel, rfl, by decide +kernel, by decide +kernel⟩
theorem do_whole (T : Blt mg) (A : At K mg "is_whole" sWhole) : Does P w K mg base CX0 1 "is_whole" ["value", "least", "most"] (spWhole K) := by
  obtain ⟨f, fd, F, hm⟩ := A
  refine ⟨f, fd, hm, F.kp, F.binds fun _ _ _ _ _ _ us hl => match us, hl with | [_, _, _], _ => rfl, F.ok sc_whole (fun vs H Q E h => ?_) (fun cdv A outer s H vs Q E hr h => ?_)⟩
  · obtain ⟨_, _, _, _, rfl, _⟩ := h
    rfl
  · obtain ⟨x, lo, hi, d, rfl, hd, q⟩ := h
    refine ⟨_, pss_one (ps_ret (pe_and (pe_callB call_isD (by rfl) T.isinstance (by decide +kernel) (pa_cons (pv 0) (pa_cons (pe_bltn (v := .ty "int") (by rfl) T.int (by decide +kernel) rfl) pa_nil)))
      (pe_and (pe_not (pe_callB call_isD (by rfl) T.isinstance (by decide +kernel) (pa_cons (pv 0) (pa_cons (pe_bltn (v := .ty "bool") (by rfl) T.bool (by decide +kernel) rfl) pa_nil))))
        (pe_one (pe_chain op_le op_le (pv 1) (pv 0) (pv 2)))))), ?_⟩
    cases d with
    | int i =>
      have e := dp_int hd
      subst e
      refine ⟨_, rfl, _, _, "int", true, rfl, hd, (show kitB "int" "int" = some true by decide +kernel), true, rfl, iteT ?_⟩
      refine ⟨_, rfl, _, _, "bool", false, rfl, hd, (show kitB "int" "bool" = some false by decide +kernel), false, rfl, true, rfl, iteT ?_⟩
      refine ⟨_, rfl, _, rfl, _, _, rfl, rfl, _, rfl, ?_⟩
      have q' : Q (.bl (decide (lo ≤ i) && decide (i ≤ hi))) H := q
      by_cases c : lo ≤ i
      · rw [decide_eq_true c] at q' ⊢
        exact iteT ⟨_, rfl, _, _, rfl, rfl, q'⟩
      · rw [decide_eq_false c] at q' ⊢
        exact iteF q'
    | bool b =>
      refine ⟨_, rfl, _, _, "int", true, rfl, hd, (show kitB "bool" "int" = some true by decide +kernel), true, rfl, iteT ?_⟩
      exact ⟨_, rfl, _, _, "bool", true, rfl, hd, (show kitB "bool" "bool" = some true by decide +kernel), true, rfl, false, rfl, iteF q⟩
    | none => exact ⟨_, rfl, _, _, "int", false, rfl, hd, (show kitB "NoneType" "int" = some false by decide +kernel), false, rfl, iteF q⟩
    | str z => exact ⟨_, rfl, _, _, "int", false, rfl, hd, (show kitB "str" "int" = some false by decide +kernel), false, rfl, iteF q⟩
    | list z => exact ⟨_, rfl, _, _, "int", false, rfl, hd, (show kitB "list" "int" = some false by decide +kernel), false, rfl, iteF q⟩
    | tuple z => exact ⟨_, rfl, _, _, "int", false, rfl, hd, (show kitB "tuple" "int" = some false by decide +kernel), false, rfl, iteF q⟩
    | dict z => cases hd
/-! ### common -/
def spCommon : Sp := fun vs H Q _ => ∃ m n : Nat, vs = [.int m, .int n] ∧ Q (.int (Nat.gcd m n : Nat)) H
theorem sc_common : FnScope ["one", "other"] ["one", "other"] (defScope sCommon) := ⟨rfl, rfl, rfl, by decide +kernel, rfl, by decide +kernel, by decide +kernel⟩
theorem do_common (T : Blt mg) (A : At K mg "common" sCommon) : Does P w K mg base CX0 1 "common" ["one", "other"] spCommon := by
  obtain ⟨f, fd, F, hm⟩ := A
  refine ⟨f, fd, hm, F.kp, F.binds fun _ _ _ _ _ _ us hl => match us, hl with | [_, _], _ => rfl, F.ok sc_common (fun vs H Q E h => ?_) (fun cdv A outer s H vs Q E hr h => ?_)⟩
  · obtain ⟨_, _, rfl, _⟩ := h
    rfl
  · obtain ⟨m, n, rfl, q⟩ := h
    refine ⟨_, pss_cons (ps_while PassesOwn.never (pt_cmpR op_ne (pv 1) pe_int (nomark _))
      (pss_one (ps_par (i := 0) (j := 1) (by rfl) sc_common.nd rfl rfl (by decide) rfl rfl (pa_cons (pv 1) (pa_cons (pe_op op_modN (pe_callTy call_int1 (by rfl) T.int (by decide +kernel) (pa_cons (pv 0) pa_nil)) (pv 1)) pa_nil)) (by rfl))))
      (pss_one (ps_ret (pv 0))), ?_⟩
    refine while_by (fun σ H' => H' = H ∧ ∃ a b : Nat, σ = [some (.int a), some (.int b)] ∧ Nat.gcd a b = Nat.gcd m n) (fun σ _ => match σ with | [_, some (.int b)] => b.toNat | _ => 0) ⟨rfl, m, n, rfl, rfl⟩ ?_ ?_
    · rintro σ H' ⟨rfl, a, b, rfl, hg⟩
      refine ⟨_, rfl, rfl, _, rfl, ?_⟩
      by_cases c : b = 0
      · have e : (!decide (V.int (b : Int) = V.int 0)) = false := by rw [c]; rfl
        show if (!decide (V.int (b : Int) = V.int 0)) = true then _ else _
        rw [e]
        refine iteF ⟨_, rfl, ?_⟩
        rw [c, Nat.gcd_zero_right] at hg
        rw [hg]
        exact q
      · have e : (!decide (V.int (b : Int) = V.int 0)) = true := by
          rw [decide_eq_false (fun z => c (by injection z with z; omega))]
          rfl
        show if (!decide (V.int (b : Int) = V.int 0)) = true then _ else _
        rw [e]
        refine iteT ⟨_, rfl, _, rfl, .inl ⟨_, rfl, _, rfl, _, _, rfl, rfl, by omega, _, _, rfl, ?_⟩⟩
        have e2 : (a : Int).fmod (b : Int) = ((a % b : Nat) : Int) := by rw [Int.fmod_eq_emod_of_nonneg _ (by omega)]; rfl
        refine ⟨⟨rfl, b, a % b, ?_, ?_⟩, ?_⟩
        · show [some (V.int (b : Int)), some (V.int ((a : Int).fmod (b : Int)))] = _
          rw [e2]
        · rw [← hg, Nat.gcd_comm b (a % b), ← Nat.gcd_rec, Nat.gcd_comm]
        · show ((a : Int).fmod (b : Int)).toNat < (b : Int).toNat
          rw [e2]
          have := Nat.mod_lt a (Nat.pos_of_ne_zero c)
          omega
    · intro σ H Q Q' hq h
      obtain ⟨v, h1, h2, k, h3, h4⟩ := h
      exact ⟨v, h1, h2, k, h3, hq _ _ h4⟩
end
end K88
set_option maxHeartbeats 1000000
/-! The mirror: seats, bodies, houses as data. -/
namespace K88
open PySem PySem.Spec PyProof.Rows L2 LamX
structure Seat where
  t : Nat
  p : Nat
  way : PyData
abbrev Body := List Seat
structure House where
  bodies : List Body
  wards : Nat
def seatD (s : Seat) : PyData := .tuple [.int (s.t : Int), .int (s.p : Int), s.way]
def bodyD (b : Body) : PyData := .tuple (b.map seatD)
def bodiesD (bs : List Body) : PyData := .tuple (bs.map bodyD)
def houseD (h : House) : PyData := .tuple [bodiesD h.bodies, .int (h.wards : Int)]
inductive WayOk (nb wards : Nat) : PyData → Prop
  | ward (n : Nat) : n < wards → WayOk nb wards (.tuple [.str "ward", .int (n : Int)])
  | body (n : Nat) (t : Str) : n < nb → t = "a" ∨ t = "b" ∨ t = "kept" → WayOk nb wards (.tuple [.str "body", .int (n : Int), .str t])
  | rest (n : Nat) (t : Str) : n < nb → t = "a" ∨ t = "b" ∨ t = "kept" → WayOk nb wards (.tuple [.str "rest", .int (n : Int), .str t])
  | kept : WayOk nb wards (.tuple [.str "kept"])
structure SeatOk (nb wards : Nat) (s : Seat) : Prop where
  t1 : 1 ≤ s.t
  t6 : s.t ≤ 6
  p : s.p < s.t
  way : WayOk nb wards s.way
def terms (h : House) : List Nat := h.bodies.flatMap fun b => b.map Seat.t
def phases (h : House) : List Nat := h.bodies.flatMap fun b => b.map Seat.p
structure HouseOk (h : House) : Prop where
  b1 : 1 ≤ h.bodies.length
  b3 : h.bodies.length ≤ 3
  s1 : ∀ b ∈ h.bodies, 1 ≤ b.length ∧ b.length ≤ 9
  s9 : (h.bodies.map List.length).sum ≤ 9
  w : h.wards ≤ 4
  seats : ∀ b ∈ h.bodies, ∀ s ∈ b, SeatOk h.bodies.length h.wards s
  round : rnd (terms h) ≤ 12
theorem way_to {nb wards : Nat} {d : PyData} (h : WayOk nb wards d) : tupOnly d = true := by cases h <;> rfl
theorem seat_to {nb wards : Nat} {s : Seat} (h : SeatOk nb wards s) : tupOnly (seatD s) = true := by
  unfold seatD
  simp only [tupOnly, tupOnlyAll, way_to h.way, Bool.and_true]
theorem body_to {nb wards : Nat} {b : Body} (h : ∀ s ∈ b, SeatOk nb wards s) : tupOnly (bodyD b) = true := by
  unfold bodyD
  rw [tupOnly, tupOnlyAll_iff]
  intro d hd
  obtain ⟨s, hs, rfl⟩ := List.mem_map.mp hd
  exact seat_to (h s hs)
theorem bodies_to {h : House} (ok : HouseOk h) : tupOnlyAll (h.bodies.map bodyD) = true := by
  rw [tupOnlyAll_iff]
  intro d hd
  obtain ⟨b, hb, rfl⟩ := List.mem_map.mp hd
  exact body_to (ok.seats b hb)
theorem house_to {h : House} (ok : HouseOk h) : tupOnly (houseD h) = true := by
  unfold houseD bodiesD
  simp only [tupOnly, tupOnlyAll, bodies_to ok, Bool.and_true]
end K88
set_option maxHeartbeats 1000000
/-! The walks: is_way, is_seat. -/
namespace K88
open PySem PySem.Spec PyProof.Rows L2 LamX
theorem dp0 {K : PySem.W.Frag} {H : Hp} {p : Addr} (h : H p = some (.tup [])) : Dp K H (.ref p) (.tuple []) := .tup (.inl (.inl h)) .nil
theorem seqT_of {K : PySem.W.Frag} {H : Hp} {p : Addr} {xs : List V} (h : H p = some (.tup xs)) : SqT K H p xs := .inl (.inl h)
theorem len_ok {n : Nat} (h : n ≤ 1000) : n ≤ sizeLine := Nat.le_trans h (by decide)
/-- the answer of a test that is known -/
theorem if_t {c : Bool} {A B : Prop} (hc : c = true) (h : A) : if c = true then A else B := by rw [if_pos hc]; exact h
theorem if_f {c : Bool} {A B : Prop} (hc : c = false) (h : B) : if c = true then A else B := by rw [hc, if_neg Bool.false_ne_true]; exact h
theorem ty_tup : kitB "tuple" "tuple" = some true := by decide +kernel
theorem ty_str : kitB "str" "str" = some true := by decide +kernel
section
variable {P : Program} {w : World} {K : PySem.W.Frag} {mg : Str → Option Value} {base : Heap}
def spWay (K : PySem.W.Frag) : Sp := fun vs H Q _ => ∃ x nb wd d, vs = [x, .int (nb : Nat), .int (wd : Nat)] ∧ Dp K H x d ∧ WayOk nb wd d ∧ ∀ H', Same H H' → Q (.bl true) H'
theorem sc_way : FnScope ["value", "bodies", "wards"] ["value", "bodies", "wards"] (defScope sWay) := ⟨rfl, rfl, rfl, by decide +kernel, rfl, by decide +kernel, by decide +kernel⟩
theorem way_shaped {nb wd : Nat} {d : PyData} (h : WayOk nb wd d) : SeqAt.shaped d = true := by
  cases h with
  | ward n _ => simp [SeqAt.shaped, PyData.canLay0, PyData.canLayAll0, PyData.depth, PyData.depthAll]; decide +kernel
  | body n t _ ht => rcases ht with rfl | rfl | rfl <;> simp [SeqAt.shaped, PyData.canLay0, PyData.canLayAll0, PyData.depth, PyData.depthAll] <;> decide +kernel
  | rest n t _ ht => rcases ht with rfl | rfl | rfl <;> simp [SeqAt.shaped, PyData.canLay0, PyData.canLayAll0, PyData.depth, PyData.depthAll] <;> decide +kernel
  | kept => simp [SeqAt.shaped, PyData.canLay0, PyData.canLayAll0, PyData.depth, PyData.depthAll]; decide +kernel
theorem at0 {α : Type} (x : α) (r : List α) : atI (x :: r) 0 = some x := atI_nat (j := 0) rfl
theorem at1 {α : Type} (x y : α) (r : List α) : atI (x :: y :: r) 1 = some y := atI_nat (j := 1) rfl
theorem at2 {α : Type} (x y z : α) (r : List α) : atI (x :: y :: z :: r) 2 = some z := atI_nat (j := 2) rfl
theorem whole_in {n m : Nat} (h : n < m) : wholeD (.int (n : Int)) 0 ((m : Int) - 1) = true := by
  show (decide ((0 : Int) ≤ (n : Int)) && decide ((n : Int) ≤ (m : Int) - 1)) = true
  rw [decide_eq_true (by omega), decide_eq_true (by omega)]
  rfl
/-- every way begins with a word -/
theorem way_word {nb wd : Nat} {d : PyData} (h : WayOk nb wd d) : ∃ z r, d = .tuple (.str z :: r) := by cases h <;> exact ⟨_, _, rfl⟩
theorem do_way (T : Blt mg) (C : Cns mg) (A : At K mg "is_way" sWay) (DW : Does P w K mg base CX0 1 "is_whole" ["value", "least", "most"] (spWhole K)) : Does P w K mg base CX0 2 "is_way" ["value", "bodies", "wards"] (spWay K) := by
  obtain ⟨f, fd, F, hm⟩ := A
  obtain ⟨tA, cA⟩ := C.sideA
  obtain ⟨tB, cB⟩ := C.sideB
  obtain ⟨tK, cK⟩ := C.kept
  obtain ⟨tW, cW⟩ := C.ward
  obtain ⟨tY, cY⟩ := C.body
  obtain ⟨tR, cR⟩ := C.rest
  refine ⟨f, fd, hm, F.kp, F.binds fun _ _ _ _ _ _ us hl => match us, hl with | [_, _, _], _ => rfl, F.ok sc_way (fun vs H Q E h => ?_) (fun cdv A outer s H vs Q E hr h => ?_)⟩
  · obtain ⟨_, _, _, _, rfl, _⟩ := h
    rfl
  · obtain ⟨x, nb, wd, d, rfl, hd, hw, q⟩ := h
    refine ⟨_, (pss_cons (ps_if (PW.pt (pw_or (pt_not (pt_val (pe_callB call_isD (by rfl) T.isinstance (by decide +kernel) (pa_cons (pv 0) (pa_cons (pe_bltn (v := .ty "tuple") (by rfl) T.tuple (by decide +kernel) rfl) pa_nil))))) (pw_or (pt_cmpR (op_eqD hr.units) (pv 0) (pe_tup pa_nil) (nomark _)) (pw_or1 (pt_not (pt_val (pe_callB call_isD (by rfl) T.isinstance (by decide +kernel) (pa_cons (pe_ix ix_tup (pv 0) pe_int (fun _ _ => rfl)) (pa_cons (pe_bltn (v := .ty "str") (by rfl) T.str (by decide +kernel) rfl) pa_nil))))))))) (pss_one (ps_ret pe_bl)) pss_nil)
      (pss_cons (ps_if (pt_cmpR op_eq (pe_ix ix_tup (pv 0) pe_int (fun _ _ => rfl)) (pe_glob (v := .str "ward") (by rfl) cW ⟨_, rfl⟩) (nomark _)) (pss_one (ps_ret (pe_and (pe_cmpR op_eq (pe_callB call_len_seq (by rfl) T.len PySem.boot_len (pa_cons (pv 0) pa_nil)) pe_int (nomark _)) (pe_one (pe_do DW hr pass0 (pa_cons (pe_ix ix_tup (pv 0) pe_int (fun _ _ => rfl)) (pa_cons pe_int (pa_cons (pe_op op_sub (pv 2) pe_int) pa_nil)))))))) pss_nil)
      (pss_cons (ps_if (pt_cmpR op_in_seq (pe_ix ix_tup (pv 0) pe_int (fun _ _ => rfl)) (pe_tup (pa_cons (pe_glob (v := .str "body") (by rfl) cY ⟨_, rfl⟩) (pa_cons (pe_glob (v := .str "rest") (by rfl) cR ⟨_, rfl⟩) pa_nil))) (by rfl)) (pss_cons (ps_if (PW.pt (pw_or (pt_cmpR op_ne (pe_callB call_len_seq (by rfl) T.len PySem.boot_len (pa_cons (pv 0) pa_nil)) pe_int (nomark _)) (pw_or1 (pt_not (pt_val (pe_do DW hr pass0 (pa_cons (pe_ix ix_tup (pv 0) pe_int (fun _ _ => rfl)) (pa_cons pe_int (pa_cons (pe_op op_sub (pv 1) pe_int) pa_nil))))))))) (pss_one (ps_ret pe_bl)) pss_nil)
      (pss_one (ps_ret (pe_and (pe_callB call_isD (by rfl) T.isinstance (by decide +kernel) (pa_cons (pe_ix ix_tup (pv 0) pe_int (fun _ _ => rfl)) (pa_cons (pe_bltn (v := .ty "str") (by rfl) T.str (by decide +kernel) rfl) pa_nil))) (pe_one (pe_cmpR op_in_seq (pe_ix ix_tup (pv 0) pe_int (fun _ _ => rfl)) (pe_tup (pa_cons (pe_glob (v := .str "a") (by rfl) cA ⟨_, rfl⟩) (pa_cons (pe_glob (v := .str "b") (by rfl) cB ⟨_, rfl⟩) (pa_cons (pe_glob (v := .str "kept") (by rfl) cK ⟨_, rfl⟩) pa_nil)))) (by rfl))))))) pss_nil)
      (pss_one (ps_ret (pe_cmpR (op_eqD hr.units) (pv 0) (pe_tup (pa_cons (pe_glob (v := .str "kept") (by rfl) cK ⟨_, rfl⟩) pa_nil)) (nomark _))))))), ?_⟩
    obtain ⟨z, r, ed⟩ := way_word hw
    have hs := way_shaped hw
    rw [ed] at hd hs
    obtain ⟨a, us, rfl, ha, du⟩ := dp_tuple hd
    obtain ⟨u, ur, rfl, hu, hur⟩ : ∃ u ur, us = u :: ur ∧ Dp K H u (.str z) ∧ DpAll K H ur r := by
      cases du with
      | cons h1 h2 => exact ⟨_, _, rfl, h1, h2⟩
    have eu := dp_str hu
    subst eu
    refine ⟨_, rfl, _, _, "tuple", true, rfl, hd, ty_tup, true, rfl, iteF ?_⟩
    refine ⟨_, rfl, len_ok (by decide), fun p hp => ?_⟩
    have s1 : Same H (upd H p (.tup [])) := same_new hp
    refine ⟨_, _, dp_same s1 hd, dp0 upd_same, hs, rfl, _, rfl, if_f (by simp [PyData.eqv, PyData.eqvAll]) ?_⟩
    refine ⟨_, rfl, _, _, 0, _, rfl, rfl, s1.seqT ha, at0 _ _, _, .str z, "str", true, rfl, .str z, ty_str, true, rfl, iteF ?_⟩
    have ha1 := s1.seqT ha
    have du1 := dpAll_same s1 hur
    generalize upd H p (.tup []) = H1 at s1 ha1 du1 ⊢
    refine ⟨_, rfl, _, _, 0, _, rfl, rfl, ha1, at0 _ _, rfl, _, rfl, ?_⟩
    cases hw with
    | ward n hn =>
      cases ed
      cases du1 with
      | cons h1 h2 =>
        cases h2
        cases h1
        refine if_t (by decide +kernel) ?_
        refine ⟨_, rfl, _, _, rfl, .inr ha1, rfl, _, rfl, if_t (by rfl) ?_⟩
        refine ⟨_, rfl, _, _, 1, _, rfl, rfl, ha1, at1 _ _ _, _, rfl, _, _, rfl, rfl, _, _, _, _, rfl, .int _, ?_⟩
        rw [whole_in hn]
        exact q _ s1
    | body n t hn ht =>
      cases ed
      cases du1 with
      | cons h1 h2 =>
        cases h2 with
        | cons h2 h3 =>
          cases h3
          cases h1
          cases h2
          refine if_f (by decide +kernel) ?_
          refine ⟨_, rfl, _, _, 0, _, rfl, rfl, ha1, at0 _ _, len_ok (by decide), fun p2 hp2 => ?_⟩
          have s2 := same_new (o := .tup [.str "body", .str "rest"]) hp2
          have ha2 := s2.seqT ha1
          refine ⟨p2, _, rfl, .inr (seqT_of upd_same), rfl, rfl, _, rfl, if_t (by decide +kernel) ?_⟩
          refine ⟨_, rfl, _, _, rfl, .inr ha2, rfl, _, rfl, if_f (by rfl) ?_⟩
          refine ⟨_, rfl, _, _, 1, _, rfl, rfl, ha2, at1 _ _ _, _, rfl, _, _, rfl, rfl, _, _, _, _, rfl, .int _, ?_⟩
          rw [whole_in hn]
          refine ⟨true, rfl, iteF ?_⟩
          refine ⟨_, rfl, _, _, 2, _, rfl, rfl, ha2, at2 _ _ _ _, _, .str t, "str", true, rfl, .str t, ty_str, true, rfl, iteT ?_⟩
          refine ⟨_, rfl, _, _, 2, _, rfl, rfl, ha2, at2 _ _ _ _, len_ok (by decide), fun p3 hp3 => ?_⟩
          have s3 := same_new (o := .tup [.str "a", .str "b", .str "kept"]) hp3
          refine ⟨p3, _, rfl, .inr (seqT_of upd_same), rfl, rfl, ?_⟩
          have e : inV (.str t) [.str "a", .str "b", .str "kept"] = true := by rcases ht with rfl | rfl | rfl <;> decide +kernel
          rw [if_neg Bool.false_ne_true, e]
          exact q _ (s1.trans (s2.trans s3))
    | rest n t hn ht =>
      cases ed
      cases du1 with
      | cons h1 h2 =>
        cases h2 with
        | cons h2 h3 =>
          cases h3
          cases h1
          cases h2
          refine if_f (by decide +kernel) ?_
          refine ⟨_, rfl, _, _, 0, _, rfl, rfl, ha1, at0 _ _, len_ok (by decide), fun p2 hp2 => ?_⟩
          have s2 := same_new (o := .tup [.str "body", .str "rest"]) hp2
          have ha2 := s2.seqT ha1
          refine ⟨p2, _, rfl, .inr (seqT_of upd_same), rfl, rfl, _, rfl, if_t (by decide +kernel) ?_⟩
          refine ⟨_, rfl, _, _, rfl, .inr ha2, rfl, _, rfl, if_f (by rfl) ?_⟩
          refine ⟨_, rfl, _, _, 1, _, rfl, rfl, ha2, at1 _ _ _, _, rfl, _, _, rfl, rfl, _, _, _, _, rfl, .int _, ?_⟩
          rw [whole_in hn]
          refine ⟨true, rfl, iteF ?_⟩
          refine ⟨_, rfl, _, _, 2, _, rfl, rfl, ha2, at2 _ _ _ _, _, .str t, "str", true, rfl, .str t, ty_str, true, rfl, iteT ?_⟩
          refine ⟨_, rfl, _, _, 2, _, rfl, rfl, ha2, at2 _ _ _ _, len_ok (by decide), fun p3 hp3 => ?_⟩
          have s3 := same_new (o := .tup [.str "a", .str "b", .str "kept"]) hp3
          refine ⟨p3, _, rfl, .inr (seqT_of upd_same), rfl, rfl, ?_⟩
          have e : inV (.str t) [.str "a", .str "b", .str "kept"] = true := by rcases ht with rfl | rfl | rfl <;> decide +kernel
          rw [if_neg Bool.false_ne_true, e]
          exact q _ (s1.trans (s2.trans s3))
    | kept =>
      cases ed
      cases du1
      refine if_f (by decide +kernel) ?_
      refine ⟨_, rfl, _, _, 0, _, rfl, rfl, ha1, at0 _ _, len_ok (by decide), fun p2 hp2 => ?_⟩
      have s2 := same_new (o := .tup [.str "body", .str "rest"]) hp2
      have ha2 := s2.seqT ha1
      refine ⟨p2, _, rfl, .inr (seqT_of upd_same), rfl, rfl, _, rfl, if_f (by decide +kernel) ?_⟩
      refine ⟨_, rfl, len_ok (by decide), fun p3 hp3 => ?_⟩
      have s3 := same_new (o := .tup [.str "kept"]) hp3
      refine ⟨_, _, dp_same (s1.trans (s2.trans s3)) hd, .tup (seqT_of upd_same) (.cons (.str _) .nil), hs, hs, ?_⟩
      rw [SeqAt.eqv_refl _ (SeqAt.canLay_of_shaped hs)]
      exact q _ (s1.trans (s2.trans s3))
end
end K88
set_option maxHeartbeats 1000000
/-! The walks: is_seat, comes_up, round_of, need_bodies. -/
namespace K88
open PySem PySem.Spec PyProof.Rows L2 LamX
section
variable {P : Program} {w : World} {K : PySem.W.Frag} {mg : Str → Option Value} {base : Heap}
theorem dp_seat {H : Hp} {x : V} {s : Seat} (h : Dp K H x (seatD s)) : ∃ a y, x = .ref a ∧ SqT K H a [.int (s.t : Int), .int (s.p : Int), y] ∧ Dp K H y s.way := by
  obtain ⟨a, us, rfl, ha, du⟩ := dp_tuple h
  cases du with
  | cons h1 h2 =>
    cases h2 with
    | cons h2 h3 =>
      cases h3 with
      | cons h3 h4 =>
        cases h4
        cases h1
        cases h2
        exact ⟨a, _, rfl, ha, h3⟩
theorem dp_house {H : Hp} {x : V} {h : House} (d : Dp K H x (houseD h)) : ∃ a y b us, x = .ref a ∧ SqT K H a [y, .int (h.wards : Int)] ∧ y = .ref b ∧ SqT K H b us ∧ DpAll K H us (h.bodies.map bodyD) := by
  obtain ⟨a, us, rfl, ha, du⟩ := dp_tuple d
  cases du with
  | cons h1 h2 =>
    cases h2 with
    | cons h2 h3 =>
      cases h3
      cases h2
      obtain ⟨b, vs, rfl, hb, db⟩ := dp_tuple h1
      exact ⟨a, _, b, vs, rfl, ha, rfl, hb, db⟩
theorem dp_body {H : Hp} {x : V} {b : Body} (d : Dp K H x (bodyD b)) : ∃ a us, x = .ref a ∧ SqT K H a us ∧ DpAll K H us (b.map seatD) := dp_tuple d
/-- the i-th thing of a tuple of bodies, of seats -/
theorem dpAll_map {α : Type} {f : α → PyData} {H : Hp} {us : List V} {l : List α} (h : DpAll K H us (l.map f)) {i : Nat} {x : V} (hx : us[i]? = some x) : ∃ b, l[i]? = some b ∧ Dp K H x (f b) := by
  obtain ⟨d, e, hd⟩ := dpAll_at h hx
  rw [List.getElem?_map] at e
  cases q : l[i]? with
  | none => rw [q] at e; cases e
  | some b =>
    rw [q] at e
    cases e
    exact ⟨b, rfl, hd⟩
/-! ### is_seat -/
def spSeat (K : PySem.W.Frag) : Sp := fun vs H Q _ => ∃ x nb wd s, vs = [x, .int (nb : Nat), .int (wd : Nat)] ∧ Dp K H x (seatD s) ∧ SeatOk nb wd s ∧ ∀ H', Same H H' → Q (.bl true) H'
theorem sc_seat : FnScope ["value", "bodies", "wards"] ["value", "bodies", "wards"] (defScope sSeat) := ⟨rfl, rfl, rfl, by decide +kernel, rfl, by decide +kernel, by decide +kernel⟩
theorem do_seat (T : Blt mg) (C : Cns mg) (A : At K mg "is_seat" sSeat) (DW : Does P w K mg base CX0 2 "is_whole" ["value", "least", "most"] (spWhole K)) (DY : Does P w K mg base CX0 2 "is_way" ["value", "bodies", "wards"] (spWay K)) : Does P w K mg base CX0 3 "is_seat" ["value", "bodies", "wards"] (spSeat K) := by
  obtain ⟨f, fd, F, hm⟩ := A
  obtain ⟨tMT, cMT⟩ := C.mostTerm
  refine ⟨f, fd, hm, F.kp, F.binds fun _ _ _ _ _ _ us hl => match us, hl with | [_, _, _], _ => rfl, F.ok sc_seat (fun vs H Q E h => ?_) (fun cdv A outer s H vs Q E hr h => ?_)⟩
  · obtain ⟨_, _, _, _, rfl, _⟩ := h
    rfl
  · obtain ⟨x, nb, wd, st, rfl, hd, ok, q⟩ := h
    refine ⟨_, (pss_cons (ps_if (PW.pt (pw_or (pt_not (pt_val (pe_callB call_isD (by rfl) T.isinstance (by decide +kernel) (pa_cons (pv 0) (pa_cons (pe_bltn (v := .ty "tuple") (by rfl) T.tuple (by decide +kernel) rfl) pa_nil))))) (pw_or (pt_cmpR op_ne (pe_callB call_len_seq (by rfl) T.len PySem.boot_len (pa_cons (pv 0) pa_nil)) pe_int (nomark _)) (pw_or1 (pt_not (pt_val (pe_do DW hr pass0 (pa_cons (pe_ix ix_tup (pv 0) pe_int (fun _ _ => rfl)) (pa_cons pe_int (pa_cons (pe_glob (v := .int 6) (by rfl) cMT ⟨_, rfl⟩) pa_nil)))))))))) (pss_one (ps_ret pe_bl)) pss_nil)
      (pss_one (ps_ret (pe_and (pe_do DW hr pass0 (pa_cons (pe_ix ix_tup (pv 0) pe_int (fun _ _ => rfl)) (pa_cons pe_int (pa_cons (pe_op op_sub (pe_ix ix_tup (pv 0) pe_int (fun _ _ => rfl)) pe_int) pa_nil)))) (pe_one (pe_do DY hr pass0 (pa_cons (pe_ix ix_tup (pv 0) pe_int (fun _ _ => rfl)) (pa_cons (pv 1) (pa_cons (pv 2) pa_nil))))))))), ?_⟩
    obtain ⟨a, y, rfl, ha, hy⟩ := dp_seat hd
    refine ⟨_, rfl, _, _, "tuple", true, rfl, hd, ty_tup, true, rfl, iteF ?_⟩
    refine ⟨_, rfl, _, _, rfl, .inr ha, rfl, _, rfl, if_f (by rfl) ?_⟩
    refine ⟨_, rfl, _, _, 0, _, rfl, rfl, ha, at0 _ _, _, _, _, _, rfl, .int _, ?_⟩
    have e1 : wholeD (.int (st.t : Int)) 1 6 = true := by
      show (decide ((1 : Int) ≤ (st.t : Int)) && decide ((st.t : Int) ≤ 6)) = true
      rw [decide_eq_true (by have := ok.t1; omega), decide_eq_true (by have := ok.t6; omega)]
      rfl
    rw [e1]
    refine ⟨true, rfl, iteF ?_⟩
    refine ⟨_, rfl, _, _, 1, _, rfl, rfl, ha, at1 _ _ _, _, rfl, _, _, 0, _, rfl, rfl, ha, at0 _ _, _, _, rfl, rfl, _, _, _, _, rfl, .int _, ?_⟩
    rw [whole_in ok.p]
    refine ⟨true, rfl, iteT ?_⟩
    exact ⟨_, rfl, _, _, 2, _, rfl, rfl, ha, at2 _ _ _ _, _, rfl, _, rfl, _, nb, wd, _, rfl, hy, ok.way, q⟩
/-! ### comes_up -/
def spComesUp (K : PySem.W.Frag) : Sp := fun vs H Q _ => ∃ x s n, vs = [x, .int (n : Nat)] ∧ Dp K H x (seatD s) ∧ 0 < s.t ∧ s.p < s.t ∧ Q (.bl (due n s.t s.p)) H
theorem sc_cu : FnScope ["seat", "number"] ["seat", "number"] (defScope sComesUp) := ⟨rfl, rfl, rfl, by decide +kernel, rfl, by decide +kernel, by decide +kernel⟩
theorem bl_due {n t p : Nat} (ht : 0 < t) (hp : p < t) : decide (V.int (((n : Int) - (p : Int)).fmod (t : Int)) = V.int 0) = due n t p := by
  rw [Bool.eq_iff_iff, decide_eq_true_iff, ← fmod_comes ht (Nat.le_of_lt hp)]
  constructor
  · intro h
    injection h
  · intro h
    rw [h]
theorem do_comesUp (T : Blt mg) (A : At K mg "comes_up" sComesUp) : Does P w K mg base CX0 1 "comes_up" ["seat", "number"] (spComesUp K) := by
  obtain ⟨f, fd, F, hm⟩ := A
  refine ⟨f, fd, hm, F.kp, F.binds fun _ _ _ _ _ _ us hl => match us, hl with | [_, _], _ => rfl, F.ok sc_cu (fun vs H Q E h => ?_) (fun cdv A outer s H vs Q E hr h => ?_)⟩
  · obtain ⟨_, _, _, rfl, _⟩ := h
    rfl
  · obtain ⟨x, st, n, rfl, hd, ht, hp, q⟩ := h
    refine ⟨_, (pss_one (ps_ret (pe_cmpR op_eq (pe_op op_modN (pe_callTy call_int1 (by rfl) T.int (by decide +kernel) (pa_cons (pe_op op_sub (pv 1) (pe_ix ix_tup (pv 0) pe_int (fun _ _ => rfl))) pa_nil)) (pe_ix ix_tup (pv 0) pe_int (fun _ _ => rfl))) pe_int (nomark _)))), ?_⟩
    obtain ⟨a, y, rfl, ha, hy⟩ := dp_seat hd
    refine ⟨_, rfl, _, rfl, _, _, 1, _, rfl, rfl, ha, at1 _ _ _, _, _, rfl, rfl, .inl ⟨_, rfl, _, rfl, _, _, 0, _, rfl, rfl, ha, at0 _ _, _, _, rfl, rfl, by omega, rfl, ?_⟩⟩
    rw [bl_due ht hp]
    exact q
/-! ### round_of -/
def spRoundOf (K : PySem.W.Frag) : Sp := fun vs H Q _ => ∃ x h, vs = [x] ∧ Dp K H x (houseD h) ∧ HouseOk h ∧ Q (.int (rnd (terms h) : Nat)) H
theorem sc_ro : FnScope ["house", "found", "body", "term", "phase", "way"] ["house"] (defScope sRoundOf) := ⟨rfl, rfl, rfl, by decide +kernel, rfl, by decide +kernel, by decide +kernel⟩
def tms (bs : List Body) : List Nat := bs.flatMap fun b => b.map Seat.t
theorem tms_snoc {bs : List Body} {i : Nat} {b : Body} (h : bs[i]? = some b) : tms (bs.take (i + 1)) = tms (bs.take i) ++ b.map Seat.t := by
  obtain ⟨hi, e⟩ := List.getElem?_eq_some_iff.mp h
  have et : bs.take (i + 1) = bs.take i ++ [b] := by rw [← e]; exact (List.take_append_getElem hi).symm
  unfold tms
  rw [et, List.flatMap_append]
  simp
theorem rnd_snoc (l : List Nat) (t : Nat) : rnd (l ++ [t]) = Nat.lcm (rnd l) t := by rw [rnd_append]; rfl
theorem lcm_step (m t : Nat) : ((m : Int).fdiv ((Nat.gcd m t : Nat) : Int)) * (t : Int) = ((Nat.lcm m t : Nat) : Int) := by
  rw [Int.fdiv_eq_ediv_of_nonneg _ (by omega), ← div_gcd_mul]
  rfl
theorem take_snoc {α : Type} {l : List α} {j : Nat} {x : α} (h : l[j]? = some x) : l.take (j + 1) = l.take j ++ [x] := by
  obtain ⟨hj, e⟩ := List.getElem?_eq_some_iff.mp h
  rw [← e]
  exact (List.take_append_getElem hj).symm
theorem do_roundOf (T : Blt mg) (A : At K mg "round_of" sRoundOf) (DC : Does P w K mg base CX0 1 "common" ["one", "other"] spCommon) : Does P w K mg base CX0 2 "round_of" ["house"] (spRoundOf K) := by
  obtain ⟨f, fd, F, hm⟩ := A
  refine ⟨f, fd, hm, F.kp, F.binds fun _ _ _ _ _ _ us hl => match us, hl with | [_], _ => rfl, F.ok sc_ro (fun vs H Q E h => ?_) (fun cdv A outer s H vs Q E hr h => ?_)⟩
  · obtain ⟨_, _, rfl, _⟩ := h
    rfl
  · obtain ⟨x, h, rfl, hd, ok, q⟩ := h
    refine ⟨_, (pss_cons (ps_set (i := 1) sc_ro.nd rfl (Or.inl rfl) pe_int)
      (pss_cons (ps_for PassesOwn.never rfl (pi_tup (pe_ix ix_tup (pv 0) pe_int (fun _ _ => rfl))) (pg_name (i := 2) sc_ro.nd rfl (Or.inl rfl)) (pss_one (ps_for PassesOwn.never rfl (pi_tup (pv 2)) (pg_tup (by rfl) (pgs_cons (pg_name (i := 3) sc_ro.nd rfl (Or.inl rfl)) (pgs_cons (pg_name (i := 4) sc_ro.nd rfl (Or.inl rfl)) (pgs_cons (pg_name (i := 5) sc_ro.nd rfl (Or.inl rfl)) pgs_nil)))) (pss_one (ps_set (i := 1) sc_ro.nd rfl (Or.inl rfl) (pe_op op_mul (pe_op op_fdivN (pv 1) (pe_do DC hr pass0 (pa_cons (pv 1) (pa_cons (pv 3) pa_nil)))) (pv 3)))))))
      (pss_one (ps_ret (pv 1))))), ?_⟩
    obtain ⟨a, y, b, us, rfl, ha, rfl, hb, db⟩ := dp_house hd
    refine ⟨_, rfl, _, _, 0, _, rfl, rfl, ha, at0 _ _, b, rfl, ⟨_, hb⟩, for_tup (K := K) (a := b) (xs := us) (fun i σ H' => H' = H ∧ ∃ v2 v3 v4 v5, σ = [some (.ref a), some (.int (rnd (tms (h.bodies.take i)) : Nat)), v2, v3, v4, v5])
      ⟨rfl, _, _, _, _, rfl⟩ (fun i σ H' _ e => by rw [e.1]; exact hb) ?_ ?_⟩
    · rintro i x σ H' hx ⟨rfl, v2, v3, v4, v5, rfl⟩
      obtain ⟨bd, hbd, dx⟩ := dpAll_map db hx
      obtain ⟨c, ss, rfl, hc, ds⟩ := dp_body dx
      refine ⟨_, rfl, c, rfl, ⟨_, hc⟩, for_tup (K := K) (a := c) (xs := ss) (fun j σ H'' => H'' = H' ∧ ∃ v3 v4 v5, σ = [some (.ref a), some (.int (rnd (tms (h.bodies.take i) ++ (bd.take j).map Seat.t) : Nat)), some (.ref c), v3, v4, v5])
        ⟨rfl, v3, v4, v5, by simp⟩ (fun j σ H'' _ e => by rw [e.1]; exact hc) ?_ ?_⟩
      · rintro j z σ H'' hz ⟨rfl, v3, v4, v5, rfl⟩
        obtain ⟨st, hst, dz⟩ := dpAll_map ds hz
        obtain ⟨e, yy, rfl, he, hyy⟩ := dp_seat dz
        have sok := ok.seats bd (List.mem_of_getElem? hbd) st (List.mem_of_getElem? hst)
        have t1 := sok.t1
        have t6 := sok.t6
        refine ⟨e, _, rfl, he, rfl, _, _, rfl, _, _, rfl, _, _, rfl, rfl, ?_⟩
        have hg : 0 < Nat.gcd (rnd (tms (h.bodies.take i) ++ (bd.take j).map Seat.t)) st.t := Nat.gcd_pos_of_pos_right _ t1
        have hg2 : Nat.gcd (rnd (tms (h.bodies.take i) ++ (bd.take j).map Seat.t)) st.t ≤ st.t := Nat.le_of_dvd t1 (Nat.gcd_dvd_right _ _)
        refine ⟨_, rfl, _, rfl, _, rfl, _, _, rfl, _, _, rfl, rfl, ⟨by omega, by omega⟩, ?_⟩
        refine ⟨_, rfl, _, _, rfl, rfl, .inr (by omega), rfl, some (.int (st.t : Nat)), some (.int (st.p : Nat)), some yy, ?_⟩
        rw [take_snoc hst, List.map_append, List.map_singleton, ← List.append_assoc, rnd_snoc, ← lcm_step]
        rfl
      · rintro σ H'' ⟨rfl, v3, v4, v5, rfl⟩
        have l : ss.length = bd.length := by rw [dpAll_len ds, List.length_map]
        refine ⟨rfl, some (.ref c), v3, v4, v5, ?_⟩
        rw [l, List.take_length, tms_snoc hbd]
    · rintro σ H' ⟨rfl, v2, v3, v4, v5, rfl⟩
      have l : us.length = h.bodies.length := by rw [dpAll_len db, List.length_map]
      refine ⟨_, rfl, ?_⟩
      rw [l, List.take_length]
      exact q
/-! ### need_bodies -/
def spNeedBodies (K : PySem.W.Frag) : Sp := fun vs H Q _ => ∃ b us h, vs = [.ref b, .int (h.wards : Nat)] ∧ SqT K H b us ∧ DpAll K H us (h.bodies.map bodyD) ∧ HouseOk h ∧ ∀ H', Same H H' → Q .non H'
theorem sc_nb : FnScope ["bodies", "wards", "number", "body", "place", "seat"] ["bodies", "wards"] (defScope sNeedBodies) := ⟨rfl, rfl, rfl, by decide +kernel, rfl, by decide +kernel, by decide +kernel⟩
theorem do_needBodies (T : Blt mg) (C : Cns mg) (A : At K mg "need_bodies" sNeedBodies) (DS : Does P w K mg base CX0 3 "is_seat" ["value", "bodies", "wards"] (spSeat K)) : Does P w K mg base CX0 4 "need_bodies" ["bodies", "wards"] (spNeedBodies K) := by
  obtain ⟨f, fd, F, hm⟩ := A
  obtain ⟨tMB, cMB⟩ := C.mostBodies
  obtain ⟨tMS, cMS⟩ := C.mostSeats
  refine ⟨f, fd, hm, F.kp, F.binds fun _ _ _ _ _ _ us hl => match us, hl with | [_, _], _ => rfl, F.ok sc_nb (fun vs H Q E h => ?_) (fun cdv A outer s H vs Q E hr h => ?_)⟩
  · obtain ⟨_, _, _, rfl, _⟩ := h
    rfl
  · obtain ⟨b, us, h, rfl, hb, db, ok, q⟩ := h
    refine ⟨_, (pss_cons (ps_if (PW.pt (pw_or (pt_not (pt_val (pe_callB call_isD (by rfl) T.isinstance (by decide +kernel) (pa_cons (pv 0) (pa_cons (pe_bltn (v := .ty "tuple") (by rfl) T.tuple (by decide +kernel) rfl) pa_nil))))) (pw_or1 (pt_not (pt_chain op_le op_le pe_int (pe_callB call_len_seq (by rfl) T.len PySem.boot_len (pa_cons (pv 0) pa_nil)) (pe_glob (v := .int 3) (by rfl) cMB ⟨_, rfl⟩)))))) (pss_one ps_never) pss_nil)
      (pss_one (ps_for PassesOwn.never rfl (pi_enumT (by rfl) T.enumerate (pa_cons (pv 0) pa_nil)) (pg_tup (by rfl) (pgs_cons (pg_name (i := 2) sc_nb.nd rfl (Or.inl rfl)) (pgs_cons (pg_name (i := 3) sc_nb.nd rfl (Or.inl rfl)) pgs_nil))) (pss_cons (ps_if (PW.pt (pw_or (pt_not (pt_val (pe_callB call_isD (by rfl) T.isinstance (by decide +kernel) (pa_cons (pv 3) (pa_cons (pe_bltn (v := .ty "tuple") (by rfl) T.tuple (by decide +kernel) rfl) pa_nil))))) (pw_or1 (pt_not (pt_chain op_le op_le pe_int (pe_callB call_len_seq (by rfl) T.len PySem.boot_len (pa_cons (pv 3) pa_nil)) (pe_glob (v := .int 9) (by rfl) cMS ⟨_, rfl⟩)))))) (pss_one ps_never) pss_nil)
      (pss_one (ps_for PassesOwn.never rfl (pi_enumT (by rfl) T.enumerate (pa_cons (pv 3) pa_nil)) (pg_tup (by rfl) (pgs_cons (pg_name (i := 4) sc_nb.nd rfl (Or.inl rfl)) (pgs_cons (pg_name (i := 5) sc_nb.nd rfl (Or.inl rfl)) pgs_nil))) (pss_one (ps_if (pt_not (pt_val (pe_do DS hr pass0 (pa_cons (pv 5) (pa_cons (pe_callB call_len_seq (by rfl) T.len PySem.boot_len (pa_cons (pv 0) pa_nil)) (pa_cons (pv 1) pa_nil)))))) (pss_one ps_never) pss_nil)))))))), ?_⟩
    have lu : us.length = h.bodies.length := by rw [dpAll_len db, List.length_map]
    have hD : Dp K H (.ref b) (bodiesD h.bodies) := .tup hb db
    refine ⟨_, rfl, _, _, "tuple", true, rfl, hD, ty_tup, true, rfl, iteF ?_⟩
    have b1 := ok.b1
    have b3 := ok.b3
    refine ⟨_, rfl, _, _, rfl, .inr hb, _, _, rfl, rfl, _, rfl, if_t (decide_eq_true (by omega)) ⟨_, _, rfl, rfl, _, rfl, if_f (by rw [decide_eq_true (by omega)]; rfl) ?_⟩⟩
    refine ⟨_, rfl, b, us, rfl, hb, for_it walk_enumT (fun i σ H' => Same H H' ∧ ∃ v2 v3 v4 v5, σ = [some (.ref b), some (.int (h.wards : Nat)), v2, v3, v4, v5])
      ⟨Same.refl H, _, _, _, _, rfl⟩ (fun i σ H' _ e => e.1.seqT hb) ?_ fun σ H' ⟨s1, _⟩ => q _ s1⟩
    rintro i z σ H' H'' hi ⟨s1, v2, v3, v4, v5, rfl⟩ ⟨tp, y1, x, rfl, np, rfl, e1, hx⟩
    cases e1
    obtain ⟨bd, hbd, dx⟩ := dpAll_map (dpAll_same s1 db) hx
    obtain ⟨c, ss, rfl, hc, ds⟩ := dp_body dx
    have s2 : Same H' (upd H' tp (.tup [.int (i : Nat), .ref c])) := same_new np
    have hc2 := s2.seqT hc
    have lb := ok.s1 bd (List.mem_of_getElem? hbd)
    have ls : ss.length = bd.length := by rw [dpAll_len ds, List.length_map]
    refine ⟨tp, _, rfl, seqT_of upd_same, rfl, _, _, rfl, _, _, rfl, rfl, ?_⟩
    refine ⟨_, rfl, _, _, "tuple", true, rfl, dp_same s2 dx, ty_tup, true, rfl, iteF ?_⟩
    refine ⟨_, rfl, _, _, rfl, .inr hc2, _, _, rfl, rfl, _, rfl, if_t (decide_eq_true (by omega)) ⟨_, _, rfl, rfl, _, rfl, if_f (by rw [decide_eq_true (by omega)]; rfl) ?_⟩⟩
    refine ⟨_, rfl, c, ss, rfl, hc2, for_it walk_enumT (fun j σ H3 => Same H' H3 ∧ ∃ v4 v5, σ = [some (.ref b), some (.int (h.wards : Nat)), some (.int (i : Nat)), some (.ref c), v4, v5])
      ⟨s2, v4, v5, rfl⟩ (fun j σ H3 _ e => e.1.seqT hc) ?_ fun σ H3 ⟨s3, v4, v5, e⟩ => ⟨s1.trans s3, some (.int (i : Nat)), some (.ref c), v4, v5, e⟩⟩
    rintro j z σ H3 H4 hj ⟨s3, v4, v5, rfl⟩ ⟨tp2, y1, x, rfl, np2, rfl, e1, hx⟩
    cases e1
    obtain ⟨st, hst, dz⟩ := dpAll_map (dpAll_same s3 ds) hx
    have sok := ok.seats bd (List.mem_of_getElem? hbd) st (List.mem_of_getElem? hst)
    have s4 : Same H3 (upd H3 tp2 (.tup [.int (j : Nat), x])) := same_new np2
    refine ⟨tp2, _, rfl, seqT_of upd_same, rfl, _, _, rfl, _, _, rfl, rfl, ?_⟩
    refine ⟨_, rfl, _, rfl, b, us, rfl, .inr ((s1.trans (s3.trans s4)).seqT hb), _, rfl, x, h.bodies.length, h.wards, st, ?_, dp_same s4 dz, sok, fun H5 s5 => ⟨true, rfl, iteF ?_⟩⟩
    · rw [lu]
      rfl
    · exact ⟨s3.trans (s4.trans s5), _, _, rfl⟩
end
end K88
set_option maxHeartbeats 1000000
/-! Rules with the fragment named beforehand: inside a comprehension the reading may not name the block. -/
namespace K88
open PySem PySem.Spec PyProof.Rows L2 LamX
section
variable {X : Cx} {K : PySem.W.Frag}
theorem lenK (h : X.K = K) : CallR X (.builtin "len") (fun xs H Q => ∃ p ys, xs = [.ref p] ∧ (SqL K H p ys ∨ SqT K H p ys) ∧ Q (.int ys.length) H) := h ▸ call_len_seq
theorem ixTK (h : X.K = K) : IxR X (rIxT K) := h ▸ ix_tup
theorem ixLK (h : X.K = K) : IxR X (rIxL K) := h ▸ ix_list
theorem slTK (h : X.K = K) : SlR X (rSlA K) := h ▸ sl_tupA
theorem isDK (h : X.K = K) : CallR X (.builtin "isinstance") (rIsD K) := h ▸ call_isD
theorem tupleK (h : X.K = K) : CallR X (.type "tuple") (fun xs H Q => ∃ p ys, xs = [.ref p] ∧ ((SqL K H p ys ∧ ∀ l, H l = none → Q (.ref l) (upd H l (.tup ys))) ∨ (SqT K H p ys ∧ Q (.ref p) H))) := h ▸ call_tuple_of
theorem listK (h : X.K = K) : CallR X (.type "list") (fun xs H Q => ∃ p ys, xs = [.ref p] ∧ (SqL K H p ys ∨ SqT K H p ys) ∧ ∀ l, H l = none → Q (.ref l) (upd H l (.lst ys))) := h ▸ call_list_of
theorem piTK (h : X.K = K) {tg l : Expr} {tl : TE} (hl : PE X l tl) : PI X tg l (iTup K tl) := h ▸ pi_tup hl
theorem piLK (h : X.K = K) {tg l : Expr} {tl : TE} (hl : PE X l tl) : PI X tg l (iList K tl) := h ▸ pi_list hl
theorem zipK (h : X.K = K) {e e2 : Expr} {ta : TA} {p pos tpos : Pos} {elts : List Expr} {kk : Nat} (hg : Gl X "zip") (hm : X.mg "zip" = none) (ha : PA X [e, e2] ta)
    (hs : starEach [e, e2] X.env = (false, eval e X.env) :: starEach [e2] X.env := by rfl) (hpl : (backTo pos (starEach [e2] X.env)).any (·.1) = false := by rfl) :
    PI X (.Tuple elts kk tpos) (.Call (.Name "zip" p) [e, e2] [] pos) (RZ.iZipA K ta) := h ▸ RZ.pi_zipA hg hm ha hs hpl
end
end K88
set_option maxHeartbeats 1000000
/-! The walks: need_house, phases_of. -/
namespace K88
open PySem PySem.Spec PyProof.Rows L2 LamX K88X
section
variable {P : Program} {w : World} {K : PySem.W.Frag} {mg : Str → Option Value} {base : Heap}
/-! ### need_house -/
/-- what is no house, and how it is refused -/
inductive HBad : PyData → Str → Prop
  | form (d : PyData) : (∀ ds, d = .tuple ds → ds.length ≠ 2) → HBad d "form"
  | wards (d : PyData) : HBad (.tuple [d, .int 5]) "wards"
/-- the error NM(a value of data e) leaves -/
def Refuses (C : Addr) (fld : Str) (e : V) (H : Hp) (E : XK) : Prop := ∀ H' dd, Same H H' → H' dd = some (.xd [(fld, e)]) → E (.ref C) (some dd) H'
def spNeedHouse (K : PySem.W.Frag) (C : Addr) : Sp := fun vs H Q E => ∃ x d, vs = [x] ∧ Dp K H x d ∧
  ((∃ h, d = houseD h ∧ HouseOk h ∧ ∀ H', Same H H' → Q x H') ∨ ∃ z, HBad d z ∧ Refuses C "place" (.str z) H E)
theorem sc_nh : FnScope ["house", "body"] ["house"] (defScope sNeedHouse) := ⟨rfl, rfl, rfl, by decide +kernel, rfl, by decide +kernel, by decide +kernel⟩
theorem small {n : Nat} (h : n ≤ 16777216) : n ≤ sizeLine := by unfold sizeLine; omega
theorem sum_cast : ∀ l : List Nat, (l.map fun (n : Nat) => (n : Int)).sum = ((l.sum : Nat) : Int)
  | [] => rfl
  | n :: l => by rw [List.map_cons, List.sum_cons, List.sum_cons, sum_cast l]; omega
theorem do_needHouse {CH iH : Addr} (T : Blt mg) (C : Cns mg) (A : At K mg "need_house" sNeedHouse) (TB : ExTxt P K mg "BadHouse" "BadHouse.__init__" "place" sBadHouse CH iH) (IB : InitDoes P w K mg "place" CH iH)
    (DW : Does P w K mg base CX0 5 "is_whole" ["value", "least", "most"] (spWhole K)) (DN : Does P w K mg base CX0 5 "need_bodies" ["bodies", "wards"] (spNeedBodies K)) (DR : Does P w K mg base CX0 5 "round_of" ["house"] (spRoundOf K)) :
    Does P w K mg base (L2.CX P w) 6 "need_house" ["house"] (spNeedHouse K CH) := by
  obtain ⟨f, fd, F, hm⟩ := A
  obtain ⟨tMS, cMS⟩ := C.mostSeats
  obtain ⟨tMW, cMW⟩ := C.mostWards
  obtain ⟨tMR, cMR⟩ := C.mostRound
  refine ⟨f, fd, hm, F.kp, F.binds fun _ _ _ _ _ _ us hl => match us, hl with | [_], _ => rfl, F.okX sc_nh (fun vs H Q E h => ?_) (fun cdv A outer s H vs Q E hr h => ?_)⟩
  · obtain ⟨_, _, rfl, _⟩ := h
    rfl
  · obtain ⟨x, d, rfl, hd, h⟩ := h
    refine ⟨_, (pss_cons (ps_if (PW.pt (pw_or (pt_not (pt_val (pe_callB call_isD (by rfl) T.isinstance (by decide +kernel) (pa_cons (pv 0) (pa_cons (pe_bltn (v := .ty "tuple") (by rfl) T.tuple (by decide +kernel) rfl) pa_nil))))) (pw_or1 (pt_cmpR op_ne (pe_callB call_len_seq (by rfl) T.len PySem.boot_len (pa_cons (pv 0) pa_nil)) pe_int (nomark _))))) (pss_one (ps_raiseBad rfl TB IB hr (takes_of rfl rfl rfl rfl) (pa_cons pe_str pa_nil))) pss_nil)
      (pss_cons (ps_if (pt_not (pt_val (pe_do DW hr pass0 (pa_cons (pe_ix ix_tup (pv 0) pe_int (fun _ _ => rfl)) (pa_cons pe_int (pa_cons (pe_glob (v := .int 4) (by rfl) cMW ⟨_, rfl⟩) pa_nil)))))) (pss_one (ps_raiseBad rfl TB IB hr (takes_of rfl rfl rfl rfl) (pa_cons pe_str pa_nil))) pss_nil)
      (pss_cons (ps_expr (pe_do DN hr pass0 (pa_cons (pe_ix ix_tup (pv 0) pe_int (fun _ _ => rfl)) (pa_cons (pe_ix ix_tup (pv 0) pe_int (fun _ _ => rfl)) pa_nil))))
      (pss_cons (ps_if (pt_cmpR op_gt (pe_callB (cr_sum rfl) (by rfl) T.sum (by decide +kernel) (pa_cons (pe_lc (own := [("body", 1)]) (g := (gName 1)) (tt := tYes) rfl sc_nh.nd (pi_tup (pe_ix ix_tup (pv 0) pe_int (fun _ _ => rfl))) (blkOk_by (N := ["house", "body"]) (sc := defScope sNeedHouse) (by decide +kernel)) (fun _ _ _ _ _ => (pg_name (i := 1) sc_nh.nd rfl (Or.inl rfl))) (fun _ _ _ _ _ => pts_nil) (fun _ _ _ _ _ => (pe_callB (lenK (K := K) rfl) (by rfl) T.len PySem.boot_len (pa_cons (pv 1) pa_nil)))) pa_nil)) (pe_glob (v := .int 9) (by rfl) cMS ⟨_, rfl⟩) (nomark _)) (pss_one ps_never) pss_nil)
      (pss_cons (ps_if (pt_cmpR op_gt (pe_do DR hr pass0 (pa_cons (pv 0) pa_nil)) (pe_glob (v := .int 12) (by rfl) cMR ⟨_, rfl⟩) (nomark _)) (pss_one ps_never) pss_nil)
      (pss_one (ps_ret (pv 0)))))))), ?_⟩
    rcases h with ⟨h, rfl, ok, q⟩ | ⟨z, hz, e⟩
    · obtain ⟨a, y, b, us, rfl, ha, rfl, hb, db⟩ := dp_house hd
      refine ⟨_, rfl, _, _, "tuple", true, rfl, hd, ty_tup, true, rfl, iteF ?_⟩
      refine ⟨_, rfl, _, _, rfl, .inr ha, rfl, _, rfl, if_f (by rfl) ?_⟩
      refine ⟨_, rfl, _, _, 1, _, rfl, rfl, ha, at1 _ _ _, _, _, _, _, rfl, .int _, ?_⟩
      have e1 : wholeD (.int (h.wards : Int)) 0 4 = true := by
        show (decide ((0 : Int) ≤ (h.wards : Int)) && decide ((h.wards : Int) ≤ 4)) = true
        rw [decide_eq_true (by omega), decide_eq_true (by have := ok.w; omega)]
        rfl
      rw [e1]
      refine ⟨true, rfl, iteF ?_⟩
      refine ⟨_, rfl, _, _, 0, _, rfl, rfl, ha, at0 _ _, _, rfl, _, _, 1, _, rfl, rfl, ha, at1 _ _ _, b, us, h, rfl, hb, db, ok, fun H2 s2 => ?_⟩
      have ha2 := s2.seqT ha
      have hb2 := s2.seqT hb
      refine ⟨_, rfl, _, _, 0, _, rfl, rfl, ha2, at0 _ _, b, rfl, ⟨_, hb2⟩, fun D hD => lc_data (K := K) (walk_tup (K := K) (a := b) (xs := us)) (natD (h.bodies.map List.length)) ?_ ?_ hD (fun H s => s.seqT hb2) (fun i x H3 H4 d R R' hd' s3 y hR => ?_) (tupOnly_nat _) fun H3 vs s3 hv dv => ?_⟩
      · rw [natD_len, List.length_map, dpAll_len db, List.length_map]
      · have := ok.b3
        rw [dpAll_len db, List.length_map]
        exact small (by omega)
      · obtain ⟨rfl, hx⟩ := y
        obtain ⟨bd, hbd, dx⟩ := dpAll_map (dpAll_same (s2.trans s3) db) hx
        obtain ⟨c, ss, rfl, hc, ds⟩ := dp_body dx
        refine ⟨rfl, _, rfl, c, ss, rfl, .inr hc, hR _ _ (Same.refl _) ?_⟩
        rw [dpAll_len ds, List.length_map]
        unfold natD at hd'
        rw [List.map_map, List.getElem?_map, hbd] at hd'
        cases hd'
        exact .int _
      · have ev := nats_of dv
        subst ev
        refine ⟨D, (h.bodies.map List.length).map fun (n : Nat) => (n : Int), rfl, .inl (.inl ?_), _, _, rfl, rfl, _, rfl, if_f ?_ ?_⟩
        · rw [hv, nats_ints]
        · rw [sum_cast]
          exact decide_eq_false (by have := ok.s9; omega)
        · have s4 := s2.trans s3
          refine ⟨_, rfl, _, h, rfl, dp_same s4 hd, ok, _, _, rfl, rfl, _, rfl, if_f (decide_eq_false (by have := ok.round; omega)) ⟨_, rfl, q _ s4⟩⟩
    · cases hz with
      | form d hl =>
        by_cases ht : ∃ ds, d = .tuple ds
        · obtain ⟨ds, rfl⟩ := ht
          obtain ⟨a, us, rfl, ha, du⟩ := dp_tuple hd
          refine ⟨_, rfl, _, _, "tuple", true, rfl, hd, ty_tup, true, rfl, iteF ?_⟩
          have l := hl ds rfl
          rw [← dpAll_len du] at l
          refine ⟨_, rfl, _, _, rfl, .inr ha, rfl, _, rfl, if_t ?_ ?_⟩
          · show (!decide (V.int (us.length : Int) = V.int 2)) = true
            rw [decide_eq_false (fun z => by injection z with z; omega)]
            rfl
          · exact ⟨_, rfl, fun dd hdd => e _ dd (same_new hdd) upd_same⟩
        · refine ⟨_, rfl, _, _, "tuple", false, rfl, hd, ?_, false, rfl, iteT ?_⟩
          · cases d <;> first | rfl | exact absurd ⟨_, rfl⟩ ht
          · exact ⟨_, rfl, fun dd hdd => e _ dd (same_new hdd) upd_same⟩
      | wards d =>
        obtain ⟨a, us, rfl, ha, du⟩ := dp_tuple hd
        cases du with
        | cons h1 h2 =>
          cases h2 with
          | cons h2 h3 =>
            cases h3
            cases h2
            refine ⟨_, rfl, _, _, "tuple", true, rfl, hd, ty_tup, true, rfl, iteF ?_⟩
            refine ⟨_, rfl, _, _, rfl, .inr ha, rfl, _, rfl, if_f (by rfl) ?_⟩
            refine ⟨_, rfl, _, _, 1, _, rfl, rfl, ha, at1 _ _ _, _, _, _, _, rfl, .int _, false, rfl, iteT ?_⟩
            exact ⟨_, rfl, fun dd hdd => e _ dd (same_new hdd) upd_same⟩
end
end K88
set_option maxHeartbeats 1000000
/-! Comprehensions with two generators over the bodies of a house; counting. -/
namespace K88
open PySem PySem.Spec PyProof.Rows L2 LamX K88X
section
variable {K : PySem.W.Frag} {J : It} {n : Nat} {G : Hp → Prop} {Y : Nat → Hp → V → Hp → Prop}
/-- the inner loop of a comprehension with two generators -/
theorem lc_in (w : Walk J n G Y) {g : TG} {tt : TT} {te : TE} {vs : List Nat} {σ : L2.St} {H1 : Hp} {D : Addr} {Qd : Hp → Prop} (Pv : Nat → Hp → Prop) (h0 : Pv 0 H1) (hG : ∀ i H, i ≤ n → Pv i H → G H)
    (hs : ∀ i x H H', i < n → Pv i H → Y i H x H' → g x (wipe σ vs) H' fun σ2 H2 => wipe σ2 vs = wipe σ vs ∧ tt σ2 H2 fun b H3 =>
      if b = true then te σ2 H3 fun y H4 => ∃ acc, H4 D = some (.lst acc) ∧ acc.length < sizeLine ∧ Pv (i + 1) (upd H4 D (.lst (acc ++ [y]))) else Pv (i + 1) H3) (hd : ∀ H, Pv n H → Qd H) :
    ∃ W : Nat → Nat → Hp → Prop, (∃ m, W 0 m H1) ∧ ∀ i m H, W i m H →
      (J.stop i H ∧ Qd H) ∨ (J.go i H ∧ ∃ Nx : Hp → Prop, (∀ H', Nx H' → ∃ m', m' < m ∧ W (i + 1) m' H') ∧ ∀ x H', J.yld i H x H' → g x (wipe σ vs) H' fun σ2 H2 => wipe σ2 vs = wipe σ vs ∧ tt σ2 H2 fun b H3 =>
        if b = true then te σ2 H3 fun y H4 => ∃ acc, H4 D = some (.lst acc) ∧ acc.length < sizeLine ∧ Nx (upd H4 D (.lst (acc ++ [y]))) else Nx H3) := by
  refine ⟨fun i m H => m = n - i ∧ i ≤ n ∧ Pv i H, ⟨n, by simp, Nat.zero_le _, h0⟩, ?_⟩
  rintro i m H ⟨rfl, hi, p⟩
  have q := hG i H hi p
  by_cases hlt : i < n
  · refine .inr ⟨w.goes i H hlt q, Pv (i + 1), fun H' p' => ⟨n - (i + 1), by omega, rfl, hlt, p'⟩, fun x H' y => hs i x H H' hlt p (w.yields i H x H' hlt q y)⟩
  · have e : i = n := by omega
    subst e
    exact .inl ⟨w.stops H q, hd H p⟩
end
section
variable {K : PySem.W.Frag}
theorem flat_snoc {α β : Type} (f : α → List β) {bs : List α} {i : Nat} {b : α} (h : bs[i]? = some b) : (bs.take (i + 1)).flatMap f = (bs.take i).flatMap f ++ f b := by
  rw [take_snoc h, List.flatMap_append]
  simp
/-- [e(seat) for body in house[0] for seat in body], e(seat) a datum fo seat -/
theorem lc2_flat {b : Addr} {us : List V} {bs : List Body} {g g1 : TG} {wi1 : TI} {te : TE} {vs vs1 : List Nat} {σ : L2.St} {H1 : Hp} {D : Addr} {Qd : Hp → Prop} (fo : Seat → PyData) (S2 : V → L2.St) (S3 : V → V → L2.St)
    (hb : SqT K H1 b us) (db : DpAll K H1 us (bs.map bodyD)) (hD : H1 D = none) (hz : (bs.flatMap fun b => b.map fo).length < sizeLine) (to : ∀ b ∈ bs, ∀ s ∈ b, tupOnly (fo s) = true) (tos : ∀ b ∈ bs, ∀ s ∈ b, tupOnly (seatD s) = true)
    (hg : ∀ x H (Q : L2.St → Hp → Prop), Q (S2 x) H → g x (wipe σ vs) H Q) (hw : ∀ x, wipe (S2 x) vs = wipe σ vs)
    (hi : ∀ c xs H (R : It → Hp → Prop), SqT K H c xs → R (Itt K c) H → wi1 (S2 (.ref c)) H R)
    (hg1 : ∀ x y H (Q : L2.St → Hp → Prop), Q (S3 x y) H → g1 y (wipe (S2 x) vs1) H Q) (hw1 : ∀ x y, wipe (S3 x y) vs1 = wipe (S2 x) vs1)
    (he : ∀ x y s H (R : V → Hp → Prop), (∃ b ∈ bs, s ∈ b) → Dp K H y (seatD s) → (∀ z H4, Same H H4 → Dp K H4 z (fo s) → R z H4) → te (S3 x y) H R)
    (hd : ∀ H us, Same H1 H → H D = some (.lst us) → DpAll K H us (bs.flatMap fun b => b.map fo) → Qd H) :
    ∃ W : Nat → Nat → Hp → Prop, (∃ m, W 0 m (upd H1 D (.lst []))) ∧ ∀ i m H, W i m H →
      ((Itt K b).stop i H ∧ Qd H) ∨ ((Itt K b).go i H ∧ ∃ Nx : Hp → Prop, (∀ H', Nx H' → ∃ m', m' < m ∧ W (i + 1) m' H') ∧ ∀ x H', (Itt K b).yld i H x H' → g x (wipe σ vs) H' fun σ2 H2 => wipe σ2 vs = wipe σ vs ∧ tYes σ2 H2 fun b H3 =>
        if b = true then wi1 σ2 H3 fun J1 H4 => ∃ W1 : Nat → Nat → Hp → Prop, (∃ m, W1 0 m H4) ∧ ∀ j k H, W1 j k H →
          (J1.stop j H ∧ Nx H) ∨ (J1.go j H ∧ ∃ Nx1 : Hp → Prop, (∀ H', Nx1 H' → ∃ k', k' < k ∧ W1 (j + 1) k' H') ∧ ∀ x H', J1.yld j H x H' → g1 x (wipe σ2 vs1) H' fun σ3 H5 => wipe σ3 vs1 = wipe σ2 vs1 ∧ tYes σ3 H5 fun b H6 =>
            if b = true then te σ3 H6 fun y H7 => ∃ acc, H7 D = some (.lst acc) ∧ acc.length < sizeLine ∧ Nx1 (upd H7 D (.lst (acc ++ [y]))) else Nx1 H6)
        else Nx H3) := by
  have w := walk_tup (K := K) (a := b) (xs := us)
  let Pv : Nat → Hp → Prop := fun i H => Same H1 H ∧ ∃ us, H D = some (.lst us) ∧ DpAll K H us ((bs.take i).flatMap fun b => b.map fo)
  refine ⟨fun i m H => m = us.length - i ∧ i ≤ us.length ∧ Pv i H, ⟨us.length, by simp, Nat.zero_le _, same_new hD, [], upd_same, .nil⟩, ?_⟩
  rintro i m H ⟨rfl, hi', s, vs', e, du⟩
  have lu : us.length = bs.length := by rw [dpAll_len db, List.length_map]
  by_cases hlt : i < us.length
  · refine .inr ⟨w.goes i H hlt (s.seqT hb), Pv (i + 1), fun H' p' => ⟨us.length - (i + 1), by omega, rfl, hlt, p'⟩, fun x H' y => ?_⟩
    obtain ⟨rfl, hx⟩ := w.yields i H x H' hlt (s.seqT hb) y
    obtain ⟨bd, hbd, dx⟩ := dpAll_map (dpAll_same s db) hx
    obtain ⟨c, ss, rfl, hc, ds⟩ := dp_body dx
    have hm := List.mem_of_getElem? hbd
    refine hg _ _ _ ⟨hw _, ?_⟩
    refine hi c ss _ _ hc ?_
    have ls : ss.length = bd.length := by rw [dpAll_len ds, List.length_map]
    refine lc_in (walk_tup (K := K) (a := c) (xs := ss)) (fun j H3 => Tups H' H3 ∧ Same H1 H3 ∧ ∃ us, H3 D = some (.lst us) ∧ DpAll K H3 us (((bs.take i).flatMap fun b => b.map fo) ++ (bd.take j).map fo)) ⟨Tups.refl _, s, vs', e, by simpa using du⟩ (fun j H3 _ p => p.1.seq hc) ?_ ?_
    · rintro j z H3 H4 hj ⟨s1, s3, ws, e3, dw⟩ ⟨rfl, hz'⟩
      obtain ⟨st, hst, dz⟩ := dpAll_map (dpAll_tups s1 _ _ (tupOnlyAll_iff.mpr fun d hd => by obtain ⟨s2, hs2, rfl⟩ := List.mem_map.mp hd; exact tos bd hm s2 hs2) ds) hz'
      have hsm := List.mem_of_getElem? hst
      refine hg1 _ _ _ _ ⟨hw1 _ _, ?_⟩
      refine he _ _ st _ _ ⟨bd, hm, hsm⟩ dz fun y H5 s5 dy => ⟨ws, s5 _ _ e3, ?_, ?_⟩
      · have t1 : (((bs.take i).flatMap fun b => b.map fo) ++ (bd.take j).map fo).length ≤ (bs.flatMap fun b => b.map fo).length := by
          have q1 : (bs.flatMap fun b => b.map fo) = ((bs.take (i + 1)).flatMap fun b => b.map fo) ++ ((bs.drop (i + 1)).flatMap fun b => b.map fo) := by rw [← List.flatMap_append, List.take_append_drop]
          rw [q1, flat_snoc _ hbd]
          simp only [List.length_append, List.length_map, List.length_take]
          omega
        rw [dpAll_len dw]
        omega
      · have t5 : Tups H5 (upd H5 D (.lst (ws ++ [y]))) := Tups.put (by rw [s5 _ _ e3]; exact True.intro)
        have toA : ∀ d ∈ ((bs.take i).flatMap fun b => b.map fo) ++ (bd.take (j + 1)).map fo, tupOnly d = true := by
          intro d hd'
          rcases List.mem_append.mp hd' with q | q
          · obtain ⟨b2, hb2, q⟩ := List.mem_flatMap.mp q
            obtain ⟨s2, hs2, rfl⟩ := List.mem_map.mp q
            exact to b2 (List.mem_of_mem_take hb2) s2 hs2
          · obtain ⟨s2, hs2, rfl⟩ := List.mem_map.mp q
            exact to bd hm s2 (List.mem_of_mem_take hs2)
        refine ⟨s1.trans ((Tups.of s5).trans t5), (s3.trans s5).put hD, ws ++ [y], upd_same, ?_⟩
        · refine dpAll_tups t5 _ _ (tupOnlyAll_iff.mpr toA) ?_
          rw [take_snoc hst, List.map_append, ← List.append_assoc]
          exact dpAll_snoc (dpAll_same s5 dw) dy
    · rintro H3 ⟨s1, s3, ws, e3, dw⟩
      refine ⟨s3, ws, e3, ?_⟩
      rw [flat_snoc _ hbd]
      rw [ls, List.take_length] at dw
      exact dw
  · have e' : i = us.length := by omega
    subst e'
    refine .inl ⟨w.stops H (s.seqT hb), hd H vs' s e ?_⟩
    rw [lu, List.take_length] at du
    exact du
theorem cnt_range {α : Type} (f : α → Bool) : ∀ (l : List α) (p : Nat → Bool), (∀ j x, l[j]? = some x → p j = f x) → ((List.range l.length).filter p).length = l.countP f
  | [], p, h => rfl
  | x :: l, p, h => by
    rw [List.length_cons, List.range_succ_eq_map, List.filter_cons, List.countP_cons, List.filter_map, h 0 x rfl]
    have ih := cnt_range f l (p ∘ Nat.succ) fun j y hy => h (j + 1) y (by simpa using hy)
    cases f x
    · simp only [Bool.false_eq_true, if_false, List.length_map]
      rw [ih]
      rfl
    · simp only [if_true, List.length_cons, List.length_map]
      rw [ih]
end
end K88
set_option maxHeartbeats 1000000
/-! The walks: phases_of, loads_of, loads, busiest, are_phases, with_phases, loaded. -/
namespace K88
open PySem PySem.Spec PyProof.Rows L2 LamX K88X
section
variable {P : Program} {w : World} {K : PySem.W.Frag} {mg : Str → Option Value} {base : Heap}
/-! ### phases_of -/
def phRow (h : House) : List PyData := h.bodies.map fun b => .tuple (natD (b.map Seat.p))
def phD (h : House) : PyData := .tuple (phRow h)
theorem phRow_to (h : House) : tupOnlyAll (phRow h) = true := by
  rw [tupOnlyAll_iff]
  intro d hd
  obtain ⟨b, _, rfl⟩ := List.mem_map.mp hd
  exact tupOnly_nat _
def spPhasesOf (K : PySem.W.Frag) (C : Addr) : Sp := fun vs H Q E => ∃ x d, vs = [x] ∧ Dp K H x d ∧
  ((∃ h, d = houseD h ∧ HouseOk h ∧ ∀ y H', Same H H' → Dp K H' y (phD h) → Q y H') ∨ ∃ z, HBad d z ∧ Refuses C "place" (.str z) H E)
theorem sc_po : FnScope ["house", "body", "term", "phase", "way"] ["house"] (defScope sPhasesOf) := ⟨rfl, rfl, rfl, by decide +kernel, rfl, by decide +kernel, by decide +kernel⟩
theorem do_phasesOf {CH : Addr} (T : Blt mg) (A : At K mg "phases_of" sPhasesOf) (DN : Does P w K mg base (L2.CX P w) 6 "need_house" ["house"] (spNeedHouse K CH)) :
    Does P w K mg base (L2.CX P w) 7 "phases_of" ["house"] (spPhasesOf K CH) := by
  obtain ⟨f, fd, F, hm⟩ := A
  refine ⟨f, fd, hm, F.kp, F.binds fun _ _ _ _ _ _ us hl => match us, hl with | [_], _ => rfl, F.okX sc_po (fun vs H Q E h => ?_) (fun cdv A outer s H vs Q E hr h => ?_)⟩
  · obtain ⟨_, _, rfl, _⟩ := h
    rfl
  · obtain ⟨x, d, rfl, hd, h⟩ := h
    refine ⟨_, (pss_one (ps_ret (pe_callTy call_tuple_of (by rfl) T.tuple (by decide +kernel) (pa_cons (pe_lc (own := [("body", 1)]) (g := (gName 1)) (tt := tYes) rfl sc_po.nd (pi_tup (pe_ix ix_tup (pe_do DN hr (passes_call (takes_of rfl rfl rfl rfl) fun _ _ _ _ h => h) (pa_cons (pv 0) pa_nil)) pe_int (fun _ _ => rfl))) (blkOk_by (N := ["house", "body", "term", "phase", "way"]) (sc := defScope sPhasesOf) (by decide +kernel)) (fun _ _ _ _ _ => (pg_name (i := 1) sc_po.nd rfl (Or.inl rfl))) (fun _ _ _ _ _ => pts_nil) (fun _ _ _ _ _ => (pe_callTy (tupleK (K := K) rfl) (by rfl) T.tuple (by decide +kernel) (pa_cons (pe_lc (own := [("term", 2), ("phase", 3), ("way", 4)]) (g := (gTup K 3 (gCons (gName 2) (gCons (gName 3) (gCons (gName 4) gNil))))) (tt := tYes) rfl sc_po.nd (piTK (K := K) rfl (pv 1)) (blkOk_by (by kernel_rfl)) (fun _ _ _ _ _ => (pg_tup (by rfl) (pgs_cons (pg_name (i := 2) sc_po.nd rfl (Or.inl rfl)) (pgs_cons (pg_name (i := 3) sc_po.nd rfl (Or.inl rfl)) (pgs_cons (pg_name (i := 4) sc_po.nd rfl (Or.inl rfl)) pgs_nil))))) (fun _ _ _ _ _ => pts_nil) (fun _ _ _ _ _ => (pv 3))) pa_nil)))) pa_nil)))), ?_⟩
    rcases h with ⟨h, rfl, ok, q⟩ | ⟨z, hz, e⟩
    · obtain ⟨a, y, b, us, rfl, ha, rfl, hb, db⟩ := dp_house hd
      refine ⟨_, rfl, _, _, rfl, hd, .inl ⟨h, rfl, ok, fun H1 s1 => ?_⟩⟩
      have hb1 := s1.seqT hb
      refine ⟨a, _, 0, _, rfl, rfl, s1.seqT ha, at0 _ _, b, rfl, ⟨_, hb1⟩, fun D hD => lc_data (K := K) (walk_tup (K := K) (a := b) (xs := us)) (phRow h) ?_ ?_ hD (fun H s => s.seqT hb1) (fun i x H3 H4 d R R' hd' s3 y hR => ?_) (phRow_to h) fun H3 vs s3 hv dv => ?_⟩
      · rw [phRow, List.length_map, dpAll_len db, List.length_map]
      · have := ok.b3
        rw [dpAll_len db, List.length_map]
        exact small (by omega)
      · obtain ⟨rfl, hx⟩ := y
        obtain ⟨bd, hbd, dx⟩ := dpAll_map (dpAll_same (s1.trans s3) db) hx
        obtain ⟨c, ss, rfl, hc, ds⟩ := dp_body dx
        have hm := List.mem_of_getElem? hbd
        rw [phRow, List.getElem?_map, hbd] at hd'
        cases hd'
        refine ⟨rfl, _, rfl, c, rfl, ⟨_, hc⟩, fun D2 hD2 => lc_data (K := K) (walk_tup (K := K) (a := c) (xs := ss)) (natD (bd.map Seat.p)) ?_ ?_ hD2 (fun H s => s.seqT hc) (fun j x2 H5 H6 d2 R2 R2' hd2 s5 y2 hR2 => ?_) (tupOnly_nat _) fun H5 vs2 s5 hv2 dv2 => ?_⟩
        · rw [natD_len, List.length_map, dpAll_len ds, List.length_map]
        · have := (ok.s1 bd hm).2
          rw [dpAll_len ds, List.length_map]
          exact small (by omega)
        · obtain ⟨rfl, hx2⟩ := y2
          obtain ⟨st, hst, dz⟩ := dpAll_map (dpAll_same s5 ds) hx2
          obtain ⟨e, yy, rfl, he, hyy⟩ := dp_seat dz
          refine ⟨e, _, rfl, he, rfl, _, _, rfl, _, _, rfl, _, _, rfl, rfl, rfl, _, rfl, hR2 _ _ (Same.refl _) ?_⟩
          unfold natD at hd2
          rw [List.map_map, List.getElem?_map, hst] at hd2
          cases hd2
          exact .int _
        · exact ⟨D2, vs2, rfl, .inl ⟨.inl (.inl hv2), fun l hl => hR _ _ (s5.new hl) (.tup (seqT_of upd_same) (dpAll_same (same_new hl) dv2))⟩⟩
      · exact ⟨D, vs, rfl, .inl ⟨.inl (.inl hv), fun l hl => q _ _ ((s1.trans s3).new hl) (.tup (seqT_of upd_same) (dpAll_same (same_new hl) dv))⟩⟩
    · exact ⟨_, rfl, _, _, rfl, hd, .inr ⟨z, hz, e⟩⟩
/-! ### loads_of -/
def seats (h : House) : List Seat := h.bodies.flatMap id
theorem seats_le {h : House} (ok : HouseOk h) : (seats h).length ≤ 9 := by
  have := ok.s9
  simpa [seats, List.length_flatMap] using this
theorem terms_seats (h : House) : terms h = (seats h).map Seat.t := by unfold terms seats; rw [List.map_flatMap]; rfl
theorem phases_seats (h : House) : phases h = (seats h).map Seat.p := by unfold phases seats; rw [List.map_flatMap]; rfl
theorem seats_data (h : House) : (h.bodies.flatMap fun b => b.map seatD) = (seats h).map seatD := by unfold seats; rw [List.map_flatMap]; rfl
theorem seats_ok {h : House} (ok : HouseOk h) {s : Seat} (hs : s ∈ seats h) : SeatOk h.bodies.length h.wards s := by
  obtain ⟨b, hb, hs⟩ := List.mem_flatMap.mp hs
  exact ok.seats b hb s hs
def spLoadsOf (K : PySem.W.Frag) : Sp := fun vs H Q _ => ∃ x h, vs = [x] ∧ Dp K H x (houseD h) ∧ HouseOk h ∧ ∀ y H', Same H H' → Dp K H' y (.list (natD (loads (terms h) (phases h)))) → Q y H'
theorem sc_lo : FnScope ["house", "seats", "body", "seat", "number"] ["house"] (defScope sLoadsOf) := ⟨rfl, rfl, rfl, by decide +kernel, rfl, by decide +kernel, by decide +kernel⟩
theorem do_loadsOf (T : Blt mg) (A : At K mg "loads_of" sLoadsOf) (DU : Does P w K mg base CX0 2 "comes_up" ["seat", "number"] (spComesUp K)) (DR : Does P w K mg base CX0 2 "round_of" ["house"] (spRoundOf K)) :
    Does P w K mg base CX0 3 "loads_of" ["house"] (spLoadsOf K) := by
  obtain ⟨f, fd, F, hm⟩ := A
  refine ⟨f, fd, hm, F.kp, F.binds fun _ _ _ _ _ _ us hl => match us, hl with | [_], _ => rfl, F.ok sc_lo (fun vs H Q E h => ?_) (fun cdv A outer s H vs Q E hr h => ?_)⟩
  · obtain ⟨_, _, rfl, _⟩ := h
    rfl
  · obtain ⟨x, h, rfl, hd, ok, q⟩ := h
    refine ⟨_, (pss_cons (ps_set (i := 1) sc_lo.nd rfl (Or.inr rfl) (pe_lc2 (own := [("body", 2), ("seat", 3)]) (vs1 := [3]) (g := (gName 2)) (g1 := (gName 3)) (tt := tYes) (tt1 := tYes) rfl sc_lo.nd (pi_tup (pe_ix ix_tup (pv 0) pe_int (fun _ _ => rfl))) (blkOk_by (N := ["house", "seats", "body", "seat", "number"]) (sc := defScope sLoadsOf) (by decide +kernel)) (by decide) (fun _ _ _ _ _ => (pg_name (i := 2) sc_lo.nd rfl (Or.inl rfl))) (fun _ _ _ _ _ => pts_nil) (fun _ _ _ _ _ => (piTK (K := K) rfl (pv 2))) (fun _ _ _ _ _ => (pg_name (i := 3) sc_lo.nd rfl (Or.inl rfl))) (fun _ _ _ _ _ => pts_nil) (fun _ _ _ _ _ => (pv 3))))
      (pss_one (ps_ret (pe_lc (own := [("number", 4)]) (g := (gName 4)) (tt := tYes) rfl sc_lo.nd (pi_range1 rfl T.range (pa_cons (pe_do DR hr pass0 (pa_cons (pv 0) pa_nil)) pa_nil)) (blkOk_by (N := ["house", "seats", "body", "seat", "number"]) (sc := defScope sLoadsOf) (by decide +kernel)) (fun _ _ _ _ _ => (pg_name (i := 4) sc_lo.nd rfl (Or.inr rfl))) (fun _ _ _ _ _ => pts_nil) (fun _ _ _ _ _ => (pe_callB (lenK (K := K) rfl) (by rfl) T.len PySem.boot_len (pa_cons (pe_lc (own := [("seat", 3)]) (g := (gName 3)) (tt := _) rfl sc_lo.nd (piLK (K := K) rfl (pv 1)) (blkOk_by (by kernel_rfl)) (fun _ _ _ _ _ => (pg_name (i := 3) sc_lo.nd rfl (Or.inl rfl))) (fun _ _ _ _ _ => (pts_one (pt_val (pe_do DU hr pass0 (pa_cons (pv 3) (pa_cons (pv 4) pa_nil)))))) (fun _ _ _ _ _ => pe_int)) pa_nil))))))), ?_⟩
    obtain ⟨a, y, b, us, rfl, ha, rfl, hb, db⟩ := dp_house hd
    have lens : (seats h).length ≤ 9 := seats_le ok
    refine ⟨_, rfl, _, _, 0, _, rfl, rfl, ha, at0 _ _, b, rfl, ⟨_, hb⟩, fun D hD => lc2_flat (K := K) seatD (fun x => [some (.ref a), none, some x, none, none]) (fun x y => [some (.ref a), none, some x, some y, none]) hb db hD ?_ ?_ ?_ (fun _ _ _ h => h) (fun _ => rfl)
      (fun c xs H R hc r => ⟨_, rfl, c, rfl, ⟨_, hc⟩, r⟩) (fun _ _ _ _ h => h) (fun _ _ => rfl) (fun x y st H R hs dy r => ⟨_, rfl, r _ _ (Same.refl _) dy⟩) fun H1 vs s1 hv dv => ?_⟩
    · rw [seats_data, List.length_map]
      exact Nat.lt_of_le_of_lt lens (by unfold sizeLine; omega)
    · exact fun b hb s hs => seat_to (ok.seats b hb s hs)
    · exact fun b hb s hs => seat_to (ok.seats b hb s hs)
    · rw [seats_data] at dv
      have hr12 := ok.round
      refine ⟨_, rfl, _, h, rfl, dp_same s1 hd, ok, _, rfl, by omega, by omega, fun D2 hD2 => lc_data (K := K) (walk_range (lo := 0) (n := rnd (terms h))) (natD (K88.loads (terms h) (phases h))) ?_ (small (by omega)) hD2 (fun _ _ => True.intro) (fun i x H3 H4 d R R' hd' s3 y hR => ?_) (tupOnly_nat _) fun H3 vs3 s3 hv3 dv3 => ?_⟩
      · rw [natD_len, K88.loads, List.length_map, List.length_range]
      · obtain ⟨rfl, rfl⟩ := y
        have hv3 := s3 _ _ hv
        have hSeats := dpAll_same s3 dv
        unfold natD K88.loads at hd'
        rw [List.map_map, List.getElem?_map] at hd'
        have hi : i < rnd (terms h) := by
          rcases Nat.lt_or_ge i (rnd (terms h)) with q | q
          · exact q
          · rw [List.getElem?_eq_none (by rw [List.length_range]; exact q)] at hd'
            cases hd'
        rw [List.getElem?_range hi] at hd'
        cases hd'
        let f : Seat → Bool := fun s => due i s.t s.p
        refine ⟨rfl, _, rfl, D, rfl, ⟨vs, .inl (.inl hv3)⟩, fun D3 hD3 => lc_pick (walk_list (K := K) (a := D) (xs := vs)) (fun j => match (seats h)[j]? with | some s => f s | none => false) (fun _ => .int 1) ?_ hD3 (fun H s => .inl (.inl (s _ _ hv3))) (fun j z H5 H6 R2 R2' hj s5 y2 ht hf => ?_) fun H5 s5 hv5 => ?_⟩
        · rw [dpAll_len dv, List.length_map]
          exact small (by omega)
        · obtain ⟨rfl, hz⟩ := y2
          obtain ⟨st, hst, dz⟩ := dpAll_map (dpAll_same s5 hSeats) hz
          have sok := seats_ok ok (List.mem_of_getElem? hst)
          rw [hst] at ht hf
          refine ⟨rfl, _, rfl, _, rfl, z, st, i, by simp, dz, sok.t1, sok.p, due i st.t st.p, rfl, ?_⟩
          cases hdue : due i st.t st.p
          · exact hf hdue _ (Same.refl _)
          · exact ht hdue _ (Same.refl _)
        · refine ⟨D3, _, rfl, .inl (.inl (.inl hv5)), hR _ _ s5 ?_⟩
          have hlen : vs.length = (seats h).length := by rw [dpAll_len dv, List.length_map]
          rw [List.length_map, hlen, cnt_range f (seats h) _ (fun j x hx => by rw [hx])]
          have e : (List.zip (terms h) (phases h)).countP (fun q => due i q.1 q.2) = (seats h).countP f := by
            rw [terms_seats, phases_seats, List.zip_map', List.countP_map]
            rfl
          show Dp K H5 _ (.int ((List.countP (fun q => due i q.1 q.2) (List.zip (terms h) (phases h)) : Nat) : Int))
          rw [e]
          exact .int _
      · exact q _ _ ((((s1.trans s3)))) (.lst (.inl (.inl hv3)) dv3)
/-! ### loads -/
def spLoads (K : PySem.W.Frag) (C : Addr) : Sp := fun vs H Q E => ∃ x d, vs = [x] ∧ Dp K H x d ∧
  ((∃ h, d = houseD h ∧ HouseOk h ∧ ∀ y H', Same H H' → Dp K H' y (.tuple (natD (loads (terms h) (phases h)))) → Q y H') ∨ ∃ z, HBad d z ∧ Refuses C "place" (.str z) H E)
theorem sc_ld : FnScope ["house"] ["house"] (defScope sLoads) := ⟨rfl, rfl, rfl, by decide +kernel, rfl, by decide +kernel, by decide +kernel⟩
theorem do_loads {CH : Addr} (T : Blt mg) (A : At K mg "loads" sLoads) (DN : Does P w K mg base (L2.CX P w) 6 "need_house" ["house"] (spNeedHouse K CH)) (DL : Does P w K mg base CX0 6 "loads_of" ["house"] (spLoadsOf K)) :
    Does P w K mg base (L2.CX P w) 7 "loads" ["house"] (spLoads K CH) := by
  obtain ⟨f, fd, F, hm⟩ := A
  refine ⟨f, fd, hm, F.kp, F.binds fun _ _ _ _ _ _ us hl => match us, hl with | [_], _ => rfl, F.okX sc_ld (fun vs H Q E h => ?_) (fun cdv A outer s H vs Q E hr h => ?_)⟩
  · obtain ⟨_, _, rfl, _⟩ := h
    rfl
  · obtain ⟨x, d, rfl, hd, h⟩ := h
    refine ⟨_, (pss_one (ps_ret (pe_callTy call_tuple_of (by rfl) T.tuple (by decide +kernel) (pa_cons (pe_do DL hr pass0 (pa_cons (pe_do DN hr (passes_call (takes_of rfl rfl rfl rfl) fun _ _ _ _ h => h) (pa_cons (pv 0) pa_nil)) pa_nil)) pa_nil)))), ?_⟩
    rcases h with ⟨h, rfl, ok, q⟩ | ⟨z, hz, e⟩
    · refine ⟨_, rfl, _, _, rfl, hd, .inl ⟨h, rfl, ok, fun H1 s1 => ⟨_, h, rfl, dp_same s1 hd, ok, fun y H2 s2 dy => ?_⟩⟩⟩
      obtain ⟨p, vs, rfl, hs, dv⟩ := dp_list dy
      exact ⟨p, vs, rfl, .inl ⟨hs, fun l hl => q _ _ ((s1.trans s2).new hl) (.tup (seqT_of upd_same) (dpAll_same (same_new hl) dv))⟩⟩
    · exact ⟨_, rfl, _, _, rfl, hd, .inr ⟨z, hz, e⟩⟩
/-! ### busiest -/
theorem max_ints {ls : List Nat} {m : Int} (h1 : m ∈ ls.map fun (n : Nat) => (n : Int)) (h2 : ∀ y, y ∈ (ls.map fun (n : Nat) => (n : Int)) → y ≤ m) : m = ((maxL ls : Nat) : Int) := by
  obtain ⟨n, hn, rfl⟩ := List.mem_map.mp h1
  rw [maxL_of hn fun x hx => Int.ofNat_le.mp (h2 _ (List.mem_map.mpr ⟨x, hx, rfl⟩))]
theorem idx_hit {a : Nat} : ∀ {l : List Nat}, a ∈ l → l[l.idxOf a]? = some a
  | [], h => absurd h (by simp)
  | b :: l, h => by
    rw [List.idxOf_cons]
    by_cases e : b = a
    · subst e; simp
    · have : (b == a) = false := by simp [e]
      rw [this]
      simp only [cond_false, List.getElem?_cons_succ]
      exact idx_hit (by rcases List.mem_cons.mp h with q | q; exact absurd q.symm e; exact q)
theorem idx_miss {a : Nat} : ∀ {l : List Nat} {m z : Nat}, m < l.idxOf a → l[m]? = some z → z ≠ a
  | [], m, z, h, e => by simp at e
  | b :: l, m, z, h, e => by
    rw [List.idxOf_cons] at h
    by_cases q : b = a
    · subst q; simp at h
    · have r : (b == a) = false := by simp [q]
      rw [r, cond_false] at h
      cases m with
      | zero => simp at e; subst e; exact q
      | succ m => exact idx_miss (l := l) (m := m) (by omega) (by simpa using e)
theorem loads_len (ts ps : List Nat) : (K88.loads ts ps).length = rnd ts := by rw [K88.loads, List.length_map, List.length_range]
theorem terms_pos {h : House} (ok : HouseOk h) : ∀ t ∈ terms h, 0 < t := by
  intro t ht
  rw [terms_seats] at ht
  obtain ⟨s, hs, rfl⟩ := List.mem_map.mp ht
  exact (seats_ok ok hs).t1
theorem loads_ne {ts ps : List Nat} (h : ∀ t ∈ ts, 0 < t) : K88.loads ts ps ≠ [] := by
  intro e
  have l := loads_len ts ps
  rw [e] at l
  have := rnd_pos h
  simp at l
  omega
def busD (ns : List Nat) : PyData := .tuple [.int (maxL ns : Nat), .int ((ns.idxOf (maxL ns) : Nat) : Int)]
def spBusiest (K : PySem.W.Frag) (C : Addr) : Sp := fun vs H Q E => ∃ x d, vs = [x] ∧ Dp K H x d ∧
  ((∃ h, d = houseD h ∧ HouseOk h ∧ ∀ y H', Same H H' → Dp K H' y (busD (loads (terms h) (phases h))) → Q y H') ∨ ∃ z, HBad d z ∧ Refuses C "place" (.str z) H E)
theorem sc_bu : FnScope ["house", "some"] ["house"] (defScope sBusiest) := ⟨rfl, rfl, rfl, by decide +kernel, rfl, by decide +kernel, by decide +kernel⟩
theorem do_busiest {CH : Addr} (T : Blt mg) (A : At K mg "busiest" sBusiest) (DN : Does P w K mg base (L2.CX P w) 6 "need_house" ["house"] (spNeedHouse K CH)) (DL : Does P w K mg base CX0 6 "loads_of" ["house"] (spLoadsOf K)) :
    Does P w K mg base (L2.CX P w) 7 "busiest" ["house"] (spBusiest K CH) := by
  obtain ⟨f, fd, F, hm⟩ := A
  refine ⟨f, fd, hm, F.kp, F.binds fun _ _ _ _ _ _ us hl => match us, hl with | [_], _ => rfl, F.okX sc_bu (fun vs H Q E h => ?_) (fun cdv A outer s H vs Q E hr h => ?_)⟩
  · obtain ⟨_, _, rfl, _⟩ := h
    rfl
  · obtain ⟨x, d, rfl, hd, h⟩ := h
    refine ⟨_, (pss_cons (ps_set (i := 1) sc_bu.nd rfl (Or.inl rfl) (pe_do DL hr pass0 (pa_cons (pe_do DN hr (passes_call (takes_of rfl rfl rfl rfl) fun _ _ _ _ h => h) (pa_cons (pv 0) pa_nil)) pa_nil)))
      (pss_one (ps_ret (pe_tup (pa_cons (pe_callB (cr_max rfl) (by rfl) T.max (by decide +kernel) (pa_cons (pv 1) pa_nil)) (pa_cons (pe_bm PySem.F.plainAttrs_list PySem.F.slot_list_index PySem.F.type_list_index mt_index (pv 1) (pa_cons (pe_callB (cr_max rfl) (by rfl) T.max (by decide +kernel) (pa_cons (pv 1) pa_nil)) pa_nil)) pa_nil)))))), ?_⟩
    rcases h with ⟨h, rfl, ok, q⟩ | ⟨z, hz, e⟩
    · refine ⟨_, rfl, _, _, rfl, hd, .inl ⟨h, rfl, ok, fun H1 s1 => ⟨_, h, rfl, dp_same s1 hd, ok, fun y H2 s2 dy => ?_⟩⟩⟩
      obtain ⟨p, vs, rfl, hs, dv⟩ := dp_list dy
      have ev := nats_of dv
      subst ev
      have ne := loads_ne (ps := phases h) (terms_pos ok)
      have hs' := hs
      rw [nats_ints] at hs'
      have hl : 0 < ((K88.loads (terms h) (phases h)).map fun (n : Nat) => (n : Int)).length := by
        rw [List.length_map]
        exact List.length_pos_iff.mpr ne
      refine ⟨_, rfl, p, _, rfl, hs', hl, fun m m1 m2 => ?_⟩
      obtain rfl := max_ints m1 m2
      refine ⟨_, rfl, .inl ⟨rfl, _, hs⟩, _, rfl, p, _, rfl, hs', hl, fun m m1 m2 => ?_⟩
      obtain rfl := max_ints m1 m2
      refine ⟨p, _, _, (K88.loads (terms h) (phases h)).idxOf (maxL (K88.loads (terms h) (phases h))), .int ((maxL (K88.loads (terms h) (phases h)) : Nat) : Int), rfl, rfl, hs, rfl, ?_, ?_, ?_, ?_, len_ok (by simp), fun p2 hp2 => q _ _ ((s1.trans s2).new hp2) (.tup (seqT_of upd_same) (.cons (.int _) (.cons (.int _) .nil)))⟩
      · rw [nats, List.all_map]
        exact List.all_eq_true.mpr fun _ _ => rfl
      · rw [nats_get, idx_hit (maxL_mem ne)]
        rfl
      · show (_ == _) = true
        simp
      · intro m z hm hz
        rw [nats_get] at hz
        cases e : (K88.loads (terms h) (phases h))[m]? with
        | none => rw [e] at hz; cases hz
        | some n =>
          rw [e] at hz
          cases hz
          have := idx_miss hm e
          show (_ == _) = false
          simp
          omega
    · exact ⟨_, rfl, _, _, rfl, hd, .inr ⟨z, hz, e⟩⟩
/-! ### are_phases -/
theorem bls_of {H : Hp} : ∀ {l : List Bool} {vs : List V}, DpAll K H vs (l.map .bool) → vs = l.map V.bl
  | [], _, h => by cases h; rfl
  | b :: l, _, h => by
    cases h with
    | cons h1 h2 =>
      cases h1
      rw [bls_of h2]
      rfl
def rowOk (r : PyData) (b : Body) : Bool := match r with
  | .tuple es => decide (es.length = b.length) && (List.zipWith (fun e (s : Seat) => wholeD e 0 ((s.t : Int) - 1)) es b).all id
  | _ => false
def arPh (h : House) (d : PyData) : Bool := match d with
  | .tuple rs => decide (rs.length = h.bodies.length) && (List.zipWith rowOk rs h.bodies).all id
  | _ => false
def spArePhases (K : PySem.W.Frag) : Sp := fun vs H Q _ => ∃ x y h d, vs = [x, y] ∧ Dp K H x (houseD h) ∧ HouseOk h ∧ Dp K H y d ∧ ∀ H', Same H H' → Q (.bl (arPh h d)) H'
theorem sc_ap : FnScope ["house", "value", "row", "body", "phase", "seat"] ["house", "value"] (defScope sArePhases) := ⟨rfl, rfl, rfl, by decide +kernel, rfl, by decide +kernel, by decide +kernel⟩
theorem do_arePhases (T : Blt mg) (A : At K mg "are_phases" sArePhases) (DW : Does P w K mg base CX0 6 "is_whole" ["value", "least", "most"] (spWhole K)) :
    Does P w K mg base CX0 7 "are_phases" ["house", "value"] (spArePhases K) := by
  obtain ⟨f, fd, F, hm⟩ := A
  refine ⟨f, fd, hm, F.kp, F.binds fun _ _ _ _ _ _ us hl => match us, hl with | [_, _], _ => rfl, F.ok sc_ap (fun vs H Q E h => ?_) (fun cdv A outer s H vs Q E hr h => ?_)⟩
  · obtain ⟨_, _, _, _, rfl, _⟩ := h
    rfl
  · obtain ⟨x, y, h, d, rfl, hd, ok, hy, q⟩ := h
    refine ⟨_, (pss_cons (ps_if (PW.pt (pw_or (pt_not (pt_val (pe_callB call_isD (by rfl) T.isinstance (by decide +kernel) (pa_cons (pv 1) (pa_cons (pe_bltn (v := .ty "tuple") (by rfl) T.tuple (by decide +kernel) rfl) pa_nil))))) (pw_or1 (pt_cmpR op_ne (pe_callB call_len_seq (by rfl) T.len PySem.boot_len (pa_cons (pv 1) pa_nil)) (pe_callB call_len_seq (by rfl) T.len PySem.boot_len (pa_cons (pe_ix ix_tup (pv 0) pe_int (fun _ _ => rfl)) pa_nil)) (nomark _))))) (pss_one (ps_ret pe_bl)) pss_nil)
      (pss_cons (ps_for PassesOwn.never rfl (RZ.pi_zipA (by rfl) T.zip (pa_cons (pv 1) (pa_cons (pe_ix ix_tup (pv 0) pe_int (fun _ _ => rfl)) pa_nil))) (pg_tup (by rfl) (pgs_cons (pg_name (i := 2) sc_ap.nd rfl (Or.inl rfl)) (pgs_cons (pg_name (i := 3) sc_ap.nd rfl (Or.inl rfl)) pgs_nil))) (pss_cons (ps_if (PW.pt (pw_or (pt_not (pt_val (pe_callB call_isD (by rfl) T.isinstance (by decide +kernel) (pa_cons (pv 2) (pa_cons (pe_bltn (v := .ty "tuple") (by rfl) T.tuple (by decide +kernel) rfl) pa_nil))))) (pw_or1 (pt_cmpR op_ne (pe_callB call_len_seq (by rfl) T.len PySem.boot_len (pa_cons (pv 2) pa_nil)) (pe_callB call_len_seq (by rfl) T.len PySem.boot_len (pa_cons (pv 3) pa_nil)) (nomark _))))) (pss_one (ps_ret pe_bl)) pss_nil)
      (pss_one (ps_if (pt_not (pt_val (pe_callB (cr_all rfl) (by rfl) T.all (by decide +kernel) (pa_cons (pe_lc (own := [("phase", 4), ("seat", 5)]) (g := (gTup K 2 (gCons (gName 4) (gCons (gName 5) gNil)))) (tt := tYes) rfl sc_ap.nd (RZ.pi_zipA (by rfl) T.zip (pa_cons (pv 2) (pa_cons (pv 3) pa_nil))) (blkOk_by (N := ["house", "value", "row", "body", "phase", "seat"]) (sc := defScope sArePhases) (by decide +kernel)) (fun _ _ _ _ _ => (pg_tup (by rfl) (pgs_cons (pg_name (i := 4) sc_ap.nd rfl (Or.inl rfl)) (pgs_cons (pg_name (i := 5) sc_ap.nd rfl (Or.inl rfl)) pgs_nil)))) (fun _ _ _ _ _ => pts_nil) (fun _ _ _ _ _ => (pe_do DW hr pass0 (pa_cons (pv 4) (pa_cons pe_int (pa_cons (pe_op op_sub (pe_ix (ixTK (K := K) rfl) (pv 5) pe_int (fun _ _ => rfl)) pe_int) pa_nil)))))) pa_nil)))) (pss_one (ps_ret pe_bl)) pss_nil))))
      (pss_one (ps_ret pe_bl)))), ?_⟩
    obtain ⟨a, yy, b, us, rfl, ha, rfl, hb, db⟩ := dp_house hd
    have lu : us.length = h.bodies.length := by rw [dpAll_len db, List.length_map]
    by_cases ht : ∃ rs, d = .tuple rs
    · obtain ⟨rs, rfl⟩ := ht
      obtain ⟨c, vs, rfl, hc, dv⟩ := dp_tuple hy
      have lv := dpAll_len dv
      refine ⟨_, rfl, _, _, "tuple", true, rfl, hy, ty_tup, true, rfl, iteF ?_⟩
      refine ⟨_, rfl, _, _, rfl, .inr hc, _, rfl, _, _, 0, _, rfl, rfl, ha, at0 _ _, b, us, rfl, .inr hb, rfl, _, rfl, ?_⟩
      by_cases hl : rs.length = h.bodies.length
      · refine if_f (by rw [lu, lv, hl]; simp) ?_
        have lL : (List.zipWith rowOk rs h.bodies).length = h.bodies.length := by rw [List.length_zipWith, hl, Nat.min_self]
        refine ⟨_, rfl, _, rfl, _, _, 0, _, rfl, rfl, ha, at0 _ _, c, b, vs, us, rfl, .inr ⟨hc, hb, for_it (walk_zipT (K := K) (a := c) (b := b) (xs := vs) (ys := us) (n := h.bodies.length) (by rw [lv, lu, hl, Nat.min_self]))
          (fun i σ H' => Same H H' ∧ ((List.zipWith rowOk rs h.bodies).take i).all id = true ∧ ∃ v2 v3 v4 v5, σ = [some (.ref a), some (.ref c), v2, v3, v4, v5])
          ⟨Same.refl H, rfl, _, _, _, _, rfl⟩ (fun i σ H' _ e => ⟨e.1.seqT hc, e.1.seqT hb⟩) ?_ ?_⟩⟩
        · rintro i z σ H' H'' hi ⟨s1, hall, v2, v3, v4, v5, rfl⟩ ⟨tp, r, x, rfl, np, rfl, hr', hx⟩
          obtain ⟨rd, hrd, dr⟩ := dpAll_at (dpAll_same s1 dv) hr'
          obtain ⟨bd, hbd, dx⟩ := dpAll_map (dpAll_same s1 db) hx
          obtain ⟨e2, ss, rfl, he2, ds⟩ := dp_body dx
          have hLi : (List.zipWith rowOk rs h.bodies)[i]? = some (rowOk rd bd) := by rw [List.getElem?_zipWith, hrd, hbd]
          have s2 : Same H' (upd H' tp (.tup [r, .ref e2])) := same_new np
          have bad : rowOk rd bd = false → ∀ H3, Same H' H3 → Q (.bl false) H3 := by
            intro hb3 H3 s3
            have : arPh h (.tuple rs) = false := by
              show (decide _ && _) = false
              rw [Bool.and_eq_false_iff]
              refine .inr (List.all_eq_false.mpr ⟨_, List.mem_of_getElem? hLi, by rw [hb3]; simp⟩)
            rw [← this]
            exact q _ (s1.trans s3)
          refine ⟨tp, _, rfl, seqT_of upd_same, rfl, _, _, rfl, _, _, rfl, rfl, ?_⟩
          by_cases htr : ∃ es, rd = .tuple es
          · obtain ⟨es, rfl⟩ := htr
            obtain ⟨e3, ws, rfl, he3, dw⟩ := dp_tuple dr
            have lw := dpAll_len dw
            have lss : ss.length = bd.length := by rw [dpAll_len ds, List.length_map]
            have he3' := s2.seqT he3
            have he2' := s2.seqT he2
            refine ⟨_, rfl, _, _, "tuple", true, rfl, dp_same s2 dr, ty_tup, true, rfl, iteF ?_⟩
            refine ⟨_, rfl, _, _, rfl, .inr he3', _, rfl, _, _, rfl, .inr he2', rfl, _, rfl, ?_⟩
            by_cases hle : es.length = bd.length
            · refine if_f (by rw [lw, lss, hle]; simp) ?_
              have lB : (List.zipWith (fun e (s : Seat) => wholeD e 0 ((s.t : Int) - 1)) es bd).length = bd.length := by rw [List.length_zipWith, hle, Nat.min_self]
              refine ⟨_, rfl, _, rfl, e3, e2, ws, ss, rfl, .inr ⟨he3', he2', fun D hD => lc_data (K := K) (walk_zipT (K := K) (a := e3) (b := e2) (xs := ws) (ys := ss) (n := bd.length) (by rw [lw, lss, hle, Nat.min_self]))
                ((List.zipWith (fun e (s : Seat) => wholeD e 0 ((s.t : Int) - 1)) es bd).map .bool) (by rw [List.length_map, lB]) (small (by have := (ok.s1 bd (List.mem_of_getElem? hbd)).2; omega)) hD (fun H s => ⟨s.seqT he3', s.seqT he2'⟩) (fun j z2 H5 H6 d2 R2 R2' hd2 s5 y2 hR2 => ?_) ?_ fun H5 vs2 s5 hv2 dv2 => ?_⟩⟩
              · obtain ⟨tp2, ph, x2, rfl, np2, rfl, hph, hx2⟩ := y2
                obtain ⟨pd, hpd, dpd⟩ := dpAll_at (dpAll_same (s2.trans s5) dw) hph
                obtain ⟨st, hst, dz⟩ := dpAll_map (dpAll_same (s2.trans s5) ds) hx2
                obtain ⟨e5, y5, rfl, he5, hy5⟩ := dp_seat dz
                have s6 : Same H5 (upd H5 tp2 (.tup [ph, .ref e5])) := same_new np2
                rw [List.getElem?_map, List.getElem?_zipWith, hpd, hst] at hd2
                cases hd2
                refine ⟨tp2, _, rfl, seqT_of upd_same, rfl, _, _, rfl, _, _, rfl, rfl, rfl, _, rfl, _, rfl, _, _, 0, _, rfl, rfl, s6.seqT he5, at0 _ _, _, _, rfl, rfl, ph, 0, (st.t : Int) - 1, pd, rfl, dp_same s6 dpd, hR2 _ _ s6 (.bl _)⟩
              · rw [tupOnlyAll_iff]
                intro d3 hd3
                obtain ⟨bb, _, rfl⟩ := List.mem_map.mp hd3
                rfl
              · refine ⟨D, _, rfl, .inl (.inl (bls_of dv2 ▸ hv2)), _, rfl, ?_⟩
                have er : rowOk (.tuple es) bd = (List.zipWith (fun e (s : Seat) => wholeD e 0 ((s.t : Int) - 1)) es bd).all id := by
                  show (decide _ && _) = _
                  rw [decide_eq_true hle, Bool.true_and]
                cases hq : (List.zipWith (fun e (s : Seat) => wholeD e 0 ((s.t : Int) - 1)) es bd).all id
                · exact bad (er.trans hq) _ (s2.trans s5)
                · refine ⟨s1.trans (s2.trans s5), ?_, _, _, _, _, rfl⟩
                  rw [take_snoc hLi, List.all_append, hall, er, hq]
                  rfl
            · refine if_t (by rw [lw, lss]; simp; omega) ?_
              exact bad (by show (decide _ && _) = false; rw [decide_eq_false hle, Bool.false_and]) _ s2
          · refine ⟨_, rfl, _, _, "tuple", false, rfl, dp_same s2 dr, ?_, false, rfl, iteT ?_⟩
            · cases rd <;> first | rfl | exact absurd ⟨_, rfl⟩ htr
            · exact bad (by cases rd <;> first | rfl | exact absurd ⟨_, rfl⟩ htr) _ s2
        · rintro σ H' ⟨s1, hall, v2, v3, v4, v5, rfl⟩
          have : arPh h (.tuple rs) = true := by
            show (decide _ && _) = true
            rw [decide_eq_true hl, Bool.true_and]
            rw [← lL, List.take_length] at hall
            exact hall
          rw [← this]
          exact q _ s1
      · refine if_t (by rw [lu, lv]; simp; omega) ?_
        have : arPh h (.tuple rs) = false := by
          show (decide _ && _) = false
          rw [decide_eq_false hl, Bool.false_and]
        rw [← this]
        exact q _ (Same.refl _)
    · refine ⟨_, rfl, _, _, "tuple", false, rfl, hy, ?_, false, rfl, iteT ?_⟩
      · cases d <;> first | rfl | exact absurd ⟨_, rfl⟩ ht
      · have : arPh h d = false := by cases d <;> first | rfl | exact absurd ⟨_, rfl⟩ ht
        rw [← this]
        exact q _ (Same.refl _)
/-! ### with_phases -/
def withB (b : Body) (ps : List Nat) : Body := List.zipWith (fun (s : Seat) (p : Nat) => Seat.mk s.t p s.way) b ps
def withPh (h : House) (ps : List (List Nat)) : House := ⟨List.zipWith withB h.bodies ps, h.wards⟩
def psD (ps : List (List Nat)) : PyData := .tuple (ps.map fun l => .tuple (natD l))
/-- phases of the house -/
structure PhOk (h : House) (ps : List (List Nat)) : Prop where
  len : ps.length = h.bodies.length
  row : ∀ (i : Nat) (b : Body) (l : List Nat), h.bodies[i]? = some b → ps[i]? = some l → l.length = b.length ∧ ∀ (j : Nat) (s : Seat) (p : Nat), b[j]? = some s → l[j]? = some p → p < s.t
def spWithPhases (K : PySem.W.Frag) (CH CP : Addr) : Sp := fun vs H Q E => ∃ x y d e, vs = [x, y] ∧ Dp K H x d ∧ Dp K H y e ∧
  ((∃ h, d = houseD h ∧ HouseOk h ∧ ((∃ ps, e = psD ps ∧ PhOk h ps ∧ ∀ z H', Same H H' → Dp K H' z (houseD (withPh h ps)) → Q z H') ∨ (arPh h e = false ∧ Refuses CP "value" y H E))) ∨ ∃ z, HBad d z ∧ Refuses CH "place" (.str z) H E)
theorem arPh_ok {h : House} {ps : List (List Nat)} (k : PhOk h ps) : arPh h (psD ps) = true := by
  show (decide ((ps.map fun l => PyData.tuple (natD l)).length = h.bodies.length) && _) = true
  rw [List.length_map, decide_eq_true k.len, Bool.true_and, List.all_eq_true]
  intro b hb
  obtain ⟨i, hi, rfl⟩ := List.mem_iff_getElem.mp hb
  have hi1 : i < ps.length := by rw [List.length_zipWith, List.length_map] at hi; omega
  have hi2 : i < h.bodies.length := by rw [List.length_zipWith] at hi; omega
  obtain ⟨l1, l2⟩ := k.row i _ _ (List.getElem?_eq_getElem hi2) (List.getElem?_eq_getElem hi1)
  rw [List.getElem_zipWith, List.getElem_map]
  show (decide ((natD ps[i]).length = h.bodies[i].length) && _) = true
  rw [natD_len, decide_eq_true l1, Bool.true_and, List.all_eq_true]
  intro c hc
  obtain ⟨j, hj, rfl⟩ := List.mem_iff_getElem.mp hc
  have hj1 : j < ps[i].length := by rw [List.length_zipWith, natD_len] at hj; omega
  have hj2 : j < h.bodies[i].length := by rw [List.length_zipWith] at hj; omega
  rw [List.getElem_zipWith]
  unfold natD
  rw [List.getElem_map]
  exact whole_in (l2 j _ _ (List.getElem?_eq_getElem hj2) (List.getElem?_eq_getElem hj1))
theorem withB_get {b : Body} {l : List Nat} {j : Nat} {s : Seat} {p : Nat} (h1 : b[j]? = some s) (h2 : l[j]? = some p) : (withB b l)[j]? = some ⟨s.t, p, s.way⟩ := by
  unfold withB
  rw [List.getElem?_zipWith, h1, h2]
theorem withB_mem {b : Body} {l : List Nat} {s' : Seat} (h : s' ∈ withB b l) : ∃ (j : Nat) (s : Seat) (p : Nat), b[j]? = some s ∧ l[j]? = some p ∧ s' = ⟨s.t, p, s.way⟩ := by
  obtain ⟨j, hj, rfl⟩ := List.mem_iff_getElem.mp h
  have h1 : j < b.length := by rw [withB, List.length_zipWith] at hj; omega
  have h2 : j < l.length := by rw [withB, List.length_zipWith] at hj; omega
  refine ⟨j, _, _, List.getElem?_eq_getElem h1, List.getElem?_eq_getElem h2, ?_⟩
  have e := withB_get (List.getElem?_eq_getElem h1) (List.getElem?_eq_getElem h2)
  rw [List.getElem?_eq_getElem hj] at e
  injection e
theorem withB_len {b : Body} {l : List Nat} (h : l.length = b.length) : (withB b l).length = b.length := by rw [withB, List.length_zipWith, h, Nat.min_self]
theorem withB_t : ∀ {b : Body} {l : List Nat}, l.length = b.length → (withB b l).map Seat.t = b.map Seat.t
  | [], [], _ => rfl
  | s :: b, p :: l, h => by
    show s.t :: (withB b l).map Seat.t = s.t :: b.map Seat.t
    rw [withB_t (by simpa using h)]
theorem withB_p : ∀ {b : Body} {l : List Nat}, l.length = b.length → (withB b l).map Seat.p = l
  | [], [], _ => rfl
  | s :: b, p :: l, h => by
    show p :: (withB b l).map Seat.p = p :: l
    rw [withB_p (by simpa using h)]
theorem withB_self : ∀ (b : Body) {l : List Nat}, l.length = b.length → withB (withB b l) (b.map Seat.p) = b
  | [], [], _ => rfl
  | s :: b, p :: l, h => by
    show (⟨s.t, s.p, s.way⟩ : Seat) :: withB (withB b l) (b.map Seat.p) = s :: b
    rw [withB_self b (by simpa using h)]
theorem PhOk.at {h : House} {ps : List (List Nat)} (k : PhOk h ps) {i : Nat} {b' : Body} (e : (withPh h ps).bodies[i]? = some b') : ∃ (b : Body) (l : List Nat), h.bodies[i]? = some b ∧ ps[i]? = some l ∧ l.length = b.length ∧ b' = withB b l := by
  have hi := (List.getElem?_eq_some_iff.mp e).1
  have h1 : i < h.bodies.length := by rw [withPh, List.length_zipWith] at hi; omega
  have h2 : i < ps.length := by rw [withPh, List.length_zipWith] at hi; omega
  refine ⟨_, _, List.getElem?_eq_getElem h1, List.getElem?_eq_getElem h2, (k.row i _ _ (List.getElem?_eq_getElem h1) (List.getElem?_eq_getElem h2)).1, ?_⟩
  unfold withPh at e
  rw [List.getElem?_zipWith, List.getElem?_eq_getElem h1, List.getElem?_eq_getElem h2] at e
  cases e
  rfl
theorem PhOk.blen {h : House} {ps : List (List Nat)} (k : PhOk h ps) : (withPh h ps).bodies.length = h.bodies.length := by rw [withPh, List.length_zipWith, k.len, Nat.min_self]
theorem zipB {α : Type} (F : Body → α) (hF : ∀ (b : Body) (l : List Nat), l.length = b.length → F (withB b l) = F b) : ∀ {bs : List Body} {ps : List (List Nat)}, ps.length = bs.length → (∀ (i : Nat) (b : Body) (l : List Nat), bs[i]? = some b → ps[i]? = some l → l.length = b.length) → (List.zipWith withB bs ps).map F = bs.map F
  | [], [], _, _ => rfl
  | b :: bs, l :: ps, h, k => by
    rw [List.zipWith_cons_cons, List.map_cons, List.map_cons, hF b l (k 0 b l rfl rfl), zipB F hF (by simpa using h) fun i b l e1 e2 => k (i + 1) b l (by simpa using e1) (by simpa using e2)]
theorem zipP : ∀ {bs : List Body} {ps : List (List Nat)}, ps.length = bs.length → (∀ (i : Nat) (b : Body) (l : List Nat), bs[i]? = some b → ps[i]? = some l → l.length = b.length) → ((List.zipWith withB bs ps).map fun b => b.map Seat.p) = ps
  | [], [], _, _ => rfl
  | b :: bs, l :: ps, h, k => by
    rw [List.zipWith_cons_cons, List.map_cons, withB_p (k 0 b l rfl rfl), zipP (by simpa using h) fun i b l e1 e2 => k (i + 1) b l (by simpa using e1) (by simpa using e2)]
theorem zipS : ∀ {bs : List Body} {ps : List (List Nat)}, ps.length = bs.length → (∀ (i : Nat) (b : Body) (l : List Nat), bs[i]? = some b → ps[i]? = some l → l.length = b.length) → List.zipWith withB (List.zipWith withB bs ps) (bs.map fun b => b.map Seat.p) = bs
  | [], [], _, _ => rfl
  | b :: bs, l :: ps, h, k => by
    rw [List.zipWith_cons_cons, List.map_cons, List.zipWith_cons_cons, withB_self b (k 0 b l rfl rfl), zipS (by simpa using h) fun i b l e1 e2 => k (i + 1) b l (by simpa using e1) (by simpa using e2)]
theorem PhOk.lens {h : House} {ps : List (List Nat)} (k : PhOk h ps) : ∀ (i : Nat) (b : Body) (l : List Nat), h.bodies[i]? = some b → ps[i]? = some l → l.length = b.length := fun i b l e1 e2 => (k.row i b l e1 e2).1
theorem PhOk.terms {h : House} {ps : List (List Nat)} (k : PhOk h ps) : K88.terms (withPh h ps) = K88.terms h := by
  unfold K88.terms
  rw [List.flatMap_def, List.flatMap_def]
  show ((List.zipWith withB h.bodies ps).map _).flatten = _
  rw [zipB (fun b => b.map Seat.t) (fun b l e => withB_t e) k.len k.lens]
theorem PhOk.phases {h : House} {ps : List (List Nat)} (k : PhOk h ps) : K88.phases (withPh h ps) = ps.flatten := by
  unfold K88.phases
  rw [List.flatMap_def]
  show ((List.zipWith withB h.bodies ps).map _).flatten = _
  rw [zipP k.len k.lens]
theorem PhOk.phD {h : House} {ps : List (List Nat)} (k : PhOk h ps) : K88.phD (withPh h ps) = psD ps := by
  unfold K88.phD psD phRow
  congr 1
  rw [show (ps.map fun l => PyData.tuple (natD l)) = (((List.zipWith withB h.bodies ps).map fun b => b.map Seat.p).map fun l => PyData.tuple (natD l)) by rw [zipP k.len k.lens], List.map_map]
  rfl
/-- the house's own phases -/
def own (h : House) : List (List Nat) := h.bodies.map fun b => b.map Seat.p
theorem phD_own (h : House) : phD h = psD (own h) := by
  unfold phD psD phRow own
  rw [List.map_map]
  rfl
theorem own_flat (h : House) : (own h).flatten = phases h := by unfold own phases; rw [List.flatMap_def]
theorem own_ok {h : House} (ok : HouseOk h) : PhOk h (own h) := by
  refine ⟨by rw [own, List.length_map], fun i b l e1 e2 => ?_⟩
  unfold own at e2
  rw [List.getElem?_map, e1] at e2
  cases e2
  refine ⟨by rw [List.length_map], fun j s p e3 e4 => ?_⟩
  rw [List.getElem?_map, e3] at e4
  cases e4
  exact (ok.seats b (List.mem_of_getElem? e1) s (List.mem_of_getElem? e3)).p
theorem PhOk.back {h : House} {ps : List (List Nat)} (k : PhOk h ps) : withPh (withPh h ps) (own h) = h := by
  cases h
  unfold withPh own
  simp only
  rw [zipS k.len k.lens]
theorem PhOk.house {h : House} {ps : List (List Nat)} (k : PhOk h ps) (ok : HouseOk h) : HouseOk (withPh h ps) := by
  have el : (withPh h ps).bodies.map List.length = h.bodies.map List.length := zipB List.length (fun b l e => withB_len e) k.len k.lens
  refine ⟨by rw [k.blen]; exact ok.b1, by rw [k.blen]; exact ok.b3, fun b' hb => ?_, by rw [el]; exact ok.s9, ok.w, fun b' hb s hs => ?_, by rw [k.terms]; exact ok.round⟩
  · obtain ⟨i, hi, rfl⟩ := List.mem_iff_getElem.mp hb
    obtain ⟨b, l, e1, e2, e3, e4⟩ := k.at (List.getElem?_eq_getElem hi)
    rw [e4, withB_len e3]
    exact ok.s1 b (List.mem_of_getElem? e1)
  · obtain ⟨i, hi, rfl⟩ := List.mem_iff_getElem.mp hb
    obtain ⟨b, l, e1, e2, e3, e4⟩ := k.at (List.getElem?_eq_getElem hi)
    rw [e4] at hs
    obtain ⟨j, s0, p, q1, q2, rfl⟩ := withB_mem hs
    have so := ok.seats b (List.mem_of_getElem? e1) s0 (List.mem_of_getElem? q1)
    rw [k.blen]
    exact ⟨so.t1, so.t6, (k.row i b l e1 e2).2 j s0 p q1 q2, so.way⟩
/-- phases that are some for a house are some for it with other phases -/
theorem PhOk.other {h : House} {ps qs : List (List Nat)} (k : PhOk h ps) (k2 : PhOk h qs) : PhOk (withPh h ps) qs := by
  refine ⟨by rw [k.blen]; exact k2.len, fun i b' m e1 e2 => ?_⟩
  obtain ⟨b, l, f1, f2, f3, rfl⟩ := k.at e1
  obtain ⟨g1, g2⟩ := k2.row i b m f1 e2
  refine ⟨by rw [withB_len f3]; exact g1, fun j s' p q1 q2 => ?_⟩
  obtain ⟨j', s0, p', r1, r2, rfl⟩ := withB_mem (List.mem_of_getElem? q1)
  have hj := (List.getElem?_eq_some_iff.mp q1).1
  rw [withB_len f3] at hj
  have q3 := withB_get (l := l) (List.getElem?_eq_getElem hj) (List.getElem?_eq_getElem (by omega))
  rw [q1] at q3
  injection q3 with q3
  have q4 := g2 j _ p (List.getElem?_eq_getElem hj) q2
  have : (⟨s0.t, p', s0.way⟩ : Seat).t = b[j].t := by rw [q3]
  show s0.t > p
  have : s0.t = b[j].t := this
  omega
theorem sc_wp : FnScope ["house", "phases", "found", "body", "row", "term", "phase", "way", "old"] ["house", "phases"] (defScope sWithPhases) := ⟨rfl, rfl, rfl, by decide +kernel, rfl, by decide +kernel, by decide +kernel⟩
theorem do_withPhases {CH CP iP : Addr} (T : Blt mg) (A : At K mg "with_phases" sWithPhases) (TP : ExTxt P K mg "BadPhases" "BadPhases.__init__" "value" sBadPhases CP iP) (IP : InitDoes P w K mg "value" CP iP)
    (DN : Does P w K mg base (L2.CX P w) 7 "need_house" ["house"] (spNeedHouse K CH)) (DA : Does P w K mg base CX0 7 "are_phases" ["house", "value"] (spArePhases K)) :
    Does P w K mg base (L2.CX P w) 8 "with_phases" ["house", "phases"] (spWithPhases K CH CP) := by
  obtain ⟨f, fd, F, hm⟩ := A
  refine ⟨f, fd, hm, F.kp, F.binds fun _ _ _ _ _ _ us hl => match us, hl with | [_, _], _ => rfl, F.okX sc_wp (fun vs H Q E h => ?_) (fun cdv A outer s H vs Q E hr h => ?_)⟩
  · obtain ⟨_, _, _, _, rfl, _⟩ := h
    rfl
  · obtain ⟨x, y, d, e, rfl, hd, he, h⟩ := h
    refine ⟨_, (pss_cons (ps_expr (pe_do DN hr (passes_call (takes_of rfl rfl rfl rfl) fun _ _ _ _ h => h) (pa_cons (pv 0) pa_nil)))
      (pss_cons (ps_if (pt_not (pt_val (pe_do DA hr pass0 (pa_cons (pv 0) (pa_cons (pv 1) pa_nil))))) (pss_one (ps_raiseBad rfl TP IP hr (takes_of rfl rfl rfl rfl) (pa_cons (pv 1) pa_nil))) pss_nil)
      (pss_cons (ps_set (i := 2) sc_wp.nd rfl (Or.inl rfl) (pe_lst pa_nil))
      (pss_cons (ps_for (passes_of rfl) rfl (RZ.pi_zipA (by rfl) T.zip (pa_cons (pe_ix ix_tup (pv 0) pe_int (fun _ _ => rfl)) (pa_cons (pv 1) pa_nil))) (pg_tup (by rfl) (pgs_cons (pg_name (i := 3) sc_wp.nd rfl (Or.inl rfl)) (pgs_cons (pg_name (i := 4) sc_wp.nd rfl (Or.inl rfl)) pgs_nil))) (pss_one (ps_expr (pe_bm PySem.F.plainAttrs_list PySem.F.slot_list_append PySem.F.type_list_append mt_append (pv 2) (pa_cons (pe_callTy call_tuple_of (by rfl) T.tuple (by decide +kernel) (pa_cons (pe_lc (own := [("term", 5), ("old", 8), ("way", 7), ("phase", 6)]) (g := (gTup K 2 (gCons (gTup K 3 (gCons (gName 5) (gCons (gName 8) (gCons (gName 7) gNil)))) (gCons (gName 6) gNil)))) (tt := tYes) rfl sc_wp.nd (RZ.pi_zipA (by rfl) T.zip (pa_cons (pv 3) (pa_cons (pv 4) pa_nil))) (blkOk_by (N := ["house", "phases", "found", "body", "row", "term", "phase", "way", "old"]) (sc := defScope sWithPhases) (by decide +kernel)) (fun _ _ _ _ _ => (pg_tup (by rfl) (pgs_cons (pg_tup (by rfl) (pgs_cons (pg_name (i := 5) sc_wp.nd rfl (Or.inl rfl)) (pgs_cons (pg_name (i := 8) sc_wp.nd rfl (Or.inl rfl)) (pgs_cons (pg_name (i := 7) sc_wp.nd rfl (Or.inl rfl)) pgs_nil)))) (pgs_cons (pg_name (i := 6) sc_wp.nd rfl (Or.inl rfl)) pgs_nil)))) (fun _ _ _ _ _ => pts_nil) (fun _ _ _ _ _ => (pe_tup (pa_cons (pv 5) (pa_cons (pv 6) (pa_cons (pv 7) pa_nil)))))) pa_nil)) pa_nil)))))
      (pss_one (ps_ret (pe_tup (pa_cons (pe_callTy call_tuple_of (by rfl) T.tuple (by decide +kernel) (pa_cons (pv 2) pa_nil)) (pa_cons (pe_ix ix_tup (pv 0) pe_int (fun _ _ => rfl)) pa_nil))))))))), ?_⟩
    rcases h with ⟨h, rfl, ok, hh⟩ | ⟨z, hz, er⟩
    · refine ⟨_, rfl, _, _, rfl, hd, .inl ⟨h, rfl, ok, fun H1 s1 => ?_⟩⟩
      rcases hh with ⟨ps, rfl, pk, q⟩ | ⟨hb, er⟩
      · refine ⟨_, rfl, _, rfl, _, _, h, _, rfl, dp_same s1 hd, ok, dp_same s1 he, fun H2 s2 => ?_⟩
        rw [arPh_ok pk]
        refine ⟨_, rfl, ?_⟩
        have sA := s1.trans s2
        obtain ⟨a, yy, b, us, rfl, ha, rfl, hb, db⟩ := dp_house hd
        obtain ⟨c, vs, rfl, hc, dv⟩ := dp_tuple he
        have lu : us.length = h.bodies.length := by rw [dpAll_len db, List.length_map]
        have lv : vs.length = ps.length := by rw [dpAll_len dv, List.length_map]
        refine ⟨len_ok (by decide), fun d0 hd0 => ?_⟩
        have sB : Same H (upd H2 d0 (.lst [])) := sA.new hd0
        refine ⟨_, rfl, _, _, 0, _, rfl, rfl, sB.seqT ha, at0 _ _, _, rfl, b, c, us, vs, rfl, .inr ⟨sB.seqT hb, sB.seqT hc, for_it (walk_zipT (K := K) (a := b) (b := c) (xs := us) (ys := vs) (n := h.bodies.length) (by rw [lv, lu, pk.len, Nat.min_self]))
          (fun i σ H' => Same H2 H' ∧ ∃ ws v3 v4 v5 v6 v7 v8, σ = [some (.ref a), some (.ref c), some (.ref d0), v3, v4, v5, v6, v7, v8] ∧ H' d0 = some (.lst ws) ∧ DpAll K H' ws (((List.zipWith withB h.bodies ps).take i).map bodyD))
          ⟨same_new hd0, [], none, none, none, none, none, none, rfl, upd_same, .nil⟩ (fun i σ H' _ e => ⟨(sA.trans e.1).seqT hb, (sA.trans e.1).seqT hc⟩) ?_ ?_⟩⟩
        · rintro i z σ H3 H4 hi ⟨s3, ws, v3, v4, v5, v6, v7, v8, rfl, e3, dw⟩ ⟨tp, r, x, rfl, np, rfl, hr', hx⟩
          obtain ⟨bd, hbd, dx⟩ := dpAll_map (dpAll_same (sA.trans s3) db) hr'
          obtain ⟨l, hl, dl⟩ := dpAll_map (dpAll_same (sA.trans s3) dv) hx
          obtain ⟨e1, ss, rfl, he1, ds⟩ := dp_body dx
          obtain ⟨e2, ls, rfl, he2, dls⟩ := dp_tuple dl
          have els := nats_of dls
          subst els
          obtain ⟨k1, k2⟩ := pk.row i bd l hbd hl
          have s4 : Same H3 (upd H3 tp (.tup [.ref e1, .ref e2])) := same_new np
          have hmb := List.mem_of_getElem? hbd
          have lss : ss.length = bd.length := by rw [dpAll_len ds, List.length_map]
          refine ⟨tp, _, rfl, seqT_of upd_same, rfl, _, _, rfl, _, _, rfl, rfl, ?_⟩
          have t4 : Same H3 (upd H3 tp (.tup [.ref e1, .ref e2])) := s4
          refine ⟨_, rfl, .inl ⟨rfl, _, .inl (.inl (s4 _ _ e3))⟩, _, rfl, _, rfl, e1, e2, ss, nats l, rfl, .inr ⟨s4.seqT he1, s4.seqT he2, fun D hD => lc_data (K := K) (walk_zipT (K := K) (a := e1) (b := e2) (xs := ss) (ys := nats l) (n := bd.length) (by rw [nats_len, k1, lss, Nat.min_self]))
            ((withB bd l).map seatD) (by rw [List.length_map, withB, List.length_zipWith, k1, Nat.min_self]) (small (by have := (ok.s1 bd hmb).2; omega)) hD (fun H s => ⟨(s4.trans s).seqT he1, (s4.trans s).seqT he2⟩) (fun j z2 H5 H6 d2 R R' hd2 s5 y2 hR => ?_) ?_ fun H5 vs2 s5 hv2 dv2 => ?_⟩⟩
          · obtain ⟨tp2, x1, x2, rfl, np2, rfl, hx1, hx2⟩ := y2
            obtain ⟨st, hst, dz⟩ := dpAll_map (dpAll_same (s4.trans s5) ds) hx1
            obtain ⟨g1, y5, rfl, hg1, hy5⟩ := dp_seat dz
            have hx2 : (nats l)[j]? = some x2 := hx2
            rw [nats_get] at hx2
            cases hlj : l[j]? with
            | none => rw [hlj] at hx2; cases hx2
            | some p =>
              rw [hlj] at hx2
              cases hx2
              have s6 : Same H5 (upd H5 tp2 (.tup [.ref g1, .int (p : Nat)])) := same_new np2
              rw [List.getElem?_map, withB_get hst hlj] at hd2
              cases hd2
              refine ⟨tp2, _, rfl, seqT_of upd_same, rfl, _, _, rfl, ⟨g1, _, rfl, s6.seqT hg1, rfl, _, _, rfl, _, _, rfl, _, _, rfl, rfl, _, _, rfl, rfl, rfl, _, rfl, _, rfl, _, rfl, len_ok (by simp), fun p2 hp2 => hR _ _ (s6.new hp2) (.tup (seqT_of upd_same) (.cons (.int _) (.cons (.int _) (.cons (dp_same (s6.new hp2) hy5) .nil))))⟩⟩
          · rw [tupOnlyAll_iff]
            intro d3 hd3
            obtain ⟨s', hs', rfl⟩ := List.mem_map.mp hd3
            obtain ⟨j, s0, p, q1, q2, rfl⟩ := withB_mem hs'
            have so := ok.seats bd hmb s0 (List.mem_of_getElem? q1)
            exact seat_to (nb := h.bodies.length) (wards := h.wards) ⟨so.t1, so.t6, k2 j s0 p q1 q2, so.way⟩
          · refine ⟨D, vs2, rfl, .inl ⟨.inl (.inl hv2), fun l2 hl2 => ?_⟩⟩
            have sC : Same H3 (upd H5 l2 (.tup vs2)) := (s4.trans s5).new hl2
            have eC := sC _ _ e3
            have hL : (List.zipWith withB h.bodies ps)[i]? = some (withB bd l) := by rw [List.getElem?_zipWith, hbd, hl]
            have lw : ws.length ≤ 3 := by
              rw [dpAll_len dw, List.length_map, List.length_take]
              have := ok.b3
              omega
            refine ⟨d0, ws, _, rfl, rfl, eC, by unfold sizeLine; omega, (s3.trans sC).put hd0, _, some (.ref e1), some (.ref e2), v5, v6, v7, v8, rfl, upd_same, ?_⟩
            refine dpAll_tups (Tups.put (by rw [eC]; exact True.intro)) _ _ ?_ ?_
            · rw [tupOnlyAll_iff]
              intro d3 hd3
              obtain ⟨b', hb', rfl⟩ := List.mem_map.mp hd3
              exact body_to fun s hs => (pk.house ok).seats b' (List.mem_of_mem_take hb') s hs
            · rw [take_snoc hL, List.map_append]
              exact dpAll_snoc (dpAll_same sC dw) (.tup (seqT_of upd_same) (dpAll_same (same_new hl2) dv2))
        · rintro σ H3 ⟨s3, ws, v3, v4, v5, v6, v7, v8, rfl, e3, dw⟩
          have eb : (List.zipWith withB h.bodies ps).take h.bodies.length = (withPh h ps).bodies := by
            rw [← pk.blen]
            exact List.take_length
          rw [eb] at dw
          refine ⟨_, rfl, d0, ws, rfl, .inl ⟨.inl (.inl e3), fun l2 hl2 => ?_⟩⟩
          have sC : Same H (upd H3 l2 (.tup ws)) := (sA.trans s3).new hl2
          refine ⟨_, rfl, _, _, 1, _, rfl, rfl, sC.seqT ha, at1 _ _ _, len_ok (by simp), fun p2 hp2 => ?_⟩
          have sD := same_new (o := .tup [.ref l2, .int (h.wards : Int)]) hp2
          exact q _ _ (sC.trans sD) (.tup (seqT_of upd_same) (.cons (.tup (sD.seqT (seqT_of upd_same)) (dpAll_same ((same_new hl2).trans sD) dw)) (.cons (.int _) .nil)))
      · refine ⟨_, rfl, _, rfl, _, _, h, _, rfl, dp_same s1 hd, ok, dp_same s1 he, fun H2 s2 => ?_⟩
        rw [hb]
        exact ⟨_, rfl, _, rfl, _, rfl, fun dd hdd => er _ dd ((s1.trans s2).new hdd) upd_same⟩
    · exact ⟨_, rfl, _, _, rfl, hd, .inr ⟨z, hz, er⟩⟩
/-! ### loaded -/
def spLoaded (K : PySem.W.Frag) : Sp := fun vs H Q _ => ∃ a some t p, vs = [.ref a, .int (t : Nat), .int (p : Nat)] ∧ SqT K H a (nats some) ∧ some.length ≤ 60 ∧ 0 < t ∧ p < t ∧ ∀ b H', Same H H' → SqT K H' b (nats (K88.loaded some t p)) → Q (.ref b) H'
theorem sc_la : FnScope ["some", "term", "phase", "number", "one"] ["some", "term", "phase"] (defScope sLoaded) := ⟨rfl, rfl, rfl, by decide +kernel, rfl, by decide +kernel, by decide +kernel⟩
theorem do_loaded (T : Blt mg) (A : At K mg "loaded" sLoaded) : Does P w K mg base CX0 1 "loaded" ["some", "term", "phase"] (spLoaded K) := by
  obtain ⟨f, fd, F, hm⟩ := A
  refine ⟨f, fd, hm, F.kp, F.binds fun _ _ _ _ _ _ us hl => match us, hl with | [_, _, _], _ => rfl, F.ok sc_la (fun vs H Q E h => ?_) (fun cdv A outer s H vs Q E hr h => ?_)⟩
  · obtain ⟨_, _, _, _, rfl, _⟩ := h
    rfl
  · obtain ⟨a, some, t, p, rfl, ha, hlen, ht, hp, q⟩ := h
    refine ⟨_, (pss_one (ps_ret (pe_callTy call_tuple_of (by rfl) T.tuple (by decide +kernel) (pa_cons (pe_lc (own := [("number", 3), ("one", 4)]) (g := (gTup K 2 (gCons (gName 3) (gCons (gName 4) gNil)))) (tt := tYes) rfl sc_la.nd (pi_enumT (by rfl) T.enumerate (pa_cons (pv 0) pa_nil)) (blkOk_by (N := ["some", "term", "phase", "number", "one"]) (sc := defScope sLoaded) (by decide +kernel)) (fun _ _ _ _ _ => (pg_tup (by rfl) (pgs_cons (pg_name (i := 3) sc_la.nd rfl (Or.inl rfl)) (pgs_cons (pg_name (i := 4) sc_la.nd rfl (Or.inl rfl)) pgs_nil)))) (fun _ _ _ _ _ => pts_nil) (fun _ _ _ _ _ => (pe_op op_add_ib (pv 4) (pe_cmpR op_eq (pe_op op_modN (pe_callTy call_int1 (by rfl) T.int (by decide +kernel) (pa_cons (pe_op op_sub (pv 3) (pv 2)) pa_nil)) (pv 1)) pe_int (nomark _))))) pa_nil)))), ?_⟩
    have ln : (nats some).length = some.length := nats_len _
    refine ⟨_, rfl, a, nats some, rfl, ha, fun D hD => lc_data (K := K) (walk_enumT (K := K) (a := a) (xs := nats some)) (natD (K88.loaded some t p)) ?_ (small (by omega)) hD (fun H s => s.seqT ha) (fun i z H3 H4 d R R' hd' s3 y hR => ?_) (tupOnly_nat _) fun H3 vs s3 hv dv => ?_⟩
    · rw [natD_len, loaded_length, ln]
    · obtain ⟨tp, y1, x, rfl, np, rfl, e1, hx⟩ := y
      cases e1
      have hx : (nats some)[i]? = Option.some x := hx
      rw [nats_get] at hx
      unfold natD K88.loaded at hd'
      rw [List.getElem?_map, List.getElem?_mapIdx] at hd'
      cases hs : some[i]? with
      | none => rw [hs] at hx; cases hx
      | some n =>
        rw [hs] at hx hd'
        cases hx
        cases hd'
        have s6 : Same H3 (upd H3 tp (.tup [.int (i : Nat), .int (n : Nat)])) := same_new np
        refine ⟨tp, _, rfl, seqT_of upd_same, rfl, _, _, rfl, _, _, rfl, rfl, rfl, _, rfl, ?_⟩
        refine ⟨_, rfl, _, rfl, _, _, rfl, rfl, .inl ⟨_, rfl, _, rfl, _, _, rfl, rfl, by omega, rfl, _, _, rfl, rfl, ?_⟩⟩
        rw [bl_due ht hp]
        refine hR _ _ s6 ?_
        have e : ((n : Int) + b2i (due i t p)) = ((n + (if due i t p then 1 else 0) : Nat) : Int) := by
          cases due i t p <;> rfl
        rw [e]
        exact .int _
    · have ev := nats_of dv
      subst ev
      exact ⟨D, _, rfl, .inl ⟨.inl (.inl hv), fun l hl => q _ _ (s3.new hl) (seqT_of upd_same)⟩⟩
end
end K88
set_option maxHeartbeats 1000000
/-! The walks: Spread.__init__, gone_on, spread. -/
namespace K88
open PySem PySem.Spec PyProof.Rows L2 LamX K88X
section
variable {P : Program} {w : World} {K : PySem.W.Frag} {mg : Str → Option Value} {base : Heap}
/-- the class, its defs -/
structure SprF (K : PySem.W.Frag) (mg : Str → Option Value) (C fI fG : Addr) : Prop where
  cls : Cls K C
  makes : Mk K C fI
  go : Meth K C "gone_on" fG
  gC : mg "Spread" = some (.ref C)
  nT : NoAttr K C "terms"
  nH : NoAttr K C "highest"
  nF : NoAttr K C "failed"
theorem sl_part {H : Hp} {a : Addr} {xs : List V} {Q : VK} (l n : Nat) (ha : SqT K H a xs) (hln : l + n ≤ xs.length) (q : ∀ c H', Same H H' → SqT K H' c ((xs.drop l).take n) → Q (.ref c) H') : rSlA K (.ref a) (some ((l : Nat) : Int)) (some ((l + n : Nat) : Int)) H Q := by
  have e0 : HT.sIx xs.length 0 (some ((l : Nat) : Int)) = l := by rw [HT.sIx_nat]; omega
  have e1 : HT.sIx xs.length xs.length (some ((l + n : Nat) : Int)) = l + n := by rw [HT.sIx_nat]; omega
  refine ⟨a, xs, rfl, ha, fun h => ?_, fun _ p hp => q p _ (same_new hp) (seqT_of ?_)⟩
  · rw [e0, e1] at h
    obtain ⟨rfl, h⟩ := h
    refine q a H (Same.refl H) ?_
    rw [List.drop_zero, List.take_of_length_le (by omega)]
    exact ha
  · rw [upd_same, cutV, e0, e1]
    congr 3
    omega
theorem findSome_hit {β : Type} {F : Nat → Option β} {r : β} {i : Nat} : ∀ {t : Nat}, i < t → (∀ j, j < i → F j = none) → F i = some r → (List.range t).findSome? F = some r
  | 0, h, _, _ => by omega
  | t + 1, h, h1, h2 => by
    rw [List.range_succ, List.findSome?_append]
    by_cases c : i < t
    · rw [findSome_hit c h1 h2]
      rfl
    · have e : i = t := by omega
      subst e
      rw [findSome_miss h1]
      simp [h2]
where findSome_miss {F : Nat → Option β} : ∀ {t : Nat}, (∀ j, j < t → F j = none) → (List.range t).findSome? F = none := fun h => List.findSome?_eq_none_iff.mpr fun x hx => h x (List.mem_range.mp hx)
theorem findSome_miss {β : Type} {F : Nat → Option β} {t : Nat} (h : ∀ j, j < t → F j = none) : (List.range t).findSome? F = none := List.findSome?_eq_none_iff.mpr fun x hx => h x (List.mem_range.mp hx)
/-! ### Spread.__init__ -/
def fs3 (t m d : V) : List (Str × V) := [("terms", t), ("highest", m), ("failed", d)]
def sprO (C dx tl : Addr) (m : Int) (d : Addr) : HO := .ins C dx (fs3 (.ref tl) (.int m) (.ref d))
theorem lk1 {t m d : V} : List.lookup (α := Str) "terms" (fs3 t m d) = some t := by rfl
theorem lk2 {t m d : V} : List.lookup (α := Str) "highest" (fs3 t m d) = some m := by rfl
theorem lk3 {t m d : V} : List.lookup (α := Str) "failed" (fs3 t m d) = some d := by rfl
theorem lk4 {t m d : V} : List.lookup (α := Str) "gone_on" (fs3 t m d) = none := by rfl
def fs2 (t m : V) : List (Str × V) := [("terms", t), ("highest", m)]
theorem pf2 {t m : V} : putF "highest" m (putF "terms" t []) = fs2 t m := by
  show (if ("terms" : Str) = "highest" then _ else _) = _
  rw [if_neg (by decide)]
  rfl
theorem pf3 {t m d : V} : putF "failed" d (fs2 t m) = fs3 t m d := by
  unfold fs2 fs3
  simp only [putF]
  rw [if_neg (by decide), if_neg (by decide)]
def spInit (P : Program) (w : World) (C : Addr) : Sp := fun vs H Q _ => ∃ x t m dx, vs = [.ref x, .ref t, .int m] ∧ H x = some (.ins C dx []) ∧ ∀ d, H d = none → Q .non (upd (upd H d (memoO P w d [])) x (sprO C dx t m d))
theorem sc_si : FnScope ["self", "terms", "most"] ["self", "terms", "most"] (defScope sSpreadInit) := ⟨rfl, rfl, rfl, by decide +kernel, rfl, by decide +kernel, by decide +kernel⟩
theorem fn_init {C fI fG : Addr} {fd : FuncData} (S : SprF K mg C fI fG) (F : Fun K "__init__" "Spread.__init__" sSpreadInit fI fd) : FnOk P w K mg base CX0 1 fI fd ["self", "terms", "most"] (spInit P w C) := by
  refine F.ok sc_si (fun vs H Q E h => ?_) (fun cdv A outer s H vs Q E hr h => ?_)
  · obtain ⟨_, _, _, _, rfl, _⟩ := h
    rfl
  · obtain ⟨x, t, m, dx, rfl, hx, q⟩ := h
    refine ⟨_, (pss_cons (ps_fld (pv 0) (pv 1) rfl)
      (pss_cons (ps_fld (pv 0) (pv 2) rfl)
      (pss_one (ps_fld (pv 0) pe_dnewN rfl)))), ?_⟩
    refine ⟨_, rfl, _, rfl, x, C, dx, [], rfl, hx, S.cls, S.nT, Nat.zero_lt_succ _, ?_⟩
    refine ⟨_, rfl, _, rfl, x, C, dx, _, rfl, upd_same, S.cls, S.nH, (by decide : (1 : Nat) < 1000), ?_⟩
    rw [pf2]
    intro d hd
    have hdx : d ≠ x := fun e => by rw [e, upd_same] at hd; cases hd
    have hd0 : H d = none := by rw [upd_ne hdx, upd_ne hdx] at hd; exact hd
    refine ⟨_, rfl, x, C, dx, _, rfl, (upd_ne hdx.symm).trans upd_same, S.cls, S.nF, (by decide : (2 : Nat) < 1000), ?_⟩
    rw [pf3]
    have e := q d hd0
    have e2 : (upd (upd (upd (upd H x (.ins C dx (putF "terms" (.ref t) []))) x (.ins C dx (fs2 (.ref t) (.int m)))) d (memoO P w d [])) x (sprO C dx t m d)) = upd (upd H d (memoO P w d [])) x (sprO C dx t m d) := by
      funext b
      unfold upd
      split
      · rfl
      · split <;> rfl
    exact e2 ▸ e
/-! ### gone_on -/
def nodes : Nat → Nat
  | 0 => 0
  | n + 1 => 1 + 6 * nodes n
/-- what a spread's search holds -/
structure SprH (P : Program) (w : World) (K : PySem.W.Frag) (C sf dx tl d : Addr) (ts : List Nat) (m : Nat) (xs : List MEnt) (H : Hp) : Prop where
  ins : H sf = some (sprO C dx tl (m : Nat) d)
  lst : SqL K H tl (nats ts)
  memo : H d = some (memoO P w d xs)
  keys : KeysAt K H xs
  bad : ∀ x ∈ xs, ∀ k : MKey, x.1 = nk k → go m (ts.drop k.1) k.2 = none
/-- all but the memo stays -/
structure Fr (d : Addr) (H H' : Hp) : Prop where
  at_ : ∀ b o, H b = some o → b ≠ d → H' b = some o
theorem Fr.refl {d : Addr} (H : Hp) : Fr d H H := ⟨fun _ _ h _ => h⟩
theorem Fr.of {d : Addr} {H H' : Hp} (s : Same H H') : Fr d H H' := ⟨fun _ _ h _ => s _ _ h⟩
theorem Fr.trans {d : Addr} {H H1 H2 : Hp} (a : Fr d H H1) (b : Fr d H1 H2) : Fr d H H2 := ⟨fun c o h n => b.at_ c o (a.at_ c o h n) n⟩
theorem Fr.put {d : Addr} {H : Hp} {o : HO} : Fr d H (upd H d o) := ⟨fun c o' h n => by rw [upd_ne n]; exact h⟩
theorem SprH.tups {C sf dx tl d : Addr} {ts : List Nat} {m : Nat} {xs : List MEnt} {H H' : Hp} (S : SprH P w K C sf dx tl d ts m xs H) (f : Fr d H H') : Tups H H' :=
  ⟨fun b us h => f.at_ b _ h (fun e => by rw [e, S.memo] at h; cases h), fun b o u h => f.at_ b _ h (fun e => by rw [e, S.memo] at h; cases h)⟩
theorem KeysAt.tups {xs : List MEnt} {H H' : Hp} (t : Tups H H') (k : KeysAt K H xs) : KeysAt K H' xs := fun x hx => by
  obtain ⟨k0, e, sa, h1, h2⟩ := k x hx
  exact ⟨k0, e, sa, t.seq h1, t.seq h2⟩
theorem sql_same {H H' : Hp} (s : Same H H') {a : Addr} {xs : List V} (h : SqL K H a xs) : SqL K H' a xs := by
  rcases h with (h | ⟨o, h⟩) | h
  · exact .inl (.inl (s _ _ h))
  · exact .inl (.inr ⟨o, s _ _ h⟩)
  · exact .inr h
theorem SprH.same {C sf dx tl d : Addr} {ts : List Nat} {m : Nat} {xs : List MEnt} {H H' : Hp} (S : SprH P w K C sf dx tl d ts m xs H) (s : Same H H') : SprH P w K C sf dx tl d ts m xs H' :=
  ⟨s _ _ S.ins, sql_same s S.lst, s _ _ S.memo, S.keys.tups (Tups.of s), S.bad⟩
theorem SprH.put {C sf dx tl d b : Addr} {ts : List Nat} {m : Nat} {xs xs' : List MEnt} {H : Hp} {k : MKey} (S : SprH P w K C sf dx tl d ts m xs H) (kb : KeyAt K H b k) (hb : go m (ts.drop k.1) k.2 = none) (p : MPut xs k b xs') :
    SprH P w K C sf dx tl d ts m xs' (upd H d (memoO P w d xs')) := by
  have t : Tups H (upd H d (memoO P w d xs')) := Tups.put (by rw [S.memo]; exact True.intro)
  have n1 : sf ≠ d := fun e => by have := S.ins; rw [e, S.memo] at this; cases this
  refine ⟨(upd_ne n1).trans S.ins, ?_, upd_same, fun z hz => ?_, fun z hz k2 e => ?_⟩
  · rcases S.lst with (h | ⟨o, h⟩) | h
    · exact .inl (.inl ((upd_ne fun e => by rw [e, S.memo] at h; cases h).trans h))
    · exact .inl (.inr ⟨o, (upd_ne fun e => by rw [e, S.memo] at h; cases h).trans h⟩)
    · exact .inr h
  · rcases p.2 z hz with ⟨z0, h0, e1, e2⟩ | ⟨e1, e2⟩
    · obtain ⟨k0, q1, sa, q2, q3⟩ := S.keys z0 h0
      exact ⟨k0, e1.trans q1, sa, e2 ▸ t.seq q2, t.seq q3⟩
    · obtain ⟨sa, q2, q3⟩ := kb
      exact ⟨k, e1, sa, e2 ▸ t.seq q2, t.seq q3⟩
  · rcases p.2 z hz with ⟨z0, h0, e1, e2⟩ | ⟨e1, e2⟩
    · exact S.bad z0 h0 k2 (e1.symm.trans e)
    · have : k = k2 := nk_inj (e1.symm.trans e)
      rw [← this]
      exact hb
def spGo (P : Program) (w : World) (K : PySem.W.Frag) (C : Addr) (n : Nat) : Sp := fun vs H Q _ => ∃ sf a b dx tl d ts m xs p s, vs = [.ref sf, .ref a, .ref b] ∧ SprH P w K C sf dx tl d ts m xs H ∧ SqT K H a (nats p) ∧ SqT K H b (nats s) ∧
  p.length ≤ ts.length ∧ ts.length < n + p.length ∧ ts.length ≤ 9 ∧ (∀ t ∈ ts, 0 < t ∧ t ≤ 6) ∧ 0 < s.length ∧ s.length ≤ 60 ∧ xs.length + nodes (ts.length - p.length) < sizeLine ∧
  ∀ H' xs', SprH P w K C sf dx tl d ts m xs' H' → Fr d H H' → xs'.length ≤ xs.length + nodes (ts.length - p.length) →
    (∀ r, go m (ts.drop p.length) s = some r → ∀ c, SqT K H' c (nats (p ++ r)) → Q (.ref c) H') ∧ (go m (ts.drop p.length) s = none → Q .non H')
theorem sc_go : FnScope ["self", "phases", "some", "place", "phase", "more", "found"] ["self", "phases", "some"] (defScope sGoneOn) := ⟨rfl, rfl, rfl, by decide +kernel, rfl, by decide +kernel, by decide +kernel⟩
theorem fn_go {C fI fG : Addr} {fd : FuncData} (T : Blt mg) (S : SprF K mg C fI fG) (F : Fun K "gone_on" "Spread.gone_on" sGoneOn fG fd) (DL : Does P w K mg base CX0 1 "loaded" ["some", "term", "phase"] (spLoaded K)) :
    ∀ n, FnOk P w K mg base CX0 (n + 2) fG fd ["self", "phases", "some"] (spGo P w K C n) := by
  have bg : L2.Binds K fd ["self", "phases", "some"] [] := F.binds fun _ _ _ _ _ _ us hl => match us, hl with | [_, _, _], _ => rfl
  intro n
  induction n with
  | zero =>
    refine F.ok sc_go (fun vs H Q E h => ?_) (fun cdv A outer s H vs Q E hr h => ?_)
    · obtain ⟨_, _, _, _, _, _, _, _, _, _, _, rfl, _⟩ := h
      rfl
    · obtain ⟨_, _, _, _, _, _, _, _, _, _, _, _, _, _, _, h1, h2, _⟩ := h
      omega
  | succ n IH =>
    have DL := DL.mono (show 1 ≤ n + 2 by omega)
    refine F.ok sc_go (fun vs H Q E h => ?_) (fun cdv A outer s H vs Q E hr h => ?_)
    · obtain ⟨_, _, _, _, _, _, _, _, _, _, _, rfl, _⟩ := h
      rfl
    · obtain ⟨sf, a, b, dx, tl, d, ts, m, xs, p, s, rfl, hS, ha, hb, hp, hn, h9, ht, hs0, hs60, hx, q⟩ := h
      refine ⟨_, (pss_cons (ps_set (i := 3) sc_go.nd rfl (Or.inl rfl) (pe_callB call_len_seq (by rfl) T.len PySem.boot_len (pa_cons (pv 1) pa_nil)))
      (pss_cons (ps_if (pt_cmpR op_eq (pv 3) (pe_callB call_len_seq (by rfl) T.len PySem.boot_len (pa_cons (pe_fld (pv 0) rfl) pa_nil)) (nomark _)) (pss_one (ps_ret (pv 1))) pss_nil)
      (pss_cons (ps_if (pt_cmpR (op_inN hr.units) (pe_tup (pa_cons (pv 3) (pa_cons (pv 2) pa_nil))) (pe_fld (pv 0) rfl) (by rfl)) (pss_one (ps_ret pe_non)) pss_nil)
      (pss_cons (ps_for PassesOwn.never rfl (pi_range1 rfl T.range (pa_cons (pe_ix ix_list (pe_fld (pv 0) rfl) (pv 3) (fun _ _ => rfl)) pa_nil)) (pg_name (i := 4) sc_go.nd rfl (Or.inl rfl)) (pss_cons (ps_set (i := 5) sc_go.nd rfl (Or.inl rfl) (pe_do DL hr pass0 (pa_cons (pv 2) (pa_cons (pe_ix ix_list (pe_fld (pv 0) rfl) (pv 3) (fun _ _ => rfl)) (pa_cons (pv 4) pa_nil)))))
      (pss_one (ps_if (pt_cmpR op_le (pe_callB (cr_maxT rfl hr.units) (by rfl) T.max (by decide +kernel) (pa_cons (pv 5) pa_nil)) (pe_fld (pv 0) rfl) (nomark _)) (pss_cons (ps_set (i := 6) sc_go.nd rfl (Or.inl rfl) (pe_meth (pv 0) S.cls S.go IH hr bg .nil pass0 (pa_cons (pe_tup (StX.pa_star (pv 1) (pa_cons (pv 4) pa_nil))) (pa_cons (pv 5) pa_nil))))
      (pss_one (ps_if (pt_cmpR op_notN (pv 6) pe_non (nomark _)) (pss_one (ps_ret (pv 6))) pss_nil))) pss_nil))))
      (pss_cons (ps_putN hr.units (pe_fld (pv 0) rfl) (pe_tup (pa_cons (pv 3) (pa_cons (pv 2) pa_nil))) pe_bl rfl)
      (pss_one (ps_ret pe_non))))))), ?_⟩
      have lp : (nats p).length = p.length := nats_len p
      have lt : (nats ts).length = ts.length := nats_len ts
      refine ⟨_, rfl, a, nats p, rfl, .inr ha, ?_⟩
      rw [lp]
      refine ⟨_, rfl, _, rfl, sf, C, dx, _, .ref tl, rfl, hS.ins, S.cls, S.nT, lk1, tl, nats ts, rfl, .inl hS.lst, rfl, _, rfl, ?_⟩
      by_cases hlen : p.length = ts.length
      · refine if_t (by rw [lt, hlen]; simp) ?_
        refine ⟨_, rfl, (q H xs hS (Fr.refl H) (by omega)).1 [] ?_ a (by simpa using ha)⟩
        rw [hlen, List.drop_length]
        rfl
      · have hlt : p.length < ts.length := by omega
        refine if_f (by rw [lt]; simp; omega) ?_
        obtain ⟨t, ht1⟩ : ∃ t, ts[p.length]? = some t := ⟨_, List.getElem?_eq_getElem hlt⟩
        have hdrop : ts.drop p.length = t :: ts.drop (p.length + 1) := by
          rw [List.drop_eq_getElem_cons hlt]
          rw [List.getElem?_eq_getElem hlt] at ht1
          cases ht1
          rfl
        obtain ⟨t0, t6⟩ := ht t (List.mem_of_getElem? ht1)
        obtain ⟨r0, hr0⟩ : ∃ r0, ts.length - p.length = r0 + 1 := ⟨ts.length - p.length - 1, by omega⟩
        have hnod : nodes (ts.length - p.length) = 1 + 6 * nodes r0 := by rw [hr0]; rfl
        refine ⟨_, rfl, _, rfl, len_ok (by simp), fun kp hkp => ?_⟩
        have s1 : Same H (upd H kp (.tup [.int (p.length : Nat), .ref b])) := same_new hkp
        have hS1 := hS.same s1
        refine ⟨_, rfl, sf, C, dx, _, .ref d, rfl, hS1.ins, S.cls, S.nF, lk3, kp, d, xs, (p.length, s), rfl, rfl, hS1.memo, hS1.keys, ⟨b, seqT_of upd_same, s1.seqT hb⟩, _, rfl, ?_⟩
        by_cases hmem : nk (p.length, s) ∈ xs.map (·.1)
        · refine if_t (decide_eq_true hmem) ?_
          obtain ⟨z, hz, ez⟩ := List.mem_map.mp hmem
          exact (q _ xs hS1 (Fr.of s1) (by omega)).2 (hS.bad z hz (p.length, s) ez)
        · refine if_f (decide_eq_false hmem) ?_
          let Fj : Nat → Option (List Nat) := fun j => if maxL (K88.loaded s t j) ≤ m then (go m (ts.drop (p.length + 1)) (K88.loaded s t j)).map (j :: ·) else none
          have hgo : go m (ts.drop p.length) s = (List.range t).findSome? Fj := by rw [hdrop]; rfl
          have lps : ∀ j, (p ++ [j]).length = p.length + 1 := fun j => by rw [List.length_append, List.length_singleton]
          refine ⟨_, rfl, sf, C, dx, _, .ref tl, rfl, hS1.ins, S.cls, S.nT, lk1, _, rfl, tl, nats ts, _, .int (t : Nat), rfl, rfl, hS1.lst, atI_nat (by rw [nats_get, ht1]; rfl), _, rfl, by omega, by omega, ?_⟩
          refine for_range (lo := 0) (n := t) (fun i σ H' => ∃ xs', SprH P w K C sf dx tl d ts m xs' H' ∧ Fr d H H' ∧ xs'.length ≤ xs.length + i * nodes r0 ∧ (∀ j, j < i → Fj j = none) ∧ ∃ v4 v5 v6, σ = [some (.ref sf), some (.ref a), some (.ref b), some (.int (p.length : Nat)), v4, v5, v6])
            ⟨xs, hS1, Fr.of s1, by omega, fun j hj => by omega, none, none, none, rfl⟩ ?_ ?_
          · rintro i σ H2 hi ⟨xs2, S2, f2, l2, hF, v4, v5, v6, rfl⟩
            have t2 := hS.tups f2
            have hmul : i * nodes r0 ≤ 5 * nodes r0 := Nat.mul_le_mul_right _ (by omega)
            have hmul1 : (i + 1) * nodes r0 = i * nodes r0 + nodes r0 := Nat.succ_mul _ _
            rw [Int.zero_add]
            refine ⟨_, rfl, _, rfl, sf, C, dx, _, .ref tl, rfl, S2.ins, S.cls, S.nT, lk1, _, rfl, tl, nats ts, _, .int (t : Nat), rfl, rfl, S2.lst, atI_nat (by rw [nats_get, ht1]; rfl), _, rfl, b, s, t, i, rfl, t2.seq hb, hs60, t0, hi, fun c H3 s3 hc => ?_⟩
            have S3 := S2.same s3
            have f3 := f2.trans (Fr.of s3)
            have t3 := hS.tups f3
            have hc' := hc
            rw [nats_ints] at hc'
            have hpos : 0 < ((K88.loaded s t i).map fun (n : Nat) => (n : Int)).length := by rw [List.length_map, loaded_length]; exact hs0
            refine ⟨_, rfl, c, _, rfl, hc', hpos, fun mm m1 m2 => ?_⟩
            obtain rfl := max_ints m1 m2
            refine ⟨_, rfl, sf, C, dx, _, .int (m : Nat), rfl, S3.ins, S.cls, S.nH, lk2, _, _, rfl, rfl, _, rfl, ?_⟩
            by_cases hle : maxL (K88.loaded s t i) ≤ m
            · have eF : Fj i = (go m (ts.drop (p.length + 1)) (K88.loaded s t i)).map (i :: ·) := if_pos hle
              refine if_t (decide_eq_true (by omega)) ?_
              refine ⟨_, rfl, sf, dx, _, rfl, S3.ins, lk4, _, rfl, a, nats p, rfl, .inl (t3.seq ha), _, rfl, len_ok (by rw [List.length_append, lp]; simp; omega), fun kq hkq => ?_⟩
              have s4 : Same H3 (upd H3 kq (.tup (nats p ++ [.int (i : Nat)]))) := same_new hkq
              have e4 : nats p ++ [V.int (i : Nat)] = nats (p ++ [i]) := by unfold nats; rw [List.map_append]; rfl
              have hsub : ts.length - (p ++ [i]).length = r0 := by rw [lps]; omega
              refine ⟨_, rfl, sf, kq, c, dx, tl, d, ts, m, xs2, p ++ [i], K88.loaded s t i, rfl, S3.same s4, seqT_of (by rw [upd_same, e4]), s4.seqT hc, by rw [lps]; omega, by rw [lps]; omega, h9, ht, by rw [loaded_length]; exact hs0, by rw [loaded_length]; exact hs60, by rw [hsub]; omega, fun H5 xs5 S5 f5 l5 => ?_⟩
              rw [hsub] at l5
              rw [lps]
              have f6 := f3.trans ((Fr.of s4).trans f5)
              refine ⟨fun r hr c5 hc5 => ?_, fun hn5 => ?_⟩
              · refine ⟨_, rfl, rfl, _, rfl, if_t rfl ?_⟩
                refine ⟨_, rfl, (q H5 xs5 S5 f6 (by omega)).1 (i :: r) ?_ c5 ?_⟩
                · rw [hgo]
                  exact findSome_hit hi hF (by rw [eF, hr]; rfl)
                · rw [List.append_assoc] at hc5
                  exact hc5
              · refine ⟨_, rfl, rfl, _, rfl, if_f rfl ?_⟩
                refine ⟨xs5, S5, f6, by omega, fun j hj => ?_, _, _, _, rfl⟩
                by_cases hji : j < i
                · exact hF j hji
                · have : j = i := by omega
                  subst this
                  rw [eF, hn5]
                  rfl
            · refine if_f (decide_eq_false (by omega)) ?_
              refine ⟨xs2, S3, f3, by omega, fun j hj => ?_, _, _, _, rfl⟩
              by_cases hji : j < i
              · exact hF j hji
              · have : j = i := by omega
                subst this
                exact if_neg hle
          · rintro σ H2 ⟨xs2, S2, f2, l2, hF, v4, v5, v6, rfl⟩
            have t2 := hS.tups f2
            have hmul : t * nodes r0 ≤ 6 * nodes r0 := Nat.mul_le_mul_right _ (by omega)
            have hnone : go m (ts.drop p.length) s = none := by rw [hgo]; exact findSome_miss hF
            refine ⟨_, rfl, sf, C, dx, _, .ref d, rfl, S2.ins, S.cls, S.nF, lk3, _, rfl, _, rfl, len_ok (by simp), fun k2 hk2 => ?_⟩
            have s3 : Same H2 (upd H2 k2 (.tup [.int (p.length : Nat), .ref b])) := same_new hk2
            have S3 := S2.same s3
            have kb : KeyAt K (upd H2 k2 (.tup [.int (p.length : Nat), .ref b])) k2 (p.length, s) := ⟨b, seqT_of upd_same, s3.seqT (t2.seq hb)⟩
            refine ⟨d, k2, xs2, (p.length, s), rfl, rfl, S3.memo, S3.keys, kb, by omega, fun xs3 hp3 => ?_⟩
            have := hp3.1
            exact (q _ xs3 (S3.put kb hnone hp3) (f2.trans ((Fr.of s3).trans Fr.put)) (by omega)).2 hnone
/-! ### spread -/
def parts : List Body → List Nat → List (List Nat)
  | [], _ => []
  | b :: bs, r => r.take b.length :: parts bs (r.drop b.length)
theorem parts_snoc : ∀ (bs : List Body) (b : Body) (r : List Nat), parts (bs ++ [b]) r = parts bs r ++ [(r.drop (bs.map List.length).sum).take b.length]
  | [], b, r => by simp [parts]
  | c :: bs, b, r => by
    show r.take c.length :: parts (bs ++ [b]) (r.drop c.length) = (r.take c.length :: parts bs (r.drop c.length)) ++ _
    rw [parts_snoc bs b, List.drop_drop, List.map_cons, List.sum_cons]
    rfl
theorem parts_len : ∀ (bs : List Body) (r : List Nat), (parts bs r).length = bs.length
  | [], _ => rfl
  | b :: bs, r => by
    show (parts bs _).length + 1 = bs.length + 1
    rw [parts_len bs]
theorem nats_cut (q : List Nat) (l n : Nat) : ((nats q).drop l).take n = nats ((q.drop l).take n) := by simp [nats]
theorem rows_to (ps : List (List Nat)) : tupOnlyAll (ps.map fun l => PyData.tuple (natD l)) = true := by
  rw [tupOnlyAll_iff]
  intro d hd
  obtain ⟨l, _, rfl⟩ := List.mem_map.mp hd
  exact tupOnly_nat l
theorem terms_len (h : House) : (terms h).length = (h.bodies.map List.length).sum := by
  unfold terms
  rw [List.length_flatMap]
  congr 1
  exact List.map_congr_left fun b _ => List.length_map ..
theorem terms_data (h : House) : (h.bodies.flatMap fun b => b.map fun (s : Seat) => PyData.int (s.t : Int)) = natD (terms h) := by
  unfold natD terms
  rw [List.map_flatMap]
  congr 1
  funext b
  rw [List.map_map]
  rfl
theorem rep_zero {H : Hp} {p : Addr} {n : Nat} {Q : VK} (hp : SqT K H p [.int 0]) (h1 : 1 ≤ n) (h2 : n ≤ 1000) (q : ∀ c H', Same H H' → SqT K H' c (nats (List.replicate n 0)) → Q (.ref c) H') : rRep1 K (.ref p) (.int ((n : Nat) : Int)) H Q := by
  refine ⟨p, _, _, rfl, rfl, hp, by simp, by omega, by omega, by simp, fun e => ?_, fun _ p2 hp2 => q p2 _ (same_new hp2) (seqT_of ?_)⟩
  · have : n = 1 := by omega
    subst this
    exact q p H (Same.refl H) hp
  · rw [upd_same]
    congr 2
    rw [Int.toNat_natCast, nats, List.map_replicate]
    exact List.flatten_replicate_singleton
def sprD (h : House) (b : Nat) (q : List Nat) : PyData := .tuple [.int (b : Nat), psD (parts h.bodies q)]
def spSpread (K : PySem.W.Frag) (C : Addr) : Sp := fun vs H Q E => ∃ x d, vs = [x] ∧ Dp K H x d ∧
  ((∃ h b q, d = houseD h ∧ HouseOk h ∧ Best (cost (terms h)) (rows (terms h)) b q ∧ ∀ y H', Same H H' → Dp K H' y (sprD h b q) → Q y H') ∨ ∃ z, HBad d z ∧ Refuses C "place" (.str z) H E)
theorem sc_sp : FnScope ["house", "terms", "body", "seat", "found", "most", "rows", "place"] ["house"] (defScope sSpread) := ⟨rfl, rfl, rfl, by decide +kernel, rfl, by decide +kernel, by decide +kernel⟩
theorem do_spread {CH C fI fG : Addr} {fdi fdg : FuncData} (T : Blt mg) (A : At K mg "spread" sSpread) (S : SprF K mg C fI fG) (bi : L2.Binds K fdi ["self", "terms", "most"] []) (bg : L2.Binds K fdg ["self", "phases", "some"] []) (FI : FnOk P w K mg base CX0 11 fI fdi ["self", "terms", "most"] (spInit P w C)) (FG : FnOk P w K mg base CX0 12 fG fdg ["self", "phases", "some"] (spGo P w K C 10))
    (DN : Does P w K mg base (L2.CX P w) 12 "need_house" ["house"] (spNeedHouse K CH)) (DR : Does P w K mg base CX0 12 "round_of" ["house"] (spRoundOf K)) :
    Does P w K mg base (L2.CX P w) 13 "spread" ["house"] (spSpread K CH) := by
  obtain ⟨f, fd, F, hm⟩ := A
  refine ⟨f, fd, hm, F.kp, F.binds fun _ _ _ _ _ _ us hl => match us, hl with | [_], _ => rfl, F.okX sc_sp (fun vs H Q E h => ?_) (fun cdv A outer s H vs Q E hr h => ?_)⟩
  · obtain ⟨_, _, rfl, _⟩ := h
    rfl
  · obtain ⟨x, d, rfl, hd, h⟩ := h
    have hr1 : Room (11 + 1) (A.deeper (envOfC "spread" (defScope sSpread) s.heap.objs.size f cdv)) := hr
    refine ⟨_, (pss_cons (ps_expr (pe_do DN hr (passes_call (takes_of rfl rfl rfl rfl) fun _ _ _ _ h => h) (pa_cons (pv 0) pa_nil)))
      (pss_cons (ps_setLc2 (i := 1) (own := [("body", 2), ("seat", 3)]) (vs1 := [3]) (g := (gName 2)) (g1 := (gName 3)) (tt := tYes) (tt1 := tYes) rfl sc_sp.nd rfl rfl (sw_true rfl rfl rfl (by decide +kernel)) (pi_tup (pe_ix ix_tup (pv 0) pe_int (fun _ _ => rfl))) (blkOk_by (N := ["house", "terms", "body", "seat", "found", "most", "rows", "place"]) (sc := defScope sSpread) (by decide +kernel)) (by decide) (fun _ _ _ _ _ => (pg_name (i := 2) sc_sp.nd rfl (Or.inl rfl))) (fun _ _ _ _ _ => pts_nil) (fun _ _ _ _ _ => (piTK (K := K) rfl (pv 2))) (fun _ _ _ _ _ => (pg_name (i := 3) sc_sp.nd rfl (Or.inl rfl))) (fun _ _ _ _ _ => pts_nil) (fun _ _ _ _ _ => (pe_ix (ixTK (K := K) rfl) (pv 3) pe_int (fun _ _ => rfl))))
      (pss_cons (ps_asg (pe_tup (pa_cons pe_non (pa_cons pe_int pa_nil))) (pg_tup (by rfl) (pgs_cons (pg_name (i := 4) sc_sp.nd rfl (Or.inl rfl)) (pgs_cons (pg_name (i := 5) sc_sp.nd rfl (Or.inl rfl)) pgs_nil))))
      (pss_cons (ps_while (passes_of rfl) (pt_cmpR op_isN (pv 4) pe_non (nomark _)) (pss_cons (ps_aug (i := 5) sc_sp.nd rfl (Or.inl rfl) pe_int ip_add)
      (pss_one (ps_set (i := 4) sc_sp.nd rfl (Or.inl rfl) (pe_meth (pe_make S.makes FI hr1 rfl S.gC bi .nil pass0 (pa_cons (pv 1) (pa_cons (pv 5) pa_nil))) S.cls S.go FG hr bg .nil pass0 (pa_cons (pe_tup pa_nil) (pa_cons (pe_op op_rep1 (pe_tup (pa_cons pe_int pa_nil)) (pe_do DR hr pass0 (pa_cons (pv 0) pa_nil))) pa_nil)))))))
      (pss_cons (ps_par (i := 6) (j := 7) (by rfl) sc_sp.nd rfl rfl (by decide) rfl rfl (pa_cons (pe_lst pa_nil) (pa_cons pe_int pa_nil)) (by rfl))
      (pss_cons (ps_for (passes_of rfl) rfl (pi_tup (pe_ix ix_tup (pv 0) pe_int (fun _ _ => rfl))) (pg_name (i := 2) sc_sp.nd rfl (Or.inl rfl)) (pss_cons (ps_expr (pe_bm PySem.F.plainAttrs_list PySem.F.slot_list_append PySem.F.type_list_append mt_append (pv 6) (pa_cons (pe_slice sl_tupA (pv 4) (po_some (pv 7)) (po_some (pe_op op_add (pv 7) (pe_callB call_len_seq (by rfl) T.len PySem.boot_len (pa_cons (pv 2) pa_nil))))) pa_nil)))
      (pss_one (ps_aug (i := 7) sc_sp.nd rfl (Or.inl rfl) (pe_callB call_len_seq (by rfl) T.len PySem.boot_len (pa_cons (pv 2) pa_nil)) ip_add))))
      (pss_one (ps_ret (pe_tup (pa_cons (pv 5) (pa_cons (pe_callTy call_tuple_of (by rfl) T.tuple (by decide +kernel) (pa_cons (pv 6) pa_nil)) pa_nil))))))))))), ?_⟩
    rcases h with ⟨h, bb, qq, rfl, ok, B, q⟩ | ⟨z, hz, e⟩
    · refine ⟨_, rfl, _, _, rfl, hd, .inl ⟨h, rfl, ok, fun H1 s1 => ?_⟩⟩
      have hd1 := dp_same s1 hd
      obtain ⟨a, y, b, us, rfl, ha, rfl, hb, db⟩ := dp_house hd1
      have lens : (seats h).length ≤ 9 := seats_le ok
      refine ⟨_, rfl, _, _, 0, _, rfl, rfl, ha, at0 _ _, b, rfl, ⟨_, hb⟩, fun D hD => lc2_flat (K := K) (fun (s : Seat) => .int (s.t : Int)) (fun x => [some (.ref a), none, some x, none, none, none, none, none]) (fun x y => [some (.ref a), none, some x, some y, none, none, none, none]) hb db hD ?_ (fun _ _ _ _ => rfl) (fun b hb s hs => seat_to (ok.seats b hb s hs)) (fun _ _ _ h => h) (fun _ => rfl)
        (fun c xs H R hc r => ⟨_, rfl, c, rfl, ⟨_, hc⟩, r⟩) (fun _ _ _ _ h => h) (fun _ _ => rfl) (fun x y st H R hs dy r => ?_) fun H2 vs s2 hv dv => ?_⟩
      · rw [terms_data, natD_len, terms_len]
        exact Nat.lt_of_le_of_lt ok.s9 (by unfold sizeLine; omega)
      · obtain ⟨e, yy, rfl, he, hyy⟩ := dp_seat dy
        exact ⟨_, rfl, e, _, 0, _, rfl, rfl, he, at0 _ _, r _ _ (Same.refl _) (.int _)⟩
      · rw [terms_data] at dv
        have ev := nats_of dv
        subst ev
        refine ⟨len_ok (by simp), fun p0 hp0 => ?_⟩
        have s3 : Same H2 (upd H2 p0 (.tup [.non, .int 0])) := same_new hp0
        refine ⟨p0, _, rfl, seqT_of upd_same, rfl, _, _, rfl, _, _, rfl, rfl, ?_⟩
        have bpos : 1 ≤ bb := B.pos (by
          intro e
          obtain ⟨b0, r0, e0⟩ := List.exists_cons_of_length_pos (show 0 < h.bodies.length from ok.b1)
          have m0 : b0 ∈ h.bodies := by rw [e0]; exact List.mem_cons_self ..
          obtain ⟨z0, r1, e1⟩ := List.exists_cons_of_length_pos (show 0 < b0.length from (ok.s1 b0 m0).1)
          have : z0.t ∈ terms h := List.mem_flatMap.mpr ⟨b0, m0, List.mem_map.mpr ⟨z0, by rw [e1]; exact List.mem_cons_self .., rfl⟩⟩
          rw [e] at this
          exact absurd this (by simp)) (terms_pos ok)
        refine while_by (fun σ H' => Same H2 H' ∧ ∃ (k : Nat) (fv : V), σ = [some (.ref a), some (.ref D), none, none, some fv, some (.int (k : Nat)), none, none] ∧ ((k < bb ∧ fv = .non) ∨ (k = bb ∧ ∃ c, fv = .ref c ∧ SqT K H' c (nats qq))))
          (fun σ _ => match σ with | [_, _, _, _, _, some (.int k), _, _] => bb - k.toNat | _ => 0) ⟨s3, 0, .non, rfl, .inl ⟨by omega, rfl⟩⟩ ?_ ?_
        · rintro σ H3 ⟨s4, k, fv, rfl, hk⟩
          refine ⟨_, rfl, rfl, _, rfl, ?_⟩
          rcases hk with ⟨hk, rfl⟩ | ⟨rfl, c, rfl, hc⟩
          · refine if_t rfl ?_
            have sA := s1.trans (s2.trans s4)
            have eL : SqL K H3 D (nats (terms h)) := .inl (.inl (s4 _ _ hv))
            have hr12 := ok.round
            have hrp := rnd_pos (terms_pos ok)
            refine ⟨_, rfl, _, _, rfl, rfl, ?_⟩
            refine ⟨_, rfl, _, rfl, fun x dx hx hdx hne => ⟨x, D, ((k + 1 : Nat) : Int), dx, rfl, upd_same, fun dd hdd => ⟨rfl, ?_⟩⟩⟩
            have s5 : Same H3 (upd (upd (upd (upd H3 dx (.own x)) x (.ins C dx [])) dd (memoO P w dd [])) x (sprO C dx D ((k + 1 : Nat) : Int) dd)) :=
              ((((same_new hdx).new (by rw [upd_ne hne.symm]; exact hx)).new hdd).put hx)
            have nxd : dd ≠ x := fun e => by rw [e, upd_same] at hdd; cases hdd
            generalize hH : (upd (upd (upd (upd H3 dx (.own x)) x (.ins C dx [])) dd (memoO P w dd [])) x (sprO C dx D ((k + 1 : Nat) : Int) dd)) = H4 at s5 ⊢
            have hS : SprH P w K C x dx D dd (terms h) (k + 1) [] H4 := by
              refine ⟨by rw [← hH, upd_same], sql_same s5 eL, ?_, (fun _ hx => nomatch hx), (fun _ hx => nomatch hx)⟩
              rw [← hH, upd_ne nxd, upd_same]
            refine ⟨x, dx, _, rfl, hS.ins, lk4, len_ok (by simp), fun p1 hp1 => ?_⟩
            have s6 := same_new (o := .tup []) hp1
            refine ⟨len_ok (by simp), fun p2 hp2 => ?_⟩
            have s7 := same_new (o := .tup [.int 0]) hp2
            have s37 := s5.trans (s6.trans s7)
            refine ⟨_, rfl, _, h, rfl, dp_same (s2.trans (s4.trans s37)) hd1, ok, rep_zero (seqT_of upd_same) hrp (by omega) fun c H5 s8 hc => ?_⟩
            have s9 := s6.trans (s7.trans s8)
            refine ⟨x, p1, c, dx, D, dd, terms h, k + 1, [], [], List.replicate (rnd (terms h)) 0, rfl, hS.same s9, seqT_of ((s7.trans s8) _ _ upd_same), hc, Nat.zero_le _, ?_, ?_, ?_, by simpa using hrp, by simp; omega, ?_, fun H6 xs6 S6 f6 l6 => ?_⟩
            · rw [terms_len]
              have := ok.s9
              simp
              omega
            · rw [terms_len]
              exact ok.s9
            · intro t ht
              rw [terms_seats] at ht
              obtain ⟨s0, hs0, rfl⟩ := List.mem_map.mp ht
              exact ⟨(seats_ok ok hs0).t1, (seats_ok ok hs0).t6⟩
            · have h9 : (terms h).length ≤ 9 := by rw [terms_len]; exact ok.s9
              have : ∀ n, n ≤ 9 → nodes n < 16777216 := by decide
              have := this _ h9
              unfold sizeLine
              simpa using this
            · have sF : Same H3 H6 := fun b o e => f6.at_ b o (s9 _ _ (s5 _ _ e)) fun e2 => by
                have : H3 dd = none := by
                  by_cases e3 : dd = dx
                  · rw [e3]; exact hdx
                  · rw [upd_ne nxd, upd_ne e3] at hdd
                    exact hdd
                rw [e2, this] at e
                cases e
              have hsearch : go (k + 1) (terms h) (List.replicate (rnd (terms h)) 0) = search (terms h) (k + 1) := rfl
              show (∀ r, go (k + 1) (terms h) (List.replicate (rnd (terms h)) 0) = some r → _) ∧ (go (k + 1) (terms h) (List.replicate (rnd (terms h)) 0) = none → _)
              rw [hsearch]
              refine ⟨fun r hr c6 hc6 => ?_, fun hn => ?_⟩
              · have e1 : k + 1 = bb := by
                  by_cases e1 : k + 1 < bb
                  · rw [B.search_less e1] at hr
                    cases hr
                  · omega
                rw [e1, B.search_at] at hr
                cases hr
                refine ⟨⟨s4.trans sF, k + 1, _, rfl, .inr ⟨e1, c6, rfl, hc6⟩⟩, ?_⟩
                show bb - ((k : Int) + 1).toNat < bb - (k : Int).toNat
                omega
              · have e1 : k + 1 < bb := by
                  by_cases e1 : k + 1 < bb
                  · exact e1
                  · have e2 : k + 1 = bb := by omega
                    rw [e2, B.search_at] at hn
                    cases hn
                refine ⟨⟨s4.trans sF, k + 1, _, rfl, .inl ⟨e1, rfl⟩⟩, ?_⟩
                show bb - ((k : Int) + 1).toNat < bb - (k : Int).toNat
                omega
          · refine if_f rfl ?_
            have sA := s1.trans (s2.trans s4)
            refine ⟨len_ok (by simp), fun l hl => ⟨_, _, rfl, ?_⟩⟩
            have sL : Same H3 (upd H3 l (.lst [])) := same_new hl
            have lq : qq.length = (h.bodies.map List.length).sum := by rw [← terms_len]; exact rows_len _ _ B.mem
            have lu : us.length = h.bodies.length := by rw [dpAll_len db, List.length_map]
            refine ⟨_, rfl, _, _, 0, _, rfl, rfl, (s2.trans (s4.trans sL)).seqT ha, at0 _ _, b, rfl, ⟨_, (s2.trans (s4.trans sL)).seqT hb⟩, for_tup (K := K) (a := b) (xs := us) (fun i σ H' => Same H3 H' ∧ ∃ ws v2, σ = [some (.ref a), some (.ref D), v2, none, some (.ref c), some (.int (k : Nat)), some (.ref l), some (.int (((h.bodies.take i).map List.length).sum : Nat))] ∧
                H' l = some (.lst ws) ∧ DpAll K H' ws ((parts (h.bodies.take i) qq).map fun l => .tuple (natD l)))
              ⟨sL, [], none, rfl, upd_same, .nil⟩ (fun i σ H' _ e => (s2.trans (s4.trans e.1)).seqT hb) ?_ ?_⟩
            · rintro i x σ H5 hx ⟨s5, ws, v2, rfl, e5, dw⟩
              obtain ⟨bd, hbd, dx⟩ := dpAll_map (dpAll_same (s2.trans (s4.trans s5)) db) hx
              obtain ⟨e1, ss, rfl, he1, ds⟩ := dp_body dx
              have lss : ss.length = bd.length := by rw [dpAll_len ds, List.length_map]
              have hsum : ((h.bodies.take (i + 1)).map List.length).sum = ((h.bodies.take i).map List.length).sum + bd.length := by rw [take_snoc hbd]; simp
              have hle : ((h.bodies.take i).map List.length).sum + bd.length ≤ qq.length := by
                rw [lq, ← hsum]
                conv => rhs; rw [← List.take_append_drop (i + 1) h.bodies, List.map_append, List.sum_append]
                omega
              refine ⟨_, rfl, .inl ⟨rfl, _, .inl (.inl e5)⟩, _, rfl, _, rfl, _, rfl, _, rfl, _, rfl, e1, ss, rfl, .inr he1, _, _, rfl, rfl, _, rfl, ?_⟩
              rw [lss]
              refine sl_part _ bd.length (s5.seqT hc) (by rw [nats_len]; exact hle) fun c2 H6 s6 hc2 => ?_
              have e6 := s6 _ _ e5
              have lw : ws.length ≤ 3 := by
                rw [dpAll_len dw, List.length_map, parts_len, List.length_take]
                have := ok.b3
                omega
              rw [nats_cut] at hc2
              refine ⟨l, ws, _, rfl, rfl, e6, by unfold sizeLine; omega, ?_⟩
              have t7 : Tups H6 (upd H6 l (.lst (ws ++ [.ref c2]))) := Tups.put (by rw [e6]; exact True.intro)
              refine ⟨_, rfl, _, rfl, e1, ss, rfl, .inr (t7.seq (s6.seqT he1)), _, _, rfl, rfl, (s5.trans s6).put hl, ws ++ [.ref c2], some (.ref e1), ?_, upd_same, ?_⟩
              · rw [hsum, lss]
                rfl
              · refine dpAll_tups t7 _ _ (rows_to _) ?_
                rw [take_snoc hbd, parts_snoc, List.map_append]
                exact dpAll_snoc (dpAll_same s6 dw) (.tup hc2 (dpAll_nats _))
            · rintro σ H5 ⟨s5, ws, v2, rfl, e5, dw⟩
              rw [lu, List.take_length] at dw
              refine ⟨_, rfl, _, rfl, l, ws, rfl, .inl ⟨.inl (.inl e5), fun l2 hl2 => ⟨len_ok (by simp), fun p hp => ?_⟩⟩⟩
              have s6 : Same H5 (upd H5 l2 (.tup ws)) := same_new hl2
              have s7 := same_new (o := .tup [.int (k : Nat), .ref l2]) hp
              exact q _ _ (sA.trans (s5.trans (s6.trans s7))) (.tup (seqT_of upd_same) (.cons (.int _) (.cons (.tup (s7.seqT (seqT_of upd_same)) (dpAll_same (s6.trans s7) dw)) .nil)))
        · intro σ H Q Q' hq h
          obtain ⟨v, h1, h2, k, h3, h4⟩ := h
          exact ⟨v, h1, h2, k, h3, hq _ _ h4⟩
    · exact ⟨_, rfl, _, _, rfl, hd, .inr ⟨z, hz, e⟩⟩
end
end K88
set_option maxHeartbeats 1000000
/-! The walks of the law's own helpers: the draws, the drawn houses. -/
namespace K88
open PySem PySem.Spec PyProof.Rows L2 LamX K88X
section
variable {P : Program} {w : World} {K : PySem.W.Frag} {mg : Str → Option Value} {base : Heap}
theorem nz {j : Int} (h : (j != 0) = true) : j ≠ 0 := fun e => by rw [e] at h; exact absurd h (by decide)
/-! ### _law_mixed -/
def spMixed : Sp := fun vs H Q _ => ∃ c n, vs = [.int c, .int n] ∧ -(2 ^ 60) < n ∧ n < 2 ^ 60 ∧ ∀ r : Int, Q (.int r) H
theorem sc_mx : FnScope ["cell", "n", "blend"] ["cell", "n"] (defScope sMixed) := ⟨rfl, rfl, rfl, by decide +kernel, rfl, by decide +kernel, by decide +kernel⟩
theorem do_mixed (T : Blt mg) (A : At K mg "_law_mixed" sMixed) : Does P w K mg base CX0 1 "_law_mixed" ["cell", "n"] spMixed := by
  obtain ⟨f, fd, F, hm⟩ := A
  refine ⟨f, fd, hm, F.kp, F.binds fun _ _ _ _ _ _ us hl => match us, hl with | [_, _], _ => rfl, F.ok sc_mx (fun vs H Q E h => ?_) (fun cdv A outer s H vs Q E hr h => ?_)⟩
  · obtain ⟨_, _, rfl, _⟩ := h
    rfl
  · obtain ⟨c, n, rfl, n1, n2, q⟩ := h
    refine ⟨_, (pss_cons (ps_set (i := 2) sc_mx.nd rfl (Or.inl rfl) (pe_op op_add (pe_op op_add (pe_op op_modN (pe_callTy call_int1 (by rfl) T.int (by decide +kernel) (pa_cons (pe_op op_mul (pe_op op_mul (pv 0) (pe_op op_add pe_int (pe_op op_mul pe_int (pv 1)))) pe_int) pa_nil)) pe_int) (pe_op op_mul (pe_op op_mul pe_int (pv 1)) (pv 1))) (pe_op op_mul pe_int (pv 1))))
      (pss_one (ps_ret (pe_op op_fdivN (pe_op op_modN (pe_callTy call_int1 (by rfl) T.int (by decide +kernel) (pa_cons (pe_op op_mul (pv 2) pe_int) pa_nil)) pe_int) pe_int)))), ?_⟩
    repeat (first | refine ⟨_, _, rfl, rfl, (by first | exact .inr ⟨by decide, by decide⟩ | exact .inl ⟨by decide, by decide⟩ | exact .inr ⟨by omega, by omega⟩ | exact .inl ⟨by omega, by omega⟩ | exact ⟨by decide, by decide⟩ | exact nz rfl), ?_⟩ | refine ⟨_, _, rfl, rfl, ?_⟩ | refine .inl ⟨_, rfl, ?_⟩ | refine ⟨_, rfl, ?_⟩)
    exact q _
/-! ### _law_folded -/
def IntsL (H : Hp) (c : Addr) (n : Nat) : Prop := ∃ cs : List Int, cs.length = n ∧ H c = some (.lst (cs.map V.int))
theorem ints_of {H : Hp} {α : Type} {f : α → Int} : ∀ {l : List α} {vs : List V}, DpAll K H vs (l.map fun n => PyData.int (f n)) → ∃ cs : List Int, vs = cs.map V.int ∧ cs = l.map f
  | [], _, h => by cases h; exact ⟨[], rfl, rfl⟩
  | n :: l, _, h => by
    cases h with
    | cons h1 h2 =>
      cases h1
      obtain ⟨cs, e1, e2⟩ := ints_of h2
      exact ⟨f n :: cs, by rw [e1]; rfl, by rw [e2]; rfl⟩
theorem fm_nat (n : Int) {k : Int} (hk : 0 < k) : ∃ j : Nat, (j : Int) < k ∧ n.fmod k = (j : Nat) := by
  have h0 := Int.fmod_nonneg_of_pos n hk
  have h1 := Int.fmod_lt_of_pos n hk
  obtain ⟨j, ej⟩ := Int.eq_ofNat_of_zero_le h0
  exact ⟨j, by omega, ej⟩
theorem fm64 (n : Int) : ∃ j : Nat, j < 64 ∧ n.fmod 64 = (j : Nat) := by
  obtain ⟨j, h, e⟩ := fm_nat n (k := 64) (by decide)
  exact ⟨j, by omega, e⟩
theorem atI_int {α : Type} {xs : List α} {k : Int} {j : Nat} {v : α} (h : k = (j : Nat)) (hj : xs[j]? = some v) : atI xs k = some v := by rw [h]; exact atI_nat hj
theorem ixN_int {n : Nat} {k : Int} {j : Nat} (h : k = (j : Nat)) (hj : j < n) : ixN n k = some j := by
  rw [h]
  unfold ixN
  rw [if_pos (by omega), if_pos (by omega)]
  rfl
def spFolded (K : PySem.W.Frag) : Sp := fun vs H Q _ => ∃ a, ∃ ns : List Int, vs = [.ref a] ∧ SqL K H a (ns.map V.int) ∧ ns.length ≤ 63 ∧ ∀ c H', Same H H' → H c = none → IntsL H' c 64 → Q (.ref c) H'
theorem sc_fo : FnScope ["script", "found", "n", "cell"] ["script"] (defScope sFolded) := ⟨rfl, rfl, rfl, by decide +kernel, rfl, by decide +kernel, by decide +kernel⟩
theorem do_folded (T : Blt mg) (A : At K mg "_law_folded" sFolded) : Does P w K mg base CX0 1 "_law_folded" ["script"] (spFolded K) := by
  obtain ⟨f, fd, F, hm⟩ := A
  refine ⟨f, fd, hm, F.kp, F.binds fun _ _ _ _ _ _ us hl => match us, hl with | [_], _ => rfl, F.ok sc_fo (fun vs H Q E h => ?_) (fun cdv A outer s H vs Q E hr h => ?_)⟩
  · obtain ⟨_, _, rfl, _⟩ := h
    rfl
  · obtain ⟨a, ns, rfl, ha, hl, q⟩ := h
    refine ⟨_, (pss_cons (ps_setLc (i := 1) (own := [("n", 2)]) (g := (gName 2)) (tt := tYes) rfl sc_fo.nd rfl rfl (sw_true rfl rfl rfl (by decide +kernel)) (pi_range1 rfl T.range (pa_cons pe_int pa_nil)) (blkOk_by (N := ["script", "found", "n", "cell"]) (sc := defScope sFolded) (by decide +kernel)) (fun _ _ _ _ _ => (pg_name (i := 2) sc_fo.nd rfl (Or.inl rfl))) (fun _ _ _ _ _ => pts_nil) (fun _ _ _ _ _ => (pe_op op_add pe_int (pv 2))))
      (pss_cons (ps_for PassesOwn.never rfl (pi_enum (by rfl) T.enumerate (pa_cons (pv 0) pa_nil)) (pg_tup (by rfl) (pgs_cons (pg_name (i := 2) sc_fo.nd rfl (Or.inl rfl)) (pgs_cons (pg_name (i := 3) sc_fo.nd rfl (Or.inl rfl)) pgs_nil))) (pss_one (ps_asg (pe_op op_modN (pe_callTy call_int1 (by rfl) T.int (by decide +kernel) (pa_cons (pe_op op_add (pe_op op_mul (pe_ix ix_list (pv 1) (pe_op op_modN (pe_callTy call_int1 (by rfl) T.int (by decide +kernel) (pa_cons (pv 2) pa_nil)) pe_int) (fun _ _ => rfl)) pe_int) (pv 3)) pa_nil)) pe_int) (pg_sub (pv 1) (pe_op op_modN (pe_callTy call_int1 (by rfl) T.int (by decide +kernel) (pa_cons (pv 2) pa_nil)) pe_int) set_list))))
      (pss_cons (ps_for PassesOwn.never rfl (pi_range2 rfl T.range (pa_cons pe_int (pa_cons pe_int pa_nil))) (pg_name (i := 2) sc_fo.nd rfl (Or.inl rfl)) (pss_one (ps_asg (pe_op op_modN (pe_callTy call_int1 (by rfl) T.int (by decide +kernel) (pa_cons (pe_op op_add (pe_ix ix_list (pv 1) (pv 2) (fun _ _ => rfl)) (pe_op op_mul (pe_ix ix_list (pv 1) (pe_op op_sub (pv 2) pe_int) (fun _ _ => rfl)) pe_int)) pa_nil)) pe_int) (pg_sub (pv 1) (pv 2) set_list))))
      (pss_one (ps_ret (pv 1)))))), ?_⟩
    refine ⟨_, rfl, by omega, by omega, fun D hD => lc_data (K := K) (walk_range (lo := 0) (n := 64)) ((List.range 64).map fun (n : Nat) => PyData.int (17 + (0 + (n : Int)))) (by rw [List.length_map, List.length_range]) (small (by omega)) hD (fun _ _ => True.intro) (fun i x H3 H4 d R R' hd' s3 y hR => ?_) ?_ fun H3 vs s3 hv dv => ?_⟩
    · obtain ⟨rfl, rfl⟩ := y
      have hi : i < 64 := by
        have := (List.getElem?_eq_some_iff.mp hd').1
        rw [List.length_map, List.length_range] at this
        exact this
      rw [List.getElem?_map, List.getElem?_range hi] at hd'
      cases hd'
      exact ⟨rfl, _, rfl, _, _, rfl, rfl, hR _ _ (Same.refl _) (.int _)⟩
    · rw [tupOnlyAll_iff]
      intro d hd
      obtain ⟨n, _, rfl⟩ := List.mem_map.mp hd
      rfl
    · have hI : IntsL H3 D 64 := by
        obtain ⟨cs, e1, e2⟩ := ints_of dv
        exact ⟨cs, by rw [e2, List.length_map, List.length_range], by rw [hv, e1]⟩
      refine ⟨_, rfl, a, _, rfl, sql_same s3 ha, for_it (walk_enum (K := K) (a := a) (xs := ns.map V.int)) (fun i σ H' => Same H H' ∧ IntsL H' D 64 ∧ ∃ v2 v3, σ = [some (.ref a), some (.ref D), v2, v3])
        ⟨s3, hI, none, none, rfl⟩ (fun i σ H' _ e => sql_same e.1 ha) ?_ ?_⟩
      · rintro i z σ H4 H5 hi ⟨s4, ⟨cs, hc1, hc2⟩, v2, v3, rfl⟩ ⟨tp, y1, x, rfl, np, rfl, e1, hx⟩
        cases e1
        have hx : (ns.map V.int)[i]? = some x := hx
        rw [List.getElem?_map] at hx
        cases hn : ns[i]? with
        | none => rw [hn] at hx; cases hx
        | some n =>
          rw [hn] at hx
          cases hx
          have s5 : Same H4 (upd H4 tp (.tup [.int (i : Nat), .int n])) := same_new np
          obtain ⟨j, hj, ej⟩ := fm64 (i : Int)
          obtain ⟨zz, hzz⟩ : ∃ zz, cs[j]? = some zz := ⟨_, List.getElem?_eq_getElem (by omega)⟩
          have hc3 := s5 _ _ hc2
          have e2 : atI (cs.map V.int) ((i : Int).fmod 64) = some (.int zz) := atI_int ej (by rw [List.getElem?_map, hzz]; rfl)
          have e3 : ixN (cs.map V.int).length ((i : Int).fmod 64) = some j := ixN_int ej (by rw [List.length_map]; omega)
          refine ⟨tp, _, rfl, seqT_of upd_same, rfl, _, _, rfl, _, _, rfl, rfl, ?_⟩
          refine ⟨_, rfl, _, rfl, .inl ⟨_, rfl, _, _, rfl, rfl, nz rfl, D, _, _, _, rfl, rfl, .inl (.inl hc3), e2, _, _, rfl, rfl, .inr ⟨by decide, by decide⟩, _, rfl, _, _, rfl, rfl, .inl ⟨_, rfl, _, _, rfl, rfl, nz rfl, _, rfl, _, rfl, .inl ⟨_, rfl, _, _, rfl, rfl, nz rfl, D, _, _, j, rfl, rfl, hc3, e3, ?_⟩⟩⟩⟩
          refine ⟨(s4.trans s5).put hD, ⟨_, ?_, by rw [upd_same, ← List.map_set]⟩, _, _, rfl⟩
          rw [List.length_set]
          exact hc1
      · rintro σ H4 ⟨s4, hI4, v2, v3, rfl⟩
        refine ⟨_, _, rfl, by omega, for_range (lo := 1) (n := 63) (fun i σ H' => Same H H' ∧ IntsL H' D 64 ∧ ∃ v2 v3, σ = [some (.ref a), some (.ref D), v2, v3])
          ⟨s4, hI4, _, _, rfl⟩ ?_ ?_⟩
        · rintro i σ H5 hi ⟨s5, ⟨cs, hc1, hc2⟩, v2, v3, rfl⟩
          obtain ⟨z1, hz1⟩ : ∃ zz, cs[i]? = some zz := ⟨_, List.getElem?_eq_getElem (by omega)⟩
          obtain ⟨z2, hz2⟩ : ∃ zz, cs[1 + i]? = some zz := ⟨_, List.getElem?_eq_getElem (by omega)⟩
          have q1 : atI (cs.map V.int) (1 + (i : Int) - 1) = some (.int z1) := atI_int (j := i) (by omega) (by rw [List.getElem?_map, hz1]; rfl)
          have q2 : atI (cs.map V.int) (1 + (i : Int)) = some (.int z2) := atI_int (j := 1 + i) (by omega) (by rw [List.getElem?_map, hz2]; rfl)
          have q3 : ixN (cs.map V.int).length (1 + (i : Int)) = some (1 + i) := ixN_int (by omega) (by rw [List.length_map]; omega)
          refine ⟨_, rfl, _, rfl, D, _, _, _, rfl, rfl, .inl (.inl hc2), q2, _, rfl, _, rfl, _, _, rfl, rfl, D, _, _, _, rfl, rfl, .inl (.inl hc2), q1, _, _, rfl, rfl, .inr ⟨by decide, by decide⟩, _, _, rfl, rfl, .inl ⟨_, rfl, _, _, rfl, rfl, nz rfl, _, rfl, _, rfl, D, _, _, _, rfl, rfl, hc2, q3, ?_⟩⟩
          refine ⟨s5.put hD, ⟨_, ?_, by rw [upd_same, ← List.map_set]⟩, _, _, rfl⟩
          rw [List.length_set]
          exact hc1
        · rintro σ H5 ⟨s5, hI5, v2, v3, rfl⟩
          exact ⟨_, rfl, q D H5 s5 hD hI5⟩
/-! ### _law_draw -/
def m3 (c g : Addr) (n : Int) : List (Key × V) := [(.inr "cells", .ref c), (.inr "great", .ref g), (.inr "spot", .int n)]
/-- the state of the draws at m -/
structure MAt (m c g : Addr) (b : Nat) (H : Hp) : Prop where
  ne : c ≠ g
  at_ : ∃ n : Nat, n + b ≤ 1000000 ∧ H m = some (.dK (m3 c g n))
  cells : IntsL H c 64
  great : ∃ k, k ≤ 63 ∧ IntsL H g k
/-- all else stays -/
structure MFr (m g : Addr) (H H' : Hp) : Prop where
  at_ : ∀ b o, H b = some o → b ≠ m → b ≠ g → H' b = some o
theorem MAt.mono {m c g b b' : Nat} {H : Hp} (M : MAt m c g b H) (h : b' ≤ b) : MAt m c g b' H := by
  obtain ⟨h1, ⟨n, h2, h3⟩, h4, h5⟩ := M
  exact ⟨h1, ⟨n, by omega, h3⟩, h4, h5⟩
theorem IntsL.same {c n : Nat} {H H' : Hp} (s : Same H H') (h : IntsL H c n) : IntsL H' c n := by
  obtain ⟨cs, e1, e2⟩ := h
  exact ⟨cs, e1, s _ _ e2⟩
theorem MAt.same {m c g b : Nat} {H H' : Hp} (s : Same H H') (M : MAt m c g b H) : MAt m c g b H' := by
  obtain ⟨h1, ⟨n, h2, h3⟩, h4, k, h5, h6⟩ := M
  exact ⟨h1, ⟨n, h2, s _ _ h3⟩, h4.same s, k, h5, h6.same s⟩
theorem MFr.of {m g : Addr} {H H' : Hp} (s : Same H H') : MFr m g H H' := ⟨fun _ _ h _ _ => s _ _ h⟩
theorem MFr.trans {m g : Addr} {H H1 H2 : Hp} (a : MFr m g H H1) (b : MFr m g H1 H2) : MFr m g H H2 := ⟨fun c o h n1 n2 => b.at_ c o (a.at_ c o h n1 n2) n1 n2⟩
theorem MAt.tups {m c g b : Nat} {H H' : Hp} (M : MAt m c g b H) (f : MFr m g H H') : Tups H H' := by
  obtain ⟨_, ⟨n, _, h3⟩, _, k, _, gs, _, h6⟩ := M
  exact ⟨fun b us h => f.at_ b _ h (fun e => by rw [e, h3] at h; cases h) (fun e => by rw [e, h6] at h; cases h), fun b o u h => f.at_ b _ h (fun e => by rw [e, h3] at h; cases h) (fun e => by rw [e, h6] at h; cases h)⟩
theorem MAt.fresh {m c g b l : Nat} {H : Hp} (M : MAt m c g b H) (h : H l = none) : l ≠ m ∧ l ≠ g := by
  obtain ⟨_, ⟨n, _, h3⟩, _, k, _, gs, _, h6⟩ := M
  exact ⟨fun e => by rw [e, h3] at h; (cases h), fun e => by rw [e, h6] at h; (cases h)⟩
theorem dg_spot {H : Hp} {m c g : Addr} {n : Int} (h : H m = some (.dK (m3 c g n))) : DGet H m (.str "spot") (some (.int n)) := DGet.k (k := .inr "spot") h
theorem dg_great {H : Hp} {m c g : Addr} {n : Int} (h : H m = some (.dK (m3 c g n))) : DGet H m (.str "great") (some (.ref g)) := DGet.k (k := .inr "great") h
theorem dg_cells {H : Hp} {m c g : Addr} {n : Int} (h : H m = some (.dK (m3 c g n))) : DGet H m (.str "cells") (some (.ref c)) := DGet.k (k := .inr "cells") h
theorem pk_spot {c g : Addr} {n k : Int} : putK (m3 c g n) (.inr "spot") (.int k) = m3 c g k := rfl
theorem pk_great {c g g' : Addr} {n : Int} : putK (m3 c g n) (.inr "great") (.ref g') = m3 c g' n := rfl
theorem dpAll_ints {H : Hp} : ∀ l : List Int, DpAll K H (l.map V.int) (l.map .int)
  | [] => .nil
  | n :: l => .cons (.int _) (dpAll_ints l)
theorem shaped_ints (l : List Int) : SeqAt.shaped (.list (l.map .int)) = true := by
  have h1 : ∀ l : List Int, PyData.canLayAll0 (l.map .int) = true := by
    intro l
    induction l with
    | nil => rfl
    | cons n l ih => rw [List.map_cons, PyData.canLayAll0, ih]; rfl
  have h2 : ∀ l : List Int, PyData.depthAll (l.map .int) = 0 := by
    intro l
    induction l with
    | nil => rfl
    | cons n l ih => rw [List.map_cons, PyData.depthAll, ih]; rfl
  simp [SeqAt.shaped, PyData.canLay0, PyData.depth, h1, h2]
def spDraw : Sp := fun vs H Q _ => ∃ m c g b, ∃ l : Nat, vs = [.ref m, .int (l : Nat)] ∧ 0 < l ∧ l ≤ 1000 ∧ MAt m c g (b + 1) H ∧ ∀ (r : Nat) H', r < l → MAt m c g b H' → MFr m g H H' → Q (.int (r : Nat)) H'
theorem sc_dr : FnScope ["m", "limit", "n", "lot", "here", "cell"] ["m", "limit"] (defScope sDraw) := ⟨rfl, rfl, rfl, by decide +kernel, rfl, by decide +kernel, by decide +kernel⟩
theorem do_draw (T : Blt mg) (A : At K mg "_law_draw" sDraw) (DM : Does P w K mg base CX0 1 "_law_mixed" ["cell", "n"] spMixed) : Does P w K mg base CX0 2 "_law_draw" ["m", "limit"] spDraw := by
  obtain ⟨f, fd, F, hm⟩ := A
  refine ⟨f, fd, hm, F.kp, F.binds fun _ _ _ _ _ _ us hl => match us, hl with | [_, _], _ => rfl, F.ok sc_dr (fun vs H Q E h => ?_) (fun cdv A outer s H vs Q E hr h => ?_)⟩
  · obtain ⟨_, _, _, _, _, rfl, _⟩ := h
    rfl
  · obtain ⟨m, c, g, B, l, rfl, hl, hl2, hM, q⟩ := h
    refine ⟨_, (pss_cons (ps_set (i := 2) sc_dr.nd rfl (Or.inl rfl) (pe_dget (hu_of hr) (pv 0) pe_str (fun _ _ => rfl)))
      (pss_cons (ps_dput (hu_of hr) (pv 0) pe_str (pe_op op_add (pv 2) pe_int) rfl)
      (pss_cons (ps_if (pt_cmpR (op_neD hr.units) (pe_dget (hu_of hr) (pv 0) pe_str (fun _ _ => rfl)) (pe_lst pa_nil) (nomark _)) (pss_cons (ps_set (i := 3) sc_dr.nd rfl (Or.inl rfl) (pe_dget (hu_of hr) (pv 0) pe_str (fun _ _ => rfl)))
      (pss_cons (ps_set (i := 4) sc_dr.nd rfl (Or.inl rfl) (pe_op op_modN (pe_callTy call_int1 (by rfl) T.int (by decide +kernel) (pa_cons (pv 2) pa_nil)) (pe_callB call_len_seq (by rfl) T.len PySem.boot_len (pa_cons (pv 3) pa_nil))))
      (pss_cons (ps_set (i := 5) sc_dr.nd rfl (Or.inl rfl) (pe_ix ix_list (pv 3) (pv 4) (fun _ _ => rfl)))
      (pss_one (ps_if (pt_cmpR op_gt (pv 5) pe_int (nomark _)) (pss_cons (ps_asg (pe_op op_fdivN (pv 5) (pv 1)) (pg_sub (pv 3) (pv 4) set_list))
      (pss_one (ps_ret (pe_op op_modN (pe_callTy call_int1 (by rfl) T.int (by decide +kernel) (pa_cons (pv 5) pa_nil)) (pv 1))))) pss_nil))))) pss_nil)
      (pss_cons (ps_set (i := 3) sc_dr.nd rfl (Or.inl rfl) (pe_dget (hu_of hr) (pv 0) pe_str (fun _ _ => rfl)))
      (pss_one (ps_ret (pe_op op_modN (pe_callTy call_int1 (by rfl) T.int (by decide +kernel) (pa_cons (pe_do DM hr pass0 (pa_cons (pe_do DM hr pass0 (pa_cons (pe_op op_add (pe_ix ix_list (pv 3) (pe_op op_modN (pe_callTy call_int1 (by rfl) T.int (by decide +kernel) (pa_cons (pv 2) pa_nil)) pe_int) (fun _ _ => rfl)) (pe_op op_mul pe_int (pe_op op_fdivN (pv 2) pe_int))) (pa_cons (pv 2) pa_nil))) (pa_cons (pe_op op_add (pv 2) pe_int) pa_nil))) pa_nil)) (pv 1)))))))), ?_⟩
    obtain ⟨hne, ⟨n, hn, hat⟩, hC, k, hk, gs, hg1, hg2⟩ := hM
    have hmc : m ≠ c := fun e => by obtain ⟨cs, _, e2⟩ := hC; rw [e, e2] at hat; cases hat
    have hmg : m ≠ g := fun e => by rw [e, hg2] at hat; cases hat
    refine ⟨_, rfl, m, _, rfl, dg_spot hat, _, rfl, _, _, rfl, rfl, _, rfl, m, _, rfl, DPut.k (k := .inr "spot") hat (by show 3 < sizeLine; unfold sizeLine; omega), ?_⟩
    rw [pk_spot]
    have at1 : upd H m (.dK (m3 c g (n + 1))) m = some (.dK (m3 c g ((n + 1 : Nat) : Int))) := upd_same
    have hC1 : IntsL (upd H m (.dK (m3 c g (n + 1)))) c 64 := by
      obtain ⟨cs, e1, e2⟩ := hC
      exact ⟨cs, e1, (upd_ne hmc.symm).trans e2⟩
    have hG1 : upd H m (.dK (m3 c g (n + 1))) g = some (.lst (gs.map V.int)) := (upd_ne hmg.symm).trans hg2
    have f1 : MFr m g H (upd H m (.dK (m3 c g (n + 1)))) := ⟨fun b o e n1 _ => (upd_ne n1).trans e⟩
    have M1 : MAt m c g B (upd H m (.dK (m3 c g (n + 1)))) := ⟨hne, ⟨n + 1, by omega, at1⟩, hC1, k, hk, gs, hg1, hG1⟩
    generalize hH1 : upd H m (.dK (m3 c g (n + 1))) = H1 at *
    refine ⟨_, rfl, m, _, rfl, dg_great at1, len_ok (by simp), fun p0 hp0 => ?_⟩
    have s2 : Same H1 (upd H1 p0 (.lst [])) := same_new hp0
    have M2 := M1.same s2
    have f2 := f1.trans (MFr.of s2)
    have at2 := s2 _ _ at1
    have hG2 := s2 _ _ hG1
    have hC2 := hC1.same s2
    generalize hH2 : upd H1 p0 (.lst []) = H2 at *
    have hp2 : H2 p0 = some (.lst []) := by rw [← hH2, upd_same]
    refine ⟨.list (gs.map .int), .list [], .lst (.inl (.inl hG2)) (dpAll_ints gs), .lst (.inl (.inl hp2)) .nil, shaped_ints gs, shaped_ints [], _, rfl, ?_⟩
    cases gs with
    | nil =>
      refine if_f rfl ?_
      obtain ⟨cs, e1, e2⟩ := hC2
      obtain ⟨j, hj, ej⟩ := fm64 (n : Int)
      obtain ⟨zz, hzz⟩ : ∃ zz, cs[j]? = some zz := ⟨_, List.getElem?_eq_getElem (by omega)⟩
      have e3 : atI (cs.map V.int) ((n : Int).fmod 64) = some (.int zz) := atI_int ej (by rw [List.getElem?_map, hzz]; rfl)
      refine ⟨_, rfl, m, _, rfl, dg_cells at2, _, rfl, _, rfl, .inl ⟨_, rfl, _, _, rfl, rfl, nz rfl, c, _, _, _, rfl, rfl, .inl (.inl e2), e3, ?_⟩⟩
      repeat (first | refine ⟨_, _, rfl, rfl, (by first | exact .inr ⟨by decide, by decide⟩ | exact .inl ⟨by decide, by decide⟩ | exact .inr ⟨by omega, by omega⟩ | exact .inl ⟨by omega, by omega⟩ | exact ⟨by decide, by decide⟩ | exact nz rfl), ?_⟩ | refine ⟨_, _, rfl, rfl, ?_⟩ | refine .inl ⟨_, rfl, ?_⟩ | refine ⟨_, rfl, ?_⟩)
      refine ⟨_, _, rfl, by omega, by omega, fun r1 => ?_⟩
      repeat (first | refine ⟨_, _, rfl, rfl, (by first | exact .inr ⟨by decide, by decide⟩ | exact .inl ⟨by decide, by decide⟩ | exact .inr ⟨by omega, by omega⟩ | exact .inl ⟨by omega, by omega⟩ | exact ⟨by decide, by decide⟩ | exact nz rfl), ?_⟩ | refine ⟨_, _, rfl, rfl, ?_⟩ | refine .inl ⟨_, rfl, ?_⟩ | refine ⟨_, rfl, ?_⟩)
      refine ⟨_, _, rfl, by omega, by omega, fun r2 => ?_⟩
      repeat (first | refine ⟨_, _, rfl, rfl, (by first | exact .inr ⟨by decide, by decide⟩ | exact .inl ⟨by decide, by decide⟩ | exact .inr ⟨by omega, by omega⟩ | exact .inl ⟨by omega, by omega⟩ | exact ⟨by decide, by decide⟩ | exact nz rfl), ?_⟩ | refine ⟨_, _, rfl, rfl, ?_⟩ | refine .inl ⟨_, rfl, ?_⟩ | refine ⟨_, rfl, ?_⟩)
      obtain ⟨r, hr, er⟩ := fm_nat r2 (k := (l : Int)) (by omega)
      refine ⟨show (l : Int) ≠ 0 by omega, ?_⟩
      show Q (.int (r2.fmod (l : Int))) H2
      rw [er]
      exact q r H2 (by omega) M2 f2
    | cons z gs =>
      refine if_t rfl ?_
      have lk : ((z :: gs).map V.int).length = k := by rw [List.length_map]; exact hg1
      have k0 : 0 < k := by rw [← hg1]; simp
      obtain ⟨j, hj, ej⟩ := fm_nat (n : Int) (k := (k : Int)) (by omega)
      obtain ⟨cell, hcell⟩ : ∃ cc, (z :: gs)[j]? = some cc := ⟨_, List.getElem?_eq_getElem (by omega)⟩
      have e1 : atI ((z :: gs).map V.int) ((n : Int).fmod (k : Int)) = some (.int cell) := atI_int ej (by rw [List.getElem?_map, hcell]; rfl)
      have e2 : ixN ((z :: gs).map V.int).length ((n : Int).fmod (k : Int)) = some j := ixN_int ej (by omega)
      refine ⟨_, rfl, m, _, rfl, dg_great at2, _, rfl, .inl ⟨_, rfl, _, rfl, g, _, rfl, .inl (.inl (.inl hG2)), ?_⟩⟩
      rw [lk]
      refine ⟨_, _, rfl, rfl, show (k : Int) ≠ 0 by omega, _, rfl, _, rfl, g, _, _, .int cell, rfl, rfl, .inl (.inl hG2), e1, _, rfl, _, _, rfl, rfl, _, rfl, ?_⟩
      by_cases hc0 : 0 < cell
      · refine if_t (decide_eq_true hc0) ?_
        obtain ⟨r, hr, er⟩ := fm_nat cell (k := (l : Int)) (by omega)
        refine ⟨_, rfl, _, rfl, _, _, rfl, rfl, ⟨by omega, by omega⟩, _, rfl, _, rfl, g, _, _, j, rfl, rfl, hG2, e2, ?_⟩
        refine ⟨_, rfl, .inl ⟨_, rfl, _, rfl, _, _, rfl, rfl, show (l : Int) ≠ 0 by omega, ?_⟩⟩
        show Q (.int (cell.fmod (l : Int))) _
        rw [er]
        refine q r _ (by omega) ⟨hne, ⟨n + 1, by omega, (upd_ne hmg).trans at2⟩, ?_, k, hk, (z :: gs).set j (cell.fdiv (l : Int)), by rw [List.length_set]; exact hg1, by rw [upd_same, ← List.map_set]⟩ (f2.trans ⟨fun b o e _ n2 => (upd_ne n2).trans e⟩)
        obtain ⟨cs, q1, q2⟩ := hC2
        exact ⟨cs, q1, (upd_ne hne).trans q2⟩
      · refine if_f (decide_eq_false hc0) ?_
        obtain ⟨cs, e1, e2⟩ := hC2
        obtain ⟨j, hj, ej⟩ := fm64 (n : Int)
        obtain ⟨zz, hzz⟩ : ∃ zz, cs[j]? = some zz := ⟨_, List.getElem?_eq_getElem (by omega)⟩
        have e3 : atI (cs.map V.int) ((n : Int).fmod 64) = some (.int zz) := atI_int ej (by rw [List.getElem?_map, hzz]; rfl)
        refine ⟨_, rfl, m, _, rfl, dg_cells at2, _, rfl, _, rfl, .inl ⟨_, rfl, _, _, rfl, rfl, nz rfl, c, _, _, _, rfl, rfl, .inl (.inl e2), e3, ?_⟩⟩
        repeat (first | refine ⟨_, _, rfl, rfl, (by first | exact .inr ⟨by decide, by decide⟩ | exact .inl ⟨by decide, by decide⟩ | exact .inr ⟨by omega, by omega⟩ | exact .inl ⟨by omega, by omega⟩ | exact ⟨by decide, by decide⟩ | exact nz rfl), ?_⟩ | refine ⟨_, _, rfl, rfl, ?_⟩ | refine .inl ⟨_, rfl, ?_⟩ | refine ⟨_, rfl, ?_⟩)
        refine ⟨_, _, rfl, by omega, by omega, fun r1 => ?_⟩
        repeat (first | refine ⟨_, _, rfl, rfl, (by first | exact .inr ⟨by decide, by decide⟩ | exact .inl ⟨by decide, by decide⟩ | exact .inr ⟨by omega, by omega⟩ | exact .inl ⟨by omega, by omega⟩ | exact ⟨by decide, by decide⟩ | exact nz rfl), ?_⟩ | refine ⟨_, _, rfl, rfl, ?_⟩ | refine .inl ⟨_, rfl, ?_⟩ | refine ⟨_, rfl, ?_⟩)
        refine ⟨_, _, rfl, by omega, by omega, fun r2 => ?_⟩
        repeat (first | refine ⟨_, _, rfl, rfl, (by first | exact .inr ⟨by decide, by decide⟩ | exact .inl ⟨by decide, by decide⟩ | exact .inr ⟨by omega, by omega⟩ | exact .inl ⟨by omega, by omega⟩ | exact ⟨by decide, by decide⟩ | exact nz rfl), ?_⟩ | refine ⟨_, _, rfl, rfl, ?_⟩ | refine .inl ⟨_, rfl, ?_⟩ | refine ⟨_, rfl, ?_⟩)
        obtain ⟨r, hr, er⟩ := fm_nat r2 (k := (l : Int)) (by omega)
        refine ⟨show (l : Int) ≠ 0 by omega, ?_⟩
        show Q (.int (r2.fmod (l : Int))) H2
        rw [er]
        exact q r H2 (by omega) M2 f2
/-! ### _law_begun -/
def spBegun (K : PySem.W.Frag) : Sp := fun vs H Q _ => ∃ a, ∃ ns : List Int, vs = [.ref a] ∧ SqL K H a (ns.map V.int) ∧ ns.length ≤ 63 ∧ ∀ m c g H', Same H H' → MAt m c g 1000000 H' → H m = none → H g = none → Q (.ref m) H'
theorem sc_be : FnScope ["script", "m", "cell"] ["script"] (defScope sBegun) := ⟨rfl, rfl, rfl, by decide +kernel, rfl, by decide +kernel, by decide +kernel⟩
theorem do_begun (T : Blt mg) (A : At K mg "_law_begun" sBegun) (DF : Does P w K mg base CX0 1 "_law_folded" ["script"] (spFolded K)) : Does P w K mg base CX0 2 "_law_begun" ["script"] (spBegun K) := by
  obtain ⟨f, fd, F, hm⟩ := A
  refine ⟨f, fd, hm, F.kp, F.binds fun _ _ _ _ _ _ us hl => match us, hl with | [_], _ => rfl, F.ok sc_be (fun vs H Q E h => ?_) (fun cdv A outer s H vs Q E hr h => ?_)⟩
  · obtain ⟨_, _, rfl, _⟩ := h
    rfl
  · obtain ⟨a, ns, rfl, ha, hl, q⟩ := h
    refine ⟨_, (pss_cons (ps_set (i := 1) sc_be.nd rfl (Or.inl rfl) (pe_disp (pps_cons pe_str (pe_do DF hr pass0 (pa_cons (pv 0) pa_nil)) (pps_cons pe_str (pe_lst pa_nil) (pps_cons pe_str pe_int pps_nil))) (by rfl) (by rfl) (by decide) (by decide)))
      (pss_cons (ps_dput (hu_of hr) (pv 1) pe_str (pe_lc (own := [("cell", 2)]) (g := (gName 2)) (tt := tYes) rfl sc_be.nd (pi_list (pv 0)) (blkOk_by (N := ["script", "m", "cell"]) (sc := defScope sBegun) (by decide +kernel)) (fun _ _ _ _ _ => (pg_name (i := 2) sc_be.nd rfl (Or.inl rfl))) (fun _ _ _ _ _ => pts_nil) (fun _ _ _ _ _ => (pe_ifExp (pt_cmpR op_ge (pv 2) (pe_op op_pow pe_int pe_int) (nomark _)) (pv 2) pe_int))) rfl)
      (pss_one (ps_ret (pv 1))))), ?_⟩
    intro p hp
    have s0 : Same H (upd H p (.dK [])) := same_new hp
    refine ⟨_, rfl, a, ns, rfl, sql_same s0 ha, hl, fun c H1 s1 hc hI => ⟨len_ok (by simp), fun g0 hg0 => ?_⟩⟩
    have s2 : Same H1 (upd H1 g0 (.lst [])) := same_new hg0
    refine ⟨s2 _ _ (s1 _ _ upd_same), m3 c g0 0, rfl, by show 3 ≤ 15; omega, ?_⟩
    have hp1 : (upd H1 g0 (.lst [])) p = some (.dK []) := s2 _ _ (s1 _ _ upd_same)
    have hpc : c ≠ p := fun e => by rw [e, upd_same] at hc; cases hc
    have s3 : Same H (upd (upd H1 g0 (.lst [])) p (.dK (mergeK [] (m3 c g0 0)))) := (s0.trans (s1.trans s2)).put hp
    have em : mergeK [] (m3 c g0 0) = m3 c g0 0 := rfl
    have hat : (upd (upd H1 g0 (.lst [])) p (.dK (mergeK [] (m3 c g0 0)))) p = some (.dK (m3 c g0 0)) := by rw [upd_same, em]
    have hI3 : IntsL (upd (upd H1 g0 (.lst [])) p (.dK (mergeK [] (m3 c g0 0)))) c 64 := by
      obtain ⟨cs, q1, q2⟩ := hI
      exact ⟨cs, q1, (upd_ne hpc).trans (s2 _ _ q2)⟩
    generalize hH3 : upd (upd H1 g0 (.lst [])) p (.dK (mergeK [] (m3 c g0 0))) = H3 at *
    have lns : (ns.map V.int).length = ns.length := List.length_map ..
    refine ⟨_, rfl, a, rfl, ⟨_, sql_same s3 ha⟩, fun D hD => lc_data (K := K) (walk_list (K := K) (a := a) (xs := ns.map V.int)) (ns.map fun (z : Int) => PyData.int (if 10 ^ 18 ≤ z then z else 0)) (by rw [List.length_map, List.length_map]) (small (by omega)) hD (fun H s => sql_same (s3.trans s) ha) (fun i x H4 H5 d R R' hd' s4 y hR => ?_) ?_ fun H4 vs s4 hv dv => ?_⟩
    · obtain ⟨rfl, hx⟩ := y
      rw [List.getElem?_map] at hx hd'
      cases hn : ns[i]? with
      | none => rw [hn] at hx; cases hx
      | some z =>
        rw [hn] at hx hd'
        cases hx
        cases hd'
        refine ⟨rfl, _, rfl, _, _, rfl, rfl, ⟨by decide, by decide, by decide⟩, _, _, rfl, rfl, _, rfl, ?_⟩
        by_cases hz : 10 ^ 18 ≤ z
        · refine if_t (decide_eq_true hz) ⟨_, rfl, hR _ _ (Same.refl _) ?_⟩
          show Dp K H5 (.int z) (.int (if 10 ^ 18 ≤ z then z else 0))
          rw [if_pos hz]
          exact .int _
        · refine if_f (decide_eq_false hz) (hR _ _ (Same.refl _) ?_)
          show Dp K H5 (.int 0) (.int (if 10 ^ 18 ≤ z then z else 0))
          rw [if_neg hz]
          exact .int _
    · rw [tupOnlyAll_iff]
      intro d hd
      obtain ⟨n, _, rfl⟩ := List.mem_map.mp hd
      rfl
    · obtain ⟨cs, e1, e2⟩ := ints_of dv
      have hDc : c ≠ D := fun e => by
        obtain ⟨_, _, q2⟩ := hI3
        rw [e, hD] at q2
        cases q2
      have hDp : D ≠ p := fun e => by rw [e, hat] at hD; cases hD
      refine ⟨_, rfl, p, _, rfl, DPut.k (k := .inr "great") (s4 _ _ hat) (by show 3 < sizeLine; unfold sizeLine; omega), ?_⟩
      rw [pk_great]
      refine ⟨_, rfl, q p c D _ ((s3.trans s4).put hp) ⟨hDc, ⟨0, by omega, upd_same⟩, ?_, ns.length, hl, cs, by rw [e2, List.length_map], (upd_ne hDp).trans (by rw [hv, e1])⟩ hp (s3.free hD)⟩
      obtain ⟨cs2, q1, q2⟩ := hI3
      exact ⟨cs2, q1, (upd_ne hpc).trans (s4 _ _ q2)⟩
/-! ### _law_of -/
def spOf (K : PySem.W.Frag) : Sp := fun vs H Q _ => ∃ m c g b a, ∃ xs : List V, vs = [.ref m, .ref a] ∧ MAt m c g (b + 1) H ∧ ((SqL K H a xs ∧ H a = some (.lst xs) ∧ a ≠ g) ∨ SqT K H a xs) ∧ 0 < xs.length ∧ xs.length ≤ 1000 ∧
  ∀ (i : Nat) (x : V) H', xs[i]? = some x → MAt m c g b H' → MFr m g H H' → Q x H'
theorem sc_of : FnScope ["m", "some"] ["m", "some"] (defScope sOf) := ⟨rfl, rfl, rfl, by decide +kernel, rfl, by decide +kernel, by decide +kernel⟩
theorem do_of (T : Blt mg) (A : At K mg "_law_of" sOf) (DD : Does P w K mg base CX0 2 "_law_draw" ["m", "limit"] spDraw) : Does P w K mg base CX0 3 "_law_of" ["m", "some"] (spOf K) := by
  obtain ⟨f, fd, F, hm⟩ := A
  refine ⟨f, fd, hm, F.kp, F.binds fun _ _ _ _ _ _ us hl => match us, hl with | [_, _], _ => rfl, F.ok sc_of (fun vs H Q E h => ?_) (fun cdv A outer s H vs Q E hr h => ?_)⟩
  · obtain ⟨_, _, _, _, _, _, rfl, _⟩ := h
    rfl
  · obtain ⟨m, c, g, B, a, xs, rfl, hM, ha, hx, hx2, q⟩ := h
    refine ⟨_, (pss_one (ps_ret (pe_ix ix_seq (pv 1) (pe_do DD hr pass0 (pa_cons (pv 0) (pa_cons (pe_callB call_len_seq (by rfl) T.len PySem.boot_len (pa_cons (pv 1) pa_nil)) pa_nil))) (fun _ _ => rfl)))), ?_⟩
    have hlen : SqL K H a xs ∨ SqT K H a xs := by
      rcases ha with h | h
      · exact .inl h.1
      · exact .inr h
    refine ⟨_, rfl, _, rfl, _, rfl, a, xs, rfl, hlen, m, c, g, B, xs.length, rfl, hx, hx2, hM, fun r H' hr M' f' => ?_⟩
    obtain ⟨x, hxr⟩ : ∃ x, xs[r]? = some x := ⟨_, List.getElem?_eq_getElem hr⟩
    have q1 := q r x H' hxr M' f'
    rcases ha with ⟨h, h2, h3⟩ | h
    · have ham : a ≠ m := fun e => by
        obtain ⟨_, ⟨_, _, hh⟩, _⟩ := hM
        rw [e, hh] at h2
        cases h2
      exact .inl ⟨a, xs, _, x, rfl, rfl, .inl (.inl (f'.at_ _ _ h2 ham h3)), atI_nat hxr, q1⟩
    · exact .inr (.inl ⟨a, xs, _, x, rfl, rfl, (hM.tups f').seq h, atI_nat hxr, q1⟩)
/-! ### _law_way -/
def spLWay (K : PySem.W.Frag) : Sp := fun vs H Q _ => ∃ m c g b, ∃ nb wd : Nat, vs = [.ref m, .int (nb : Nat), .int (wd : Nat)] ∧ 0 < nb ∧ nb ≤ 1000 ∧ wd ≤ 1000 ∧ MAt m c g (b + 5) H ∧ ∀ y d H', WayOk nb wd d → Dp K H' y d → MAt m c g b H' → MFr m g H H' → Q y H'
theorem sc_lw : FnScope ["m", "bodies", "wards", "kind"] ["m", "bodies", "wards"] (defScope sLWay) := ⟨rfl, rfl, rfl, by decide +kernel, rfl, by decide +kernel, by decide +kernel⟩
theorem do_lway (T : Blt mg) (A : At K mg "_law_way" sLWay) (DD : Does P w K mg base CX0 3 "_law_draw" ["m", "limit"] spDraw) (DO : Does P w K mg base CX0 3 "_law_of" ["m", "some"] (spOf K)) : Does P w K mg base CX0 4 "_law_way" ["m", "bodies", "wards"] (spLWay K) := by
  obtain ⟨f, fd, F, hm⟩ := A
  refine ⟨f, fd, hm, F.kp, F.binds fun _ _ _ _ _ _ us hl => match us, hl with | [_, _, _], _ => rfl, F.ok sc_lw (fun vs H Q E h => ?_) (fun cdv A outer s H vs Q E hr h => ?_)⟩
  · obtain ⟨_, _, _, _, _, _, rfl, _⟩ := h
    rfl
  · obtain ⟨m, c, g, B, nb, wd, rfl, hnb, hnb2, hwd, hM, q⟩ := h
    refine ⟨_, (pss_cons (ps_set (i := 3) sc_lw.nd rfl (Or.inl rfl) (pe_do DD hr pass0 (pa_cons (pv 0) (pa_cons pe_int pa_nil))))
      (pss_cons (ps_if (PW.pt (pw_and (pt_cmpR op_eq (pv 3) pe_int (nomark _)) (pw_and1 (pt_cmpR op_gt (pv 2) pe_int (nomark _))))) (pss_one (ps_ret (pe_tup (pa_cons pe_str (pa_cons (pe_do DD hr pass0 (pa_cons (pv 0) (pa_cons (pv 2) pa_nil))) pa_nil))))) pss_nil)
      (pss_cons (ps_if (pt_cmpR op_lt (pv 3) pe_int (nomark _)) (pss_one (ps_ret (pe_tup (pa_cons (pe_ix ix_list (pe_lst (pa_cons pe_str (pa_cons pe_str pa_nil))) (pe_do DD hr pass0 (pa_cons (pv 0) (pa_cons pe_int pa_nil))) (fun _ _ => rfl)) (pa_cons (pe_do DD hr pass0 (pa_cons (pv 0) (pa_cons (pv 1) pa_nil))) (pa_cons (pe_do DO hr pass0 (pa_cons (pv 0) (pa_cons (pe_lst (pa_cons pe_str (pa_cons pe_str (pa_cons pe_str pa_nil)))) pa_nil))) pa_nil)))))) pss_nil)
      (pss_one (ps_ret (pe_ifExp (PW.pt (pw_or (pt_cmpR op_eq (pe_do DD hr pass0 (pa_cons (pv 0) (pa_cons pe_int pa_nil))) pe_int (nomark _)) (pw_or1 (pt_cmpR op_eq (pv 2) pe_int (nomark _))))) (pe_tup (pa_cons pe_str pa_nil)) (pe_tup (pa_cons pe_str (pa_cons (pe_do DD hr pass0 (pa_cons (pv 0) (pa_cons (pv 2) pa_nil))) pa_nil))))))))), ?_⟩
    refine ⟨_, rfl, m, c, g, B + 4, 4, rfl, by omega, by omega, hM, fun kind H1 hk M1 f1 => ?_⟩
    refine ⟨_, rfl, rfl, _, rfl, ?_⟩
    by_cases hk0 : kind = 0
    · refine if_t (by rw [hk0]; rfl) ?_
      refine ⟨_, rfl, _, _, rfl, rfl, _, rfl, ?_⟩
      by_cases hw : 0 < wd
      · refine if_t (decide_eq_true (by omega)) ?_
        refine ⟨_, rfl, _, rfl, m, c, g, B + 3, wd, rfl, hw, hwd, M1, fun r2 H3 hr2 M3 f3 => ?_⟩
        refine ⟨len_ok (by simp), fun p hp => ?_⟩
        have s5 := same_new (o := .tup [.str "ward", .int (r2 : Nat)]) hp
        exact q _ _ _ (.ward r2 hr2) (.tup (seqT_of upd_same) (.cons (.str _) (.cons (.int _) .nil))) ((M3.mono (by omega)).same s5) (f1.trans (f3.trans (MFr.of s5)))
      · refine if_f (decide_eq_false (by omega)) ?_
        refine ⟨_, rfl, _, _, rfl, rfl, _, rfl, ?_⟩
        by_cases hk3 : kind < 3
        · refine if_t (decide_eq_true (by omega)) ?_
          refine ⟨len_ok (by simp), fun l1 hl1 => ?_⟩
          have s1 := same_new (o := .lst [.str "body", .str "rest"]) hl1
          obtain ⟨n1, n2⟩ := M1.fresh hl1
          refine ⟨_, rfl, m, c, g, B + 3, 2, rfl, by omega, by omega, M1.same s1, fun r H2 hr M2 f2 => ?_⟩
          have e1 := f2.at_ _ _ upd_same n1 n2
          have fA := f1.trans ((MFr.of s1).trans f2)
          have word : ∃ z : Str, atI [V.str "body", V.str "rest"] ((r : Nat) : Int) = some (.str z) ∧ (z = "body" ∨ z = "rest") := by
            cases r with
            | zero => exact ⟨_, atI_nat rfl, .inl rfl⟩
            | succ r =>
              cases r with
              | zero => exact ⟨_, atI_nat rfl, .inr rfl⟩
              | succ r => omega
          obtain ⟨z, hz, hz2⟩ := word
          refine ⟨l1, _, _, _, rfl, rfl, .inl (.inl e1), hz, ?_⟩
          refine ⟨_, rfl, _, rfl, m, c, g, B + 2, nb, rfl, hnb, hnb2, M2, fun r2 H3 hr2 M3 f3 => ?_⟩
          refine ⟨_, rfl, len_ok (by simp), fun l2 hl2 => ?_⟩
          have s3 := same_new (o := .lst [.str "a", .str "b", .str "kept"]) hl2
          obtain ⟨n3, n4⟩ := M3.fresh hl2
          refine ⟨m, c, g, B + 1, l2, _, rfl, M3.same s3, .inl ⟨.inl (.inl upd_same), upd_same, n4⟩, by simp, by simp, fun i x H4 hx M4 f4 => ?_⟩
          have hx3 : ∃ t : Str, x = .str t ∧ (t = "a" ∨ t = "b" ∨ t = "kept") := by
            cases i with
            | zero => cases hx; exact ⟨_, rfl, .inl rfl⟩
            | succ i =>
              cases i with
              | zero => cases hx; exact ⟨_, rfl, .inr (.inl rfl)⟩
              | succ i =>
                cases i with
                | zero => cases hx; exact ⟨_, rfl, .inr (.inr rfl)⟩
                | succ i => cases hx
          obtain ⟨t, rfl, ht⟩ := hx3
          refine ⟨len_ok (by simp), fun p hp => ?_⟩
          have s5 := same_new (o := .tup [.str z, .int (r2 : Nat), .str t]) hp
          refine q _ (.tuple [.str z, .int (r2 : Nat), .str t]) _ ?_ (.tup (seqT_of upd_same) (.cons (.str _) (.cons (.int _) (.cons (.str _) .nil)))) ((M4.mono (by omega)).same s5) (fA.trans (f3.trans ((MFr.of s3).trans (f4.trans (MFr.of s5)))))
          rcases hz2 with rfl | rfl
          · exact .body r2 t hr2 ht
          · exact .rest r2 t hr2 ht
        · refine if_f (decide_eq_false (by omega)) ?_
          refine ⟨_, rfl, m, c, g, B + 3, 3, rfl, by omega, by omega, M1, fun r H2 hr M2 f2 => ⟨rfl, _, rfl, ?_⟩⟩
          by_cases hr0 : r = 0
          · refine if_t (by rw [hr0]; rfl) ?_
            refine ⟨len_ok (by simp), fun p hp => ?_⟩
            have s5 := same_new (o := .tup [.str "kept"]) hp
            exact q _ _ _ .kept (.tup (seqT_of upd_same) (.cons (.str _) .nil)) ((M2.mono (by omega)).same s5) (f1.trans (f2.trans (MFr.of s5)))
          · refine if_f (by rw [decide_eq_false (fun e => hr0 (by injection e with e; omega))]) ?_
            refine ⟨_, rfl, rfl, _, rfl, ?_⟩
            by_cases hw0 : wd = 0
            · refine if_t (by rw [hw0]; rfl) ?_
              refine ⟨len_ok (by simp), fun p hp => ?_⟩
              have s5 := same_new (o := .tup [.str "kept"]) hp
              exact q _ _ _ .kept (.tup (seqT_of upd_same) (.cons (.str _) .nil)) ((M2.mono (by omega)).same s5) (f1.trans (f2.trans (MFr.of s5)))
            · refine if_f (by rw [decide_eq_false (fun e => hw0 (by injection e with e; omega))]) ?_
              refine ⟨_, rfl, _, rfl, m, c, g, B + 2, wd, rfl, by omega, hwd, M2, fun r2 H3 hr2 M3 f3 => ?_⟩
              refine ⟨len_ok (by simp), fun p hp => ?_⟩
              have s5 := same_new (o := .tup [.str "ward", .int (r2 : Nat)]) hp
              exact q _ _ _ (.ward r2 hr2) (.tup (seqT_of upd_same) (.cons (.str _) (.cons (.int _) .nil))) ((M3.mono (by omega)).same s5) (f1.trans (f2.trans (f3.trans (MFr.of s5))))
    · refine if_f (by rw [decide_eq_false (fun e => hk0 (by injection e with e; omega))]) ?_
      refine ⟨_, rfl, _, _, rfl, rfl, _, rfl, ?_⟩
      by_cases hk3 : kind < 3
      · refine if_t (decide_eq_true (by omega)) ?_
        refine ⟨len_ok (by simp), fun l1 hl1 => ?_⟩
        have s1 := same_new (o := .lst [.str "body", .str "rest"]) hl1
        obtain ⟨n1, n2⟩ := M1.fresh hl1
        refine ⟨_, rfl, m, c, g, B + 3, 2, rfl, by omega, by omega, M1.same s1, fun r H2 hr M2 f2 => ?_⟩
        have e1 := f2.at_ _ _ upd_same n1 n2
        have fA := f1.trans ((MFr.of s1).trans f2)
        have word : ∃ z : Str, atI [V.str "body", V.str "rest"] ((r : Nat) : Int) = some (.str z) ∧ (z = "body" ∨ z = "rest") := by
          cases r with
          | zero => exact ⟨_, atI_nat rfl, .inl rfl⟩
          | succ r =>
            cases r with
            | zero => exact ⟨_, atI_nat rfl, .inr rfl⟩
            | succ r => omega
        obtain ⟨z, hz, hz2⟩ := word
        refine ⟨l1, _, _, _, rfl, rfl, .inl (.inl e1), hz, ?_⟩
        refine ⟨_, rfl, _, rfl, m, c, g, B + 2, nb, rfl, hnb, hnb2, M2, fun r2 H3 hr2 M3 f3 => ?_⟩
        refine ⟨_, rfl, len_ok (by simp), fun l2 hl2 => ?_⟩
        have s3 := same_new (o := .lst [.str "a", .str "b", .str "kept"]) hl2
        obtain ⟨n3, n4⟩ := M3.fresh hl2
        refine ⟨m, c, g, B + 1, l2, _, rfl, M3.same s3, .inl ⟨.inl (.inl upd_same), upd_same, n4⟩, by simp, by simp, fun i x H4 hx M4 f4 => ?_⟩
        have hx3 : ∃ t : Str, x = .str t ∧ (t = "a" ∨ t = "b" ∨ t = "kept") := by
          cases i with
          | zero => cases hx; exact ⟨_, rfl, .inl rfl⟩
          | succ i =>
            cases i with
            | zero => cases hx; exact ⟨_, rfl, .inr (.inl rfl)⟩
            | succ i =>
              cases i with
              | zero => cases hx; exact ⟨_, rfl, .inr (.inr rfl)⟩
              | succ i => cases hx
        obtain ⟨t, rfl, ht⟩ := hx3
        refine ⟨len_ok (by simp), fun p hp => ?_⟩
        have s5 := same_new (o := .tup [.str z, .int (r2 : Nat), .str t]) hp
        refine q _ (.tuple [.str z, .int (r2 : Nat), .str t]) _ ?_ (.tup (seqT_of upd_same) (.cons (.str _) (.cons (.int _) (.cons (.str _) .nil)))) ((M4.mono (by omega)).same s5) (fA.trans (f3.trans ((MFr.of s3).trans (f4.trans (MFr.of s5)))))
        rcases hz2 with rfl | rfl
        · exact .body r2 t hr2 ht
        · exact .rest r2 t hr2 ht
      · refine if_f (decide_eq_false (by omega)) ?_
        refine ⟨_, rfl, m, c, g, B + 3, 3, rfl, by omega, by omega, M1, fun r H2 hr M2 f2 => ⟨rfl, _, rfl, ?_⟩⟩
        by_cases hr0 : r = 0
        · refine if_t (by rw [hr0]; rfl) ?_
          refine ⟨len_ok (by simp), fun p hp => ?_⟩
          have s5 := same_new (o := .tup [.str "kept"]) hp
          exact q _ _ _ .kept (.tup (seqT_of upd_same) (.cons (.str _) .nil)) ((M2.mono (by omega)).same s5) (f1.trans (f2.trans (MFr.of s5)))
        · refine if_f (by rw [decide_eq_false (fun e => hr0 (by injection e with e; omega))]) ?_
          refine ⟨_, rfl, rfl, _, rfl, ?_⟩
          by_cases hw0 : wd = 0
          · refine if_t (by rw [hw0]; rfl) ?_
            refine ⟨len_ok (by simp), fun p hp => ?_⟩
            have s5 := same_new (o := .tup [.str "kept"]) hp
            exact q _ _ _ .kept (.tup (seqT_of upd_same) (.cons (.str _) .nil)) ((M2.mono (by omega)).same s5) (f1.trans (f2.trans (MFr.of s5)))
          · refine if_f (by rw [decide_eq_false (fun e => hw0 (by injection e with e; omega))]) ?_
            refine ⟨_, rfl, _, rfl, m, c, g, B + 2, wd, rfl, by omega, hwd, M2, fun r2 H3 hr2 M3 f3 => ?_⟩
            refine ⟨len_ok (by simp), fun p hp => ?_⟩
            have s5 := same_new (o := .tup [.str "ward", .int (r2 : Nat)]) hp
            exact q _ _ _ (.ward r2 hr2) (.tup (seqT_of upd_same) (.cons (.str _) (.cons (.int _) .nil))) ((M3.mono (by omega)).same s5) (f1.trans (f2.trans (f3.trans (MFr.of s5))))

/-! ### _law_seat -/
def spLSeat (K : PySem.W.Frag) : Sp := fun vs H Q _ => ∃ m c g b a ts, ∃ nb wd : Nat, vs = [.ref m, .ref a, .int (nb : Nat), .int (wd : Nat)] ∧ 0 < nb ∧ nb ≤ 1000 ∧ wd ≤ 1000 ∧ SqT K H a (nats ts) ∧ ts ≠ [] ∧ ts.length ≤ 1000 ∧ (∀ t ∈ ts, 1 ≤ t ∧ t ≤ 6) ∧ MAt m c g (b + 7) H ∧
  ∀ y s H', SeatOk nb wd s → s.t ∈ ts → Dp K H' y (seatD s) → MAt m c g b H' → MFr m g H H' → Q y H'
theorem sc_ls : FnScope ["m", "terms", "bodies", "wards", "term"] ["m", "terms", "bodies", "wards"] (defScope sLSeat) := ⟨rfl, rfl, rfl, by decide +kernel, rfl, by decide +kernel, by decide +kernel⟩
theorem do_lseat (T : Blt mg) (A : At K mg "_law_seat" sLSeat) (DD : Does P w K mg base CX0 4 "_law_draw" ["m", "limit"] spDraw) (DO : Does P w K mg base CX0 4 "_law_of" ["m", "some"] (spOf K)) (DW : Does P w K mg base CX0 4 "_law_way" ["m", "bodies", "wards"] (spLWay K)) :
    Does P w K mg base CX0 5 "_law_seat" ["m", "terms", "bodies", "wards"] (spLSeat K) := by
  obtain ⟨f, fd, F, hm⟩ := A
  refine ⟨f, fd, hm, F.kp, F.binds fun _ _ _ _ _ _ us hl => match us, hl with | [_, _, _, _], _ => rfl, F.ok sc_ls (fun vs H Q E h => ?_) (fun cdv A outer s H vs Q E hr h => ?_)⟩
  · obtain ⟨_, _, _, _, _, _, _, _, rfl, _⟩ := h
    rfl
  · obtain ⟨m, c, g, B, a, ts, nb, wd, rfl, hnb, hnb2, hwd, ha, hne, hts, ht, hM, q⟩ := h
    refine ⟨_, (pss_cons (ps_set (i := 4) sc_ls.nd rfl (Or.inl rfl) (pe_do DO hr pass0 (pa_cons (pv 0) (pa_cons (pv 1) pa_nil))))
      (pss_one (ps_ret (pe_tup (pa_cons (pv 4) (pa_cons (pe_do DD hr pass0 (pa_cons (pv 0) (pa_cons (pv 4) pa_nil))) (pa_cons (pe_do DW hr pass0 (pa_cons (pv 0) (pa_cons (pv 2) (pa_cons (pv 3) pa_nil)))) pa_nil))))))), ?_⟩
    have hn0 : 0 < (nats ts).length := by rw [nats_len]; exact List.length_pos_iff.mpr hne
    refine ⟨_, rfl, _, rfl, m, c, g, B + 6, a, nats ts, rfl, hM, .inr ha, hn0, by rw [nats_len]; exact hts, fun i x H1 hx M1 f1 => ?_⟩
    rw [nats_get] at hx
    cases hi : ts[i]? with
    | none => rw [hi] at hx; cases hx
    | some t =>
      rw [hi] at hx
      cases hx
      have hmem := List.mem_of_getElem? hi
      obtain ⟨t1, t6⟩ := ht t hmem
      refine ⟨_, rfl, _, rfl, _, rfl, m, c, g, B + 5, t, rfl, t1, by omega, M1, fun p H2 hp M2 f2 => ?_⟩
      refine ⟨_, rfl, _, rfl, _, rfl, m, c, g, B, nb, wd, rfl, hnb, hnb2, hwd, M2, fun y d H3 hw hy M3 f3 => ?_⟩
      refine ⟨len_ok (by simp), fun p0 hp0 => ?_⟩
      have s4 := same_new (o := .tup [.int (t : Nat), .int (p : Nat), y]) hp0
      exact q _ ⟨t, p, d⟩ _ ⟨t1, t6, hp, hw⟩ hmem (.tup (seqT_of upd_same) (.cons (.int _) (.cons (.int _) (.cons (dp_same s4 hy) .nil)))) (M3.same s4) (f1.trans (f2.trans (f3.trans (MFr.of s4))))
/-! ### _law_house -/
structure HouseL (h : House) : Prop where
  ok : HouseOk h
  b2 : h.bodies.length ≤ 2
  s3 : ∀ b ∈ h.bodies, b.length ≤ 3
def TT : List (List Nat) := [[1, 2], [1, 2, 4], [2, 3, 6], [1, 3, 4], [6, 4], [5]]
theorem tt_ok {ts : List Nat} (h : ts ∈ TT) : ts ≠ [] ∧ ts.length ≤ 1000 ∧ (∀ t ∈ ts, 1 ≤ t ∧ t ≤ 6) ∧ ∃ n, 0 < n ∧ n ≤ 12 ∧ ∀ t ∈ ts, t ∣ n := by
  simp only [TT, List.mem_cons, List.not_mem_nil, or_false] at h
  rcases h with rfl | rfl | rfl | rfl | rfl | rfl
  · exact ⟨by decide, by decide, by decide, 2, by decide, by decide, by decide⟩
  · exact ⟨by decide, by decide, by decide, 4, by decide, by decide, by decide⟩
  · exact ⟨by decide, by decide, by decide, 6, by decide, by decide, by decide⟩
  · exact ⟨by decide, by decide, by decide, 12, by decide, by decide, by decide⟩
  · exact ⟨by decide, by decide, by decide, 12, by decide, by decide, by decide⟩
  · exact ⟨by decide, by decide, by decide, 5, by decide, by decide, by decide⟩
theorem MAt.upd {m c g b D : Nat} {H : Hp} {o : HO} (M : MAt m c g b H) (h1 : D ≠ m) (h2 : D ≠ c) (h3 : D ≠ g) : MAt m c g b (upd H D o) := by
  obtain ⟨e1, ⟨n, e2, e3⟩, ⟨cs, e4, e5⟩, k, e6, gs, e7, e8⟩ := M
  exact ⟨e1, ⟨n, e2, (upd_ne h1.symm).trans e3⟩, ⟨cs, e4, (upd_ne h2.symm).trans e5⟩, k, e6, gs, e7, (upd_ne h3.symm).trans e8⟩
theorem MAt.freshC {m c g b l : Nat} {H : Hp} (M : MAt m c g b H) (h : H l = none) : l ≠ c := by
  obtain ⟨_, _, ⟨_, _, h6⟩, _⟩ := M
  exact fun e => by rw [e, h6] at h; (cases h)
theorem MFr.put {m g D : Addr} {H H1 : Hp} {o : HO} (f : MFr m g H H1) (h : H D = none) : MFr m g H (upd H1 D o) :=
  ⟨fun b o' e n1 n2 => by rw [upd_ne (ne_of_none e h)]; exact f.at_ b o' e n1 n2⟩
structure BodL (nb wd : Nat) (ts : List Nat) (b : Body) : Prop where
  s1 : 1 ≤ b.length
  s3 : b.length ≤ 3
  ok : ∀ s ∈ b, SeatOk nb wd s ∧ s.t ∈ ts
theorem houseL_of {nb wd : Nat} {ts : List Nat} {bs : List Body} (hts : ts ∈ TT) (h1 : 1 ≤ nb) (h2 : nb ≤ 2) (hw : wd ≤ 4) (hl : bs.length = nb) (hb : ∀ b ∈ bs, BodL nb wd ts b) : HouseL ⟨bs, wd⟩ := by
  obtain ⟨_, _, _, n, n0, n12, hn⟩ := tt_ok hts
  refine ⟨⟨by simp only; omega, by simp only; omega, fun b h => ⟨(hb b h).s1, by have := (hb b h).s3; omega⟩, ?_, hw, fun b h s hs => by simp only; rw [hl]; exact ((hb b h).ok s hs).1, ?_⟩, by simp only; omega, fun b h => (hb b h).s3⟩
  · show (bs.map List.length).sum ≤ 9
    match bs, hl, hb with
    | [], _, _ => simp
    | [b], _, hb => have := (hb b (by simp)).s3; simp; omega
    | [b, b'], _, hb => have := (hb b (by simp)).s3; have := (hb b' (by simp)).s3; simp; omega
    | _ :: _ :: _ :: _, hl, _ => simp at hl; omega
  · refine Nat.le_trans (rnd_le_of n0 fun t ht => ?_) n12
    unfold terms at ht
    obtain ⟨b, hb1, ht⟩ := List.mem_flatMap.mp ht
    obtain ⟨s, hs, rfl⟩ := List.mem_map.mp ht
    exact hn _ ((hb b hb1).ok s hs).2
def spLHouse (K : PySem.W.Frag) : Sp := fun vs H Q _ => ∃ m c g b, vs = [.ref m, .int 2, .int 3] ∧ MAt m c g (b + 50) H ∧ ∀ y h H', HouseL h → Dp K H' y (houseD h) → MAt m c g b H' → MFr m g H H' → Q y H'
theorem sc_lh : FnScope ["m", "most", "wide", "bodies", "wards", "terms", "found", "k", "some", "spot"] ["m", "most", "wide"] (defScope sLHouse) := ⟨rfl, rfl, rfl, by decide +kernel, rfl, by decide +kernel, by decide +kernel⟩
theorem do_lhouse (T : Blt mg) (A : At K mg "_law_house" sLHouse) (DD : Does P w K mg base CX0 5 "_law_draw" ["m", "limit"] spDraw) (DO : Does P w K mg base CX0 5 "_law_of" ["m", "some"] (spOf K)) (DS : Does P w K mg base CX0 5 "_law_seat" ["m", "terms", "bodies", "wards"] (spLSeat K)) :
    Does P w K mg base CX0 6 "_law_house" ["m", "most", "wide"] (spLHouse K) := by
  obtain ⟨f, fd, F, hm⟩ := A
  refine ⟨f, fd, hm, F.kp, F.binds fun _ _ _ _ _ _ us hl => match us, hl with | [_, _, _], _ => rfl, F.ok sc_lh (fun vs H Q E h => ?_) (fun cdv A outer s H vs Q E hr h => ?_)⟩
  · obtain ⟨_, _, _, _, rfl, _⟩ := h
    rfl
  · obtain ⟨m, c, g, B, rfl, hM, q⟩ := h
    refine ⟨_, (pss_cons (ps_asg (pe_tup (pa_cons (pe_op op_add pe_int (pe_do DD hr pass0 (pa_cons (pv 0) (pa_cons (pv 1) pa_nil)))) (pa_cons (pe_do DD hr pass0 (pa_cons (pv 0) (pa_cons pe_int pa_nil))) pa_nil))) (pg_tup (by rfl) (pgs_cons (pg_name (i := 3) sc_lh.nd rfl (Or.inr rfl)) (pgs_cons (pg_name (i := 4) sc_lh.nd rfl (Or.inr rfl)) pgs_nil))))
      (pss_cons (ps_set (i := 5) sc_lh.nd rfl (Or.inr rfl) (pe_do DO hr pass0 (pa_cons (pv 0) (pa_cons (pe_lst (pa_cons (pe_tup (pa_cons pe_int (pa_cons pe_int pa_nil))) (pa_cons (pe_tup (pa_cons pe_int (pa_cons pe_int (pa_cons pe_int pa_nil)))) (pa_cons (pe_tup (pa_cons pe_int (pa_cons pe_int (pa_cons pe_int pa_nil)))) (pa_cons (pe_tup (pa_cons pe_int (pa_cons pe_int (pa_cons pe_int pa_nil)))) (pa_cons (pe_tup (pa_cons pe_int (pa_cons pe_int pa_nil))) (pa_cons (pe_tup (pa_cons pe_int pa_nil)) pa_nil))))))) pa_nil))))
      (pss_cons (ps_set (i := 6) sc_lh.nd rfl (Or.inl rfl) (pe_lst pa_nil))
      (pss_cons (ps_for PassesOwn.never rfl (pi_range1 rfl T.range (pa_cons (pv 3) pa_nil)) (pg_name (i := 7) sc_lh.nd rfl (Or.inl rfl)) (pss_cons (ps_setLc (i := 8) (own := [("spot", 9)]) (g := (gName 9)) (tt := tYes) rfl sc_lh.nd rfl rfl (sw_true rfl rfl rfl (by decide +kernel)) (pi_range1 rfl T.range (pa_cons (pe_op op_add pe_int (pe_do DD hr pass0 (pa_cons (pv 0) (pa_cons (pv 2) pa_nil)))) pa_nil)) (blkOk_by (N := ["m", "most", "wide", "bodies", "wards", "terms", "found", "k", "some", "spot"]) (sc := defScope sLHouse) (by decide +kernel)) (fun _ _ _ _ _ => (pg_name (i := 9) sc_lh.nd rfl (Or.inl rfl))) (fun _ _ _ _ _ => pts_nil) (fun _ _ _ _ _ => (pe_do DS hr pass0 (pa_cons (pv 0) (pa_cons (pv 5) (pa_cons (pv 3) (pa_cons (pv 4) pa_nil)))))))
      (pss_one (ps_expr (pe_bm PySem.F.plainAttrs_list PySem.F.slot_list_append PySem.F.type_list_append mt_append (pv 6) (pa_cons (pe_callTy call_tuple_of (by rfl) T.tuple (by decide +kernel) (pa_cons (pv 8) pa_nil)) pa_nil))))))
      (pss_one (ps_ret (pe_tup (pa_cons (pe_callTy call_tuple_of (by rfl) T.tuple (by decide +kernel) (pa_cons (pv 6) pa_nil)) (pa_cons (pv 4) pa_nil))))))))), ?_⟩
    refine ⟨_, rfl, _, rfl, m, c, g, B + 49, 2, rfl, by omega, by omega, hM, fun r0 H1 hr0 M1 f1 => ?_⟩
    refine ⟨_, _, rfl, rfl, _, rfl, m, c, g, B + 48, 4, rfl, by omega, by omega, M1, fun wd H2 hwd M2 f2 => ?_⟩
    refine ⟨len_ok (by simp), fun p0 hp0 => ?_⟩
    have s3 := same_new (o := .tup [.int (1 + (r0 : Int)), .int (wd : Nat)]) hp0
    refine ⟨p0, _, rfl, seqT_of upd_same, rfl, _, _, rfl, _, _, rfl, rfl, ?_⟩
    have M3 := M2.same s3
    have f3 := f1.trans (f2.trans (MFr.of s3))
    generalize hH3 : upd H2 p0 (.tup [.int (1 + (r0 : Int)), .int (wd : Nat)]) = H3 at *
    refine ⟨_, rfl, len_ok (by simp), fun p1 hp1 => ?_⟩
    refine ⟨len_ok (by simp), fun p2 hp2 => ?_⟩
    refine ⟨len_ok (by simp), fun p3 hp3 => ?_⟩
    refine ⟨len_ok (by simp), fun p4 hp4 => ?_⟩
    refine ⟨len_ok (by simp), fun p5 hp5 => ?_⟩
    refine ⟨len_ok (by simp), fun p6 hp6 => ?_⟩
    have t1 := same_new (o := .tup [.int 1, .int 2]) hp1
    have t2 := same_new (o := .tup [.int 1, .int 2, .int 4]) hp2
    have t3 := same_new (o := .tup [.int 2, .int 3, .int 6]) hp3
    have t4 := same_new (o := .tup [.int 1, .int 3, .int 4]) hp4
    have t5 := same_new (o := .tup [.int 6, .int 4]) hp5
    have t6 := same_new (o := .tup [.int 5]) hp6
    refine ⟨len_ok (by simp), fun lp hlp => ?_⟩
    have tl := same_new (o := .lst [.ref p1, .ref p2, .ref p3, .ref p4, .ref p5, .ref p6]) hlp
    have u6 := tl
    have u5 := t6.trans u6
    have u4 := t5.trans u5
    have u3 := t4.trans u4
    have u2 := t3.trans u3
    have u1 := t2.trans u2
    have u0 := t1.trans u1
    have g1 := u1.seqT (seqT_of (K := K) (p := p1) (xs := nats [1, 2]) upd_same)
    have g2 := u2.seqT (seqT_of (K := K) (p := p2) (xs := nats [1, 2, 4]) upd_same)
    have g3 := u3.seqT (seqT_of (K := K) (p := p3) (xs := nats [2, 3, 6]) upd_same)
    have g4 := u4.seqT (seqT_of (K := K) (p := p4) (xs := nats [1, 3, 4]) upd_same)
    have g5 := u5.seqT (seqT_of (K := K) (p := p5) (xs := nats [6, 4]) upd_same)
    have g6 := u6.seqT (seqT_of (K := K) (p := p6) (xs := nats [5]) upd_same)
    have M4 := M3.same u0
    have f4 := f3.trans (MFr.of u0)
    obtain ⟨nl1, nl2⟩ := (M3.same (t1.trans (t2.trans (t3.trans (t4.trans (t5.trans t6)))))).fresh hlp
    refine ⟨m, c, g, B + 47, lp, _, rfl, M4, .inl ⟨.inl (.inl upd_same), upd_same, nl2⟩, by simp, by simp, fun i x H5 hx M5 f5 => ?_⟩
    have tu5 := M4.tups f5
    have hpick : ∃ p ts, x = .ref p ∧ SqT K H5 p (nats ts) ∧ ts ∈ TT := by
      rcases i with _ | _ | _ | _ | _ | _ | i
      · cases hx; exact ⟨p1, _, rfl, tu5.seq g1, by simp [TT]⟩
      · cases hx; exact ⟨p2, _, rfl, tu5.seq g2, by simp [TT]⟩
      · cases hx; exact ⟨p3, _, rfl, tu5.seq g3, by simp [TT]⟩
      · cases hx; exact ⟨p4, _, rfl, tu5.seq g4, by simp [TT]⟩
      · cases hx; exact ⟨p5, _, rfl, tu5.seq g5, by simp [TT]⟩
      · cases hx; exact ⟨p6, _, rfl, tu5.seq g6, by simp [TT]⟩
      · cases hx
    obtain ⟨tp, ts, rfl, htp, hts⟩ := hpick
    obtain ⟨ts1, ts2, ts3, _⟩ := tt_ok hts
    have htp5 := htp
    have f05 := f4.trans f5
    refine ⟨len_ok (by simp), fun F0 hF0 => ?_⟩
    obtain ⟨nF1, nF2⟩ := M5.fresh hF0
    have nF3 := M5.freshC hF0
    have s6 : Same H5 (upd H5 F0 (.lst [])) := same_new hF0
    have hHF : H F0 = none := by
      cases e : H F0 with
      | none => rfl
      | some o =>
        have := f05.at_ F0 o e nF1 nF2
        rw [hF0] at this
        cases this
    refine ⟨_, rfl, _, rfl, by omega, by omega, for_range (lo := 0) (n := 1 + r0) (fun i σ H' => ∃ bs ws v7 v8, bs.length = i ∧ (∀ b ∈ bs, BodL (1 + r0) wd ts b) ∧ H' F0 = some (.lst ws) ∧ DpAll K H' ws (bs.map bodyD) ∧ MAt m c g (B + 22 * (1 + r0 - i)) H' ∧ MFr m g H H' ∧ SqT K H' tp (nats ts) ∧
        σ = [some (.ref m), some (.int 2), some (.int 3), some (.int ((1 + r0 : Nat) : Int)), some (.int (wd : Nat)), some (.ref tp), some (.ref F0), v7, v8, none])
      ⟨[], [], none, none, rfl, (fun _ h => nomatch h), upd_same, .nil, (M5.same s6).mono (by omega), f05.trans (MFr.of s6), s6.seqT htp5, rfl⟩ ?_ ?_⟩
    · rintro i σ H6 hi ⟨bs, ws, v7, v8, hbl, hbs, hF, dw, M6, f6, ht6, rfl⟩
      refine ⟨_, rfl, _, rfl, m, c, g, B + 22 * (1 + r0 - (i + 1)) + 21, 3, rfl, by omega, by omega, M6.mono (by omega), fun r1 H7 hr1 M7 f7 => ?_⟩
      have hF7 := f7.at_ _ _ hF nF1 nF2
      have tu7 := M6.tups f7
      have ht7 := tu7.seq ht6
      have toB : tupOnlyAll (bs.map bodyD) = true := by
        rw [tupOnlyAll_iff]
        intro d hd
        obtain ⟨b', hb', rfl⟩ := List.mem_map.mp hd
        exact body_to fun s hs => ((hbs b' hb').ok s hs).1
      have dw7 := dpAll_tups tu7 _ _ toB dw
      have f67 := f6.trans f7
      refine ⟨_, _, rfl, rfl, _, rfl, by omega, by omega, fun D hD => ?_⟩
      obtain ⟨nD1, nD2⟩ := M7.fresh hD
      have nD3 := M7.freshC hD
      have nDF : D ≠ F0 := fun e => by rw [e, hF7] at hD; cases hD
      refine lc_it (walk_range (lo := 0) (n := 1 + r1)) (fun j H' => ∃ ss us, ss.length = j ∧ (∀ s ∈ ss, SeatOk (1 + r0) wd s ∧ s.t ∈ ts) ∧ H' D = some (.lst us) ∧ DpAll K H' us (ss.map seatD) ∧ MAt m c g (B + 22 * (1 + r0 - (i + 1)) + 7 * (1 + r1 - j)) H' ∧ MFr m g H7 H')
        ⟨[], [], rfl, (fun _ h => nomatch h), upd_same, .nil, (M7.upd nD1 nD3 nD2).mono (by omega), MFr.of (same_new hD)⟩ (fun _ _ _ _ => True.intro) ?_ ?_
      · rintro j x H8 H9 hj ⟨ss, us, hsl, hss, hDu, du, M8, f8⟩ ⟨rfl, rfl⟩
        refine ⟨rfl, _, rfl, _, rfl, _, rfl, _, rfl, m, c, g, B + 22 * (1 + r0 - (i + 1)) + 7 * (1 + r1 - (j + 1)), tp, ts, 1 + r0, wd, rfl, by omega, by omega, by omega, (M7.tups f8).seq ht7, ts1, ts2, ts3, M8.mono (by omega), fun y s H10 hs hst dy M10 f10 => ?_⟩
        have hD10 := f10.at_ _ _ hDu nD1 nD2
        have tu10 := M8.tups f10
        have toS : tupOnlyAll (ss.map seatD) = true := by
          rw [tupOnlyAll_iff]
          intro d hd
          obtain ⟨s', hs', rfl⟩ := List.mem_map.mp hd
          exact seat_to (hss s' hs').1
        have lus : us.length = j := by rw [dpAll_len du, List.length_map, hsl]
        refine ⟨us, hD10, by unfold sizeLine; omega, ss ++ [s], us ++ [y], by rw [List.length_append, hsl]; rfl, ?_, upd_same, ?_, M10.upd nD1 nD3 nD2, (f8.trans f10).put hD⟩
        · intro s' hs'
          rcases List.mem_append.mp hs' with q1 | q1
          · exact hss s' q1
          · rw [List.mem_singleton] at q1
            subst q1
            exact ⟨hs, hst⟩
        · rw [List.map_append]
          refine dpAll_tups (Tups.put (by rw [hD10]; exact True.intro)) _ _ ?_ (dpAll_snoc (dpAll_tups tu10 _ _ toS du) dy)
          rw [tupOnlyAll_iff]
          intro d hd
          rcases List.mem_append.mp hd with q1 | q1
          · exact tupOnlyAll_iff.mp toS d q1
          · rw [List.map_singleton, List.mem_singleton] at q1
            subst q1
            exact seat_to hs
      · rintro H8 ⟨ss, us, hsl, hss, hDu, du, M8, f8⟩
        have hF8 := f8.at_ _ _ hF7 nF1 nF2
        have tu8 := M7.tups f8
        refine ⟨_, rfl, .inl ⟨rfl, _, .inl (.inl hF8)⟩, _, rfl, D, us, rfl, .inl ⟨.inl (.inl hDu), fun l2 hl2 => ?_⟩⟩
        have s9 : Same H8 (upd H8 l2 (.tup us)) := same_new hl2
        have hF9 := s9 _ _ hF8
        have lws : ws.length = i := by rw [dpAll_len dw, List.length_map, hbl]
        have bodS : BodL (1 + r0) wd ts ss := ⟨by omega, by omega, hss⟩
        refine ⟨F0, ws, _, rfl, rfl, hF9, by unfold sizeLine; omega, bs ++ [ss], ws ++ [.ref l2], _, _, by rw [List.length_append, hbl]; rfl, ?_, upd_same, ?_, ((M8.same s9).mono (by omega)).upd nF1 nF3 nF2, (f67.trans (f8.trans (MFr.of s9))).put hHF, ?_, rfl⟩
        · intro b' hb'
          rcases List.mem_append.mp hb' with q1 | q1
          · exact hbs b' q1
          · rw [List.mem_singleton] at q1
            subst q1
            exact bodS
        · rw [List.map_append]
          refine dpAll_tups (Tups.put (by rw [hF9]; exact True.intro)) _ _ ?_ (dpAll_snoc (dpAll_same s9 (dpAll_tups tu8 _ _ toB dw7)) (.tup (seqT_of upd_same) (dpAll_same s9 du)))
          rw [tupOnlyAll_iff]
          intro d hd
          rcases List.mem_append.mp hd with q1 | q1
          · exact tupOnlyAll_iff.mp toB d q1
          · rw [List.map_singleton, List.mem_singleton] at q1
            subst q1
            exact body_to fun s hs => (hss s hs).1
        · exact (Tups.put (by rw [hF9]; exact True.intro)).seq (s9.seqT (tu8.seq ht7))
    · rintro σ H6 ⟨bs, ws, v7, v8, hbl, hbs, hF, dw, M6, f6, ht6, rfl⟩
      refine ⟨_, rfl, F0, ws, rfl, .inl ⟨.inl (.inl hF), fun l2 hl2 => ?_⟩⟩
      have s7 : Same H6 (upd H6 l2 (.tup ws)) := same_new hl2
      refine ⟨_, rfl, len_ok (by simp), fun p hp => ?_⟩
      have s8 := same_new (o := .tup [.ref l2, .int (wd : Nat)]) hp
      exact q _ ⟨bs, wd⟩ _ (houseL_of hts (by omega) (by omega) (by omega) hbl hbs) (.tup (seqT_of upd_same) (.cons (.tup (s8.seqT (seqT_of upd_same)) (dpAll_same (s7.trans s8) dw)) (.cons (.int _) .nil))) ((M6.mono (by omega)).same (s7.trans s8)) (f6.trans (MFr.of (s7.trans s8)))
end
end K88
set_option maxHeartbeats 1000000
/-! The walks of the law's own helpers: the counts, all rows, the spread. -/
namespace K88
open PySem PySem.Spec PyProof.Rows L2 LamX K88X
section
variable {P : Program} {w : World} {K : PySem.W.Frag} {mg : Str → Option Value} {base : Heap}
/-- a tuple whose object is known: its methods may be called -/
def FTup (H : Hp) (c : Addr) (xs : List V) : Prop := ∃ o : Obj, H c = some (.frz o (.tup xs)) ∧ o.cls = .type "tuple" ∧ o.dict = none
theorem FTup.seq {H : Hp} {c : Addr} {xs : List V} (h : FTup H c xs) : SqT K H c xs := by
  obtain ⟨o, h, _⟩ := h
  exact .inl (.inr ⟨o, h⟩)
theorem FTup.same {H H' : Hp} {c : Addr} {xs : List V} (s : Same H H') (h : FTup H c xs) : FTup H' c xs := by
  obtain ⟨o, h, k⟩ := h
  exact ⟨o, s _ _ h, k⟩
theorem call_tupleF {X : Cx} : CallR X (.type "tuple") (fun xs H Q => ∃ p ys, xs = [.ref p] ∧ SqL X.K H p ys ∧ ∀ l H', Same H H' → FTup H' l ys → Q (.ref l) H') := by
  intro pins s σ H xs us Q I r h
  obtain ⟨p, ys, rfl, hq, q⟩ := h
  obtain ⟨u, rfl, rx⟩ := vals1 r
  cases rx
  obtain ⟨its, r', pl, hz⟩ := I.list hq
  have hlen := r'.length
  refine call_tuple_list pl.isList (fun h' kp => ?_) (by simp only [List.size_toArray] <;> omega)
  have I1 : Inv X pins σ H { s with heap := h' } := I.kept (t' := s.toks) kp
  have I2 : Inv X pins σ (upd H h'.objs.size (.frz { cls := .type "tuple", data := .seq its.toArray } (.tup ys))) { s with heap := h'.push { cls := .type "tuple", data := .seq its.toArray } } :=
    I1.laid (t' := s.toks) (fun b o e => Heap.get?_push_of_some _ e) (Nat.le_refl _) (show ObjOk X.prog X.w _ _ _ (.frz _ (.tup ys)) from ⟨Heap.get?_push_size _ rfl, hz, its, r', IsTup.new _ _⟩)
  exact ⟨.ref h'.objs.size, _, I2, rfl, q _ _ (same_new (I1.hok.fresh (Nat.le_refl _))) ⟨_, upd_same, rfl, rfl⟩⟩
def tBMF (T : String) (r : V → List V → Hp → VK → Prop) (to : TE) (t : TA) : TE := fun σ H Q => to σ H fun x H1 => (∃ p o u, x = .ref p ∧ H1 p = some (.frz o u) ∧ o.cls = .type T ∧ o.dict = none) ∧ t σ H1 fun xs H2 => r x xs H2 Q
theorem pe_bmF {X : Cx} {o e : Expr} {es : List Expr} {to : TE} {t : TA} {name : Str} {apos cpos : Pos} {T id : String} {r : V → List V → Hp → VK → Prop} (pa : PlainAttrs T) (slot : Slot T name id) (hty : typeOf (.builtin id) = pure (.type "method_descriptor")) (hm : MtR X id r) (ho : PE X o to) (ha : PA X (e :: es) t)
    (hbase : attributeBase o name X.env (eval o X.env) = eval o X.env := by rfl)
    (hfew : ((backTo cpos (starEach (e :: es) X.env)).all (fun x => !x.1) && (backToKw cpos (keywordEach [] X.env)).all (fun x => x.1.isSome)
      && decide ((e :: es).length + ([] : List Keyword).length + (if ([] : List Keyword).isEmpty then 0 else 1) < 30)) = true := by rfl)
    (hline : (apos.endLine == cpos.line) = true := by rfl) (hs : starEach (e :: es) X.env = (false, eval e X.env) :: starEach es X.env := by rfl) (hplain : (backTo cpos (starEach es X.env)).any (·.1) = false := by rfl) :
    PE X (.Call (.Attribute o name apos) (e :: es) [] cpos) (tBMF T r to t) := by
  refine ⟨fun pins s σ H Q I h => ?_⟩
  refine wpAny_Call_method_late hbase hfew hline rfl (thn (ho.run pins s σ H _ I h) fun v s1 ⟨x, H1, I1, r1, ty, q1⟩ => ?_)
  obtain ⟨p, ob, u, rfl, hp, h3, h4⟩ := ty
  have rv : v = Value.ref p := r1
  subst rv
  obtain ⟨hob, _⟩ := I1.hok p _ hp
  refine ⟨T, id, pa, slot, hty, ⟨ob, hob, h3⟩, fun a e => by cases e; exact ⟨ob, hob, h4⟩, ?_⟩
  have hA := ha.run cpos pins s1 σ H1 _ I1 q1
  rw [hs] at hA ⊢
  refine Calls.callWith_builtin (by show (false || (backTo cpos (starEach es X.env)).any (·.1)) = false; rw [hplain] <;> rfl) (Calls.evalArgs_plain ?_)
  exact thn hA fun us s2 ⟨vs, H2, I2, r2, q2⟩ => hm pins s2 σ H2 _ vs _ us Q I2 r1 r2 q2
theorem ixSK {X : Cx} (h : X.K = K) : IxR X (rIx K) := h ▸ ix_seq
theorem catAK {X : Cx} (h : X.K = K) : OpR X (binaryOp .Add) (rCatA K) := h ▸ op_catA
/-! ### _law_is_due -/
def spIsDue : Sp := fun vs H Q _ => ∃ n t p : Nat, vs = [.int (n : Nat), .int (t : Nat), .int (p : Nat)] ∧ 0 < t ∧ p < t ∧ Q (.bl (due n t p)) H
theorem sc_id : FnScope ["t", "term", "phase"] ["t", "term", "phase"] (defScope sIsDue) := ⟨rfl, rfl, rfl, by decide +kernel, rfl, by decide +kernel, by decide +kernel⟩
theorem bl_due2 {n t p : Nat} (ht : 0 < t) (hp : p < t) : decide (V.int (((n : Int) + (t : Int) - (p : Int)).fmod (t : Int)) = V.int 0) = due n t p := by
  rw [Bool.eq_iff_iff, decide_eq_true_iff, ← fmod_due ht (Nat.le_of_lt hp)]
  constructor
  · intro h
    injection h
  · intro h
    rw [h]
theorem do_isDue (T : Blt mg) (A : At K mg "_law_is_due" sIsDue) : Does P w K mg base CX0 1 "_law_is_due" ["t", "term", "phase"] spIsDue := by
  obtain ⟨f, fd, F, hm⟩ := A
  refine ⟨f, fd, hm, F.kp, F.binds fun _ _ _ _ _ _ us hl => match us, hl with | [_, _, _], _ => rfl, F.ok sc_id (fun vs H Q E h => ?_) (fun cdv A outer s H vs Q E hr h => ?_)⟩
  · obtain ⟨_, _, _, rfl, _⟩ := h
    rfl
  · obtain ⟨n, t, p, rfl, ht, hp, q⟩ := h
    refine ⟨_, (pss_one (ps_ret (pe_cmpR op_eq (pe_op op_modN (pe_callTy call_int1 (by rfl) T.int (by decide +kernel) (pa_cons (pe_op op_sub (pe_op op_add (pv 0) (pv 1)) (pv 2)) pa_nil)) (pv 1)) pe_int (nomark _)))), ?_⟩
    refine ⟨_, rfl, _, rfl, _, _, rfl, rfl, _, rfl, _, _, rfl, rfl, .inl ⟨_, rfl, _, rfl, _, _, rfl, rfl, show (t : Int) ≠ 0 by omega, rfl, ?_⟩⟩
    rw [bl_due2 ht hp]
    exact q
/-! ### _law_round -/
def spLRound (K : PySem.W.Frag) : Sp := fun vs H Q _ => ∃ a ts, vs = [.ref a] ∧ SqL K H a (nats ts) ∧ (∀ t ∈ ts, 0 < t) ∧ ts.length ≤ 60 ∧ rnd ts ≤ 1000 ∧ ∀ H', Same H H' → Q (.int (rnd ts : Nat)) H'
theorem sc_lr : FnScope ["terms", "found", "term"] ["terms"] (defScope sRound) := ⟨rfl, rfl, rfl, by decide +kernel, rfl, by decide +kernel, by decide +kernel⟩
theorem do_lround (T : Blt mg) (A : At K mg "_law_round" sRound) : Does P w K mg base CX0 1 "_law_round" ["terms"] (spLRound K) := by
  obtain ⟨f, fd, F, hm⟩ := A
  refine ⟨f, fd, hm, F.kp, F.binds fun _ _ _ _ _ _ us hl => match us, hl with | [_], _ => rfl, F.ok sc_lr (fun vs H Q E h => ?_) (fun cdv A outer s H vs Q E hr h => ?_)⟩
  · obtain ⟨_, _, rfl, _⟩ := h
    rfl
  · obtain ⟨a, ts, rfl, ha, hp, hl, hr12, q⟩ := h
    refine ⟨_, (pss_cons (ps_set (i := 1) sc_lr.nd rfl (Or.inr rfl) pe_int)
      (pss_cons (ps_while PassesOwn.never (pt_cmpR (op_neD hr.units) (pe_lc (own := [("term", 2)]) (g := (gName 2)) (tt := _) rfl sc_lr.nd (pi_list (pv 0)) (blkOk_by (N := ["terms", "found", "term"]) (sc := defScope sRound) (by decide +kernel)) (fun _ _ _ _ _ => (pg_name (i := 2) sc_lr.nd rfl (Or.inl rfl))) (fun _ _ _ _ _ => (pts_one (pt_cmpR op_ne (pe_op op_modN (pe_callTy call_int1 (by rfl) T.int (by decide +kernel) (pa_cons (pv 1) pa_nil)) (pv 2)) pe_int (nomark _)))) (fun _ _ _ _ _ => (pv 2))) (pe_lst pa_nil) (nomark _)) (pss_one (ps_set (i := 1) sc_lr.nd rfl (Or.inr rfl) (pe_op op_add (pv 1) pe_int))))
      (pss_one (ps_ret (pv 1))))), ?_⟩
    have R0 := rnd_pos hp
    refine while_by (fun σ H' => Same H H' ∧ ∃ n : Nat, 1 ≤ n ∧ n ≤ rnd ts ∧ σ = [some (.ref a), some (.int (n : Nat)), none]) (fun σ _ => match σ with | [_, some (.int k), _] => rnd ts - k.toNat | _ => 0) ⟨Same.refl H, 1, by omega, by omega, rfl⟩ ?_ ?_
    · rintro σ H1 ⟨s1, n, h1, hn, rfl⟩
      have ha1 := sql_same s1 ha
      have lts : (nats ts).length = ts.length := nats_len ts
      let pb : Nat → Bool := fun j => match ts[j]? with | some t => !decide (n % t = 0) | none => false
      refine ⟨_, rfl, a, rfl, ⟨_, ha1⟩, fun D hD => lc_pick (walk_list (K := K) (a := a) (xs := nats ts)) pb (fun j => .int (ts.getD j 0 : Nat)) (small (by omega)) hD (fun H s => sql_same s ha1) (fun j z H5 H6 R2 R2' hj s5 y2 htt hff => ?_) fun H5 s5 hv5 => ?_⟩
      · obtain ⟨rfl, hz⟩ := y2
        have hz : (nats ts)[j]? = some z := hz
        rw [nats_get] at hz
        cases hts : ts[j]? with
        | none => rw [hts] at hz; cases hz
        | some t =>
          rw [hts] at hz
          cases hz
          have t0 := hp t (List.mem_of_getElem? hts)
          have hpb : pb j = !decide (n % t = 0) := by show (match ts[j]? with | some t => !decide (n % t = 0) | none => false) = _; rw [hts]
          have hgd : ts.getD j 0 = t := by rw [List.getD_eq_getElem?_getD, hts]; rfl
          refine ⟨rfl, _, rfl, .inl ⟨_, rfl, _, rfl, _, _, rfl, rfl, show (t : Int) ≠ 0 by omega, rfl, _, rfl, ?_⟩⟩
          have e : (n : Int).fmod (t : Int) = ((n % t : Nat) : Int) := by rw [Int.fmod_eq_emod_of_nonneg _ (by omega)]; rfl
          show if (!decide (V.int ((n : Int).fmod (t : Int)) = V.int 0)) = true then _ else _
          rw [e]
          by_cases h0 : n % t = 0
          · refine if_f (by rw [h0]; rfl) (hff (by rw [hpb, decide_eq_true h0]; rfl) _ (Same.refl _))
          · refine if_t (by rw [decide_eq_false (fun q => h0 (by injection q with q; omega))]; rfl) ?_
            have := htt (by rw [hpb, decide_eq_false h0]; rfl) _ (Same.refl _)
            rw [hgd] at this
            exact ⟨_, rfl, this⟩
      · refine ⟨len_ok (by simp), fun p0 hp0 => ?_⟩
        have s6 : Same H5 (upd H5 p0 (.lst [])) := same_new hp0
        let l : List Nat := ((List.range (nats ts).length).filter pb).map fun j => ts.getD j 0
        have el : ((List.range (nats ts).length).filter pb).map (fun j => V.int (ts.getD j 0 : Nat)) = nats l := by
          show _ = (((List.range (nats ts).length).filter pb).map fun j => ts.getD j 0).map _
          rw [List.map_map]
          rfl
        rw [el] at hv5
        have hsh : SeqAt.shaped (.list (natD l)) = true := by
          have := shaped_ints (l.map fun (n : Nat) => (n : Int))
          rw [List.map_map] at this
          exact this
        refine ⟨.list (natD l), .list [], .lst (.inl (.inl (s6 _ _ hv5))) (dpAll_nats l), .lst (.inl (.inl upd_same)) .nil, hsh, shaped_ints [], _, rfl, ?_⟩
        have hcase : (∀ t ∈ ts, n % t = 0) ↔ l = [] := by
          constructor
          · intro hall
            show ((List.range (nats ts).length).filter pb).map _ = []
            rw [List.map_eq_nil_iff, List.filter_eq_nil_iff]
            intro j hj
            show ¬ (match ts[j]? with | some t => !decide (n % t = 0) | none => false) = true
            cases hts : ts[j]? with
            | none => simp
            | some t => simp [hall t (List.mem_of_getElem? hts)]
          · intro he t ht
            obtain ⟨j, hj, rfl⟩ := List.mem_iff_getElem.mp ht
            have he2 : ((List.range (nats ts).length).filter pb) = [] := List.map_eq_nil_iff.mp he
            have := List.filter_eq_nil_iff.mp he2 j (List.mem_range.mpr (by omega))
            have hpb : pb j = !decide (n % ts[j] = 0) := by show (match ts[j]? with | some t => !decide (n % t = 0) | none => false) = _; rw [List.getElem?_eq_getElem hj]
            rw [hpb] at this
            simpa using this
        by_cases hl0 : l = []
        · have hdvd : rnd ts ∣ n := rnd_dvd fun t ht => Nat.dvd_of_mod_eq_zero (hcase.mpr hl0 t ht)
          have en : n = rnd ts := Nat.le_antisymm hn (Nat.le_of_dvd h1 hdvd)
          refine if_f (by rw [hl0]; rfl) ⟨_, rfl, ?_⟩
          rw [en]
          exact q _ (s1.trans (s5.trans s6))
        · obtain ⟨z0, l0, el0⟩ := List.exists_cons_of_ne_nil hl0
          have hlt : n < rnd ts := by
            rcases Nat.lt_or_ge n (rnd ts) with h | h
            · exact h
            · have en : n = rnd ts := by omega
              exact absurd (hcase.mp fun t ht => by rw [en]; exact Nat.mod_eq_zero_of_dvd (dvd_rnd ht)) hl0
          refine if_t (by rw [el0]; rfl) ⟨_, rfl, _, _, rfl, rfl, ⟨s1.trans (s5.trans s6), n + 1, by omega, by omega, rfl⟩, ?_⟩
          show rnd ts - ((n : Int) + 1).toNat < rnd ts - (n : Int).toNat
          omega
    · intro σ H Q Q' hq h
      obtain ⟨v, h0, p, e1, hx, hD⟩ := h
      refine ⟨v, h0, p, e1, hx, fun D hd => ?_⟩
      obtain ⟨W, hW0, hW⟩ := hD D hd
      refine ⟨W, hW0, fun i m H1 hw => ?_⟩
      rcases hW i m H1 hw with ⟨hs, hl, hq2⟩ | hgo
      · refine .inl ⟨hs, hl, fun p0 hp0 => ?_⟩
        obtain ⟨d, e, a1, a2, a3, a4, k, a5, a6⟩ := hq2 p0 hp0
        exact ⟨d, e, a1, a2, a3, a4, k, a5, hq _ _ a6⟩
      · exact .inr hgo
/-! ### _law_loads -/
theorem phs_at {ts ps : List Nat} (h : Phs ts ps) : ∀ {i t : Nat}, ts[i]? = some t → ∃ p, ps[i]? = some p ∧ p < t := by
  induction h with
  | nil => intro i t e; simp at e
  | cons hp _ ih =>
    intro i t e
    cases i with
    | zero =>
      simp at e
      subst e
      exact ⟨_, rfl, hp⟩
    | succ i => exact ih (by simpa using e)
def spLLoads (K : PySem.W.Frag) : Sp := fun vs H Q _ => ∃ a b ts ps, vs = [.ref a, .ref b] ∧ SqL K H a (nats ts) ∧ (SqL K H b (nats ps) ∨ SqT K H b (nats ps)) ∧ Phs ts ps ∧ ts.length ≤ 60 ∧ rnd ts ≤ 1000 ∧
  ∀ c H', Same H H' → FTup H' c (nats (K88.loads ts ps)) → Q (.ref c) H'
theorem sc_ll : FnScope ["terms", "phases_so", "found", "t", "k"] ["terms", "phases_so"] (defScope sLLoads) := ⟨rfl, rfl, rfl, by decide +kernel, rfl, by decide +kernel, by decide +kernel⟩
theorem do_lloads (T : Blt mg) (A : At K mg "_law_loads" sLLoads) (DR : Does P w K mg base CX0 1 "_law_round" ["terms"] (spLRound K)) (DI : Does P w K mg base CX0 1 "_law_is_due" ["t", "term", "phase"] spIsDue) :
    Does P w K mg base CX0 2 "_law_loads" ["terms", "phases_so"] (spLLoads K) := by
  obtain ⟨f, fd, F, hm⟩ := A
  refine ⟨f, fd, hm, F.kp, F.binds fun _ _ _ _ _ _ us hl => match us, hl with | [_, _], _ => rfl, F.ok sc_ll (fun vs H Q E h => ?_) (fun cdv A outer s H vs Q E hr h => ?_)⟩
  · obtain ⟨_, _, _, _, rfl, _⟩ := h
    rfl
  · obtain ⟨a, b, ts, ps, rfl, ha, hb, hph, hl, hr12, q⟩ := h
    refine ⟨_, (pss_cons (ps_set (i := 2) sc_ll.nd rfl (Or.inl rfl) (pe_lst pa_nil))
      (pss_cons (ps_for PassesOwn.never rfl (pi_range1 rfl T.range (pa_cons (pe_do DR hr pass0 (pa_cons (pv 0) pa_nil)) pa_nil)) (pg_name (i := 3) sc_ll.nd rfl (Or.inr rfl)) (pss_one (ps_expr (pe_bm PySem.F.plainAttrs_list PySem.F.slot_list_append PySem.F.type_list_append mt_append (pv 2) (pa_cons (pe_callB call_len_seq (by rfl) T.len PySem.boot_len (pa_cons (pe_lc (own := [("k", 4)]) (g := (gName 4)) (tt := _) rfl sc_ll.nd (pi_range1 rfl T.range (pa_cons (pe_callB call_len_seq (by rfl) T.len PySem.boot_len (pa_cons (pv 0) pa_nil)) pa_nil)) (blkOk_by (N := ["terms", "phases_so", "found", "t", "k"]) (sc := defScope sLLoads) (by decide +kernel)) (fun _ _ _ _ _ => (pg_name (i := 4) sc_ll.nd rfl (Or.inl rfl))) (fun _ _ _ _ _ => (pts_one (pt_val (pe_do DI hr pass0 (pa_cons (pv 3) (pa_cons (pe_ix (ixLK (K := K) rfl) (pv 0) (pv 4) (fun _ _ => rfl)) (pa_cons (pe_ix (ixSK (K := K) rfl) (pv 1) (pv 4) (fun _ _ => rfl)) pa_nil))))))) (fun _ _ _ _ _ => pe_int)) pa_nil)) pa_nil)))))
      (pss_one (ps_ret (pe_callTy call_tupleF (by rfl) T.tuple (by decide +kernel) (pa_cons (pv 2) pa_nil)))))), ?_⟩
    have hpos : ∀ t ∈ ts, 0 < t := by
      intro t ht
      obtain ⟨i, hi, rfl⟩ := List.mem_iff_getElem.mp ht
      have := (phs_at hph (List.getElem?_eq_getElem hi))
      obtain ⟨p, _, h2⟩ := this
      omega
    have lts : (nats ts).length = ts.length := nats_len ts
    refine ⟨len_ok (by simp), fun F0 hF0 => ?_⟩
    have s1 : Same H (upd H F0 (.lst [])) := same_new hF0
    refine ⟨_, rfl, a, ts, rfl, sql_same s1 ha, hpos, hl, hr12, fun H2 s2 => ⟨_, rfl, by omega, by omega, for_range (lo := 0) (n := rnd ts) (fun i σ H' => ∃ v4, Same H H' ∧ H' F0 = some (.lst (nats ((K88.loads ts ps).take i))) ∧ σ = [some (.ref a), some (.ref b), some (.ref F0), v4, none])
      ⟨none, s1.trans s2, s2 _ _ upd_same, rfl⟩ ?_ ?_⟩⟩
    · rintro i σ H3 hi ⟨v4, s3, hF, rfl⟩
      rw [Int.zero_add]
      have ha3 := sql_same s3 ha
      have hb3 : SqL K H3 b (nats ps) ∨ SqT K H3 b (nats ps) := by
        rcases hb with h | h
        · exact .inl (sql_same s3 h)
        · exact .inr (s3.seqT h)
      let f : Nat × Nat → Bool := fun q => due i q.1 q.2
      refine ⟨_, rfl, .inl ⟨rfl, _, .inl (.inl hF)⟩, _, rfl, a, _, rfl, .inl ha3, ?_⟩
      rw [lts]
      refine ⟨_, rfl, by omega, by omega, fun D hD => lc_pick (walk_range (lo := 0) (n := ts.length)) (fun j => match (ts.zip ps)[j]? with | some q => f q | none => false) (fun _ => .int 1) (small (by omega)) hD (fun _ _ => True.intro) (fun j z H5 H6 R2 R2' hj s5 y2 htt hff => ?_) fun H5 s5 hv5 => ?_⟩
      · obtain ⟨rfl, rfl⟩ := y2
        obtain ⟨t, ht⟩ : ∃ t, ts[j]? = some t := ⟨_, List.getElem?_eq_getElem hj⟩
        obtain ⟨p, hp, hpt⟩ := phs_at hph ht
        have hz : (ts.zip ps)[j]? = some (t, p) := by rw [List.getElem?_zip_eq_some]; exact ⟨ht, hp⟩
        rw [hz] at htt hff
        have e1 : atI (nats ts) (0 + (j : Int)) = some (.int (t : Nat)) := atI_int (j := j) (by omega) (by rw [nats_get, ht]; rfl)
        have e2 : atI (nats ps) (0 + (j : Int)) = some (.int (p : Nat)) := atI_int (j := j) (by omega) (by rw [nats_get, hp]; rfl)
        have hix : ∀ (Q : VK), Q (.int (p : Nat)) H6 → rIx K (.ref b) (.int (0 + (j : Int))) H6 Q := by
          intro Q hQ
          rcases hb3 with h | h
          · exact .inl ⟨b, _, _, _, rfl, rfl, sql_same s5 h, e2, hQ⟩
          · exact .inr (.inl ⟨b, _, _, _, rfl, rfl, s5.seqT h, e2, hQ⟩)
        refine ⟨rfl, _, rfl, _, rfl, _, rfl, a, _, _, _, rfl, rfl, sql_same s5 ha3, e1, _, rfl, _, rfl, hix _ ⟨i, t, p, rfl, by omega, hpt, due i t p, rfl, ?_⟩⟩
        cases hdue : due i t p
        · exact hff hdue _ (Same.refl _)
        · exact htt hdue _ (Same.refl _)
      · have hl2 : ts.length = (ts.zip ps).length := by rw [List.length_zip, hph.length, Nat.min_self]
        have ecount : (((List.range ts.length).filter fun j => match (ts.zip ps)[j]? with | some q => f q | none => false).map fun _ => V.int 1).length = (ts.zip ps).countP f := by
          rw [List.length_map, hl2]
          exact cnt_range f (ts.zip ps) _ fun j x hx => by rw [hx]
        have hF5 := s5 _ _ hF
        have hli : (K88.loads ts ps)[i]? = some ((ts.zip ps).countP f) := by
          unfold K88.loads
          rw [List.getElem?_map, List.getElem?_range hi]
          rfl
        have lsz : (nats ((K88.loads ts ps).take i)).length < sizeLine := by
          rw [nats_len, List.length_take]
          unfold sizeLine
          omega
        refine ⟨D, _, rfl, .inl (.inl (.inl hv5)), F0, _, _, rfl, rfl, hF5, lsz, some (.int (i : Nat)), (s3.trans s5).put hF0, ?_, rfl⟩
        rw [upd_same, ecount, take_snoc hli]
        unfold nats
        rw [List.map_append]
        rfl
    · rintro σ H3 ⟨v4, s3, hF, rfl⟩
      rw [List.take_of_length_le (by rw [loads_len]; omega)] at hF
      exact ⟨_, rfl, F0, _, rfl, .inl (.inl hF), fun l2 H4 s4 hl2 => q l2 _ (s3.trans s4) hl2⟩
/-! ### _law_all_phases -/
def rowsD (rs : List (List Nat)) : List PyData := rs.map fun r => .tuple (natD r)
theorem prodL_append (a b : List Nat) : prodL (a ++ b) = prodL a * prodL b := by
  unfold prodL
  rw [List.foldl_append, foldl_mul]
  rfl
theorem prodL_pos : ∀ {ts : List Nat}, (∀ t ∈ ts, 0 < t) → 0 < prodL ts
  | [], _ => by simp [prodL]
  | t :: ts, h => by
    have h1 := prodL_pos fun x hx => h x (List.mem_cons_of_mem _ hx)
    have h2 := h t (List.mem_cons_self ..)
    have e : prodL (t :: ts) = prodL [t] * prodL ts := prodL_append [t] ts
    rw [e]
    exact Nat.mul_pos (by simpa [prodL] using h2) h1
theorem prodL_take {ts : List Nat} (h : ∀ t ∈ ts, 0 < t) (i : Nat) : prodL (ts.take i) ≤ prodL ts := by
  conv => rhs; rw [← List.take_append_drop i ts, prodL_append]
  exact Nat.le_mul_of_pos_right _ (prodL_pos fun t ht => h t (List.mem_of_mem_drop ht))
def spAllPhases (K : PySem.W.Frag) : Sp := fun vs H Q _ => ∃ a ts, vs = [.ref a] ∧ SqL K H a (nats ts) ∧ (∀ t ∈ ts, 0 < t ∧ t ≤ 6) ∧ ts.length ≤ 60 ∧ prodL ts ≤ 1300 ∧ ∀ y H', Same H H' → Dp K H' y (.list (rowsD (rows ts))) → Q y H'
theorem sc_al : FnScope ["terms", "rows", "term", "longer", "row", "one"] ["terms"] (defScope sAllPhases) := ⟨rfl, rfl, rfl, by decide +kernel, rfl, by decide +kernel, by decide +kernel⟩
theorem do_allPhases (T : Blt mg) (A : At K mg "_law_all_phases" sAllPhases) : Does P w K mg base CX0 1 "_law_all_phases" ["terms"] (spAllPhases K) := by
  obtain ⟨f, fd, F, hm⟩ := A
  refine ⟨f, fd, hm, F.kp, F.binds fun _ _ _ _ _ _ us hl => match us, hl with | [_], _ => rfl, F.ok sc_al (fun vs H Q E h => ?_) (fun cdv A outer s H vs Q E hr h => ?_)⟩
  · obtain ⟨_, _, rfl, _⟩ := h
    rfl
  · obtain ⟨a, ts, rfl, ha, ht, hl, hprod, q⟩ := h
    refine ⟨_, (pss_cons (ps_set (i := 1) sc_al.nd rfl (Or.inl rfl) (pe_lst (pa_cons (pe_tup pa_nil) pa_nil)))
      (pss_cons (ps_for PassesOwn.never rfl (pi_list (pv 0)) (pg_name (i := 2) sc_al.nd rfl (Or.inl rfl)) (pss_cons (ps_set (i := 3) sc_al.nd rfl (Or.inl rfl) (pe_lst pa_nil))
      (pss_cons (ps_for PassesOwn.never rfl (pi_list (pv 1)) (pg_name (i := 4) sc_al.nd rfl (Or.inr rfl)) (pss_one (ps_set (i := 3) sc_al.nd rfl (Or.inl rfl) (pe_op op_cat (pv 3) (pe_lc (own := [("one", 5)]) (g := (gName 5)) (tt := tYes) rfl sc_al.nd (pi_range1 rfl T.range (pa_cons (pv 2) pa_nil)) (blkOk_by (N := ["terms", "rows", "term", "longer", "row", "one"]) (sc := defScope sAllPhases) (by decide +kernel)) (fun _ _ _ _ _ => (pg_name (i := 5) sc_al.nd rfl (Or.inl rfl))) (fun _ _ _ _ _ => pts_nil) (fun _ _ _ _ _ => (pe_op (catAK (K := K) rfl) (pv 4) (pe_tup (pa_cons (pv 5) pa_nil)))))))))
      (pss_one (ps_set (i := 1) sc_al.nd rfl (Or.inl rfl) (pv 3))))))
      (pss_one (ps_ret (pv 1))))), ?_⟩
    have lts : (nats ts).length = ts.length := nats_len ts
    have tpos : ∀ t ∈ ts, 0 < t := fun t h => (ht t h).1
    refine ⟨len_ok (by simp), fun p0 hp0 => ⟨len_ok (by simp), fun l0 hl0 => ?_⟩⟩
    have s0 := same_new (o := .tup []) hp0
    have s1 := same_new (o := .lst [.ref p0]) hl0
    have s01 := s0.trans s1
    refine ⟨_, rfl, a, rfl, ⟨_, sql_same s01 ha⟩, for_list (K := K) (a := a) (xs := nats ts) (fun i σ H' => Same H H' ∧ ∃ lr ws v2 v3 v4, σ = [some (.ref a), some (.ref lr), v2, v3, v4, none] ∧ H' lr = some (.lst ws) ∧ DpAll K H' ws (rowsD ((ts.take i).foldl grow [[]])))
      ⟨s01, l0, [.ref p0], none, none, none, rfl, upd_same, .cons (.tup (s1.seqT (seqT_of upd_same)) .nil) .nil⟩ (fun i σ H' _ e => sql_same e.1 ha) ?_ ?_⟩
    · rintro i x σ H3 hx ⟨s3, lr, ws, v2, v3, v4, rfl, hlr, dw⟩
      rw [nats_get] at hx
      cases hti : ts[i]? with
      | none => rw [hti] at hx; cases hx
      | some t =>
        rw [hti] at hx
        cases hx
        have htm := List.mem_of_getElem? hti
        obtain ⟨t0, t6⟩ := ht t htm
        have hprod1 := prodL_take tpos (i + 1)
        have hgl : ((ts.take (i + 1)).foldl grow [[]]).length ≤ 1300 := by
          rw [rows_grow, rows_count]
          omega
        have hgs : (ts.take (i + 1)).foldl grow [[]] = grow ((ts.take i).foldl grow [[]]) t := by rw [take_snoc hti, List.foldl_append]; rfl
        have hrlen : ∀ r ∈ (ts.take i).foldl grow [[]], r.length ≤ 60 := by
          intro r hr
          rw [rows_grow] at hr
          rw [rows_len _ _ hr, List.length_take]
          omega
        generalize hrs : (ts.take i).foldl grow [[]] = rs at *
        have lws : ws.length = rs.length := by rw [dpAll_len dw, rowsD, List.length_map]
        refine ⟨len_ok (by simp), fun ll hll => ?_⟩
        have s4 := same_new (o := .lst []) hll
        have hlr4 := s4 _ _ hlr
        refine ⟨_, rfl, lr, rfl, ⟨_, .inl (.inl hlr4)⟩, for_list (K := K) (a := lr) (xs := ws) (fun j σ H' => Same H3 H' ∧ ∃ ln us v4, σ = [some (.ref a), some (.ref lr), some (.int (t : Nat)), some (.ref ln), v4, none] ∧ H' ln = some (.lst us) ∧ DpAll K H' us (rowsD (grow (rs.take j) t)))
          ⟨s4, ll, [], v4, rfl, upd_same, .nil⟩ (fun j σ H' _ e => .inl (.inl (e.1 _ _ hlr))) ?_ ?_⟩
        · rintro j x σ H5 hxj ⟨s5, ln, us, v4', rfl, hln, du⟩
          obtain ⟨d, hd, dx⟩ := dpAll_at (dpAll_same s5 dw) hxj
          unfold rowsD at hd
          rw [List.getElem?_map] at hd
          cases hrj : rs[j]? with
          | none => rw [hrj] at hd; cases hd
          | some r =>
            rw [hrj] at hd
            cases hd
            obtain ⟨ra, rv, rfl, hra, dra⟩ := dp_tuple dx
            have erv := nats_of dra
            subst erv
            have hr60 := hrlen r (List.mem_of_getElem? hrj)
            have lnr := nats_len r
            refine ⟨_, rfl, _, rfl, _, rfl, by omega, by omega, fun D hD => lc_data (K := K) (walk_range (lo := 0) (n := t)) ((List.range t).map fun o => PyData.tuple (natD (r ++ [o]))) (by rw [List.length_map, List.length_range]) (small (by omega)) hD (fun _ _ => True.intro) (fun k z H6 H7 d R R' hdk s6 y hR => ?_) ?_ fun H6 vs6 s6 hv6 dv6 => ?_⟩
            · obtain ⟨rfl, rfl⟩ := y
              have hk : k < t := by
                have := (List.getElem?_eq_some_iff.mp hdk).1
                rw [List.length_map, List.length_range] at this
                exact this
              rw [List.getElem?_map, List.getElem?_range hk] at hdk
              cases hdk
              have hra7 := s6.seqT hra
              refine ⟨rfl, _, rfl, _, rfl, len_ok (by simp), fun p2 hp2 => ?_⟩
              have s7 := same_new (o := .tup [.int (0 + (k : Int))]) hp2
              have ez : (0 : Int) + (k : Int) = (k : Int) := Int.zero_add _
              have h2 : SqT K (upd H7 p2 (.tup [.int (0 + (k : Int))])) p2 [.int (k : Nat)] := seqT_of (by rw [upd_same, ez])
              have eapp : nats r ++ [V.int (k : Nat)] = nats (r ++ [k]) := by unfold nats; rw [List.map_append]; rfl
              refine ⟨ra, p2, nats r, [.int (k : Nat)], rfl, rfl, s7.seqT hra7, h2, small (by rw [lnr]; simp; omega), fun hnil => ?_, (fun _ hbad => by cases hbad), fun _ _ p3 hp3 => ?_⟩
              · refine hR _ _ s7 (.tup h2 ?_)
                have : r = [] := by
                  have := congrArg List.length hnil
                  rw [lnr] at this
                  exact List.length_eq_zero_iff.mp this
                subst this
                exact dpAll_nats [k]
              · refine hR _ _ (s7.new hp3) (.tup (seqT_of upd_same) ?_)
                rw [eapp]
                exact dpAll_nats _
            · rw [tupOnlyAll_iff]
              intro d hd
              obtain ⟨o, _, rfl⟩ := List.mem_map.mp hd
              exact tupOnly_nat _
            · have hgj : grow (rs.take (j + 1)) t = grow (rs.take j) t ++ (List.range t).map fun o => r ++ [o] := flat_snoc _ hrj
              have lus : us.length = (grow (rs.take j) t).length := by rw [dpAll_len du, rowsD, List.length_map]
              have lvs : vs6.length = t := by rw [dpAll_len dv6, List.length_map, List.length_range]
              have hfull : (grow (rs.take j) t).length + t ≤ 1300 := by
                have e1 : (grow rs t).length = (grow (rs.take (j + 1)) t).length + (grow (rs.drop (j + 1)) t).length := by
                  unfold grow
                  rw [← List.length_append, ← List.flatMap_append, List.take_append_drop]
                rw [hgs] at hgl
                rw [e1, hgj, List.length_append, List.length_map, List.length_range] at hgl
                omega
              refine ⟨ln, D, us, vs6, rfl, rfl, s6 _ _ hln, hv6, small (by omega), fun p3 hp3 => ?_⟩
              have s8 := same_new (o := .lst (us ++ vs6)) hp3
              refine ⟨s5.trans (s6.trans s8), p3, _, _, rfl, upd_same, ?_⟩
              rw [hgj]
              unfold rowsD
              rw [List.map_append, List.map_map]
              exact dpAll_append (dpAll_same (s6.trans s8) du) (dpAll_same s8 dv6)
        · rintro σ H5 ⟨s5, ln, us, v4', rfl, hln, du⟩
          rw [lws, List.take_length] at du
          refine ⟨_, rfl, s3.trans s5, ln, us, _, _, _, rfl, hln, ?_⟩
          rw [hgs]
          exact du
    · rintro σ H3 ⟨s3, lr, ws, v2, v3, v4, rfl, hlr, dw⟩
      rw [lts, List.take_length, rows_grow] at dw
      exact ⟨_, rfl, q _ _ s3 (.lst (.inl (.inl hlr)) dw)⟩
/-! ### _law_parted -/
def spParted (K : PySem.W.Frag) : Sp := fun vs H Q _ => ∃ x a h r, vs = [x, .ref a] ∧ Dp K H x (houseD h) ∧ h.bodies.length ≤ 3 ∧ SqT K H a (nats r) ∧ r.length = (h.bodies.map List.length).sum ∧ ∀ y H', Same H H' → Dp K H' y (psD (parts h.bodies r)) → Q y H'
theorem sc_pa : FnScope ["house", "row", "found", "place", "body"] ["house", "row"] (defScope sParted) := ⟨rfl, rfl, rfl, by decide +kernel, rfl, by decide +kernel, by decide +kernel⟩
theorem do_parted (T : Blt mg) (A : At K mg "_law_parted" sParted) : Does P w K mg base CX0 1 "_law_parted" ["house", "row"] (spParted K) := by
  obtain ⟨f, fd, F, hm⟩ := A
  refine ⟨f, fd, hm, F.kp, F.binds fun _ _ _ _ _ _ us hl => match us, hl with | [_, _], _ => rfl, F.ok sc_pa (fun vs H Q E h => ?_) (fun cdv A outer s H vs Q E hr h => ?_)⟩
  · obtain ⟨_, _, _, _, rfl, _⟩ := h
    rfl
  · obtain ⟨x, a, h, r, rfl, hd, hb3, ha, hr0, q⟩ := h
    refine ⟨_, (pss_cons (ps_asg (pe_tup (pa_cons (pe_tup pa_nil) (pa_cons pe_int pa_nil))) (pg_tup (by rfl) (pgs_cons (pg_name (i := 2) sc_pa.nd rfl (Or.inl rfl)) (pgs_cons (pg_name (i := 3) sc_pa.nd rfl (Or.inl rfl)) pgs_nil))))
      (pss_cons (ps_for PassesOwn.never rfl (pi_tup (pe_ix ix_tup (pv 0) pe_int (fun _ _ => rfl))) (pg_name (i := 4) sc_pa.nd rfl (Or.inl rfl)) (pss_cons (ps_set (i := 2) sc_pa.nd rfl (Or.inl rfl) (pe_op op_catA (pv 2) (pe_tup (pa_cons (pe_slice sl_tupA (pv 1) (po_some (pv 3)) (po_some (pe_op op_add (pv 3) (pe_callB call_len_seq (by rfl) T.len PySem.boot_len (pa_cons (pv 4) pa_nil))))) pa_nil))))
      (pss_one (ps_set (i := 3) sc_pa.nd rfl (Or.inl rfl) (pe_op op_add (pv 3) (pe_callB call_len_seq (by rfl) T.len PySem.boot_len (pa_cons (pv 4) pa_nil)))))))
      (pss_one (ps_ret (pv 2))))), ?_⟩
    obtain ⟨a0, y0, b, us, rfl, ha0, rfl, hb, db⟩ := dp_house hd
    have lu : us.length = h.bodies.length := by rw [dpAll_len db, List.length_map]
    refine ⟨len_ok (by simp), fun p0 hp0 => ⟨len_ok (by simp), fun p1 hp1 => ?_⟩⟩
    have s0 := same_new (o := .tup []) hp0
    have s1 := same_new (o := .tup [.ref p0, .int 0]) hp1
    refine ⟨p1, _, rfl, seqT_of upd_same, rfl, _, _, rfl, _, _, rfl, rfl, ?_⟩
    have s01 := s0.trans s1
    refine ⟨_, rfl, _, _, 0, _, rfl, rfl, s01.seqT ha0, at0 _ _, b, rfl, ⟨_, s01.seqT hb⟩, for_tup (K := K) (a := b) (xs := us) (fun i σ H' => Same H H' ∧ ∃ fa ws v4, σ = [some (.ref a0), some (.ref a), some (.ref fa), some (.int (((h.bodies.take i).map List.length).sum : Nat)), v4] ∧ SqT K H' fa ws ∧ DpAll K H' ws ((parts (h.bodies.take i) r).map fun l => .tuple (natD l)))
      ⟨s01, p0, [], none, rfl, s1.seqT (seqT_of upd_same), .nil⟩ (fun i σ H' _ e => e.1.seqT hb) ?_ ?_⟩
    · rintro i x σ H5 hx ⟨s5, fa, ws, v4, rfl, hfa, dw⟩
      obtain ⟨bd, hbd, dx⟩ := dpAll_map (dpAll_same s5 db) hx
      obtain ⟨e1, ss, rfl, he1, ds⟩ := dp_body dx
      have lss : ss.length = bd.length := by rw [dpAll_len ds, List.length_map]
      have hsum : ((h.bodies.take (i + 1)).map List.length).sum = ((h.bodies.take i).map List.length).sum + bd.length := by rw [take_snoc hbd]; simp
      have hle : ((h.bodies.take i).map List.length).sum + bd.length ≤ r.length := by
        rw [hr0, ← hsum]
        conv => rhs; rw [← List.take_append_drop (i + 1) h.bodies, List.map_append, List.sum_append]
        omega
      refine ⟨_, rfl, _, rfl, _, rfl, _, rfl, _, rfl, _, rfl, e1, ss, rfl, .inr he1, _, _, rfl, rfl, _, rfl, ?_⟩
      rw [lss]
      refine sl_part _ bd.length (s5.seqT ha) (by rw [nats_len]; exact hle) fun c2 H6 s6 hc2 => ⟨len_ok (by simp), fun p2 hp2 => ?_⟩
      rw [nats_cut] at hc2
      have s7 := same_new (o := .tup [.ref c2]) hp2
      have s57 := s6.trans s7
      have lw : ws.length ≤ 3 := by
        rw [dpAll_len dw, List.length_map, parts_len, List.length_take]
        omega
      have esn : (parts (h.bodies.take (i + 1)) r).map (fun l => PyData.tuple (natD l)) = (parts (h.bodies.take i) r).map (fun l => PyData.tuple (natD l)) ++ [.tuple (natD ((r.drop ((h.bodies.take i).map List.length).sum).take bd.length))] := by
        rw [take_snoc hbd, parts_snoc, List.map_append]
        rfl
      have dnew : DpAll K (upd H6 p2 (.tup [.ref c2])) (ws ++ [.ref c2]) ((parts (h.bodies.take (i + 1)) r).map fun l => .tuple (natD l)) := by
        rw [esn]
        exact dpAll_snoc (dpAll_same s57 dw) (.tup (s7.seqT hc2) (dpAll_nats _))
      refine ⟨fa, p2, ws, _, rfl, rfl, s57.seqT hfa, seqT_of upd_same, by simp; unfold sizeLine; omega, fun hws => ?_, (fun _ hbad => by cases hbad), fun hne _ p3 hp3 => ?_⟩
      · subst hws
        refine ⟨_, rfl, _, rfl, e1, ss, rfl, .inr (s57.seqT he1), _, _, rfl, rfl, s5.trans s57, p2, [.ref c2], some (.ref e1), ?_, seqT_of upd_same, dnew⟩
        rw [hsum, lss]
        rfl
      · have s8 := same_new (o := .tup (ws ++ [.ref c2])) hp3
        refine ⟨_, rfl, _, rfl, e1, ss, rfl, .inr ((s57.trans s8).seqT he1), _, _, rfl, rfl, s5.trans (s57.trans s8), p3, ws ++ [.ref c2], some (.ref e1), ?_, seqT_of upd_same, dpAll_same s8 dnew⟩
        rw [hsum, lss]
        rfl
    · rintro σ H5 ⟨s5, fa, ws, v4, rfl, hfa, dw⟩
      rw [lu, List.take_length] at dw
      exact ⟨_, rfl, q _ _ s5 (.tup hfa dw)⟩
/-! ### _law_like -/
inductive Tiny : Nat → PyData → Prop
  | non (n : Nat) : Tiny n .none
  | bl (n : Nat) (b : Bool) : Tiny n (.bool b)
  | int (n : Nat) (i : Int) : -1 ≤ i → i ≤ 60 → Tiny n (.int i)
  | str (n : Nat) : Tiny n (.str "phases")
  | tup (n : Nat) (ds : List PyData) : ds.length ≤ 12 → (∀ d ∈ ds, Tiny n d) → Tiny (n + 1) (.tuple ds)
  | lst (n : Nat) (ds : List PyData) : ds.length ≤ 12 → (∀ d ∈ ds, Tiny n d) → Tiny (n + 1) (.list ds)
def bb : Nat → Nat
  | 0 => 6
  | n + 1 => 12 * (bb n + 1)
theorem bb_ge : ∀ n, 6 ≤ bb n
  | 0 => Nat.le_refl 6
  | n + 1 => by have := bb_ge n; show 6 ≤ 12 * (bb n + 1); omega
theorem tiny_int : ∀ k : Fin 62, (PyData.int ((k.val : Int) - 1)).leavesShort 13 = true ∧ (PyData.int ((k.val : Int) - 1)).showable = true := by decide +kernel
theorem all_short {B : Nat} : ∀ {ds : List PyData}, (∀ d ∈ ds, d.leavesShort B = true) → PyData.leavesShortAll B ds = true
  | [], _ => rfl
  | d :: ds, h => by rw [PyData.leavesShortAll, h d (List.mem_cons_self ..), all_short fun x hx => h x (List.mem_cons_of_mem _ hx)]; rfl
theorem all_showable : ∀ {ds : List PyData}, (∀ d ∈ ds, d.showable = true) → PyData.showableAll ds = true
  | [], _ => rfl
  | d :: ds, h => by rw [PyData.showableAll, h d (List.mem_cons_self ..), all_showable fun x hx => h x (List.mem_cons_of_mem _ hx)]; rfl
theorem all_depth {n : Nat} : ∀ {ds : List PyData}, (∀ d ∈ ds, d.depth ≤ n) → PyData.depthAll ds ≤ n
  | [], _ => by rw [PyData.depthAll]; omega
  | d :: ds, h => by
    have h1 := h d (List.mem_cons_self ..)
    have h2 := all_depth fun x hx => h x (List.mem_cons_of_mem _ hx)
    rw [PyData.depthAll]
    omega
theorem all_bulk {n : Nat} : ∀ {ds : List PyData}, (∀ d ∈ ds, d.bulk ≤ n) → PyData.bulkAll ds ≤ ds.length * (n + 1)
  | [], _ => by rw [PyData.bulkAll]; omega
  | d :: ds, h => by
    have h1 := h d (List.mem_cons_self ..)
    have h2 := all_bulk fun x hx => h x (List.mem_cons_of_mem _ hx)
    rw [PyData.bulkAll, List.length_cons, Nat.succ_mul]
    omega
theorem tiny_all {n : Nat} {d : PyData} (h : Tiny n d) : d.showable = true ∧ d.depth ≤ n ∧ d.leavesShort 13 = true ∧ d.bulk ≤ bb n := by
  induction h with
  | non n => exact ⟨rfl, by rw [PyData.depth]; omega, rfl, by rw [PyData.bulk]; omega⟩
  | bl n b => exact ⟨rfl, by rw [PyData.depth]; omega, rfl, by rw [PyData.bulk]; omega⟩
  | int n i h1 h2 =>
    have hk := tiny_int ⟨(i + 1).toNat, by omega⟩
    have e : (((i + 1).toNat : Nat) : Int) - 1 = i := by omega
    simp only [e] at hk
    exact ⟨hk.2, by rw [PyData.depth]; omega, hk.1, by rw [PyData.bulk]; omega⟩
  | str n => exact ⟨rfl, by rw [PyData.depth]; omega, by decide +kernel, Nat.le_trans (by decide +kernel) (bb_ge n)⟩
  | tup n ds hl _ ih =>
    refine ⟨all_showable fun d hd => (ih d hd).1, ?_, all_short fun d hd => (ih d hd).2.2.1, ?_⟩
    · have := all_depth fun d hd => (ih d hd).2.1
      rw [PyData.depth]
      omega
    · have := all_bulk fun d hd => (ih d hd).2.2.2
      have h2 : ds.length * (bb n + 1) ≤ 12 * (bb n + 1) := Nat.mul_le_mul_right _ hl
      rw [PyData.bulk]
      exact Nat.le_trans this h2
  | lst n ds hl _ ih =>
    refine ⟨all_showable fun d hd => (ih d hd).1, ?_, all_short fun d hd => (ih d hd).2.2.1, ?_⟩
    · have := all_depth fun d hd => (ih d hd).2.1
      rw [PyData.depth]
      omega
    · have := all_bulk fun d hd => (ih d hd).2.2.2
      have h2 : ds.length * (bb n + 1) ≤ 12 * (bb n + 1) := Nat.mul_le_mul_right _ hl
      rw [PyData.bulk]
      exact Nat.le_trans this h2
theorem tiny_ok {d : PyData} (h : Tiny 4 d) : d.showable = true ∧ d.depth ≤ 4 ∧ d.shown.length ≤ sizeLine := by
  obtain ⟨h1, h2, h3, h4⟩ := tiny_all h
  exact ⟨h1, h2, PyData.shown_fits_bulk (by omega) (by omega) h3 (Nat.le_trans h4 (by decide))⟩
def spLike (K : PySem.W.Frag) : Sp := fun vs H Q _ => ∃ a b d, vs = [.ref a, .ref b] ∧ Dp K H (.ref a) d ∧ Dp K H (.ref b) d ∧ Tiny 4 d ∧ Q (.bl true) H
theorem sc_lk : FnScope ["answer", "due"] ["answer", "due"] (defScope sLike) := ⟨rfl, rfl, rfl, by decide +kernel, rfl, by decide +kernel, by decide +kernel⟩
theorem do_like (T : Blt mg) (A : At K mg "_law_like" sLike) : DoesG P w K mg base CX0 1 "_law_like" ["answer", "due"] (spLike K) := by
  obtain ⟨f, fd, F, hm⟩ := A
  refine ⟨f, fd, hm, F.kp, F.binds fun _ _ _ _ _ _ us hl => match us, hl with | [_, _], _ => rfl, okG F sc_lk (fun vs H Q E h => ?_) (fun cdv A outer s H vs Q E hgu _ _ hr h => ?_)⟩
  · obtain ⟨_, _, _, rfl, _⟩ := h
    rfl
  · obtain ⟨a, b, d, rfl, ha, hb, hd, q⟩ := h
    refine ⟨_, (pss_one (ps_ret (pe_cmpR op_eq (pe_callB (call_reprD hgu hr.units) (by rfl) T.repr (by decide +kernel) (pa_cons (pv 0) pa_nil)) (pe_callB (call_reprD hgu hr.units) (by rfl) T.repr (by decide +kernel) (pa_cons (pv 1) pa_nil)) (nomark _)))), ?_⟩
    obtain ⟨h1, h2, h3⟩ := tiny_ok hd
    exact ⟨_, rfl, a, d, rfl, ha, h1, Nat.le_trans h2 (by decide), h3, _, rfl, b, d, rfl, hb, h1, Nat.le_trans h2 (by decide), h3, rfl, by
      rw [decide_eq_true rfl]
      exact q⟩
/-! ### _law_spread_right -/
theorem tiny_nats (n : Nat) {l : List Nat} (h1 : l.length ≤ 12) (h2 : ∀ p ∈ l, p ≤ 60) : Tiny (n + 1) (.tuple (natD l)) := by
  refine .tup n _ (by rw [natD_len]; exact h1) fun d hd => ?_
  obtain ⟨p, hp, rfl⟩ := List.mem_map.mp hd
  exact .int n _ (by omega) (by have := h2 p hp; omega)
theorem tiny_psD (n : Nat) {ps : List (List Nat)} (h0 : ps.length ≤ 12) (h : ∀ l ∈ ps, l.length ≤ 12 ∧ ∀ p ∈ l, p ≤ 60) : Tiny (n + 2) (psD ps) := by
  refine .tup _ _ (by rw [List.length_map]; exact h0) fun d hd => ?_
  obtain ⟨l, hl, rfl⟩ := List.mem_map.mp hd
  exact tiny_nats n (h l hl).1 (h l hl).2
theorem parts_mem : ∀ {bs : List Body} {r l : List Nat}, l ∈ parts bs r → (∃ b ∈ bs, l.length ≤ b.length) ∧ ∀ p ∈ l, p ∈ r
  | [], _, _, h => by exact absurd h (by simp [parts])
  | b :: bs, r, l, h => by
    rcases List.mem_cons.mp (show l ∈ r.take b.length :: parts bs (r.drop b.length) from h) with e | e
    · subst e
      exact ⟨⟨b, List.mem_cons_self .., by rw [List.length_take]; omega⟩, fun p hp => List.mem_of_mem_take hp⟩
    · obtain ⟨⟨b', hb', h1⟩, h2⟩ := parts_mem e
      exact ⟨⟨b', List.mem_cons_of_mem _ hb', h1⟩, fun p hp => List.mem_of_mem_drop (h2 p hp)⟩
theorem phs_le {ts ps : List Nat} (h : Phs ts ps) (ht : ∀ t ∈ ts, t ≤ 6) : ∀ p ∈ ps, p ≤ 60 := by
  induction h with
  | nil => intro p hp; exact absurd hp (by simp)
  | cons hpt _ ih =>
    intro p hp
    rcases List.mem_cons.mp hp with e | e
    · subst e
      have := ht _ (List.mem_cons_self ..)
      omega
    · exact ih (fun t h => ht t (List.mem_cons_of_mem _ h)) p e
theorem loads_le {ts ps : List Nat} : ∀ x ∈ K88.loads ts ps, x ≤ ts.length := by
  intro x hx
  obtain ⟨n, _, rfl⟩ := List.mem_map.mp hx
  refine Nat.le_trans List.countP_le_length ?_
  rw [List.length_zip]
  omega
theorem cost_le (ts ps : List Nat) : cost ts ps ≤ ts.length := maxL_le loads_le
theorem terms_6 {h : House} (ok : HouseOk h) : ∀ t ∈ terms h, t ≤ 6 := by
  intro t ht
  rw [terms_seats] at ht
  obtain ⟨s, hs, rfl⟩ := List.mem_map.mp ht
  exact (seats_ok ok hs).t6
theorem tiny_spr {h : House} {b : Nat} {q : List Nat} (ok : HouseOk h) (B : Best (cost (terms h)) (rows (terms h)) b q) : Tiny 3 (sprD h b q) := by
  have h9 : (terms h).length ≤ 9 := by rw [terms_len]; exact ok.s9
  have hb : b ≤ 9 := by rw [← B.val]; exact Nat.le_trans (cost_le _ _) h9
  refine .tup 2 _ (by simp) fun d hd => ?_
  rcases List.mem_cons.mp hd with e | hd
  · subst e
    exact .int _ _ (by omega) (by omega)
  · rw [List.mem_singleton] at hd
    subst hd
    refine tiny_psD 0 (by rw [parts_len]; have := ok.b3; omega) fun l hl => ?_
    obtain ⟨⟨b', hb', h1⟩, h2⟩ := parts_mem hl
    have := (ok.s1 b' hb').2
    exact ⟨by omega, fun p hp => phs_le (rows_phs _ _ B.mem) (terms_6 ok) p (h2 p hp)⟩
def spSpreadRight (K : PySem.W.Frag) : Sp := fun vs H Q _ => ∃ x a h, vs = [x, .ref a] ∧ Dp K H x (houseD h) ∧ HouseL h ∧ SqL K H a (nats (terms h)) ∧ ∀ H', Same H H' → Q (.bl true) H'
theorem sc_sr : FnScope ["house", "terms", "many", "term", "best", "first", "row", "here", "due"] ["house", "terms"] (defScope sSpreadRight) := ⟨rfl, rfl, rfl, by decide +kernel, rfl, by decide +kernel, by decide +kernel⟩
theorem do_spreadRight {CH : Addr} (T : Blt mg) (A : At K mg "_law_spread_right" sSpreadRight) (DA : Does P w K mg base CX0 13 "_law_all_phases" ["terms"] (spAllPhases K)) (DL : Does P w K mg base CX0 13 "_law_loads" ["terms", "phases_so"] (spLLoads K))
    (DP : Does P w K mg base CX0 13 "_law_parted" ["house", "row"] (spParted K)) (DS : Does P w K mg base (L2.CX P w) 13 "spread" ["house"] (spSpread K CH)) (DK : DoesG P w K mg base CX0 13 "_law_like" ["answer", "due"] (spLike K)) :
    DoesG P w K mg base CX0 14 "_law_spread_right" ["house", "terms"] (spSpreadRight K) := by
  obtain ⟨f, fd, F, hm⟩ := A
  refine ⟨f, fd, hm, F.kp, F.binds fun _ _ _ _ _ _ us hl => match us, hl with | [_, _], _ => rfl, okG F sc_sr (fun vs H Q E h => ?_) (fun cdv A outer s H vs Q E hgu _ _ hr h => ?_)⟩
  · obtain ⟨_, _, _, rfl, _⟩ := h
    rfl
  · obtain ⟨x, a, h, rfl, hd, ok, ha, q⟩ := h
    refine ⟨_, (pss_cons (ps_set (i := 2) sc_sr.nd rfl (Or.inl rfl) pe_int)
      (pss_cons (ps_for PassesOwn.never rfl (pi_list (pv 1)) (pg_name (i := 3) sc_sr.nd rfl (Or.inl rfl)) (pss_one (ps_set (i := 2) sc_sr.nd rfl (Or.inl rfl) (pe_op op_mul (pv 2) (pv 3)))))
      (pss_cons (ps_if (pt_cmpR op_gt (pv 2) pe_int (nomark _)) (pss_one (ps_ret pe_bl)) pss_nil)
      (pss_cons (ps_asg (pe_tup (pa_cons pe_non (pa_cons pe_non pa_nil))) (pg_tup (by rfl) (pgs_cons (pg_name (i := 4) sc_sr.nd rfl (Or.inl rfl)) (pgs_cons (pg_name (i := 5) sc_sr.nd rfl (Or.inl rfl)) pgs_nil))))
      (pss_cons (ps_for PassesOwn.never rfl (pi_list (pe_do DA hr pass0 (pa_cons (pv 1) pa_nil))) (pg_name (i := 6) sc_sr.nd rfl (Or.inl rfl)) (pss_cons (ps_set (i := 7) sc_sr.nd rfl (Or.inl rfl) (pe_callB (cr_maxT rfl hr.units) (by rfl) T.max (by decide +kernel) (pa_cons (pe_do DL hr pass0 (pa_cons (pv 1) (pa_cons (pv 6) pa_nil))) pa_nil)))
      (pss_one (ps_if (PW.pt (pw_or (pt_cmpR op_isN (pv 4) pe_non (nomark _)) (pw_or1 (pt_cmpR op_lt (pv 7) (pv 4) (nomark _))))) (pss_one (ps_par (i := 4) (j := 5) (by rfl) sc_sr.nd rfl rfl (by decide) rfl rfl (pa_cons (pv 7) (pa_cons (pv 6) pa_nil)) (by rfl))) pss_nil))))
      (pss_cons (ps_set (i := 8) sc_sr.nd rfl (Or.inl rfl) (pe_tup (pa_cons (pv 4) (pa_cons (pe_do DP hr pass0 (pa_cons (pv 0) (pa_cons (pv 5) pa_nil))) pa_nil))))
      (pss_one (ps_ret (pe_doG hgu DK hr pass0 (pa_cons (pe_lst (pa_cons (pe_do DS hr passL (pa_cons (pv 0) pa_nil)) (pa_cons (pe_do DS hr passL (pa_cons (pv 0) pa_nil)) pa_nil))) (pa_cons (pe_lst (pa_cons (pv 8) (pa_cons (pv 8) pa_nil))) pa_nil))))))))))), ?_⟩
    have hok := ok.ok
    have lts : (nats (terms h)).length = (terms h).length := nats_len _
    have tpos := terms_pos hok
    have t6 := terms_6 hok
    have h9 : (terms h).length ≤ 9 := by rw [terms_len]; exact hok.s9
    have hr12 := hok.round
    refine ⟨_, rfl, a, rfl, ⟨_, ha⟩, for_list (K := K) (a := a) (xs := nats (terms h)) (fun i σ H' => H' = H ∧ ∃ v3, σ = [some x, some (.ref a), some (.int (prodL ((terms h).take i) : Nat)), v3, none, none, none, none, none])
      ⟨rfl, none, rfl⟩ (fun i σ H' _ e => by rw [e.1]; exact ha) ?_ ?_⟩
    · rintro i z σ H1 hz ⟨rfl, v3, rfl⟩
      rw [nats_get] at hz
      cases hti : (terms h)[i]? with
      | none => rw [hti] at hz; cases hz
      | some t =>
        rw [hti] at hz
        cases hz
        have := t6 t (List.mem_of_getElem? hti)
        refine ⟨_, rfl, _, rfl, _, _, rfl, rfl, .inr ⟨by omega, by omega⟩, rfl, some (.int (t : Nat)), ?_⟩
        have e : prodL ((terms h).take (i + 1)) = prodL ((terms h).take i) * t := by
          rw [take_snoc hti, prodL_append]
          simp [prodL]
        rw [e]
        rfl
    · rintro σ H1 ⟨rfl, v3, rfl⟩
      rw [lts, List.take_length]
      refine ⟨_, rfl, _, _, rfl, rfl, _, rfl, ?_⟩
      by_cases hbig : 1300 < prodL (terms h)
      · exact if_t (decide_eq_true (by omega)) (q _ (Same.refl _))
      · refine if_f (decide_eq_false (by omega)) ?_
        refine ⟨len_ok (by simp), fun p0 hp0 => ?_⟩
        have s0 := same_new (o := .tup [.non, .non]) hp0
        refine ⟨p0, _, rfl, seqT_of upd_same, rfl, _, _, rfl, _, _, rfl, rfl, ?_⟩
        refine ⟨_, rfl, a, _, rfl, sql_same s0 ha, fun t ht => ⟨tpos t ht, t6 t ht⟩, by omega, by omega, fun y H2 s2 dy => ?_⟩
        obtain ⟨lr, ws, rfl, hlr, dw⟩ := dp_list dy
        have lws : ws.length = (rows (terms h)).length := by rw [dpAll_len dw, rowsD, List.length_map]
        have s02 := s0.trans s2
        refine ⟨lr, rfl, ⟨_, hlr⟩, for_list (K := K) (a := lr) (xs := ws) (fun j σ H' => Same H2 H' ∧ ∃ bv fv v6 v7, σ = [some x, some (.ref a), some (.int (prodL (terms h) : Nat)), v3, some bv, some fv, v6, v7, none] ∧
            ((j = 0 ∧ bv = .non) ∨ ∃ b q c, bv = .int (b : Nat) ∧ fv = .ref c ∧ SqT K H' c (nats q) ∧ Best (cost (terms h)) ((rows (terms h)).take j) b q))
          ⟨Same.refl _, .non, .non, none, none, rfl, .inl ⟨rfl, rfl⟩⟩ (fun j σ H' _ e => sql_same e.1 hlr) ?_ ?_⟩
        · rintro j z σ H3 hz ⟨s3, bv, fv, v6, v7, rfl, hbest⟩
          obtain ⟨d, hd', dz⟩ := dpAll_at (dpAll_same s3 dw) hz
          unfold rowsD at hd'
          rw [List.getElem?_map] at hd'
          cases hrj : (rows (terms h))[j]? with
          | none => rw [hrj] at hd'; cases hd'
          | some r =>
            rw [hrj] at hd'
            cases hd'
            obtain ⟨ra, rv, rfl, hra, dra⟩ := dp_tuple dz
            have erv := nats_of dra
            subst erv
            have hph := rows_phs _ _ (List.mem_of_getElem? hrj)
            refine ⟨_, rfl, _, rfl, a, ra, terms h, r, rfl, sql_same (s02.trans s3) ha, .inr hra, hph, by omega, by omega, fun c H4 s4 hcF => ?_⟩
            have hc' : SqT K H4 c _ := hcF.seq
            rw [nats_ints] at hc'
            have hl0 : 0 < ((K88.loads (terms h) r).map fun (n : Nat) => (n : Int)).length := by
              rw [List.length_map]
              exact List.length_pos_iff.mpr (loads_ne tpos)
            refine ⟨c, _, rfl, hc', hl0, fun mm m1 m2 => ?_⟩
            obtain rfl := max_ints m1 m2
            have hra4 := s4.seqT hra
            rcases hbest with ⟨rfl, rfl⟩ | ⟨b, qq, cc, rfl, rfl, hcc, B⟩
            · refine ⟨_, rfl, rfl, _, rfl, iteT ?_⟩
              refine ⟨_, rfl, _, rfl, _, _, rfl, s3.trans s4, _, _, _, _, rfl, .inr ⟨cost (terms h) r, r, ra, rfl, rfl, hra4, ?_⟩⟩
              rw [take_snoc hrj, List.take_zero, List.nil_append]
              exact Best.one _ r
            · refine ⟨_, rfl, rfl, _, rfl, iteF ?_⟩
              refine ⟨_, rfl, _, rfl, _, _, rfl, rfl, _, rfl, ?_⟩
              obtain ⟨b', q', hst, B'⟩ := B.step (r := r)
              by_cases hlt : cost (terms h) r < b
              · refine if_t (decide_eq_true (by show ((maxL (K88.loads (terms h) r) : Nat) : Int) < (b : Int); have : maxL (K88.loads (terms h) r) < b := hlt; omega)) ?_
                simp only [bestStep, if_pos hlt, Option.some.injEq, Prod.mk.injEq] at hst
                obtain ⟨rfl, rfl⟩ := hst
                refine ⟨_, rfl, _, rfl, _, _, rfl, s3.trans s4, _, _, _, _, rfl, .inr ⟨cost (terms h) r, r, ra, rfl, rfl, hra4, ?_⟩⟩
                rw [take_snoc hrj]
                exact B'
              · refine if_f (decide_eq_false (by show ¬ ((maxL (K88.loads (terms h) r) : Nat) : Int) < (b : Int); have : ¬ maxL (K88.loads (terms h) r) < b := hlt; omega)) ?_
                simp only [bestStep, if_neg hlt, Option.some.injEq, Prod.mk.injEq] at hst
                obtain ⟨rfl, rfl⟩ := hst
                refine ⟨s3.trans s4, _, _, _, _, rfl, .inr ⟨b, qq, cc, rfl, rfl, s4.seqT hcc, ?_⟩⟩
                rw [take_snoc hrj]
                exact B'
        · rintro σ H3 ⟨s3, bv, fv, v6, v7, rfl, hbest⟩
          rw [lws] at hbest
          rcases hbest with ⟨h0, _⟩ | ⟨b, qq, cc, rfl, rfl, hcc, B⟩
          · exact absurd (List.length_eq_zero_iff.mp h0) (rows_ne _ tpos)
          · rw [List.take_length] at B
            have s023 := s02.trans s3
            have hq : qq.length = (h.bodies.map List.length).sum := by rw [← terms_len]; exact rows_len _ _ B.mem
            refine ⟨_, rfl, _, rfl, _, rfl, x, cc, h, qq, rfl, dp_same s023 hd, hok.b3, hcc, hq, fun y H4 s4 dy => ⟨len_ok (by simp), fun pd hpd => ?_⟩⟩
            have s5 := same_new (o := .tup [.int (b : Nat), y]) hpd
            have dd : Dp K (upd H4 pd (.tup [.int (b : Nat), y])) (.ref pd) (sprD h b qq) := .tup (seqT_of upd_same) (.cons (.int _) (.cons (dp_same s5 dy) .nil))
            have s05 := s023.trans (s4.trans s5)
            generalize hH5 : upd H4 pd (.tup [.int (b : Nat), y]) = H5 at *
            refine ⟨_, rfl, x, _, rfl, dp_same s05 hd, .inl ⟨h, b, qq, rfl, hok, B, fun y1 H6 s6 d1 => ?_⟩⟩
            refine ⟨_, rfl, x, _, rfl, dp_same (s05.trans s6) hd, .inl ⟨h, b, qq, rfl, hok, B, fun y2 H7 s7 d2 => ?_⟩⟩
            refine ⟨len_ok (by simp), fun l1 hl1 => ?_⟩
            have s8 := same_new (o := .lst [y1, y2]) hl1
            refine ⟨_, rfl, _, rfl, len_ok (by simp), fun l2 hl2 => ?_⟩
            have s9 := same_new (o := .lst [.ref pd, .ref pd]) hl2
            have dA := dp_same (s7.trans (s8.trans s9)) d1
            have dB := dp_same (s8.trans s9) d2
            have dC := dp_same (s6.trans (s7.trans (s8.trans s9))) dd
            refine ⟨l1, l2, .list [sprD h b qq, sprD h b qq], rfl, .lst (.inl (.inl (s9 _ _ upd_same))) (.cons dA (.cons dB .nil)), .lst (.inl (.inl upd_same)) (.cons dC (.cons dC .nil)), ?_, q _ (s05.trans (s6.trans (s7.trans (s8.trans s9))))⟩
            refine .lst 3 _ (by simp) fun d hd => ?_
            have : d = sprD h b qq := by simpa using hd
            rw [this]
            exact tiny_spr hok B
end
end K88
set_option maxHeartbeats 1000000
/-! _law_said, its calls with a lambda. -/
namespace K88
open PySem PySem.Spec PyProof.Rows L2 LamX K88X
/-- the classes of the package's errors, as the clauses see them -/
structure Errs (K : PySem.W.Frag) (mg : Str → Option Value) (CH CP : Addr) (c2 c3 c4 c5 c6 c7 c9 c10 : Value) : Prop where
  m1 : mg "BadHouse" = some (.ref CH)
  m2 : mg "BadStand" = some c2
  m3 : mg "BadChoices" = some c3
  m4 : mg "BadBand" = some c4
  m5 : mg "BadNumber" = some c5
  m6 : mg "BadWide" = some c6
  m7 : mg "BadSeen" = some c7
  m8 : mg "BadPhases" = some (.ref CP)
  m9 : mg "BadText" = some c9
  m10 : mg "TooGreat" = some c10
  hh : PySem.W.exmOne K (.ref CH) (.ref CH) = some true
  p1 : PySem.W.exmOne K (.ref CP) (.ref CH) = some false
  p2 : PySem.W.exmOne K (.ref CP) c2 = some false
  p3 : PySem.W.exmOne K (.ref CP) c3 = some false
  p4 : PySem.W.exmOne K (.ref CP) c4 = some false
  p5 : PySem.W.exmOne K (.ref CP) c5 = some false
  p6 : PySem.W.exmOne K (.ref CP) c6 = some false
  p7 : PySem.W.exmOne K (.ref CP) c7 = some false
  pp : PySem.W.exmOne K (.ref CP) (.ref CP) = some true
theorem three_of {α : Type} {l : List α} (h : l.length = 3) : ∃ x y z, l = [x, y, z] := by
  match l, h with
  | [x, y, z], _ => exact ⟨x, y, z, rfl⟩
/-- what _law_said makes of a call tl that raises one of the two -/
def saidT (CH CP : Addr) (tl : XK → Hp → VK → Prop) (H : Hp) (Q : VK) : Prop := ∀ (l0 : Addr) (E0 : XK) (R : VK), H l0 = none →
  (∀ dd v H', H' dd = some (.xd [("place", v)]) → (∀ p, H' p = none → Q (.ref p) (upd H' p (.tup [.str "house", v]))) → E0 (.ref CH) (some dd) H') →
  (∀ dd v H', H' dd = some (.xd [("value", v)]) → (∀ p, H' p = none → Q (.ref p) (upd H' p (.tup [.str "phases", v]))) → E0 (.ref CP) (some dd) H') →
  tl E0 (upd H l0 (.lst [])) R
theorem takes_len {X : Cx} {W : WX} (t : Takes X W) : Takes X (fun cls d σ H => σ.length = X.N.length → W cls d σ H) := fun u s' ⟨a, B, sI, pins, σ, H, cls, d, e, I, nb, up, sky, na, os, ag, w⟩ =>
  t u s' ⟨a, B, sI, pins, σ, H, cls, d, e, I, nb, up, sky, na, os, ag, w I.len⟩
theorem sc_sd : FnScope ["call", "told_so", "e"] ["call"] (defScope sSaid) := ⟨rfl, rfl, rfl, by decide +kernel, rfl, by decide +kernel, by decide +kernel⟩
theorem gives_said {X : Cx} {CH CP iH iP g : Addr} {c2 c3 c4 c5 c6 c7 c9 c10 : Value} {cdv : Value} {q : Str} (S : Errs X.K X.mg CH CP c2 c3 c4 c5 c6 c7 c9 c10)
    (TH : ExTxt X.prog X.K X.mg "BadHouse" "BadHouse.__init__" "place" sBadHouse CH iH) (TP : ExTxt X.prog X.K X.mg "BadPhases" "BadPhases.__init__" "value" sBadPhases CP iP) :
    GivesTo X ["call", "told_so", "e"] "_law_said" (defScope sSaid) g cdv (defBody sSaid) "call" q (saidT CH CP) := by
  intro f c' s H Q tl act hc hT
  refine ⟨_, pss_cons (ps_set (i := 1) sc_sd.nd rfl (Or.inl rfl) (pe_lst pa_nil)) (pss_cons (ps_try_each (i := 2) (Wout := fun _ _ _ _ => False)
    (tb := fun W => tAsg (tLst (tCons (fun σZ HZ Q => σZ[0]? = some (some (.ref f)) ∧ HZ c' = some (CodeO c' q) ∧ tl (fun cls d H' => ∀ σ' : L2.St, σ'.length = 3 → W cls d σ' H') HZ Q) tNil)) (gName 1))
    rfl rfl sc_sd.nd rfl (by rfl) L2.takes0 (fun W pn xe tk _ => pss_one (ps_set (i := 1) sc_sd.nd rfl (Or.inl rfl) (pe_lst (pa_cons (act _ pn xe (fun cls d H' => ∀ σ' : L2.St, σ'.length = 3 → W cls d σ' H') _ _ (takes_len tk) (fun cls d σ' H' h hl => h σ' hl)) pa_nil))))
    (.cons (c := .ref CH) ⟨rfl, by decide, .inl S.m1⟩ (fun a oe cls d pn hz hf => pss_one (ps_set (i := 1) sc_sd.nd rfl (Or.inl rfl) (pe_tup (pa_cons pe_str (pa_cons (pe_byBad TH hz hf (pv 2)) pa_nil)))))
    (.cons (c := c2) ⟨rfl, by decide, .inl S.m2⟩ (fun a oe cls d pn hz hf => pss_one ps_never)
    (.cons (c := c3) ⟨rfl, by decide, .inl S.m3⟩ (fun a oe cls d pn hz hf => pss_one ps_never)
    (.cons (c := c4) ⟨rfl, by decide, .inl S.m4⟩ (fun a oe cls d pn hz hf => pss_one ps_never)
    (.cons (c := c5) ⟨rfl, by decide, .inl S.m5⟩ (fun a oe cls d pn hz hf => pss_one ps_never)
    (.cons (c := c6) ⟨rfl, by decide, .inl S.m6⟩ (fun a oe cls d pn hz hf => pss_one ps_never)
    (.cons (c := c7) ⟨rfl, by decide, .inl S.m7⟩ (fun a oe cls d pn hz hf => pss_one ps_never)
    (.cons (c := .ref CP) ⟨rfl, by decide, .inl S.m8⟩ (fun a oe cls d pn hz hf => pss_one (ps_set (i := 1) sc_sd.nd rfl (Or.inl rfl) (pe_tup (pa_cons pe_str (pa_cons (pe_byBad TP hz hf (pv 2)) pa_nil)))))
    (.cons (c := c9) ⟨rfl, by decide, .inl S.m9⟩ (fun a oe cls d pn hz hf => pss_one ps_never)
    (.cons (c := c10) ⟨rfl, by decide, .inl S.m10⟩ (fun a oe cls d pn hz hf => pss_one ps_never) .nil)))))))))))
    (pss_one (ps_ret (pv 1)))), ?_⟩
  refine ⟨len_ok (by simp), fun l0 hl0 => ⟨rfl, (same_new hl0) _ _ hc, hT l0 _ _ hl0 (fun dd v H' hdd hq σ' hl => ?_) (fun dd v H' hdd hq σ' hl => ?_)⟩⟩
  · obtain ⟨x, y, z, rfl⟩ := three_of hl
    exact ⟨true, S.hh, fun _ a ha => ⟨_, rfl, rfl, rfl, dd, v, rfl, hdd, len_ok (by simp), fun p hp => ⟨_, rfl, hq p hp⟩⟩, fun h => nomatch h⟩
  · obtain ⟨x, y, z, rfl⟩ := three_of hl
    refine ⟨false, S.p1, (fun h => nomatch h), fun _ => ⟨false, S.p2, (fun h => nomatch h), fun _ => ⟨false, S.p3, (fun h => nomatch h), fun _ => ⟨false, S.p4, (fun h => nomatch h), fun _ => ⟨false, S.p5, (fun h => nomatch h), fun _ =>
      ⟨false, S.p6, (fun h => nomatch h), fun _ => ⟨false, S.p7, (fun h => nomatch h), fun _ => ⟨true, S.pp, fun _ a ha => ⟨_, rfl, rfl, rfl, dd, v, rfl, hdd, len_ok (by simp), fun p hp => ⟨_, rfl, hq p hp⟩⟩, fun h => nomatch h⟩⟩⟩⟩⟩⟩⟩⟩
/-- the table of the lambdas' code objects, where _law_said stands -/
structure SaidAt (P : Program) (K : PySem.W.Frag) (mg : Str → Option Value) (base : Heap) (CH CP : Addr) (c T : Addr) : Prop where
  at_ : ∃ (g : Addr) (oc : Value) (od : Option Addr) (kV doc pm : Value) (an : Option Addr) (cdv ct : Value) (osl : Array (Option Value)), mg "_law_said" = some (.ref g) ∧ PySem.W.keepIn K (.ref g) = true ∧
    K.lookup g = some ⟨oc, od, .func (PySem.W.fnOf "_law_said" "_law_said" (defArgs sSaid) (defBody sSaid) (defScope sSaid) .none kV doc pm an cdv ct), osl⟩ ∧ PySem.W.codeIn K cdv "_law_said" = true
  errs : ∃ c2 c3 c4 c5 c6 c7 c9 c10, Errs K mg CH CP c2 c3 c4 c5 c6 c7 c9 c10
  th : ∃ iH, ExTxt P K mg "BadHouse" "BadHouse.__init__" "place" sBadHouse CH iH
  tp : ∃ iP, ExTxt P K mg "BadPhases" "BadPhases.__init__" "value" sBadPhases CP iP
  tb : TabB base mg c T
/-- _law_said(lambda: body) -/
theorem pe_said {X : Cx} {CH CP c Tb : Addr} {k : Nat} {params : Arguments} {body : Expr} {scope : Scope} {t : XK → TE} {p lpos pos : Pos} (Dv : List Value → Prop) (S : SaidAt X.prog X.K X.mg X.base CH CP c Tb) (hcode : X.env.code = .ref c) (hr : Room (k + 2) X.A) (L : LamN X.N X.env.scope scope) (hk0 : params.kw_defaults = [])
    (hdv : ∀ (s : Shared) (Q : List Value → Shared → Prop), (∀ dv tk, Dv dv → Q dv { s with toks := tk }) → wpAny (model X.prog X.w) X.A (evalAll (evalEach params.defaults X.env)) Q X.xe s)
    (hbind : ∀ (q : Str) (cl : List (Str × Addr)) (dV doc pm cv ctv : Value) (dv : List Value), Dv dv → ∀ (s1 : Shared), (dv = [] ∧ dV = .none ∨ ∃ t, dV = .ref t ∧ s1.heap.get? t = some (PySem.W.kdv_tup dv)) → ∃ binds, BindsTo s1 (PySem.W.kdv_fn "<lambda>" q params (.expr body) scope cl dV doc pm cv ctv) ⟨[], []⟩ binds ∧ ∀ y ∈ binds, scope.names.lookup y.1 = some .local)
    (hbody : ∀ (A : Around) (outer : List Env) (s : Shared) (H : Hp) (E : XK) (f c' : Addr), Room k (A.deeper (lamEnv X scope s.heap.objs.size f c')) → PE (lamCx X A outer s H E scope f c') body (t E))
    (hg : Gl X "_law_said" := by rfl) :
    PE X (.Call (.Name "_law_said" p) [.Lambda params body scope lpos] [] pos) (tLam [(Tb, X.env.qual ++ "<lambda>")] (saidT CH CP) t) := by
  obtain ⟨g, oc, od, kV, doc, pm, an, cdv, ct, osl, hm, hk, lk, hcd⟩ := S.at_
  obtain ⟨_, _, _, _, _, _, _, _, E⟩ := S.errs
  obtain ⟨_, TH⟩ := S.th
  obtain ⟨_, TP⟩ := S.tp
  have hbs : L2.Binds X.K (PySem.W.fnOf "_law_said" "_law_said" (defArgs sSaid) (defBody sSaid) (defScope sSaid) .none kV doc pm an cdv ct) ["call"] [] := .all fun us hl => match us, hl with | [_], _ => rfl
  exact pe_lamcall3 (Dv := Dv) hg hm hk lk hcd hbs sc_sd rfl (.inl rfl) (gives_said E TH TP) S.tb hcode (List.mem_singleton.mpr rfl) (fun p hp _ => by rw [List.mem_singleton] at hp; rw [hp]) hr L hk0 hdv hbind hbody
/-- no parameters -/
theorem lam0_dv {X : Cx} : ∀ (s : Shared) (Q : List Value → Shared → Prop), (∀ dv tk, dv = [] → Q dv { s with toks := tk }) → wpAny (model X.prog X.w) X.A (evalAll (evalEach [] X.env)) Q X.xe s := fun s Q h => evalAll_nil (h [] s.toks rfl)
/-- y=0 -/
theorem lam1_dv {X : Cx} {k : Nat} {p : Pos} : ∀ (s : Shared) (Q : List Value → Shared → Prop), (∀ dv tk, (∃ u, dv = [.int 0 u]) → Q dv { s with toks := tk }) → wpAny (model X.prog X.w) X.A (evalAll (evalEach [.Constant (.int 0) k p] X.env)) Q X.xe s := fun s Q h => by
  refine PySem.W.kdv_all1 (wpAny_Constant_int (evalAll_nil (h _ _ ⟨_, rfl⟩)))
end K88
set_option maxHeartbeats 1000000
/-! What the law's own walk leans on: phases of a drawn house, things that are none, slices, tables. -/
namespace K88
open PySem PySem.Spec PyProof.Rows L2 LamX K88X
theorem Phs.append {a b p q : List Nat} (h : Phs a p) (k : Phs b q) : Phs (a ++ b) (p ++ q) := by
  induction h with
  | nil => exact k
  | cons hp _ ih => exact .cons hp ih
theorem Phs.split : ∀ {a b r : List Nat}, Phs (a ++ b) r → Phs a (r.take a.length) ∧ Phs b (r.drop a.length)
  | [], b, r, h => by simpa using ⟨Phs.nil, h⟩
  | t :: a, b, r, h => by
    cases h with
    | cons hp h2 =>
      obtain ⟨h3, h4⟩ := Phs.split h2
      exact ⟨.cons hp h3, h4⟩
theorem phs_row : ∀ {b : Body} {l : List Nat}, l.length = b.length → (∀ (j : Nat) (s : Seat) (p : Nat), b[j]? = some s → l[j]? = some p → p < s.t) → Phs (b.map Seat.t) l
  | [], [], _, _ => .nil
  | s :: b, p :: l, e, h => .cons (h 0 s p rfl rfl) (phs_row (by simpa using e) fun j s p e1 e2 => h (j + 1) s p e1 e2)
theorem row_phs {b : Body} {l : List Nat} (h : Phs (b.map Seat.t) l) : l.length = b.length ∧ ∀ (j : Nat) (s : Seat) (p : Nat), b[j]? = some s → l[j]? = some p → p < s.t := by
  refine ⟨by rw [h.length, List.length_map], fun j s p e1 e2 => ?_⟩
  obtain ⟨p', h1, h2⟩ := phs_at h (i := j) (t := s.t) (by rw [List.getElem?_map, e1]; rfl)
  rw [e2] at h1
  cases h1
  exact h2
theorem phok_phs : ∀ {bs : List Body} {ps : List (List Nat)}, ps.length = bs.length → (∀ (i : Nat) (b : Body) (l : List Nat), bs[i]? = some b → ps[i]? = some l → Phs (b.map Seat.t) l) → Phs (bs.flatMap fun b => b.map Seat.t) ps.flatten
  | [], [], _, _ => .nil
  | b :: bs, l :: ps, e, h => by
    rw [List.flatMap_cons, List.flatten_cons]
    exact (h 0 b l rfl rfl).append (phok_phs (by simpa using e) fun i b l e1 e2 => h (i + 1) b l e1 e2)
theorem PhOk.phs {h : House} {ps : List (List Nat)} (k : PhOk h ps) : Phs (K88.terms h) ps.flatten := phok_phs k.len fun i b l e1 e2 => phs_row (k.row i b l e1 e2).1 (k.row i b l e1 e2).2
theorem parts_row : ∀ {bs : List Body} {r : List Nat}, Phs (bs.flatMap fun b => b.map Seat.t) r → ∀ (i : Nat) (b : Body) (l : List Nat), bs[i]? = some b → (parts bs r)[i]? = some l → Phs (b.map Seat.t) l
  | [], _, _, i, b, l, e, _ => by simp at e
  | c :: bs, r, h, i, b, l, e1, e2 => by
    rw [List.flatMap_cons] at h
    obtain ⟨h1, h2⟩ := h.split
    rw [List.length_map] at h1 h2
    cases i with
    | zero =>
      simp at e1
      subst e1
      have : r.take c.length = l := by simpa [parts] using e2
      rw [← this]
      exact h1
    | succ i => exact parts_row h2 i b l (by simpa using e1) (by simpa [parts] using e2)
theorem parts_ok {h : House} {r : List Nat} (k : Phs (terms h) r) : PhOk h (parts h.bodies r) := ⟨parts_len _ _, fun i b l e1 e2 => row_phs (parts_row k i b l e1 e2)⟩
section
variable {K : PySem.W.Frag} {H : Hp} {Q : VK}
theorem cat_any {a b : Addr} {xs ys : List V} (ha : SqT K H a xs) (hb : SqT K H b ys) (hz : xs.length + ys.length ≤ 1000) (q : ∀ c H', Same H H' → SqT K H' c (xs ++ ys) → Q (.ref c) H') : rCatA K (.ref a) (.ref b) H Q := by
  refine ⟨a, b, xs, ys, rfl, rfl, ha, hb, small (by omega), fun e => q b H (Same.refl H) (by rw [e]; exact hb), fun _ e => q a H (Same.refl H) (by rw [e, List.append_nil]; exact ha), fun _ _ p hp => q p _ (same_new hp) (seqT_of upd_same)⟩
theorem sl_from1 {a : Addr} {x : V} {xs : List V} (ha : SqT K H a (x :: xs)) (q : ∀ c H', Same H H' → SqT K H' c xs → Q (.ref c) H') : rSlA K (.ref a) (some 1) none H Q := by
  have e0 : HT.sIx (x :: xs).length 0 (some 1) = 1 := by
    have := HT.sIx_nat (x :: xs).length 0 1
    rw [show ((1 : Nat) : Int) = 1 from rfl] at this
    rw [this, List.length_cons]
    omega
  refine ⟨a, _, rfl, ha, fun h => absurd h.1 (by rw [e0]; decide), fun _ p hp => q p _ (same_new hp) (seqT_of ?_)⟩
  rw [upd_same, cutV, e0, HT.sIx_none]
  congr 2
  rw [List.drop_one, List.tail_cons, List.length_cons, Nat.add_sub_cancel, List.take_length]
theorem sl_from {σ : L2.St} {a : Addr} {x : V} {xs : List V} (ha : SqT K H a (x :: xs)) (q : ∀ c H', Same H H' → SqT K H' c xs → Q (.ref c) H') : tNoPart σ H fun u H3 => rSlA K (.ref a) (some 1) u H3 Q := sl_from1 ha q
theorem sl_last {a : Addr} {xs : List V} (hne : 0 < xs.length) (ha : SqT K H a xs) (q : ∀ c H', Same H H' → SqT K H' c (xs.take (xs.length - 1)) → Q (.ref c) H') : rSlA K (.ref a) none (some (-1)) H Q := by
  have e1 : HT.sIx xs.length xs.length (some (-1)) = xs.length - 1 := by
    have : HT.sIx xs.length xs.length (some (-1)) = ((-1 : Int) + (xs.length : Int)).toNat := rfl
    rw [this]
    omega
  refine ⟨a, _, rfl, ha, fun h => absurd h.2 (by rw [e1]; omega), fun _ p hp => q p _ (same_new hp) (seqT_of ?_)⟩
  rw [upd_same, cutV, e1, HT.sIx_none, List.drop_zero, Nat.sub_zero]
theorem sl_to1 {a : Addr} {x y : V} (ha : SqT K H a [x, y]) (q : ∀ c H', Same H H' → SqT K H' c [x] → Q (.ref c) H') : rSlA K (.ref a) none (some 1) H Q := by
  refine ⟨a, _, rfl, ha, fun h => absurd h.2 (by show ¬ (1 = 2); omega), fun _ p hp => q p _ (same_new hp) (seqT_of ?_)⟩
  rw [upd_same]
  rfl
theorem ar_len {h : House} {rs : List PyData} (e : rs.length ≠ h.bodies.length) : arPh h (.tuple rs) = false := by
  show (decide _ && _) = false
  rw [decide_eq_false e, Bool.false_and]
theorem ar_head {h : House} {b : Body} {bs : List Body} {r : PyData} {rs : List PyData} (eb : h.bodies = b :: bs) (e : rowOk r b = false) : arPh h (.tuple (r :: rs)) = false := by
  show (decide _ && (List.zipWith rowOk (r :: rs) h.bodies).all id) = false
  rw [eb, List.zipWith_cons_cons, List.all_cons, e]
  simp
theorem row_len {b : Body} {es : List PyData} (e : es.length ≠ b.length) : rowOk (.tuple es) b = false := by
  show (decide _ && _) = false
  rw [decide_eq_false e, Bool.false_and]
theorem row_head {s : Seat} {ss : Body} {e : PyData} {es : List PyData} (k : wholeD e 0 ((s.t : Int) - 1) = false) : rowOk (.tuple (e :: es)) (s :: ss) = false := by
  show (decide _ && (List.zipWith (fun e (s : Seat) => wholeD e 0 ((s.t : Int) - 1)) (e :: es) (s :: ss)).all id) = false
  rw [List.zipWith_cons_cons, List.all_cons, k]
  simp
end
/-! ### shapes -/
theorem sh_tuple {n : Nat} {ds : List PyData} (h : ∀ d ∈ ds, d.canLay0 = true ∧ d.depth ≤ n) : (PyData.tuple ds).canLay0 = true ∧ (PyData.tuple ds).depth ≤ n + 1 := by
  have h1 : ∀ ds : List PyData, (∀ d ∈ ds, d.canLay0 = true) → PyData.canLayAll0 ds = true := by
    intro ds
    induction ds with
    | nil => intro _; rfl
    | cons d ds ih => intro h; rw [PyData.canLayAll0, h d (List.mem_cons_self ..), ih fun x hx => h x (List.mem_cons_of_mem _ hx)]; rfl
  refine ⟨by rw [PyData.canLay0]; exact h1 ds fun d hd => (h d hd).1, ?_⟩
  have := all_depth (ds := ds) (n := n) fun d hd => (h d hd).2
  rw [PyData.depth]
  omega
theorem sh_int (n : Nat) (i : Int) : (PyData.int i).canLay0 = true ∧ (PyData.int i).depth ≤ n := ⟨rfl, by rw [PyData.depth]; omega⟩
theorem sh_way {nb wd : Nat} {d : PyData} (h : WayOk nb wd d) : d.canLay0 = true ∧ d.depth ≤ 2 := by
  refine ⟨SeqAt.canLay_of_shaped (way_shaped h), ?_⟩
  cases h <;> simp [PyData.depth, PyData.depthAll]
theorem house_shaped {h : House} (ok : HouseOk h) : SeqAt.shaped (houseD h) = true := by
  have hs : (houseD h).canLay0 = true ∧ (houseD h).depth ≤ 6 := by
    refine sh_tuple (n := 5) fun d hd => ?_
    rcases List.mem_cons.mp hd with e | hd
    · subst e
      refine sh_tuple (n := 4) fun d hd => ?_
      obtain ⟨b, hb, rfl⟩ := List.mem_map.mp hd
      refine sh_tuple (n := 3) fun d hd => ?_
      obtain ⟨s, hs, rfl⟩ := List.mem_map.mp hd
      refine sh_tuple (n := 2) fun d hd => ?_
      simp only [List.mem_cons, List.not_mem_nil, or_false] at hd
      rcases hd with rfl | rfl | rfl
      · exact sh_int _ _
      · exact sh_int _ _
      · exact sh_way (ok.seats b hb s hs).way
    · rw [List.mem_singleton] at hd
      subst hd
      exact sh_int _ _
  show (_ && decide _) = true
  rw [hs.1, decide_eq_true (by omega)]
  rfl
theorem psD_shaped (ps : List (List Nat)) : SeqAt.shaped (psD ps) = true := by
  have hs : (psD ps).canLay0 = true ∧ (psD ps).depth ≤ 2 := by
    refine sh_tuple (n := 1) fun d hd => ?_
    obtain ⟨l, _, rfl⟩ := List.mem_map.mp hd
    refine sh_tuple (n := 0) fun d hd => ?_
    obtain ⟨n, _, rfl⟩ := List.mem_map.mp hd
    exact sh_int _ _
  show (_ && decide _) = true
  rw [hs.1, decide_eq_true (by omega)]
  rfl
theorem psD_to (ps : List (List Nat)) : tupOnly (psD ps) = true := rows_to ps
theorem terms_l6 {h : House} (L : HouseL h) : (terms h).length ≤ 6 := by
  rw [terms_len]
  have h1 := L.s3
  have h2 := L.b2
  match h.bodies, h2, h1 with
  | [], _, _ => simp
  | [b], _, hb => have := hb b (by simp); simp; omega
  | [b, b'], _, hb => have := hb b (by simp); have := hb b' (by simp); simp; omega
  | _ :: _ :: _ :: _, hl, _ => simp at hl
/-- a thing that is no phases of h, whatever is drawn from now on -/
def BadV (K : PySem.W.Frag) (m g : Addr) (h : House) (H : Hp) (v : V) : Prop := ∃ d, arPh h d = false ∧ Tiny 2 d ∧ ∀ H', MFr m g H H' → Dp K H' v d
theorem BadV.same {K : PySem.W.Frag} {m g : Addr} {h : House} {H H' : Hp} {v : V} (s : Same H H') (b : BadV K m g h H v) : BadV K m g h H' v := by
  obtain ⟨d, h1, h2, h3⟩ := b
  exact ⟨d, h1, h2, fun H2 f => h3 H2 ((MFr.of s).trans f)⟩
theorem BadV.of {K : PySem.W.Frag} {m c g n : Nat} {h : House} {H : Hp} {v : V} {d : PyData} (M : MAt m c g n H) (h1 : arPh h d = false) (h2 : Tiny 2 d) (h3 : tupOnly d = true) (hd : Dp K H v d) : BadV K m g h H v :=
  ⟨d, h1, h2, fun H' f => dp_tups (M.tups f) d v h3 hd⟩
theorem whole_top (t : Nat) : wholeD (.int (t : Int)) 0 ((t : Int) - 1) = false := by
  show (decide ((0 : Int) ≤ (t : Int)) && decide ((t : Int) ≤ (t : Int) - 1)) = false
  rw [decide_eq_false (p := (t : Int) ≤ (t : Int) - 1) (by omega), Bool.and_false]
theorem hf_to (x y : Str) : tupOnly (.tuple [.str x, .str y]) = true := rfl
theorem said_shaped : SeqAt.shaped (.list [.tuple [.str "house", .str "form"], .tuple [.str "house", .str "wards"], .tuple [.str "house", .str "form"], .tuple [.str "house", .str "form"], .tuple [.str "house", .str "form"]]) = true := by
  simp [SeqAt.shaped, PyData.canLay0, PyData.canLayAll0, PyData.depth, PyData.depthAll]
  decide +kernel
/-! ### the last house of the law -/
def keptD : PyData := .tuple [.str "kept"]
def three : House := ⟨[[⟨1, 0, keptD⟩], [⟨2, 1, keptD⟩], [⟨2, 1, keptD⟩]], 0⟩
theorem three_ok : HouseOk three := by
  refine ⟨by decide, by decide, by decide, by decide, by decide, fun b hb s hs => ?_, by decide⟩
  simp only [three, List.mem_cons, List.not_mem_nil, or_false] at hb
  rcases hb with rfl | rfl | rfl <;> (rw [List.mem_singleton] at hs; subst hs; exact ⟨by decide, by decide, by decide, .kept⟩)
theorem three_best : Best (cost (terms three)) (rows (terms three)) 2 [0, 0, 1] := by
  refine ⟨fun m hm => ?_, by decide +kernel, by decide +kernel⟩
  match m, hm with
  | 0, _ => decide +kernel
  | 1, _ => decide +kernel
theorem three_loads : K88.loads (terms three) (phases three) = [1, 3] := by decide +kernel
theorem three_tiny : Tiny 4 (.list [.tuple (natD [1, 3]), busD [1, 3], phD three, sprD three 2 [0, 0, 1]]) := by
  refine .lst 3 _ (by simp) fun d hd => ?_
  simp only [List.mem_cons, List.not_mem_nil, or_false] at hd
  rcases hd with rfl | rfl | rfl | rfl
  · exact tiny_nats 2 (by decide) (by decide)
  · refine .tup 2 _ (by simp) fun d hd => ?_
    simp only [List.mem_cons, List.not_mem_nil, or_false] at hd
    rcases hd with rfl | rfl
    · exact .int _ _ (by decide +kernel) (by decide +kernel)
    · exact .int _ _ (by decide +kernel) (by decide +kernel)
  · rw [phD_own]
    exact tiny_psD 1 (by decide) (by decide)
  · exact tiny_spr three_ok three_best
/-! ### tables -/
theorem tabs0 {H : Hp} {Tb : Addr} {q : Str} (h : H Tb = some (.tbl #[])) : Tabs [(Tb, q)] H := by
  intro p hp
  rw [List.mem_singleton] at hp
  subst hp
  exact ⟨#[], h, True.intro, fun pos cv hc => by cases hc⟩
theorem tabs_same {H H' : Hp} {T : List (Addr × Str)} (t : Tabs T H) (s : Same H H') : Tabs T H' := t.ext s
theorem tabs_mfr {H H' : Hp} {T : List (Addr × Str)} {m c g b : Nat} (t : Tabs T H) (M : MAt m c g b H) (f : MFr m g H H') : Tabs T H' := by
  obtain ⟨_, ⟨n, _, h3⟩, _, k, _, gs, _, h6⟩ := M
  intro p hp
  obtain ⟨ps, h1, h2, hc⟩ := t p hp
  refine ⟨ps, f.at_ _ _ h1 (fun e => by rw [e, h3] at h1; cases h1) (fun e => by rw [e, h6] at h1; cases h1), h2, fun pos cv hcv => ?_⟩
  obtain ⟨c', e1, e2⟩ := hc pos cv hcv
  exact ⟨c', e1, f.at_ _ _ e2 (fun e => by rw [e, h3] at e2; cases e2) (fun e => by rw [e, h6] at e2; cases e2)⟩
theorem tabs_put {H : Hp} {T : List (Addr × Str)} {L : Addr} {xs : List V} {o : HO} (t : Tabs T H) (h : H L = some (.lst xs)) : Tabs T (upd H L o) := by
  intro p hp
  obtain ⟨ps, h1, h2, hc⟩ := t p hp
  refine ⟨ps, (upd_ne fun e => by rw [e, h] at h1; cases h1).trans h1, h2, fun pos cv hcv => ?_⟩
  obtain ⟨c', e1, e2⟩ := hc pos cv hcv
  exact ⟨c', e1, (upd_ne fun e => by rw [e, h] at e2; cases e2).trans e2⟩
theorem IntsL.extN {c n : Nat} {H H' : Hp} (s : ExtN H H') (h : IntsL H c n) : IntsL H' c n := by
  obtain ⟨cs, e1, e2⟩ := h
  exact ⟨cs, e1, s _ _ e2 (fun _ z => by cases z)⟩
theorem MAt.extN {m c g b : Nat} {H H' : Hp} (s : ExtN H H') (M : MAt m c g b H) : MAt m c g b H' := by
  obtain ⟨h1, ⟨n, h2, h3⟩, h4, k, h5, h6⟩ := M
  exact ⟨h1, ⟨n, h2, s _ _ h3 (fun _ z => by cases z)⟩, h4.extN s, k, h5, h6.extN s⟩
end K88
set_option maxHeartbeats 4000000
/-! The walk of the law. -/
namespace K88
open PySem PySem.Spec PyProof.Rows L2 LamX K88X
theorem lam0_bind {scope : Scope} {body : Expr} : ∀ (q : Str) (cl : List (Str × Addr)) (dV doc pm cv ctv : Value) (dv : List Value), dv = [] → ∀ (s1 : Shared), (dv = [] ∧ dV = .none ∨ ∃ t, dV = .ref t ∧ s1.heap.get? t = some (PySem.W.kdv_tup dv)) →
    ∃ binds, BindsTo s1 (PySem.W.kdv_fn "<lambda>" q ⟨[], [], none, [], [], none, []⟩ (.expr body) scope cl dV doc pm cv ctv) ⟨[], []⟩ binds ∧ ∀ y ∈ binds, scope.names.lookup y.1 = some .local := by
  intro q cl dV doc pm cv ctv dv hdv s1 hs
  rcases hs with ⟨_, rfl⟩ | ⟨t, rfl, ht⟩
  · exact ⟨[], BindsTo.of_eq (by rfl), fun y hy => nomatch hy⟩
  · exact ⟨[], BindsTo.of_defaults rfl ht rfl (by rfl) (by rw [hdv]; rfl), fun y hy => nomatch hy⟩
theorem lam1_bind {scope : Scope} {body e : Expr} {an : Option Expr} {p : Pos} (hsc : scope.names.lookup ("y" : Str) = some .local) : ∀ (q : Str) (cl : List (Str × Addr)) (dV doc pm cv ctv : Value) (dv : List Value), (∃ u, dv = [.int 0 u]) → ∀ (s1 : Shared), (dv = [] ∧ dV = .none ∨ ∃ t, dV = .ref t ∧ s1.heap.get? t = some (PySem.W.kdv_tup dv)) →
    ∃ binds, BindsTo s1 (PySem.W.kdv_fn "<lambda>" q ⟨[], [⟨"y", an, p⟩], none, [], [], none, [e]⟩ (.expr body) scope cl dV doc pm cv ctv) ⟨[], []⟩ binds ∧ ∀ y ∈ binds, scope.names.lookup y.1 = some .local := by
  intro q cl dV doc pm cv ctv dv hdv s1 hs
  obtain ⟨u, rfl⟩ := hdv
  rcases hs with ⟨h, _⟩ | ⟨t, rfl, ht⟩
  · cases h
  · refine ⟨[("y", .int 0 u)], BindsTo.of_defaults rfl ht rfl (by rfl) (by rfl), fun y hy => ?_⟩
    rw [List.mem_singleton] at hy
    rw [hy]
    exact hsc
theorem Tiny.up {n : Nat} {d : PyData} (h : Tiny n d) : Tiny (n + 1) d := by
  induction h with
  | non n => exact .non _
  | bl n b => exact .bl _ b
  | int n i h1 h2 => exact .int _ i h1 h2
  | str n => exact .str _
  | tup n ds hl _ ih => exact .tup _ ds hl ih
  | lst n ds hl _ ih => exact .lst _ ds hl ih
theorem sqt_new {K : PySem.W.Frag} {H : Hp} {p : Addr} {xs : List V} (_ : Same H (upd H p (.tup xs))) : SqT K (upd H p (.tup xs)) p xs := seqT_of upd_same
theorem two_of {α : Type} {l : List α} (h1 : 1 ≤ l.length) (h2 : l.length ≤ 2) : (∃ x, l = [x]) ∨ ∃ x y, l = [x, y] := by
  match l, h1, h2 with
  | [x], _, _ => exact .inl ⟨x, rfl⟩
  | [x, y], _, _ => exact .inr ⟨x, y, rfl⟩
theorem dp_one {K : PySem.W.Frag} {H : Hp} {vs : List V} {d : PyData} (h : DpAll K H vs [d]) : ∃ v, vs = [v] ∧ Dp K H v d := by
  cases h with
  | cons h1 h2 => cases h2; exact ⟨_, rfl, h1⟩
theorem dp_two {K : PySem.W.Frag} {H : Hp} {vs : List V} {d e : PyData} (h : DpAll K H vs [d, e]) : ∃ v w, vs = [v, w] ∧ Dp K H v d ∧ Dp K H w e := by
  cases h with
  | cons h1 h2 =>
    cases h2 with
    | cons h2 h3 => cases h3; exact ⟨_, _, rfl, h1, h2⟩
theorem tiny_told {h : House} {ps : List (List Nat)} (ok : HouseOk h) (pk : PhOk h ps) : Tiny 4 (.list [psD ps, .tuple (natD (K88.loads (terms h) ps.flatten)), busD (K88.loads (terms h) ps.flatten)]) := by
  have h9 : (terms h).length ≤ 9 := by rw [terms_len]; exact ok.s9
  have hr := ok.round
  have hrl : (K88.loads (terms h) ps.flatten).length ≤ 12 := by rw [loads_len]; exact hr
  have hmx : maxL (K88.loads (terms h) ps.flatten) ≤ 9 := Nat.le_trans (maxL_le loads_le) h9
  have hix : (K88.loads (terms h) ps.flatten).idxOf (maxL (K88.loads (terms h) ps.flatten)) ≤ 12 := Nat.le_trans List.idxOf_le_length hrl
  have hb3 := ok.b3
  refine .lst 3 _ (by simp) fun d hd => ?_
  simp only [List.mem_cons, List.not_mem_nil, or_false] at hd
  rcases hd with rfl | rfl | rfl
  · refine tiny_psD 1 (by rw [pk.len]; omega) fun l hl => ?_
    obtain ⟨i, hi, rfl⟩ := List.mem_iff_getElem.mp hl
    have hi2 : i < h.bodies.length := by rw [← pk.len]; exact hi
    have h1 := (pk.row i _ _ (List.getElem?_eq_getElem hi2) (List.getElem?_eq_getElem hi)).1
    have h2 := (ok.s1 _ (List.getElem_mem hi2)).2
    refine ⟨by omega, fun p hp => ?_⟩
    exact phs_le pk.phs (terms_6 ok) p (List.mem_flatten.mpr ⟨_, hl, hp⟩)
  · exact tiny_nats 2 hrl fun x hx => by have := loads_le x hx; omega
  · refine .tup 2 _ (by simp) fun d hd => ?_
    simp only [List.mem_cons, List.not_mem_nil, or_false] at hd
    rcases hd with rfl | rfl
    · exact .int _ _ (by omega) (by omega)
    · exact .int _ _ (by omega) (by omega)
section
variable {P : Program} {w : World} {K : PySem.W.Frag} {mg : Str → Option Value} {base : Heap}
abbrev lawN : List Str := ["script", "m", "turn", "house", "terms", "own", "body", "seat", "row", "term", "some", "far", "flat", "due", "told_so", "bad", "odd", "three"]
theorem sc_law : FnScope lawN ["script"] (defScope sLaw) := ⟨rfl, rfl, rfl, by decide +kernel, rfl, by decide +kernel, by decide +kernel⟩
def spLaw (K : PySem.W.Frag) (Tb : Addr) : Sp := fun vs H Q _ => ∃ a, ∃ ns : List Int, vs = [.ref a] ∧ SqL K H a (ns.map V.int) ∧ ns.length ≤ 63 ∧ H Tb = some (.tbl #[]) ∧ ∀ H', Q (.bl true) H'
theorem do_law {CH CP c Tb f : Addr} {fd : FuncData} (T : Blt mg) (F : Fun K "law" "law" sLaw f fd) (hfc : fd.code = .ref c) (SD : SaidAt P K mg base CH CP c Tb)
    (DB : Does P w K mg base CX0 16 "_law_begun" ["script"] (spBegun K)) (DHo : Does P w K mg base CX0 16 "_law_house" ["m", "most", "wide"] (spLHouse K)) (DD : Does P w K mg base CX0 16 "_law_draw" ["m", "limit"] spDraw)
    (DPa : Does P w K mg base CX0 16 "_law_parted" ["house", "row"] (spParted K)) (DLl : Does P w K mg base CX0 16 "_law_loads" ["terms", "phases_so"] (spLLoads K))
    (DWiE : Does P w K mg base (L2.CX P w) 14 "with_phases" ["house", "phases"] (spWithPhases K CH CP)) (DPhE : Does P w K mg base (L2.CX P w) 14 "phases_of" ["house"] (spPhasesOf K CH)) (DLoE : Does P w K mg base (L2.CX P w) 14 "loads" ["house"] (spLoads K CH))
    (DBuE : Does P w K mg base (L2.CX P w) 14 "busiest" ["house"] (spBusiest K CH)) (DSpE : Does P w K mg base (L2.CX P w) 14 "spread" ["house"] (spSpread K CH))
    (DLk : DoesG P w K mg base CX0 16 "_law_like" ["answer", "due"] (spLike K)) (DSr : DoesG P w K mg base CX0 16 "_law_spread_right" ["house", "terms"] (spSpreadRight K)) :
    FnOkG P w K mg base CX0 17 f fd ["script"] (spLaw K Tb) := by
  have DWi := DWiE.mono (show 14 ≤ 16 by omega)
  have DPh := DPhE.mono (show 14 ≤ 16 by omega)
  have DLo := DLoE.mono (show 14 ≤ 16 by omega)
  have DBu := DBuE.mono (show 14 ≤ 16 by omega)
  have DSp := DSpE.mono (show 14 ≤ 16 by omega)
  refine okG F sc_law (fun vs H Q E h => ?_) (fun cdv A outer s H vs Q E hgu hcdv hfd hr h => ?_)
  · obtain ⟨_, _, rfl, _⟩ := h
    rfl
  · have hcode : cdv = .ref c := hfd.symm.trans hfc
    obtain ⟨a, ns, rfl, ha, hl, hT, q⟩ := h
    refine ⟨_, (pss_cons (ps_set (i := 1) sc_law.nd rfl (Or.inr rfl) (pe_do DB hr pass0 (pa_cons (pv 0) pa_nil)))
      (pss_cons (ps_for PassesOwn.never rfl (pi_range1 rfl T.range (pa_cons (pe_op op_add pe_int (pe_callB (call_min2 rfl) (by rfl) T.min (by decide +kernel) (pa_cons pe_int (pa_cons (pe_callB call_len_seq (by rfl) T.len PySem.boot_len (pa_cons (pv 0) pa_nil)) pa_nil)))) pa_nil)) (pg_name (i := 2) sc_law.nd rfl (Or.inl rfl)) (pss_cons (ps_set (i := 3) sc_law.nd rfl (Or.inr rfl) (pe_do DHo hr pass0 (pa_cons (pv 1) (pa_cons pe_int (pa_cons pe_int pa_nil)))))
      (pss_cons (ps_par (i := 4) (j := 5) (by rfl) sc_law.nd rfl rfl (by decide) rfl rfl (pa_cons (pe_lst pa_nil) (pa_cons (pe_tup pa_nil) pa_nil)) (by rfl))
      (pss_cons (ps_for PassesOwn.never rfl (pi_tup (pe_ix ix_tup (pv 3) pe_int (fun _ _ => rfl))) (pg_name (i := 6) sc_law.nd rfl (Or.inl rfl)) (pss_cons (ps_set (i := 4) sc_law.nd rfl (Or.inl rfl) (pe_op op_cat (pv 4) (pe_lc (own := [("seat", 7)]) (g := (gName 7)) (tt := tYes) rfl sc_law.nd (pi_tup (pv 6)) (blkOk_by (N := ["script", "m", "turn", "house", "terms", "own", "body", "seat", "row", "term", "some", "far", "flat", "due", "told_so", "bad", "odd", "three"]) (sc := defScope sLaw) (by decide +kernel)) (fun _ _ _ _ _ => (pg_name (i := 7) sc_law.nd rfl (Or.inl rfl))) (fun _ _ _ _ _ => pts_nil) (fun _ _ _ _ _ => (pe_ix (ixTK (K := K) rfl) (pv 7) pe_int (fun _ _ => rfl))))))
      (pss_one (ps_set (i := 5) sc_law.nd rfl (Or.inl rfl) (pe_op op_catA (pv 5) (pe_tup (pa_cons (pe_callTy call_tuple_of (by rfl) T.tuple (by decide +kernel) (pa_cons (pe_lc (own := [("seat", 7)]) (g := (gName 7)) (tt := tYes) rfl sc_law.nd (pi_tup (pv 6)) (blkOk_by (N := ["script", "m", "turn", "house", "terms", "own", "body", "seat", "row", "term", "some", "far", "flat", "due", "told_so", "bad", "odd", "three"]) (sc := defScope sLaw) (by decide +kernel)) (fun _ _ _ _ _ => (pg_name (i := 7) sc_law.nd rfl (Or.inl rfl))) (fun _ _ _ _ _ => pts_nil) (fun _ _ _ _ _ => (pe_ix (ixTK (K := K) rfl) (pv 7) pe_int (fun _ _ => rfl)))) pa_nil)) pa_nil)))))))
      (pss_cons (ps_set (i := 8) sc_law.nd rfl (Or.inl rfl) (pe_callTy call_tuple_of (by rfl) T.tuple (by decide +kernel) (pa_cons (pe_lc (own := [("term", 9)]) (g := (gName 9)) (tt := tYes) rfl sc_law.nd (pi_list (pv 4)) (blkOk_by (N := ["script", "m", "turn", "house", "terms", "own", "body", "seat", "row", "term", "some", "far", "flat", "due", "told_so", "bad", "odd", "three"]) (sc := defScope sLaw) (by decide +kernel)) (fun _ _ _ _ _ => (pg_name (i := 9) sc_law.nd rfl (Or.inl rfl))) (fun _ _ _ _ _ => pts_nil) (fun _ _ _ _ _ => (pe_do DD hr pass0 (pa_cons (pv 1) (pa_cons (pv 9) pa_nil))))) pa_nil)))
      (pss_cons (ps_for PassesOwn.never rfl (pi_tup (pe_tup (pa_cons (pv 5) (pa_cons (pe_do DPa hr pass0 (pa_cons (pv 3) (pa_cons (pv 8) pa_nil))) pa_nil)))) (pg_name (i := 10) sc_law.nd rfl (Or.inl rfl)) (pss_cons (ps_set (i := 11) sc_law.nd rfl (Or.inl rfl) (pe_do DWi hr passL (pa_cons (pv 3) (pa_cons (pv 10) pa_nil))))
      (pss_cons (ps_set (i := 12) sc_law.nd rfl (Or.inl rfl) (pe_op op_cat (pe_callTy call_list_of (by rfl) T.list (by decide +kernel) (pa_cons (pe_ix ix_tup (pv 10) pe_int (fun _ _ => rfl)) pa_nil)) (pe_ifExp (pt_cmpR op_gt (pe_callB call_len_seq (by rfl) T.len PySem.boot_len (pa_cons (pv 10) pa_nil)) pe_int (nomark _)) (pe_callTy call_list_of (by rfl) T.list (by decide +kernel) (pa_cons (pe_ix ix_tup (pv 10) pe_int (fun _ _ => rfl)) pa_nil)) (pe_lst pa_nil))))
      (pss_cons (ps_set (i := 13) sc_law.nd rfl (Or.inl rfl) (pe_do DLl hr pass0 (pa_cons (pv 4) (pa_cons (pv 12) pa_nil))))
      (pss_cons (ps_set (i := 14) sc_law.nd rfl (Or.inl rfl) (pe_lst (pa_cons (pe_do DPh hr passL (pa_cons (pv 11) pa_nil)) (pa_cons (pe_do DLo hr passL (pa_cons (pv 11) pa_nil)) (pa_cons (pe_do DBu hr passL (pa_cons (pv 11) pa_nil)) pa_nil)))))
      (pss_cons (ps_if (pt_not (pt_val (pe_doG hgu DLk hr pass0 (pa_cons (pv 14) (pa_cons (pe_lst (pa_cons (pv 10) (pa_cons (pv 13) (pa_cons (pe_tup (pa_cons (pe_callB (cr_maxT rfl hr.units) (by rfl) T.max (by decide +kernel) (pa_cons (pv 13) pa_nil)) (pa_cons (pe_bmF PySem.F.plainAttrs_tuple PySem.F.slot_tuple_index PySem.F.type_tuple_index mt_tup_indexI (pv 13) (pa_cons (pe_callB (cr_maxT rfl hr.units) (by rfl) T.max (by decide +kernel) (pa_cons (pv 13) pa_nil)) pa_nil)) pa_nil))) pa_nil)))) pa_nil))))) (pss_one (ps_ret pe_bl)) pss_nil)
      (pss_one (ps_if (PW.pt (pw_or (pt_cmpR (op_neD hr.units) (pe_do DWi hr passL (pa_cons (pv 11) (pa_cons (pv 5) pa_nil))) (pv 3) (nomark _)) (pw_or1 (pt_cmpR op_ne (pe_ix ix_tup (pv 11) pe_int (fun _ _ => rfl)) (pe_ix ix_tup (pv 3) pe_int (fun _ _ => rfl)) (nomark _))))) (pss_one (ps_ret pe_bl)) pss_nil))))))))
      (pss_cons (ps_if (PW.pt (pw_or (pt_cmpR (op_neD hr.units) (pe_do DPh hr passL (pa_cons (pv 3) pa_nil)) (pv 5) (nomark _)) (pw_or1 (pt_not (pt_val (pe_doG hgu DSr hr pass0 (pa_cons (pv 3) (pa_cons (pv 4) pa_nil)))))))) (pss_one (ps_ret pe_bl)) pss_nil)
      (pss_cons (ps_set (i := 15) sc_law.nd rfl (Or.inl rfl) (pe_lst (pa_cons pe_non (pa_cons (pe_tup pa_nil) (pa_cons (pe_callTy call_list_of (by rfl) T.list (by decide +kernel) (pa_cons (pv 5) pa_nil)) (pa_cons (pe_slice sl_tupA (pv 5) po_none (po_some (pe_un un_neg pe_int))) (pa_cons (pe_op op_catA (pv 5) (pe_tup (pa_cons (pe_tup (pa_cons pe_int pa_nil)) pa_nil))) (pa_cons (pe_op op_catA (pe_tup (pa_cons (pe_op op_catA (pe_ix ix_tup (pv 5) pe_int (fun _ _ => rfl)) (pe_tup (pa_cons pe_int pa_nil))) pa_nil)) (pe_slice sl_tupA (pv 5) (po_some pe_int) po_none)) pa_nil))))))))
      (pss_cons (ps_set (i := 15) sc_law.nd rfl (Or.inl rfl) (pe_op op_cat (pv 15) (pe_lst (pa_cons (pe_op op_catA (pe_tup (pa_cons (pe_op op_catA (pe_tup (pa_cons (pe_ix ix_list (pv 4) pe_int (fun _ _ => rfl)) pa_nil)) (pe_slice sl_tupA (pe_ix ix_tup (pv 5) pe_int (fun _ _ => rfl)) (po_some pe_int) po_none)) pa_nil)) (pe_slice sl_tupA (pv 5) (po_some pe_int) po_none)) (pa_cons (pe_op op_catA (pe_tup (pa_cons (pe_op op_catA (pe_tup (pa_cons (pe_un un_neg pe_int) pa_nil)) (pe_slice sl_tupA (pe_ix ix_tup (pv 5) pe_int (fun _ _ => rfl)) (po_some pe_int) po_none)) pa_nil)) (pe_slice sl_tupA (pv 5) (po_some pe_int) po_none)) pa_nil)))))
      (pss_cons (ps_set (i := 16) sc_law.nd rfl (Or.inr rfl) (pe_ix ix_list (pe_op op_cat (pv 15) (pe_lst (pa_cons (pe_op op_catA (pe_tup (pa_cons (pe_op op_catA (pe_tup (pa_cons pe_bl pa_nil)) (pe_slice sl_tupA (pe_ix ix_tup (pv 5) pe_int (fun _ _ => rfl)) (po_some pe_int) po_none)) pa_nil)) (pe_slice sl_tupA (pv 5) (po_some pe_int) po_none)) (pa_cons (pe_op op_catA (pe_tup (pa_cons (pe_callTy call_list_of (by rfl) T.list (by decide +kernel) (pa_cons (pe_ix ix_tup (pv 5) pe_int (fun _ _ => rfl)) pa_nil)) pa_nil)) (pe_slice sl_tupA (pv 5) (po_some pe_int) po_none)) pa_nil)))) (pe_do DD hr pass0 (pa_cons (pv 1) (pa_cons pe_int pa_nil))) (fun _ _ => rfl)))
      (pss_cons (ps_if (pt_not (pt_val (pe_doG hgu DLk hr pass0 (pa_cons (pe_said (k := 14) (fun dv => dv = []) SD hcode hr (lamN_by (N := lawN) (sc := defScope sLaw) (by decide +kernel)) rfl lam0_dv lam0_bind (fun A outer s H E f c' hr => (pe_do DWiE hr (passes_call (takes_of rfl rfl rfl rfl) fun _ _ _ _ h => h) (pa_cons (pv 3) (pa_cons (pv 16) pa_nil))))) (pa_cons (pe_tup (pa_cons pe_str (pa_cons (pv 16) pa_nil))) pa_nil))))) (pss_one (ps_ret pe_bl)) pss_nil)
      (pss_cons (ps_set (i := 14) sc_law.nd rfl (Or.inl rfl) (pe_lst (pa_cons (pe_said (k := 14) (fun dv => dv = []) SD hcode hr (lamN_by (N := lawN) (sc := defScope sLaw) (by decide +kernel)) rfl lam0_dv lam0_bind (fun A outer s H E f c' hr => (pe_do DWiE hr (passes_call (takes_of rfl rfl rfl rfl) fun _ _ _ _ h => h) (pa_cons (pe_slice (slTK (K := K) rfl) (pv 3) po_none (po_some pe_int)) (pa_cons (pv 16) pa_nil))))) (pa_cons (pe_said (k := 14) (fun dv => ∃ u, dv = [.int 0 u]) SD hcode hr (lamN_by (N := lawN) (sc := defScope sLaw) (by decide +kernel)) rfl lam1_dv (lam1_bind rfl) (fun A outer s H E f c' hr => (pe_do DSpE hr (passes_call (takes_of rfl rfl rfl rfl) fun _ _ _ _ h => h) (pa_cons (pe_tup (pa_cons (pe_ix (ixTK (K := K) rfl) (pv 3) pe_int (fun _ _ => rfl)) (pa_cons pe_int pa_nil))) pa_nil)))) pa_nil))))
      (pss_cons (ps_set (i := 14) sc_law.nd rfl (Or.inl rfl) (pe_op op_cat (pv 14) (pe_lst (pa_cons (pe_said (k := 14) (fun dv => dv = []) SD hcode hr (lamN_by (N := lawN) (sc := defScope sLaw) (by decide +kernel)) rfl lam0_dv lam0_bind (fun A outer s H E f c' hr => (pe_do DLoE hr (passes_call (takes_of rfl rfl rfl rfl) fun _ _ _ _ h => h) (pa_cons pe_non pa_nil)))) (pa_cons (pe_said (k := 14) (fun dv => ∃ u, dv = [.int 0 u]) SD hcode hr (lamN_by (N := lawN) (sc := defScope sLaw) (by decide +kernel)) rfl lam1_dv (lam1_bind rfl) (fun A outer s H E f c' hr => (pe_do DBuE hr (passes_call (takes_of rfl rfl rfl rfl) fun _ _ _ _ h => h) (pa_cons (pe_tup pa_nil) pa_nil)))) pa_nil)))))
      (pss_cons (ps_expr (pe_bm PySem.F.plainAttrs_list PySem.F.slot_list_append PySem.F.type_list_append mt_append (pv 14) (pa_cons (pe_said (k := 14) (fun dv => dv = []) SD hcode hr (lamN_by (N := lawN) (sc := defScope sLaw) (by decide +kernel)) rfl lam0_dv lam0_bind (fun A outer s H E f c' hr => (pe_do DPhE hr (passes_call (takes_of rfl rfl rfl rfl) fun _ _ _ _ h => h) (pa_cons pe_int pa_nil)))) pa_nil)))
      (pss_one (ps_if (pt_cmpR (op_neD hr.units) (pv 14) (pe_op op_cat (pe_lst (pa_cons (pe_tup (pa_cons pe_str (pa_cons pe_str pa_nil))) (pa_cons (pe_tup (pa_cons pe_str (pa_cons pe_str pa_nil))) pa_nil))) (pe_op op_rep (pe_lst (pa_cons (pe_tup (pa_cons pe_str (pa_cons pe_str pa_nil))) pa_nil)) pe_int)) (nomark _)) (pss_one (ps_ret pe_bl)) pss_nil))))))))))))))))
      (pss_cons (ps_set (i := 17) sc_law.nd rfl (Or.inl rfl) (pe_tup (pa_cons (pe_tup (pa_cons (pe_tup (pa_cons (pe_tup (pa_cons pe_int (pa_cons pe_int (pa_cons (pe_tup (pa_cons pe_str pa_nil)) pa_nil)))) pa_nil)) (pa_cons (pe_tup (pa_cons (pe_tup (pa_cons pe_int (pa_cons pe_int (pa_cons (pe_tup (pa_cons pe_str pa_nil)) pa_nil)))) pa_nil)) (pa_cons (pe_tup (pa_cons (pe_tup (pa_cons pe_int (pa_cons pe_int (pa_cons (pe_tup (pa_cons pe_str pa_nil)) pa_nil)))) pa_nil)) pa_nil)))) (pa_cons pe_int pa_nil))))
      (pss_cons (ps_set (i := 14) sc_law.nd rfl (Or.inl rfl) (pe_lst (pa_cons (pe_do DLo hr passL (pa_cons (pv 17) pa_nil)) (pa_cons (pe_do DBu hr passL (pa_cons (pv 17) pa_nil)) (pa_cons (pe_do DPh hr passL (pa_cons (pv 17) pa_nil)) (pa_cons (pe_do DSp hr passL (pa_cons (pv 17) pa_nil)) pa_nil))))))
      (pss_one (ps_ret (pe_doG hgu DLk hr pass0 (pa_cons (pv 14) (pa_cons (pe_lst (pa_cons (pe_tup (pa_cons pe_int (pa_cons pe_int pa_nil))) (pa_cons (pe_tup (pa_cons pe_int (pa_cons pe_int pa_nil))) (pa_cons (pe_tup (pa_cons (pe_tup (pa_cons pe_int pa_nil)) (pa_cons (pe_tup (pa_cons pe_int pa_nil)) (pa_cons (pe_tup (pa_cons pe_int pa_nil)) pa_nil)))) (pa_cons (pe_tup (pa_cons pe_int (pa_cons (pe_tup (pa_cons (pe_tup (pa_cons pe_int pa_nil)) (pa_cons (pe_tup (pa_cons pe_int pa_nil)) (pa_cons (pe_tup (pa_cons pe_int pa_nil)) pa_nil)))) pa_nil))) pa_nil))))) pa_nil))))))))), ?_⟩
    refine ⟨_, rfl, a, ns, rfl, ha, hl, fun m c0 g HA sA MA hmn hgn => ?_⟩
    have lns : (ns.map V.int).length = ns.length := List.length_map ..
    refine ⟨_, rfl, a, _, rfl, .inl (sql_same sA ha), _, _, rfl, ?_⟩
    rw [lns]
    obtain ⟨N, hN, eN⟩ : ∃ N : Nat, N ≤ 10 ∧ (3 : Int) + (if (ns.length : Int) < 7 then (ns.length : Int) else 7) = (N : Nat) := by
      by_cases h7 : (ns.length : Int) < 7
      · exact ⟨3 + ns.length, by omega, by rw [if_pos h7]; omega⟩
      · exact ⟨10, by omega, by rw [if_neg h7]; omega⟩
    refine ⟨_, _, rfl, rfl, _, rfl, ?_⟩
    rw [eN]
    refine ⟨by omega, by omega, ?_⟩
    let q0 : Str := (cxOf CX0 P w K mg base lawN "law" (defScope sLaw) f cdv A outer s H E).nox.env.qual ++ "<lambda>"
    refine for_range (lo := 0) (n := N) (fun i σ H' => MAt m c0 g (60 * (10 - i)) H' ∧ Tabs [(Tb, q0)] H' ∧ ∃ v2 v3 v4 v5 v6 v8 v10 v11 v12 v13 v14 v15 v16, σ = [some (.ref a), some (.ref m), v2, v3, v4, v5, v6, none, v8, none, v10, v11, v12, v13, v14, v15, v16, none])
      ⟨MA.mono (by omega), tabs_same (tabs0 hT) sA, none, none, none, none, none, none, none, none, none, none, none, none, none, rfl⟩ ?_ ?_
    · rintro i σ H0 hi ⟨M0, T0, v2, v3, v4, v5, v6, v8, v10, v11, v12, v13, v14, v15, v16, rfl⟩
      obtain ⟨BB, hBB⟩ : ∃ BB, BB = 60 * (10 - (i + 1)) + 10 := ⟨_, rfl⟩
      refine ⟨_, rfl, m, c0, g, BB, rfl, M0.mono (by omega), fun y h H1 hL dh1 M1 f1 => ?_⟩
      have ok := hL.ok
      have T1 := tabs_mfr T0 M0 f1
      obtain ⟨hx, y1, b, us, rfl, hhx, rfl, hb, db⟩ := dp_house dh1
      have lu : us.length = h.bodies.length := by rw [dpAll_len db, List.length_map]
      have t9 : (terms h).length ≤ 6 := terms_l6 hL
      refine ⟨len_ok (by simp), fun l0 hl0 => ⟨len_ok (by simp), fun p0 hp0 => ⟨_, _, rfl, ?_⟩⟩⟩
      have sl0 := same_new (o := .lst []) hl0
      have sp0 := same_new (o := .tup []) hp0
      have s01 := sl0.trans sp0
      refine ⟨_, rfl, _, _, 0, _, rfl, rfl, s01.seqT hhx, at0 _ _, b, rfl, ⟨_, s01.seqT hb⟩, for_tup (K := K) (a := b) (xs := us) (fun j σ H' => Same H1 H' ∧ ∃ tl ow ov v6, σ = [some (.ref a), some (.ref m), some (.int (0 + (i : Int))), some (.ref hx), some (.ref tl), some (.ref ow), v6, none, v8, none, v10, v11, v12, v13, v14, v15, v16, none] ∧
          H1 tl = none ∧ H' tl = some (.lst (nats (tms (h.bodies.take j)))) ∧ SqT K H' ow ov ∧ DpAll K H' ov ((h.bodies.take j).map fun b => .tuple (natD (b.map Seat.p))))
        ⟨s01, l0, p0, [], _, rfl, hl0, sp0 _ _ upd_same, seqT_of upd_same, .nil⟩ (fun j σ H' _ e => e.1.seqT hb) ?_ ?_⟩
      · rintro j x σ H2 hxj ⟨s2, tl, ow, ov, v6, rfl, htn, htl, how, dov⟩
        obtain ⟨bd, hbd, dx⟩ := dpAll_map (dpAll_same s2 db) hxj
        obtain ⟨e1, ss, rfl, he1, ds⟩ := dp_body dx
        have hm := List.mem_of_getElem? hbd
        have lss : ss.length = bd.length := by rw [dpAll_len ds, List.length_map]
        have hb3 := hL.s3 bd hm
        have ltms : (tms (h.bodies.take j)).length ≤ 6 := by
          have e : terms h = tms (h.bodies.take j) ++ tms (h.bodies.drop j) := by
            unfold terms tms
            rw [← List.flatMap_append, List.take_append_drop]
          have := congrArg List.length e
          rw [List.length_append] at this
          omega
        have lov : ov.length ≤ 3 := by
          rw [dpAll_len dov, List.length_map, List.length_take]
          have := hL.b2
          omega
        refine ⟨_, rfl, _, rfl, e1, rfl, ⟨_, he1⟩, fun D hD => lc_data (K := K) (walk_tup (K := K) (a := e1) (xs := ss)) (natD (bd.map Seat.t)) (by rw [natD_len, List.length_map, lss]) (small (by omega)) hD (fun H s => s.seqT he1) (fun k z H3 H4 d R R' hd' s3 y hR => ?_) (tupOnly_nat _) fun H3 vs3 s3 hv3 dv3 => ?_⟩
        · obtain ⟨rfl, hz⟩ := y
          obtain ⟨st, hst, dz⟩ := dpAll_map (dpAll_same s3 ds) hz
          obtain ⟨e2, yy, rfl, he2, hyy⟩ := dp_seat dz
          unfold natD at hd'
          rw [List.map_map, List.getElem?_map, hst] at hd'
          cases hd'
          exact ⟨rfl, _, rfl, e2, _, 0, _, rfl, rfl, he2, at0 _ _, hR _ _ (Same.refl _) (.int _)⟩
        · have ev := nats_of dv3
          subst ev
          have lb : (bd.map Seat.t).length ≤ 3 := by rw [List.length_map]; exact hb3
          refine ⟨tl, D, _, _, rfl, rfl, s3 _ _ htl, hv3, small (by rw [nats_len, nats_len]; omega), fun p1 hp1 => ?_⟩
          have s4 := same_new (o := .lst (nats (tms (h.bodies.take j)) ++ nats (bd.map Seat.t))) hp1
          have s34 := s3.trans s4
          have he1' := s34.seqT he1
          refine ⟨_, rfl, _, rfl, e1, rfl, ⟨_, he1'⟩, fun D2 hD2 => lc_data (K := K) (walk_tup (K := K) (a := e1) (xs := ss)) (natD (bd.map Seat.p)) (by rw [natD_len, List.length_map, lss]) (small (by omega)) hD2 (fun H s => s.seqT he1') (fun k z H5 H6 d R R' hd' s5 y hR => ?_) (tupOnly_nat _) fun H5 vs5 s5 hv5 dv5 => ?_⟩
          · obtain ⟨rfl, hz⟩ := y
            obtain ⟨st, hst, dz⟩ := dpAll_map (dpAll_same (s34.trans s5) ds) hz
            obtain ⟨e2, yy, rfl, he2, hyy⟩ := dp_seat dz
            unfold natD at hd'
            rw [List.map_map, List.getElem?_map, hst] at hd'
            cases hd'
            exact ⟨rfl, _, rfl, e2, _, 1, _, rfl, rfl, he2, at1 _ _ _, hR _ _ (Same.refl _) (.int _)⟩
          · refine ⟨D2, vs5, rfl, .inl ⟨.inl (.inl hv5), fun l2 hl2 => ⟨len_ok (by simp), fun p2 hp2 => ?_⟩⟩⟩
            have s6 := same_new (o := .tup vs5) hl2
            have s7 := same_new (o := .tup [.ref l2]) hp2
            have s37 := s34.trans (s5.trans (s6.trans s7))
            refine cat_any (s37.seqT how) (seqT_of upd_same) (by simp; omega) fun c3 H8 s8 hc3 => ?_
            have s38 := s37.trans s8
            refine ⟨s2.trans s38, p1, c3, _, _, rfl, ?_, ?_, hc3, ?_⟩
            · cases e : H1 p1 with
              | none => rfl
              | some o =>
                have := s3 _ _ (s2 _ _ e)
                rw [hp1] at this
                cases this
            · have : (upd H3 p1 (.lst (nats (tms (h.bodies.take j)) ++ nats (bd.map Seat.t)))) p1 = some (.lst (nats (tms (h.bodies.take (j + 1))))) := by
                rw [upd_same, tms_snoc hbd]
                unfold nats
                rw [List.map_append]
              exact (s5.trans (s6.trans (s7.trans s8))) _ _ this
            · rw [take_snoc hbd, List.map_append]
              exact dpAll_snoc (dpAll_same s38 dov) (.tup ((s7.trans s8).seqT (seqT_of upd_same)) (dpAll_same (s6.trans (s7.trans s8)) dv5))
      · rintro σ H2 ⟨s2, tl, ow, ov, v6, rfl, htn, htl, how, dov⟩
        rw [lu, List.take_length] at htl dov
        have dow2 : Dp K H2 (.ref ow) (psD (own h)) := by
          rw [← phD_own]
          exact .tup how dov
        have htl2 : H2 tl = some (.lst (nats (terms h))) := htl
        have dh2 := dp_same s2 dh1
        have M2 := M1.same s2
        have T2 := tabs_same T1 s2
        obtain ⟨nt1, nt2⟩ := M1.fresh htn
        have lts : (nats (terms h)).length = (terms h).length := nats_len _
        refine ⟨_, rfl, tl, rfl, ⟨_, .inl (.inl htl2)⟩, fun D hD => ?_⟩
        obtain ⟨nD1, nD2⟩ := M2.fresh hD
        have nD3 := M2.freshC hD
        refine lc_it (walk_list (K := K) (a := tl) (xs := nats (terms h))) (fun j H' => ∃ r, Phs ((terms h).take j) r ∧ H' D = some (.lst (nats r)) ∧ MAt m c0 g (BB - j) H' ∧ MFr m g H2 H')
          ⟨[], by simpa using Phs.nil, upd_same, M2.upd nD1 nD3 nD2, MFr.of (same_new hD)⟩ (fun j H' _ e => .inl (.inl (by obtain ⟨_, _, _, _, ff⟩ := e; exact ff.at_ _ _ htl2 nt1 nt2))) ?_ ?_
        · rintro j x H3 H4 hj ⟨r, hr1, hD3, M3, f3⟩ ⟨rfl, hxj⟩
          have hxj : (nats (terms h))[j]? = some x := hxj
          rw [nats_get] at hxj
          cases htj : (terms h)[j]? with
          | none => rw [htj] at hxj; cases hxj
          | some t =>
            rw [htj] at hxj
            cases hxj
            have htm := List.mem_of_getElem? htj
            have t0 := terms_pos ok t htm
            have t6 := terms_6 ok t htm
            have hrl := hr1.length
            rw [List.length_take] at hrl
            refine ⟨rfl, _, rfl, _, rfl, m, c0, g, BB - (j + 1), t, rfl, t0, by omega, M3.mono (by omega), fun p H5 hp M5 f5 => ?_⟩
            have hD5 := f5.at_ _ _ hD3 nD1 nD2
            refine ⟨_, hD5, by rw [nats_len]; unfold sizeLine; omega, r ++ [p], ?_, ?_, M5.upd nD1 nD3 nD2, (f3.trans f5).put hD⟩
            · rw [take_snoc htj]
              exact hr1.append (.cons hp .nil)
            · rw [upd_same]
              unfold nats
              rw [List.map_append]
              rfl
        · rintro H3 ⟨r, hr1, hD3, M3, f3⟩
          rw [lts] at M3
          rw [lts, List.take_length] at hr1
          refine ⟨D, _, rfl, .inl ⟨.inl (.inl hD3), fun rw0 hrw => ?_⟩⟩
          have s4 := same_new (o := .tup (nats r)) hrw
          have f4 := f3.trans (MFr.of s4)
          have tu4 := M2.tups f4
          have M4 := M3.same s4
          have T4 := tabs_mfr T2 M2 f4
          have dh4 := dp_tups tu4 _ _ (house_to ok) dh2
          have dow4 := dp_tups tu4 _ _ (psD_to _) dow2
          have htl4 := f4.at_ _ _ htl2 nt1 nt2
          have hrw4 : SqT K (upd H3 rw0 (.tup (nats r))) rw0 (nats r) := seqT_of upd_same
          generalize hH4 : upd H3 rw0 (.tup (nats r)) = H4 at *
          have hrlen : r.length = (h.bodies.map List.length).sum := by rw [hr1.length, terms_len]
          refine ⟨_, rfl, _, rfl, _, rfl, .ref hx, rw0, h, r, rfl, dh4, ok.b3, hrw4, hrlen, fun yp H5 s5 dyp => ⟨len_ok (by simp), fun pt hpt => ?_⟩⟩
          have s6 := same_new (o := .tup [.ref ow, yp]) hpt
          have s56 := s5.trans s6
          have hpt6 : SqT K (upd H5 pt (.tup [.ref ow, yp])) pt [.ref ow, yp] := seqT_of upd_same
          have dyp6 := dp_same s6 dyp
          generalize hH6 : upd H5 pt (.tup [.ref ow, yp]) = H6 at *
          have dh6 := dp_same s56 dh4
          have dow6 := dp_same s56 dow4
          have htl6 := s56 _ _ htl4
          refine ⟨pt, rfl, ⟨_, hpt6⟩, for_tup (K := K) (a := pt) (xs := [.ref ow, yp]) (fun j σ H' => Same H6 H' ∧ ∃ v10 v11 v12 v13 v14, σ = [some (.ref a), some (.ref m), some (.int (0 + (i : Int))), some (.ref hx), some (.ref tl), some (.ref ow), v6, none, some (.ref rw0), none, v10, v11, v12, v13, v14, v15, v16, none])
            ⟨Same.refl _, _, _, _, _, _, rfl⟩ (fun j σ H' _ e => e.1.seqT hpt6) ?_ ?_⟩
          · rintro j x σ H7 hxj ⟨s7, v10, v11, v12, v13, v14, rfl⟩
            have hps : ∃ ps, PhOk h ps ∧ Dp K H6 x (psD ps) := by
              cases j with
              | zero => cases hxj; exact ⟨own h, own_ok ok, dow6⟩
              | succ j =>
                cases j with
                | zero => cases hxj; exact ⟨parts h.bodies r, parts_ok hr1, dyp6⟩
                | succ j => cases hxj
            obtain ⟨ps, pk, dx6⟩ := hps
            have hhx6 : SqT K H6 hx [.ref b, .int (h.wards : Int)] := (tu4.trans (Tups.of s56)).seq (s2.seqT hhx)
            have dx7 := dp_same s7 dx6
            refine ⟨_, rfl, _, rfl, .ref hx, x, _, _, rfl, dp_same s7 dh6, dx7, .inl ⟨h, rfl, ok, .inl ⟨ps, rfl, pk, fun z H9 s9 dz => ?_⟩⟩⟩
            have dx9 := dp_same s9 dx7
            obtain ⟨xa, xv, rfl, hxa, dxv⟩ := dp_tuple dx9
            have lxv : xv.length = ps.length := by rw [dpAll_len dxv, List.length_map]
            have hb1 := ok.b1
            have hb2 := hL.b2
            have hpl := pk.len
            have hfl : ps.flatten.length ≤ 6 := by rw [pk.phs.length]; exact t9
            rcases two_of (l := ps) (by omega) (by omega) with ⟨l0, rfl⟩ | ⟨l0, l1, rfl⟩
            · obtain ⟨e0, rfl, d0⟩ := dp_one dxv
              obtain ⟨ra, rv, rfl, hra, dra⟩ := dp_tuple d0
              have erv := nats_of dra
              subst erv
              refine ⟨_, rfl, xa, _, 0, _, rfl, rfl, hxa, at0 _ _, ra, _, rfl, .inr hra, fun F1 hF1 => ?_⟩
              have sF1 := same_new (o := .lst (nats l0)) hF1
              refine ⟨_, rfl, xa, _, rfl, .inr (sF1.seqT hxa), _, _, rfl, rfl, _, rfl, if_f (by simp) ?_⟩
              refine ⟨len_ok (by simp), fun F2 hF2 => ?_⟩
              have sF2 := same_new (o := .lst []) hF2
              refine ⟨F1, F2, _, _, rfl, rfl, sF2 _ _ upd_same, upd_same, small (by rw [nats_len]; simp at hfl; simp; omega), fun F hF0 => ?_⟩
              have sF3 := same_new (o := .lst (nats l0 ++ [])) hF0
              have sF := sF1.trans (sF2.trans sF3)
              have hF : (upd (upd (upd H9 F1 (.lst (nats l0))) F2 (.lst [])) F (.lst (nats l0 ++ []))) F = some (.lst (nats [l0].flatten)) := by rw [upd_same]; simp
              generalize hH10 : (upd (upd (upd H9 F1 (.lst (nats l0))) F2 (.lst [])) F (.lst (nats l0 ++ []))) = H10 at *
              generalize hps : [l0] = ps at *
              have pf := pk.phs
              have htl9 := s9.trans sF
              have htlF := (s7.trans htl9) _ _ htl6
              refine ⟨_, rfl, _, rfl, tl, F, terms h, ps.flatten, rfl, .inl (.inl htlF), .inl (.inl (.inl hF)), pf, by omega, by have := ok.round; omega, fun c H11 s11 hcF => ?_⟩
              have okW := pk.house ok
              have sW := sF.trans s11
              refine ⟨_, rfl, z, _, rfl, dp_same sW dz, .inl ⟨withPh h ps, rfl, okW, fun y1 H12 s12 d1 => ?_⟩⟩
              refine ⟨_, rfl, z, _, rfl, dp_same (sW.trans s12) dz, .inl ⟨withPh h ps, rfl, okW, fun y2 H13 s13 d2 => ?_⟩⟩
              refine ⟨_, rfl, z, _, rfl, dp_same (sW.trans (s12.trans s13)) dz, .inl ⟨withPh h ps, rfl, okW, fun y3 H14 s14 d3 => ?_⟩⟩
              rw [pk.phD] at d1
              rw [pk.terms, pk.phases] at d2 d3
              refine ⟨len_ok (by simp), fun L1 hL1 => ?_⟩
              have s15 := same_new (o := .lst [y1, y2, y3]) hL1
              have hcT : FTup (upd H14 L1 (.lst [y1, y2, y3])) c _ := hcF.same (s12.trans (s13.trans (s14.trans s15)))
              have hcI := hcT.seq (K := K)
              rw [nats_ints] at hcI
              have hl0 : 0 < ((K88.loads (terms h) ps.flatten).map fun (n : Nat) => (n : Int)).length := by
                rw [List.length_map]
                exact List.length_pos_iff.mpr (loads_ne (terms_pos ok))
              refine ⟨_, rfl, _, rfl, _, rfl, _, rfl, c, _, rfl, hcI, hl0, fun mm m1 m2 => ?_⟩
              obtain rfl := max_ints m1 m2
              obtain ⟨oF, hoF, hoc, hod⟩ := hcT
              refine ⟨_, rfl, ⟨c, oF, _, rfl, hoF, hoc, hod⟩, _, rfl, c, _, rfl, hcI, hl0, fun mm m1 m2 => ?_⟩
              obtain rfl := max_ints m1 m2
              have hmx := maxL_mem (loads_ne (ps := ps.flatten) (terms_pos ok))
              refine ⟨c, _, _, (K88.loads (terms h) ps.flatten).idxOf (maxL (K88.loads (terms h) ps.flatten)), rfl, rfl, hcI, by rw [List.getElem?_map, idx_hit hmx]; rfl, fun k hk e => ?_, len_ok (by simp), fun p3 hp3 => ⟨len_ok (by simp), fun L2 hL2 => ?_⟩⟩
              · rw [List.getElem?_map] at e
                cases e2 : (K88.loads (terms h) ps.flatten)[k]? with
                | none => rw [e2] at e; cases e
                | some n =>
                  rw [e2] at e
                  have := idx_miss hk e2
                  simp at e
                  omega
              have s16 := same_new (o := .tup [.int ((maxL (K88.loads (terms h) ps.flatten) : Nat) : Int), .int (((K88.loads (terms h) ps.flatten).idxOf (maxL (K88.loads (terms h) ps.flatten)) : Nat) : Int)]) hp3
              have s17 := same_new (o := .lst [.ref xa, .ref c, .ref p3]) hL2
              have sL := s12.trans (s13.trans (s14.trans (s15.trans (s16.trans s17))))
              have dA : Dp K _ (.ref L1) (.list [psD ps, .tuple (natD (K88.loads (terms h) ps.flatten)), busD (K88.loads (terms h) ps.flatten)]) :=
                .lst (.inl (.inl ((s16.trans s17) _ _ upd_same))) (.cons (dp_same (s13.trans (s14.trans (s15.trans (s16.trans s17)))) d1) (.cons (dp_same (s14.trans (s15.trans (s16.trans s17))) d2) (.cons (dp_same (s15.trans (s16.trans s17)) d3) .nil)))
              have dB : Dp K _ (.ref L2) (.list [psD ps, .tuple (natD (K88.loads (terms h) ps.flatten)), busD (K88.loads (terms h) ps.flatten)]) :=
                .lst (.inl (.inl upd_same)) (.cons (dp_same ((s7.trans htl9).trans (s11.trans sL)) dx6) (.cons (.tup (sL.seqT hcF.seq) (dpAll_nats _)) (.cons (.tup (s17.seqT (seqT_of upd_same)) (.cons (.int _) (.cons (.int _) .nil))) .nil)))
              refine ⟨L1, L2, _, rfl, dA, dB, tiny_told ok pk, ?_⟩
              refine ⟨_, rfl, _, rfl, _, rfl, z, .ref ow, _, _, rfl, dp_same (sW.trans sL) dz, dp_same ((s7.trans htl9).trans (s11.trans sL)) dow6, .inl ⟨withPh h ps, rfl, okW, .inl ⟨own h, rfl, pk.other (own_ok ok), fun y4 H18 s18 d4 => ?_⟩⟩⟩
              rw [pk.back] at d4
              have s718 := (s7.trans htl9).trans (s11.trans (sL.trans s18))
              refine ⟨_, rfl, houseD h, houseD h, d4, dp_same s718 dh6, house_shaped ok, house_shaped ok, ?_⟩
              rw [SeqAt.eqv_refl _ (SeqAt.canLay_of_shaped (house_shaped ok))]
              refine ⟨_, rfl, iteF ?_⟩
              obtain ⟨za, zy, zb, zus, rfl, hza, rfl, _, _⟩ := dp_house dz
              refine ⟨_, rfl, za, _, 1, _, rfl, rfl, (sW.trans (sL.trans s18)).seqT hza, at1 _ _ _, _, rfl, hx, _, 1, _, rfl, rfl, s718.seqT hhx6, at1 _ _ _, rfl, _, rfl, if_f (by simp [withPh]) ?_⟩
              exact ⟨s718, _, _, _, _, _, rfl⟩
            · obtain ⟨e0, e1, rfl, d0, d1'⟩ := dp_two dxv
              obtain ⟨ra, rv, rfl, hra, dra⟩ := dp_tuple d0
              have erv := nats_of dra
              subst erv
              obtain ⟨ra1, rv1, rfl, hra1, dra1⟩ := dp_tuple d1'
              have erv := nats_of dra1
              subst erv
              refine ⟨_, rfl, xa, _, 0, _, rfl, rfl, hxa, at0 _ _, ra, _, rfl, .inr hra, fun F1 hF1 => ?_⟩
              have sF1 := same_new (o := .lst (nats l0)) hF1
              refine ⟨_, rfl, xa, _, rfl, .inr (sF1.seqT hxa), _, _, rfl, rfl, _, rfl, if_t (by simp) ?_⟩
              refine ⟨_, rfl, xa, _, 1, _, rfl, rfl, sF1.seqT hxa, at1 _ _ _, ra1, _, rfl, .inr (sF1.seqT hra1), fun F2 hF2 => ?_⟩
              have sF2 := same_new (o := .lst (nats l1)) hF2
              refine ⟨F1, F2, _, _, rfl, rfl, sF2 _ _ upd_same, upd_same, small (by rw [nats_len, nats_len]; simp at hfl; omega), fun F hF0 => ?_⟩
              have sF3 := same_new (o := .lst (nats l0 ++ nats l1)) hF0
              have sF := sF1.trans (sF2.trans sF3)
              have hF : (upd (upd (upd H9 F1 (.lst (nats l0))) F2 (.lst (nats l1))) F (.lst (nats l0 ++ nats l1))) F = some (.lst (nats [l0, l1].flatten)) := by rw [upd_same]; simp [nats]
              generalize hH10 : (upd (upd (upd H9 F1 (.lst (nats l0))) F2 (.lst (nats l1))) F (.lst (nats l0 ++ nats l1))) = H10 at *
              generalize hps : [l0, l1] = ps at *
              have pf := pk.phs
              have htl9 := s9.trans sF
              have htlF := (s7.trans htl9) _ _ htl6
              refine ⟨_, rfl, _, rfl, tl, F, terms h, ps.flatten, rfl, .inl (.inl htlF), .inl (.inl (.inl hF)), pf, by omega, by have := ok.round; omega, fun c H11 s11 hcF => ?_⟩
              have okW := pk.house ok
              have sW := sF.trans s11
              refine ⟨_, rfl, z, _, rfl, dp_same sW dz, .inl ⟨withPh h ps, rfl, okW, fun y1 H12 s12 d1 => ?_⟩⟩
              refine ⟨_, rfl, z, _, rfl, dp_same (sW.trans s12) dz, .inl ⟨withPh h ps, rfl, okW, fun y2 H13 s13 d2 => ?_⟩⟩
              refine ⟨_, rfl, z, _, rfl, dp_same (sW.trans (s12.trans s13)) dz, .inl ⟨withPh h ps, rfl, okW, fun y3 H14 s14 d3 => ?_⟩⟩
              rw [pk.phD] at d1
              rw [pk.terms, pk.phases] at d2 d3
              refine ⟨len_ok (by simp), fun L1 hL1 => ?_⟩
              have s15 := same_new (o := .lst [y1, y2, y3]) hL1
              have hcT : FTup (upd H14 L1 (.lst [y1, y2, y3])) c _ := hcF.same (s12.trans (s13.trans (s14.trans s15)))
              have hcI := hcT.seq (K := K)
              rw [nats_ints] at hcI
              have hl0 : 0 < ((K88.loads (terms h) ps.flatten).map fun (n : Nat) => (n : Int)).length := by
                rw [List.length_map]
                exact List.length_pos_iff.mpr (loads_ne (terms_pos ok))
              refine ⟨_, rfl, _, rfl, _, rfl, _, rfl, c, _, rfl, hcI, hl0, fun mm m1 m2 => ?_⟩
              obtain rfl := max_ints m1 m2
              obtain ⟨oF, hoF, hoc, hod⟩ := hcT
              refine ⟨_, rfl, ⟨c, oF, _, rfl, hoF, hoc, hod⟩, _, rfl, c, _, rfl, hcI, hl0, fun mm m1 m2 => ?_⟩
              obtain rfl := max_ints m1 m2
              have hmx := maxL_mem (loads_ne (ps := ps.flatten) (terms_pos ok))
              refine ⟨c, _, _, (K88.loads (terms h) ps.flatten).idxOf (maxL (K88.loads (terms h) ps.flatten)), rfl, rfl, hcI, by rw [List.getElem?_map, idx_hit hmx]; rfl, fun k hk e => ?_, len_ok (by simp), fun p3 hp3 => ⟨len_ok (by simp), fun L2 hL2 => ?_⟩⟩
              · rw [List.getElem?_map] at e
                cases e2 : (K88.loads (terms h) ps.flatten)[k]? with
                | none => rw [e2] at e; cases e
                | some n =>
                  rw [e2] at e
                  have := idx_miss hk e2
                  simp at e
                  omega
              have s16 := same_new (o := .tup [.int ((maxL (K88.loads (terms h) ps.flatten) : Nat) : Int), .int (((K88.loads (terms h) ps.flatten).idxOf (maxL (K88.loads (terms h) ps.flatten)) : Nat) : Int)]) hp3
              have s17 := same_new (o := .lst [.ref xa, .ref c, .ref p3]) hL2
              have sL := s12.trans (s13.trans (s14.trans (s15.trans (s16.trans s17))))
              have dA : Dp K _ (.ref L1) (.list [psD ps, .tuple (natD (K88.loads (terms h) ps.flatten)), busD (K88.loads (terms h) ps.flatten)]) :=
                .lst (.inl (.inl ((s16.trans s17) _ _ upd_same))) (.cons (dp_same (s13.trans (s14.trans (s15.trans (s16.trans s17)))) d1) (.cons (dp_same (s14.trans (s15.trans (s16.trans s17))) d2) (.cons (dp_same (s15.trans (s16.trans s17)) d3) .nil)))
              have dB : Dp K _ (.ref L2) (.list [psD ps, .tuple (natD (K88.loads (terms h) ps.flatten)), busD (K88.loads (terms h) ps.flatten)]) :=
                .lst (.inl (.inl upd_same)) (.cons (dp_same ((s7.trans htl9).trans (s11.trans sL)) dx6) (.cons (.tup (sL.seqT hcF.seq) (dpAll_nats _)) (.cons (.tup (s17.seqT (seqT_of upd_same)) (.cons (.int _) (.cons (.int _) .nil))) .nil)))
              refine ⟨L1, L2, _, rfl, dA, dB, tiny_told ok pk, ?_⟩
              refine ⟨_, rfl, _, rfl, _, rfl, z, .ref ow, _, _, rfl, dp_same (sW.trans sL) dz, dp_same ((s7.trans htl9).trans (s11.trans sL)) dow6, .inl ⟨withPh h ps, rfl, okW, .inl ⟨own h, rfl, pk.other (own_ok ok), fun y4 H18 s18 d4 => ?_⟩⟩⟩
              rw [pk.back] at d4
              have s718 := (s7.trans htl9).trans (s11.trans (sL.trans s18))
              refine ⟨_, rfl, houseD h, houseD h, d4, dp_same s718 dh6, house_shaped ok, house_shaped ok, ?_⟩
              rw [SeqAt.eqv_refl _ (SeqAt.canLay_of_shaped (house_shaped ok))]
              refine ⟨_, rfl, iteF ?_⟩
              obtain ⟨za, zy, zb, zus, rfl, hza, rfl, _, _⟩ := dp_house dz
              refine ⟨_, rfl, za, _, 1, _, rfl, rfl, (sW.trans (sL.trans s18)).seqT hza, at1 _ _ _, _, rfl, hx, _, 1, _, rfl, rfl, s718.seqT hhx6, at1 _ _ _, rfl, _, rfl, if_f (by simp [withPh]) ?_⟩
              exact ⟨s718, _, _, _, _, _, rfl⟩
          · rintro σ H7 ⟨s7, v10, v11, v12, v13, v14, rfl⟩
            have dh7 := dp_same s7 dh6
            have dow7 := dp_same s7 dow6
            have s47 := s56.trans s7
            refine ⟨_, rfl, .ref hx, _, rfl, dh7, .inl ⟨h, rfl, ok, fun y H8 s8 d8 => ?_⟩⟩
            rw [phD_own] at d8
            refine ⟨_, rfl, psD (own h), psD (own h), d8, dp_same s8 dow7, psD_shaped _, psD_shaped _, ?_⟩
            rw [SeqAt.eqv_refl _ (SeqAt.canLay_of_shaped (psD_shaped (own h)))]
            refine ⟨_, rfl, iteF ?_⟩
            refine ⟨_, rfl, _, rfl, .ref hx, tl, h, rfl, dp_same s8 dh7, hL, .inl (.inl (s8 _ _ (s7 _ _ htl6))), fun H9 s9 => ⟨_, rfl, ?_⟩⟩
            have s49 := s47.trans (s8.trans s9)
            have M9 := M4.same s49
            have T9 := tabs_same T4 s49
            have dh9 := dp_same s49 dh4
            have dow9 := dp_same s49 dow4
            have htl9 := s49 _ _ htl4
            have hhx9 : SqT K H9 hx [.ref b, .int (h.wards : Int)] := (tu4.trans (Tups.of s49)).seq (s2.seqT hhx)
            have hb9 : SqT K H9 b us := (tu4.trans (Tups.of s49)).seq (s2.seqT hb)
            have db9 : DpAll K H9 us (h.bodies.map bodyD) := dpAll_tups (tu4.trans (Tups.of s49)) _ _ (bodies_to ok) (dpAll_same s2 db)
            obtain ⟨b0, bs, eb⟩ := List.exists_cons_of_length_pos (show 0 < h.bodies.length from ok.b1)
            have hb0 : b0 ∈ h.bodies := by rw [eb]; exact List.mem_cons_self ..
            obtain ⟨st0, ss0, es⟩ := List.exists_cons_of_length_pos (show 0 < b0.length from (ok.s1 b0 hb0).1)
            have hst0 : SeatOk h.bodies.length h.wards st0 := ok.seats b0 hb0 st0 (by rw [es]; exact List.mem_cons_self ..)
            have lb0 : b0.length ≤ 3 := hL.s3 b0 hb0
            have lbs : bs.length ≤ 1 := by have := hL.b2; rw [eb] at this; simp at this; omega
            have eown : own h = (st0.p :: ss0.map Seat.p) :: bs.map fun b => b.map Seat.p := by unfold own; rw [eb, es]; rfl
            have eterm : ∃ tr, terms h = st0.t :: tr := ⟨_, by unfold terms; rw [eb, es]; rfl⟩
            obtain ⟨tr, eterm⟩ := eterm
            have hphs := (own_ok ok).phs
            have hle60 : ∀ l ∈ own h, ∀ p ∈ l, p ≤ 60 := fun l hl p hp => phs_le hphs (terms_6 ok) p (List.mem_flatten.mpr ⟨l, hl, hp⟩)
            have lss0 : ss0.length ≤ 2 := by rw [es] at lb0; simp at lb0; omega
            let pr := ss0.map Seat.p
            let RD : List PyData := (bs.map fun b => b.map Seat.p).map fun l => .tuple (natD l)
            have lpr : pr.length = ss0.length := List.length_map ..
            have lRD : RD.length = bs.length := by show (List.map _ (List.map _ bs)).length = _; rw [List.length_map, List.length_map]
            have tRD : ∀ d ∈ RD, Tiny 1 d := by
              intro d hd
              obtain ⟨l, hl, rfl⟩ := List.mem_map.mp hd
              obtain ⟨b', hb', rfl⟩ := List.mem_map.mp hl
              have hm : b' ∈ h.bodies := by rw [eb]; exact List.mem_cons_of_mem _ hb'
              exact tiny_nats 0 (by rw [List.length_map]; have := hL.s3 b' hm; omega) fun p hp => hle60 _ (by rw [eown]; exact List.mem_cons_of_mem _ hl) p hp
            have p60 : ∀ p ∈ st0.p :: pr, p ≤ 60 := hle60 _ (by rw [eown]; exact List.mem_cons_self ..)
            have oRD : tupOnlyAll RD = true := rows_to _
            have lh : h.bodies.length = bs.length + 1 := by rw [eb]; rfl
            have dowc : psD (own h) = .tuple (.tuple (natD (st0.p :: pr)) :: RD) := by rw [eown]; rfl
            rw [dowc] at dow9
            obtain ⟨ow', ov', eow, how9, dov9⟩ := dp_tuple dow9
            cases eow
            obtain ⟨x0, xr, rfl, dx0, dxr9⟩ : ∃ x0 xr, ov' = x0 :: xr ∧ Dp K H9 x0 (.tuple (natD (st0.p :: pr))) ∧ DpAll K H9 xr RD := by
              cases dov9 with
              | cons h1 h2 => exact ⟨_, _, rfl, h1, h2⟩
            have lxr : xr.length = bs.length := by rw [dpAll_len dxr9, lRD]
            obtain ⟨r0, rv0, rfl, hr9, dr9⟩ := dp_tuple dx0
            have erv0 := nats_of dr9
            subst erv0
            have hr9' : SqT K H9 r0 (.int (st0.p : Nat) :: nats pr) := hr9
            have headB : ∀ X, Tiny 1 X → rowOk X b0 = false → arPh h (.tuple (X :: RD)) = false ∧ Tiny 2 (.tuple (X :: RD)) := fun X hX hf =>
              ⟨ar_head eb hf, .tup 1 _ (by rw [List.length_cons, lRD]; omega) fun d hd => by
                rcases List.mem_cons.mp hd with e | e
                · rw [e]; exact hX
                · exact tRD d e⟩
            have tR0 : Tiny 1 (.tuple (natD (st0.p :: pr))) := tiny_nats 0 (by rw [List.length_cons, lpr]; omega) p60
            have tprow : ∀ e : PyData, Tiny 0 e → Tiny 1 (.tuple (e :: natD pr)) := fun e he => .tup 0 _ (by rw [List.length_cons, natD_len, lpr]; omega) fun d hd => by
              rcases List.mem_cons.mp hd with q | q
              · rw [q]; exact he
              · obtain ⟨n, hn, rfl⟩ := List.mem_map.mp q
                exact .int _ _ (by omega) (by have := p60 n (List.mem_cons_of_mem _ hn); omega)
            refine ⟨len_ok (by simp), fun p1 hp1 => ?_⟩
            have a1 := same_new (o := .tup []) hp1
            have B1 : BadV K m g h _ (.ref p1) := BadV.of (M9.same a1) (ar_len (rs := []) (by rw [lh]; simp)) (.tup 1 [] (by simp) (fun _ h => nomatch h)) rfl (dp0 upd_same)
            refine ⟨_, rfl, ow, _, rfl, .inr (a1.seqT how9), fun l2 hl2f => ?_⟩
            have b2 := same_new (o := .lst (.ref r0 :: xr)) hl2f
            have a2 := a1.trans b2
            -- own[:-1]
            refine ⟨_, rfl, _, rfl, _, rfl, sl_last (by simp) (a2.seqT how9) fun c3 G3 b3 hc3 => ?_⟩
            have a3 := a2.trans b3
            have tkl : (PyData.tuple (natD (st0.p :: pr)) :: RD).take ((V.ref r0 :: xr).length - 1) = (PyData.tuple (natD (st0.p :: pr)) :: RD).take bs.length := by rw [List.length_cons, lxr, Nat.add_sub_cancel]
            have allRow : ∀ d ∈ (PyData.tuple (natD (st0.p :: pr)) :: RD), Tiny 1 d := fun d hd => by
              rcases List.mem_cons.mp hd with e | e
              · rw [e]; exact tR0
              · exact tRD d e
            have oRow : tupOnlyAll (PyData.tuple (natD (st0.p :: pr)) :: RD) = true := by
              rw [tupOnlyAll, oRD, show tupOnly (.tuple (natD (st0.p :: pr))) = true from tupOnly_nat _]
              rfl
            have B3 : BadV K m g h G3 (.ref c3) := BadV.of (M9.same a3) (ar_len (rs := (PyData.tuple (natD (st0.p :: pr)) :: RD).take bs.length) (by rw [List.length_take, lh, List.length_cons, lRD]; omega))
              (.tup 1 _ (by rw [List.length_take]; omega) fun d hd => allRow d (List.mem_of_mem_take hd))
              (tupOnlyAll_iff.mpr fun d hd => tupOnlyAll_iff.mp oRow d (List.mem_of_mem_take hd))
              (.tup hc3 (by rw [← tkl]; exact dpAll_take _ (dpAll_same a3 (.cons dx0 dxr9))))
            -- own + ((0,),)
            refine ⟨_, rfl, len_ok (by simp), fun q1 hq1 => ⟨len_ok (by simp), fun q2 hq2 => ?_⟩⟩
            have f1' := same_new (o := .tup [.int 0]) hq1
            have f2' := same_new (o := .tup [.ref q1]) hq2
            have f12 := f1'.trans f2'
            refine cat_any ((a3.trans f12).seqT how9) (seqT_of upd_same) (by simp; omega) fun c4 G4 b4 hc4 => ?_
            have a4 := a3.trans (f12.trans b4)
            have dZ : Dp K G4 (.ref q1) (.tuple [.int 0]) := .tup ((f2'.trans b4).seqT (seqT_of upd_same)) (.cons (.int _) .nil)
            have B4 : BadV K m g h G4 (.ref c4) := BadV.of (M9.same a4) (ar_len (rs := (PyData.tuple (natD (st0.p :: pr)) :: RD) ++ [.tuple [.int 0]]) (by rw [List.length_append, lh, List.length_cons, lRD]; simp))
              (.tup 1 _ (by rw [List.length_append, List.length_cons, lRD]; simp; omega) fun d hd => by
                rcases List.mem_append.mp hd with e | e
                · exact allRow d e
                · rw [List.mem_singleton] at e
                  rw [e]
                  exact tiny_nats 0 (l := [0]) (by simp) (by simp))
              (tupOnlyAll_iff.mpr fun d hd => by
                rcases List.mem_append.mp hd with e | e
                · exact tupOnlyAll_iff.mp oRow d e
                · rw [List.mem_singleton] at e
                  rw [e]
                  rfl)
              (.tup hc4 (dpAll_append (dpAll_same a4 (.cons dx0 dxr9)) (.cons dZ .nil)))
            -- (own[0] + (0,),) + own[1:]
            refine ⟨_, rfl, ow, _, 0, _, rfl, rfl, a4.seqT how9, at0 _ _, len_ok (by simp), fun q3 hq3 => ?_⟩
            have g1 := same_new (o := .tup [.int 0]) hq3
            refine cat_any ((a4.trans g1).seqT hr9) (seqT_of upd_same) (by rw [nats_len, List.length_cons, lpr]; simp; omega) fun c5 G5 b5 hc5 => ⟨len_ok (by simp), fun q4 hq4 => ?_⟩
            have g2 := same_new (o := .tup [.ref c5]) hq4
            have a5 := a4.trans (g1.trans (b5.trans g2))
            refine ⟨_, rfl, _, rfl, sl_from (a5.seqT how9) fun c6 G6 b6 hc6 => ?_⟩
            refine cat_any (b6.seqT (seqT_of upd_same)) hc6 (by simp; omega) fun c7 G7 b7 hc7 => ?_
            have a7 := a5.trans (b6.trans b7)
            have lz : (natD (st0.p :: pr) ++ [PyData.int 0]).length ≠ b0.length := by rw [List.length_append, natD_len, List.length_cons, lpr, es]; simp
            have B5 : BadV K m g h G7 (.ref c7) := by
              obtain ⟨h1, h2⟩ := headB (.tuple (natD (st0.p :: pr) ++ [.int 0])) (.tup 0 _ (by rw [List.length_append, natD_len, List.length_cons, lpr]; simp; omega) fun d hd => by
                  rcases List.mem_append.mp hd with e | e
                  · obtain ⟨n, hn, rfl⟩ := List.mem_map.mp e
                    exact .int _ _ (by omega) (by have := p60 n hn; omega)
                  · rw [List.mem_singleton] at e
                    rw [e]
                    exact .int _ _ (by omega) (by omega)) (row_len lz)
              refine BadV.of (M9.same a7) h1 h2 ?_ (.tup hc7 (.cons (.tup ((g2.trans (b6.trans b7)).seqT hc5) (dpAll_append (dpAll_same a7 (dpAll_nats (H := H9) (st0.p :: pr))) (.cons (.int _) .nil))) (dpAll_same a7 dxr9)))
              show tupOnlyAll (PyData.tuple (natD (st0.p :: pr) ++ [.int 0]) :: RD) = true
              rw [tupOnlyAll, oRD, Bool.and_true]
              exact tupOnlyAll_iff.mpr fun d hd => by
                rcases List.mem_append.mp hd with e | e
                · exact tupOnlyAll_iff.mp (tupOnly_nat _) d e
                · rw [List.mem_singleton] at e
                  rw [e]
                  rfl
            refine ⟨len_ok (by simp), fun lb hlb => ?_⟩
            have a8 := a7.trans (same_new (o := .lst [.non, .ref p1, .ref l2, .ref c3, .ref c4, .ref c7]) hlb)
            have hlb8 : (upd G7 lb (.lst [.non, .ref p1, .ref l2, .ref c3, .ref c4, .ref c7])) lb = some (.lst [.non, .ref p1, .ref l2, .ref c3, .ref c4, .ref c7]) := upd_same
            have hl2 : (upd G7 lb (.lst [.non, .ref p1, .ref l2, .ref c3, .ref c4, .ref c7])) l2 = some (.lst (.ref r0 :: xr)) := by
              have e := (b3.trans (f12.trans (b4.trans (g1.trans (b5.trans (g2.trans (b6.trans b7))))))) _ _ (show (upd _ l2 (.lst (.ref r0 :: xr))) l2 = some (.lst (.ref r0 :: xr)) from upd_same)
              exact (same_new hlb) _ _ e
            have B1' := B1.same (b2.trans (b3.trans (f12.trans (b4.trans (g1.trans (b5.trans (g2.trans (b6.trans (b7.trans (same_new (o := .lst [.non, .ref p1, .ref l2, .ref c3, .ref c4, .ref c7]) hlb))))))))))
            have B3' := B3.same (f12.trans (b4.trans (g1.trans (b5.trans (g2.trans (b6.trans (b7.trans (same_new (o := .lst [.non, .ref p1, .ref l2, .ref c3, .ref c4, .ref c7]) hlb))))))))
            have B4' := B4.same (g1.trans (b5.trans (g2.trans (b6.trans (b7.trans (same_new (o := .lst [.non, .ref p1, .ref l2, .ref c3, .ref c4, .ref c7]) hlb))))))
            have B5' := B5.same (same_new (o := .lst [.non, .ref p1, .ref l2, .ref c3, .ref c4, .ref c7]) hlb)
            generalize hG8 : upd G7 lb (.lst [.non, .ref p1, .ref l2, .ref c3, .ref c4, .ref c7]) = G8 at *
            have nl2 : l2 ≠ m ∧ l2 ≠ g := (M9.same a1).fresh hl2f
            have M8 := M9.same a8
            have B0' : BadV K m g h G8 .non := ⟨.none, rfl, .non _, fun H' _ => .non⟩
            have B2' : BadV K m g h G8 (.ref l2) := ⟨.list (.tuple (natD (st0.p :: pr)) :: RD), rfl, .lst 1 _ (by rw [List.length_cons, lRD]; omega) allRow, fun H' ff => .lst (.inl (.inl (ff.at_ _ _ hl2 nl2.1 nl2.2))) (dpAll_tups (M8.tups ff) _ _ oRow (dpAll_same a8 (.cons dx0 dxr9)))⟩
            have pt0 : st0.t ≤ 6 := hst0.t6
            refine ⟨_, rfl, ?_⟩
            have htlc : SqL K G8 tl (.int (st0.t : Nat) :: nats tr) := by
              have := a8 _ _ htl9
              rw [eterm] at this
              exact .inl (.inl this)
            refine ⟨_, rfl, tl, _, 0, .int (st0.t : Nat), rfl, rfl, htlc, at0 _ _, len_ok (by simp), fun hx6q hx61 => ?_⟩
            have x6a := same_new (o := .tup [.int (st0.t : Nat)]) hx61
            have y6a := a8.trans x6a
            refine ⟨_, rfl, ow, _, 0, _, rfl, rfl, y6a.seqT how9, at0 _ _, _, rfl, sl_from (y6a.seqT hr9') fun u61 V61 w61 hu61 => ?_⟩
            refine cat_any (w61.seqT (seqT_of upd_same)) hu61 (by rw [nats_len, lpr]; simp; omega) fun u62 V62 w62 hu62 => ⟨len_ok (by simp), fun hx6q hx62 => ?_⟩
            have x6b := same_new (o := .tup [.ref u62]) hx62
            have y6b := y6a.trans (w61.trans (w62.trans x6b))
            refine ⟨_, rfl, _, rfl, sl_from (y6b.seqT how9) fun u63 V63 w63 hu63 => ?_⟩
            refine cat_any (w63.seqT (seqT_of upd_same)) hu63 (by simp; omega) fun u64 V64 w64 hu64 => ?_
            have y6 := y6b.trans (w63.trans w64)
            have z6 := x6a.trans (w61.trans (w62.trans (x6b.trans (w63.trans w64))))
            have C6 : BadV K m g h V64 (.ref u64) := by
              obtain ⟨h1, h2⟩ := headB (.tuple (.int (st0.t : Nat) :: natD pr)) (tprow _ (.int _ _ (by omega) (by omega))) (by rw [es]; exact row_head (whole_top _))
              refine BadV.of (M9.same y6) h1 h2 ?_ (.tup hu64 (.cons (.tup ((x6b.trans (w63.trans w64)).seqT hu62) (.cons (.int _) (dpAll_same y6 (dpAll_nats (H := H9) pr)))) (dpAll_same y6 dxr9)))
              show tupOnlyAll (PyData.tuple (.int (st0.t : Nat) :: natD pr) :: RD) = true
              rw [tupOnlyAll, oRD, Bool.and_true]
              show tupOnlyAll (.int (st0.t : Nat) :: natD pr) = true
              rw [tupOnlyAll, tupOnly_nat]
              rfl
            refine ⟨_, rfl, len_ok (by simp), fun hx7q hx71 => ?_⟩
            have x7a := same_new (o := .tup [.int (-1)]) hx71
            have y7a := y6.trans x7a
            refine ⟨_, rfl, ow, _, 0, _, rfl, rfl, y7a.seqT how9, at0 _ _, _, rfl, sl_from (y7a.seqT hr9') fun u71 V71 w71 hu71 => ?_⟩
            refine cat_any (w71.seqT (seqT_of upd_same)) hu71 (by rw [nats_len, lpr]; simp; omega) fun u72 V72 w72 hu72 => ⟨len_ok (by simp), fun hx7q hx72 => ?_⟩
            have x7b := same_new (o := .tup [.ref u72]) hx72
            have y7b := y7a.trans (w71.trans (w72.trans x7b))
            refine ⟨_, rfl, _, rfl, sl_from (y7b.seqT how9) fun u73 V73 w73 hu73 => ?_⟩
            refine cat_any (w73.seqT (seqT_of upd_same)) hu73 (by simp; omega) fun u74 V74 w74 hu74 => ?_
            have y7 := y7b.trans (w73.trans w74)
            have z7 := x7a.trans (w71.trans (w72.trans (x7b.trans (w73.trans w74))))
            have C7 : BadV K m g h V74 (.ref u74) := by
              obtain ⟨h1, h2⟩ := headB (.tuple (.int (-1) :: natD pr)) (tprow _ (.int _ _ (by omega) (by omega))) (by rw [es]; exact row_head rfl)
              refine BadV.of (M9.same y7) h1 h2 ?_ (.tup hu74 (.cons (.tup ((x7b.trans (w73.trans w74)).seqT hu72) (.cons (.int _) (dpAll_same y7 (dpAll_nats (H := H9) pr)))) (dpAll_same y7 dxr9)))
              show tupOnlyAll (PyData.tuple (.int (-1) :: natD pr) :: RD) = true
              rw [tupOnlyAll, oRD, Bool.and_true]
              show tupOnlyAll (.int (-1) :: natD pr) = true
              rw [tupOnlyAll, tupOnly_nat]
              rfl
            refine ⟨len_ok (by simp), fun lc hlc => ?_⟩
            have k1 := same_new (o := .lst [.ref u64, .ref u74]) hlc
            have z67 := z6.trans z7
            refine ⟨lb, lc, _, _, rfl, rfl, (z67.trans k1) _ _ hlb8, upd_same, small (by simp), fun ld hld => ?_⟩
            have k2 := same_new (o := .lst ([.non, .ref p1, .ref l2, .ref c3, .ref c4, .ref c7] ++ [.ref u64, .ref u74])) hld
            have k12 := k1.trans k2
            have y8p := y7.trans k12
            refine ⟨_, rfl, ?_⟩
            refine ⟨len_ok (by simp), fun hx8q hx81 => ?_⟩
            have x8a := same_new (o := .tup [.bl true]) hx81
            have y8a := y8p.trans x8a
            refine ⟨_, rfl, ow, _, 0, _, rfl, rfl, y8a.seqT how9, at0 _ _, _, rfl, sl_from (y8a.seqT hr9') fun u81 V81 w81 hu81 => ?_⟩
            refine cat_any (w81.seqT (seqT_of upd_same)) hu81 (by rw [nats_len, lpr]; simp; omega) fun u82 V82 w82 hu82 => ⟨len_ok (by simp), fun hx8q hx82 => ?_⟩
            have x8b := same_new (o := .tup [.ref u82]) hx82
            have y8b := y8a.trans (w81.trans (w82.trans x8b))
            refine ⟨_, rfl, _, rfl, sl_from (y8b.seqT how9) fun u83 V83 w83 hu83 => ?_⟩
            refine cat_any (w83.seqT (seqT_of upd_same)) hu83 (by simp; omega) fun u84 V84 w84 hu84 => ?_
            have y8 := y8b.trans (w83.trans w84)
            have z8 := x8a.trans (w81.trans (w82.trans (x8b.trans (w83.trans w84))))
            have C8 : BadV K m g h V84 (.ref u84) := by
              obtain ⟨h1, h2⟩ := headB (.tuple (.bool true :: natD pr)) (tprow _ (.bl _ _)) (by rw [es]; exact row_head rfl)
              refine BadV.of (M9.same y8) h1 h2 ?_ (.tup hu84 (.cons (.tup ((x8b.trans (w83.trans w84)).seqT hu82) (.cons (.bl _) (dpAll_same y8 (dpAll_nats (H := H9) pr)))) (dpAll_same y8 dxr9)))
              show tupOnlyAll (PyData.tuple (.bool true :: natD pr) :: RD) = true
              rw [tupOnlyAll, oRD, Bool.and_true]
              show tupOnlyAll (.bool true :: natD pr) = true
              rw [tupOnlyAll, tupOnly_nat]
              rfl
            -- (list(own[0]),) + own[1:]
            refine ⟨_, rfl, ow, _, 0, _, rfl, rfl, y8.seqT how9, at0 _ _, r0, _, rfl, .inr (y8.seqT hr9), fun l9 hl9 => ⟨len_ok (by simp), fun q9 hq9 => ?_⟩⟩
            have m1 := same_new (o := .lst (nats (st0.p :: pr))) hl9
            have m2 := same_new (o := .tup [.ref l9]) hq9
            have y9a := y8.trans (m1.trans m2)
            refine ⟨_, rfl, _, rfl, sl_from (y9a.seqT how9) fun u91 V91 w91 hu91 => ?_⟩
            refine cat_any (w91.seqT (seqT_of upd_same)) hu91 (by simp; omega) fun u92 V92 w92 hu92 => ⟨len_ok (by simp), fun le hle => ?_⟩
            have m3 := same_new (o := .lst [.ref u84, .ref u92]) hle
            have z9 := m1.trans (m2.trans (w91.trans (w92.trans m3)))
            have hld9 := (z8.trans z9) _ _ (show (upd _ ld (.lst ([.non, .ref p1, .ref l2, .ref c3, .ref c4, .ref c7] ++ [.ref u64, .ref u74]))) ld = some (.lst ([.non, .ref p1, .ref l2, .ref c3, .ref c4, .ref c7] ++ [.ref u64, .ref u74])) from upd_same)
            refine ⟨ld, le, _, _, rfl, rfl, hld9, upd_same, small (by simp), fun lf hlf => ?_⟩
            have m4 := same_new (o := .lst (([.non, .ref p1, .ref l2, .ref c3, .ref c4, .ref c7] ++ [.ref u64, .ref u74]) ++ [.ref u84, .ref u92])) hlf
            have yF := y8.trans (z9.trans m4)
            have MF := M9.same yF
            have nl9 : l9 ≠ m ∧ l9 ≠ g := (M9.same y8).fresh hl9
            have zz8 := z9.trans m4
            have zz7 := k12.trans (z8.trans zz8)
            have zz6 := z7.trans zz7
            have zz5 := z6.trans zz6
            have hl9F := (m2.trans (w91.trans (w92.trans (m3.trans m4)))) _ _ (show (upd _ l9 (.lst (nats (st0.p :: pr)))) l9 = some (.lst (nats (st0.p :: pr))) from upd_same)
            have hq9F := (w91.trans (w92.trans (m3.trans m4))).seqT (seqT_of (K := K) (p := q9) (xs := [.ref l9]) upd_same)
            have hu9F := (m3.trans m4).seqT hu92
            have drF := dpAll_same yF (dpAll_nats (K := K) (H := H9) (st0.p :: pr))
            have dxF := dpAll_same yF dxr9
            have C9 : BadV K m g h (upd (upd V92 le (.lst [.ref u84, .ref u92])) lf (.lst (([.non, .ref p1, .ref l2, .ref c3, .ref c4, .ref c7] ++ [.ref u64, .ref u74]) ++ [.ref u84, .ref u92]))) (.ref u92) := by
              obtain ⟨h1, h2⟩ := headB (.list (natD (st0.p :: pr))) (.lst 0 _ (by rw [natD_len, List.length_cons, lpr]; omega) fun d hd => by
                obtain ⟨n, hn, rfl⟩ := List.mem_map.mp hd
                exact .int _ _ (by omega) (by have := p60 n hn; omega)) rfl
              exact ⟨_, h1, h2, fun H' ff => .tup ((MF.tups ff).seq hu9F) (.cons (.lst (.inl (.inl (ff.at_ _ _ hl9F nl9.1 nl9.2))) (dpAll_nats _)) (dpAll_tups (MF.tups ff) _ _ oRD dxF))⟩
            have hlfF : (upd (upd V92 le (.lst [.ref u84, .ref u92])) lf (.lst (([.non, .ref p1, .ref l2, .ref c3, .ref c4, .ref c7] ++ [.ref u64, .ref u74]) ++ [.ref u84, .ref u92]))) lf = some (.lst [.non, .ref p1, .ref l2, .ref c3, .ref c4, .ref c7, .ref u64, .ref u74, .ref u84, .ref u92]) := upd_same
            have D0 := B0'.same zz5
            have D1 := B1'.same zz5
            have D2 := B2'.same zz5
            have D3 := B3'.same zz5
            have D4 := B4'.same zz5
            have D5 := B5'.same zz5
            have D6 := C6.same zz6
            have D7 := C7.same zz7
            have D8 := C8.same zz8
            have nlf : lf ≠ m ∧ lf ≠ g := (M9.same (y8.trans z9)).fresh hlf
            have allD : ∀ v ∈ [V.non, .ref p1, .ref l2, .ref c3, .ref c4, .ref c7, .ref u64, .ref u74, .ref u84, .ref u92], BadV K m g h (upd (upd V92 le (.lst [.ref u84, .ref u92])) lf (.lst (([.non, .ref p1, .ref l2, .ref c3, .ref c4, .ref c7] ++ [.ref u64, .ref u74]) ++ [.ref u84, .ref u92]))) v := by
              intro v hv
              simp only [List.mem_cons, List.not_mem_nil, or_false] at hv
              rcases hv with rfl | rfl | rfl | rfl | rfl | rfl | rfl | rfl | rfl | rfl
              · exact D0
              · exact D1
              · exact D2
              · exact D3
              · exact D4
              · exact D5
              · exact D6
              · exact D7
              · exact D8
              · exact C9
            have TF := tabs_same T9 yF
            have dhF := dp_same yF dh9
            have hhxF := yF.seqT hhx9
            have hbF := yF.seqT hb9
            have dbF := dpAll_same yF db9
            generalize hHF : (upd (upd V92 le (.lst [.ref u84, .ref u92])) lf (.lst (([.non, .ref p1, .ref l2, .ref c3, .ref c4, .ref c7] ++ [.ref u64, .ref u74]) ++ [.ref u84, .ref u92]))) = HF at *
            refine ⟨_, rfl, m, c0, g, BB - (terms h).length - 1, 10, rfl, by omega, by omega, MF.mono (by omega), fun rr HG hrr MG fG => ?_⟩
            have hlfG := fG.at_ _ _ hlfF nlf.1 nlf.2
            obtain ⟨ov, hov⟩ : ∃ v, [V.non, .ref p1, .ref l2, .ref c3, .ref c4, .ref c7, .ref u64, .ref u74, .ref u84, .ref u92][rr]? = some v := ⟨_, List.getElem?_eq_getElem (by simp; omega)⟩
            obtain ⟨od, od1, od2, od3⟩ := allD ov (List.mem_of_getElem? hov)
            have dodG := od3 HG fG
            have tuG := MF.tups fG
            have TG := tabs_mfr TF MF fG
            have dhG := dp_tups tuG _ _ (house_to ok) dhF
            have hhxG := tuG.seq hhxF
            have hbG := tuG.seq hbF
            have dbG := dpAll_tups tuG _ _ (bodies_to ok) dbF
            clear allD D0 D1 D2 D3 D4 D5 D6 D7 D8 C6 C7 C8 C9 B1 B3 B4 B5 B0' B1' B2' B3' B4' B5'
            refine ⟨lf, _, _, ov, rfl, rfl, .inl (.inl hlfG), atI_nat hov, ?_⟩
            -- _law_like(_law_said(..), ('phases', odd))
            refine ⟨TG, fun S1 eS1 TS1 => ?_⟩
            have exH : ExtN HG S1 := eS1
            intro l0' E0 R0 hl0' hHs hPs
            have n1 := same_new (o := .lst []) hl0'
            have dvS := dp_same n1 (dp_ext exH od ov dodG)
            have dhS := dp_same n1 (dp_ext exH _ _ dhG)
            refine ⟨_, rfl, _, rfl, .ref hx, ov, _, od, rfl, dhS, dvS, .inl ⟨h, rfl, ok, .inr ⟨od1, fun S2 dd n2 hdd => hPs dd ov S2 hdd fun e1 he1 => ?_⟩⟩⟩
            have n3 := same_new (o := .tup [.str "phases", ov]) he1
            refine ⟨_, rfl, len_ok (by simp), fun e2 he2 => ?_⟩
            have n4 := same_new (o := .tup [.str "phases", ov]) he2
            have n24 := n2.trans (n3.trans n4)
            have dv4 := dp_same n24 dvS
            refine ⟨e1, e2, .tuple [.str "phases", od], rfl, .tup (n4.seqT (seqT_of upd_same)) (.cons (.str _) (.cons dv4 .nil)), .tup (seqT_of upd_same) (.cons (.str _) (.cons dv4 .nil)), ?_, ?_⟩
            · refine .tup 3 _ (by simp) fun d hd => ?_
              simp only [List.mem_cons, List.not_mem_nil, or_false] at hd
              rcases hd with rfl | rfl
              · exact .str _
              · exact od2.up
            have X1 : ExtN HG _ := exH.trans (ExtN.of (n1.trans n24))
            have T1' := tabs_same (tabs_same TS1 n1) n24
            have M1' := MG.extN X1
            have hx1' := (Tups.ofN X1).seq hhxG
            have hb1' := (Tups.ofN X1).seq hbG
            have db1' := dpAll_ext X1 _ _ dbG
            have dv1' := dp_ext X1 od ov dodG
            generalize hQ1 : upd (upd S2 e1 (.tup [.str "phases", ov])) e2 (.tup [.str "phases", ov]) = Q1 at *
            refine ⟨_, rfl, ?_⟩
            refine ⟨T1', fun A1 ex1 TA1 => ?_⟩
            intro l1' E1' R1' hn1 hHs1 hPs1
            have o1 := same_new (o := .lst []) hn1
            have hx1a := o1.seqT ((Tups.ofN ex1).seq hx1')
            have hb1a := o1.seqT ((Tups.ofN ex1).seq hb1')
            have db1a := dpAll_same o1 (dpAll_ext ex1 _ _ db1')
            have dv1a := dp_same o1 (dp_ext ex1 od ov dv1')
            refine ⟨_, rfl, _, rfl, sl_to1 hx1a fun c1 S4 pre1 hc1 => ?_⟩
            refine ⟨_, rfl, .ref c1, ov, .tuple [bodiesD h.bodies], od, rfl, .tup hc1 (.cons (.tup (pre1.seqT hb1a) (dpAll_same pre1 db1a)) .nil), dp_same pre1 dv1a, .inr ⟨"form", .form _ (fun ds e => by cases e; simp), fun C1 dd p1 hdd => hHs1 dd _ C1 hdd fun r1 hr1 => ?_⟩⟩
            have q1 := same_new (o := .tup [.str "house", .str "form"]) hr1
            have w1 := pre1.trans (p1.trans q1)
            have Y1 := (ExtN.trans ex1 (ExtN.of (o1.trans w1)))
            have T2' := tabs_same TA1 (o1.trans w1)
            have hx2' := (Tups.ofN Y1).seq hx1'
            have hb2' := (Tups.ofN Y1).seq hb1'
            have db2' := dpAll_ext Y1 _ _ db1'
            have M2' := M1'.extN Y1
            have res1 : Dp K (upd C1 r1 (.tup [.str "house", .str "form"])) (.ref r1) (.tuple [.str "house", .str "form"]) := .tup (seqT_of upd_same) (.cons (.str _) (.cons (.str _) .nil))
            have dv2' := dp_ext Y1 od ov dv1'
            generalize hQ2 : (upd C1 r1 (.tup [.str "house", .str "form"])) = Q2 at *
            refine ⟨T2', fun A2 ex2 TA2 => ?_⟩
            intro l2' E2' R2' hn2 hHs2 hPs2
            have o2 := same_new (o := .lst []) hn2
            have hx2a := o2.seqT ((Tups.ofN ex2).seq hx2')
            have hb2a := o2.seqT ((Tups.ofN ex2).seq hb2')
            have db2a := dpAll_same o2 (dpAll_ext ex2 _ _ db2')
            refine ⟨_, rfl, hx, _, 0, _, rfl, rfl, hx2a, at0 _ _, len_ok (by simp), fun t2 ht2 => ?_⟩
            have pre2 := same_new (o := .tup [.ref b, .int 5]) ht2
            refine ⟨.ref t2, .tuple [bodiesD h.bodies, .int 5], rfl, .tup (seqT_of upd_same) (.cons (.tup (pre2.seqT hb2a) (dpAll_same pre2 db2a)) (.cons (.int _) .nil)), .inr ⟨"wards", .wards _, fun C2 dd p2 hdd => hHs2 dd _ C2 hdd fun r2 hr2 => ?_⟩⟩
            have q2 := same_new (o := .tup [.str "house", .str "wards"]) hr2
            have w2 := pre2.trans (p2.trans q2)
            have Y2 := (ExtN.trans ex2 (ExtN.of (o2.trans w2)))
            have T3' := tabs_same TA2 (o2.trans w2)
            have hx3' := (Tups.ofN Y2).seq hx2'
            have hb3' := (Tups.ofN Y2).seq hb2'
            have db3' := dpAll_ext Y2 _ _ db2'
            have M3' := M2'.extN Y2
            have res2 : Dp K (upd C2 r2 (.tup [.str "house", .str "wards"])) (.ref r2) (.tuple [.str "house", .str "wards"]) := .tup (seqT_of upd_same) (.cons (.str _) (.cons (.str _) .nil))
            replace res1 := dp_ext Y2 _ _ res1
            generalize hQ3 : (upd C2 r2 (.tup [.str "house", .str "wards"])) = Q3 at *
            refine ⟨len_ok (by simp), fun L1 hL1 => ?_⟩
            have sL1 := same_new (o := .lst [.ref r1, .ref r2]) hL1
            have hL1v : (upd Q3 L1 (.lst [.ref r1, .ref r2])) L1 = some (.lst [.ref r1, .ref r2]) := upd_same
            replace T3' := tabs_same T3' sL1
            replace hx3' := sL1.seqT hx3'
            replace hb3' := sL1.seqT hb3'
            replace db3' := dpAll_same sL1 db3'
            replace M3' := M3'.same sL1
            replace res1 := dp_same sL1 res1
            replace res2 := dp_same sL1 res2
            generalize hQ3b : upd Q3 L1 (.lst [.ref r1, .ref r2]) = Q3b at *
            refine ⟨_, rfl, ?_⟩
            refine ⟨T3', fun A3 ex3 TA3 => ?_⟩
            intro l3' E3' R3' hn3 hHs3 hPs3
            have o3 := same_new (o := .lst []) hn3
            have hx3a := o3.seqT ((Tups.ofN ex3).seq hx3')
            have hb3a := o3.seqT ((Tups.ofN ex3).seq hb3')
            have db3a := dpAll_same o3 (dpAll_ext ex3 _ _ db3')
            have pre3 := Same.refl (upd A3 l3' (.lst []))
            refine ⟨.non, .none, rfl, .non, .inr ⟨"form", .form _ (fun ds e => by cases e), fun C3 dd p3 hdd => hHs3 dd _ C3 hdd fun r3 hr3 => ?_⟩⟩
            have q3 := same_new (o := .tup [.str "house", .str "form"]) hr3
            have w3 := pre3.trans (p3.trans q3)
            have Y3 := (ExtN.trans ex3 (ExtN.of (o3.trans w3)))
            have T4' := tabs_same TA3 (o3.trans w3)
            have hx4' := (Tups.ofN Y3).seq hx3'
            have hb4' := (Tups.ofN Y3).seq hb3'
            have db4' := dpAll_ext Y3 _ _ db3'
            have M4' := M3'.extN Y3
            have res3 : Dp K (upd C3 r3 (.tup [.str "house", .str "form"])) (.ref r3) (.tuple [.str "house", .str "form"]) := .tup (seqT_of upd_same) (.cons (.str _) (.cons (.str _) .nil))
            replace res1 := dp_ext Y3 _ _ res1
            replace res2 := dp_ext Y3 _ _ res2
            replace hL1v := Y3 _ _ hL1v (fun _ z => by cases z)
            generalize hQ4 : (upd C3 r3 (.tup [.str "house", .str "form"])) = Q4 at *
            refine ⟨T4', fun A4 ex4 TA4 => ?_⟩
            intro l4' E4' R4' hn4 hHs4 hPs4
            have o4 := same_new (o := .lst []) hn4
            have hx4a := o4.seqT ((Tups.ofN ex4).seq hx4')
            have hb4a := o4.seqT ((Tups.ofN ex4).seq hb4')
            have db4a := dpAll_same o4 (dpAll_ext ex4 _ _ db4')
            refine ⟨len_ok (by simp), fun t4 ht4 => ?_⟩
            have pre4 := same_new (o := .tup []) ht4
            refine ⟨.ref t4, .tuple [], rfl, dp0 upd_same, .inr ⟨"form", .form _ (fun ds e => by cases e; simp), fun C4 dd p4 hdd => hHs4 dd _ C4 hdd fun r4 hr4 => ?_⟩⟩
            have q4 := same_new (o := .tup [.str "house", .str "form"]) hr4
            have w4 := pre4.trans (p4.trans q4)
            have Y4 := (ExtN.trans ex4 (ExtN.of (o4.trans w4)))
            have T5' := tabs_same TA4 (o4.trans w4)
            have hx5' := (Tups.ofN Y4).seq hx4'
            have hb5' := (Tups.ofN Y4).seq hb4'
            have db5' := dpAll_ext Y4 _ _ db4'
            have M5' := M4'.extN Y4
            have res4 : Dp K (upd C4 r4 (.tup [.str "house", .str "form"])) (.ref r4) (.tuple [.str "house", .str "form"]) := .tup (seqT_of upd_same) (.cons (.str _) (.cons (.str _) .nil))
            replace res1 := dp_ext Y4 _ _ res1
            replace res2 := dp_ext Y4 _ _ res2
            replace res3 := dp_ext Y4 _ _ res3
            replace hL1v := Y4 _ _ hL1v (fun _ z => by cases z)
            generalize hQ5 : (upd C4 r4 (.tup [.str "house", .str "form"])) = Q5 at *
            refine ⟨len_ok (by simp), fun L2 hL2 => ?_⟩
            have sL2 := same_new (o := .lst [.ref r3, .ref r4]) hL2
            refine ⟨L1, L2, _, _, rfl, rfl, sL2 _ _ hL1v, upd_same, small (by simp), fun L3 hL3 => ?_⟩
            have sL3 := same_new (o := .lst ([.ref r1, .ref r2] ++ [.ref r3, .ref r4])) hL3
            have sL23 := sL2.trans sL3
            have hL3v : (upd (upd Q5 L2 (.lst [.ref r3, .ref r4])) L3 (.lst ([.ref r1, .ref r2] ++ [.ref r3, .ref r4]))) L3 = some (.lst [.ref r1, .ref r2, .ref r3, .ref r4]) := upd_same
            have nL3 := (M5'.same sL2).fresh hL3
            have nL3c := (M5'.same sL2).freshC hL3
            replace T5' := tabs_same T5' sL23
            replace hx5' := sL23.seqT hx5'
            replace hb5' := sL23.seqT hb5'
            replace db5' := dpAll_same sL23 db5'
            replace M5' := M5'.same sL23
            replace res1 := dp_same sL23 res1
            replace res2 := dp_same sL23 res2
            replace res3 := dp_same sL23 res3
            replace res4 := dp_same sL23 res4
            generalize hQ5b : (upd (upd Q5 L2 (.lst [.ref r3, .ref r4])) L3 (.lst ([.ref r1, .ref r2] ++ [.ref r3, .ref r4]))) = Q5b at *
            refine ⟨_, rfl, .inl ⟨rfl, _, .inl (.inl hL3v)⟩, ?_⟩
            refine ⟨T5', fun A5 ex5 TA5 => ?_⟩
            intro l5' E5' R5' hn5 hHs5 hPs5
            have o5 := same_new (o := .lst []) hn5
            have hx5a := o5.seqT ((Tups.ofN ex5).seq hx5')
            have hb5a := o5.seqT ((Tups.ofN ex5).seq hb5')
            have db5a := dpAll_same o5 (dpAll_ext ex5 _ _ db5')
            have pre5 := Same.refl (upd A5 l5' (.lst []))
            refine ⟨.int 5, .int 5, rfl, .int 5, .inr ⟨"form", .form _ (fun ds e => by cases e), fun C5 dd p5 hdd => hHs5 dd _ C5 hdd fun r5 hr5 => ?_⟩⟩
            have q5 := same_new (o := .tup [.str "house", .str "form"]) hr5
            have w5 := pre5.trans (p5.trans q5)
            have Y5 := (ExtN.trans ex5 (ExtN.of (o5.trans w5)))
            have T6' := tabs_same TA5 (o5.trans w5)
            have hx6' := (Tups.ofN Y5).seq hx5'
            have hb6' := (Tups.ofN Y5).seq hb5'
            have db6' := dpAll_ext Y5 _ _ db5'
            have M6' := M5'.extN Y5
            have res5 : Dp K (upd C5 r5 (.tup [.str "house", .str "form"])) (.ref r5) (.tuple [.str "house", .str "form"]) := .tup (seqT_of upd_same) (.cons (.str _) (.cons (.str _) .nil))
            replace res1 := dp_ext Y5 _ _ res1
            replace res2 := dp_ext Y5 _ _ res2
            replace res3 := dp_ext Y5 _ _ res3
            replace res4 := dp_ext Y5 _ _ res4
            replace hL3v := Y5 _ _ hL3v (fun _ z => by cases z)
            generalize hQ6 : (upd C5 r5 (.tup [.str "house", .str "form"])) = Q6 at *
            refine ⟨L3, _, _, rfl, rfl, hL3v, by unfold sizeLine; simp, ?_⟩
            have tuL := Tups.put (o := .lst ([.ref r1, .ref r2, .ref r3, .ref r4] ++ [.ref r5])) (p := L3) (H := Q6) (by rw [hL3v]; exact True.intro)
            have T7 := tabs_put (o := .lst ([.ref r1, .ref r2, .ref r3, .ref r4] ++ [.ref r5])) T6' hL3v
            have M7' := M6'.upd (o := .lst ([.ref r1, .ref r2, .ref r3, .ref r4] ++ [.ref r5])) nL3.1 nL3c nL3.2
            replace res1 := dp_tups tuL _ _ rfl res1
            replace res2 := dp_tups tuL _ _ rfl res2
            replace res3 := dp_tups tuL _ _ rfl res3
            replace res4 := dp_tups tuL _ _ rfl res4
            replace res5 := dp_tups tuL _ _ rfl res5
            have hL3w : (upd Q6 L3 (.lst ([.ref r1, .ref r2, .ref r3, .ref r4] ++ [.ref r5]))) L3 = some (.lst [.ref r1, .ref r2, .ref r3, .ref r4, .ref r5]) := upd_same
            generalize hQ7 : upd Q6 L3 (.lst ([.ref r1, .ref r2, .ref r3, .ref r4] ++ [.ref r5])) = Q7 at *
            refine ⟨_, rfl, len_ok (by simp), fun t1 ht1 => ⟨len_ok (by simp), fun t2' ht2' => ⟨len_ok (by simp), fun L4 hL4 => ⟨len_ok (by simp), fun t3 ht3 => ⟨len_ok (by simp), fun L5 hL5 => ?_⟩⟩⟩⟩⟩
            have i1 := same_new (o := .tup [.str "house", .str "form"]) ht1
            have i2 := same_new (o := .tup [.str "house", .str "wards"]) ht2'
            have i3 := same_new (o := .lst [.ref t1, .ref t2']) hL4
            have i4 := same_new (o := .tup [.str "house", .str "form"]) ht3
            have i5 := same_new (o := .lst [.ref t3]) hL5
            refine ⟨L5, 3, _, rfl, rfl, upd_same, by omega, by omega, by unfold sizeLine; simp, fun L6 hL6 => ?_⟩
            have i6 := same_new (o := .lst [.ref t3, .ref t3, .ref t3]) hL6
            refine ⟨L4, L6, _, _, rfl, rfl, (i4.trans (i5.trans i6)) _ _ upd_same, upd_same, small (by simp), fun L7 hL7 => ?_⟩
            have i7 := same_new (o := .lst [.ref t1, .ref t2', .ref t3, .ref t3, .ref t3]) hL7
            have i17 := i1.trans (i2.trans (i3.trans (i4.trans (i5.trans (i6.trans i7)))))
            have j1 : Dp K _ (.ref t1) (.tuple [.str "house", .str "form"]) := .tup ((i2.trans (i3.trans (i4.trans (i5.trans (i6.trans i7))))).seqT (seqT_of upd_same)) (.cons (.str _) (.cons (.str _) .nil))
            have j2 : Dp K _ (.ref t2') (.tuple [.str "house", .str "wards"]) := .tup ((i3.trans (i4.trans (i5.trans (i6.trans i7)))).seqT (seqT_of upd_same)) (.cons (.str _) (.cons (.str _) .nil))
            have j3 : Dp K _ (.ref t3) (.tuple [.str "house", .str "form"]) := .tup ((i5.trans (i6.trans i7)).seqT (seqT_of upd_same)) (.cons (.str _) (.cons (.str _) .nil))
            refine ⟨.list [.tuple [.str "house", .str "form"], .tuple [.str "house", .str "wards"], .tuple [.str "house", .str "form"], .tuple [.str "house", .str "form"], .tuple [.str "house", .str "form"]],
              .list [.tuple [.str "house", .str "form"], .tuple [.str "house", .str "wards"], .tuple [.str "house", .str "form"], .tuple [.str "house", .str "form"], .tuple [.str "house", .str "form"]],
              .lst (.inl (.inl (i17 _ _ hL3w))) (.cons (dp_same i17 res1) (.cons (dp_same i17 res2) (.cons (dp_same i17 res3) (.cons (dp_same i17 res4) (.cons (dp_same i17 res5) .nil))))),
              .lst (.inl (.inl upd_same)) (.cons j1 (.cons j2 (.cons j3 (.cons j3 (.cons j3 .nil))))), said_shaped, said_shaped, ?_⟩
            rw [SeqAt.eqv_refl _ (SeqAt.canLay_of_shaped said_shaped)]
            refine ⟨_, rfl, ?_⟩
            refine ⟨(M7'.mono (by omega)).same i17, tabs_same T7 i17, _, _, _, _, _, _, _, _, _, _, _, _, _, rfl⟩
    · rintro σ H0 ⟨M0, T0, v2, v3, v4, v5, v6, v8, v10, v11, v12, v13, v14, v15, v16, rfl⟩
      refine ⟨len_ok (by simp), fun ka hka => ?_⟩
      have tka := same_new (o := .tup [.str "kept"]) hka
      refine ⟨len_ok (by simp), fun sa_ hsa_ => ?_⟩
      have tsa_ := same_new (o := .tup [.int 1, .int 0, .ref ka]) hsa_
      refine ⟨len_ok (by simp), fun ba hba => ?_⟩
      have tba := same_new (o := .tup [.ref sa_]) hba
      refine ⟨len_ok (by simp), fun kb hkb => ?_⟩
      have tkb := same_new (o := .tup [.str "kept"]) hkb
      refine ⟨len_ok (by simp), fun sb_ hsb_ => ?_⟩
      have tsb_ := same_new (o := .tup [.int 2, .int 1, .ref kb]) hsb_
      refine ⟨len_ok (by simp), fun bb_ hbb_ => ?_⟩
      have tbb_ := same_new (o := .tup [.ref sb_]) hbb_
      refine ⟨len_ok (by simp), fun kc_ hkc_ => ?_⟩
      have tkc_ := same_new (o := .tup [.str "kept"]) hkc_
      refine ⟨len_ok (by simp), fun sc_ hsc_ => ?_⟩
      have tsc_ := same_new (o := .tup [.int 2, .int 1, .ref kc_]) hsc_
      refine ⟨len_ok (by simp), fun bc_ hbc_ => ?_⟩
      have tbc_ := same_new (o := .tup [.ref sc_]) hbc_
      refine ⟨len_ok (by simp), fun bo hbo => ?_⟩
      have tbo := same_new (o := .tup [.ref ba, .ref bb_, .ref bc_]) hbo
      refine ⟨len_ok (by simp), fun hh hhh => ?_⟩
      have thh := same_new (o := .tup [.ref bo, .int 0]) hhh
      have zka := (tsa_.trans (tba.trans (tkb.trans (tsb_.trans (tbb_.trans (tkc_.trans (tsc_.trans (tbc_.trans (tbo.trans thh))))))))).seqT (seqT_of (K := K) (p := ka) (xs := [.str "kept"]) upd_same)
      have zsa_ := (tba.trans (tkb.trans (tsb_.trans (tbb_.trans (tkc_.trans (tsc_.trans (tbc_.trans (tbo.trans thh)))))))).seqT (seqT_of (K := K) (p := sa_) (xs := [.int 1, .int 0, .ref ka]) upd_same)
      have zba := (tkb.trans (tsb_.trans (tbb_.trans (tkc_.trans (tsc_.trans (tbc_.trans (tbo.trans thh))))))).seqT (seqT_of (K := K) (p := ba) (xs := [.ref sa_]) upd_same)
      have zkb := (tsb_.trans (tbb_.trans (tkc_.trans (tsc_.trans (tbc_.trans (tbo.trans thh)))))).seqT (seqT_of (K := K) (p := kb) (xs := [.str "kept"]) upd_same)
      have zsb_ := (tbb_.trans (tkc_.trans (tsc_.trans (tbc_.trans (tbo.trans thh))))).seqT (seqT_of (K := K) (p := sb_) (xs := [.int 2, .int 1, .ref kb]) upd_same)
      have zbb_ := (tkc_.trans (tsc_.trans (tbc_.trans (tbo.trans thh)))).seqT (seqT_of (K := K) (p := bb_) (xs := [.ref sb_]) upd_same)
      have zkc_ := (tsc_.trans (tbc_.trans (tbo.trans thh))).seqT (seqT_of (K := K) (p := kc_) (xs := [.str "kept"]) upd_same)
      have zsc_ := (tbc_.trans (tbo.trans thh)).seqT (seqT_of (K := K) (p := sc_) (xs := [.int 2, .int 1, .ref kc_]) upd_same)
      have zbc_ := (tbo.trans thh).seqT (seqT_of (K := K) (p := bc_) (xs := [.ref sc_]) upd_same)
      have zbo := thh.seqT (seqT_of (K := K) (p := bo) (xs := [.ref ba, .ref bb_, .ref bc_]) upd_same)
      have zhh := sqt_new (K := K) thh
      have dH : Dp K _ (.ref hh) (houseD three) := .tup zhh (.cons (.tup zbo (.cons (.tup zba (.cons (.tup zsa_ (.cons (.int _) (.cons (.int _) (.cons (.tup zka (.cons (.str _) .nil)) .nil)))) .nil)) (.cons (.tup zbb_ (.cons (.tup zsb_ (.cons (.int _) (.cons (.int _) (.cons (.tup zkb (.cons (.str _) .nil)) .nil)))) .nil)) (.cons (.tup zbc_ (.cons (.tup zsc_ (.cons (.int _) (.cons (.int _) (.cons (.tup zkc_ (.cons (.str _) .nil)) .nil)))) .nil)) .nil)))) (.cons (.int _) .nil))
      refine ⟨_, rfl, .ref hh, _, rfl, dH, .inl ⟨three, rfl, three_ok, fun y1 G1 g1 d1 => ?_⟩⟩
      refine ⟨_, rfl, .ref hh, _, rfl, dp_same g1 dH, .inl ⟨three, rfl, three_ok, fun y2 G2 g2 d2 => ?_⟩⟩
      refine ⟨_, rfl, .ref hh, _, rfl, dp_same (g1.trans g2) dH, .inl ⟨three, rfl, three_ok, fun y3 G3 g3 d3 => ?_⟩⟩
      refine ⟨_, rfl, .ref hh, _, rfl, dp_same (g1.trans (g2.trans g3)) dH, .inl ⟨three, 2, [0, 0, 1], rfl, three_ok, three_best, fun y4 G4 g4 d4 => ?_⟩⟩
      rw [three_loads] at d1 d2
      refine ⟨len_ok (by simp), fun L1 hL1 => ?_⟩
      have gL := same_new (o := .lst [y1, y2, y3, y4]) hL1
      have hL1v : (upd G4 L1 (.lst [y1, y2, y3, y4])) L1 = some (.lst [y1, y2, y3, y4]) := upd_same
      replace d1 := dp_same (g2.trans (g3.trans (g4.trans gL))) d1
      replace d2 := dp_same (g3.trans (g4.trans gL)) d2
      replace d3 := dp_same (g4.trans gL) d3
      replace d4 := dp_same gL d4
      generalize hG5 : upd G4 L1 (.lst [y1, y2, y3, y4]) = G5 at *
      refine ⟨_, rfl, ?_⟩
      refine ⟨len_ok (by simp), fun a1 ha1 => ?_⟩
      have ta1 := same_new (o := .tup [.int 1, .int 3]) ha1
      refine ⟨len_ok (by simp), fun a2 ha2 => ?_⟩
      have ta2 := same_new (o := .tup [.int 3, .int 1]) ha2
      refine ⟨len_ok (by simp), fun b1 hb1 => ?_⟩
      have tb1 := same_new (o := .tup [.int 0]) hb1
      refine ⟨len_ok (by simp), fun b2 hb2 => ?_⟩
      have tb2 := same_new (o := .tup [.int 1]) hb2
      refine ⟨len_ok (by simp), fun b3 hb3 => ?_⟩
      have tb3 := same_new (o := .tup [.int 1]) hb3
      refine ⟨len_ok (by simp), fun b4 hb4 => ?_⟩
      have tb4 := same_new (o := .tup [.ref b1, .ref b2, .ref b3]) hb4
      refine ⟨len_ok (by simp), fun c1 hc1 => ?_⟩
      have tc1 := same_new (o := .tup [.int 0]) hc1
      refine ⟨len_ok (by simp), fun c2 hc2 => ?_⟩
      have tc2 := same_new (o := .tup [.int 0]) hc2
      refine ⟨len_ok (by simp), fun c3 hc3 => ?_⟩
      have tc3 := same_new (o := .tup [.int 1]) hc3
      refine ⟨len_ok (by simp), fun c4 hc4 => ?_⟩
      have tc4 := same_new (o := .tup [.ref c1, .ref c2, .ref c3]) hc4
      refine ⟨len_ok (by simp), fun c5 hc5 => ?_⟩
      have tc5 := same_new (o := .tup [.int 2, .ref c4]) hc5
      refine ⟨len_ok (by simp), fun L2 hL2 => ?_⟩
      have tL2 := same_new (o := .lst [.ref a1, .ref a2, .ref b4, .ref c5]) hL2
      have za1 := (ta2.trans (tb1.trans (tb2.trans (tb3.trans (tb4.trans (tc1.trans (tc2.trans (tc3.trans (tc4.trans (tc5.trans tL2)))))))))).seqT (seqT_of (K := K) (p := a1) (xs := [.int 1, .int 3]) upd_same)
      have za2 := (tb1.trans (tb2.trans (tb3.trans (tb4.trans (tc1.trans (tc2.trans (tc3.trans (tc4.trans (tc5.trans tL2))))))))).seqT (seqT_of (K := K) (p := a2) (xs := [.int 3, .int 1]) upd_same)
      have zb1 := (tb2.trans (tb3.trans (tb4.trans (tc1.trans (tc2.trans (tc3.trans (tc4.trans (tc5.trans tL2)))))))).seqT (seqT_of (K := K) (p := b1) (xs := [.int 0]) upd_same)
      have zb2 := (tb3.trans (tb4.trans (tc1.trans (tc2.trans (tc3.trans (tc4.trans (tc5.trans tL2))))))).seqT (seqT_of (K := K) (p := b2) (xs := [.int 1]) upd_same)
      have zb3 := (tb4.trans (tc1.trans (tc2.trans (tc3.trans (tc4.trans (tc5.trans tL2)))))).seqT (seqT_of (K := K) (p := b3) (xs := [.int 1]) upd_same)
      have zb4 := (tc1.trans (tc2.trans (tc3.trans (tc4.trans (tc5.trans tL2))))).seqT (seqT_of (K := K) (p := b4) (xs := [.ref b1, .ref b2, .ref b3]) upd_same)
      have zc1 := (tc2.trans (tc3.trans (tc4.trans (tc5.trans tL2)))).seqT (seqT_of (K := K) (p := c1) (xs := [.int 0]) upd_same)
      have zc2 := (tc3.trans (tc4.trans (tc5.trans tL2))).seqT (seqT_of (K := K) (p := c2) (xs := [.int 0]) upd_same)
      have zc3 := (tc4.trans (tc5.trans tL2)).seqT (seqT_of (K := K) (p := c3) (xs := [.int 1]) upd_same)
      have zc4 := (tc5.trans tL2).seqT (seqT_of (K := K) (p := c4) (xs := [.ref c1, .ref c2, .ref c3]) upd_same)
      have zc5 := tL2.seqT (seqT_of (K := K) (p := c5) (xs := [.int 2, .ref c4]) upd_same)
      have tall := ta1.trans (ta2.trans (tb1.trans (tb2.trans (tb3.trans (tb4.trans (tc1.trans (tc2.trans (tc3.trans (tc4.trans (tc5.trans tL2))))))))))
      refine ⟨L1, L2, .list [.tuple (natD [1, 3]), busD [1, 3], phD three, sprD three 2 [0, 0, 1]], rfl,
        .lst (.inl (.inl (tall _ _ hL1v))) (.cons (dp_same tall d1) (.cons (dp_same tall d2) (.cons (dp_same tall d3) (.cons (dp_same tall d4) .nil)))),
        .lst (.inl (.inl upd_same)) (.cons (.tup za1 (.cons (.int _) (.cons (.int _) .nil))) (.cons (.tup za2 (.cons (.int _) (.cons (.int _) .nil))) (.cons (.tup zb4 (.cons (.tup zb1 (.cons (.int _) .nil)) (.cons (.tup zb2 (.cons (.int _) .nil)) (.cons (.tup zb3 (.cons (.int _) .nil)) .nil)))) (.cons (.tup zc5 (.cons (.int _) (.cons (.tup zc4 (.cons (.tup zc1 (.cons (.int _) .nil)) (.cons (.tup zc2 (.cons (.int _) .nil)) (.cons (.tup zc3 (.cons (.int _) .nil)) .nil)))) .nil))) .nil)))),
        three_tiny, q _⟩
end
end K88
set_option maxHeartbeats 4000000
/-! The end: what the top has left, gathered. -/
namespace K88
open PySem PySem.Spec PySem.Calls PySem.HandSPX PyProof.Rows L2 LamX K88X
section
variable {K : PySem.W.Frag} {mg : Str → Option Value} {h : Heap}
theorem at_mk {x : Str} {st : Stmt} {f : Addr} {oc : Value} {od an : Option Addr} {osl : Array (Option Value)} {kV doc pm cdv ct : Value} (X : K.In h) (G : h.Ns mainGlobals mg) (a : PySem.W.nsIn K mainGlobals x = some (some (.ref f)))
    (l : K.lookup f = some ⟨oc, od, .func (PySem.W.fnOf x x (defArgs st) (defBody st) (defScope st) .none kV doc pm an cdv ct), osl⟩) (c : PySem.W.codeIn K cdv x = true) (k : PySem.W.keepIn K (.ref f) = true) : At K mg x st :=
  ⟨f, _, fun_mk l c k, PySem.W.mg_of X G a⟩
/-- facts one by one, read off the written part -/
theorem exm_same {S : Addr} (h : PySem.W.exmOne K (.ref S) (.ref S) = some true) : PySem.W.exmOne K (.ref S) (.ref S) = some true := h
theorem DoesG.mono {P : Program} {w : World} {base : Heap} {CX : CXT} {j k : Nat} {x : Str} {ps : List Str} {sp : Sp} (D : DoesG P w K mg base CX j x ps sp) (h : j ≤ k) : DoesG P w K mg base CX k x ps sp := by
  obtain ⟨f, fd, h1, h2, h3, h4⟩ := D
  exact ⟨f, fd, h1, h2, h3, ⟨h4.len, fun A outer s H args us vs Q E hg hr => h4.run A outer s H args us vs Q E hg (hr.mono h)⟩⟩
/-- all defs -/
structure Defs (K : PySem.W.Frag) (mg : Str → Option Value) : Prop where
  a24 : At K mg "is_whole" sWhole
  a25 : At K mg "is_way" sWay
  a26 : At K mg "is_seat" sSeat
  a27 : At K mg "common" sCommon
  a28 : At K mg "round_of" sRoundOf
  a29 : At K mg "need_bodies" sNeedBodies
  a30 : At K mg "need_house" sNeedHouse
  a32 : At K mg "comes_up" sComesUp
  a34 : At K mg "phases_of" sPhasesOf
  a35 : At K mg "are_phases" sArePhases
  a36 : At K mg "with_phases" sWithPhases
  a37 : At K mg "loads_of" sLoadsOf
  a38 : At K mg "loads" sLoads
  a39 : At K mg "busiest" sBusiest
  a40 : At K mg "loaded" sLoaded
  a42 : At K mg "spread" sSpread
  a44 : At K mg "_law_mixed" sMixed
  a45 : At K mg "_law_folded" sFolded
  a46 : At K mg "_law_draw" sDraw
  a47 : At K mg "_law_begun" sBegun
  a48 : At K mg "_law_like" sLike
  a49 : At K mg "_law_of" sOf
  a50 : At K mg "_law_way" sLWay
  a51 : At K mg "_law_seat" sLSeat
  a52 : At K mg "_law_house" sLHouse
  a53 : At K mg "_law_is_due" sIsDue
  a54 : At K mg "_law_said" sSaid
  a55 : At K mg "_law_round" sRound
  a56 : At K mg "_law_loads" sLLoads
  a57 : At K mg "_law_all_phases" sAllPhases
  a58 : At K mg "_law_parted" sParted
  a59 : At K mg "_law_spread_right" sSpreadRight
theorem init_place {P : Program} {w : World} {nm qual : Str} {C fI : Addr} (T : ExTxt P K mg nm qual "place" sBadHouse C fI) : InitDoes P w K mg "place" C fI :=
  fun A R s mb x t0 v X hG hB hbb hlim hx hnx hroom hq => bad_init_place T X hG hB hbb hlim hx hnx hroom hq
theorem init_value {P : Program} {w : World} {nm qual : Str} {C fI : Addr} (T : ExTxt P K mg nm qual "value" sBadPhases C fI) : InitDoes P w K mg "value" C fI :=
  fun A R s mb x t0 v X hG hB hbb hlim hx hnx hroom hq => bad_init_value T X hG hB hbb hlim hx hnx hroom hq
theorem law_all {P : Program} {w : World} {base : Heap} {CH CP iH iP C fI fG c Tb f : Addr} {fd fdi fdg : FuncData} (T : Blt mg) (Cn : Cns mg) (D : Defs K mg) (TH : ExTxt P K mg "BadHouse" "BadHouse.__init__" "place" sBadHouse CH iH) (TP : ExTxt P K mg "BadPhases" "BadPhases.__init__" "value" sBadPhases CP iP)
    (S : SprF K mg C fI fG) (FI : Fun K "__init__" "Spread.__init__" sSpreadInit fI fdi) (FG : Fun K "gone_on" "Spread.gone_on" sGoneOn fG fdg) (hE : ∃ c2 c3 c4 c5 c6 c7 c9 c10, Errs K mg CH CP c2 c3 c4 c5 c6 c7 c9 c10)
    (F : Fun K "law" "law" sLaw f fd) (hfc : fd.code = .ref c) (TB : TabB base mg c Tb) : FnOkG P w K mg base CX0 17 f fd ["script"] (spLaw K Tb) := by
  have IH : InitDoes P w K mg "place" CH iH := init_place TH
  have IP : InitDoes P w K mg "value" CP iP := init_value TP
  have W1 := do_whole (P := P) (w := w) (base := base) T D.a24
  have Y2 := do_way T Cn D.a25 W1
  have S3 := do_seat T Cn D.a26 (W1.mono (by omega)) Y2
  have C1 := do_common (P := P) (w := w) (base := base) T D.a27
  have R2 := do_roundOf T D.a28 C1
  have B4 := do_needBodies T Cn D.a29 S3
  have N6 := do_needHouse T Cn D.a30 TH IH (W1.mono (by omega)) (B4.mono (by omega)) (R2.mono (by omega))
  have U1 := do_comesUp (P := P) (w := w) (base := base) T D.a32
  have PO := do_phasesOf T D.a34 N6
  have AP := do_arePhases T D.a35 (W1.mono (by omega))
  have WP := do_withPhases T D.a36 TP IP (N6.mono (by omega)) AP
  have LO := do_loadsOf T D.a37 (U1.mono (by omega)) R2
  have LD := do_loads T D.a38 N6 (LO.mono (by omega))
  have BU := do_busiest T D.a39 N6 (LO.mono (by omega))
  have LA := do_loaded (P := P) (w := w) (base := base) T D.a40
  have bi : L2.Binds K fdi ["self", "terms", "most"] [] := FI.binds fun _ _ _ _ _ _ us hl => match us, hl with | [_, _, _], _ => rfl
  have bg : L2.Binds K fdg ["self", "phases", "some"] [] := FG.binds fun _ _ _ _ _ _ us hl => match us, hl with | [_, _, _], _ => rfl
  have SP := do_spread T D.a42 S bi bg ((fn_init S FI).mono (by omega)) (fn_go T S FG LA 10) (N6.mono (by omega)) (R2.mono (by omega))
  have MX := do_mixed (P := P) (w := w) (base := base) T D.a44
  have FO := do_folded (P := P) (w := w) (base := base) T D.a45
  have DR := do_draw T D.a46 MX
  have BE := do_begun T D.a47 FO
  have LK := do_like (P := P) (w := w) (base := base) T D.a48
  have OF := do_of T D.a49 DR
  have LW := do_lway T D.a50 (DR.mono (by omega)) OF
  have LS := do_lseat T D.a51 (DR.mono (by omega)) (OF.mono (by omega)) LW
  have LH := do_lhouse T D.a52 (DR.mono (by omega)) (OF.mono (by omega)) LS
  have ID := do_isDue (P := P) (w := w) (base := base) T D.a53
  have RO := do_lround (P := P) (w := w) (base := base) T D.a55
  have LL := do_lloads T D.a56 RO ID
  have AL := do_allPhases (P := P) (w := w) (base := base) T D.a57
  have PA := do_parted (P := P) (w := w) (base := base) T D.a58
  have SR := do_spreadRight T D.a59 (AL.mono (by omega)) (LL.mono (by omega)) (PA.mono (by omega)) SP (LK.mono (by omega))
  obtain ⟨gs, fds, Fs, hms⟩ := D.a54
  obtain ⟨oc, od, kV, doc, pm, an, cdv, ct, osl, rfl, lk, hcd⟩ := Fs.ex
  have SD : SaidAt P K mg base CH CP c Tb := ⟨⟨gs, oc, od, kV, doc, pm, an, cdv, ct, osl, hms, Fs.kp, lk, hcd⟩, hE, ⟨_, TH⟩, ⟨_, TP⟩, TB⟩
  exact do_law T F hfc SD (BE.mono (by omega)) (LH.mono (by omega)) (DR.mono (by omega)) (PA.mono (by omega)) (LL.mono (by omega)) (WP.mono (by omega)) (PO.mono (by omega)) (LD.mono (by omega)) (BU.mono (by omega)) (SP.mono (by omega)) (LK.mono (by omega)) (SR.mono (by omega))
/-- an error class of the package -/
theorem ex_mk {P : Program} {nm qual fld : Str} {st : Stmt} {C fI cda cc N : Addr} {cnm q : Str} {bs bm : List Value} {sn : List Str} {sub : List Value} {ab : Bool} {col : Option Bool} {dd : Option Addr} {k0 k1 k2 k3 k5 : Option Value}
    {oc doc pm ct : Value} {od an : Option Addr} {osl : Array (Option Value)} {ccl : Value} {cdd : Option Addr} {vs : Array Value} {ccs : Array (Option Value)} {file : Str} {tf : Tok} {cl : Value} {cld : Option Addr} {csl : Array (Option Value)}
    (X : K.In h) (G : h.Ns mainGlobals mg) (gC : PySem.W.nsIn K mainGlobals nm = some (some (.ref C))) (gS : PySem.W.nsIn K mainGlobals "super" = some none)
    (cls : K.lookup C = some (excClassObj cnm q C N bs bm true sn sub ab col dd k0 k1 k2 k3 k5 "ValueError.__new__")) (rb : refsVE bm = true)
    (sa : PySem.W.findIn K (.ref C) "__setattr__" = some (some (.builtin "object.__setattr__"))) (ga : PySem.W.findIn K (.ref C) "__getattribute__" = some (some (.builtin "BaseException.__getattribute__"))) (gg : PySem.W.findIn K (.ref C) "__getattr__" = some none) (noN : PySem.W.findIn K (.ref C) fld = some none)
    (iC : PySem.W.findIn K (.ref C) "__init__" = some (some (.ref fI))) (tC : PySem.W.typeIn K (.ref fI) = some (.type "function")) (kC : PySem.W.keepIn K (.ref C) = true) (exC : PySem.W.subIn K (.ref C) (.type "BaseException") = some true) (tyC : PySem.W.typeIn K (.ref C) = some (.type "type"))
    (hdC : PySem.W.hasDictIn K C = true) (opq : PySem.W.nsIn K cStatics "thirdparty.any" = some none) (sup : PySem.W.ks_superIn K C C "__init__" = some (some (.builtin "ValueError.__init__"))) (subV : PySem.W.subIn K (.ref C) (.type "ValueError") = some true) (mroC : PySem.W.mroIn K C (.ref C) = some true)
    (tp : (P.main.scope.names.lookup ("super" : Str)).isSome = false)
    (lI : K.lookup fI = some ⟨oc, od, .func (PySem.W.ksFn "__init__" qual (L2.defArgs st) (L2.defBody st) (L2.defScope st) .none .none doc pm an (.ref cda) ct cc), osl⟩) (cI : PySem.W.codeIn K (.ref cda) qual = true)
    (lc : K.lookup cda = some ⟨ccl, cdd, .fields vs, ccs⟩) (v2 : vs[2]? = some (.str file tf)) (fl : ((P.main.file : Str) == file) = true) (lcc : K.lookup cc = some ⟨cl, cld, .cell (some (.ref C)), csl⟩) : ExTxt P K mg nm qual fld st C fI :=
  { gC := PySem.W.mg_of X G gC, gS := PySem.W.mg_none_of X G gS, cls := ⟨_, _, _, _, _, _, _, _, _, _, _, _, _, _, _, cls, rb⟩, sa := sa, ga := ga, gg := gg, noN := noN, iC := iC, tC := tC, kC := kC, exC := exC, tyC := tyC, hdC := hdC, opq := opq, sup := sup, subV := subV, mroC := mroC, top := tp,
    fn := ⟨_, _, _, _, _, _, _, _, _, lI, cI, ⟨_, _, _, _, _, _, lc, v2, fl⟩, _, _, _, lcc⟩ }
end
end K88
set_option maxHeartbeats 4000000
/-! The end: the facts by name. -/
namespace K88
open PySem PySem.Spec PySem.Calls PySem.HandSPX PyProof.Rows L2 LamX K88X
section
variable {K : PySem.W.Frag} {mg : Str → Option Value} {h : Heap}
theorem blt_mk (X : K.In h) (G : h.Ns mainGlobals mg) (z0 : PySem.W.nsIn K mainGlobals "isinstance" = some none) (z1 : PySem.W.nsIn K mainGlobals "int" = some none) (z2 : PySem.W.nsIn K mainGlobals "bool" = some none) (z3 : PySem.W.nsIn K mainGlobals "tuple" = some none) (z4 : PySem.W.nsIn K mainGlobals "str" = some none) (z5 : PySem.W.nsIn K mainGlobals "len" = some none) (z6 : PySem.W.nsIn K mainGlobals "sum" = some none) (z7 : PySem.W.nsIn K mainGlobals "enumerate" = some none) (z8 : PySem.W.nsIn K mainGlobals "zip" = some none) (z9 : PySem.W.nsIn K mainGlobals "all" = some none) (z10 : PySem.W.nsIn K mainGlobals "range" = some none) (z11 : PySem.W.nsIn K mainGlobals "max" = some none) (z12 : PySem.W.nsIn K mainGlobals "min" = some none) (z13 : PySem.W.nsIn K mainGlobals "list" = some none) (z14 : PySem.W.nsIn K mainGlobals "repr" = some none) : Blt mg :=
  ⟨PySem.W.mg_none_of X G z0, PySem.W.mg_none_of X G z1, PySem.W.mg_none_of X G z2, PySem.W.mg_none_of X G z3, PySem.W.mg_none_of X G z4, PySem.W.mg_none_of X G z5, PySem.W.mg_none_of X G z6, PySem.W.mg_none_of X G z7, PySem.W.mg_none_of X G z8, PySem.W.mg_none_of X G z9, PySem.W.mg_none_of X G z10, PySem.W.mg_none_of X G z11, PySem.W.mg_none_of X G z12, PySem.W.mg_none_of X G z13, PySem.W.mg_none_of X G z14⟩
theorem cns_mk {t0 t1 t2 t3 t4 t5 t6 t7 t8 t9 t10 : Tok} (X : K.In h) (G : h.Ns mainGlobals mg) (z0 : PySem.W.nsIn K mainGlobals "SIDE_A" = some (some (.str "a" t0))) (z1 : PySem.W.nsIn K mainGlobals "SIDE_B" = some (some (.str "b" t1))) (z2 : PySem.W.nsIn K mainGlobals "KEPT" = some (some (.str "kept" t2))) (z3 : PySem.W.nsIn K mainGlobals "WARD" = some (some (.str "ward" t3))) (z4 : PySem.W.nsIn K mainGlobals "BODY" = some (some (.str "body" t4))) (z5 : PySem.W.nsIn K mainGlobals "REST" = some (some (.str "rest" t5))) (z6 : PySem.W.nsIn K mainGlobals "MOST_BODIES" = some (some (.int 3 t6))) (z7 : PySem.W.nsIn K mainGlobals "MOST_SEATS" = some (some (.int 9 t7))) (z8 : PySem.W.nsIn K mainGlobals "MOST_TERM" = some (some (.int 6 t8))) (z9 : PySem.W.nsIn K mainGlobals "MOST_WARDS" = some (some (.int 4 t9))) (z10 : PySem.W.nsIn K mainGlobals "MOST_ROUND" = some (some (.int 12 t10))) : Cns mg :=
  ⟨⟨_, PySem.W.mg_of X G z0⟩, ⟨_, PySem.W.mg_of X G z1⟩, ⟨_, PySem.W.mg_of X G z2⟩, ⟨_, PySem.W.mg_of X G z3⟩, ⟨_, PySem.W.mg_of X G z4⟩, ⟨_, PySem.W.mg_of X G z5⟩, ⟨_, PySem.W.mg_of X G z6⟩, ⟨_, PySem.W.mg_of X G z7⟩, ⟨_, PySem.W.mg_of X G z8⟩, ⟨_, PySem.W.mg_of X G z9⟩, ⟨_, PySem.W.mg_of X G z10⟩⟩
theorem spr_mk {C fI fG : Addr} (X : K.In h) (G : h.Ns mainGlobals mg) (gC : PySem.W.nsIn K mainGlobals "Spread" = some (some (.ref C))) (pg : PySem.W.plainGet K C Str.empty = true) (hd : PySem.W.hasDictIn K C = true) (po : PySem.W.plainOver K C = true) (sa : PySem.W.findIn K (.ref C) "__setattr__" = some (some (.builtin "object.__setattr__"))) (mk : PySem.W.makesIn K C = true) (kc : PySem.W.keepIn K (.ref C) = true)
    (a1 : PySem.W.findIn K (.ref C) "__init__" = some (some (.ref fI))) (i1 : PySem.W.isFn K (.ref fI) = true) (a2 : PySem.W.findIn K (.ref C) "gone_on" = some (some (.ref fG))) (i2 : PySem.W.isFn K (.ref fG) = true) (k2 : PySem.W.keepIn K (.ref fG) = true) (nT : PySem.W.findIn K (.ref C) "terms" = some none) (nH : PySem.W.findIn K (.ref C) "highest" = some none) (nF : PySem.W.findIn K (.ref C) "failed" = some none) : SprF K mg C fI fG :=
  ⟨⟨pg, hd, po, sa⟩, ⟨mk, a1, i1, kc⟩, ⟨a2, i2, k2⟩, PySem.W.mg_of X G gC, nT, nH, nF⟩
theorem errs_mk {CH CP : Addr} {c2 c3 c4 c5 c6 c7 c9 c10 : Value} (X : K.In h) (G : h.Ns mainGlobals mg) (m1 : PySem.W.nsIn K mainGlobals "BadHouse" = some (some (.ref CH))) (m2 : PySem.W.nsIn K mainGlobals "BadStand" = some (some (c2))) (m3 : PySem.W.nsIn K mainGlobals "BadChoices" = some (some (c3))) (m4 : PySem.W.nsIn K mainGlobals "BadBand" = some (some (c4))) (m5 : PySem.W.nsIn K mainGlobals "BadNumber" = some (some (c5))) (m6 : PySem.W.nsIn K mainGlobals "BadWide" = some (some (c6))) (m7 : PySem.W.nsIn K mainGlobals "BadSeen" = some (some (c7))) (m8 : PySem.W.nsIn K mainGlobals "BadPhases" = some (some (.ref CP))) (m9 : PySem.W.nsIn K mainGlobals "BadText" = some (some (c9))) (m10 : PySem.W.nsIn K mainGlobals "TooGreat" = some (some (c10)))
    (hh : PySem.W.exmOne K (.ref CH) (.ref CH) = some true) (p1 : PySem.W.exmOne K (.ref CP) (.ref CH) = some false) (p2 : PySem.W.exmOne K (.ref CP) (c2) = some false) (p3 : PySem.W.exmOne K (.ref CP) (c3) = some false) (p4 : PySem.W.exmOne K (.ref CP) (c4) = some false) (p5 : PySem.W.exmOne K (.ref CP) (c5) = some false) (p6 : PySem.W.exmOne K (.ref CP) (c6) = some false) (p7 : PySem.W.exmOne K (.ref CP) (c7) = some false) (pp : PySem.W.exmOne K (.ref CP) (.ref CP) = some true) : ∃ c2 c3 c4 c5 c6 c7 c9 c10, Errs K mg CH CP c2 c3 c4 c5 c6 c7 c9 c10 :=
  ⟨c2, c3, c4, c5, c6, c7, c9, c10, PySem.W.mg_of X G m1, PySem.W.mg_of X G m2, PySem.W.mg_of X G m3, PySem.W.mg_of X G m4, PySem.W.mg_of X G m5, PySem.W.mg_of X G m6, PySem.W.mg_of X G m7, PySem.W.mg_of X G m8, PySem.W.mg_of X G m9, PySem.W.mg_of X G m10, hh, p1, p2, p3, p4, p5, p6, p7, pp⟩
theorem final_mk {l : PySem.W.OpenLaw} {q : Program} {loose : List Str} {R : PySem.W.WRecords} {XP : (Str → Option Value) → Heap → Prop} {w : World} {s₀ : Shared} {mb : Str → Option Value} {CH CP iH iP C fI fG c Tb f f0 : Addr} {fdi fdg : FuncData} {oc : Value} {od an : Option Addr} {osl : Array (Option Value)} {kV doc pm ct : Value}
    (GR : PySem.W.Ground q loose R XP w s₀ mg mb h) (X : K.In h) (hmg : mg "law" = some (.ref f)) (hC : PySem.W.CodeHd h c Tb) (hP : h.get? Tb = some (PySem.W.tabObj #[])) (nT : K.lookup Tb = none)
    (T : Blt mg) (Cn : Cns mg) (D : Defs K mg) (TH : ExTxt l.prog K mg "BadHouse" "BadHouse.__init__" "place" sBadHouse CH iH) (TP : ExTxt l.prog K mg "BadPhases" "BadPhases.__init__" "value" sBadPhases CP iP)
    (S : SprF K mg C fI fG) (FI : Fun K "__init__" "Spread.__init__" sSpreadInit fI fdi) (FG : Fun K "gone_on" "Spread.gone_on" sGoneOn fG fdg) (hE : ∃ c2 c3 c4 c5 c6 c7 c9 c10, Errs K mg CH CP c2 c3 c4 c5 c6 c7 c9 c10)
    (aL : PySem.W.nsIn K mainGlobals "law" = some (some (.ref f0))) (lk : K.lookup f0 = some ⟨oc, od, .func (PySem.W.fnOf "law" "law" (defArgs sLaw) (defBody sLaw) (defScope sLaw) .none kV doc pm an (.ref c) ct), osl⟩) (hcd : PySem.W.codeIn K (.ref c) "law" = true) (kp : PySem.W.keepIn K (.ref f0) = true) : LawAtG l w K 17 63 "script" mg f h := by
  have e := hmg.symm.trans (PySem.W.mg_of X GR.T.g aL)
  cases e
  have F := fun_mk (st := sLaw) lk hcd kp
  refine ⟨PySem.W.fnOf "law" "law" (defArgs sLaw) (defBody sLaw) (defScope sLaw) .none kV doc pm an (.ref c) ct, c, Tb, spLaw K Tb, hP, nT, hC, fun s u => .of_eq rfl, fun H a ns hl _ hT hS => ⟨a, ns, rfl, hS, hl, hT, fun _ => rfl⟩, fun base _ _ TB => ?_⟩
  exact law_all T Cn D TH TP S FI FG hE F rfl TB
end
end K88
open PySem PySem.W PyProof.Rows in
set_option maxRecDepth 100000 in
set_option maxHeartbeats 0 in
theorem PySem.Challenge.cw_termseats_k88_whole_phases_holds : PySem.Challenge.rw_termseats_k88_whole_phases.Holds := by
  w_on; o_law; k_head; (case hw => w_witness2)
  k_fill
  refine K88.walk_ofG (l := PySem.Challenge.rw_termseats_k88_whole_phases) (n := 63) (k := 17) (x := "script") rfl (by decide) rfl ⟨rfl, by decide, by decide⟩ (fun w h Y => PySem.W.km_in_of Y) ?F
  case F =>
    intro w s₀ mg mb fa h GR Y KX hmg
    refine' K88.final_mk (l := PySem.Challenge.rw_termseats_k88_whole_phases) GR KX hmg (PySem.W.codeHd_of_K KX ?ch) (PySem.W.km_tabs_of Y 466 ?mem) ?nT (K88.blt_mk KX GR.T.g ?z0 ?z1 ?z2 ?z3 ?z4 ?z5 ?z6 ?z7 ?z8 ?z9 ?z10 ?z11 ?z12 ?z13 ?z14) (K88.cns_mk KX GR.T.g ?y0 ?y1 ?y2 ?y3 ?y4 ?y5 ?y6 ?y7 ?y8 ?y9 ?y10) ⟨K88.at_mk (x := "is_whole") (st := K88.sWhole) KX GR.T.g ?d0a ?d0l ?d0c ?d0k, K88.at_mk (x := "is_way") (st := K88.sWay) KX GR.T.g ?d1a ?d1l ?d1c ?d1k, K88.at_mk (x := "is_seat") (st := K88.sSeat) KX GR.T.g ?d2a ?d2l ?d2c ?d2k, K88.at_mk (x := "common") (st := K88.sCommon) KX GR.T.g ?d3a ?d3l ?d3c ?d3k, K88.at_mk (x := "round_of") (st := K88.sRoundOf) KX GR.T.g ?d4a ?d4l ?d4c ?d4k, K88.at_mk (x := "need_bodies") (st := K88.sNeedBodies) KX GR.T.g ?d5a ?d5l ?d5c ?d5k, K88.at_mk (x := "need_house") (st := K88.sNeedHouse) KX GR.T.g ?d6a ?d6l ?d6c ?d6k, K88.at_mk (x := "comes_up") (st := K88.sComesUp) KX GR.T.g ?d7a ?d7l ?d7c ?d7k, K88.at_mk (x := "phases_of") (st := K88.sPhasesOf) KX GR.T.g ?d8a ?d8l ?d8c ?d8k, K88.at_mk (x := "are_phases") (st := K88.sArePhases) KX GR.T.g ?d9a ?d9l ?d9c ?d9k, K88.at_mk (x := "with_phases") (st := K88.sWithPhases) KX GR.T.g ?d10a ?d10l ?d10c ?d10k, K88.at_mk (x := "loads_of") (st := K88.sLoadsOf) KX GR.T.g ?d11a ?d11l ?d11c ?d11k, K88.at_mk (x := "loads") (st := K88.sLoads) KX GR.T.g ?d12a ?d12l ?d12c ?d12k, K88.at_mk (x := "busiest") (st := K88.sBusiest) KX GR.T.g ?d13a ?d13l ?d13c ?d13k, K88.at_mk (x := "loaded") (st := K88.sLoaded) KX GR.T.g ?d14a ?d14l ?d14c ?d14k, K88.at_mk (x := "spread") (st := K88.sSpread) KX GR.T.g ?d15a ?d15l ?d15c ?d15k, K88.at_mk (x := "_law_mixed") (st := K88.sMixed) KX GR.T.g ?d16a ?d16l ?d16c ?d16k, K88.at_mk (x := "_law_folded") (st := K88.sFolded) KX GR.T.g ?d17a ?d17l ?d17c ?d17k, K88.at_mk (x := "_law_draw") (st := K88.sDraw) KX GR.T.g ?d18a ?d18l ?d18c ?d18k, K88.at_mk (x := "_law_begun") (st := K88.sBegun) KX GR.T.g ?d19a ?d19l ?d19c ?d19k, K88.at_mk (x := "_law_like") (st := K88.sLike) KX GR.T.g ?d20a ?d20l ?d20c ?d20k, K88.at_mk (x := "_law_of") (st := K88.sOf) KX GR.T.g ?d21a ?d21l ?d21c ?d21k, K88.at_mk (x := "_law_way") (st := K88.sLWay) KX GR.T.g ?d22a ?d22l ?d22c ?d22k, K88.at_mk (x := "_law_seat") (st := K88.sLSeat) KX GR.T.g ?d23a ?d23l ?d23c ?d23k, K88.at_mk (x := "_law_house") (st := K88.sLHouse) KX GR.T.g ?d24a ?d24l ?d24c ?d24k, K88.at_mk (x := "_law_is_due") (st := K88.sIsDue) KX GR.T.g ?d25a ?d25l ?d25c ?d25k, K88.at_mk (x := "_law_said") (st := K88.sSaid) KX GR.T.g ?d26a ?d26l ?d26c ?d26k, K88.at_mk (x := "_law_round") (st := K88.sRound) KX GR.T.g ?d27a ?d27l ?d27c ?d27k, K88.at_mk (x := "_law_loads") (st := K88.sLLoads) KX GR.T.g ?d28a ?d28l ?d28c ?d28k, K88.at_mk (x := "_law_all_phases") (st := K88.sAllPhases) KX GR.T.g ?d29a ?d29l ?d29c ?d29k, K88.at_mk (x := "_law_parted") (st := K88.sParted) KX GR.T.g ?d30a ?d30l ?d30c ?d30k, K88.at_mk (x := "_law_spread_right") (st := K88.sSpreadRight) KX GR.T.g ?d31a ?d31l ?d31c ?d31k⟩ (K88.ex_mk KX GR.T.g ?h_gC ?h_gS ?h_cls ?h_rb ?h_sa ?h_ga ?h_gg ?h_noN ?h_iC ?h_tC ?h_kC ?h_exC ?h_tyC ?h_hdC ?h_opq ?h_sup ?h_subV ?h_mroC ?h_tp ?h_lI ?h_cI ?h_lc ?h_v2 ?h_fl ?h_lcc) (K88.ex_mk KX GR.T.g ?p_gC ?p_gS ?p_cls ?p_rb ?p_sa ?p_ga ?p_gg ?p_noN ?p_iC ?p_tC ?p_kC ?p_exC ?p_tyC ?p_hdC ?p_opq ?p_sup ?p_subV ?p_mroC ?p_tp ?p_lI ?p_cI ?p_lc ?p_v2 ?p_fl ?p_lcc) (K88.spr_mk KX GR.T.g ?s_gC ?s_pg ?s_hd ?s_po ?s_sa ?s_mk ?s_kc ?s_a1 ?s_i1 ?s_a2 ?s_i2 ?s_k2 ?s_nT ?s_nH ?s_nF) (L2.fun_mk (x := "__init__") (qual := "Spread.__init__") (st := K88.sSpreadInit) ?fil ?fic ?fik) (L2.fun_mk (x := "gone_on") (qual := "Spread.gone_on") (st := K88.sGoneOn) ?fgl ?fgc ?fgk) (K88.errs_mk KX GR.T.g ?e_m1 ?e_m2 ?e_m3 ?e_m4 ?e_m5 ?e_m6 ?e_m7 ?e_m8 ?e_m9 ?e_m10 ?e_hh ?e_p1 ?e_p2 ?e_p3 ?e_p4 ?e_p5 ?e_p6 ?e_p7 ?e_pp) ?aL ?lal ?lac ?lak
    (case h_gC => k_is)
    (case p_gC => k_is)
    (case s_gC => k_is)
    (case aL => k_is)
    (case z0 => k_is)
    (case z1 => k_is)
    (case z2 => k_is)
    (case z3 => k_is)
    (case z4 => k_is)
    (case z5 => k_is)
    (case z6 => k_is)
    (case z7 => k_is)
    (case z8 => k_is)
    (case z9 => k_is)
    (case z10 => k_is)
    (case z11 => k_is)
    (case z12 => k_is)
    (case z13 => k_is)
    (case z14 => k_is)
    (case y0 => k_is)
    (case y1 => k_is)
    (case y2 => k_is)
    (case y3 => k_is)
    (case y4 => k_is)
    (case y5 => k_is)
    (case y6 => k_is)
    (case y7 => k_is)
    (case y8 => k_is)
    (case y9 => k_is)
    (case y10 => k_is)
    (case d0a => k_is)
    (case d0l => k_is)
    (case d0c => k_is)
    (case d0k => k_is)
    (case d1a => k_is)
    (case d1l => k_is)
    (case d1c => k_is)
    (case d1k => k_is)
    (case d2a => k_is)
    (case d2l => k_is)
    (case d2c => k_is)
    (case d2k => k_is)
    (case d3a => k_is)
    (case d3l => k_is)
    (case d3c => k_is)
    (case d3k => k_is)
    (case d4a => k_is)
    (case d4l => k_is)
    (case d4c => k_is)
    (case d4k => k_is)
    (case d5a => k_is)
    (case d5l => k_is)
    (case d5c => k_is)
    (case d5k => k_is)
    (case d6a => k_is)
    (case d6l => k_is)
    (case d6c => k_is)
    (case d6k => k_is)
    (case d7a => k_is)
    (case d7l => k_is)
    (case d7c => k_is)
    (case d7k => k_is)
    (case d8a => k_is)
    (case d8l => k_is)
    (case d8c => k_is)
    (case d8k => k_is)
    (case d9a => k_is)
    (case d9l => k_is)
    (case d9c => k_is)
    (case d9k => k_is)
    (case d10a => k_is)
    (case d10l => k_is)
    (case d10c => k_is)
    (case d10k => k_is)
    (case d11a => k_is)
    (case d11l => k_is)
    (case d11c => k_is)
    (case d11k => k_is)
    (case d12a => k_is)
    (case d12l => k_is)
    (case d12c => k_is)
    (case d12k => k_is)
    (case d13a => k_is)
    (case d13l => k_is)
    (case d13c => k_is)
    (case d13k => k_is)
    (case d14a => k_is)
    (case d14l => k_is)
    (case d14c => k_is)
    (case d14k => k_is)
    (case d15a => k_is)
    (case d15l => k_is)
    (case d15c => k_is)
    (case d15k => k_is)
    (case d16a => k_is)
    (case d16l => k_is)
    (case d16c => k_is)
    (case d16k => k_is)
    (case d17a => k_is)
    (case d17l => k_is)
    (case d17c => k_is)
    (case d17k => k_is)
    (case d18a => k_is)
    (case d18l => k_is)
    (case d18c => k_is)
    (case d18k => k_is)
    (case d19a => k_is)
    (case d19l => k_is)
    (case d19c => k_is)
    (case d19k => k_is)
    (case d20a => k_is)
    (case d20l => k_is)
    (case d20c => k_is)
    (case d20k => k_is)
    (case d21a => k_is)
    (case d21l => k_is)
    (case d21c => k_is)
    (case d21k => k_is)
    (case d22a => k_is)
    (case d22l => k_is)
    (case d22c => k_is)
    (case d22k => k_is)
    (case d23a => k_is)
    (case d23l => k_is)
    (case d23c => k_is)
    (case d23k => k_is)
    (case d24a => k_is)
    (case d24l => k_is)
    (case d24c => k_is)
    (case d24k => k_is)
    (case d25a => k_is)
    (case d25l => k_is)
    (case d25c => k_is)
    (case d25k => k_is)
    (case d26a => k_is)
    (case d26l => k_is)
    (case d26c => k_is)
    (case d26k => k_is)
    (case d27a => k_is)
    (case d27l => k_is)
    (case d27c => k_is)
    (case d27k => k_is)
    (case d28a => k_is)
    (case d28l => k_is)
    (case d28c => k_is)
    (case d28k => k_is)
    (case d29a => k_is)
    (case d29l => k_is)
    (case d29c => k_is)
    (case d29k => k_is)
    (case d30a => k_is)
    (case d30l => k_is)
    (case d30c => k_is)
    (case d30k => k_is)
    (case d31a => k_is)
    (case d31l => k_is)
    (case d31c => k_is)
    (case d31k => k_is)
    (case h_gS => k_is)
    (case h_cls => k_is)
    (case h_rb => first | rfl | decide +kernel | kernel_rfl | k_is)
    (case h_sa => k_is)
    (case h_ga => k_is)
    (case h_gg => k_is)
    (case h_noN => k_is)
    (case h_iC => k_is)
    (case h_tC => k_is)
    (case h_kC => k_is)
    (case h_exC => k_is)
    (case h_tyC => k_is)
    (case h_hdC => k_is)
    (case h_opq => k_is)
    (case h_sup => first | kernel_rfl | rfl | k_is)
    (case h_subV => k_is)
    (case h_mroC => k_is)
    (case h_tp => first | rfl | decide +kernel | kernel_rfl | k_is)
    (case h_lI => k_is)
    (case h_cI => k_is)
    (case h_lc => k_is)
    (case h_v2 => first | rfl | decide +kernel | kernel_rfl | k_is)
    (case h_fl => first | rfl | decide +kernel | kernel_rfl | k_is)
    (case h_lcc => k_is)
    (case p_gS => k_is)
    (case p_cls => k_is)
    (case p_rb => first | rfl | decide +kernel | kernel_rfl | k_is)
    (case p_sa => k_is)
    (case p_ga => k_is)
    (case p_gg => k_is)
    (case p_noN => k_is)
    (case p_iC => k_is)
    (case p_tC => k_is)
    (case p_kC => k_is)
    (case p_exC => k_is)
    (case p_tyC => k_is)
    (case p_hdC => k_is)
    (case p_opq => k_is)
    (case p_sup => first | kernel_rfl | rfl | k_is)
    (case p_subV => k_is)
    (case p_mroC => k_is)
    (case p_tp => first | rfl | decide +kernel | kernel_rfl | k_is)
    (case p_lI => k_is)
    (case p_cI => k_is)
    (case p_lc => k_is)
    (case p_v2 => first | rfl | decide +kernel | kernel_rfl | k_is)
    (case p_fl => first | rfl | decide +kernel | kernel_rfl | k_is)
    (case p_lcc => k_is)
    (case s_pg => k_is)
    (case s_hd => k_is)
    (case s_po => k_is)
    (case s_sa => k_is)
    (case s_mk => k_is)
    (case s_kc => k_is)
    (case s_a1 => k_is)
    (case s_i1 => k_is)
    (case s_a2 => k_is)
    (case s_i2 => k_is)
    (case s_k2 => k_is)
    (case s_nT => k_is)
    (case s_nH => k_is)
    (case s_nF => k_is)
    (case fil => k_is)
    (case fic => k_is)
    (case fik => k_is)
    (case fgl => k_is)
    (case fgc => k_is)
    (case fgk => k_is)
    (case e_m1 => k_is)
    (case e_m2 => k_is)
    (case e_m3 => k_is)
    (case e_m4 => k_is)
    (case e_m5 => k_is)
    (case e_m6 => k_is)
    (case e_m7 => k_is)
    (case e_m8 => k_is)
    (case e_m9 => k_is)
    (case e_m10 => k_is)
    (case e_hh => first | kernel_rfl | rfl | k_is)
    (case e_p1 => first | kernel_rfl | rfl | k_is)
    (case e_p2 => first | kernel_rfl | rfl | k_is)
    (case e_p3 => first | kernel_rfl | rfl | k_is)
    (case e_p4 => first | kernel_rfl | rfl | k_is)
    (case e_p5 => first | kernel_rfl | rfl | k_is)
    (case e_p6 => first | kernel_rfl | rfl | k_is)
    (case e_p7 => first | kernel_rfl | rfl | k_is)
    (case e_pp => first | kernel_rfl | rfl | k_is)
    (case lal => k_is)
    (case mem => exact List.mem_singleton.mpr rfl)
    (case nT => first | k_is | kernel_rfl | rfl)
    (case ch => first | k_is | kernel_rfl)
    (case lac => k_is)
    (case lak => k_is)
#print axioms PySem.Challenge.cw_termseats_k88_whole_phases_holds
