import PyProof.Rows.All
import Wide.All
import OpenK.AllK
import Wide.FinOn
import KE.KStateDown
import HandS.ForMost
import HandS.Defaults
import HandS.Star
import HandS.IsInst
import HandS.Zip
import HandS.Flow
import HandS.Style
import HandS.TupAny
import HandS.DictComp
import HandS.Strs
import HandS.Head0
import HandS.Head1
import HandS.Head2
import HandS.HeadEnd
import HandS.HeadHook1
import HandS.HeadHook2
import HandS.HeadHook3
import PySem.Challenge.RW_tallypeaks_k41_whole_great_statistics_co
import KE.GoesEnumKw
import HandS.Zip0
import PyProof.DictCopy
import PyProof.DictUpdate
import KE.GoesMore
import KE.GoesEnum
import PyProof.TupleOfSeq
import PyProof.StrOps2
import HandS.Codes
import HandS.SlotsOwn
import KE.KDictKeyed
import KE.KDictDisplayH
import KE.KeyNested
import PyProof.Rows.TupTab
import HandS.WideBits
import HandS.Walk

section M1_text
set_option Elab.async false
set_option linter.all false
/-! The mathematics: statistics as plain data, what they reckon, which marks they accept. No program in sight. -/
namespace TPk

/-! ### lists -/
theorem snoc_ind {a : Type} {P : List a → Prop} (h0 : P []) (hs : ∀ l x, P l → P (l ++ [x])) : ∀ l, P l := by
  intro l
  have h : ∀ m : List a, P m.reverse := by
    intro m
    induction m with
    | nil => exact h0
    | cons x m ih => rw [List.reverse_cons]; exact hs _ _ ih
  have := h l.reverse
  rwa [List.reverse_reverse] at this

/-! ### terms by their codes: 0 «0», 2k+1 «rk», 2k+2 «rk+x», 13 «x» -/
def src (c : Nat) : Nat := if c = 13 then 0 else (c + 1) / 2
def tak (c : Nat) : Bool := decide (c = 13) || (decide (c ≠ 0) && decide (c % 2 = 0))

structure Stt (k : Type) where
  side : Bool
  kinds : List k
  start : List Bool
  rules : List (List (List Nat))
  ends : List Nat

section
variable {K : Type} [DecidableEq K]
def pos : List K → K → Nat
  | [], _ => 0
  | x :: xs, k => if x = k then 0 else pos xs k + 1
theorem pos_at : ∀ {l : List K} {k : K}, k ∈ l → l[pos l k]? = some k ∧ ∀ m, m < pos l k → l[m]? ≠ some k := by
  intro l
  induction l with
  | nil => intro k h; cases h
  | cons x xs ih =>
    intro k h
    unfold pos
    by_cases e : x = k
    · rw [if_pos e]
      refine ⟨by simp [e], fun m hm => absurd hm (Nat.not_lt_zero m)⟩
    · rw [if_neg e]
      have hm : k ∈ xs := by
        rcases List.mem_cons.mp h with h | h
        · exact absurd h.symm e
        · exact h
      obtain ⟨h1, h2⟩ := ih hm
      refine ⟨by simpa using h1, fun m hm => ?_⟩
      cases m with
      | zero => simp [e]
      | succ m => simpa using h2 m (by omega)
theorem pos_of {l : List K} {k : K} {j : Nat} (h : l[j]? = some k) (hn : ∀ m, m < j → l[m]? ≠ some k) : pos l k = j := by
  have hm : k ∈ l := List.mem_of_getElem? h
  obtain ⟨h1, h2⟩ := pos_at hm
  rcases Nat.lt_trichotomy (pos l k) j with h3 | h3 | h3
  · exact absurd h1 (hn _ h3)
  · exact h3
  · exact absurd h (h2 _ h3)
theorem pos_lt {l : List K} {k : K} (h : k ∈ l) : pos l k < l.length := (List.getElem?_eq_some_iff.mp (pos_at h).1).1

/-! ### what a statistic reckons -/
def Stt.rule (s : Stt K) (k : K) : List (List Nat) := s.rules.getD (pos s.kinds k) []
/-- a is at least as good as b -/
def better (g : Bool) (a b : Int) : Prop := if g = true then b ≤ a else a ≤ b
def bst (g : Bool) : List Int → Option Int
  | [] => none
  | x :: xs => some (xs.foldl (fun m y => if g = true then (if m < y then y else m) else (if y < m then y else m)) x)
theorem better_refl (g : Bool) (a : Int) : better g a a := by unfold better; split <;> exact Int.le_refl a
theorem better_trans {g : Bool} {a b c : Int} (h : better g a b) (h2 : better g b c) : better g a c := by
  cases g
  · have h : a ≤ b := h
    have h2 : b ≤ c := h2
    show a ≤ c
    omega
  · have h : b ≤ a := h
    have h2 : c ≤ b := h2
    show c ≤ a
    omega
theorem better_anti {g : Bool} {a b : Int} (h : better g a b) (h2 : better g b a) : a = b := by
  cases g
  · have h : a ≤ b := h
    have h2 : b ≤ a := h2
    omega
  · have h : b ≤ a := h
    have h2 : a ≤ b := h2
    omega
theorem better_add {g : Bool} {a b : Int} (c : Int) (h : better g a b) : better g (a + c) (b + c) := by
  cases g
  · have h : a ≤ b := h
    show a + c ≤ b + c
    omega
  · have h : b ≤ a := h
    show b + c ≤ a + c
    omega
theorem better_plus {g : Bool} {a b c d : Int} (h : better g a b) (h2 : better g c d) : better g (a + c) (b + d) := by
  cases g
  · have h : a ≤ b := h
    have h2 : c ≤ d := h2
    show a + c ≤ b + d
    omega
  · have h : b ≤ a := h
    have h2 : d ≤ c := h2
    show b + d ≤ a + c
    omega
theorem fold_best (g : Bool) : ∀ (xs : List Int) (x : Int), (xs.foldl (fun m y => if g = true then (if m < y then y else m) else (if y < m then y else m)) x) ∈ x :: xs ∧ ∀ y ∈ x :: xs, better g (xs.foldl (fun m y => if g = true then (if m < y then y else m) else (if y < m then y else m)) x) y := by
  intro xs
  induction xs with
  | nil => intro x; exact ⟨List.mem_cons_self, fun y hy => by rw [List.mem_singleton.mp hy]; exact better_refl g x⟩
  | cons z zs ih =>
    intro x
    rw [List.foldl_cons]
    obtain ⟨h1, h2⟩ := ih (if g = true then (if x < z then z else x) else (if z < x then z else x))
    have hx : better g (if g = true then (if x < z then z else x) else (if z < x then z else x)) x ∧ better g (if g = true then (if x < z then z else x) else (if z < x then z else x)) z := by
      cases g
      · constructor
        · show (if z < x then z else x) ≤ x; split <;> omega
        · show (if z < x then z else x) ≤ z; split <;> omega
      · constructor
        · show x ≤ (if x < z then z else x); split <;> omega
        · show z ≤ (if x < z then z else x); split <;> omega
    have hm : (if g = true then (if x < z then z else x) else (if z < x then z else x)) = x ∨ (if g = true then (if x < z then z else x) else (if z < x then z else x)) = z := by
      cases g
      · show (if z < x then z else x) = x ∨ (if z < x then z else x) = z; split <;> simp
      · show (if x < z then z else x) = x ∨ (if x < z then z else x) = z; split <;> simp
    have hb := h2 _ List.mem_cons_self
    refine ⟨?_, fun y hy => ?_⟩
    · rcases List.mem_cons.mp h1 with h | h
      · rw [h]
        rcases hm with e | e
        · rw [e]; exact List.mem_cons_self
        · rw [e]; exact List.mem_cons_of_mem _ List.mem_cons_self
      · exact List.mem_cons_of_mem _ (List.mem_cons_of_mem _ h)
    · rcases List.mem_cons.mp hy with h | h
      · rw [h]; exact better_trans hb hx.1
      · rcases List.mem_cons.mp h with h | h
        · rw [h]; exact better_trans hb hx.2
        · exact h2 y (List.mem_cons_of_mem _ h)
theorem bst_none {g : Bool} {xs : List Int} : bst g xs = none ↔ xs = [] := by
  cases xs with
  | nil => exact ⟨fun _ => rfl, fun _ => rfl⟩
  | cons x xs => exact ⟨fun h => (nomatch h), fun h => (nomatch h)⟩
theorem bst_some {g : Bool} {xs : List Int} {m : Int} (h : bst g xs = some m) : m ∈ xs ∧ ∀ y ∈ xs, better g m y := by
  cases xs with
  | nil => cases h
  | cons x xs =>
    have e := Option.some.inj h
    rw [← e]
    exact fold_best g xs x
theorem bst_of {g : Bool} {xs : List Int} {m : Int} (h : m ∈ xs) (hb : ∀ y ∈ xs, better g m y) : bst g xs = some m := by
  cases e : bst g xs with
  | none => rw [bst_none.mp e] at h; cases h
  | some n =>
    obtain ⟨h1, h2⟩ := bst_some e
    rw [better_anti (hb n h1) (h2 m h)]

def held (row : List (Option Int)) : Nat → Option Int
  | 0 => some 0
  | k + 1 => row.getD k none
def valsOf (row : List (Option Int)) (ts : List Nat) (a : Int) : List Int := ts.filterMap fun c => (held row (src c)).map fun v => if tak c = true then v + a else v
def stp (g : Bool) (rule : List (List Nat)) (row : List (Option Int)) (a : Int) : List (Option Int) := rule.map fun ts => bst g (valsOf row ts a)
def rd (g : Bool) (ends : List Nat) (row : List (Option Int)) : Option Int := bst g (ends.filterMap fun e => row.getD e none)
def Stt.row0 (s : Stt K) : List (Option Int) := s.start.map fun b => if b = true then some 0 else none
def Stt.rowOf (s : Stt K) (log : List (K × Int)) : List (Option Int) := log.foldl (fun row p => stp s.side (s.rule p.1) row p.2) s.row0
def Stt.res (s : Stt K) (log : List (K × Int)) : Option Int := rd s.side s.ends (s.rowOf log)
theorem rowOf_snoc (s : Stt K) (log : List (K × Int)) (p : K × Int) : s.rowOf (log ++ [p]) = stp s.side (s.rule p.1) (s.rowOf log) p.2 := by
  unfold Stt.rowOf; rw [List.foldl_append]; rfl

/-! ### which marks it accepts -/
/-- may a way go on by a term that takes (t) or not at a mark -/
def inM (g nat mark t : Bool) : Bool := t == mark || (nat && (mark == !g))
def Stt.mv (s : Stt K) (nat : Bool) (S : List Nat) (k : K) (mark : Bool) : List Nat :=
  (if 0 ∈ S ∧ inM s.side nat mark false = true then [0] else []) ++
    ((List.range (s.rule k).length).filter fun j => ((s.rule k).getD j []).any fun c => inM s.side nat mark (tak c) && decide (src c ∈ S)).map (· + 1)
def Stt.st0 (s : Stt K) : List Nat := 0 :: ((List.range s.start.length).filter fun j => s.start.getD j false).map (· + 1)
def Stt.acc (s : Stt K) (S : List Nat) : Bool := s.ends.any fun e => decide (e + 1 ∈ S)
abbrev Word (K : Type) := List (K × Bool)
def Stt.run (s : Stt K) (nat : Bool) (S : List Nat) (w : Word K) : List Nat := w.foldl (fun S p => s.mv nat S p.1 p.2) S
def Stt.accW (s : Stt K) (nat : Bool) (w : Word K) : Bool := s.acc (s.run nat s.st0 w)
theorem run_snoc (s : Stt K) (nat : Bool) (S : List Nat) (w : Word K) (p : K × Bool) : s.run nat S (w ++ [p]) = s.mv nat (s.run nat S w) p.1 p.2 := by
  unfold Stt.run; rw [List.foldl_append]; rfl
theorem mem_mv {s : Stt K} {nat : Bool} {S : List Nat} {k : K} {mark : Bool} {x : Nat} : x ∈ s.mv nat S k mark ↔
    (x = 0 ∧ 0 ∈ S ∧ inM s.side nat mark false = true) ∨ ∃ j ts, x = j + 1 ∧ (s.rule k)[j]? = some ts ∧ ∃ c ∈ ts, inM s.side nat mark (tak c) = true ∧ src c ∈ S := by
  unfold Stt.mv
  rw [List.mem_append]
  constructor
  · rintro (h | h)
    · left
      split at h
      · rename_i hc
        exact ⟨by simpa using h, hc⟩
      · cases h
    · right
      obtain ⟨j, hj, e⟩ := List.mem_map.mp h
      obtain ⟨h1, h2⟩ := List.mem_filter.mp hj
      have hlt : j < (s.rule k).length := List.mem_range.mp h1
      have he : (s.rule k)[j]? = some ((s.rule k)[j]) := List.getElem?_eq_getElem hlt
      refine ⟨j, _, e.symm, he, ?_⟩
      have e2 : (s.rule k).getD j [] = (s.rule k)[j] := by rw [List.getD_eq_getElem?_getD, he]; rfl
      rw [e2] at h2
      obtain ⟨c, hc, h3⟩ := List.any_eq_true.mp h2
      obtain ⟨h4, h5⟩ := Bool.and_eq_true_iff.mp h3
      exact ⟨c, hc, h4, of_decide_eq_true h5⟩
  · rintro (⟨rfl, h1, h2⟩ | ⟨j, ts, rfl, hj, c, hc, h1, h2⟩)
    · left
      rw [if_pos ⟨h1, h2⟩]; exact List.mem_singleton.mpr rfl
    · right
      refine List.mem_map.mpr ⟨j, List.mem_filter.mpr ⟨List.mem_range.mpr (List.getElem?_eq_some_iff.mp hj).1, ?_⟩, rfl⟩
      have e2 : (s.rule k).getD j [] = ts := by rw [List.getD_eq_getElem?_getD, hj]; rfl
      rw [e2]
      exact List.any_eq_true.mpr ⟨c, hc, Bool.and_eq_true_iff.mpr ⟨h1, decide_eq_true h2⟩⟩
theorem mem_st0 {s : Stt K} {x : Nat} : x ∈ s.st0 ↔ x = 0 ∨ ∃ j, x = j + 1 ∧ s.start[j]? = some true := by
  unfold Stt.st0
  rw [List.mem_cons]
  constructor
  · rintro (h | h)
    · exact .inl h
    · right
      obtain ⟨j, hj, e⟩ := List.mem_map.mp h
      obtain ⟨h1, h2⟩ := List.mem_filter.mp hj
      have hlt : j < s.start.length := List.mem_range.mp h1
      have he : s.start[j]? = some (s.start[j]) := List.getElem?_eq_getElem hlt
      rw [List.getD_eq_getElem?_getD, he] at h2
      have h2 : s.start[j] = true := h2
      exact ⟨j, e.symm, by rw [he, h2]⟩
  · rintro (h | ⟨j, rfl, hj⟩)
    · exact .inl h
    · right
      refine List.mem_map.mpr ⟨j, List.mem_filter.mpr ⟨List.mem_range.mpr (List.getElem?_eq_some_iff.mp hj).1, ?_⟩, rfl⟩
      rw [List.getD_eq_getElem?_getD, hj]; rfl
theorem acc_iff {s : Stt K} {S : List Nat} : s.acc S = true ↔ ∃ e ∈ s.ends, e + 1 ∈ S := by
  unfold Stt.acc
  rw [List.any_eq_true]
  constructor
  · rintro ⟨e, h1, h2⟩; exact ⟨e, h1, of_decide_eq_true h2⟩
  · rintro ⟨e, h1, h2⟩; exact ⟨e, h1, decide_eq_true h2⟩

/-! ### ways and sums: events with marks -/
abbrev Tri (K : Type) := List (K × Bool × Int)
def lg (t : Tri K) : List (K × Int) := t.map fun e => (e.1, e.2.2)
def wd (t : Tri K) : Word K := t.map fun e => (e.1, e.2.1)
def sm (t : Tri K) : Int := (t.map fun e => if e.2.1 = true then e.2.2 else 0).sum
theorem lg_snoc (t : Tri K) (e : K × Bool × Int) : lg (t ++ [e]) = lg t ++ [(e.1, e.2.2)] := by unfold lg; rw [List.map_append]; rfl
theorem wd_snoc (t : Tri K) (e : K × Bool × Int) : wd (t ++ [e]) = wd t ++ [(e.1, e.2.1)] := by unfold wd; rw [List.map_append]; rfl
theorem sm_snoc (t : Tri K) (e : K × Bool × Int) : sm (t ++ [e]) = sm t + (if e.2.1 = true then e.2.2 else 0) := by
  unfold sm; rw [List.map_append, List.sum_append]; simp
theorem inM_plain (g m t : Bool) : inM g false m t = true ↔ t = m := by cases g <;> cases m <;> cases t <;> decide
theorem inM_self (g n m : Bool) : inM g n m m = true := by cases g <;> cases n <;> cases m <;> decide
/-- point 13, one half: what a register holds is the sum of a choice that leads there -/
theorem way_there (s : Stt K) : ∀ (log : List (K × Int)) (k : Nat) (v : Int), held (s.rowOf log) k = some v → ∃ t : Tri K, lg t = log ∧ k ∈ s.run false s.st0 (wd t) ∧ sm t = v := by
  refine snoc_ind ?_ ?_
  · intro k v h
    refine ⟨[], rfl, ?_⟩
    cases k with
    | zero =>
      have e : (0 : Int) = v := Option.some.inj h
      exact ⟨mem_st0.mpr (.inl rfl), e⟩
    | succ j =>
      have h : (s.start.map fun b => if b = true then some (0 : Int) else none).getD j none = some v := h
      rw [List.getD_eq_getElem?_getD, List.getElem?_map] at h
      cases e : s.start[j]? with
      | none => rw [e] at h; cases h
      | some b =>
        rw [e] at h
        cases b with
        | false => cases h
        | true =>
          have e2 : (0 : Int) = v := Option.some.inj h
          exact ⟨mem_st0.mpr (.inr ⟨j, rfl, e⟩), e2⟩
  · intro log p ih k v h
    cases k with
    | zero =>
      obtain ⟨t, e1, e2, e3⟩ := ih 0 0 rfl
      refine ⟨t ++ [(p.1, false, p.2)], by rw [lg_snoc, e1], ?_, ?_⟩
      · rw [wd_snoc, run_snoc]
        exact mem_mv.mpr (.inl ⟨rfl, e2, inM_self _ _ _⟩)
      · rw [sm_snoc, e3]
        have h : (0 : Int) = v := Option.some.inj h
        rw [← h]; rfl
    | succ j =>
      rw [rowOf_snoc] at h
      have h : (stp s.side (s.rule p.1) (s.rowOf log) p.2).getD j none = some v := h
      unfold stp at h
      rw [List.getD_eq_getElem?_getD, List.getElem?_map] at h
      cases e : (s.rule p.1)[j]? with
      | none => rw [e] at h; cases h
      | some ts =>
        rw [e] at h
        have h : bst s.side (valsOf (s.rowOf log) ts p.2) = some v := h
        obtain ⟨hm, _⟩ := bst_some h
        obtain ⟨c, hc, hv⟩ := List.mem_filterMap.mp hm
        cases e2 : held (s.rowOf log) (src c) with
        | none => rw [e2] at hv; cases hv
        | some u =>
          rw [e2] at hv
          have hv : (if tak c = true then u + p.2 else u) = v := Option.some.inj hv
          obtain ⟨t, q1, q2, q3⟩ := ih _ _ e2
          refine ⟨t ++ [(p.1, tak c, p.2)], by rw [lg_snoc, q1], ?_, ?_⟩
          · rw [wd_snoc, run_snoc]
            exact mem_mv.mpr (.inr ⟨j, ts, rfl, e, c, hc, inM_self _ _ _, q2⟩)
          · rw [sm_snoc, q3, ← hv]
            by_cases ht : tak c = true
            · rw [if_pos ht, if_pos ht]
            · rw [if_neg ht, if_neg ht]; omega
/-- .. the other half: it is the best of them -/
theorem way_best (s : Stt K) : ∀ (t : Tri K) (k : Nat), k ∈ s.run false s.st0 (wd t) → ∃ v, held (s.rowOf (lg t)) k = some v ∧ better s.side v (sm t) := by
  refine snoc_ind ?_ ?_
  · intro k h
    rcases mem_st0.mp h with rfl | ⟨j, rfl, hj⟩
    · exact ⟨0, rfl, better_refl _ _⟩
    · refine ⟨0, ?_, better_refl _ _⟩
      show (s.start.map fun b => if b = true then some (0 : Int) else none).getD j none = some 0
      rw [List.getD_eq_getElem?_getD, List.getElem?_map, hj]; rfl
  · intro t e ih k h
    rw [wd_snoc, run_snoc] at h
    rw [lg_snoc, rowOf_snoc, sm_snoc]
    rcases mem_mv.mp h with ⟨rfl, h1, h2⟩ | ⟨j, ts, rfl, hj, c, hc, h1, h2⟩
    · obtain ⟨v, e1, e2⟩ := ih 0 h1
      have e1 : (0 : Int) = v := Option.some.inj e1
      have hm : false = e.2.1 := (inM_plain _ _ _).mp h2
      refine ⟨0, rfl, ?_⟩
      rw [← hm, if_neg (by decide), Int.add_zero, e1]
      exact e2
    · obtain ⟨u, e1, e2⟩ := ih _ h2
      have hm : tak c = e.2.1 := (inM_plain _ _ _).mp h1
      have hv : (if tak c = true then u + e.2.2 else u) ∈ valsOf (s.rowOf (lg t)) ts e.2.2 := List.mem_filterMap.mpr ⟨c, hc, by rw [e1]; rfl⟩
      cases eb : bst s.side (valsOf (s.rowOf (lg t)) ts e.2.2) with
      | none => rw [bst_none.mp eb] at hv; cases hv
      | some v =>
        refine ⟨v, ?_, ?_⟩
        · show (stp s.side (s.rule e.1) (s.rowOf (lg t)) e.2.2).getD j none = some v
          unfold stp
          rw [List.getD_eq_getElem?_getD, List.getElem?_map, hj]
          exact eb
        · refine better_trans ((bst_some eb).2 _ hv) ?_
          rw [hm]
          by_cases ht : e.2.1 = true
          · rw [if_pos ht, if_pos ht]; exact better_add _ e2
          · rw [if_neg ht, if_neg ht, Int.add_zero]; exact e2
theorem res_there (s : Stt K) {log : List (K × Int)} {v : Int} (h : s.res log = some v) : ∃ t : Tri K, lg t = log ∧ s.accW false (wd t) = true ∧ sm t = v := by
  unfold Stt.res rd at h
  obtain ⟨hm, _⟩ := bst_some h
  obtain ⟨e, he, hv⟩ := List.mem_filterMap.mp hm
  obtain ⟨t, q1, q2, q3⟩ := way_there s log (e + 1) v hv
  exact ⟨t, q1, acc_iff.mpr ⟨e, he, q2⟩, q3⟩
theorem res_best (s : Stt K) {t : Tri K} (h : s.accW false (wd t) = true) : ∃ v, s.res (lg t) = some v ∧ better s.side v (sm t) := by
  obtain ⟨e, he, hk⟩ := acc_iff.mp h
  obtain ⟨v, h1, h2⟩ := way_best s t (e + 1) hk
  have hv : v ∈ s.ends.filterMap fun e => (s.rowOf (lg t)).getD e none := List.mem_filterMap.mpr ⟨e, he, h1⟩
  unfold Stt.res rd
  cases eb : bst s.side (s.ends.filterMap fun e => (s.rowOf (lg t)).getD e none) with
  | none => rw [bst_none.mp eb] at hv; cases hv
  | some u => exact ⟨u, rfl, better_trans ((bst_some eb).2 _ hv) h2⟩

/-! ### natural amounts: a run with wider marks is one of the runs with other marks -/
def Comp (g nat : Bool) : Word K → Word K → Prop
  | [], [] => True
  | p :: w, q :: w' => p.1 = q.1 ∧ inM g nat p.2 q.2 = true ∧ Comp g nat w w'
  | _, _ => False
theorem comp_self (g nat : Bool) : ∀ w : Word K, Comp g nat w w
  | [] => True.intro
  | p :: w => ⟨rfl, inM_self _ _ _, comp_self g nat w⟩
theorem comp_snoc {g nat : Bool} : ∀ {w w' : Word K} {p q : K × Bool}, Comp g nat w w' → p.1 = q.1 → inM g nat p.2 q.2 = true → Comp g nat (w ++ [p]) (w' ++ [q])
  | [], [], _, _, _, h1, h2 => ⟨h1, h2, True.intro⟩
  | _ :: _, _ :: _, _, _, ⟨a, b, c⟩, h1, h2 => ⟨a, b, comp_snoc c h1 h2⟩
  | [], _ :: _, _, _, h, _, _ => h.elim
  | _ :: _, [], _, _, h, _, _ => h.elim
theorem comp_snoc_inv {g nat : Bool} : ∀ {w : Word K} {p : K × Bool} {w'' : Word K}, Comp g nat (w ++ [p]) w'' → ∃ w' q, w'' = w' ++ [q] ∧ Comp g nat w w' ∧ p.1 = q.1 ∧ inM g nat p.2 q.2 = true
  | [], p, [], h => h.elim
  | [], p, [q], ⟨a, b, _⟩ => ⟨[], q, rfl, True.intro, a, b⟩
  | [], p, _ :: _ :: _, ⟨_, _, c⟩ => c.elim
  | _ :: _, _, [], h => h.elim
  | a :: w, p, b :: w'', ⟨h1, h2, h3⟩ => by
    obtain ⟨w', q, e, h4, h5, h6⟩ := comp_snoc_inv h3
    exact ⟨b :: w', q, by rw [e]; rfl, ⟨h1, h2, h4⟩, h5, h6⟩
theorem run_nat (s : Stt K) (nat : Bool) : ∀ (w : Word K) (k : Nat), k ∈ s.run nat s.st0 w ↔ ∃ w', Comp s.side nat w w' ∧ k ∈ s.run false s.st0 w' := by
  refine snoc_ind ?_ ?_
  · intro k
    constructor
    · intro h; exact ⟨[], True.intro, h⟩
    · rintro ⟨w', h1, h2⟩
      cases w' with
      | nil => exact h2
      | cons _ _ => exact h1.elim
  · intro w p ih k
    rw [run_snoc]
    constructor
    · intro h
      rcases mem_mv.mp h with ⟨rfl, h1, h2⟩ | ⟨j, ts, rfl, hj, c, hc, h1, h2⟩
      · obtain ⟨w', c1, c2⟩ := (ih 0).mp h1
        refine ⟨w' ++ [(p.1, false)], comp_snoc c1 rfl h2, ?_⟩
        rw [run_snoc]
        exact mem_mv.mpr (.inl ⟨rfl, c2, inM_self _ _ _⟩)
      · obtain ⟨w', c1, c2⟩ := (ih _).mp h2
        refine ⟨w' ++ [(p.1, tak c)], comp_snoc c1 rfl h1, ?_⟩
        rw [run_snoc]
        exact mem_mv.mpr (.inr ⟨j, ts, rfl, hj, c, hc, inM_self _ _ _, c2⟩)
    · rintro ⟨w'', h1, h2⟩
      obtain ⟨w', q, rfl, c1, c2, c3⟩ := comp_snoc_inv h1
      rw [run_snoc] at h2
      rcases mem_mv.mp h2 with ⟨rfl, h4, h5⟩ | ⟨j, ts, rfl, hj, c, hc, h4, h5⟩
      · have e : false = q.2 := (inM_plain _ _ _).mp h5
        exact mem_mv.mpr (.inl ⟨rfl, (ih 0).mpr ⟨w', c1, h4⟩, by rw [e]; exact c3⟩)
      · have e : tak c = q.2 := (inM_plain _ _ _).mp h4
        exact mem_mv.mpr (.inr ⟨j, ts, rfl, by rw [c2]; exact hj, c, hc, by rw [e]; exact c3, (ih _).mpr ⟨w', c1, h5⟩⟩)
theorem accW_nat (s : Stt K) (nat : Bool) (w : Word K) : s.accW nat w = true ↔ ∃ w', Comp s.side nat w w' ∧ s.accW false w' = true := by
  constructor
  · intro h
    obtain ⟨e, he, hk⟩ := acc_iff.mp h
    obtain ⟨w', h1, h2⟩ := (run_nat s nat w _).mp hk
    exact ⟨w', h1, acc_iff.mpr ⟨e, he, h2⟩⟩
  · rintro ⟨w', h1, h2⟩
    obtain ⟨e, he, hk⟩ := acc_iff.mp h2
    exact acc_iff.mpr ⟨e, he, (run_nat s nat w _).mpr ⟨w', h1, hk⟩⟩

/-! ### yes: what is accepted tells the results -/
/-- the events of t with the marks of w -/
def remark : Tri K → Word K → Tri K
  | e :: t, q :: w => (q.1, q.2, e.2.2) :: remark t w
  | _, _ => []
theorem remark_of {g nat : Bool} : ∀ {t : Tri K} {w : Word K}, Comp g nat (wd t) w → lg (remark t w) = lg t ∧ wd (remark t w) = w
  | [], [], _ => ⟨rfl, rfl⟩
  | [], _ :: _, h => h.elim
  | _ :: _, [], h => h.elim
  | e :: t, q :: w, ⟨h1, h2, h3⟩ => by
    obtain ⟨a, b⟩ := remark_of h3
    have h1 : e.1 = q.1 := h1
    refine ⟨?_, ?_⟩
    · show (q.1, e.2.2) :: lg (remark t w) = (e.1, e.2.2) :: lg t
      rw [a, h1]
    · show (q.1, q.2) :: wd (remark t w) = q :: w
      rw [b]
theorem remark_better {g nat : Bool} : ∀ {t : Tri K} {w : Word K}, Comp g nat (wd t) w → (nat = true → ∀ e ∈ lg t, 0 ≤ e.2) → better g (sm (remark t w)) (sm t)
  | [], [], _, _ => better_refl _ _
  | [], _ :: _, h, _ => h.elim
  | _ :: _, [], h, _ => h.elim
  | e :: t, q :: w, ⟨h1, h2, h3⟩, hn => by
    have ih := remark_better h3 fun h x hx => hn h x (List.mem_cons_of_mem _ hx)
    have h0 : nat = true → 0 ≤ e.2.2 := fun h => hn h (e.1, e.2.2) List.mem_cons_self
    have h2 : inM g nat e.2.1 q.2 = true := h2
    have hd : better g (if q.2 = true then e.2.2 else 0) (if e.2.1 = true then e.2.2 else 0) := by
      revert h2 h0
      generalize e.2.2 = a
      generalize e.2.1 = m
      generalize q.2 = b
      intro h0 h2
      cases nat
      · rw [(inM_plain _ _ _).mp h2]; exact better_refl _ _
      · have h0 := h0 rfl
        cases g <;> cases m <;> cases b <;> first | exact better_refl _ _ | exact h0 | exact absurd h2 (by decide)
    show better g (((if q.2 = true then e.2.2 else 0) :: ((remark t w).map fun e => if e.2.1 = true then e.2.2 else 0)).sum) (((if e.2.1 = true then e.2.2 else 0) :: (t.map fun e => if e.2.1 = true then e.2.2 else 0)).sum)
    rw [List.sum_cons, List.sum_cons]
    exact better_plus hd ih
theorem wd_kinds {t : Tri K} {ks : List K} (h : ∀ e ∈ lg t, e.1 ∈ ks) : ∀ p ∈ wd t, p.1 ∈ ks := by
  intro p hp
  obtain ⟨e, he, rfl⟩ := List.mem_map.mp hp
  exact h (e.1, e.2.2) (List.mem_map.mpr ⟨e, he, rfl⟩)
/-- all that a accepts b accepts: b's result is at least as good -/
theorem yes_core {a b : Stt K} {nat : Bool} (hs : a.side = b.side) (h : ∀ w : Word K, (∀ p ∈ w, p.1 ∈ a.kinds) → a.accW nat w = true → b.accW nat w = true) {log : List (K × Int)} (hk : ∀ e ∈ log, e.1 ∈ a.kinds)
    (hn : nat = true → ∀ e ∈ log, 0 ≤ e.2) {v : Int} (hv : a.res log = some v) : ∃ u, b.res log = some u ∧ better a.side u v := by
  obtain ⟨t, rfl, h2, rfl⟩ := res_there a hv
  have h3 : a.accW nat (wd t) = true := (accW_nat a nat _).mpr ⟨wd t, comp_self _ _ _, h2⟩
  obtain ⟨w', c, h5⟩ := (accW_nat b nat _).mp (h _ (wd_kinds hk) h3)
  obtain ⟨r1, r2⟩ := remark_of c
  rw [← r2] at h5
  obtain ⟨u, h6, h7⟩ := res_best b h5
  rw [r1] at h6
  refine ⟨u, h6, ?_⟩
  rw [hs]
  exact better_trans h7 (remark_better c hn)
/-- a result is above another one (point 10) -/
def abv (g : Bool) : Option Int → Option Int → Bool
  | some x, some y => decide (y < x)
  | a, b => (b.isNone == g) && decide (a ≠ b)
theorem yes_equal {a b : Stt K} {nat : Bool} (hs : a.side = b.side) (hkk : a.kinds = b.kinds) (h : ∀ w : Word K, (∀ p ∈ w, p.1 ∈ a.kinds) → a.accW nat w = b.accW nat w) {log : List (K × Int)} (hk : ∀ e ∈ log, e.1 ∈ a.kinds)
    (hn : nat = true → ∀ e ∈ log, 0 ≤ e.2) : a.res log = b.res log := by
  have h1 := fun {v} => yes_core (v := v) hs (fun w q z => by rw [← h w q]; exact z) hk hn
  have h2 := fun {v} => yes_core (a := b) (b := a) (v := v) hs.symm (fun w q z => by rw [h w (by rw [hkk]; exact q)]; exact z) (by rw [← hkk]; exact hk) hn
  cases e1 : a.res log with
  | none =>
    cases e2 : b.res log with
    | none => rfl
    | some v =>
      obtain ⟨u, e3, _⟩ := h2 e2
      rw [e1] at e3; cases e3
  | some v =>
    obtain ⟨u, e3, h3⟩ := h1 e1
    obtain ⟨v', e4, h4⟩ := h2 e3
    rw [e1] at e4
    have e4 := Option.some.inj e4
    rw [e3]
    rw [hs] at h3
    rw [← e4] at h4
    rw [better_anti h3 h4]
theorem yes_under {a b : Stt K} {nat : Bool} (hs : a.side = b.side) (hkk : a.kinds = b.kinds)
    (h : ∀ w : Word K, (∀ p ∈ w, p.1 ∈ a.kinds) → (if a.side = true then a else b).accW nat w = true → (if a.side = true then b else a).accW nat w = true) {log : List (K × Int)} (hk : ∀ e ∈ log, e.1 ∈ a.kinds)
    (hn : nat = true → ∀ e ∈ log, 0 ≤ e.2) : abv a.side (a.res log) (b.res log) = false := by
  cases g : a.side with
  | true =>
    rw [g] at h
    have h1 := fun {v} => yes_core (v := v) hs h hk hn
    cases e1 : a.res log with
    | none =>
      cases e2 : b.res log with
      | none => rfl
      | some v => rfl
    | some v =>
      obtain ⟨u, e3, h3⟩ := h1 e1
      rw [e3]
      rw [g] at h3
      have h3 : v ≤ u := h3
      show decide (u < v) = false
      exact decide_eq_false (by omega)
  | false =>
    rw [g] at h
    have h1 := fun {v} => yes_core (a := b) (b := a) (v := v) hs.symm (fun w q => h w (by rw [hkk]; exact q)) (by rw [← hkk]; exact hk) hn
    cases e2 : b.res log with
    | none =>
      cases e1 : a.res log with
      | none => rfl
      | some v => rfl
    | some v =>
      obtain ⟨u, e3, h3⟩ := h1 e2
      rw [e3]
      rw [← hs, g] at h3
      have h3 : u ≤ v := h3
      show decide (v < u) = false
      exact decide_eq_false (by omega)

/-! ### no: the log that shows it -/
/-- the amount at a mark -/
def am (g nat m : Bool) : Int := if g = true then (if m = true then 1 else (if nat = true then 0 else -1)) else (if m = true then (if nat = true then 0 else -1) else 1)
def shown (g nat : Bool) (w : Word K) : List (K × Int) := w.map fun p => (p.1, am g nat p.2)
/-- the best that an event with this mark can give -/
def top (g nat m : Bool) : Int := if g = true then (if m = true then 1 else 0) else (if m = true then (if nat = true then 0 else -1) else 0)
theorem top_best (g nat m b : Bool) : better g (top g nat m) (if b = true then am g nat m else 0) ∧ (inM g nat m b = true → (if b = true then am g nat m else 0) = top g nat m) ∧ (inM g nat m b = false → (if b = true then am g nat m else 0) ≠ top g nat m) := by
  unfold better
  cases g <;> cases nat <;> cases m <;> cases b <;> decide
def topW (g nat : Bool) (w : Word K) : Int := (w.map fun p => top g nat p.2).sum
theorem top_le {g nat : Bool} : ∀ {w : Word K} {t : Tri K}, lg t = shown g nat w → better g (topW g nat w) (sm t) ∧ (Comp g nat w (wd t) → sm t = topW g nat w) ∧ (¬ Comp g nat w (wd t) → sm t ≠ topW g nat w)
  | [], [], _ => ⟨better_refl _ _, fun _ => rfl, fun h => (h True.intro).elim⟩
  | [], _ :: _, h => nomatch h
  | _ :: _, [], h => nomatch h
  | p :: w, e :: t, h => by
    have h0 : (e.1, e.2.2) :: lg t = (p.1, am g nat p.2) :: shown g nat w := h
    injection h0 with ha hb
    have h1 : e.1 = p.1 := congrArg Prod.fst ha
    have h2 : e.2.2 = am g nat p.2 := congrArg Prod.snd ha
    obtain ⟨i1, i2, i3⟩ := top_le hb
    obtain ⟨t1, t2, t3⟩ := top_best g nat p.2 e.2.1
    have es : sm (e :: t) = (if e.2.1 = true then am g nat p.2 else 0) + sm t := by
      show ((if e.2.1 = true then e.2.2 else 0) :: (t.map fun e => if e.2.1 = true then e.2.2 else 0)).sum = _
      rw [List.sum_cons, h2]; rfl
    have et : topW g nat (p :: w) = top g nat p.2 + topW g nat w := by
      show ((top g nat p.2) :: (w.map fun p => top g nat p.2)).sum = _
      rw [List.sum_cons]; rfl
    rw [es, et]
    refine ⟨better_plus t1 i1, fun hc => ?_, fun hc => ?_⟩
    · obtain ⟨c1, c2, c3⟩ := hc
      rw [t2 c2, i2 c3]
    · intro e1
      cases hb2 : inM g nat p.2 e.2.1 with
      | true =>
        have hn : ¬ Comp g nat w (wd t) := fun z => hc ⟨h1.symm, hb2, z⟩
        have := i3 hn
        rw [t2 hb2] at e1
        omega
      | false =>
        have := t3 hb2
        cases g
        · have t1 : top false nat p.2 ≤ (if e.2.1 = true then am false nat p.2 else 0) := t1
          have i1 : topW false nat w ≤ sm t := i1
          omega
        · have t1 : (if e.2.1 = true then am true nat p.2 else 0) ≤ top true nat p.2 := t1
          have i1 : sm t ≤ topW true nat w := i1
          omega
/-- the events with the marks of w' -/
theorem comp_tri {g nat : Bool} : ∀ {w w' : Word K}, Comp g nat w w' → ∃ t : Tri K, lg t = shown g nat w ∧ wd t = w'
  | [], [], _ => ⟨[], rfl, rfl⟩
  | [], _ :: _, h => h.elim
  | _ :: _, [], h => h.elim
  | p :: w, q :: w', ⟨h1, _, h3⟩ => by
    obtain ⟨t, e1, e2⟩ := comp_tri h3
    refine ⟨(p.1, q.2, am g nat p.2) :: t, ?_, ?_⟩
    · show (p.1, am g nat p.2) :: lg t = (p.1, am g nat p.2) :: shown g nat w
      rw [e1]
    · show (p.1, q.2) :: wd t = q :: w'
      rw [e2, h1]
/-- u accepts the marks and v does not: u's result on the log is better than v's -/
theorem no_core {u v : Stt K} {g nat : Bool} (hu : u.side = g) (hv : v.side = g) {w : Word K} (h1 : u.accW nat w = true) (h2 : v.accW nat w = false) :
    ∃ x, u.res (shown g nat w) = some x ∧ (v.res (shown g nat w) = none ∨ ∃ y, v.res (shown g nat w) = some y ∧ better g x y ∧ y ≠ x) := by
  obtain ⟨w', c, a1⟩ := (accW_nat u nat w).mp h1
  rw [hu] at c
  obtain ⟨t, e1, e2⟩ := comp_tri c
  rw [← e2] at a1 c
  obtain ⟨x, hx, bx⟩ := res_best u a1
  rw [e1] at hx
  rw [hu, ((top_le e1).2.1 c)] at bx
  refine ⟨x, hx, ?_⟩
  cases ey : v.res (shown g nat w) with
  | none => exact .inl rfl
  | some y =>
    obtain ⟨t', e3, a2, e4⟩ := res_there v ey
    have hn : ¬ Comp g nat w (wd t') := fun z => by
      have := (accW_nat v nat w).mpr ⟨wd t', by rw [hv]; exact z, a2⟩
      rw [h2] at this; cases this
    obtain ⟨b1, _, b3⟩ := top_le e3
    have b3 := b3 hn
    rw [e4] at b1 b3
    refine .inr ⟨y, rfl, better_trans bx b1, fun z => ?_⟩
    rw [z] at b1 b3
    exact b3 (better_anti bx b1)
theorem no_above {a b : Stt K} {nat : Bool} (hs : a.side = b.side) {w : Word K} (h1 : (if a.side = true then a else b).accW nat w = true) (h2 : (if a.side = true then b else a).accW nat w = false) :
    abv a.side (a.res (shown a.side nat w)) (b.res (shown a.side nat w)) = true := by
  cases g : a.side with
  | true =>
    rw [g] at h1 h2
    obtain ⟨x, e1, e2⟩ := no_core g (hs.symm.trans g) h1 h2
    rw [e1]
    rcases e2 with e2 | ⟨y, e2, h3, h4⟩
    · rw [e2]; rfl
    · rw [e2]
      have h3 : y ≤ x := h3
      exact decide_eq_true (by omega)
  | false =>
    rw [g] at h1 h2
    obtain ⟨x, e1, e2⟩ := no_core (hs.symm.trans g) g h1 h2
    rw [e1]
    rcases e2 with e2 | ⟨y, e2, h3, h4⟩
    · rw [e2]; rfl
    · rw [e2]
      have h3 : x ≤ y := h3
      exact decide_eq_true (by omega)
theorem no_equal {a b : Stt K} {nat : Bool} (hs : a.side = b.side) {w : Word K} (h : a.accW nat w ≠ b.accW nat w) : a.res (shown a.side nat w) ≠ b.res (shown a.side nat w) := by
  cases ha : a.accW nat w with
  | true =>
    have hb : b.accW nat w = false := by
      cases e : b.accW nat w with
      | false => rfl
      | true => rw [ha, e] at h; exact absurd rfl h
    obtain ⟨x, e1, e2⟩ := no_core (u := a) (v := b) rfl hs.symm ha hb
    intro z
    rcases e2 with e2 | ⟨y, e2, h3, h4⟩
    · rw [e1, e2] at z; cases z
    · rw [e1, e2] at z; exact h4 (Option.some.inj z).symm
  | false =>
    have hb : b.accW nat w = true := by
      cases e : b.accW nat w with
      | true => rfl
      | false => rw [ha, e] at h; exact absurd rfl h
    obtain ⟨x, e1, e2⟩ := no_core (u := b) (v := a) hs.symm rfl hb ha
    intro z
    rcases e2 with e2 | ⟨y, e2, h3, h4⟩
    · rw [e1, e2] at z; cases z
    · rw [e1, e2] at z; exact h4 (Option.some.inj z)
theorem am_nat (g m : Bool) : 0 ≤ am g true m := by cases g <;> cases m <;> decide
end
end TPk
end M1_text

section M2_text
set_option Elab.async false
set_option linter.all false
/-! The search for a shortest parting word, and its bound. -/
namespace TPk

/-! ### the search, abstractly -/
structure Ent (S L : Type) where
  st : S
  par : Option (S × L)
  dp : Nat
section
variable {S L : Type}
def runW (step : S → L → S) (x : S) (w : List L) : S := w.foldl step x
structure BI (step : S → L → S) (ls : List L) (goal : S → Bool) (s0 : S) (bs : List (Ent S L)) (n i : Nat) : Prop where
  nd : (bs.map Ent.st).Nodup
  h0 : ∃ e : Ent S L, bs[0]? = some e ∧ e.st = s0 ∧ e.par = none ∧ e.dp = 0
  par : ∀ (j : Nat) (e : Ent S L), 0 < j → bs[j]? = some e → ∃ (k : Nat) (f : Ent S L) (l : L), k < j ∧ bs[k]? = some f ∧ e.par = some (f.st, l) ∧ l ∈ ls ∧ step f.st l = e.st ∧ e.dp = f.dp + 1
  mono : ∀ (j k : Nat) (e f : Ent S L), j ≤ k → bs[j]? = some e → bs[k]? = some f → e.dp ≤ f.dp
  near : ∀ (c : Ent S L) (k : Nat) (e : Ent S L), bs[n]? = some c → bs[k]? = some e → e.dp ≤ c.dp + 1
  done : ∀ (j : Nat) (e : Ent S L), j < n → bs[j]? = some e → goal e.st = false ∧ ∀ l ∈ ls, ∃ (k : Nat) (f : Ent S L), bs[k]? = some f ∧ f.st = step e.st l ∧ f.dp ≤ e.dp + 1
  part : ∀ c : Ent S L, bs[n]? = some c → ∀ l ∈ ls.take i, ∃ (k : Nat) (f : Ent S L), bs[k]? = some f ∧ f.st = step c.st l ∧ f.dp ≤ c.dp + 1
variable {step : S → L → S} {ls : List L} {goal : S → Bool} {s0 : S} {bs : List (Ent S L)} {n i : Nat}
theorem bi_start : BI step ls goal s0 [⟨s0, none, 0⟩] 0 0 where
  nd := by simp
  h0 := ⟨_, rfl, rfl, rfl, rfl⟩
  par := fun j e h h2 => by
    cases j with
    | zero => omega
    | succ j => simp at h2
  mono := fun j k e f h h1 h2 => by
    cases k with
    | zero =>
      have : j = 0 := by omega
      subst this
      rw [h1] at h2; cases h2; exact Nat.le_refl _
    | succ k => simp at h2
  near := fun c k e h1 h2 => by
    cases k with
    | zero => rw [h1] at h2; cases h2; omega
    | succ k => simp at h2
  done := fun j e h _ => absurd h (Nat.not_lt_zero j)
  part := fun c _ l h => by simp at h
theorem take_succ_mem {l : L} {x : L} (h : ls[i]? = some x) (hl : l ∈ ls.take (i + 1)) : l ∈ ls.take i ∨ l = x := by
  rw [List.take_add_one, h] at hl
  rcases List.mem_append.mp hl with h | h
  · exact .inl h
  · exact .inr (by simpa using h)
theorem bi_seen {l : L} {c : Ent S L} (B : BI step ls goal s0 bs n i) (hl : ls[i]? = some l) (hc : bs[n]? = some c) (hs : step c.st l ∈ bs.map Ent.st) : BI step ls goal s0 bs n (i + 1) :=
  { B with
    part := fun c' hc' l' hl' => by
      rw [hc] at hc'; cases hc'
      rcases take_succ_mem hl hl' with h | rfl
      · exact B.part c hc l' h
      · obtain ⟨f, hf, e⟩ := List.mem_map.mp hs
        obtain ⟨k, hk⟩ := List.getElem?_of_mem hf
        exact ⟨k, f, hk, e, B.near c k f hc hk⟩ }
theorem get_snoc {x : Ent S L} {j : Nat} {e : Ent S L} (h : (bs ++ [x])[j]? = some e) : bs[j]? = some e ∨ (j = bs.length ∧ e = x) := by
  by_cases hj : j < bs.length
  · rw [List.getElem?_append_left hj] at h; exact .inl h
  · rw [List.getElem?_append_right (by omega)] at h
    cases q : j - bs.length with
    | zero => rw [q] at h; exact .inr ⟨by omega, (Option.some.inj h).symm⟩
    | succ m => rw [q] at h; simp at h
theorem get_left {x : Ent S L} {j : Nat} {e : Ent S L} (h : bs[j]? = some e) : (bs ++ [x])[j]? = some e := by
  have hj : j < bs.length := (List.getElem?_eq_some_iff.mp h).1
  rw [List.getElem?_append_left hj]; exact h
theorem bi_new {l : L} {c : Ent S L} (B : BI step ls goal s0 bs n i) (hl : ls[i]? = some l) (hc : bs[n]? = some c) (hs : step c.st l ∉ bs.map Ent.st) :
    BI step ls goal s0 (bs ++ [⟨step c.st l, some (c.st, l), c.dp + 1⟩]) n (i + 1) := by
  have hn : n < bs.length := (List.getElem?_eq_some_iff.mp hc).1
  have hx : (bs ++ [(⟨step c.st l, some (c.st, l), c.dp + 1⟩ : Ent S L)])[bs.length]? = some ⟨step c.st l, some (c.st, l), c.dp + 1⟩ := by
    rw [List.getElem?_append_right (Nat.le_refl _)]; simp
  refine ⟨?_, ?_, fun j e hj he => ?_, fun j k e f hjk he hf => ?_, fun c' k e hc' he => ?_, fun j e hj he => ?_, fun c' hc' l' hl' => ?_⟩
  · rw [List.map_append, List.nodup_append]
    refine ⟨B.nd, by simp, fun a ha b hb e => ?_⟩
    have hb : b = step c.st l := by simpa using hb
    rw [e, hb] at ha
    exact hs ha
  · obtain ⟨e, h1, h2⟩ := B.h0
    exact ⟨e, get_left h1, h2⟩
  · rcases get_snoc he with h | ⟨h1, h2⟩
    · obtain ⟨k, f, l', h1, h2, h3⟩ := B.par j e hj h
      exact ⟨k, f, l', h1, get_left h2, h3⟩
    · subst h2
      exact ⟨n, c, l, by omega, get_left hc, rfl, List.mem_of_getElem? hl, rfl, rfl⟩
  · rcases get_snoc he with h | ⟨h1, h2⟩
    · rcases get_snoc hf with g | ⟨g1, g2⟩
      · exact B.mono j k e f hjk h g
      · subst g2; exact B.near c j e hc h
    · rcases get_snoc hf with g | ⟨g1, g2⟩
      · have := (List.getElem?_eq_some_iff.mp g).1
        omega
      · subst h2 g2; exact Nat.le_refl _
  · rw [get_left hc] at hc'
    cases hc'
    rcases get_snoc he with h | ⟨h1, h2⟩
    · exact B.near c k e hc h
    · subst h2; exact Nat.le_refl _
  · have hj2 : bs[j]? = some e := by
      rcases get_snoc he with h | ⟨h1, h2⟩
      · exact h
      · omega
    obtain ⟨h1, h2⟩ := B.done j e hj hj2
    refine ⟨h1, fun l' hl' => ?_⟩
    obtain ⟨k, f, g1, g2⟩ := h2 l' hl'
    exact ⟨k, f, get_left g1, g2⟩
  · rw [get_left hc] at hc'
    cases hc'
    rcases take_succ_mem hl hl' with h | rfl
    · obtain ⟨k, f, g1, g2⟩ := B.part c hc l' h
      exact ⟨k, f, get_left g1, g2⟩
    · exact ⟨bs.length, _, hx, rfl, Nat.le_refl _⟩
theorem bi_next {c : Ent S L} (B : BI step ls goal s0 bs n ls.length) (hc : bs[n]? = some c) (hg : goal c.st = false) : BI step ls goal s0 bs (n + 1) 0 where
  nd := B.nd
  h0 := B.h0
  par := B.par
  mono := B.mono
  near := fun c' k e h1 h2 => by
    have a := B.near c k e hc h2
    have b := B.mono n (n + 1) c c' (by omega) hc h1
    omega
  done := fun j e hj he => by
    by_cases h : j < n
    · exact B.done j e h he
    · have : j = n := by omega
      subst this
      rw [hc] at he; cases he
      exact ⟨hg, fun l hl => B.part c hc l (by rw [List.take_length]; exact hl)⟩
  part := fun c' _ l h => by simp at h
theorem bi_reach (B : BI step ls goal s0 bs n 0) : ∀ w : List L, (∀ l ∈ w, l ∈ ls) → (∃ (k : Nat) (f : Ent S L), bs[k]? = some f ∧ f.st = runW step s0 w ∧ f.dp ≤ w.length) ∨ ∃ (k : Nat) (f : Ent S L), n ≤ k ∧ bs[k]? = some f ∧ f.dp ≤ w.length := by
  refine snoc_ind ?_ ?_
  · intro _
    obtain ⟨e, h1, h2, h3, h4⟩ := B.h0
    exact .inl ⟨0, e, h1, h2, by rw [h4]; exact Nat.zero_le _⟩
  · intro w l ih hw
    have hl : l ∈ ls := hw l (by simp)
    rw [List.length_append, List.length_singleton]
    rcases ih (fun x hx => hw x (List.mem_append_left _ hx)) with ⟨k, f, h1, h2, h3⟩ | ⟨k, f, h1, h2, h3⟩
    · by_cases hk : k < n
      · obtain ⟨_, hd⟩ := B.done k f hk h1
        obtain ⟨j, g, g1, g2, g3⟩ := hd l hl
        refine .inl ⟨j, g, g1, ?_, by omega⟩
        rw [g2, h2]; unfold runW; rw [List.foldl_append]; rfl
      · exact .inr ⟨k, f, by omega, h1, by omega⟩
    · exact .inr ⟨k, f, h1, h2, by omega⟩
theorem bi_end (B : BI step ls goal s0 bs bs.length 0) (w : List L) (hw : ∀ l ∈ w, l ∈ ls) : goal (runW step s0 w) = false := by
  rcases bi_reach B w hw with ⟨k, f, h1, h2, h3⟩ | ⟨k, f, h1, h2, h3⟩
  · have hk : k < bs.length := (List.getElem?_eq_some_iff.mp h1).1
    rw [← h2]
    exact (B.done k f hk h1).1
  · have hk : k < bs.length := (List.getElem?_eq_some_iff.mp h2).1
    omega
theorem bi_hit {c : Ent S L} (B : BI step ls goal s0 bs n 0) (hc : bs[n]? = some c) (w : List L) (hw : ∀ l ∈ w, l ∈ ls) (hg : goal (runW step s0 w) = true) : c.dp ≤ w.length := by
  rcases bi_reach B w hw with ⟨k, f, h1, h2, h3⟩ | ⟨k, f, h1, h2, h3⟩
  · by_cases hk : k < n
    · have := (B.done k f hk h1).1
      rw [h2, hg] at this; cases this
    · have := B.mono n k c f (by omega) hc h1
      omega
  · have := B.mono n k c f h1 hc h2
    omega
/-- the way back: from the entry e on, by the letters found (the last first), to c -/
def Back (step : S → L → S) (ls : List L) (bs : List (Ent S L)) (c e : Ent S L) (fs : List L) : Prop :=
  (∃ j : Nat, bs[j]? = some e) ∧ runW step e.st fs.reverse = c.st ∧ e.dp + fs.length = c.dp ∧ ∀ l ∈ fs, l ∈ ls
theorem back_start {c : Ent S L} {j : Nat} (hc : bs[j]? = some c) : Back step ls bs c c [] := ⟨⟨j, hc⟩, rfl, rfl, fun _ h => nomatch h⟩
theorem back_step {c e : Ent S L} {fs : List L} {y : S} {l : L} (B : BI step ls goal s0 bs n i) (h : Back step ls bs c e fs) (hp : e.par = some (y, l)) :
    ∃ f : Ent S L, f.st = y ∧ Back step ls bs c f (fs ++ [l]) ∧ f.dp < e.dp := by
  obtain ⟨⟨j, hj⟩, h1, h2, h3⟩ := h
  have h0 : 0 < j := by
    cases j with
    | zero =>
      obtain ⟨e', q1, q2, q3, q4⟩ := B.h0
      rw [hj] at q1; cases q1
      rw [hp] at q3; cases q3
    | succ j => omega
  obtain ⟨k, f, l', k1, k2, k3, k4, k5, k6⟩ := B.par j e h0 hj
  rw [hp] at k3
  injection k3 with k3
  injection k3 with k3 k7
  subst k3 k7
  refine ⟨f, rfl, ⟨⟨k, k2⟩, ?_, ?_, fun x hx => ?_⟩, by omega⟩
  · rw [List.reverse_append]
    show runW step (step f.st l) fs.reverse = c.st
    rw [k5]; exact h1
  · rw [List.length_append, List.length_singleton]; omega
  · rcases List.mem_append.mp hx with hx | hx
    · exact h3 x hx
    · have : x = l := by simpa using hx
      rw [this]; exact k4
theorem back_end {c e : Ent S L} {fs : List L} (B : BI step ls goal s0 bs n i) (h : Back step ls bs c e fs) (hp : e.par = none) :
    runW step s0 fs.reverse = c.st ∧ fs.reverse.length = c.dp ∧ ∀ l ∈ fs.reverse, l ∈ ls := by
  obtain ⟨⟨j, hj⟩, h1, h2, h3⟩ := h
  have h0 : j = 0 := by
    cases j with
    | zero => rfl
    | succ j =>
      obtain ⟨k, f, l', k1, k2, k3, k4, k5, k6⟩ := B.par (j + 1) e (by omega) hj
      rw [hp] at k3; cases k3
  subst h0
  obtain ⟨e', q1, q2, q3, q4⟩ := B.h0
  rw [hj] at q1; cases q1
  rw [q2] at h1
  refine ⟨h1, by rw [List.length_reverse]; omega, fun l hl => h3 l (List.mem_reverse.mp hl)⟩
end

/-! ### how many there are -/
theorem nodup_bound : ∀ (N : Nat) (l : List Nat), l.Nodup → (∀ x ∈ l, x < N) → l.length ≤ N := by
  intro N
  induction N with
  | zero =>
    intro l _ h
    cases l with
    | nil => exact Nat.le_refl _
    | cons x _ => exact absurd (h x List.mem_cons_self) (Nat.not_lt_zero x)
  | succ N ih =>
    intro l hn h
    by_cases hm : N ∈ l
    · obtain ⟨a, b, e⟩ := List.append_of_mem hm
      subst e
      have hn2 : (a ++ b).Nodup := by
        rw [List.nodup_append] at hn ⊢
        obtain ⟨h1, h2, h3⟩ := hn
        exact ⟨h1, (List.nodup_cons.mp h2).2, fun x hx y hy => h3 x hx y (List.mem_cons_of_mem _ hy)⟩
      have hno : N ∉ a ++ b := by
        rw [List.nodup_append] at hn
        obtain ⟨h1, h2, h3⟩ := hn
        intro z
        rcases List.mem_append.mp z with z | z
        · exact h3 N z N List.mem_cons_self rfl
        · exact (List.nodup_cons.mp h2).1 z
      have := ih (a ++ b) hn2 fun x hx => by
        have h1 : x < N + 1 := h x (by
          rcases List.mem_append.mp hx with z | z
          · exact List.mem_append_left _ z
          · exact List.mem_append_right _ (List.mem_cons_of_mem _ z))
        have h2 : x ≠ N := fun z => hno (z ▸ hx)
        omega
      rw [List.length_append] at this ⊢
      rw [List.length_cons]
      omega
    · have := ih l hn fun x hx => by
        have h1 := h x hx
        have h2 : x ≠ N := fun z => hm (z ▸ hx)
        omega
      omega
/-- a long list of small numbers holds one twice -/
theorem twice {N : Nat} {l : List Nat} (h : ∀ x ∈ l, x < N) (hl : N < l.length) : ∃ i j : Nat, i < j ∧ j < l.length ∧ l[i]? = l[j]? := by
  by_cases hn : l.Nodup
  · have := nodup_bound N l hn h
    omega
  · rw [List.nodup_iff_pairwise_ne, List.pairwise_iff_getElem] at hn
    have : ¬ ∀ (i j : Nat) (hi : i < l.length) (hj : j < l.length), i < j → l[i] ≠ l[j] := hn
    by_cases hx : ∃ i j : Nat, i < j ∧ j < l.length ∧ l[i]? = l[j]?
    · exact hx
    · refine absurd (fun i j hi hj hij e => hx ⟨i, j, hij, hj, ?_⟩) this
      rw [List.getElem?_eq_getElem hi, List.getElem?_eq_getElem hj, e]

/-! ### shortest ways through a finite graph -/
section
variable {S L : Type}
/-- a way by letters w through the states xs (one more) -/
def Way (step : S → L → S → Prop) : S → List L → S → Prop
  | x, [], y => x = y
  | x, l :: w, y => ∃ z, step x l z ∧ Way step z w y
theorem way_app {step : S → L → S → Prop} : ∀ {x y z : S} {w v : List L}, Way step x w y → Way step y v z → Way step x (w ++ v) z
  | _, _, _, [], _, h, h2 => by cases h; exact h2
  | _, _, _, _ :: _, _, ⟨u, h1, h2⟩, h3 => ⟨u, h1, way_app h2 h3⟩
theorem way_split {step : S → L → S → Prop} : ∀ {x z : S} {w v : List L}, Way step x (w ++ v) z → ∃ y, Way step x w y ∧ Way step y v z
  | x, _, [], _, h => ⟨x, rfl, h⟩
  | _, _, _ :: _, _, ⟨u, h1, h2⟩ => by
    obtain ⟨y, h3, h4⟩ := way_split h2
    exact ⟨y, ⟨u, h1, h3⟩, h4⟩
/-- the states that a way goes through -/
theorem way_states {step : S → L → S → Prop} : ∀ {x y : S} {w : List L}, Way step x w y → ∃ xs : List S, xs.length = w.length + 1 ∧ ∀ (i : Nat) (z : S), xs[i]? = some z → Way step x (w.take i) z ∧ Way step z (w.drop i) y
  | x, y, [], h => ⟨[x], rfl, fun i z hz => by
      cases i with
      | zero =>
        have e : x = z := Option.some.inj hz
        subst e
        exact ⟨rfl, h⟩
      | succ i => simp at hz⟩
  | x, y, l :: w, ⟨u, h1, h2⟩ => by
    obtain ⟨xs, e, h⟩ := way_states h2
    refine ⟨x :: xs, by rw [List.length_cons, e]; rfl, fun i z hz => ?_⟩
    cases i with
    | zero =>
      have e : x = z := Option.some.inj hz
      subst e
      exact ⟨rfl, u, h1, h2⟩
    | succ i =>
      obtain ⟨a, b⟩ := h i z (by simpa using hz)
      exact ⟨⟨u, h1, a⟩, b⟩
/-- a way can be cut to fewer letters than there are states -/
theorem way_short {step : S → L → S → Prop} {code : S → Nat} {N : Nat} {x : S} {G : S → Prop} (hN : ∀ w z, Way step x w z → code z < N) (inj : ∀ w v y z, Way step x w y → Way step x v z → code y = code z → y = z) :
    ∀ (m : Nat) (w : List L) (y : S), w.length ≤ m → Way step x w y → G y → ∃ w', Way step x w' y ∧ w'.length < N ∧ ∀ l ∈ w', l ∈ w := by
  intro m
  induction m with
  | zero =>
    intro w y h hw hg
    have : w = [] := by cases w with | nil => rfl | cons _ _ => simp at h
    subst this
    exact ⟨[], hw, Nat.lt_of_le_of_lt (Nat.zero_le _) (hN [] x rfl), fun _ z => z⟩
  | succ m ih =>
    intro w y h hw hg
    by_cases hl : w.length < N
    · exact ⟨w, hw, hl, fun _ z => z⟩
    · obtain ⟨xs, e, hx⟩ := way_states hw
      obtain ⟨i, j, hij, hj, hij2⟩ := twice (N := N) (l := xs.map code) (fun c hc => by
        obtain ⟨z, hz, rfl⟩ := List.mem_map.mp hc
        obtain ⟨k, hk⟩ := List.getElem?_of_mem hz
        exact hN _ _ (hx k z hk).1) (by rw [List.length_map]; omega)
      rw [List.length_map] at hj
      rw [List.getElem?_map, List.getElem?_map, List.getElem?_eq_getElem (by omega : i < xs.length), List.getElem?_eq_getElem hj] at hij2
      have hc : code xs[i] = code xs[j] := Option.some.inj hij2
      obtain ⟨a1, a2⟩ := hx i _ (List.getElem?_eq_getElem (by omega : i < xs.length))
      obtain ⟨b1, b2⟩ := hx j _ (List.getElem?_eq_getElem hj)
      have he := inj _ _ _ _ a1 b1 hc
      rw [he] at a1
      have hw2 := way_app a1 b2
      obtain ⟨w', g1, g2, g3⟩ := ih (w.take i ++ w.drop j) y (by rw [List.length_append, List.length_take, List.length_drop]; omega) hw2 hg
      refine ⟨w', g1, g2, fun l hl => ?_⟩
      rcases List.mem_append.mp (g3 l hl) with z | z
      · exact List.mem_of_mem_take z
      · exact List.mem_of_mem_drop z
end

/-! ### sets of nodes by numbers below 128 -/
theorem asc_eq : ∀ {a b : List Nat}, a.Pairwise (· < ·) → b.Pairwise (· < ·) → (∀ x, x ∈ a ↔ x ∈ b) → a = b
  | [], [], _, _, _ => rfl
  | [], y :: _, _, _, h => absurd ((h y).mpr List.mem_cons_self) (by simp)
  | x :: _, [], _, _, h => absurd ((h x).mp List.mem_cons_self) (by simp)
  | x :: a, y :: b, ha, hb, h => by
    obtain ⟨h1, h2⟩ := List.pairwise_cons.mp ha
    obtain ⟨h3, h4⟩ := List.pairwise_cons.mp hb
    have hxy : x = y := by
      rcases List.mem_cons.mp ((h x).mp List.mem_cons_self) with e | e
      · exact e
      · rcases List.mem_cons.mp ((h y).mpr List.mem_cons_self) with e2 | e2
        · exact e2.symm
        · have := h3 x e
          have := h1 y e2
          omega
    subst hxy
    congr 1
    refine asc_eq h2 h4 fun z => ⟨fun hz => ?_, fun hz => ?_⟩
    · rcases List.mem_cons.mp ((h z).mp (List.mem_cons_of_mem _ hz)) with e | e
      · have := h1 z hz
        omega
      · exact e
    · rcases List.mem_cons.mp ((h z).mpr (List.mem_cons_of_mem _ hz)) with e | e
      · have := h3 z hz
        omega
      · exact e
def maskB : List Bool → Nat
  | [] => 0
  | b :: bs => (if b = true then 1 else 0) + 2 * maskB bs
theorem maskB_lt : ∀ l : List Bool, maskB l < 2 ^ l.length
  | [] => by decide
  | b :: bs => by
    have := maskB_lt bs
    rw [List.length_cons, Nat.pow_succ]
    unfold maskB
    split <;> omega
theorem maskB_inj : ∀ {a b : List Bool}, a.length = b.length → maskB a = maskB b → a = b
  | [], [], _, _ => rfl
  | [], _ :: _, h, _ => by simp at h
  | _ :: _, [], h, _ => by simp at h
  | x :: a, y :: b, h, e => by
    unfold maskB at e
    have hl : a.length = b.length := by simpa using h
    cases x <;> cases y
    · have := maskB_inj hl (by simp at e; omega); rw [this]
    · simp at e; omega
    · simp at e; omega
    · have := maskB_inj hl (by simp at e; omega); rw [this]
def mask (S : List Nat) : Nat := maskB ((List.range 7).map fun x => decide (x ∈ S))
theorem mask_lt (S : List Nat) : mask S < 128 := by
  have := maskB_lt ((List.range 7).map fun x => decide (x ∈ S))
  rw [List.length_map, List.length_range] at this
  exact this
/-- an ascending set of nodes below 7 -/
def SetOk (S : List Nat) : Prop := S.Pairwise (· < ·) ∧ ∀ x ∈ S, x < 7
theorem mask_inj {S T : List Nat} (hS : SetOk S) (hT : SetOk T) (h : mask S = mask T) : S = T := by
  have e := maskB_inj (by rw [List.length_map, List.length_map]) h
  refine asc_eq hS.1 hT.1 fun x => ?_
  have hx : ∀ x, x < 7 → (x ∈ S ↔ x ∈ T) := fun x hx => by
    have e2 := congrArg (fun l : List Bool => l[x]?) e
    simp only [List.getElem?_map, List.getElem?_range hx] at e2
    have e3 : decide (x ∈ S) = decide (x ∈ T) := Option.some.inj e2
    constructor
    · intro z; rw [decide_eq_true z] at e3; exact of_decide_eq_true e3.symm
    · intro z; rw [decide_eq_true z] at e3; exact of_decide_eq_true e3
  exact ⟨fun z => (hx x (hS.2 x z)).mp z, fun z => (hx x (hT.2 x z)).mpr z⟩
theorem asc_range_filter (p : Nat → Bool) (m : Nat) : ((List.range m).filter p).Pairwise (· < ·) := List.Pairwise.filter _ List.pairwise_lt_range
theorem setOk_of {c : Prop} [Decidable c] {p : Nat → Bool} {m : Nat} (hm : m ≤ 6) : SetOk ((if c then [0] else []) ++ ((List.range m).filter p).map (· + 1)) := by
  constructor
  · rw [List.pairwise_append]
    refine ⟨by split <;> simp, ?_, ?_⟩
    · rw [List.pairwise_map]
      exact List.Pairwise.imp (fun h => Nat.succ_lt_succ h) (asc_range_filter p m)
    · intro a ha b hb
      have ha : a = 0 := by split at ha <;> simp_all
      obtain ⟨j, _, rfl⟩ := List.mem_map.mp hb
      omega
  · intro x hx
    rcases List.mem_append.mp hx with h | h
    · have : x = 0 := by split at h <;> simp_all
      omega
    · obtain ⟨j, hj, rfl⟩ := List.mem_map.mp h
      have := List.mem_range.mp (List.mem_filter.mp hj).1
      omega

/-! ### the parting search of two statistics -/
section
variable {K : Type} [DecidableEq K]
/-- at most six registers -/
structure Stt.Six (s : Stt K) : Prop where
  st : s.start.length ≤ 6
  ru : ∀ r ∈ s.rules, r.length ≤ 6
theorem Stt.Six.rule {s : Stt K} (h : s.Six) (k : K) : (s.rule k).length ≤ 6 := by
  unfold Stt.rule
  rw [List.getD_eq_getElem?_getD]
  cases e : s.rules[pos s.kinds k]? with
  | none => exact Nat.zero_le _
  | some r => exact h.ru r (List.mem_of_getElem? e)
theorem Stt.Six.mv {s : Stt K} (h : s.Six) (nat : Bool) (S : List Nat) (k : K) (m : Bool) : SetOk (s.mv nat S k m) := setOk_of (h.rule k)
theorem Stt.Six.st0 {s : Stt K} (h : s.Six) : SetOk s.st0 := by
  have := setOk_of (c := True) (p := fun j => s.start.getD j false) h.st
  rw [if_pos True.intro] at this
  exact this
theorem Stt.Six.run {s : Stt K} (h : s.Six) (nat : Bool) : ∀ w : Word K, SetOk (s.run nat s.st0 w) := by
  refine snoc_ind h.st0 fun w p ih => ?_
  rw [run_snoc]; exact h.mv nat _ _ _
abbrev Pr := List Nat × List Nat
def stepP (a b : Stt K) (nat : Bool) (p : Pr) (l : K × Bool) : Pr := (a.mv nat p.1 l.1 l.2, b.mv nat p.2 l.1 l.2)
def goalP (a b : Stt K) (half : Bool) (p : Pr) : Bool := (a.acc p.1 && !b.acc p.2) || (b.acc p.2 && (!a.acc p.1 && !half))
def letters (ks : List K) : List (K × Bool) := ks.flatMap fun k => [(k, false), (k, true)]
theorem mem_letters {ks : List K} {p : K × Bool} : p ∈ letters ks ↔ p.1 ∈ ks := by
  unfold letters
  rw [List.mem_flatMap]
  constructor
  · rintro ⟨k, hk, h⟩
    rcases List.mem_cons.mp h with h | h
    · rw [h]; exact hk
    · have h : p = (k, true) := by simpa using h
      rw [h]; exact hk
  · intro h
    refine ⟨p.1, h, ?_⟩
    obtain ⟨k, b⟩ := p
    cases b <;> simp
theorem runP (a b : Stt K) (nat : Bool) : ∀ (w : Word K) (S T : List Nat), runW (stepP a b nat) (S, T) w = (a.run nat S w, b.run nat T w)
  | [], _, _ => rfl
  | l :: w, S, T => by
    show runW (stepP a b nat) (a.mv nat S l.1 l.2, b.mv nat T l.1 l.2) w = _
    rw [runP a b nat w]; rfl
def codeP (p : Pr) : Nat := mask p.1 * 128 + mask p.2
theorem codeP_lt (p : Pr) : codeP p < 16384 := by
  have := mask_lt p.1
  have := mask_lt p.2
  unfold codeP; omega
theorem codeP_inj {p q : Pr} (h1 : SetOk p.1) (h2 : SetOk p.2) (h3 : SetOk q.1) (h4 : SetOk q.2) (h : codeP p = codeP q) : p = q := by
  have a1 := mask_lt p.1
  have a2 := mask_lt p.2
  have a3 := mask_lt q.1
  have a4 := mask_lt q.2
  unfold codeP at h
  have e1 : mask p.1 = mask q.1 := by omega
  have e2 : mask p.2 = mask q.2 := by omega
  exact Prod.ext (mask_inj h1 h3 e1) (mask_inj h2 h4 e2)
/-- no more pairs than there are -/
theorem pairs_bound {ps : List Pr} (hn : ps.Nodup) (h : ∀ p ∈ ps, SetOk p.1 ∧ SetOk p.2) : ps.length ≤ 16384 := by
  have hc : (ps.map codeP).Nodup := by
    rw [List.nodup_iff_pairwise_ne, List.pairwise_map]
    rw [List.nodup_iff_pairwise_ne] at hn
    refine List.Pairwise.imp_of_mem ?_ hn
    intro p q hp hq hne e
    exact hne (codeP_inj (h p hp).1 (h p hp).2 (h q hq).1 (h q hq).2 e)
  have := nodup_bound 16384 (ps.map codeP) hc fun x hx => by
    obtain ⟨p, _, rfl⟩ := List.mem_map.mp hx
    exact codeP_lt p
  rwa [List.length_map] at this

/-! ### 895: a way of the one, the sets of the other -/
/-- nodes of a with sets of b -/
def stepN (a b : Stt K) (nat : Bool) (x : Nat × List Nat) (l : K × Bool) (y : Nat × List Nat) : Prop := y.1 ∈ a.mv nat [x.1] l.1 l.2 ∧ y.2 = b.mv nat x.2 l.1 l.2
theorem mv_one {a : Stt K} {nat : Bool} {S : List Nat} {k : K} {m : Bool} {y : Nat} : y ∈ a.mv nat S k m ↔ ∃ x ∈ S, y ∈ a.mv nat [x] k m := by
  constructor
  · intro h
    rcases mem_mv.mp h with ⟨rfl, h1, h2⟩ | ⟨j, ts, rfl, hj, c, hc, h1, h2⟩
    · exact ⟨0, h1, mem_mv.mpr (.inl ⟨rfl, by simp, h2⟩)⟩
    · exact ⟨src c, h2, mem_mv.mpr (.inr ⟨j, ts, rfl, hj, c, hc, h1, by simp⟩)⟩
  · rintro ⟨x, hx, h⟩
    rcases mem_mv.mp h with ⟨rfl, h1, h2⟩ | ⟨j, ts, rfl, hj, c, hc, h1, h2⟩
    · have : 0 = x := by simpa using h1
      subst this
      exact mem_mv.mpr (.inl ⟨rfl, hx, h2⟩)
    · have : src c = x := by simpa using h2
      subst this
      exact mem_mv.mpr (.inr ⟨j, ts, rfl, hj, c, hc, h1, hx⟩)
theorem wayN {a b : Stt K} {nat : Bool} : ∀ {w : Word K} {S T : List Nat} {y : Nat}, y ∈ a.run nat S w ↔ ∃ x ∈ S, Way (stepN a b nat) (x, T) w (y, b.run nat T w) := by
  intro w
  induction w with
  | nil =>
    intro S T y
    constructor
    · intro h; exact ⟨y, h, rfl⟩
    · rintro ⟨x, hx, h⟩
      have h : (x, T) = (y, T) := h
      injection h with h _
      rw [← h]; exact hx
  | cons l w ih =>
    intro S T y
    show y ∈ a.run nat (a.mv nat S l.1 l.2) w ↔ _
    rw [ih (S := a.mv nat S l.1 l.2) (T := b.mv nat T l.1 l.2)]
    constructor
    · rintro ⟨z, hz, h⟩
      obtain ⟨x, hx, h2⟩ := mv_one.mp hz
      exact ⟨x, hx, (z, b.mv nat T l.1 l.2), ⟨h2, rfl⟩, h⟩
    · rintro ⟨x, hx, ⟨z, U⟩, ⟨h1, h2⟩, h3⟩
      have h2 : U = b.mv nat T l.1 l.2 := h2
      subst h2
      exact ⟨z, mv_one.mpr ⟨x, hx, h1⟩, h3⟩
theorem way_runN {a b : Stt K} {nat : Bool} : ∀ {w : Word K} {x y : Nat × List Nat}, Way (stepN a b nat) x w y → y.2 = b.run nat x.2 w
  | [], x, y, h => by
    have h : x = y := h
    rw [h]; rfl
  | l :: w, x, y, ⟨z, h1, h2⟩ => by
    have := way_runN h2
    rw [this, h1.2]; rfl
/-- a accepts and b does not: so it is on at most 895 letters -/
theorem short_part {a b : Stt K} (ha : a.Six) (hb : b.Six) {nat : Bool} {w : Word K} (h1 : a.accW nat w = true) (h2 : b.accW nat w = false) :
    ∃ w' : Word K, a.accW nat w' = true ∧ b.accW nat w' = false ∧ w'.length ≤ 895 ∧ ∀ l ∈ w', l ∈ w := by
  obtain ⟨e, he, hk⟩ := acc_iff.mp h1
  obtain ⟨x, hx, hw⟩ := (wayN (b := b) (T := b.st0)).mp hk
  have node : ∀ (v : Word K) (z : Nat × List Nat), Way (stepN a b nat) (x, b.st0) v z → z.1 < 7 ∧ SetOk z.2 := fun v z hz => by
    have e2 := way_runN hz
    refine ⟨?_, by rw [e2]; exact hb.run nat v⟩
    have : z.1 ∈ a.run nat a.st0 v := (wayN (b := b) (T := b.st0)).mpr ⟨x, hx, by
      have e3 : z = (z.1, b.run nat b.st0 v) := by rw [← show z.2 = b.run nat b.st0 v from e2]
      rw [← e3]; exact hz⟩
    exact (ha.run nat v).2 _ this
  obtain ⟨w', q1, q2, q3⟩ := way_short (code := fun z => z.1 * 128 + mask z.2) (N := 896) (G := fun _ => True) (fun v z hz => by
      have := (node v z hz).1
      have := mask_lt z.2
      show z.1 * 128 + mask z.2 < 896
      omega) (fun v u y z hy hz e => by
      have e : y.1 * 128 + mask y.2 = z.1 * 128 + mask z.2 := e
      have := mask_lt y.2
      have := mask_lt z.2
      exact Prod.ext (by omega) (mask_inj (node v y hy).2 (node u z hz).2 (by omega))) w.length w _ (Nat.le_refl _) hw True.intro
  have e3 : b.run nat b.st0 w = b.run nat b.st0 w' := way_runN q1
  refine ⟨w', ?_, ?_, by omega, q3⟩
  · refine acc_iff.mpr ⟨e, he, (wayN (b := b) (T := b.st0)).mpr ⟨x, hx, ?_⟩⟩
    rw [← e3]; exact q1
  · unfold Stt.accW at h2 ⊢
    rw [← e3]; exact h2

/-! ### what first_parting tells -/
def Parts (a b : Stt K) (nat half : Bool) (w : Word K) : Bool := (a.accW nat w && !b.accW nat w) || (b.accW nat w && (!a.accW nat w && !half))
theorem parts_goal (a b : Stt K) (nat half : Bool) (w : Word K) : goalP a b half (runW (stepP a b nat) (a.st0, b.st0) w) = Parts a b nat half w := by
  rw [runP]; rfl
def Told (a b : Stt K) (nat half : Bool) : Option (Word K) → Prop
  | none => ∀ w : Word K, (∀ p ∈ w, p.1 ∈ a.kinds) → Parts a b nat half w = false
  | some w => (∀ p ∈ w, p.1 ∈ a.kinds) ∧ Parts a b nat half w = true ∧ ∀ w' : Word K, (∀ p ∈ w', p.1 ∈ a.kinds) → Parts a b nat half w' = true → w.length ≤ w'.length
abbrev BIP (a b : Stt K) (nat half : Bool) := BI (stepP a b nat) (letters a.kinds) (goalP a b half) (a.st0, b.st0)
theorem told_none {a b : Stt K} {nat half : Bool} {bs : List (Ent Pr (K × Bool))} (B : BIP a b nat half bs bs.length 0) : Told a b nat half none := fun w hw => by
  rw [← parts_goal]
  exact bi_end B w fun l hl => mem_letters.mpr (hw l hl)
theorem told_some {a b : Stt K} {nat half : Bool} {bs : List (Ent Pr (K × Bool))} {n : Nat} {c e : Ent Pr (K × Bool)} {fs : List (K × Bool)} (B : BIP a b nat half bs n 0) (hc : bs[n]? = some c) (hg : goalP a b half c.st = true)
    (hb : Back (stepP a b nat) (letters a.kinds) bs c e fs) (hp : e.par = none) : Told a b nat half (some fs.reverse) := by
  obtain ⟨h1, h2, h3⟩ := back_end B hb hp
  refine ⟨fun p hp => mem_letters.mp (h3 p hp), by rw [← parts_goal, h1]; exact hg, fun w' hw' hq => ?_⟩
  rw [h2]
  refine bi_hit B hc w' (fun l hl => mem_letters.mpr (hw' l hl)) ?_
  rw [parts_goal]; exact hq
theorem bi_setOk {a b : Stt K} (ha : a.Six) (hb : b.Six) {nat half : Bool} {bs : List (Ent Pr (K × Bool))} {n i : Nat} (B : BIP a b nat half bs n i) : ∀ p ∈ bs.map Ent.st, SetOk p.1 ∧ SetOk p.2 := by
  intro p hp
  obtain ⟨e, he, rfl⟩ := List.mem_map.mp hp
  obtain ⟨j, hj⟩ := List.getElem?_of_mem he
  cases j with
  | zero =>
    obtain ⟨e', q1, q2, _⟩ := B.h0
    rw [hj] at q1; cases q1
    rw [q2]; exact ⟨ha.st0, hb.st0⟩
  | succ j =>
    obtain ⟨k, f, l, _, _, _, _, h5, _⟩ := B.par (j + 1) e (by omega) hj
    rw [← h5]; exact ⟨ha.mv nat _ _ _, hb.mv nat _ _ _⟩
theorem bi_bound {a b : Stt K} (ha : a.Six) (hb : b.Six) {nat half : Bool} {bs : List (Ent Pr (K × Bool))} {n i : Nat} (B : BIP a b nat half bs n i) : bs.length ≤ 16384 := by
  have := pairs_bound B.nd (bi_setOk ha hb B)
  rwa [List.length_map] at this
theorem told_895 {a b : Stt K} (ha : a.Six) (hb : b.Six) {nat half : Bool} {w : Word K} (h : Told a b nat half (some w)) : w.length ≤ 895 := by
  obtain ⟨h1, h2, h3⟩ := h
  unfold Parts at h2
  rcases Bool.or_eq_true_iff.mp h2 with z | z
  · obtain ⟨z1, z2⟩ := Bool.and_eq_true_iff.mp z
    have z2 : b.accW nat w = false := by simpa using z2
    obtain ⟨w', q1, q2, q3, q4⟩ := short_part ha hb z1 z2
    have := h3 w' (fun p hp => h1 p (q4 p hp)) (by unfold Parts; rw [q1, q2]; rfl)
    omega
  · obtain ⟨z1, z2⟩ := Bool.and_eq_true_iff.mp z
    obtain ⟨z2, z3⟩ := Bool.and_eq_true_iff.mp z2
    have z2 : a.accW nat w = false := by simpa using z2
    obtain ⟨w', q1, q2, q3, q4⟩ := short_part hb ha z1 z2
    have := h3 w' (fun p hp => h1 p (q4 p hp)) (by unfold Parts; rw [q1, q2, z3]; rfl)
    omega
end
end TPk
end M2_text

section M3_text
set_option Elab.async false
set_option linter.all false
/-! Two neighbouring registers swapped: the same words are accepted. -/
namespace TPk
def swR (k j : Nat) : Nat := if j = k then k + 1 else if j = k + 1 then k else j
def swN (k x : Nat) : Nat := if x = k + 1 then k + 2 else if x = k + 2 then k + 1 else x
def swC (k c : Nat) : Nat := if c = 2 * k + 1 then 2 * k + 3 else if c = 2 * k + 2 then 2 * k + 4 else if c = 2 * k + 3 then 2 * k + 1 else if c = 2 * k + 4 then 2 * k + 2 else c
theorem swR_swR (k j : Nat) : swR k (swR k j) = j := by unfold swR; split <;> split <;> (try split) <;> omega
theorem swN_swN (k x : Nat) : swN k (swN k x) = x := by unfold swN; split <;> split <;> (try split) <;> omega
theorem swR_lt {k j n : Nat} (hk : k + 1 < n) (hj : j < n) : swR k j < n := by unfold swR; split <;> (try split) <;> omega
theorem swN_succ (k j : Nat) : swN k (j + 1) = swR k j + 1 := by unfold swN swR; split <;> split <;> (try split) <;> (try split) <;> omega
theorem swN_zero (k : Nat) : swN k 0 = 0 := by unfold swN; split <;> (try split) <;> omega
theorem swC_facts : ∀ k, k < 5 → ∀ c, c < 14 → swC k (swC k c) = c ∧ swC k c < 14 ∧ tak (swC k c) = tak c ∧ src (swC k c) = swN k (src c) := by decide
def renT (k : Nat) (t : List Nat) : List Nat := (List.range 14).filter fun c => decide (swC k c ∈ t)
def renR (n k : Nat) (r : List (List Nat)) : List (List Nat) := (List.range n).map fun j => renT k (r.getD (swR k j) [])
section
variable {K : Type} [DecidableEq K]
def ren (k : Nat) (s : Stt K) : Stt K where
  side := s.side
  kinds := s.kinds
  start := (List.range s.start.length).map fun j => s.start.getD (swR k j) false
  rules := s.rules.map (renR s.start.length k)
  ends := (List.range s.start.length).filter fun e => decide (swR k e ∈ s.ends)
theorem mem_renT {k c : Nat} {t : List Nat} : c ∈ renT k t ↔ c < 14 ∧ swC k c ∈ t := by
  unfold renT
  rw [List.mem_filter, List.mem_range, decide_eq_true_iff]
theorem renR_at {n k : Nat} {r : List (List Nat)} {j : Nat} {ts : List Nat} (hk : k + 1 < n) (hr : r.length = n) : (renR n k r)[j]? = some ts ↔ ∃ u, r[swR k j]? = some u ∧ ts = renT k u := by
  unfold renR
  rw [List.getElem?_map]
  by_cases h : j < n
  · rw [List.getElem?_range h]
    have hl : swR k j < r.length := by rw [hr]; exact swR_lt hk h
    have he : r[swR k j]? = some r[swR k j] := List.getElem?_eq_getElem hl
    show some (renT k (r.getD (swR k j) [])) = some ts ↔ _
    rw [List.getD_eq_getElem?_getD, he]
    constructor
    · intro h; exact ⟨_, rfl, (Option.some.inj h).symm⟩
    · rintro ⟨u, h1, rfl⟩; cases h1; rfl
  · have h1 : (List.range n)[j]? = none := List.getElem?_eq_none (by rw [List.length_range]; omega)
    rw [h1]
    constructor
    · intro z; cases z
    · rintro ⟨u, h2, _⟩
      have := (List.getElem?_eq_some_iff.mp h2).1
      have h3 : swR k (swR k j) < n := swR_lt hk (by omega)
      rw [swR_swR] at h3
      exact absurd h3 h
theorem ren_mv {s : Stt K} {k : Nat} (hk : k + 1 < s.start.length) (h6 : s.start.length ≤ 6) (hr : ∀ r ∈ s.rules, r.length = s.start.length ∧ ∀ t ∈ r, ∀ c ∈ t, c < 14)
    {nat : Bool} {S T : List Nat} (h : ∀ x, x ∈ T ↔ swN k x ∈ S) (p : K) (m : Bool) (x : Nat) : x ∈ (ren k s).mv nat T p m ↔ swN k x ∈ s.mv nat S p m := by
  have hk5 : k < 5 := by omega
  rw [mem_mv, mem_mv]
  have h0 : 0 ∈ T ↔ 0 ∈ S := by rw [h 0, swN_zero]
  have hrule : ∀ (j : Nat) (ts : List Nat), ((ren k s).rule p)[j]? = some ts ↔ ∃ u, (s.rule p)[swR k j]? = some u ∧ ts = renT k u := by
    intro j ts
    unfold Stt.rule
    show ((s.rules.map (renR s.start.length k)).getD (pos s.kinds p) [])[j]? = some ts ↔ _
    rw [List.getD_eq_getElem?_getD, List.getD_eq_getElem?_getD, List.getElem?_map]
    cases e : s.rules[pos s.kinds p]? with
    | none =>
      simp
    | some r => exact renR_at hk (hr r (List.mem_of_getElem? e)).1
  have hcode : ∀ (j : Nat) (ts : List Nat), (s.rule p)[j]? = some ts → ∀ c ∈ ts, c < 14 := by
    intro j ts hj c hc
    unfold Stt.rule at hj
    rw [List.getD_eq_getElem?_getD] at hj
    cases e : s.rules[pos s.kinds p]? with
    | none => rw [e] at hj; simp at hj
    | some r =>
      rw [e] at hj
      exact (hr r (List.mem_of_getElem? e)).2 ts (List.mem_of_getElem? hj) c hc
  constructor
  · rintro (⟨rfl, h1, h2⟩ | ⟨j, ts, rfl, hj, c, hc, h1, h2⟩)
    · exact .inl ⟨swN_zero k, h0.mp h1, h2⟩
    · obtain ⟨u, hu, rfl⟩ := (hrule j ts).mp hj
      obtain ⟨c1, c2⟩ := mem_renT.mp hc
      obtain ⟨f1, f2, f3, f4⟩ := swC_facts k hk5 c c1
      exact .inr ⟨swR k j, u, swN_succ k j, hu, swC k c, c2, by rw [f3]; exact h1, by rw [f4]; exact (h _).mp h2⟩
  · rintro (⟨e, h1, h2⟩ | ⟨j, u, e, hu, c, hc, h1, h2⟩)
    · have : x = 0 := by rw [← swN_swN k x, e, swN_zero]
      exact .inl ⟨this, h0.mpr h1, h2⟩
    · have ex : x = swR k j + 1 := by rw [← swN_swN k x, e, swN_succ]
      obtain ⟨f1, f2, f3, f4⟩ := swC_facts k hk5 c (hcode j u hu c hc)
      refine .inr ⟨swR k j, renT k u, ex, (hrule _ _).mpr ⟨u, by rw [swR_swR]; exact hu, rfl⟩, swC k c, mem_renT.mpr ⟨f2, by rw [f1]; exact hc⟩, by rw [f3]; exact h1, ?_⟩
      rw [h, f4, swN_swN]
      exact h2
theorem ren_start {s : Stt K} {k : Nat} (hk : k + 1 < s.start.length) (j : Nat) : (ren k s).start[j]? = s.start[swR k j]? := by
  show ((List.range s.start.length).map fun j => s.start.getD (swR k j) false)[j]? = _
  rw [List.getElem?_map]
  by_cases h : j < s.start.length
  · have hl : swR k j < s.start.length := swR_lt hk h
    rw [List.getElem?_range h, List.getElem?_eq_getElem hl]
    show some (s.start.getD (swR k j) false) = _
    rw [List.getD_eq_getElem?_getD, List.getElem?_eq_getElem hl]
    rfl
  · have h1 : (List.range s.start.length)[j]? = none := List.getElem?_eq_none (by rw [List.length_range]; omega)
    have h2 : s.start[swR k j]? = none := List.getElem?_eq_none (by
      by_cases z : swR k j < s.start.length
      · have h3 := swR_lt hk z
        rw [swR_swR] at h3
        omega
      · omega)
    rw [h1, h2]
    rfl
theorem ren_st0 {s : Stt K} {k : Nat} (hk : k + 1 < s.start.length) (x : Nat) : x ∈ (ren k s).st0 ↔ swN k x ∈ s.st0 := by
  rw [mem_st0, mem_st0]
  constructor
  · rintro (rfl | ⟨j, rfl, hj⟩)
    · exact .inl (swN_zero k)
    · rw [ren_start hk] at hj
      exact .inr ⟨swR k j, swN_succ k j, hj⟩
  · rintro (e | ⟨j, e, hj⟩)
    · exact .inl (by rw [← swN_swN k x, e, swN_zero])
    · refine .inr ⟨swR k j, by rw [← swN_swN k x, e, swN_succ], ?_⟩
      rw [ren_start hk, swR_swR]
      exact hj
theorem ren_accW {s : Stt K} {k : Nat} (hk : k + 1 < s.start.length) (h6 : s.start.length ≤ 6) (hr : ∀ r ∈ s.rules, r.length = s.start.length ∧ ∀ t ∈ r, ∀ c ∈ t, c < 14) (he : ∀ e ∈ s.ends, e < s.start.length)
    (nat : Bool) (w : Word K) : (ren k s).accW nat w = s.accW nat w := by
  have hrun : ∀ w : Word K, ∀ x, x ∈ (ren k s).run nat (ren k s).st0 w ↔ swN k x ∈ s.run nat s.st0 w := by
    intro w
    induction w using snoc_ind with
    | h0 => exact fun x => ren_st0 hk x
    | hs w p ih =>
      intro x
      rw [run_snoc, run_snoc]
      exact ren_mv hk h6 hr ih p.1 p.2 x
  have hb : (ren k s).accW nat w = true ↔ s.accW nat w = true := by
    unfold Stt.accW
    rw [acc_iff, acc_iff]
    constructor
    · rintro ⟨e, h1, h2⟩
      have h3 : swR k e ∈ s.ends := of_decide_eq_true (List.mem_filter.mp h1).2
      refine ⟨swR k e, h3, ?_⟩
      rw [← swN_succ]
      exact (hrun w _).mp h2
    · rintro ⟨e, h1, h2⟩
      refine ⟨swR k e, List.mem_filter.mpr ⟨List.mem_range.mpr (swR_lt hk (he e h1)), decide_eq_true (by rw [swR_swR]; exact h1)⟩, ?_⟩
      rw [hrun, swN_succ, swR_swR]
      exact h2
  cases h1 : (ren k s).accW nat w <;> cases h2 : s.accW nat w <;> simp_all
/-- what parts no word -/
theorem told_same {a b : Stt K} {nat : Bool} {o : Option (Word K)} (h : ∀ w, a.accW nat w = b.accW nat w) (ht : Told a b nat false o) : o = none := by
  cases o with
  | none => rfl
  | some w =>
    have := ht.2.1
    unfold Parts at this
    rw [h w] at this
    cases e : b.accW nat w <;> rw [e] at this <;> cases this
end
end TPk
end M3_text

section Tx_text
set_option Elab.async false
set_option linter.all false
set_option maxRecDepth 100000
set_option maxHeartbeats 4000000
namespace TPk
open PySem PySem.Spec PyProof.Rows L2
/-! ### the text by places -/
def topS (i : Nat) : Stmt := PySem.Challenge.pw_tallypeaks_k41_whole_great_statistics_co.main.body.getD i (.Pass ⟨0, 0, 0, 0⟩)
abbrev s_is_integer : Stmt := topS 23
abbrev s_is_kind : Stmt := topS 24
abbrev s_is_amount : Stmt := topS 25
abbrev s_is_event : Stmt := topS 26
abbrev s_first_wrong : Stmt := topS 27
abbrev s_check_log : Stmt := topS 28
abbrev s_terms_of : Stmt := topS 31
abbrev s_source_of : Stmt := topS 32
abbrev s_best_of : Stmt := topS 34
abbrev s_start_nodes : Stmt := topS 35
abbrev s_marks_meant : Stmt := topS 36
abbrev s_moved : Stmt := topS 37
abbrev s_has_result : Stmt := topS 38
abbrev s_pairs_of : Stmt := topS 39
abbrev s_stepped : Stmt := topS 40
abbrev s_read_out : Stmt := topS 41
abbrev s_first_fall : Stmt := topS 43
abbrev s_check_kinds : Stmt := topS 44
abbrev s_check_start : Stmt := topS 45
abbrev s_is_rule : Stmt := topS 46
abbrev s_check_rules : Stmt := topS 47
abbrev s_check_result : Stmt := topS 48
abbrev s_check_statistic : Stmt := topS 53
abbrev s_check_two : Stmt := topS 54
abbrev s_check_flag : Stmt := topS 68
abbrev s_letters_to : Stmt := topS 70
abbrev s_first_parting : Stmt := topS 71
abbrev s_shown : Stmt := topS 72
abbrev s_difference : Stmt := topS 73
abbrev s_equal : Stmt := topS 74
abbrev s_excess : Stmt := topS 75
abbrev s_never_above : Stmt := topS 76
abbrev s_l_cell : Stmt := topS 78
abbrev s_l_pool : Stmt := topS 79
abbrev s_l_draw : Stmt := topS 80
abbrev s_l_terms : Stmt := topS 81
abbrev s_l_source : Stmt := topS 82
abbrev s_l_some : Stmt := topS 83
abbrev s_l_named : Stmt := topS 84
abbrev s_l_plain : Stmt := topS 85
abbrev s_l_great : Stmt := topS 86
abbrev s_l_of : Stmt := topS 87
abbrev s_l_best : Stmt := topS 88
abbrev s_l_step : Stmt := topS 89
abbrev s_l_end : Stmt := topS 90
abbrev s_l_result : Stmt := topS 91
abbrev s_l_events : Stmt := topS 92
abbrev s_l_swapped_name : Stmt := topS 93
abbrev s_l_renamed : Stmt := topS 94
abbrev s_l_bent_rule : Stmt := topS 95
abbrev s_l_varied : Stmt := topS 96
abbrev s_l_above : Stmt := topS 97
abbrev s_l_no_right : Stmt := topS 98
abbrev s_l_yes_right : Stmt := topS 99
abbrev s_l_right : Stmt := topS 100
abbrev s_law : Stmt := topS 101
abbrev s_stat_init : Stmt := inClass (topS 49) 1
abbrev s_stat_call : Stmt := inClass (topS 49) 9
abbrev s_stat_item : Stmt := inClass (topS 49) 11
abbrev s_walk_init : Stmt := inClass (topS 66) 0
abbrev s_walk_call : Stmt := inClass (topS 66) 1
/-! ### the defs as data -/
def dd : List He.DefD := [
  ⟨("is_integer", none), "is_integer", "is_integer", defArgs s_is_integer, defBody s_is_integer, defScope s_is_integer, [], []⟩,
  ⟨("is_kind", none), "is_kind", "is_kind", defArgs s_is_kind, defBody s_is_kind, defScope s_is_kind, [], []⟩,
  ⟨("is_amount", none), "is_amount", "is_amount", defArgs s_is_amount, defBody s_is_amount, defScope s_is_amount, [], []⟩,
  ⟨("is_event", none), "is_event", "is_event", defArgs s_is_event, defBody s_is_event, defScope s_is_event, [], []⟩,
  ⟨("first_wrong", none), "first_wrong", "first_wrong", defArgs s_first_wrong, defBody s_first_wrong, defScope s_first_wrong, [.non], []⟩,
  ⟨("check_log", none), "check_log", "check_log", defArgs s_check_log, defBody s_check_log, defScope s_check_log, [.non], []⟩,
  ⟨("terms_of", none), "terms_of", "terms_of", defArgs s_terms_of, defBody s_terms_of, defScope s_terms_of, [], []⟩,
  ⟨("source_of", none), "source_of", "source_of", defArgs s_source_of, defBody s_source_of, defScope s_source_of, [], []⟩,
  ⟨("best_of", none), "best_of", "best_of", defArgs s_best_of, defBody s_best_of, defScope s_best_of, [], []⟩,
  ⟨("start_nodes", none), "start_nodes", "start_nodes", defArgs s_start_nodes, defBody s_start_nodes, defScope s_start_nodes, [], []⟩,
  ⟨("marks_meant", none), "marks_meant", "marks_meant", defArgs s_marks_meant, defBody s_marks_meant, defScope s_marks_meant, [], []⟩,
  ⟨("moved", none), "moved", "moved", defArgs s_moved, defBody s_moved, defScope s_moved, [.bl false], []⟩,
  ⟨("has_result", none), "has_result", "has_result", defArgs s_has_result, defBody s_has_result, defScope s_has_result, [], []⟩,
  ⟨("pairs_of", none), "pairs_of", "pairs_of", defArgs s_pairs_of, defBody s_pairs_of, defScope s_pairs_of, [], []⟩,
  ⟨("stepped", none), "stepped", "stepped", defArgs s_stepped, defBody s_stepped, defScope s_stepped, [], []⟩,
  ⟨("read_out", none), "read_out", "read_out", defArgs s_read_out, defBody s_read_out, defScope s_read_out, [], []⟩,
  ⟨("first_fall", none), "first_fall", "first_fall", defArgs s_first_fall, defBody s_first_fall, defScope s_first_fall, [], []⟩,
  ⟨("check_kinds", none), "check_kinds", "check_kinds", defArgs s_check_kinds, defBody s_check_kinds, defScope s_check_kinds, [], []⟩,
  ⟨("check_start", none), "check_start", "check_start", defArgs s_check_start, defBody s_check_start, defScope s_check_start, [], []⟩,
  ⟨("is_rule", none), "is_rule", "is_rule", defArgs s_is_rule, defBody s_is_rule, defScope s_is_rule, [], []⟩,
  ⟨("check_rules", none), "check_rules", "check_rules", defArgs s_check_rules, defBody s_check_rules, defScope s_check_rules, [], []⟩,
  ⟨("check_result", none), "check_result", "check_result", defArgs s_check_result, defBody s_check_result, defScope s_check_result, [], []⟩,
  ⟨("check_statistic", none), "check_statistic", "check_statistic", defArgs s_check_statistic, defBody s_check_statistic, defScope s_check_statistic, [], []⟩,
  ⟨("check_two", none), "check_two", "check_two", defArgs s_check_two, defBody s_check_two, defScope s_check_two, [], []⟩,
  ⟨("check_flag", none), "check_flag", "check_flag", defArgs s_check_flag, defBody s_check_flag, defScope s_check_flag, [], []⟩,
  ⟨("letters_to", none), "letters_to", "letters_to", defArgs s_letters_to, defBody s_letters_to, defScope s_letters_to, [], []⟩,
  ⟨("first_parting", none), "first_parting", "first_parting", defArgs s_first_parting, defBody s_first_parting, defScope s_first_parting, [], []⟩,
  ⟨("shown", none), "shown", "shown", defArgs s_shown, defBody s_shown, defScope s_shown, [], []⟩,
  ⟨("difference", none), "difference", "difference", defArgs s_difference, defBody s_difference, defScope s_difference, [], [("natural", .bl false)]⟩,
  ⟨("equal", none), "equal", "equal", defArgs s_equal, defBody s_equal, defScope s_equal, [], [("natural", .bl false)]⟩,
  ⟨("excess", none), "excess", "excess", defArgs s_excess, defBody s_excess, defScope s_excess, [], [("natural", .bl false)]⟩,
  ⟨("never_above", none), "never_above", "never_above", defArgs s_never_above, defBody s_never_above, defScope s_never_above, [], [("natural", .bl false)]⟩,
  ⟨("_law_cell", none), "_law_cell", "_law_cell", defArgs s_l_cell, defBody s_l_cell, defScope s_l_cell, [], []⟩,
  ⟨("_law_pool", none), "_law_pool", "_law_pool", defArgs s_l_pool, defBody s_l_pool, defScope s_l_pool, [], []⟩,
  ⟨("_law_draw", none), "_law_draw", "_law_draw", defArgs s_l_draw, defBody s_l_draw, defScope s_l_draw, [], []⟩,
  ⟨("_law_terms", none), "_law_terms", "_law_terms", defArgs s_l_terms, defBody s_l_terms, defScope s_l_terms, [], []⟩,
  ⟨("_law_source", none), "_law_source", "_law_source", defArgs s_l_source, defBody s_l_source, defScope s_l_source, [], []⟩,
  ⟨("_law_some", none), "_law_some", "_law_some", defArgs s_l_some, defBody s_l_some, defScope s_l_some, [], []⟩,
  ⟨("_law_named", none), "_law_named", "_law_named", defArgs s_l_named, defBody s_l_named, defScope s_l_named, [], []⟩,
  ⟨("_law_plain", none), "_law_plain", "_law_plain", defArgs s_l_plain, defBody s_l_plain, defScope s_l_plain, [], []⟩,
  ⟨("_law_great", none), "_law_great", "_law_great", defArgs s_l_great, defBody s_l_great, defScope s_l_great, [], []⟩,
  ⟨("_law_of", none), "_law_of", "_law_of", defArgs s_l_of, defBody s_l_of, defScope s_l_of, [], []⟩,
  ⟨("_law_best", none), "_law_best", "_law_best", defArgs s_l_best, defBody s_l_best, defScope s_l_best, [], []⟩,
  ⟨("_law_step", none), "_law_step", "_law_step", defArgs s_l_step, defBody s_l_step, defScope s_l_step, [], []⟩,
  ⟨("_law_end", none), "_law_end", "_law_end", defArgs s_l_end, defBody s_l_end, defScope s_l_end, [], []⟩,
  ⟨("_law_result", none), "_law_result", "_law_result", defArgs s_l_result, defBody s_l_result, defScope s_l_result, [], []⟩,
  ⟨("_law_events", none), "_law_events", "_law_events", defArgs s_l_events, defBody s_l_events, defScope s_l_events, [], []⟩,
  ⟨("_law_swapped_name", none), "_law_swapped_name", "_law_swapped_name", defArgs s_l_swapped_name, defBody s_l_swapped_name, defScope s_l_swapped_name, [], []⟩,
  ⟨("_law_renamed", none), "_law_renamed", "_law_renamed", defArgs s_l_renamed, defBody s_l_renamed, defScope s_l_renamed, [], []⟩,
  ⟨("_law_bent_rule", none), "_law_bent_rule", "_law_bent_rule", defArgs s_l_bent_rule, defBody s_l_bent_rule, defScope s_l_bent_rule, [], []⟩,
  ⟨("_law_varied", none), "_law_varied", "_law_varied", defArgs s_l_varied, defBody s_l_varied, defScope s_l_varied, [], []⟩,
  ⟨("_law_above", none), "_law_above", "_law_above", defArgs s_l_above, defBody s_l_above, defScope s_l_above, [], []⟩,
  ⟨("_law_no_right", none), "_law_no_right", "_law_no_right", defArgs s_l_no_right, defBody s_l_no_right, defScope s_l_no_right, [], []⟩,
  ⟨("_law_yes_right", none), "_law_yes_right", "_law_yes_right", defArgs s_l_yes_right, defBody s_l_yes_right, defScope s_l_yes_right, [], []⟩,
  ⟨("_law_right", none), "_law_right", "_law_right", defArgs s_l_right, defBody s_l_right, defScope s_l_right, [], []⟩,
  ⟨("law", none), "law", "law", defArgs s_law, defBody s_law, defScope s_law, [], []⟩,
  ⟨("Statistic", some "__init__"), "__init__", "Statistic.__init__", defArgs s_stat_init, defBody s_stat_init, defScope s_stat_init, [], []⟩,
  ⟨("Statistic", some "__call__"), "__call__", "Statistic.__call__", defArgs s_stat_call, defBody s_stat_call, defScope s_stat_call, [], []⟩,
  ⟨("Statistic", some "__getitem__"), "__getitem__", "Statistic.__getitem__", defArgs s_stat_item, defBody s_stat_item, defScope s_stat_item, [], []⟩,
  ⟨("Walker", some "__init__"), "__init__", "Walker.__init__", defArgs s_walk_init, defBody s_walk_init, defScope s_walk_init, [.bl false], []⟩,
  ⟨("Walker", some "__call__"), "__call__", "Walker.__call__", defArgs s_walk_call, defBody s_walk_call, defScope s_walk_call, [], []⟩]
def ff : List He.Fa := [.glo "is_integer", .glo "is_kind", .glo "is_amount", .glo "is_event", .glo "first_wrong", .glo "check_log",
  .glo "terms_of", .glo "source_of", .glo "best_of", .glo "start_nodes", .glo "marks_meant", .glo "moved",
  .glo "has_result", .glo "pairs_of", .glo "stepped", .glo "read_out", .glo "first_fall", .glo "check_kinds",
  .glo "check_start", .glo "is_rule", .glo "check_rules", .glo "check_result", .glo "check_statistic", .glo "check_two",
  .glo "check_flag", .glo "letters_to", .glo "first_parting", .glo "shown", .glo "difference", .glo "equal",
  .glo "excess", .glo "never_above", .glo "_law_cell", .glo "_law_pool", .glo "_law_draw", .glo "_law_terms",
  .glo "_law_source", .glo "_law_some", .glo "_law_named", .glo "_law_plain", .glo "_law_great", .glo "_law_of",
  .glo "_law_best", .glo "_law_step", .glo "_law_end", .glo "_law_result", .glo "_law_events", .glo "_law_swapped_name",
  .glo "_law_renamed", .glo "_law_bent_rule", .glo "_law_varied", .glo "_law_above", .glo "_law_no_right", .glo "_law_yes_right",
  .glo "_law_right", .glo "law", .glo "Statistic", .glo "Greatest", .glo "Least", .glo "Walker",
  .glo "REGISTERS", .free "len", .free "isinstance", .free "zip", .free "range", .free "enumerate",
  .free "tuple", .free "any", .free "all", .free "max", .free "min", .free "abs",
  .free "divmod", .free "int", .free "str", .free "sorted", .free "bool", .int "MAX_KINDS" 4,
  .int "MAX_REGISTERS" 6, .int "MAX_EVENTS" 1000, .int "MAX_AMOUNT" 1000000000000000000000000000000, .str "LETTERS" "abcdefghijklmnopqrstuvwxyz", .cls "Greatest", .mkr "Greatest",
  .cls "Least", .mkr "Least", .cls "Walker", .mkr "Walker", .noat "Greatest" "kinds", .noat "Greatest" "start",
  .noat "Greatest" "rules", .noat "Greatest" "ends", .noat "Least" "kinds", .noat "Least" "start", .noat "Least" "rules", .noat "Least" "ends",
  .noat "Walker" "owner", .noat "Walker" "widely", .noat "Walker" "seen", .keep "Statistic", .keep "Greatest", .keep "Least",
  .keep "Walker"]
/-! ### more facts of the classes -/
def clB (K : PySem.W.Frag) (C : Str) (f : Str) : Bool := He.eqO (PySem.W.findIn K (.ref (He.ga K C)) f) (some (some (.ref (He.ma K (He.ga K C) f)))) && (PySem.W.isFn K (.ref (He.ma K (He.ga K C) f)) && PySem.W.fnIn K (He.ma K (He.ga K C) f))
def isaB (K : PySem.W.Frag) (C : Str) : Bool := He.eqO (PySem.W.findIn K (.ref (He.ga K C)) "__class__") (some (some (.builtin "object.__class__"))) && (decide (PySem.W.mroIn K (He.ga K C) (.type "object") = some true) &&
  decide (PySem.W.kitOne K (.ref (He.ga K C)) (.ref (He.ga K "Statistic")) = some true))
def gsB (K : PySem.W.Frag) : Bool := decide (PySem.W.specialIn K (.builtin "object.__class__") "__get__" = some (some (.builtin "getset_descriptor.__get__"))) && decide (PySem.W.takesIn K (.builtin "object.__class__") = some true)
def sameB (K : PySem.W.Frag) (C f : Str) : Bool := decide (He.ma K (He.ga K C) f = He.ma K (He.ga K "Statistic") f)
def xB (K : PySem.W.Frag) : Bool := He.conB K "Greatest" "SIDE" (.str "greatest") && (He.conB K "Least" "SIDE" (.str "least") && (He.tupB K "REGISTERS" [.str "r0", .str "r1", .str "r2", .str "r3", .str "r4", .str "r5"] &&
  (clB K "Greatest" "__call__" && (clB K "Greatest" "__getitem__" && (clB K "Least" "__call__" && (clB K "Least" "__getitem__" && (clB K "Walker" "__call__" &&
  (isaB K "Greatest" && (isaB K "Least" && (gsB K && (sameB K "Greatest" "__init__" && (sameB K "Least" "__init__" && (sameB K "Greatest" "__call__" && (sameB K "Least" "__call__" && (sameB K "Greatest" "__getitem__" && sameB K "Least" "__getitem__")))))))))))))))
end TPk
end Tx_text

section Hd3_text
set_option Elab.async false
set_option linter.all false
set_option maxRecDepth 100000
set_option maxHeartbeats 0
namespace TPk
open PySem PySem.Spec PyProof.Rows L2
/-! ### the Hook: the facts by names, and one Bool more -/
abbrev AlX : Type := He.AlD × Bool
def obsX (K : PySem.W.Frag) : AlX := (He.obsD ff dd K, xB K)
def valX : AlX := (He.valD dd, true)
def SaysX (K : PySem.W.Frag) : Prop := obsX K = valX
def ad0 : List Addr := [3, 585, 584, 597, 596, 571, 570, 705, 704, 318, 282, 281, 287, 286, 294, 293, 301, 300, 309, 308, 302, 317, 316, 310, 325, 324, 332, 331, 344, 343, 349, 348, 356, 355, 362]
def ad1 : List Addr := [361, 357, 367, 366, 372, 371, 377, 376, 382, 381, 389, 388, 394, 393, 401, 400, 406, 405, 413, 412, 420, 419, 613, 612, 620, 619, 716, 715, 723, 722, 730, 729, 735, 734, 743]
def ad2 : List Addr := [742, 736, 751, 750, 744, 759, 758, 752, 767, 766, 760, 774, 773, 781, 780, 788, 787, 795, 794, 802, 801, 807, 806, 814, 813, 819, 818, 826, 825, 833, 832, 838, 837, 845, 844]
def ad3 : List Addr := [850, 849, 857, 856, 862, 861, 869, 868, 874, 873, 879, 878, 884, 883, 891, 890, 896, 895, 901, 900, 908, 907, 915, 914, 434, 433, 507, 506, 521, 520, 695, 694, 688, 702, 701]
/-- where what is named stands -/
def addrs : List Addr := ad0 ++ (ad1 ++ (ad2 ++ (ad3)))
def obsXG (g : Addr → Option Obj) : AlX := obsX (He.frG g addrs)
def hookX : PySem.W.Hook where
  α := AlX
  obs := fun s => obsXG s.heap.get?
  val := fun _ => valX
  says := fun _ h => ∃ K : PySem.W.Frag, K.In h ∧ SaysX K
  of := fun _ _ e => ⟨_, He.frG_in, e⟩
  keeps := fun _ _ _ ⟨K, hK, c⟩ k => ⟨K, PySem.W.Frag.In.keeps hK k, c⟩
abbrev RR : PySem.W.OpenRow := PySem.W.OpenLaw.row PySem.Challenge.rw_tallypeaks_k41_whole_great_statistics_co
def ob (s : PySem.W.SharedT) : AlX := obsXG (HandSHeadRun.getT s)
theorem ob_eq (s : PySem.W.SharedT) : ob s = hookX.obs s.abs := by
  have e : HandSHeadRun.getT s = s.abs.heap.get? := funext fun a => HandSHeadRun.getT_eq s a
  show obsXG (HandSHeadRun.getT s) = obsXG s.abs.heap.get?
  rw [e]
def nm0 : List PySem.Str := ["_wall", "__name__", "TallyError", "InvalidKinds", "InvalidStart", "InvalidRules", "InvalidResult", "InvalidLog", "InvalidFlag", "InvalidText", "NotAStatistic", "SearchError", "UnknownKind", "ConflictError", "NotComparable", "LimitError", "TooMany", "MAX_KINDS", "MAX_REGISTERS", "MAX_EVENTS", "MAX_AMOUNT", "LETTERS", "is_integer", "is_kind", "is_amount", "is_event", "first_wrong", "check_log", "REGISTERS", "terms_of"]
def nm1 : List PySem.Str := ["source_of", "term_from", "best_of", "start_nodes", "marks_meant", "moved", "has_result", "pairs_of", "stepped", "read_out", "first_fall", "check_kinds", "check_start", "is_rule", "check_rules", "check_result", "Statistic", "Greatest", "Least", "made", "check_statistic", "check_two", "raised", "raised_rule", "lines_of", "read_words", "read_terms", "read_rule", "line_at", "read_kinds"]
def nm2 : List PySem.Str := ["read_start", "read_lines", "Walker", "check_flag", "letters_to", "first_parting", "shown", "difference", "equal", "excess", "never_above", "_law_cell", "_law_pool", "_law_draw", "_law_terms", "_law_source", "_law_some", "_law_named", "_law_plain", "_law_great", "_law_of", "_law_best", "_law_step", "_law_end", "_law_result", "_law_events", "_law_swapped_name", "_law_renamed", "_law_bent_rule", "_law_varied"]
def nm3 : List PySem.Str := ["_law_above", "_law_no_right", "_law_yes_right", "_law_right"]
def names : List PySem.Str := nm0 ++ (nm1 ++ (nm2 ++ (nm3)))
theorem run (w : World) : HandSHeadRun.RunEq RR (PySem.W.view RR.prog [101]) hookX ob 8200 names w := by
  intro os
  kernel_rfl
end TPk
end Hd3_text

section R1_text
set_option Elab.async false
set_option linter.all false
set_option maxRecDepth 100000
set_option maxHeartbeats 4000000
/-! zip(a, b, strict=False | True) over two tuples. -/
namespace TPk
open PySem PySem.Spec PyProof.Rows L2 RZ

theorem typeCall_zip_k (a b v : Value) : checkTypeCall "zip" ⟨[a, b], [(Str.ofString "strict", v)]⟩ = pure () := by kernel_rfl
theorem newCall_zip_k (a b v : Value) : checkBuiltinCall "zip.__new__" ⟨[.type "zip", a, b], [(Str.ofString "strict", v)]⟩ = pure () := by kernel_rfl
theorem args_object_init_k (obj a b v : Value) : argsOk "object.__init__" ⟨[obj, a, b], [(Str.ofString "strict", v)]⟩ := by unfold argsOk; kernel_rfl

/-- a zip object, strict or not -/
abbrev IsZipB (h : Heap) (z TI TO : Addr) (f0 : Value) (k : Bool) : Prop :=
  h.get? z = some { cls := .type "zip", dict := none, data := .fields #[f0, .bool false, .bool k, .ref TI, .ref TO], slots := #[] }
abbrev zipKH5 (h : Heap) (l1 l2 : Addr) (k : Bool) : Heap := (zipTH4 h l1 l2).push { cls := .type "zip", data := .fields #[.none, .bool false, .bool k, .ref (zipTH2 h l1 l2).objs.size, .ref (zipTH3 h l1 l2).objs.size] }
theorem meets_zipK_new (l1 l2 : Addr) (xs ys : Array Value) (k : Bool) :
    Meets (Builtin.«zip.__new__» ⟨[.type "zip", .ref l1, .ref l2], [(Str.ofString "strict", .bool k)]⟩) (fun _ R s => s.heap.IsTuple l1 xs ∧ s.heap.IsTuple l2 ys ∧
      R (.ok (.ret (.ref (zipTH4 s.heap l1 l2).objs.size))) { s with heap := zipKH5 s.heap l1 l2 k }) :=
  .of_wp fun prog w A R s h => by
    obtain ⟨hp, g, d, tk, os⟩ := s; obtain ⟨hl1, hl2, h⟩ := h
    have hsub := sub_zip
    have hL1 : Heap.IsTuple (Shared.heap ⟨hp, g, d, tk, os⟩) l1 xs := hl1
    have hL2 : Heap.IsTuple (Shared.heap ⟨hp.push { cls := .type "tuple_iterator", data := .fields #[.ref l1, .int 0 0] }, g, d, tk, os⟩) l2 ys := Heap.IsTuple.push hl2 _
    have e2 : (Str.ofString "strict" != ("strict" : Str)) = false := by decide +kernel
    wp_walk using wpAny_pyIter_tuple hL1, wpAny_pyIter_tuple hL2
    exact ⟨_, rfl, h⟩
end TPk
end R1_text

section R2_text
set_option Elab.async false
set_option linter.all false
set_option maxRecDepth 100000
set_option maxHeartbeats 4000000
namespace TPk
open PySem PySem.Spec PyProof.Rows L2 RZ
section
variable {prog : Program} {w : World} {A : Around} {E : Value → Shared → Prop} {s : Shared}
theorem call_zipK {l1 l2 : Addr} {xs ys : Array Value} {k : Bool} {Q : Value → Shared → Prop} (hl1 : s.heap.IsTuple l1 xs) (hl2 : s.heap.IsTuple l2 ys)
    (h : ∀ h', IsZipB h' (s.heap.objs.size + 4) (s.heap.objs.size + 2) (s.heap.objs.size + 3) .none k → IsPair h' (s.heap.objs.size + 2) (.ref s.heap.objs.size) (.ref (s.heap.objs.size + 1)) →
      IsPair h' (s.heap.objs.size + 3) .none .none → h'.IsTupleIter s.heap.objs.size l1 0 → h'.IsTupleIter (s.heap.objs.size + 1) l2 0 → h'.objs.size = s.heap.objs.size + 5 →
      (∀ c o, s.heap.get? c = some o → h'.get? c = some o) → Q (.ref (s.heap.objs.size + 4)) { s with heap := h' }) :
    wpAny (model prog w) A (call (.type "zip") [.ref l1, .ref l2] [(Str.ofString "strict", .bool k)]) Q E s := by
  refine callType_newKw F.called_zip (by decide) (typeCall_zip_k _ _ _) (newCall_zip_k _ _ _) (fun obj => args_object_init_k obj _ _ _) F.entry_zip_new
    (meets_zipK_new l1 l2 xs ys k) ⟨hl1, hl2, ?_⟩
  have z1 : (zipTH1 s.heap l1).objs.size = s.heap.objs.size + 1 := Heap.size_push ..
  have z2 : (zipTH2 s.heap l1 l2).objs.size = s.heap.objs.size + 2 := by rw [Heap.size_push, z1]
  have z3 : (zipTH3 s.heap l1 l2).objs.size = s.heap.objs.size + 3 := by rw [Heap.size_push, z2]
  have z4 : (zipTH4 s.heap l1 l2).objs.size = s.heap.objs.size + 4 := by rw [Heap.size_push, z3]
  have z5 : (zipKH5 s.heap l1 l2 k).objs.size = s.heap.objs.size + 5 := by rw [Heap.size_push, z4]
  have g5 : (zipKH5 s.heap l1 l2 k).get? (zipTH4 s.heap l1 l2).objs.size = some _ := Heap.get?_push_size _ rfl
  have g4 : (zipKH5 s.heap l1 l2 k).get? (zipTH3 s.heap l1 l2).objs.size = some _ := Heap.get?_push_of_some _ (Heap.get?_push_size _ rfl)
  have g3 : (zipKH5 s.heap l1 l2 k).get? (zipTH2 s.heap l1 l2).objs.size = some _ := Heap.get?_push_of_some _ (Heap.get?_push_of_some _ (Heap.get?_push_size _ rfl))
  have g2 : (zipKH5 s.heap l1 l2 k).get? (zipTH1 s.heap l1).objs.size = some _ := Heap.get?_push_of_some _ (Heap.get?_push_of_some _ (Heap.get?_push_of_some _ (Heap.get?_push_size _ rfl)))
  have g1 : (zipKH5 s.heap l1 l2 k).get? s.heap.objs.size = some _ := Heap.get?_push_of_some _ (Heap.get?_push_of_some _ (Heap.get?_push_of_some _ (Heap.get?_push_of_some _ (Heap.get?_push_size _ rfl))))
  show _ ∧ _
  rw [z2, z3, z4] at g5
  rw [z1, z2] at g3
  rw [z3] at g4
  rw [z1] at g2
  rw [z4]
  exact ⟨⟨_, g5, rfl⟩, h _ g5 g3 g4 ⟨_, g1, rfl, rfl⟩ ⟨_, g2, rfl, rfl⟩ z5 fun c o x =>
    Heap.get?_push_of_some _ (Heap.get?_push_of_some _ (Heap.get?_push_of_some _ (Heap.get?_push_of_some _ (Heap.get?_push_of_some _ x))))⟩

/-- a built-in class called with keywords -/
theorem callWith_type_kw {env : Env} {pos : Pos} {T : String} {e : Expr} {rest : List Expr} {kws : List Keyword} {Q : Value → Shared → Prop} {M : Model}
    (h : wpAny M A (spliced (backTo pos (starEach (e :: rest) env))) (fun vs s₁ => wpAny M A (evalAll ((backToKw pos (keywordEach kws env)).map (·.2)))
      (fun kvs s₂ => wpAny M A (call (.type T) vs (((backToKw pos (keywordEach kws env)).filterMap (·.1)).zip kvs)) Q E s₂) E s₁) E s)
    (he : backTo pos (starEach (e :: rest) env) = (false, eval e env) :: backTo pos (starEach rest env) := by rfl)
    (hplain : (backTo pos (starEach (e :: rest) env)).any (·.1) = false := by rfl)
    (hall : (backToKw pos (keywordEach kws env)).all (·.1.isSome) = true := by rfl)
    (hkw : (backToKw pos (keywordEach kws env)).any (·.1.isNone) = false := by rfl) :
    wpAny M A (callWith pos (.type T) [] (backTo pos (starEach (e :: rest) env)) (backToKw pos (keywordEach kws env))) Q E s := by
  have hz : wpAny M A (evalArgs (.type T) true (backTo pos (starEach (e :: rest) env)) (backToKw pos (keywordEach kws env))) (fun a s₁ => wpAny M A (call (.type T) ([] ++ a.pos) a.kw) Q E s₁) E s := by
    rw [he] at h ⊢
    exact PyProof.Rows.evalArgs_kwB hall h
  unfold callWith
  refine wpAny_bind (wpAny_holding (wpAny_mono hz (fun a s₁ h₁ => wpAny_bind (wpAny_standAt ?_)) fun _ _ x => x))
  simp only [hplain, hkw, Bool.or_false]
  refine wpAny_bind (wpAny_pure ?_)
  exact wpAny_bind (wpAny_mono h₁ (fun r s₂ hr => wpAny_bind (wpAny_holding (wpAny_point (wpAny_pure hr)))) fun _ _ x => x)

theorem nextOrEnd_item {it l : Addr} {i : Nat} {items} {x : Value} {Q : Option Value → Shared → Prop} (hit : s.heap.IsTupleIter it l i)
    (hl : s.heap.IsTuple l items) (hx : items[i]? = some x)
    (hQ : ∀ h', h'.IsTupleIter it l (i + 1) → Heap.SameBut it s.heap h' → Q (some x) { s with heap := h' }) :
    wpAny (model prog w) A (Builtin.SmallTypes.nextOrEnd (.ref it)) Q E s := by
  unfold Builtin.SmallTypes.nextOrEnd
  exact wpAny_bind (wpAny_attempt (nextOf_tuple_item hit hl hx fun h' a b => wpAny_pure (hQ h' a b)))

theorem zipS_next_item {z TI TO i1 i2 l1 l2 : Addr} {k1 k2 : Nat} {xs ys : Array Value} {x y a b : Value} {Q : Value → Shared → Prop} (D : ZipApart z TI TO i1 i2 l1 l2)
    (hz : IsZipB s.heap z TI TO .none true) (hTI : IsPair s.heap TI (.ref i1) (.ref i2)) (hTO : IsPair s.heap TO a b)
    (h1 : s.heap.IsTupleIter i1 l1 k1) (h2 : s.heap.IsTupleIter i2 l2 k2) (hl1 : s.heap.IsTuple l1 xs) (hl2 : s.heap.IsTuple l2 ys) (hx : xs[k1]? = some x) (hy : ys[k2]? = some y)
    (hQ : ∀ h', IsZipB h' z TI TO (rawInt s.heap.objs.size) true → IsPair h' TO x y → h'.IsTupleIter i1 l1 (k1 + 1) → h'.IsTupleIter i2 l2 (k2 + 1) → IsPair h' s.heap.objs.size x y → h'.objs.size = s.heap.objs.size + 1 →
      (∀ c o, c ≠ z → c ≠ TO → c ≠ i1 → c ≠ i2 → s.heap.get? c = some o → h'.get? c = some o) → Q (.ref s.heap.objs.size) { s with heap := h' }) :
    wpAny (model prog w) A (Builtin.«zip.__next__» ⟨[.ref z], []⟩) (fun fin s' => ∃ v, fin = .done (.ret v) ∧ Q v s') E s := by
  show wpAny _ _ (field (.ref z) 2 >>= _) _ _ _
  refine wpAny_bind (wpAny_field hz rfl (x := .bool true) rfl ?_)
  show wpAny _ _ (field (.ref z) 3 >>= _) _ _ _
  refine wpAny_bind (wpAny_field hz rfl (x := .ref TI) rfl ?_)
  refine wpAny_bind (wpAny_seqItems hTI rfl ?_)
  show wpAny _ _ (Builtin.SmallTypes.ownedTupleIsFree (.ref z) >>= _) _ _ _
  refine wpAny_bind ?_
  unfold Builtin.SmallTypes.ownedTupleIsFree
  refine wpAny_bind (wpAny_field hz rfl (x := .none) rfl (wpAny_pure ?_))
  simp only [if_true]
  refine wpAny_bind (wpAny_rule ?_)
  refine wpAny_bind (wpAny_field hz rfl (x := .ref TO) rfl ?_)
  refine wpAny_bind (wpAny_setField_rec hz (by simp) fun h₁ hz₁ hs₁ => ?_)
  replace hz₁ : IsZipB h₁ z TI TO .ellipsis true := hz₁
  refine wpAny_bind ?_
  simp only [List.zipIdx_cons, List.zipIdx_nil, List.forIn_cons, List.forIn_nil]

  refine wpAny_bind (wpAny_bind (wpAny_onRaise ?_))
  show wpAny _ _ (Builtin.SmallTypes.nextOrEnd (.ref i1)) _ _ _
  refine nextOrEnd_item (h1.extBut hs₁.extBut D.i1z) (hl1.extBut hs₁.extBut D.l1z) hx fun h₂ h1₂ hs₂ => ?_
  have hTO₂ : IsPair h₂ TO a b := hs₂.extBut _ _ D.TOi1 (hs₁.extBut _ _ D.TOz hTO)
  refine wpAny_bind (wpAny_seqItems hTO₂ rfl ?_)
  refine wpAny_bind (wpAny_updateSeq_pair hTO₂ fun h₃ hTO₃ hs₃ => ?_)
  replace hTO₃ : IsPair h₃ TO x b := hTO₃
  refine wpAny_bind (wpAny_letGo (wpAny_pure ?_))

  refine wpAny_bind (wpAny_bind (wpAny_onRaise ?_))
  show wpAny _ _ (Builtin.SmallTypes.nextOrEnd (.ref i2)) _ _ _
  refine nextOrEnd_item (((h2.extBut hs₁.extBut D.i2z).extBut hs₂.extBut D.i12.symm).extBut hs₃.extBut D.TOi2.symm)
    (((hl2.extBut hs₁.extBut D.l2z).extBut hs₂.extBut D.l2i1).extBut hs₃.extBut D.l2TO) hy fun h₄ h2₄ hs₄ => ?_
  have hTO₄ : IsPair h₄ TO x b := hs₄.extBut _ _ D.TOi2 hTO₃
  refine wpAny_bind (wpAny_seqItems hTO₄ rfl ?_)
  refine wpAny_bind (wpAny_updateSeq_pair hTO₄ fun h₅ hTO₅ hs₅ => ?_)
  replace hTO₅ : IsPair h₅ TO x y := hTO₅
  refine wpAny_bind (wpAny_letGo (wpAny_pure (wpAny_pure ?_)))

  refine wpAny_bind (wpAny_seqItems hTO₅ rfl ?_)
  refine wpAny_bind (wpAny_newTuple ?_)
  have hsz : h₅.objs.size = s.heap.objs.size := by rw [hs₅.1, hs₄.1, hs₃.1, hs₂.1, hs₁.1]
  have hz₅ : IsZipB h₅ z TI TO .ellipsis true := hs₅.extBut _ _ D.TOz.symm (hs₄.extBut _ _ D.i2z.symm (hs₃.extBut _ _ D.TOz.symm (hs₂.extBut _ _ D.i1z.symm hz₁)))
  have hk₅ : ∀ c o, c ≠ z → c ≠ TO → c ≠ i1 → c ≠ i2 → s.heap.get? c = some o → h₅.get? c = some o := fun c o c1 c2 c3 c4 e =>
    hs₅.extBut _ _ c2 (hs₄.extBut _ _ c4 (hs₃.extBut _ _ c2 (hs₂.extBut _ _ c3 (hs₁.extBut _ _ c1 e))))
  have h1₅ : h₅.IsTupleIter i1 l1 (k1 + 1) := ((h1₂.extBut hs₃.extBut D.TOi1.symm).extBut hs₄.extBut D.i12).extBut hs₅.extBut D.TOi1.symm
  have h2₅ : h₅.IsTupleIter i2 l2 (k2 + 1) := h2₄.extBut hs₅.extBut D.TOi2.symm
  have hzlt : z < h₅.objs.size := Heap.lt_size hz₅
  show wpAny _ _ (Builtin.SmallTypes.ownedTupleHandOut (.ref z) (.ref h₅.objs.size) >>= _) _ _ _
  refine wpAny_bind ?_
  unfold Builtin.SmallTypes.ownedTupleHandOut
  have hz₆ : IsZipB (h₅.push { cls := .type "tuple", data := .seq #[x, y] }) z TI TO .ellipsis true := Heap.get?_push_of_some _ hz₅
  refine wpAny_bind (wpAny_setField_rec hz₆ (by simp) fun h₇ hz₇ hs₇ => ?_)
  replace hz₇ : IsZipB h₇ z TI TO (rawInt h₅.objs.size) true := hz₇
  refine wpAny_setField_rec hz₇ (by simp) fun h₈ hz₈ hs₈ => ?_
  replace hz₈ : IsZipB h₈ z TI TO (rawInt h₅.objs.size) true := hz₈
  have up : ∀ c o, c ≠ z → h₅.get? c = some o → h₈.get? c = some o := fun c o c1 e => hs₈.extBut _ _ c1 (hs₇.extBut _ _ c1 (Heap.get?_push_of_some _ e))
  have hT₈ : IsPair h₈ h₅.objs.size x y := hs₈.extBut _ _ (Nat.ne_of_gt hzlt) (hs₇.extBut _ _ (Nat.ne_of_gt hzlt) (Heap.get?_push_size _ rfl))
  have hz8 : h₈.objs.size = h₅.objs.size + 1 := by rw [hs₈.1, hs₇.1, Heap.size_push]
  rw [hsz] at hz₈ hT₈ hz8
  refine wpAny_pure ⟨_, rfl, ?_⟩
  show Q (.ref h₅.objs.size) _
  rw [hsz]
  exact hQ h₈ hz₈ (up _ _ D.TOz hTO₅) (h1₅.at fun o e => up _ o D.i1z e) (h2₅.at fun o e => up _ o D.i2z e) hT₈ hz8 fun c o c1 c2 c3 c4 e => up c o c1 (hk₅ c o c1 c2 c3 c4 e)
theorem pyNext_zipS_item {z TI TO i1 i2 l1 l2 : Addr} {k1 k2 : Nat} {xs ys : Array Value} {x y a b : Value} {Q : Option Value → Shared → Prop} (D : ZipApart z TI TO i1 i2 l1 l2)
    (hz : IsZipB s.heap z TI TO .none true) (hTI : IsPair s.heap TI (.ref i1) (.ref i2)) (hTO : IsPair s.heap TO a b)
    (h1 : s.heap.IsTupleIter i1 l1 k1) (h2 : s.heap.IsTupleIter i2 l2 k2) (hl1 : s.heap.IsTuple l1 xs) (hl2 : s.heap.IsTuple l2 ys) (hx : xs[k1]? = some x) (hy : ys[k2]? = some y)
    (hQ : ∀ h', IsZipB h' z TI TO (rawInt s.heap.objs.size) true → IsPair h' TO x y → h'.IsTupleIter i1 l1 (k1 + 1) → h'.IsTupleIter i2 l2 (k2 + 1) → IsPair h' s.heap.objs.size x y → h'.objs.size = s.heap.objs.size + 1 →
      (∀ c o, c ≠ z → c ≠ TO → c ≠ i1 → c ≠ i2 → s.heap.get? c = some o → h'.get? c = some o) → Q (some (.ref s.heap.objs.size)) { s with heap := h' }) :
    wpAny (model prog w) A (pyNext (.ref z)) Q E s := by
  have hT : s.TypeIs (.ref z) "zip" := ⟨_, hz, rfl⟩
  unfold pyNext
  exact wpAny_bind (wpAny_attempt (wpAny_callSpecial?_slot (name := Str.ofString "__next__") hT F.slot_zip_next
    (wpAny_call_entry F.slot_zip_next hT F.entry_zip_next
      (zipS_next_item D hz hTI hTO h1 h2 hl1 hl2 hx hy fun h' a1 a2 a3 a4 a5 a6 a7 => wpAny_pure (hQ h' a1 a2 a3 a4 a5 a6 a7)) (F.args_zip_next_1 _))))
theorem iter_zipB {z TI TO : Addr} {f0 : Value} {k : Bool} {Q : Value → Shared → Prop} (hz : IsZipB s.heap z TI TO f0 k) (h : Q (.ref z) s) : wpAny (model prog w) A (pyIter (.ref z)) Q E s := by
  have hT : s.TypeIs (.ref z) "zip" := ⟨_, hz, rfl⟩
  exact wpAny_pyIter_slot hT F.slot_zip_iter (wpAny_call_entry F.slot_zip_iter hT F.entry_zip_iter (show wpAny _ _ (ret (.ref z)) _ _ s from wpAny_pure ⟨_, rfl, "zip", _, hT, F.slot_zip_next.lookup, h⟩) (F.args_zip_iter_1 _))
theorem go_zipS {elts : List Expr} {x1} {pos : Pos} {z TI TO T : Addr} {Q : Unit → Shared → Prop} (hz : IsZipB s.heap z TI TO (rawInt T) true)
    (hQ : ∀ h', IsZipB h' z TI TO .none true → Heap.SameBut z s.heap h' → Q () { s with heap := h' }) :
    wpAny (model prog w) A (letOwnedTupleGo (.Tuple elts x1 pos) (.ref z) (.ref T)) Q E s := by
  unfold letOwnedTupleGo
  refine wpAny_bind (wpAny_load hz ?_)
  show wpAny _ _ (if (["enumerate", "zip", "dict_itemiterator", "dict_reverseitemiterator", "odict_iterator", "itertools.zip_longest", "itertools.pairwise"].contains "zip" &&
      (#[rawInt T, .bool false, .bool true, .ref TI, .ref TO] : Array Value)[0]? == some (rawInt T)) = true then _ else _) Q E s
  rw [if_pos (by simp)]
  refine wpAny_bind (wpAny_rule (show wpAny _ _ (setField (.ref z) 0 .none) _ E s from ?_))
  exact wpAny_setField_rec hz (by simp) fun h' hz' hs' => hQ h' hz' hs'
end
/-! ### walked by a for | a comprehension -/
/-- strict: two tuples of one length whose end is never reached -/
def ItzS (K : PySem.W.Frag) (a b : Addr) : It :=
  ⟨fun i H => ∃ (xs ys : List V) (x y : V), SqT K H a xs ∧ SqT K H b ys ∧ xs[i]? = some x ∧ ys[i]? = some y,
    fun i H v H' => ∃ T x y, v = .ref T ∧ H T = none ∧ H' = upd H T (.tup [x, y]) ∧ (∀ xs, SqT K H a xs → xs[i]? = some x) ∧ ∀ ys, SqT K H b ys → ys[i]? = some y,
    fun _ _ => False⟩
theorem mem5 {c z TI TO i1 i2 : Addr} (h : c ∈ [z, TI, TO, i1, i2]) : c = z ∨ c = TI ∨ c = TO ∨ c = i1 ∨ c = i2 := by simpa using h
theorem turn_zipS {P : Program} {w : World} {K : PySem.W.Frag} {elts : List Expr} {kk : Nat} {tpos : Pos} {a b z TI TO i1 i2 : Addr} (D : ZipApart z TI TO i1 i2 a b) :
    Turn P w K (.Tuple elts kk tpos) (ItzS K a b) [z, TI, TO, i1, i2] z (fun i h => IsZipB h z TI TO .none true ∧ IsPair h TI (.ref i1) (.ref i2) ∧ (∃ x y, IsPair h TO x y) ∧ h.IsTupleIter i1 a i ∧ h.IsTupleIter i2 b i) where
  mem := List.mem_cons_self
  obj := fun i h st c hc => by
    obtain ⟨hz, hTI, ⟨x, y, hTO⟩, ⟨o1, e1, _, d1⟩, ⟨o2, e2, _, d2⟩⟩ := st
    rcases mem5 hc with q | q | q | q | q <;> subst q
    · exact ⟨_, hz, fun v q => nomatch q⟩
    · exact ⟨_, hTI, fun v q => nomatch q⟩
    · exact ⟨_, hTO, fun v q => nomatch q⟩
    · exact ⟨o1, e1, fun v q => by rw [d1] at q; cases q⟩
    · exact ⟨o2, e2, fun v q => by rw [d2] at q; cases q⟩
  keep := fun i h h' ⟨hz, hTI, ⟨x, y, hTO⟩, h1, h2⟩ k =>
    ⟨k z (by simp) _ hz, k TI (by simp) _ hTI, ⟨x, y, k TO (by simp) _ hTO⟩, h1.at fun o q => k i1 (by simp) o q, h2.at fun o q => k i2 (by simp) o q⟩
  item := by
    intro X hP hw hK hc i pins s σ H E I hf st hg
    subst hP hw hK
    obtain ⟨hz, hTI, ⟨x0, y0, hTO⟩, h1, h2⟩ := st
    obtain ⟨xs, ys, x, y, hqx, hqy, hx, hy⟩ := hg
    obtain ⟨its, rv, p, _⟩ := I.tuple hqx
    obtain ⟨its2, rv2, p2, _⟩ := I.tuple hqy
    obtain ⟨u, hu, ru⟩ := rv.get hx
    obtain ⟨u2, hu2, ru2⟩ := rv2.get hy
    have hzl : z < s.heap.objs.size := Heap.lt_size hz
    have hlt : ∀ c ∈ [z, TI, TO, i1, i2], c < s.heap.objs.size := fun c hcm => by
      rcases mem5 hcm with q | q | q | q | q <;> subst q
      · exact hzl
      · exact Heap.lt_size hTI
      · exact Heap.lt_size hTO
      · obtain ⟨_, e1, _⟩ := h1; exact Heap.lt_size e1
      · obtain ⟨_, e2, _⟩ := h2; exact Heap.lt_size e2
    refine pyNext_zipS_item D hz hTI hTO h1 h2 p p2 (x := u) (y := u2) (by simpa using hu) (by simpa using hu2) fun h' z' TO' h1' h2' hT hsz hk => ?_
    refine ⟨_, rfl, go_zipS (s := { s with heap := h' }) z' fun h'' z'' sb => ?_⟩
    have hT2 : h''.get? s.heap.objs.size = some { cls := .type "tuple", data := .seq #[u, u2] } := (sb.2 _ (Nat.ne_of_gt hzl)).trans hT
    have new : ObjOk X.prog X.w (upd H s.heap.objs.size (.tup [x, y])) h'' s.heap.objs.size (.tup [x, y]) :=
      ⟨by show 2 ≤ sizeLine; decide, [u, u2], .cons ru (.cons ru2 .nil), ⟨_, hT2, rfl, _, rfl⟩⟩
    have I1 : Inv X pins σ (upd H s.heap.objs.size (.tup [x, y])) { s with heap := h'' } :=
      I.turnedNew (t' := s.toks) (ch := [z, TI, TO, i1, i2]) (fun c o hb q => (sb.2 c (fun q' => hb (by simp [q']))).trans (hk c o (fun q' => hb (by simp [q'])) (fun q' => hb (by simp [q'])) (fun q' => hb (by simp [q'])) (fun q' => hb (by simp [q'])) q)) hf (Nat.le_refl _) new
    exact ⟨.ref s.heap.objs.size, _, I1, rfl, ⟨_, x, y, rfl, I.hok.fresh (Nat.le_refl _), rfl, fun l hl => by rw [I.tuple_inj hl hqx]; exact hx, fun l hl => by rw [I.tuple_inj hl hqy]; exact hy⟩,
      ⟨z'', (sb.2 _ D.TIz).trans (hk _ _ D.TIz D.TITO D.TIi1 D.TIi2 hTI), ⟨u, u2, (sb.2 _ D.TOz).trans TO'⟩, h1'.at fun o q => (sb.2 _ D.i1z).trans q, h2'.at fun o q => (sb.2 _ D.i2z).trans q⟩,
      fun c hcm => by rw [upd_ne (Nat.ne_of_lt (hlt c hcm))]; exact (hf c hcm).1⟩
  done := fun _ _ _ _ _ _ _ _ _ _ _ _ _ _ hg => hg.elim
  self := fun A i s Q E st h => iter_zipB st.1 h
/-- zip(a, b, strict=k) over two tuples -/
def iZipK (K : PySem.W.Frag) (k : Bool) (ta : TA) : TI := fun σ H R => ta σ H fun vs H1 => ∃ a b xs ys, vs = [.ref a, .ref b] ∧ SqT K H1 a xs ∧ SqT K H1 b ys ∧ R (if k = true then ItzS K a b else ItzT K a b) H1
theorem pi_zipK {X : Cx} {e e2 : Expr} {ta : TA} {k : Bool} {p p2 p3 pos tpos : Pos} {j : Nat} {elts : List Expr} {kk : Nat} (hg : Gl X "zip") (hm : X.mg "zip" = none) (ha : PA X [e, e2] ta)
    (he : backTo pos (starEach [e, e2] X.env) = (false, eval e X.env) :: backTo pos (starEach [e2] X.env) := by rfl) (hpl : (backTo pos (starEach [e, e2] X.env)).any (·.1) = false := by rfl) :
    PI X (.Tuple elts kk tpos) (.Call (.Name "zip" p) [e, e2] [⟨some (Str.ofString "strict"), .Constant (.bool k) j p2, p3⟩] pos) (iZipK X.K k ta) := by
  refine ⟨fun pins s σ H R I h => ?_⟩
  have hk : PK X [⟨some (Str.ofString "strict"), .Constant (.bool k) j p2, p3⟩] (tCons (tC (.bl k)) tNil) := pk_cons pe_bl pk_nil
  refine wpAny_Call_Name_kw (ld_blt I hg hm PyProof.Rows.boot_zip (callWith_type_kw (kws := [⟨some (Str.ofString "strict"), .Constant (.bool k) j p2, p3⟩]) (thn (ha.run pos pins s σ H _ I h) fun us s1 ⟨vs, H1, I1, r1, q1⟩ => ?_) he hpl))
  obtain ⟨a, b, xs, ys, ex, hqx, hqy, q⟩ := q1
  subst ex
  refine thn (hk.run pos pins s1 σ H1 (fun zs H2 => zs = [V.bl k] ∧ H2 = H1) I1 ⟨rfl, rfl⟩) fun ks s2 ⟨zs, H2, I2, rz, ez, eH⟩ => ?_
  subst ez eH
  cases rz with
  | cons rk rr =>
    cases rr
    cases rk
    cases r1 with
    | cons r rr =>
      cases rr with
      | cons r' rr =>
        cases rr
        cases r
        cases r'
        have fresh5 : ∀ c, c ∈ [s2.heap.objs.size + 4, s2.heap.objs.size + 2, s2.heap.objs.size + 3, s2.heap.objs.size, s2.heap.objs.size + 1] → FpOk X pins H2 c := fun c hcm => by
          have hle : s2.heap.objs.size ≤ c := by
            rcases mem5 hcm with z | z | z | z | z <;> subst z <;> first | exact Nat.le_add_right _ _ | exact Nat.le_refl _
          exact I2.fpOk hle (I2.hok.fresh hle)
        obtain ⟨its, rv, p1, _⟩ := I2.tuple hqx
        obtain ⟨its2, rv2, p2, _⟩ := I2.tuple hqy
        obtain ⟨o1, ho1, _⟩ := id p1
        obtain ⟨o2, ho2, _⟩ := id p2
        refine call_zipK (k := k) (show s2.heap.IsTuple a its.toArray from p1) (show s2.heap.IsTuple b its2.toArray from p2) fun h' hz hTI hTO h1 h2 hsz hk => iter_zipB hz ?_
        have I3 : Inv X pins σ H2 { s2 with heap := h' } := I2.kept (t' := s2.toks) hk
        have D := PySem.W.ktu_apart s2.heap.objs.size a b (Heap.lt_size ho1) (Heap.lt_size ho2)
        cases k with
        | true => exact ⟨s2.heap.objs.size + 4, [s2.heap.objs.size + 4, s2.heap.objs.size + 2, s2.heap.objs.size + 3, s2.heap.objs.size, s2.heap.objs.size + 1], _, _, H2, rfl, I3, turn_zipS D, ⟨hz, hTI, ⟨_, _, hTO⟩, h1, h2⟩, fresh5, q⟩
        | false => exact ⟨s2.heap.objs.size + 4, [s2.heap.objs.size + 4, s2.heap.objs.size + 2, s2.heap.objs.size + 3, s2.heap.objs.size, s2.heap.objs.size + 1], _, _, H2, rfl, I3, turn_zipT D, ⟨hz, hTI, ⟨_, _, hTO⟩, h1, h2⟩, fresh5, q⟩
end TPk
end R2_text

section R3_text
set_option Elab.async false
set_option linter.all false
set_option maxRecDepth 100000
set_option maxHeartbeats 4000000
/-! d | e of two dicts with keys carried by value. -/
namespace TPk
open PySem PySem.Spec PyProof.Rows L2
section
variable {prog : Program} {w : World} {A : Around} {E : Value → Shared → Prop} {s : Shared} {K : Type} [DecidableEq K] {knd : KeyKind prog w K}
/-- copyOf of a dict that is not empty -/
theorem copyOf_pairs {nm : String} {d : Addr} {kvs : List (K × Value)} {Q : Value → Shared → Prop} (hd : (d == sysModules) = false) (hm : s.heap.DictOf knd d kvs) (hsz : kvs.length ≤ sizeLine)
    (h : ∀ h', h'.DictOf knd s.heap.objs.size kvs → h'.objs.size = s.heap.objs.size + 1 → (∀ b o, s.heap.get? b = some o → h'.get? b = some o) → Q (.ref s.heap.objs.size) { s with heap := h' }) :
    wpAny (model prog w) A (Builtin.Dict.copyOf nm (.ref d)) Q E s := by
  obtain ⟨o, es, ep, ho, hc, hdat, hk, hp, hn⟩ := id hm
  have hes : es.size ≤ sizeLine + 1 := by
    have e1 := hp.length
    have e2 : es.toList.length = es.size := by simp
    omega
  unfold Builtin.Dict.copyOf
  refine wpAny_bind (wpAny_pure ?_)
  unfold Builtin.Dict.showsAll
  rw [if_neg (by rw [hd]; exact Bool.false_ne_true)]
  refine wpAny_bind (wpAny_pure ?_)
  refine wpAny_bind (wpAny_dictEntries ho hdat ?_)
  have new : ∀ es' : Array DictEntry, es' = es → Q (.ref s.heap.objs.size) { s with heap := s.heap.push { cls := .type "dict", data := .dict es' } } := by
    rintro es' rfl
    exact h _ ⟨_, es', 0, Heap.get?_push_size _ rfl, ⟨rfl, rfl, rfl⟩, rfl, hk, hp, hn⟩ (Heap.size_push ..) fun b o' e => Heap.get?_push_of_some _ e
  by_cases hemp : es.isEmpty = true
  · rw [if_pos hemp]
    exact wpAny_bind (wpAny_rule (wpAny_newObj_type (new #[] (Array.isEmpty_iff.mp hemp).symm)))
  · rw [if_neg hemp]
    refine wpAny_bind ?_
    unfold Builtin.Dict.readDirectly
    refine wpAny_bind (wpAny_isInstance hm.typeIs isSubtype_dict_dict ?_)
    simp only [Bool.not_true, Bool.false_eq_true, if_false]
    refine wpAny_bind (wpAny_specialOf hm.typeIs F.slot_dict_iter.lookup (wpAny_pure ?_))
    simp only [beq_self_eq_true, if_true]
    exact wpAny_bind (wpAny_entriesForEmpty (knd := knd) ho hdat hk (wpAny_newObj_type (new es rfl) hes))
/-- merging a dict into one -/
theorem updateFrom_pairsD {nm : String} {d o : Addr} {kvs more : List (K × Value)} {r : Value} {Q : Fin → Shared → Prop} (hdo : d ≠ o) (hoS : (o == sysModules) = false) (hd : s.heap.DictOf knd d kvs) (ho : s.heap.DictOf knd o more)
    (hsz : kvs.length + more.length ≤ sizeLine) (h : ∀ h', h'.DictOf knd d (merged kvs more) → Heap.SameBut d s.heap h' → Q (.done (.ret r)) { s with heap := h' }) :
    wpAny (model prog w) A (Builtin.Dict.updateFrom nm d (.ref o) [] r) Q E s := by
  unfold Builtin.Dict.updateFrom
  refine wpAny_bind (wpAny_typeOf ho.typeIs ?_)
  rw [if_neg (by decide)]
  refine wpAny_bind ?_
  unfold Builtin.Dict.merge
  refine wpAny_bind ?_
  unfold Builtin.Dict.readDirectly
  refine wpAny_bind (wpAny_isInstance ho.typeIs isSubtype_dict_dict ?_)
  simp only [Bool.not_true, Bool.false_eq_true, if_false]
  refine wpAny_bind (wpAny_specialOf ho.typeIs F.slot_dict_iter.lookup (wpAny_pure ?_))
  simp only [beq_self_eq_true, if_true]
  refine wpAny_bind (wpAny_pure (wpAny_mergeDict (hsz := hsz) hdo hoS hd ho fun h' hd' ho' hs' => ?_))
  show wpAny _ _ (Builtin.Dict.addKeywords d [] >>= _) _ _ _
  exact wpAny_bind (wpAny_pure (wpAny_pure (h h' hd' hs')))
theorem or_dicts {a b : Addr} {kvs more : List (K × Value)} {Q : Value → Shared → Prop} (ha : (a == sysModules) = false) (hb : (b == sysModules) = false) (hm : s.heap.DictOf knd a kvs) (hm2 : s.heap.DictOf knd b more)
    (hsz : kvs.length + more.length ≤ sizeLine)
    (h : ∀ h', h'.DictOf knd s.heap.objs.size (merged kvs more) → (∀ c o, s.heap.get? c = some o → h'.get? c = some o) → Q (.ref s.heap.objs.size) { s with heap := h' }) :
    wpAny (model prog w) A (binaryOp .BitOr (.ref a) (.ref b)) Q E s := by
  have ltb : b < s.heap.objs.size := let ⟨_, _, _, ho, _⟩ := hm2; Heap.lt_size ho
  refine wpAny_binaryOp_same (op := .BitOr) (T := "dict") hm.typeIs hm2.typeIs F.fills_dict_or F.slot_dict_or (wpAny_call_entry F.slot_dict_or hm.typeIs F.entry_dict_or ?_ (F.args_dict_or_2 _ _))
  unfold Builtin.«dict.__or__»
  refine wpAny_bind ?_
  unfold Builtin.Dict.dictSlotArgs
  refine wpAny_bind (wpAny_notOrdered_dict hm.typeIs ?_)
  refine wpAny_pure ?_
  refine wpAny_bind ?_
  refine wpAny_bind (wpAny_isInstance hm.typeIs isSubtype_dict_dict ?_)
  show wpAny _ _ (isInstance (.ref b) (.type "dict")) _ _ s
  refine wpAny_isInstance hm2.typeIs isSubtype_dict_dict ?_
  rw [if_neg (by decide)]
  refine wpAny_bind (copyOf_pairs ha hm (by omega) fun h1 d1 z1 k1 => ?_)
  have n1 : s.heap.objs.size ≠ b := Nat.ne_of_gt ltb
  have e2 : h1.DictOf knd b more := let ⟨o, es, ep, ho, c⟩ := hm2; ⟨o, es, ep, k1 _ _ ho, c⟩
  show wpAny _ _ (pure s.heap.objs.size >>= fun x => holding [Value.ref s.heap.objs.size] (Builtin.Dict.updateFrom "dict.__or__" x (.ref b) [] (.ref s.heap.objs.size))) _ _ _
  refine wpAny_bind (wpAny_pure (wpAny_holding (updateFrom_pairsD (s := { s with heap := h1 }) n1 hb d1 e2 hsz fun h2 d2 sb => ?_)))
  exact ⟨_, rfl, (fun z => nomatch z), h h2 d2 fun c o e => (sb.2 c (Nat.ne_of_lt (Heap.lt_size e))).trans (k1 c o e)⟩
end
section
variable {X : Cx}
/-- d | e, keys ints and texts: a new dict -/
def rOrD : R2 := fun x y H Q => ∃ a b ks ls, x = .ref a ∧ y = .ref b ∧ H a = some (.dK ks) ∧ H b = some (.dK ls) ∧ ks.length + ls.length ≤ sizeLine ∧ ∀ p, H p = none → Q (.ref p) (upd H p (.dK (mergeK ks ls)))
theorem mergeK_length : ∀ (more kvs : List (Key × V)), (mergeK kvs more).length ≤ kvs.length + more.length
  | [], kvs => Nat.le_refl _
  | p :: more, kvs => by
    have h1 := mergeK_length more (putK kvs p.1 p.2)
    have h2 := length_putK kvs p.1 p.2
    show (mergeK (putK kvs p.1 p.2) more).length ≤ kvs.length + (more.length + 1)
    omega
theorem op_or_dict : OpR X (binaryOp .BitOr) rOrD := by
  intro pins s σ H x y v u Q I rx ry h
  obtain ⟨a, b, ks, ls, rfl, rfl, ha, hb, hz, q⟩ := h
  cases rx
  cases ry
  obtain ⟨z1, n1, vs, r1, d1⟩ := dk_of I.hok ha
  obtain ⟨z2, n2, ws, r2, d2⟩ := dk_of I.hok hb
  refine or_dicts n1 n2 d1 d2 (by rw [← r1.length, ← r2.length]; exact hz) fun h' d' k' => ?_
  have hf : H s.heap.objs.size = none := I.hok.fresh (Nat.le_refl _)
  refine ⟨.ref s.heap.objs.size, upd H s.heap.objs.size (.dK (mergeK ks ls)), I.laid (t' := s.toks) k' (Nat.le_refl _) ?_, rfl, q _ hf⟩
  exact dk_new (Nat.le_trans (mergeK_length _ _) hz) (beq_eq_false_iff_ne.mpr (Ne.symm (Nat.ne_of_lt I.big))) (KV.merge r2 r1) d'
end
end TPk
end R3_text

section R4_text
set_option Elab.async false
set_option linter.all false
set_option maxRecDepth 100000
set_option maxHeartbeats 4000000
/-! enumerate(tuple); sorted(tuple of texts); text * int; o[k] by an own __getitem__. -/
namespace TPk
open PySem PySem.Spec PyProof.Rows L2

/-! ### enumerate over a tuple -/
theorem meets_enum_one {v : Value} {o : Obj} {H : Heap → Prop} (B : Begins v o H) :
    Meets (Builtin.«enumerate.__new__» ⟨[.type "enumerate", v], []⟩) (fun _ R s => H s.heap ∧
      R (.ok (.ret (.ref (s.heap.push o).objs.size))) { s with heap := (s.heap.push o).push { cls := .type "enumerate", data := .fields #[.none, .bool false, .ref s.heap.objs.size, rawInt 0, .none, .none] } }) :=
  .of_wp fun prog w A R s h => by
    obtain ⟨hp, g, d, tk, os⟩ := s; obtain ⟨h1, h⟩ := h
    have hsub := sub_enumerate
    have q1 : ∀ {A' : Around} {E : Value → Shared → Prop} {Q : Value → Shared → Prop}, Q (.ref hp.objs.size) ⟨hp.push o, g, d, tk, os⟩ → wpAny (model prog w) A' (pyIter v) Q E ⟨hp, g, d, tk, os⟩ :=
      fun q => B.iter prog w _ _ ⟨hp, g, d, tk, os⟩ _ h1 q
    wp_walk using q1
    refine wpAny_stack_any fun st => wpAny_pure ?_
    split
    · rename_i c _ _ _ _ _
      cases (c == Value.type "enumerate") <;> (wp_walk using q1; exact ⟨_, rfl, h⟩)
    · wp_walk using q1
      exact ⟨_, rfl, h⟩
section
variable {prog : Program} {w : World} {A : Around} {E : Value → Shared → Prop} {s : Shared}
theorem call_enum_tuple {t : Addr} {items : Array Value} {Q : Value → Shared → Prop} (ht : s.heap.IsTuple t items)
    (h : ∀ h', IsEnum h' (s.heap.objs.size + 1) s.heap.objs.size 0 .none → h'.IsTupleIter s.heap.objs.size t 0 → (∀ b o, s.heap.get? b = some o → h'.get? b = some o) → Q (.ref (s.heap.objs.size + 1)) { s with heap := h' }) :
    wpAny (model prog w) A (call (.type "enumerate") [.ref t]) Q E s := by
  refine callType_new F.called_enumerate (by decide) (F.typeCall_enumerate_1 _) (F.newCall_enumerate_1 _) (fun obj => F.args_object_init_2 obj _) F.entry_enumerate_new
    (meets_enum_one (begins_tuple t items)) ⟨ht, ?_⟩
  have hz : (s.heap.push { cls := .type "tuple_iterator", data := .fields #[.ref t, .int 0 0] }).objs.size = s.heap.objs.size + 1 := Heap.size_push ..
  show _ ∧ _
  have he := Heap.get?_push_size (s.heap.push { cls := .type "tuple_iterator", data := .fields #[.ref t, .int 0 0] }) (o := { cls := .type "enumerate", data := .fields #[.none, .bool false, .ref s.heap.objs.size, rawInt 0, .none, .none] }) rfl
  rw [hz] at he ⊢
  exact ⟨⟨_, he, rfl⟩, h _ he ⟨_, Heap.get?_push_of_some _ (Heap.get?_push_size _ rfl), rfl, rfl⟩ fun b o x => Heap.get?_push_of_some _ (Heap.get?_push_of_some _ x)⟩
end
def ItT (K : PySem.W.Frag) (a : Addr) : It :=
  ⟨fun i H => ∃ (xs : List V) (x : V), SqT K H a xs ∧ xs[i]? = some x, fun i H v H' => ∃ T x, v = .ref T ∧ H T = none ∧ H' = upd H T (.tup [.int (i : Nat), x]) ∧ ∀ xs, SqT K H a xs → xs[i]? = some x, fun i H => ∃ xs : List V, SqT K H a xs ∧ xs.length ≤ i⟩
theorem mem2 {b e it : Addr} (h : b ∈ [e, it]) : b = e ∨ b = it := by simpa using h
theorem turn_enumT {P : Program} {w : World} {K : PySem.W.Frag} {elts : List Expr} {kk : Nat} {tpos : Pos} (a e it : Addr) (hei : e ≠ it) (hea : e ≠ a) (hai : a ≠ it) :
    Turn P w K (.Tuple elts kk tpos) (ItT K a) [e, it] e (fun i h => (∃ old, IsEnum h e it ((i : Nat) : Int) old) ∧ h.IsTupleIter it a i) where
  mem := List.mem_cons_self
  obj := fun i h ⟨⟨old, he⟩, ⟨o, ho, hc, hd⟩⟩ b hb => by
    rcases mem2 hb with z | z <;> subst z
    · exact ⟨_, he, fun v q => nomatch q⟩
    · exact ⟨o, ho, fun v q => by rw [hd] at q; cases q⟩
  keep := fun i h h' ⟨⟨old, he⟩, hi⟩ k => ⟨⟨old, k e (by simp) _ he⟩, hi.at fun o q => k it (by simp) o q⟩
  item := by
    intro X hP hw hK hc i pins s σ H E I hf ⟨⟨old, he⟩, hit⟩ ⟨xs, x, hq, hx⟩
    subst hP hw hK
    obtain ⟨its, rv, p, hz⟩ := I.tuple hq
    obtain ⟨u, hu, ru⟩ := rv.get hx
    have hlt : ∀ b ∈ [e, it], b < s.heap.objs.size := fun b hb => by
      rcases mem2 hb with z | z <;> subst z
      · exact Heap.lt_size he
      · obtain ⟨_, q, _⟩ := hit; exact Heap.lt_size q
    have hel := hlt e (by simp)
    have hil : i < its.toArray.size := by
      rw [List.size_toArray]
      exact (List.getElem?_eq_some_iff.mp hu).1
    refine wpAny_pyNext_enum_itemD (Draws.tuple (A := X.A.in1) (show X.A.in1.handled = none from I.ok.hd hc) it a hai its.toArray) he ⟨hit, p⟩ hil hei (by simp [hei, hea]) fun x' h' tk hx' ho hit' hT hsz hk => ?_
    have ex : x' = u := by
      have h1 : its[i]? = some x' := by simpa using hx'
      rw [hu] at h1
      exact (Option.some.inj h1).symm
    subst ex
    refine ⟨_, rfl, wpAny_letOwnedTupleGo_enum (s := { s with heap := h', toks := tk + 1 }) ho fun h'' he' sb => ?_⟩
    have hT2 : h''.get? s.heap.objs.size = some { cls := .type "tuple", data := .seq #[.int i tk, x'] } := (sb.2 _ (Nat.ne_of_gt hel)).trans hT
    have new : ObjOk X.prog X.w (upd H s.heap.objs.size (.tup [.int (i : Nat), x])) h'' s.heap.objs.size (.tup [.int (i : Nat), x]) :=
      ⟨by show 2 ≤ sizeLine; decide, [.int i tk, x'], .cons ⟨_, rfl⟩ (.cons ru .nil), ⟨_, hT2, rfl, _, rfl⟩⟩
    have I1 : Inv X pins σ (upd H s.heap.objs.size (.tup [.int (i : Nat), x])) { s with heap := h'', toks := tk + 1 } :=
      I.turnedNew (ch := [e, it]) (fun b ob hb q => (sb.2 b (fun z => hb (by simp [z]))).trans (hk b ob (fun z => hb (by simp [z])) (fun z => hb (by simp [z])) q)) hf (Nat.le_refl _) new
    have e1 : ((i + 1 : Nat) : Int) = (i : Int) + 1 := by omega
    exact ⟨.ref s.heap.objs.size, _, I1, rfl, ⟨_, x, rfl, I.hok.fresh (Nat.le_refl _), rfl, fun ys hy => by rw [I.tuple_inj hy hq]; exact hx⟩,
      ⟨⟨x', by rw [e1]; exact he'⟩, hit'.1.at fun o q => (sb.2 it (Ne.symm hei)).trans q⟩, fun b hb => by rw [upd_ne (Nat.ne_of_lt (hlt b hb))]; exact (hf b hb).1⟩
  done := by
    intro X hP hw hK hc i pins s σ H E I hf ⟨⟨old, he⟩, hit⟩ ⟨xs, hq, hx⟩
    subst hP hw hK
    obtain ⟨its, rv, p, hz⟩ := I.tuple hq
    obtain ⟨f0, f1, f2, f3, f4, f5⟩ := hf it (by simp)
    have hl := rv.length
    have hx2 : its.toArray[i]? = none := by simp; omega
    have hT : s.TypeIs (.ref e) "enumerate" := ⟨_, he, rfl⟩
    unfold pyNext
    refine wpAny_bind (wpAny_attempt (wpAny_callSpecial?_slot (name := Str.ofString "__next__") hT F.slot_enumerate_next
      (wpAny_call_entry F.slot_enumerate_next hT F.entry_enumerate_next ?_ (F.args_enumerate_next_1 _))))
    show wpAny _ _ (field (.ref e) 2 >>= _) _ _ _
    refine wpAny_bind (wpAny_field he rfl (x := .ref it) rfl (wpAny_bind ?_))
    refine RZ.nextOf_tuple_end (I.ok.hd hc) hit p hx2 fun h' x he' hx' => ?_
    obtain ⟨o, ho, hcl⟩ := hx'
    refine wpAny_bind (wpAny_isInstance (T := "StopIteration") (b := true) ⟨o, ho, hcl⟩ isSubtype_stop (wpAny_pure ?_))
    exact ⟨rfl, I.turned (t' := s.toks) (fun b o hb q => he' b o hb q) f0 f1 f3 f4 f5⟩
  self := fun A i s Q E ⟨⟨_, he⟩, _⟩ h => wpAny_pyIter_enum he h
def iEnumT (K : PySem.W.Frag) (ta : TA) : TI := fun σ H R => ta σ H fun vs H1 => ∃ a xs, vs = [.ref a] ∧ SqT K H1 a xs ∧ R (ItT K a) H1
theorem pi_enumT {X : Cx} {e : Expr} {ta : TA} {p pos tpos : Pos} {elts : List Expr} {kk : Nat} (hg : Gl X "enumerate") (hm : X.mg "enumerate" = none) (ha : PA X [e] ta) (hs : starEach [e] X.env = [(false, eval e X.env)] := by rfl) :
    PI X (.Tuple elts kk tpos) (.Call (.Name "enumerate" p) [e] [] pos) (iEnumT X.K ta) := by
  refine ⟨fun pins s σ H R I h => ?_⟩
  refine Call_ (ld_blt I hg hm boot_enumerate (PyProof.Rows.callWith_type1 (thn (ha.run pos pins s σ H _ I h) fun us s1 ⟨vs, H1, I1, r1, a, xs, ex, hq, q⟩ => ?_) hs rfl))
  subst ex
  cases r1 with
  | cons r rr =>
    cases rr
    cases r
    obtain ⟨its, rv, p', hz⟩ := I1.tuple hq
    obtain ⟨ot, hot, _⟩ := id p'
    have hal : a < s1.heap.objs.size := Heap.lt_size hot
    refine call_enum_tuple p' fun h' he hit hk => wpAny_pyIter_enum he ?_
    have I2 : Inv X pins σ H1 { s1 with heap := h' } := I1.kept (t' := s1.toks) hk
    refine ⟨s1.heap.objs.size + 1, [s1.heap.objs.size + 1, s1.heap.objs.size], _, _, H1, rfl, I2, turn_enumT a (s1.heap.objs.size + 1) s1.heap.objs.size (Nat.succ_ne_self _) (Nat.ne_of_gt (Nat.lt_succ_of_lt hal)) (Nat.ne_of_lt hal), ⟨⟨.none, he⟩, hit⟩, fun b hb => ?_, q⟩
    have hle : s1.heap.objs.size ≤ b := by
      rcases mem2 hb with z | z <;> subst z
      · exact Nat.le_add_right _ _
      · exact Nat.le_refl _
    exact I1.fpOk hle (I1.hok.fresh hle)
/-- a loop over enumerate(tuple) -/
theorem for_enumT {K : PySem.W.Frag} {a : Addr} {xs : List V} {g : TG} {tb : TS} {D : Ends} {σ : L2.St} {H : Hp} (Pv : Nat → L2.St → Hp → Prop) (h0 : Pv 0 σ H) (hl : ∀ i σ H, Pv i σ H → SqT K H a xs)
    (hs : ∀ (i : Nat) (x : V) (T : Addr) (σ : L2.St) (H : Hp), xs[i]? = some x → Pv i σ H → H T = none → g (.ref T) σ (upd H T (.tup [.int (i : Nat), x])) fun σ2 H2 => tb { D with nx := Pv (i + 1), ct := Pv (i + 1), bk := D.nx } σ2 H2)
    (hd : ∀ σ H, Pv xs.length σ H → D.nx σ H) :
    ∃ W : Nat → Nat → L2.St → Hp → Prop, (∃ m, W 0 m σ H) ∧ ∀ i m σ H, W i m σ H →
      ((ItT K a).stop i H ∧ D.nx σ H) ∨ ((ItT K a).go i H ∧ ∃ N : L2.St → Hp → Prop, (∀ σ' H', N σ' H' → ∃ m', m' < m ∧ W (i + 1) m' σ' H') ∧ ∀ x H', (ItT K a).yld i H x H' → g x σ H' fun σ2 H2 => tb { D with nx := N, ct := N, bk := D.nx } σ2 H2) := by
  refine ⟨fun i m σ H => m = xs.length - i ∧ i ≤ xs.length ∧ Pv i σ H, ⟨xs.length, by simp, Nat.zero_le _, h0⟩, ?_⟩
  rintro i m σ H ⟨rfl, hi, p⟩
  have q := hl i σ H p
  by_cases hlt : i < xs.length
  · have hx : xs[i]? = some xs[i] := List.getElem?_eq_getElem hlt
    refine .inr ⟨⟨xs, xs[i], q, hx⟩, Pv (i + 1), fun σ' H' p' => ⟨xs.length - (i + 1), by omega, rfl, hlt, p'⟩, fun v H' ⟨T, x, ev, hT, eH, hy⟩ => ?_⟩
    subst ev eH
    exact hs i x T σ H (hy xs q) p hT
  · have e : i = xs.length := by omega
    subst e
    exact .inl ⟨⟨xs, q, Nat.le_refl _⟩, hd σ H p⟩

/-! ### sorted of a tuple of texts -/
def rSortedT (K : PySem.W.Frag) : List V → Hp → VK → Prop := fun vs H Q => ∃ (a : Addr) (xs : List Str), vs = [V.ref a] ∧ SqT K H a (xs.map V.str) ∧ xs.length < 64 ∧
  ∀ (ys : List Str) (p : Addr), ys.Perm xs → sortedS ys = true → H p = none → Q (.ref p) (upd H p (.lst (ys.map V.str)))
theorem cr_sortedT {X : Cx} : CallR X (.builtin "sorted") (rSortedT X.K) := by
  intro pins s σ H vs us Q I r h
  obtain ⟨a, xs, rfl, hs, h64, q⟩ := h
  obtain ⟨its, rv, pt, hz⟩ := I.tuple hs
  rw [Vals.ref1 r]
  have hlen0 := rv.length
  rw [List.length_map] at hlen0
  have hS := rv.strs
  obtain ⟨ot, hot, hct, nt, hdt⟩ := id pt
  refine Calls.call_function_entry kind_sorted plain_sorted entry_sorted (args_sorted1 _) ?_
  unfold Builtin.«sorted»
  refine wpAny_bind (m := checkCount "sorted" 1 1 _) (wpAny_pure ?_)
  refine wpAny_bind (wpAny_collect_seq a (.inr rfl) hot hct hdt (fun h1 k1 => ?_) (by rw [List.size_toArray, ← hlen0]; exact small64 h64))
  refine wpAny_bind (wpAny_newList ?_)
  have I1 : Inv X pins σ H { s with heap := h1 } := I.kept (t' := s.toks) k1
  have hoL : (h1.push (seqObj "list" its.toArray 0)).get? h1.objs.size = some (seqObj "list" its.toArray 0) := Heap.get?_push_size _ rfl
  show wpAny _ _ _ _ _ { s with heap := h1.push (seqObj "list" its.toArray 0) }
  refine wpAny_bind (wpAny_holding (wpAny_call_entry slot_list_sort ⟨_, hoL, rfl⟩ entry_list_sort (list_sort_treeK strKind_oneLt hoL hS.keysOf (fun v₁ v₂ rest e => keyKind_strs (by rw [← e]; exact hS)) (by rw [← hlen0]; exact h64) fun st' hp hso => ⟨_, rfl, ?_⟩) (args_list_sort _)))
  obtain ⟨ys, h2, h3, h4⟩ := sorted_out_str hS hp hso
  obtain ⟨ep, he⟩ := sortedHeap_at (h := h1.push (seqObj "list" its.toArray 0)) (vs := its) (out := (arrOf st').map (·.2)) hoL
  have hlen : (ys.map V.str).length ≤ sizeLine := by rw [List.length_map, h3.length_eq]; exact small64 h64
  have hf : H h1.objs.size = none := I1.hok.fresh (Nat.le_refl _)
  refine wpAny_pure ⟨_, rfl, .ref h1.objs.size, upd H h1.objs.size (.lst (ys.map V.str)), I1.laid (t' := s.toks) (fun b o e => ?_) (Nat.le_refl _) ⟨hlen, ((arrOf st').map (·.2)).toList, ep, vals_of_strs h2, he⟩, rfl, q ys _ h3 h4 hf⟩
  have hlt : b < h1.objs.size := Heap.lt_size e
  rw [sortedHeap_old (Nat.ne_of_lt hlt) (by rw [size_push']; exact Nat.lt_succ_of_lt hlt)]
  exact Heap.get?_push_of_some _ e

/-! ### text * int -/
theorem op_mulS {X : Cx} : OpR X (binaryOp .Mult) (fun x y H Q => ∃ z n, x = .str z ∧ y = .int n ∧ (n = 0 ∨ n = 1) ∧ Q (.str (if n = 0 then Str.empty else z)) H) := by
  intro pins s σ H x y v u Q I rx ry h
  obtain ⟨z, n, rfl, rfl, hn, q⟩ := h
  obtain ⟨t, rfl⟩ := rx
  obtain ⟨t', rfl⟩ := ry
  rcases hn with rfl | rfl
  · exact P.mul_str_none (by decide) (by decide) ⟨.str _, H, I.tok _, ⟨_, rfl⟩, q⟩
  · refine P.mul_str (by decide) (fun _ h => by simp at h) (fun _ h => by simp at h) ?_
    rw [if_neg (by decide), if_pos (by rfl)]
    exact ⟨.str z, H, I, ⟨_, rfl⟩, q⟩

/-! ### o[k], o an instance of the class at C, by its own __getitem__ at g -/
structure ItemO (K : PySem.W.Frag) (C g : Addr) : Prop where
  at_ : PySem.W.findIn K (.ref C) "__getitem__" = some (some (.ref g))
  fn : PySem.W.isFn K (.ref g) = true
  fi : PySem.W.fnIn K g = true
def tGetO (C : Addr) (sp : Sp) (to tk : TE) : TE := fun σ H Q => to σ H fun x H1 => tk σ H1 fun y H2 => ∃ a dx fs, x = .ref a ∧ H2 a = some (.ins C dx fs) ∧ sp [.ref a, y] H2 Q E0
theorem pe_getO {X : Cx} {k : Nat} {C g : Addr} {sp : Sp} {o : Expr} {n : Str} {np pos : Pos} {to tk : TE} (c : ItemO X.K C g) (F : FnR X.prog X.w X.K X.mg X.base CX0 k g sp) (hr : Room (k + 1) X.A) (ho : PE X o to) (hk : PE X (.Name n np) tk) :
    PE X (.Subscript o (.Name n np) pos) (tGetO C sp to tk) := by
  refine ⟨fun pins s σ H Q I h => ?_⟩
  refine Subscript_ (binT ho hk I h fun v u s2 x y H2 I2 rx ry q => ?_)
  obtain ⟨a, dx, fs, rfl, ha, q⟩ := q
  cases rx
  obtain ⟨mA, O, _⟩ := ins_get I2.hok ha
  obtain ⟨od, J, _⟩ := O.look
  obtain ⟨m, hF⟩ := I2.fr
  refine PySem.W.sub_K hF I2.ok.mod.kin J c.at_ c.fi c.fn ?_
  exact wpAny_call (SlX.run_at (us := [.ref a, u]) (ws := [.ref a, y]) F hr.in1 I2.env0.in1 pass0 I2 (.cons rfl (.cons ry .nil)) q)
end TPk
end R4_text

section R5_text
set_option Elab.async false
set_option linter.all false
set_option maxRecDepth 100000
set_option maxHeartbeats 4000000
/-! Data of tuples on the abstract heap; dicts whose keys are such data. -/
namespace TPk
open PySem PySem.Spec PyProof.Rows L2

/-! ### data -/
inductive Dt where
  | non | bl (b : Bool) | int (i : Int) | str (x : Str) | tup (ds : List Dt) | adr (a : Addr) | ftup (xs : List Str)
mutual
inductive Is (K : PySem.W.Frag) (H : Hp) : Dt → V → Prop
  | non : Is K H .non .non
  | bl (b : Bool) : Is K H (.bl b) (.bl b)
  | int (i : Int) : Is K H (.int i) (.int i)
  | str (x : Str) : Is K H (.str x) (.str x)
  | tup {a : Addr} {xs : List V} {ds : List Dt} : SqT K H a xs → IsAll K H ds xs → Is K H (.tup ds) (.ref a)
  | adr (a : Addr) : Is K H (.adr a) (.ref a)
  | ftup {a : Addr} {ob : Obj} {xs : List Str} : H a = some (.frz ob (.tup (xs.map V.str))) → ob.dict = none → Is K H (.ftup xs) (.ref a)
inductive IsAll (K : PySem.W.Frag) (H : Hp) : List Dt → List V → Prop
  | nil : IsAll K H [] []
  | cons {v : V} {vs : List V} {d : Dt} {ds : List Dt} : Is K H d v → IsAll K H ds vs → IsAll K H (d :: ds) (v :: vs)
end
/-- what never changes once it stands -/
def Imm : HO → Prop
  | .lst _ => False
  | .dK _ => False
  | .dT _ => False
  | .set _ _ => False
  | .ext _ => False
  | _ => True
/-- all that never changes stands as it stood -/
def TK (H H' : Hp) : Prop := ∀ b o, H b = some o → Imm o → H' b = some o
theorem TK.refl (H : Hp) : TK H H := fun _ _ h _ => h
theorem TK.trans {H H1 H2 : Hp} (a : TK H H1) (b : TK H1 H2) : TK H H2 := fun c o h m => b c o (a c o h m) m
theorem Same.tk {H H' : Hp} (s : Same H H') : TK H H' := fun b o h _ => s b o h
theorem TK.new {H H' : Hp} {p : Addr} {o : HO} (e : TK H H') (h : H' p = none) : TK H (upd H' p o) := fun b u hb m => by
  have := e b u hb m
  rw [upd_ne (ne_of_none this h)]; exact this
theorem TK.mut {H H' : Hp} {p : Addr} {o u : HO} (e : TK H H') (h : H' p = some u) (hu : ¬ Imm u) : TK H (upd H' p o) := fun b w hb m => by
  have h1 := e b w hb m
  by_cases q : b = p
  · subst q; rw [h] at h1; cases h1; exact (hu m).elim
  · rw [upd_ne q]; exact h1
theorem TK.mutL {H H' : Hp} {p : Addr} {o : HO} {xs : List V} (e : TK H H') (h : H' p = some (.lst xs)) : TK H (upd H' p o) := e.mut h fun z => z
theorem tk_new {H : Hp} {p : Addr} {o : HO} (h : H p = none) : TK H (upd H p o) := (TK.refl H).new h
theorem tk_mutL {H : Hp} {p : Addr} {o : HO} {xs : List V} (h : H p = some (.lst xs)) : TK H (upd H p o) := (TK.refl H).mutL h
theorem same_new {H : Hp} {p : Addr} {o : HO} (h : H p = none) : Same H (upd H p o) := fun b u hb => by rw [upd_ne (ne_of_none hb h)]; exact hb
theorem Same.new {H H' : Hp} {p : Addr} {o : HO} (e : Same H H') (h : H' p = none) : Same H (upd H' p o) := e.trans (same_new h)
/-- an object that H does not know may change -/
theorem Same.mut {H H' : Hp} {p : Addr} {o : HO} (e : Same H H') (h : H p = none) : Same H (upd H' p o) := fun a u ha => by
  rw [upd_ne (ne_of_none ha h)]; exact e a u ha
theorem sqT_tk {K : PySem.W.Frag} {H H' : Hp} {a : Addr} {xs : List V} (e : TK H H') (h : SqT K H a xs) : SqT K H' a xs := by
  rcases h with (h | ⟨o, h⟩) | h
  · exact .inl (.inl (e _ _ h True.intro))
  · exact .inl (.inr ⟨o, e _ _ h True.intro⟩)
  · exact .inr h
mutual
theorem Is.tk {K : PySem.W.Frag} {H H' : Hp} (e : TK H H') : ∀ {d : Dt} {v : V}, Is K H d v → Is K H' d v
  | _, _, .non => .non
  | _, _, .bl b => .bl b
  | _, _, .int i => .int i
  | _, _, .str x => .str x
  | _, _, .tup h r => .tup (sqT_tk e h) (IsAll.tk e r)
  | _, _, .adr a => .adr a
  | _, _, .ftup h d => .ftup (e _ _ h True.intro) d
theorem IsAll.tk {K : PySem.W.Frag} {H H' : Hp} (e : TK H H') : ∀ {ds : List Dt} {vs : List V}, IsAll K H ds vs → IsAll K H' ds vs
  | _, _, .nil => .nil
  | _, _, .cons h r => .cons (Is.tk e h) (IsAll.tk e r)
end
theorem Is.same {K : PySem.W.Frag} {H H' : Hp} {d : Dt} {v : V} (h : Is K H d v) (e : Same H H') : Is K H' d v := Is.tk (Same.tk e) h
theorem Is.inv {K : PySem.W.Frag} {H : Hp} {ds : List Dt} {v : V} (h : Is K H (.tup ds) v) : ∃ a xs, v = .ref a ∧ SqT K H a xs ∧ IsAll K H ds xs := by
  cases h with
  | tup h r => exact ⟨_, _, rfl, h, r⟩
theorem Is.adr_inv {K : PySem.W.Frag} {H : Hp} {a : Addr} {v : V} (h : Is K H (.adr a) v) : v = .ref a := by cases h; rfl
theorem Is.ftup_inv {K : PySem.W.Frag} {H : Hp} {xs : List Str} {v : V} (h : Is K H (.ftup xs) v) : ∃ a ob, v = .ref a ∧ H a = some (.frz ob (.tup (xs.map V.str))) ∧ ob.dict = none := by
  cases h with
  | ftup h d => exact ⟨_, _, rfl, h, d⟩
theorem Is.str_inv {K : PySem.W.Frag} {H : Hp} {x : Str} {v : V} (h : Is K H (.str x) v) : v = .str x := by cases h; rfl
theorem Is.int_inv {K : PySem.W.Frag} {H : Hp} {x : Int} {v : V} (h : Is K H (.int x) v) : v = .int x := by cases h; rfl
theorem Is.bl_inv {K : PySem.W.Frag} {H : Hp} {x : Bool} {v : V} (h : Is K H (.bl x) v) : v = .bl x := by cases h; rfl
theorem Is.non_inv {K : PySem.W.Frag} {H : Hp} {v : V} (h : Is K H .non v) : v = .non := by cases h; rfl
theorem IsAll.length {K : PySem.W.Frag} {H : Hp} : ∀ {ds : List Dt} {vs : List V}, IsAll K H ds vs → ds.length = vs.length
  | _, _, .nil => rfl
  | _, _, .cons _ r => congrArg Nat.succ (IsAll.length r)
theorem IsAll.get {K : PySem.W.Frag} {H : Hp} : ∀ {ds : List Dt} {vs : List V} {i : Nat} {d : Dt}, IsAll K H ds vs → ds[i]? = some d → ∃ v, vs[i]? = some v ∧ Is K H d v
  | _, _, _, _, .nil, h => by simp at h
  | _, _, 0, _, .cons q r, h => by
    simp at h
    subst h
    exact ⟨_, rfl, q⟩
  | _, _, i + 1, d, .cons q r, h => by
    obtain ⟨v, h1, h2⟩ := IsAll.get (i := i) r (by simpa using h)
    exact ⟨v, by simpa using h1, h2⟩
theorem IsAll.getV {K : PySem.W.Frag} {H : Hp} {ds : List Dt} {vs : List V} {i : Nat} {v : V} (r : IsAll K H ds vs) (h : vs[i]? = some v) : ∃ d, ds[i]? = some d ∧ Is K H d v := by
  have hl := r.length
  have hi : i < ds.length := by rw [hl]; exact (List.getElem?_eq_some_iff.mp h).1
  have hd : ds[i]? = some ds[i] := List.getElem?_eq_getElem hi
  obtain ⟨w, h1, h2⟩ := r.get hd
  rw [h] at h1
  cases h1
  exact ⟨_, hd, h2⟩
theorem IsAll.append {K : PySem.W.Frag} {H : Hp} : ∀ {ds es : List Dt} {vs ws : List V}, IsAll K H ds vs → IsAll K H es ws → IsAll K H (ds ++ es) (vs ++ ws)
  | _, _, _, _, .nil, s => s
  | _, _, _, _, .cons q r, s => .cons q (IsAll.append r s)
theorem IsAll.snoc {K : PySem.W.Frag} {H : Hp} {ds : List Dt} {vs : List V} {d : Dt} {v : V} (r : IsAll K H ds vs) (h : Is K H d v) : IsAll K H (ds ++ [d]) (vs ++ [v]) := r.append (.cons h .nil)
theorem IsAll.take {K : PySem.W.Frag} {H : Hp} : ∀ {ds : List Dt} {vs : List V} (n : Nat), IsAll K H ds vs → IsAll K H (ds.take n) (vs.take n)
  | _, _, 0, _ => .nil
  | _, _, _ + 1, .nil => .nil
  | _, _, n + 1, .cons q r => .cons q (IsAll.take n r)
theorem IsAll.drop {K : PySem.W.Frag} {H : Hp} : ∀ {ds : List Dt} {vs : List V} (n : Nat), IsAll K H ds vs → IsAll K H (ds.drop n) (vs.drop n)
  | _, _, 0, r => r
  | _, _, _ + 1, .nil => .nil
  | _, _, n + 1, .cons _ r => IsAll.drop n r
theorem isAll_strs {K : PySem.W.Frag} {H : Hp} {xs : List Str} {vs : List V} (r : IsAll K H (xs.map Dt.str) vs) : vs = xs.map V.str := by
  induction xs generalizing vs with
  | nil => cases r; rfl
  | cons x xs ih =>
    rw [List.map_cons] at r
    cases r with
    | cons q r => rw [q.str_inv, ih r]; rfl
theorem strs_isAll {K : PySem.W.Frag} {H : Hp} : ∀ xs : List Str, IsAll K H (xs.map Dt.str) (xs.map V.str)
  | [] => .nil
  | x :: xs => .cons (.str x) (strs_isAll xs)
/-- a tuple of texts -/
theorem Is.strs {K : PySem.W.Frag} {H : Hp} {xs : List Str} {v : V} (h : Is K H (.tup (xs.map Dt.str)) v) : ∃ a, v = .ref a ∧ SqT K H a (xs.map V.str) := by
  obtain ⟨a, ys, e, h1, h2⟩ := h.inv
  rw [isAll_strs h2] at h1
  exact ⟨a, e, h1⟩
theorem is_strs {K : PySem.W.Frag} {H : Hp} {xs : List Str} {a : Addr} (h : SqT K H a (xs.map V.str)) : Is K H (.tup (xs.map Dt.str)) (.ref a) := .tup h (strs_isAll xs)
/-- a tuple just laid -/
theorem is_new {K : PySem.W.Frag} {H : Hp} {p : Addr} {ds : List Dt} {vs : List V} (hp : H p = none) (r : IsAll K H ds vs) : Is K (upd H p (.tup vs)) (.tup ds) (.ref p) := .tup (SqT.of upd_same) (IsAll.tk (tk_new hp) r)

/-! ### data as keys -/
mutual
def Dt.key : Dt → NestedKey
  | .non => .none
  | .bl b => .num (if b = true then 1 else 0)
  | .int i => .num i
  | .str x => .text x
  | .tup ds => .tup (Dt.keys ds)
  | .adr _ => .none
  | .ftup _ => .none
def Dt.keys : List Dt → List NestedKey
  | [] => []
  | d :: ds => Dt.key d :: Dt.keys ds
end
mutual
/-- no bare address in it -/
def Dt.pl : Dt → Bool
  | .tup ds => Dt.pls ds
  | .adr _ => false
  | .ftup _ => false
  | _ => true
def Dt.pls : List Dt → Bool
  | [] => true
  | d :: ds => Dt.pl d && Dt.pls ds
end
def Dt.ok (d : Dt) : Prop := d.key.depth ≤ 8 ∧ d.pl = true
section
variable {P : Program} {w : World} {K : PySem.W.Frag} {H : Hp} {h : Heap}
theorem sqT_at (ok : HOk P w H h) (kin : K.In h) {a : Addr} {xs : List V} (q : SqT K H a xs) : ∃ its : List Value, Vals xs its ∧ ∃ o n, h.get? a = some o ∧ o.cls = .type "tuple" ∧ o.data = .seq its.toArray n := by
  rcases q with q | ⟨o, its, n, hk, hc, hd, hz, r⟩
  · obtain ⟨z, its, r, o, e, c, n, d⟩ := q.ok ok
    exact ⟨its, r, o, n, e, c, d⟩
  · exact ⟨its.toList, r, o, n, kin a o hk, hc, by simpa using hd⟩
mutual
theorem Is.nested (ok : HOk P w H h) (kin : K.In h) : ∀ {d : Dt} {v : V} {u : Value}, d.pl = true → Is K H d v → RelV v u → NestedIs h d.key u
  | _, _, u, _, .adr a, r => by contradiction
  | _, _, u, _, .ftup h d, r => by contradiction
  | _, _, u, _, .non, r => by cases (show u = Value.none from r); exact .none
  | _, _, u, _, .bl b, r => by cases (show u = Value.bool b from r); exact .bool rfl
  | _, _, u, _, .int i, r => by obtain ⟨t, q⟩ := (show ∃ t, u = Value.int i t from r); cases q; exact .int i t
  | _, _, u, _, .str x, r => by obtain ⟨t, q⟩ := (show ∃ t, u = Value.str x t from r); cases q; exact .text x t
  | _, _, u, hp, .tup (a := a) q s, r => by
    cases (show u = Value.ref a from r)
    obtain ⟨its, rv, o, n, e, c, d⟩ := sqT_at ok kin q
    exact .tup e c d (by simpa using IsAll.nested ok kin hp s rv)
theorem IsAll.nested (ok : HOk P w H h) (kin : K.In h) : ∀ {ds : List Dt} {vs : List V} {us : List Value}, Dt.pls ds = true → IsAll K H ds vs → Vals vs us → NestedAll h (Dt.keys ds) us
  | _, _, _, _, .nil, r => by cases r; exact .nil
  | d :: ds, _, _, hp, .cons q s, r => by
    cases r with
    | cons r1 r2 =>
      have h2 := Bool.and_eq_true_iff.mp (show (Dt.pl d && Dt.pls ds) = true from hp)
      exact .cons (Is.nested ok kin h2.1 q r1) (IsAll.nested ok kin h2.2 s r2)
end
end

/-! ### the dict -/
/-- its entries: key, the key's tuple, value -/
abbrev NEnt : Type := NestedKey × Addr × V
def NRel (p : NEnt) (q : NestedKey × Addr × Value) : Prop := p.1 = q.1 ∧ p.2.1 = q.2.1 ∧ RelV p.2.2 q.2.2
def NR (P : Program) (w : World) (d : Addr) (xs : List NEnt) (h : Heap) : Prop := xs.length ≤ sizeLine ∧ (d == sysModules) = false ∧ ∃ ys : List (NestedKey × Addr × Value), Paired NRel xs ys ∧
  ∃ o es ep, h.get? d = some o ∧ o.ExactDict ∧ o.data = .dict es ep ∧ es.toList = ys.map (entryOfKey (nestedKind P w)) ∧ (ys.map (·.1)).Nodup
def ND (P : Program) (w : World) (d : Addr) (xs : List NEnt) : HO := .ext (NR P w d xs)
/-- the keys' tuples stand -/
def KeysIn (K : PySem.W.Frag) (H : Hp) (xs : List NEnt) : Prop := ∀ x ∈ xs, ∃ d : Dt, d.key = x.1 ∧ Is K H d (.ref x.2.1) ∧ d.ok
theorem KeysIn.tk {K : PySem.W.Frag} {H H' : Hp} {xs : List NEnt} (e : TK H H') (h : KeysIn K H xs) : KeysIn K H' xs := fun x hx => let ⟨d, a, b, c⟩ := h x hx; ⟨d, a, b.tk e, c⟩
theorem KeysIn.snoc {K : PySem.W.Frag} {H : Hp} {xs : List NEnt} {d : Dt} {a : Addr} {v : V} (h : KeysIn K H xs) (hd : Is K H d (.ref a)) (hp : d.ok) : KeysIn K H (xs ++ [(d.key, a, v)]) := fun x hx => by
  rcases List.mem_append.mp hx with hx | hx
  · exact h x hx
  · have e : x = (d.key, a, v) := by simpa using hx
    subst e
    exact ⟨d, rfl, hd, hp⟩
def atV (xs : List NEnt) (k : NestedKey) : Option V := (xs.find? fun x => decide (x.1 = k)).map (·.2.2)
theorem atV_rel : ∀ {xs : List NEnt} {ys : List (NestedKey × Addr × Value)} (k : NestedKey), Paired NRel xs ys → RelO (atV xs k) ((atKey ys k).map (·.2)) ∧ (atV xs k).isSome = (atKey ys k).isSome
  | _, _, _, .nil => ⟨True.intro, rfl⟩
  | x :: xs, y :: ys, k, .cons h r => by
    unfold atV atKey
    rw [List.find?_cons, List.find?_cons, ← h.1]
    by_cases e : x.1 = k
    · rw [decide_eq_true e]
      exact ⟨h.2.2, rfl⟩
    · rw [decide_eq_false e]
      exact atV_rel k r
theorem atV_snoc {xs : List NEnt} {k j : NestedKey} {a : Addr} {v : V} : atV (xs ++ [(k, a, v)]) j = match atV xs j with
    | some z => some z
    | none => if k = j then some v else none := by
  unfold atV
  rw [List.find?_append]
  cases e : xs.find? fun x => decide (x.1 = j) with
  | some x => rfl
  | none =>
    show (List.find? (fun x => decide (x.1 = j)) [(k, a, v)]).map (·.2.2) = _
    rw [List.find?_cons]
    by_cases q : k = j
    · rw [decide_eq_true q]; simp [q]
    · rw [decide_eq_false q]; simp [q]
theorem nrel_snoc {xs : List NEnt} {ys : List (NestedKey × Addr × Value)} {k : NestedKey} {a : Addr} {v : V} {u : Value} (r : Paired NRel xs ys) (h : RelV v u) : Paired NRel (xs ++ [(k, a, v)]) (ys ++ [(k, a, u)]) := Paired.snoc r ⟨rfl, rfl, h⟩
section
variable {X : Cx} {pins : List (Addr × Obj)} {σ : L2.St} {H : Hp} {s : Shared} {d : Addr} {xs : List NEnt}
theorem nd_of (I : Inv X pins σ H s) (e : H d = some (ND X.prog X.w d xs)) (k : KeysIn X.K H xs) : xs.length ≤ sizeLine ∧ (d == sysModules) = false ∧ ∃ ys, Paired NRel xs ys ∧ s.heap.DictOfH (nestedKind X.prog X.w) d ys := by
  obtain ⟨z, nd, ys, r, o, es, ep, h1, h2, h3, h4, h5⟩ := (I.hok d _ e).1
  refine ⟨z, nd, ys, r, o, es, ep, h1, h2, h3, h4, ?_, h5⟩
  have all : ∀ {l : List NEnt} {m : List (NestedKey × Addr × Value)}, Paired NRel l m → KeysIn X.K H l → ∀ y ∈ m, (nestedKind X.prog X.w).is s.heap y.1 y.2.1 := by
    intro l m q
    induction q with
    | nil => intro _ y hy; exact nomatch hy
    | @cons p q ps qs hq t ih =>
      intro kk y hy
      rcases List.mem_cons.mp hy with ey | hy
      · subst ey
        obtain ⟨dt, e1, e2, e3⟩ := kk p List.mem_cons_self
        rw [← hq.1, ← hq.2.1, ← e1]
        exact ⟨Is.nested I.hok I.kIn e3.2 e2 rfl, e3.1⟩
      · exact ih (fun x hx => kk x (List.mem_cons_of_mem _ hx)) y hy
  exact all r k
theorem nd_ok {P : Program} {w : World} {H : Hp} {h : Heap} (r : NR P w d xs h) : ObjOk P w H h d (ND P w d xs) := by
  refine ⟨r, ?_, fun h1 h2 q k => ?_⟩
  · obtain ⟨_, _, _, _, o, _, _, e, _⟩ := r
    exact ⟨o, e⟩
  · obtain ⟨z, nd, ys, r, o, es, ep, e, c⟩ := q
    exact ⟨z, nd, ys, r, o, es, ep, k o e, c⟩
theorem key_is (I : Inv X pins σ H s) {dt : Dt} {b : Addr} (h : Is X.K H dt (.ref b)) (hp : dt.ok) : (nestedKind X.prog X.w).is s.heap dt.key b := ⟨Is.nested I.hok I.kIn hp.2 h rfl, hp.1⟩
theorem nd_type (I : Inv X pins σ H s) (e : H d = some (ND X.prog X.w d xs)) : s.TypeIs (.ref d) "dict" := by
  obtain ⟨_, _, _, _, o, _, _, h1, h2, _⟩ := (I.hok d _ e).1
  exact ⟨o, h1, h2.1⟩
end
/-! ### {} -/
def tNNew (P : Program) (w : World) : TE := fun _ H Q => ∀ p, H p = none → Q (.ref p) (upd H p (ND P w p []))
theorem nr_empty {P : Program} {w : World} (h : Heap) (hb : sysModules < h.objs.size) : NR P w h.objs.size [] (h.push { cls := .type "dict", data := .dict #[] }) :=
  ⟨Nat.zero_le _, beq_eq_false_iff_ne.mpr (Ne.symm (Nat.ne_of_lt hb)), [], .nil, _, #[], 0, Heap.get?_push_size _ rfl, ⟨rfl, rfl, rfl⟩, rfl, rfl, List.nodup_nil⟩
theorem pe_nnew {X : Cx} {pos : Pos} : PE X (.Dict [] [] pos) (tNNew X.prog X.w) := ⟨fun pins s σ H Q I h =>
  wpAny_Dict_empty ⟨.ref s.heap.objs.size, _, I.laid (a := s.heap.objs.size) (o := ND X.prog X.w s.heap.objs.size []) (t' := s.toks) (fun _ _ q => Heap.get?_push_of_some _ q) (Nat.le_refl _) (nd_ok (nr_empty s.heap I.big)), rfl, h _ (I.hok.fresh (Nat.le_refl _))⟩⟩
/-! ### k in d, d[k], d[k] = v -/
def NGet (P : Program) (w : World) (K : PySem.W.Frag) (H : Hp) (x y : V) (o : Option V) : Prop := ∃ d xs dt b, x = .ref d ∧ H d = some (ND P w d xs) ∧ KeysIn K H xs ∧ y = .ref b ∧ Is K H dt y ∧ dt.ok ∧ o = atV xs dt.key
def tNNotIn (P : Program) (w : World) (K : PySem.W.Frag) (ty td : TE) : TE := fun σ H Q => ty σ H fun y H1 => td σ H1 fun x H2 => ∃ o, NGet P w K H2 x y o ∧ Q (.bl (!o.isSome)) H2
def tNGet (P : Program) (w : World) (K : PySem.W.Frag) (td ty : TE) : TE := fun σ H Q => td σ H fun x H1 => ty σ H1 fun y H2 => ∃ v, NGet P w K H2 x y (some v) ∧ Q v H2
theorem room8 {A : Around} (hu : A.units + 64 < cLine) {P : Program} {w : World} : (nestedKind P w).room A.in1 := by
  show A.units + 1 + 8 < cLine
  omega
section
variable {X : Cx} {o i value : Expr} {pos pos' : Pos} {td ty tv : TE}
theorem pc_nnotin (hu : X.A.units + 64 < cLine) (hi : PE X i ty) (ho : PE X o td) : PC X .NotIn i o (tNNotIn X.prog X.w X.K ty td) := by
  refine ⟨fun pins s σ H Q I h => ?_⟩
  refine thn (hi.run pins s σ H _ I h) fun iv s1 ⟨y, H1, I1, ry, q1⟩ => thn (ho.run pins s1 σ H1 _ I1 q1) fun u s2 ⟨x, H2, I2, rx, ov, g, q2⟩ => ?_
  obtain ⟨d, xs, dt, b, rfl, e, k, rfl, hk, hp, rfl⟩ := g
  cases rx
  cases ry
  obtain ⟨z, nd, ys, r, dd⟩ := nd_of I2 e k
  refine wpAny_notIn_heap (room8 hu) (key_is I2 hk hp) nd dd ?_
  rw [← (atV_rel dt.key r).2]
  exact ⟨.bl _, H2, I2.tok _, rfl, q2⟩
theorem pe_nget (hu : X.A.units + 64 < cLine) (ho : PE X o td) (hi : PE X i ty) (hs : NoSl i) : PE X (.Subscript o i pos) (tNGet X.prog X.w X.K td ty) := by
  refine ⟨fun pins s σ H Q I h => ?_⟩
  refine subD_of PySem.F.slot_dict_getitem.lookup hs (thn (ho.run pins s σ H _ I h) fun u s1 ⟨x, H1, I1, rx, q1⟩ => thn (hi.run pins s1 σ H1 _ I1 q1) fun iv s2 ⟨y, H2, I2, ry, v, g, q2⟩ => ?_)
  obtain ⟨d, xs, dt, b, rfl, e, k, rfl, hk, hp, ev⟩ := g
  cases rx
  cases ry
  obtain ⟨z, nd, ys, r, dd⟩ := nd_of I2 e k
  refine ⟨nd_type I2 e, ?_⟩
  have hr := (atV_rel dt.key r).1
  rw [← ev] at hr
  cases hq : atKey ys dt.key with
  | none => rw [hq] at hr; exact (show False from hr).elim
  | some p =>
    rw [hq] at hr
    exact wpAny_getItem_heap (room8 hu) (key_is I2 hk hp) dd hq ⟨v, H2, I2.tok _, hr, q2⟩
/-- a key that is not there yet -/
def rSetN (P : Program) (w : World) (K : PySem.W.Frag) : V → V → V → Hp → (Hp → Prop) → Prop := fun x y v H Q => ∃ d xs dt b, x = .ref d ∧ H d = some (ND P w d xs) ∧ KeysIn K H xs ∧ y = .ref b ∧ Is K H dt y ∧ dt.ok ∧ atV xs dt.key = none ∧ xs.length < sizeLine ∧
  Q (upd H d (ND P w d (xs ++ [(dt.key, b, v)])))
theorem set_n (hu : X.A.units + 64 < cLine) : PSet X (rSetN X.prog X.w X.K) := by
  intro pins s σ H x y v ov iv u Q I ro ri rv h
  obtain ⟨d, xs, dt, b, rfl, e, k, rfl, hk, hp, hn, hl, q⟩ := h
  cases ro
  cases ri
  obtain ⟨z, nd, ys, r, dd⟩ := nd_of I e k
  have hlen : xs.length = ys.length := Paired.length r
  refine wpAny_setItem_heap (hsz := by rw [← hlen]; exact z) (room8 hu) (key_is I hk hp) dd fun h' dd' hs => ⟨_, ?_, q⟩
  have hn2 : atKey ys dt.key = none := by
    have := (atV_rel dt.key r).2
    rw [hn] at this
    cases hq : atKey ys dt.key with
    | none => rfl
    | some p => rw [hq] at this; cases this
  rw [storedH_new hn2] at dd'
  obtain ⟨ob, es, ep, h1, h2, h3, h4, _, h5⟩ := dd'
  refine d_write I (by rw [e]; exact True.intro) hs ⟨ob, h1⟩ (nd_ok ⟨by rw [List.length_append]; exact hl, nd, _, nrel_snoc r rv, ob, es, ep, h1, h2, h3, h4, h5⟩)
end
/-! ### {k: v} -/
def tNDisp (P : Program) (w : World) (K : PySem.W.Frag) (tk tv : TE) : TE := fun σ H Q => ∀ p, H p = none → tk σ (upd H p (ND P w p [])) fun y H1 => tv σ H1 fun v H2 => H2 p = some (ND P w p []) ∧ ∃ dt b, y = .ref b ∧ Is K H2 dt y ∧ dt.ok ∧ Q (.ref p) (upd H2 p (ND P w p [(dt.key, b, v)]))
theorem wpAny_Dict_pairsH2 {prog : Program} {w : World} {A : Around} {E : Value → Shared → Prop} {s : Shared} {K : Type} [DecidableEq K] {knd : HeapKind prog w K} {env : Env} {keys : List (Option Expr)} {values : List Expr} {pos : Pos} {pairs : List (Sem Value × Sem Value)} {Q : Value → Shared → Prop} (hu : knd.room A)
    (hshape : (evalEachOpt keys env).zip ((evalEach values env).map fun v => do let x ← v; standAt pos; pure x) = pairs.map fun p => (some p.1, p.2)) (h0 : pairs ≠ []) (hlen : pairs.length ≤ 15)
    (h : wpAny (model prog w) A (evalPairs pairs) (fun vs s₁ => ∃ ps, CarriesH knd s₁.heap vs ps ∧ s₁.heap.DictOfH knd s.heap.objs.size [] ∧
      ∀ h' tk, h'.DictOfH knd s.heap.objs.size (storedAllH [] ps) → Heap.SameBut s.heap.objs.size s₁.heap h' → Q (.ref s.heap.objs.size) { s₁ with heap := h', toks := tk }) E
      { s with heap := s.heap.push { cls := .type "dict", data := .dict #[] } }) :
    wpAny (model prog w) A (eval (.Dict keys values pos) env) Q E s := by
  rw [arm_eval_Dict, hshape, dictDisplay_pairs pairs h0 (by omega)]
  exact wpAny_bind (wpAny_standAt (wpAny_bind (wpAny_subDictH (knd := knd) (Q := fun d s' => wpAny (model prog w) A (pure (Value.ref d)) Q E s') hu hlen
    (wpAny_mono h (fun vs s₁ h₁ => by obtain ⟨ps, hc, hm, hq⟩ := h₁; exact ⟨ps, hc, hm, fun h' tk a b => wpAny_pure (hq h' tk a b)⟩) fun _ _ e => e))))
theorem pe_ndisp {X : Cx} {k v : Expr} {pos : Pos} {tk tv : TE} (hu : X.A.units + 64 < cLine) (hk : PE X k tk) (hv : PE X v tv) : PE X (.Dict [some k] [v] pos) (tNDisp X.prog X.w X.K tk tv) := by
  refine ⟨fun pins s σ H Q I q => ?_⟩
  have hn := I.hok.fresh (Nat.le_refl s.heap.objs.size)
  have I1 := I.laid (a := s.heap.objs.size) (o := ND X.prog X.w s.heap.objs.size []) (h' := s.heap.push { cls := .type "dict", data := .dict #[] }) (t' := s.toks) (fun _ _ q => Heap.get?_push_of_some _ q) (Nat.le_refl _) (nd_ok (nr_empty s.heap I.big))
  have q0 := q _ hn
  refine wpAny_Dict_pairsH2 (knd := nestedKind X.prog X.w) (show X.A.units + 8 < cLine by omega) (zip_pairTrees [some k] [v] X.env pos rfl rfl) (fun z => by have := pairTrees_length [some k] [v] X.env pos rfl rfl; rw [z] at this; cases this) (by rw [pairTrees_length [some k] [v] X.env pos rfl rfl]; show 1 ≤ 15; decide) ?_
  refine pairTrees_cons_walk (thn (hk.run pins _ σ _ _ I1 q0) fun q1 s1 ⟨y, H1, I1', rx, q1'⟩ => thn (hv.run pins s1 σ H1 _ I1' q1') fun q2' s2 ⟨v, H2, I2, ry, e, dt, b, ey, hk2, hp2, q2⟩ => pairTrees_nil_walk ?_)
  subst ey
  have rx' : q1 = Value.ref b := rx
  subst rx'
  obtain ⟨_, nd, ys, r, dd⟩ := nd_of I2 e (fun x hx => nomatch hx)
  cases r
  refine ⟨[(dt.key, b, q2')], ⟨rfl, rfl, key_is I2 hk2 hp2, True.intro⟩, dd, fun h' tk2 dd' hs => ?_⟩
  obtain ⟨ob, es, ep, h1, h2, h3, h4, h5, h6⟩ := dd'
  exact ⟨.ref s.heap.objs.size, _, d_write I2 (by rw [e]; exact True.intro) hs ⟨ob, h1⟩ (nd_ok ⟨by rw [sizeLine_eq]; exact (by decide : 1 ≤ 16777216), nd, [(dt.key, b, q2')], .cons ⟨rfl, rfl, ry⟩ .nil, ob, es, ep, h1, h2, h3, h4, h6⟩), rfl, q2⟩
end TPk
end R5_text

section R7_text
set_option Elab.async false
set_option linter.all false
set_option maxRecDepth 100000
set_option maxHeartbeats 4000000
/-! A new tuple that is known to be plain; its index. -/
namespace TPk
open PySem PySem.Spec PyProof.Rows L2
/-- tuple(a list): the new object is known -/
def rTupF (K : PySem.W.Frag) : List V → Hp → VK → Prop := fun xs H Q => ∃ p ys, xs = [.ref p] ∧ SqL K H p ys ∧ ∀ l ob, H l = none → ob.dict = none → Q (.ref l) (upd H l (.frz ob (.tup ys)))
theorem call_tupF {X : Cx} : CallR X (.type "tuple") (rTupF X.K) := by
  intro pins s σ H xs us Q I r h
  obtain ⟨p, ys, rfl, hq, q⟩ := h
  obtain ⟨u, rfl, rx⟩ := vals1 r
  cases rx
  obtain ⟨its, r', pl, hz⟩ := I.list hq
  have hlen := r'.length
  refine call_tuple_list pl.isList (fun h' kp => ?_) (by simp only [List.size_toArray] <;> omega)
  have I1 : Inv X pins σ H { s with heap := h' } := I.kept (t' := s.toks) kp
  have I2 : Inv X pins σ (upd H h'.objs.size (.frz { cls := .type "tuple", data := .seq its.toArray } (.tup ys))) { s with heap := h'.push { cls := .type "tuple", data := .seq its.toArray } } :=
    I1.laid (t' := s.toks) (fun b o e => Heap.get?_push_of_some _ e) (Nat.le_refl _) (show ObjOk X.prog X.w _ _ _ (.frz _ (.tup ys)) from ⟨Heap.get?_push_size _ rfl, hz, its, r', IsTup.new _ _⟩)
  exact ⟨.ref h'.objs.size, _, I2, rfl, q _ _ (I1.hok.fresh (Nat.le_refl _)) rfl⟩
/-- t.index(e) -/
def tIdx (K : PySem.W.Frag) (to : TE) (t : TA) : TE := fun σ H Q => to σ H fun x H1 => (∃ p ob ys, x = .ref p ∧ H1 p = some (.frz ob (.tup ys)) ∧ ob.dict = none) ∧ t σ H1 fun vs H2 => ∃ p, ∃ ys : List Str, ∃ z j, x = .ref p ∧ vs = [.str z] ∧ SqT K H2 p (ys.map V.str) ∧ ys[j]? = some z ∧ (∀ m, m < j → ys[m]? ≠ some z) ∧ Q (.int (j : Nat)) H2
theorem pe_idx {X : Cx} {o e : Expr} {to : TE} {t : TA} {apos cpos : Pos} (ho : PE X o to) (ha : PA X [e] t)
    (hbase : attributeBase o "index" X.env (eval o X.env) = eval o X.env := by rfl)
    (hfew : ((backTo cpos (starEach [e] X.env)).all (fun x => !x.1) && (backToKw cpos (keywordEach [] X.env)).all (fun x => x.1.isSome)
      && decide ([e].length + ([] : List Keyword).length + (if ([] : List Keyword).isEmpty then 0 else 1) < 30)) = true := by rfl)
    (hline : (apos.endLine == cpos.line) = true := by rfl) (hs : starEach [e] X.env = (false, eval e X.env) :: starEach [] X.env := by rfl) (hplain : (backTo cpos (starEach [] X.env)).any (·.1) = false := by rfl) :
    PE X (.Call (.Attribute o "index" apos) [e] [] cpos) (tIdx X.K to t) := by
  refine ⟨fun pins s σ H Q I h => ?_⟩
  refine wpAny_Call_method_late hbase hfew hline rfl (thn (ho.run pins s σ H _ I h) fun v s1 ⟨x, H1, I1, r1, ty, q1⟩ => ?_)
  obtain ⟨p, ob, ys, rfl, hp, hd⟩ := ty
  cases r1
  obtain ⟨e1, e2⟩ := (show ObjOk X.prog X.w H1 s1.heap p (.frz ob (.tup ys)) from I1.hok p _ hp)
  obtain ⟨_, its, rv, o2, g1, g2, n, g3⟩ := e2
  rw [e1] at g1
  cases g1
  refine ⟨"tuple", "tuple.index", PySem.F.plainAttrs_tuple, PySem.F.slot_tuple_index, PySem.F.type_tuple_index, ⟨ob, e1, g2⟩, (fun a e => by cases e; exact ⟨ob, e1, hd⟩), ?_⟩
  have hA := ha.run cpos pins s1 σ H1 _ I1 q1
  rw [hs] at hA ⊢
  refine Calls.callWith_builtin (by show (false || (backTo cpos (starEach [] X.env)).any (·.1)) = false; rw [hplain] <;> rfl) (Calls.evalArgs_plain ?_)
  exact thn hA fun us s2 ⟨vs, H2, I2, r2, q2⟩ => mt_tup_index pins s2 σ H2 (.ref p) vs (.ref p) us Q I2 rfl r2 q2
end TPk
end R7_text

section R6_text
set_option Elab.async false
set_option linter.all false
set_option maxRecDepth 100000
set_option maxHeartbeats 4000000
/-! Comprehensions whose parts name the written part K. -/
namespace TPk
open PySem PySem.Spec PyProof.Rows L2
abbrev Bk (α : Type) : Type := Shared → Hp → Addr → List (Str × Addr) → List Addr → α
abbrev Bk.at0 {α : Type} (X : Cx) (f : Bk α) : α := f X.s_0 X.H_0 0 [] []
section
variable {X : Cx}
theorem pe_lcF {elt tg iter : Expr} {ifs : List Expr} {scope : Scope} {own : List (Str × Nat)} {pos : Pos} {wi : TI} {g : Bk TG} {tt : Bk TT} {te : Bk TE} (hc : X.calm = true) (hN : X.N.Nodup) (hi : PI X tg iter wi) (ok : BlkOk X.N X.env.scope scope own)
    (hg : ∀ (s : Shared) (H : Hp) (C : Addr) (cl : List (Str × Addr)) (fp : List Addr), PG (X.blk s H scope (compEnvC scope cl C X.env) fp) tg (g s H C cl fp)) (ht : ∀ (s : Shared) (H : Hp) (C : Addr) (cl : List (Str × Addr)) (fp : List Addr), PTs (X.blk s H scope (compEnvC scope cl C X.env) fp) ifs (tt s H C cl fp))
    (he : ∀ (s : Shared) (H : Hp) (C : Addr) (cl : List (Str × Addr)) (fp : List Addr), PE (X.blk s H scope (compEnvC scope cl C X.env) fp) elt (te s H C cl fp)) (hs : ∀ x, foldedSetIterable iter X.env x = pure x := by intro _; rfl)
    (eg : ∀ s H C cl fp, g s H C cl fp = Bk.at0 X g := by intro _ _ _ _ _; rfl) (et : ∀ s H C cl fp, tt s H C cl fp = Bk.at0 X tt := by intro _ _ _ _ _; rfl) (ee : ∀ s H C cl fp, te s H C cl fp = Bk.at0 X te := by intro _ _ _ _ _; rfl) :
    PE X (.ListComp elt [⟨tg, iter, ifs, 0⟩] scope pos) (tLc wi (Bk.at0 X g) (Bk.at0 X tt) (Bk.at0 X te) (own.map (·.2))) :=
  pe_lc hc hN hi ok (fun s H C cl fp => eg s H C cl fp ▸ hg s H C cl fp) (fun s H C cl fp => et s H C cl fp ▸ ht s H C cl fp) (fun s H C cl fp => ee s H C cl fp ▸ he s H C cl fp) hs
theorem ps_setLcF {i : Nat} {y : Str} {py : Pos} {elt tg iter : Expr} {ifs : List Expr} {scope : Scope} {own : List (Str × Nat)} {pos spos : Pos} {wi : TI} {g : Bk TG} {tt : Bk TT} {te : Bk TE} (hc : X.calm = true) (hN : X.N.Nodup) (hy : X.N[i]? = some y) (hyl : X.env.scope.names.lookup y = some .local)
    (hsw : swapsWith (.ListComp elt [⟨tg, iter, ifs, 0⟩] scope pos) (some (.Name y py)) spos.line X.env = pure true) (hi : PI X tg iter wi) (ok : BlkOk X.N X.env.scope scope own)
    (hg : ∀ (s : Shared) (H : Hp) (C : Addr) (cl : List (Str × Addr)) (fp : List Addr), PG (X.blk s H scope (compEnvC scope cl C X.env) fp) tg (g s H C cl fp)) (ht : ∀ (s : Shared) (H : Hp) (C : Addr) (cl : List (Str × Addr)) (fp : List Addr), PTs (X.blk s H scope (compEnvC scope cl C X.env) fp) ifs (tt s H C cl fp))
    (he : ∀ (s : Shared) (H : Hp) (C : Addr) (cl : List (Str × Addr)) (fp : List Addr), PE (X.blk s H scope (compEnvC scope cl C X.env) fp) elt (te s H C cl fp)) (hs : ∀ x, foldedSetIterable iter X.env x = pure x := by intro _; rfl)
    (eg : ∀ s H C cl fp, g s H C cl fp = Bk.at0 X g := by intro _ _ _ _ _; rfl) (et : ∀ s H C cl fp, tt s H C cl fp = Bk.at0 X tt := by intro _ _ _ _ _; rfl) (ee : ∀ s H C cl fp, te s H C cl fp = Bk.at0 X te := by intro _ _ _ _ _; rfl) :
    PS X (.Assign [.Name y py] (.ListComp elt [⟨tg, iter, ifs, 0⟩] scope pos) spos) (tAsg (tLc wi (Bk.at0 X g) (Bk.at0 X tt) (Bk.at0 X te) (own.map (·.2))) (gName i)) :=
  ps_setLc hc hN hy hyl hsw hi ok (fun s H C cl fp => eg s H C cl fp ▸ hg s H C cl fp) (fun s H C cl fp => et s H C cl fp ▸ ht s H C cl fp) (fun s H C cl fp => ee s H C cl fp ▸ he s H C cl fp) hs
theorem pe_lc2F {elt tg iter tg1 iter1 : Expr} {ifs ifs1 : List Expr} {scope : Scope} {own : List (Str × Nat)} {vs1 : List Nat} {pos : Pos} {wi : TI} {wi1 : Bk TI} {g g1 : Bk TG} {tt tt1 : Bk TT} {te : Bk TE} (hc : X.calm = true) (hN : X.N.Nodup) (hi : PI X tg iter wi) (ok : BlkOk X.N X.env.scope scope own) (hv : ∀ i ∈ vs1, i ∈ own.map (·.2))
    (hg : ∀ (s : Shared) (H : Hp) (C : Addr) (cl : List (Str × Addr)) (fp : List Addr), PG (X.blk s H scope (compEnvC scope cl C X.env) fp) tg (g s H C cl fp)) (ht : ∀ (s : Shared) (H : Hp) (C : Addr) (cl : List (Str × Addr)) (fp : List Addr), PTs (X.blk s H scope (compEnvC scope cl C X.env) fp) ifs (tt s H C cl fp))
    (hi1 : ∀ (s : Shared) (H : Hp) (C : Addr) (cl : List (Str × Addr)) (fp : List Addr), PI (X.blk s H scope (compEnvC scope cl C X.env) fp) tg1 iter1 (wi1 s H C cl fp))
    (hg1 : ∀ (s : Shared) (H : Hp) (C : Addr) (cl : List (Str × Addr)) (fp : List Addr), PG (X.blk s H scope (compEnvC scope cl C X.env) fp) tg1 (g1 s H C cl fp)) (ht1 : ∀ (s : Shared) (H : Hp) (C : Addr) (cl : List (Str × Addr)) (fp : List Addr), PTs (X.blk s H scope (compEnvC scope cl C X.env) fp) ifs1 (tt1 s H C cl fp))
    (he : ∀ (s : Shared) (H : Hp) (C : Addr) (cl : List (Str × Addr)) (fp : List Addr), PE (X.blk s H scope (compEnvC scope cl C X.env) fp) elt (te s H C cl fp)) (hs : ∀ x, foldedSetIterable iter X.env x = pure x := by intro _; rfl) (hs1 : ∀ env x, foldedSetIterable iter1 env x = pure x := by intro _ _; rfl)
    (eg : ∀ s H C cl fp, g s H C cl fp = Bk.at0 X g := by intro _ _ _ _ _; rfl) (et : ∀ s H C cl fp, tt s H C cl fp = Bk.at0 X tt := by intro _ _ _ _ _; rfl) (ei1 : ∀ s H C cl fp, wi1 s H C cl fp = Bk.at0 X wi1 := by intro _ _ _ _ _; rfl)
    (eg1 : ∀ s H C cl fp, g1 s H C cl fp = Bk.at0 X g1 := by intro _ _ _ _ _; rfl) (et1 : ∀ s H C cl fp, tt1 s H C cl fp = Bk.at0 X tt1 := by intro _ _ _ _ _; rfl) (ee : ∀ s H C cl fp, te s H C cl fp = Bk.at0 X te := by intro _ _ _ _ _; rfl) :
    PE X (.ListComp elt [⟨tg, iter, ifs, 0⟩, ⟨tg1, iter1, ifs1, 0⟩] scope pos) (tLc2 wi (Bk.at0 X g) (Bk.at0 X tt) (Bk.at0 X wi1) (Bk.at0 X g1) (Bk.at0 X tt1) (Bk.at0 X te) (own.map (·.2)) vs1) :=
  pe_lc2 hc hN hi ok hv (fun s H C cl fp => eg s H C cl fp ▸ hg s H C cl fp) (fun s H C cl fp => et s H C cl fp ▸ ht s H C cl fp) (fun s H C cl fp => ei1 s H C cl fp ▸ hi1 s H C cl fp) (fun s H C cl fp => eg1 s H C cl fp ▸ hg1 s H C cl fp)
    (fun s H C cl fp => et1 s H C cl fp ▸ ht1 s H C cl fp) (fun s H C cl fp => ee s H C cl fp ▸ he s H C cl fp) hs hs1
theorem pe_dcF {kx vx tg iter : Expr} {ifs : List Expr} {scope : Scope} {own : List (Str × Nat)} {pos : Pos} {wi : TI} {g : Bk TG} {tt : Bk TT} {tk tv : Bk TE} (hc : X.calm = true) (hN : X.N.Nodup) (hi : PI X tg iter wi) (ok : BlkOk X.N X.env.scope scope own)
    (hg : ∀ (s : Shared) (H : Hp) (C : Addr) (cl : List (Str × Addr)) (fp : List Addr), PG (X.blk s H scope (compEnvC scope cl C X.env) fp) tg (g s H C cl fp)) (ht : ∀ (s : Shared) (H : Hp) (C : Addr) (cl : List (Str × Addr)) (fp : List Addr), PTs (X.blk s H scope (compEnvC scope cl C X.env) fp) ifs (tt s H C cl fp))
    (hk : ∀ (s : Shared) (H : Hp) (C : Addr) (cl : List (Str × Addr)) (fp : List Addr), PE (X.blk s H scope (compEnvC scope cl C X.env) fp) kx (tk s H C cl fp))
    (he : ∀ (s : Shared) (H : Hp) (C : Addr) (cl : List (Str × Addr)) (fp : List Addr), PE (X.blk s H scope (compEnvC scope cl C X.env) fp) vx (tv s H C cl fp)) (hs : ∀ x, foldedSetIterable iter X.env x = pure x := by intro _; rfl)
    (eg : ∀ s H C cl fp, g s H C cl fp = Bk.at0 X g := by intro _ _ _ _ _; rfl) (et : ∀ s H C cl fp, tt s H C cl fp = Bk.at0 X tt := by intro _ _ _ _ _; rfl) (ek : ∀ s H C cl fp, tk s H C cl fp = Bk.at0 X tk := by intro _ _ _ _ _; rfl) (ee : ∀ s H C cl fp, tv s H C cl fp = Bk.at0 X tv := by intro _ _ _ _ _; rfl) :
    PE X (.DictComp kx vx [⟨tg, iter, ifs, 0⟩] scope pos) (tDc wi (Bk.at0 X g) (Bk.at0 X tt) (Bk.at0 X tk) (Bk.at0 X tv) (own.map (·.2))) :=
  pe_dc hc hN hi ok (fun s H C cl fp => eg s H C cl fp ▸ hg s H C cl fp) (fun s H C cl fp => et s H C cl fp ▸ ht s H C cl fp) (fun s H C cl fp => ek s H C cl fp ▸ hk s H C cl fp) (fun s H C cl fp => ee s H C cl fp ▸ he s H C cl fp) hs
end
end TPk
end R6_text

section E0_text
set_option Elab.async false
set_option linter.all false
set_option maxRecDepth 100000
set_option maxHeartbeats 4000000
namespace TPk
open PySem PySem.Spec PyProof.Rows L2
/-! ### what the top has left, by names -/
structure Fx (K : PySem.W.Frag) (mg : Str → Option Value) : Prop where
  D : He.SaysD ff dd K
  B : xB K = true
  at_ : ∃ h : Heap, K.In h ∧ h.Ns mainGlobals mg
section
variable {K : PySem.W.Frag} {mg : Str → Option Value} (T : Fx K mg)
include T
theorem Fx.glo {x : Str} (c : (He.Fa.glo x).ok K = true) : mg x = some (.ref (He.ga K x)) := by
  obtain ⟨h, X, G⟩ := T.at_
  exact He.glo_ok X G c
theorem Fx.free {x : Str} (c : (He.Fa.free x).ok K = true) : mg x = none := by
  obtain ⟨h, X, G⟩ := T.at_
  exact He.free_ok X G c
theorem Fx.int {x : Str} {i : Int} (c : (He.Fa.int x i).ok K = true) : ∃ u, mg x = some u ∧ RelV (.int i) u := by
  obtain ⟨h, X, G⟩ := T.at_
  obtain ⟨t, e⟩ := He.int_ok X G c
  exact ⟨_, e, t, rfl⟩
theorem Fx.str {x z : Str} (c : (He.Fa.str x z).ok K = true) : ∃ u, mg x = some u ∧ RelV (.str z) u := by
  obtain ⟨h, X, G⟩ := T.at_
  obtain ⟨t, e⟩ := He.str_ok X G c
  exact ⟨_, e, t, rfl⟩
theorem Fx.m_is_integer : mg "is_integer" = some (.ref (He.ga K "is_integer")) := T.glo (T.D.fact 0)
theorem Fx.m_is_kind : mg "is_kind" = some (.ref (He.ga K "is_kind")) := T.glo (T.D.fact 1)
theorem Fx.m_is_amount : mg "is_amount" = some (.ref (He.ga K "is_amount")) := T.glo (T.D.fact 2)
theorem Fx.m_is_event : mg "is_event" = some (.ref (He.ga K "is_event")) := T.glo (T.D.fact 3)
theorem Fx.m_first_wrong : mg "first_wrong" = some (.ref (He.ga K "first_wrong")) := T.glo (T.D.fact 4)
theorem Fx.m_check_log : mg "check_log" = some (.ref (He.ga K "check_log")) := T.glo (T.D.fact 5)
theorem Fx.m_terms_of : mg "terms_of" = some (.ref (He.ga K "terms_of")) := T.glo (T.D.fact 6)
theorem Fx.m_source_of : mg "source_of" = some (.ref (He.ga K "source_of")) := T.glo (T.D.fact 7)
theorem Fx.m_best_of : mg "best_of" = some (.ref (He.ga K "best_of")) := T.glo (T.D.fact 8)
theorem Fx.m_start_nodes : mg "start_nodes" = some (.ref (He.ga K "start_nodes")) := T.glo (T.D.fact 9)
theorem Fx.m_marks_meant : mg "marks_meant" = some (.ref (He.ga K "marks_meant")) := T.glo (T.D.fact 10)
theorem Fx.m_moved : mg "moved" = some (.ref (He.ga K "moved")) := T.glo (T.D.fact 11)
theorem Fx.m_has_result : mg "has_result" = some (.ref (He.ga K "has_result")) := T.glo (T.D.fact 12)
theorem Fx.m_pairs_of : mg "pairs_of" = some (.ref (He.ga K "pairs_of")) := T.glo (T.D.fact 13)
theorem Fx.m_stepped : mg "stepped" = some (.ref (He.ga K "stepped")) := T.glo (T.D.fact 14)
theorem Fx.m_read_out : mg "read_out" = some (.ref (He.ga K "read_out")) := T.glo (T.D.fact 15)
theorem Fx.m_first_fall : mg "first_fall" = some (.ref (He.ga K "first_fall")) := T.glo (T.D.fact 16)
theorem Fx.m_check_kinds : mg "check_kinds" = some (.ref (He.ga K "check_kinds")) := T.glo (T.D.fact 17)
theorem Fx.m_check_start : mg "check_start" = some (.ref (He.ga K "check_start")) := T.glo (T.D.fact 18)
theorem Fx.m_is_rule : mg "is_rule" = some (.ref (He.ga K "is_rule")) := T.glo (T.D.fact 19)
theorem Fx.m_check_rules : mg "check_rules" = some (.ref (He.ga K "check_rules")) := T.glo (T.D.fact 20)
theorem Fx.m_check_result : mg "check_result" = some (.ref (He.ga K "check_result")) := T.glo (T.D.fact 21)
theorem Fx.m_check_statistic : mg "check_statistic" = some (.ref (He.ga K "check_statistic")) := T.glo (T.D.fact 22)
theorem Fx.m_check_two : mg "check_two" = some (.ref (He.ga K "check_two")) := T.glo (T.D.fact 23)
theorem Fx.m_check_flag : mg "check_flag" = some (.ref (He.ga K "check_flag")) := T.glo (T.D.fact 24)
theorem Fx.m_letters_to : mg "letters_to" = some (.ref (He.ga K "letters_to")) := T.glo (T.D.fact 25)
theorem Fx.m_first_parting : mg "first_parting" = some (.ref (He.ga K "first_parting")) := T.glo (T.D.fact 26)
theorem Fx.m_shown : mg "shown" = some (.ref (He.ga K "shown")) := T.glo (T.D.fact 27)
theorem Fx.m_difference : mg "difference" = some (.ref (He.ga K "difference")) := T.glo (T.D.fact 28)
theorem Fx.m_equal : mg "equal" = some (.ref (He.ga K "equal")) := T.glo (T.D.fact 29)
theorem Fx.m_excess : mg "excess" = some (.ref (He.ga K "excess")) := T.glo (T.D.fact 30)
theorem Fx.m_never_above : mg "never_above" = some (.ref (He.ga K "never_above")) := T.glo (T.D.fact 31)
theorem Fx.m_law_cell : mg "_law_cell" = some (.ref (He.ga K "_law_cell")) := T.glo (T.D.fact 32)
theorem Fx.m_law_pool : mg "_law_pool" = some (.ref (He.ga K "_law_pool")) := T.glo (T.D.fact 33)
theorem Fx.m_law_draw : mg "_law_draw" = some (.ref (He.ga K "_law_draw")) := T.glo (T.D.fact 34)
theorem Fx.m_law_terms : mg "_law_terms" = some (.ref (He.ga K "_law_terms")) := T.glo (T.D.fact 35)
theorem Fx.m_law_source : mg "_law_source" = some (.ref (He.ga K "_law_source")) := T.glo (T.D.fact 36)
theorem Fx.m_law_some : mg "_law_some" = some (.ref (He.ga K "_law_some")) := T.glo (T.D.fact 37)
theorem Fx.m_law_named : mg "_law_named" = some (.ref (He.ga K "_law_named")) := T.glo (T.D.fact 38)
theorem Fx.m_law_plain : mg "_law_plain" = some (.ref (He.ga K "_law_plain")) := T.glo (T.D.fact 39)
theorem Fx.m_law_great : mg "_law_great" = some (.ref (He.ga K "_law_great")) := T.glo (T.D.fact 40)
theorem Fx.m_law_of : mg "_law_of" = some (.ref (He.ga K "_law_of")) := T.glo (T.D.fact 41)
theorem Fx.m_law_best : mg "_law_best" = some (.ref (He.ga K "_law_best")) := T.glo (T.D.fact 42)
theorem Fx.m_law_step : mg "_law_step" = some (.ref (He.ga K "_law_step")) := T.glo (T.D.fact 43)
theorem Fx.m_law_end : mg "_law_end" = some (.ref (He.ga K "_law_end")) := T.glo (T.D.fact 44)
theorem Fx.m_law_result : mg "_law_result" = some (.ref (He.ga K "_law_result")) := T.glo (T.D.fact 45)
theorem Fx.m_law_events : mg "_law_events" = some (.ref (He.ga K "_law_events")) := T.glo (T.D.fact 46)
theorem Fx.m_law_swapped_name : mg "_law_swapped_name" = some (.ref (He.ga K "_law_swapped_name")) := T.glo (T.D.fact 47)
theorem Fx.m_law_renamed : mg "_law_renamed" = some (.ref (He.ga K "_law_renamed")) := T.glo (T.D.fact 48)
theorem Fx.m_law_bent_rule : mg "_law_bent_rule" = some (.ref (He.ga K "_law_bent_rule")) := T.glo (T.D.fact 49)
theorem Fx.m_law_varied : mg "_law_varied" = some (.ref (He.ga K "_law_varied")) := T.glo (T.D.fact 50)
theorem Fx.m_law_above : mg "_law_above" = some (.ref (He.ga K "_law_above")) := T.glo (T.D.fact 51)
theorem Fx.m_law_no_right : mg "_law_no_right" = some (.ref (He.ga K "_law_no_right")) := T.glo (T.D.fact 52)
theorem Fx.m_law_yes_right : mg "_law_yes_right" = some (.ref (He.ga K "_law_yes_right")) := T.glo (T.D.fact 53)
theorem Fx.m_law_right : mg "_law_right" = some (.ref (He.ga K "_law_right")) := T.glo (T.D.fact 54)
theorem Fx.m_law : mg "law" = some (.ref (He.ga K "law")) := T.glo (T.D.fact 55)
theorem Fx.g_Statistic : ∃ u, mg "Statistic" = some u ∧ RelV (.ref (He.ga K "Statistic")) u := ⟨_, T.glo (T.D.fact 56), rfl⟩
theorem Fx.m_Statistic : mg "Statistic" = some (.ref (He.ga K "Statistic")) := T.glo (T.D.fact 56)
theorem Fx.g_Greatest : ∃ u, mg "Greatest" = some u ∧ RelV (.ref (He.ga K "Greatest")) u := ⟨_, T.glo (T.D.fact 57), rfl⟩
theorem Fx.m_Greatest : mg "Greatest" = some (.ref (He.ga K "Greatest")) := T.glo (T.D.fact 57)
theorem Fx.g_Least : ∃ u, mg "Least" = some u ∧ RelV (.ref (He.ga K "Least")) u := ⟨_, T.glo (T.D.fact 58), rfl⟩
theorem Fx.m_Least : mg "Least" = some (.ref (He.ga K "Least")) := T.glo (T.D.fact 58)
theorem Fx.g_Walker : ∃ u, mg "Walker" = some u ∧ RelV (.ref (He.ga K "Walker")) u := ⟨_, T.glo (T.D.fact 59), rfl⟩
theorem Fx.m_Walker : mg "Walker" = some (.ref (He.ga K "Walker")) := T.glo (T.D.fact 59)
theorem Fx.g_REGISTERS : ∃ u, mg "REGISTERS" = some u ∧ RelV (.ref (He.ga K "REGISTERS")) u := ⟨_, T.glo (T.D.fact 60), rfl⟩
theorem Fx.m_REGISTERS : mg "REGISTERS" = some (.ref (He.ga K "REGISTERS")) := T.glo (T.D.fact 60)
theorem Fx.f_len : mg "len" = none := T.free (T.D.fact 61)
theorem Fx.f_isinstance : mg "isinstance" = none := T.free (T.D.fact 62)
theorem Fx.f_zip : mg "zip" = none := T.free (T.D.fact 63)
theorem Fx.f_range : mg "range" = none := T.free (T.D.fact 64)
theorem Fx.f_enumerate : mg "enumerate" = none := T.free (T.D.fact 65)
theorem Fx.f_tuple : mg "tuple" = none := T.free (T.D.fact 66)
theorem Fx.f_any : mg "any" = none := T.free (T.D.fact 67)
theorem Fx.f_all : mg "all" = none := T.free (T.D.fact 68)
theorem Fx.f_max : mg "max" = none := T.free (T.D.fact 69)
theorem Fx.f_min : mg "min" = none := T.free (T.D.fact 70)
theorem Fx.f_abs : mg "abs" = none := T.free (T.D.fact 71)
theorem Fx.f_divmod : mg "divmod" = none := T.free (T.D.fact 72)
theorem Fx.f_int : mg "int" = none := T.free (T.D.fact 73)
theorem Fx.f_str : mg "str" = none := T.free (T.D.fact 74)
theorem Fx.f_sorted : mg "sorted" = none := T.free (T.D.fact 75)
theorem Fx.f_bool : mg "bool" = none := T.free (T.D.fact 76)
theorem Fx.g_MAX_KINDS : ∃ u, mg "MAX_KINDS" = some u ∧ RelV (.int 4) u := T.int (T.D.fact 77)
theorem Fx.g_MAX_REGISTERS : ∃ u, mg "MAX_REGISTERS" = some u ∧ RelV (.int 6) u := T.int (T.D.fact 78)
theorem Fx.g_MAX_EVENTS : ∃ u, mg "MAX_EVENTS" = some u ∧ RelV (.int 1000) u := T.int (T.D.fact 79)
theorem Fx.g_MAX_AMOUNT : ∃ u, mg "MAX_AMOUNT" = some u ∧ RelV (.int 1000000000000000000000000000000) u := T.int (T.D.fact 80)
theorem Fx.g_LETTERS : ∃ u, mg "LETTERS" = some u ∧ RelV (.str "abcdefghijklmnopqrstuvwxyz") u := T.str (T.D.fact 81)
theorem Fx.cls_Greatest : Cls K (He.ga K "Greatest") := He.cls_ok (T.D.fact 82)
theorem Fx.mk_Greatest : Mk K (He.ga K "Greatest") (He.ma K (He.ga K "Greatest") "__init__") := He.mkr_ok (T.D.fact 83)
theorem Fx.cls_Least : Cls K (He.ga K "Least") := He.cls_ok (T.D.fact 84)
theorem Fx.mk_Least : Mk K (He.ga K "Least") (He.ma K (He.ga K "Least") "__init__") := He.mkr_ok (T.D.fact 85)
theorem Fx.cls_Walker : Cls K (He.ga K "Walker") := He.cls_ok (T.D.fact 86)
theorem Fx.mk_Walker : Mk K (He.ga K "Walker") (He.ma K (He.ga K "Walker") "__init__") := He.mkr_ok (T.D.fact 87)
theorem Fx.no_Greatest_kinds : NoAttr K (He.ga K "Greatest") "kinds" := He.noat_ok (T.D.fact 88)
theorem Fx.no_Greatest_start : NoAttr K (He.ga K "Greatest") "start" := He.noat_ok (T.D.fact 89)
theorem Fx.no_Greatest_rules : NoAttr K (He.ga K "Greatest") "rules" := He.noat_ok (T.D.fact 90)
theorem Fx.no_Greatest_ends : NoAttr K (He.ga K "Greatest") "ends" := He.noat_ok (T.D.fact 91)
theorem Fx.no_Least_kinds : NoAttr K (He.ga K "Least") "kinds" := He.noat_ok (T.D.fact 92)
theorem Fx.no_Least_start : NoAttr K (He.ga K "Least") "start" := He.noat_ok (T.D.fact 93)
theorem Fx.no_Least_rules : NoAttr K (He.ga K "Least") "rules" := He.noat_ok (T.D.fact 94)
theorem Fx.no_Least_ends : NoAttr K (He.ga K "Least") "ends" := He.noat_ok (T.D.fact 95)
theorem Fx.no_Walker_owner : NoAttr K (He.ga K "Walker") "owner" := He.noat_ok (T.D.fact 96)
theorem Fx.no_Walker_widely : NoAttr K (He.ga K "Walker") "widely" := He.noat_ok (T.D.fact 97)
theorem Fx.no_Walker_seen : NoAttr K (He.ga K "Walker") "seen" := He.noat_ok (T.D.fact 98)
theorem Fx.keep_Statistic : PySem.W.keepIn K (.ref (He.ga K "Statistic")) = true := He.keep_ok (T.D.fact 99)
theorem Fx.keep_Greatest : PySem.W.keepIn K (.ref (He.ga K "Greatest")) = true := He.keep_ok (T.D.fact 100)
theorem Fx.keep_Least : PySem.W.keepIn K (.ref (He.ga K "Least")) = true := He.keep_ok (T.D.fact 101)
theorem Fx.keep_Walker : PySem.W.keepIn K (.ref (He.ga K "Walker")) = true := He.keep_ok (T.D.fact 102)
theorem Fx.con_g : ∃ u, Con K (He.ga K "Greatest") "SIDE" (.str "greatest") u := He.conB_ok (v := .str "greatest") (He.ba T.B).1
theorem Fx.con_l : ∃ u, Con K (He.ga K "Least") "SIDE" (.str "least") u := He.conB_ok (v := .str "least") (He.ba (He.ba T.B).2).1
theorem Fx.regs (H : Hp) : SqT K H (He.ga K "REGISTERS") ((["r0", "r1", "r2", "r3", "r4", "r5"] : List Str).map V.str) := He.tupB_ok (He.ba (He.ba (He.ba T.B).2).2).1 H
theorem Fx.cl_call_g : PySem.W.findIn K (.ref (He.ga K "Greatest")) "__call__" = some (some (.ref (He.ma K (He.ga K "Greatest") "__call__"))) ∧ PySem.W.isFn K (.ref (He.ma K (He.ga K "Greatest") "__call__")) = true ∧ PySem.W.fnIn K (He.ma K (He.ga K "Greatest") "__call__") = true :=
  ⟨He.eqO_ok (He.ba (He.ba (He.ba (He.ba (He.ba T.B).2).2).2).1).1, (He.ba (He.ba (He.ba (He.ba (He.ba (He.ba T.B).2).2).2).1).2).1, (He.ba (He.ba (He.ba (He.ba (He.ba (He.ba T.B).2).2).2).1).2).2⟩
theorem Fx.cl_item_g : PySem.W.findIn K (.ref (He.ga K "Greatest")) "__getitem__" = some (some (.ref (He.ma K (He.ga K "Greatest") "__getitem__"))) ∧ PySem.W.isFn K (.ref (He.ma K (He.ga K "Greatest") "__getitem__")) = true ∧ PySem.W.fnIn K (He.ma K (He.ga K "Greatest") "__getitem__") = true :=
  ⟨He.eqO_ok (He.ba (He.ba (He.ba (He.ba (He.ba (He.ba T.B).2).2).2).2).1).1, (He.ba (He.ba (He.ba (He.ba (He.ba (He.ba (He.ba T.B).2).2).2).2).1).2).1, (He.ba (He.ba (He.ba (He.ba (He.ba (He.ba (He.ba T.B).2).2).2).2).1).2).2⟩
theorem Fx.cl_call_l : PySem.W.findIn K (.ref (He.ga K "Least")) "__call__" = some (some (.ref (He.ma K (He.ga K "Least") "__call__"))) ∧ PySem.W.isFn K (.ref (He.ma K (He.ga K "Least") "__call__")) = true ∧ PySem.W.fnIn K (He.ma K (He.ga K "Least") "__call__") = true :=
  ⟨He.eqO_ok (He.ba (He.ba (He.ba (He.ba (He.ba (He.ba (He.ba T.B).2).2).2).2).2).1).1, (He.ba (He.ba (He.ba (He.ba (He.ba (He.ba (He.ba (He.ba T.B).2).2).2).2).2).1).2).1, (He.ba (He.ba (He.ba (He.ba (He.ba (He.ba (He.ba (He.ba T.B).2).2).2).2).2).1).2).2⟩
theorem Fx.cl_item_l : PySem.W.findIn K (.ref (He.ga K "Least")) "__getitem__" = some (some (.ref (He.ma K (He.ga K "Least") "__getitem__"))) ∧ PySem.W.isFn K (.ref (He.ma K (He.ga K "Least") "__getitem__")) = true ∧ PySem.W.fnIn K (He.ma K (He.ga K "Least") "__getitem__") = true :=
  ⟨He.eqO_ok (He.ba (He.ba (He.ba (He.ba (He.ba (He.ba (He.ba (He.ba T.B).2).2).2).2).2).2).1).1, (He.ba (He.ba (He.ba (He.ba (He.ba (He.ba (He.ba (He.ba (He.ba T.B).2).2).2).2).2).2).1).2).1, (He.ba (He.ba (He.ba (He.ba (He.ba (He.ba (He.ba (He.ba (He.ba T.B).2).2).2).2).2).2).1).2).2⟩
theorem Fx.cl_call_w : PySem.W.findIn K (.ref (He.ga K "Walker")) "__call__" = some (some (.ref (He.ma K (He.ga K "Walker") "__call__"))) ∧ PySem.W.isFn K (.ref (He.ma K (He.ga K "Walker") "__call__")) = true ∧ PySem.W.fnIn K (He.ma K (He.ga K "Walker") "__call__") = true :=
  ⟨He.eqO_ok (He.ba (He.ba (He.ba (He.ba (He.ba (He.ba (He.ba (He.ba (He.ba T.B).2).2).2).2).2).2).2).1).1, (He.ba (He.ba (He.ba (He.ba (He.ba (He.ba (He.ba (He.ba (He.ba (He.ba T.B).2).2).2).2).2).2).2).1).2).1, (He.ba (He.ba (He.ba (He.ba (He.ba (He.ba (He.ba (He.ba (He.ba (He.ba T.B).2).2).2).2).2).2).2).1).2).2⟩
theorem Fx.gs : PySem.W.specialIn K (.builtin "object.__class__") "__get__" = some (some (.builtin "getset_descriptor.__get__")) ∧ PySem.W.takesIn K (.builtin "object.__class__") = some true :=
  ⟨of_decide_eq_true (He.ba (He.ba (He.ba (He.ba (He.ba (He.ba (He.ba (He.ba (He.ba (He.ba (He.ba (He.ba T.B).2).2).2).2).2).2).2).2).2).2).1).1, of_decide_eq_true (He.ba (He.ba (He.ba (He.ba (He.ba (He.ba (He.ba (He.ba (He.ba (He.ba (He.ba (He.ba T.B).2).2).2).2).2).2).2).2).2).2).1).2⟩
theorem Fx.isa_g {H : Hp} {a dx : Addr} {fs : List (Str × V)} (e : H a = some (.ins (He.ga K "Greatest") dx fs)) : TyX K H (.ref a) (.ref (He.ga K "Greatest")) ∧ PySem.W.kitOne K (.ref (He.ga K "Greatest")) (.ref (He.ga K "Statistic")) = some true :=
  ⟨.base (.ins e T.cls_Greatest (He.eqO_ok (He.ba (He.ba (He.ba (He.ba (He.ba (He.ba (He.ba (He.ba (He.ba (He.ba T.B).2).2).2).2).2).2).2).2).1).1) T.gs.1 T.gs.2 (of_decide_eq_true (He.ba (He.ba (He.ba (He.ba (He.ba (He.ba (He.ba (He.ba (He.ba (He.ba (He.ba T.B).2).2).2).2).2).2).2).2).1).2).1)), of_decide_eq_true (He.ba (He.ba (He.ba (He.ba (He.ba (He.ba (He.ba (He.ba (He.ba (He.ba (He.ba T.B).2).2).2).2).2).2).2).2).1).2).2⟩
theorem Fx.isa_l {H : Hp} {a dx : Addr} {fs : List (Str × V)} (e : H a = some (.ins (He.ga K "Least") dx fs)) : TyX K H (.ref a) (.ref (He.ga K "Least")) ∧ PySem.W.kitOne K (.ref (He.ga K "Least")) (.ref (He.ga K "Statistic")) = some true :=
  ⟨.base (.ins e T.cls_Least (He.eqO_ok (He.ba (He.ba (He.ba (He.ba (He.ba (He.ba (He.ba (He.ba (He.ba (He.ba (He.ba T.B).2).2).2).2).2).2).2).2).2).1).1) T.gs.1 T.gs.2 (of_decide_eq_true (He.ba (He.ba (He.ba (He.ba (He.ba (He.ba (He.ba (He.ba (He.ba (He.ba (He.ba (He.ba T.B).2).2).2).2).2).2).2).2).2).1).2).1)), of_decide_eq_true (He.ba (He.ba (He.ba (He.ba (He.ba (He.ba (He.ba (He.ba (He.ba (He.ba (He.ba (He.ba T.B).2).2).2).2).2).2).2).2).2).1).2).2⟩
theorem Fx.same_init_g : He.ma K (He.ga K "Greatest") "__init__" = He.ma K (He.ga K "Statistic") "__init__" := of_decide_eq_true (He.ba (He.ba (He.ba (He.ba (He.ba (He.ba (He.ba (He.ba (He.ba (He.ba (He.ba (He.ba T.B).2).2).2).2).2).2).2).2).2).2).2).1
theorem Fx.same_init_l : He.ma K (He.ga K "Least") "__init__" = He.ma K (He.ga K "Statistic") "__init__" := of_decide_eq_true (He.ba (He.ba (He.ba (He.ba (He.ba (He.ba (He.ba (He.ba (He.ba (He.ba (He.ba (He.ba (He.ba T.B).2).2).2).2).2).2).2).2).2).2).2).2).1
theorem Fx.same_call_g : He.ma K (He.ga K "Greatest") "__call__" = He.ma K (He.ga K "Statistic") "__call__" := of_decide_eq_true (He.ba (He.ba (He.ba (He.ba (He.ba (He.ba (He.ba (He.ba (He.ba (He.ba (He.ba (He.ba (He.ba (He.ba T.B).2).2).2).2).2).2).2).2).2).2).2).2).2).1
theorem Fx.same_call_l : He.ma K (He.ga K "Least") "__call__" = He.ma K (He.ga K "Statistic") "__call__" := of_decide_eq_true (He.ba (He.ba (He.ba (He.ba (He.ba (He.ba (He.ba (He.ba (He.ba (He.ba (He.ba (He.ba (He.ba (He.ba (He.ba T.B).2).2).2).2).2).2).2).2).2).2).2).2).2).2).1
theorem Fx.same_item_g : He.ma K (He.ga K "Greatest") "__getitem__" = He.ma K (He.ga K "Statistic") "__getitem__" := of_decide_eq_true (He.ba (He.ba (He.ba (He.ba (He.ba (He.ba (He.ba (He.ba (He.ba (He.ba (He.ba (He.ba (He.ba (He.ba (He.ba (He.ba T.B).2).2).2).2).2).2).2).2).2).2).2).2).2).2).2).1
theorem Fx.same_item_l : He.ma K (He.ga K "Least") "__getitem__" = He.ma K (He.ga K "Statistic") "__getitem__" := of_decide_eq_true (He.ba (He.ba (He.ba (He.ba (He.ba (He.ba (He.ba (He.ba (He.ba (He.ba (He.ba (He.ba (He.ba (He.ba (He.ba (He.ba T.B).2).2).2).2).2).2).2).2).2).2).2).2).2).2).2).2
end
end TPk
end E0_text

section E1_text
set_option Elab.async false
set_option linter.all false
set_option maxRecDepth 100000
set_option maxHeartbeats 4000000
/-! What a reading gives, as data: G, T, A, L; loops and comprehensions over data. -/
namespace TPk
open PySem PySem.Spec PyProof.Rows L2
theorem IsAll.inv1 {K : PySem.W.Frag} {H : Hp} {d : Dt} {vs : List V} (h : IsAll K H [d] vs) : ∃ v, vs = [v] ∧ Is K H d v := by
  cases h with
  | cons q r => cases r; exact ⟨_, rfl, q⟩
theorem IsAll.invc {K : PySem.W.Frag} {H : Hp} {d : Dt} {ds : List Dt} {vs : List V} (h : IsAll K H (d :: ds) vs) : ∃ v us, vs = v :: us ∧ Is K H d v ∧ IsAll K H ds us := by
  cases h with
  | cons q r => exact ⟨_, _, rfl, q, r⟩
theorem IsAll.inv2 {K : PySem.W.Frag} {H : Hp} {d1 d2 : Dt} {vs : List V} (h : IsAll K H [d1, d2] vs) : ∃ v1 v2, vs = [v1, v2] ∧ Is K H d1 v1 ∧ Is K H d2 v2 := by
  obtain ⟨v, us, rfl, h1, h⟩ := h.invc
  obtain ⟨u, rfl, h2⟩ := h.inv1
  exact ⟨_, _, rfl, h1, h2⟩
theorem IsAll.inv3 {K : PySem.W.Frag} {H : Hp} {d1 d2 d3 : Dt} {vs : List V} (h : IsAll K H [d1, d2, d3] vs) : ∃ v1 v2 v3, vs = [v1, v2, v3] ∧ Is K H d1 v1 ∧ Is K H d2 v2 ∧ Is K H d3 v3 := by
  obtain ⟨v, us, rfl, h1, h⟩ := h.invc
  obtain ⟨u, z, rfl, h2, h3⟩ := h.inv2
  exact ⟨_, _, _, rfl, h1, h2, h3⟩
theorem IsAll.inv4 {K : PySem.W.Frag} {H : Hp} {d1 d2 d3 d4 : Dt} {vs : List V} (h : IsAll K H [d1, d2, d3, d4] vs) : ∃ v1 v2 v3 v4, vs = [v1, v2, v3, v4] ∧ Is K H d1 v1 ∧ Is K H d2 v2 ∧ Is K H d3 v3 ∧ Is K H d4 v4 := by
  obtain ⟨v, us, rfl, h1, h⟩ := h.invc
  obtain ⟨u, y, z, rfl, h2, h3, h4⟩ := h.inv3
  exact ⟨_, _, _, _, rfl, h1, h2, h3, h4⟩
theorem IsAll.inv5 {K : PySem.W.Frag} {H : Hp} {d1 d2 d3 d4 d5 : Dt} {vs : List V} (h : IsAll K H [d1, d2, d3, d4, d5] vs) : ∃ v1 v2 v3 v4 v5, vs = [v1, v2, v3, v4, v5] ∧ Is K H d1 v1 ∧ Is K H d2 v2 ∧ Is K H d3 v3 ∧ Is K H d4 v4 ∧ Is K H d5 v5 := by
  obtain ⟨v, us, rfl, h1, h⟩ := h.invc
  obtain ⟨u, x, y, z, rfl, h2, h3, h4, h5⟩ := h.inv4
  exact ⟨_, _, _, _, _, rfl, h1, h2, h3, h4, h5⟩
/-- a def's rule, no exception leaves its body -/
theorem ok0 {P : Program} {w : World} {K : PySem.W.Frag} {mg : Str → Option Value} {base : Heap} {x qual : Str} {params : Arguments} {body : List Stmt} {scope : Scope} {dvs : List V} {kws : List (Str × V)} {f : Addr} {fd : FuncData} {N ps : List Str} {k : Nat} {sp : Sp}
    (F : FunD K x qual params body scope dvs kws f fd) (S : FnScope N ps scope) (len : ∀ vs H Q E, sp vs H Q E → vs.length = ps.length)
    (hbody : ∀ (cdv : Value) (A : Around) (outer : List Env) (s : Shared) (H : Hp) (vs : List V) (Q : VK) (E : XK), Room k (A.deeper (envOfC qual scope s.heap.objs.size f cdv)) → sp vs H Q E →
      ∃ t, PSs (cxOf C8.CX0 P w K mg base N qual scope f cdv A outer s H E).nox body t ∧ t { nx := fun _ H' => Q .non H', rt := Q } (start N vs) H) : FnOk P w K mg base C8.CX0 (k + 1) f fd ps sp :=
  F.ok S len fun cdv A outer s H vs Q E hr hsp => let ⟨t, h, q⟩ := hbody cdv A outer s H vs Q E hr hsp; ⟨t, h.nox, q⟩
theorem sz {n : Nat} (h : n ≤ 100000) : n ≤ sizeLine := Nat.le_trans h (by decide)
/-- what may change meanwhile: M, kept in order by J -/
structure Mo where
  M : Addr → Prop
  J : Hp → Prop
  has : ∀ {H b}, J H → M b → H b ≠ none
  loc : ∀ {H H' : Hp}, J H → (∀ b o, M b → H b = some o → H' b = some o) → TK H H' → J H'
/-- nothing changes -/
def m0 : Mo := ⟨fun _ => False, fun _ => True, fun _ h => h.elim, fun _ _ _ => True.intro⟩
def Kp (M : Addr → Prop) (H H' : Hp) : Prop := ∀ b o, H b = some o → (M b → Imm o) → H' b = some o
def Go (m : Mo) (H H' : Hp) : Prop := Kp m.M H H' ∧ m.J H'
theorem Kp.tk {M : Addr → Prop} {H H' : Hp} (g : Kp M H H') : TK H H' := fun b o h i => g b o h fun _ => i
section
variable {m : Mo} {H H1 H2 : Hp}
theorem Go.tk (g : Go m H H1) : TK H H1 := fun b o h i => g.1 b o h fun _ => i
theorem Go.refl (j : m.J H) : Go m H H := ⟨fun _ _ h _ => h, j⟩
theorem Go.again (g : Go m H H1) : Go m H1 H1 := .refl g.2
theorem Go.trans (a : Go m H H1) (b : Go m H1 H2) : Go m H H2 := ⟨fun x o h i => b.1 x o (a.1 x o h i) i, b.2⟩
theorem go_same (j : m.J H) (s : Same H H1) : Go m H H1 := ⟨fun b o h _ => s b o h, m.loc j (fun b o _ h => s b o h) (Same.tk s)⟩
theorem Go.same (g : Go m H H1) (s : Same H1 H2) : Go m H H2 := g.trans (go_same g.2 s)
theorem Go.new {p : Addr} {o : HO} (g : Go m H H1) (h : H1 p = none) : Go m H (upd H1 p o) := g.same (same_new h)
theorem Go.new' (j : m.J H) {p : Addr} {o : HO} (h : H p = none) : Go m H (upd H p o) := go_same j (same_new h)
theorem go0 (s : Same H H1) : Go m0 H H1 := ⟨fun b o h _ => s b o h, True.intro⟩
theorem Go.to0 (g : Go m0 H H1) : Same H H1 := fun b o h => g.1 b o h fun z => z.elim
theorem Go.free (g : Go m H H1) {l : Addr} (h : H1 l = none) : H l = none := by
  cases e : H l with
  | none => rfl
  | some o =>
    by_cases i : m.M l → Imm o
    · rw [g.1 l o e i] at h; cases h
    · exact absurd h (m.has g.2 (Classical.byContradiction fun z => i fun y => (z y).elim))
theorem Go.notM (g : m.J H) {l : Addr} (h : H l = none) : ¬ m.M l := fun z => m.has g z h
/-- an object new since H is changed -/
theorem Go.mut {l : Addr} {o u : HO} (g : Go m H H1) (h : H l = none) (e : H1 l = some u) (hu : ¬ Imm u) (hm : ¬ m.M l) : Go m H (upd H1 l o) :=
  ⟨fun b v hb i => by rw [upd_ne (ne_of_none hb h)]; exact g.1 b v hb i, m.loc g.2 (fun b v hb eb => by rw [upd_ne (fun z => hm (by rw [← z]; exact hb))]; exact eb) ((TK.refl H1).mut e hu)⟩
end
/-! ### judgements -/
section
variable (K : PySem.W.Frag) (m : Mo)
def G (te : TE) (σ : L2.St) (H : Hp) (C : Dt → Prop) : Prop := ∀ H1, Go m H H1 → ∀ Q : VK, (∀ v d H2, Go m H1 H2 → Is K H2 d v → C d → Q v H2) → te σ H1 Q
abbrev E (te : TE) (σ : L2.St) (H : Hp) (d : Dt) : Prop := G K m te σ H fun x => x = d
def A (ta : TA) (σ : L2.St) (H : Hp) (C : List Dt → Prop) : Prop := ∀ H1, Go m H H1 → ∀ Q : List V → Hp → Prop, (∀ vs ds H2, Go m H1 H2 → IsAll K H2 ds vs → C ds → Q vs H2) → ta σ H1 Q
abbrev AE (ta : TA) (σ : L2.St) (H : Hp) (ds : List Dt) : Prop := A K m ta σ H fun x => x = ds
def T (tt : TT) (σ : L2.St) (H : Hp) (C : Bool → Prop) : Prop := ∀ H1, Go m H H1 → ∀ Q : Bool → Hp → Prop, (∀ b H2, Go m H1 H2 → C b → Q b H2) → tt σ H1 Q
abbrev TE' (tt : TT) (σ : L2.St) (H : Hp) (b : Bool) : Prop := T m tt σ H fun x => x = b
/-- a list of data at l, none of those that may change -/
def Li (H : Hp) (l : Addr) (ds : List Dt) : Prop := ∃ vs, H l = some (.lst vs) ∧ ¬ m.M l ∧ IsAll K H ds vs
/-- what an own list holds -/
def Ow (K : PySem.W.Frag) (H : Hp) (l : Addr) (ds : List Dt) : Prop := ∃ vs, H l = some (.lst vs) ∧ IsAll K H ds vs
/-- a new list -/
def L (te : TE) (σ : L2.St) (H : Hp) (C : List Dt → Prop) : Prop := ∀ H1, Go m H H1 → ∀ Q : VK, (∀ l ds H2, H1 l = none → Go m H1 H2 → Li K m H2 l ds → C ds → Q (.ref l) H2) → te σ H1 Q
abbrev LE (te : TE) (σ : L2.St) (H : Hp) (ds : List Dt) : Prop := L K m te σ H fun x => x = ds
/-- items S while G stands -/
structure Src (J : It) (S : List Dt) (G : Hp → Prop) : Prop where
  w : Walk J S.length G fun i H x H' => Same H H' ∧ ∃ d, S[i]? = some d ∧ Is K H' d x
/-- .. whatever changes in X besides -/
def I (X : Addr → Prop) (wi : TI) (σ : L2.St) (H : Hp) (S : List Dt) : Prop := ∀ H1, Go m H H1 → ∀ R : It → Hp → Prop, (∀ J (Gd : Hp → Prop) H2, Go m H1 H2 → Src K J S Gd → Gd H2 → (∀ H3, Kp (fun b => m.M b ∨ X b) H2 H3 → Gd H3) → R J H2) → wi σ H1 R
end
section
variable {K : PySem.W.Frag} {m : Mo} {σ : L2.St} {H H1 H2 : Hp} {te ta tb tc : TE} {tt tu : TT} {C : Dt → Prop} {d e : Dt} {ds es : List Dt} {a b : Bool} {l : Addr} {X : Addr → Prop}
theorem G.use (h : G K m te σ H C) (j : m.J H) {Q : VK} (q : ∀ v d H2, Go m H H2 → Is K H2 d v → C d → Q v H2) : te σ H Q := h H (.refl j) Q q
theorem E.use (h : E K m te σ H d) (j : m.J H) {Q : VK} (q : ∀ v H2, Go m H H2 → Is K H2 d v → Q v H2) : te σ H Q := h H (.refl j) Q fun v _ H2 g i e => by subst e; exact q v H2 g i
theorem E.go (h : E K m te σ H d) (g : Go m H H1) {Q : VK} (q : ∀ v H2, Go m H1 H2 → Is K H2 d v → Q v H2) : te σ H1 Q := h H1 g Q fun v _ H2 g i e => by subst e; exact q v H2 g i
theorem AE.go {ta : TA} (h : AE K m ta σ H ds) (g : Go m H H1) {Q : List V → Hp → Prop} (q : ∀ vs H2, Go m H1 H2 → IsAll K H2 ds vs → Q vs H2) : ta σ H1 Q := h H1 g Q fun v _ H2 g i e => by subst e; exact q v H2 g i
theorem TE'.use (h : TE' m tt σ H b) (j : m.J H) {Q : Bool → Hp → Prop} (q : ∀ H2, Go m H H2 → Q b H2) : tt σ H Q := h H (.refl j) Q fun _ H2 g e => by subst e; exact q H2 g
theorem TE'.go (h : TE' m tt σ H b) (g : Go m H H1) {Q : Bool → Hp → Prop} (q : ∀ H2, Go m H1 H2 → Q b H2) : tt σ H1 Q := h H1 g Q fun _ H2 g e => by subst e; exact q H2 g
theorem LE.use (h : LE K m te σ H ds) (j : m.J H) {Q : VK} (q : ∀ l H2, H l = none → Go m H H2 → Li K m H2 l ds → Q (.ref l) H2) : te σ H Q := h H (.refl j) Q fun l _ H2 n g i e => by subst e; exact q l H2 n g i
theorem LE.go (h : LE K m te σ H ds) (g : Go m H H1) {Q : VK} (q : ∀ l H2, H1 l = none → Go m H1 H2 → Li K m H2 l ds → Q (.ref l) H2) : te σ H1 Q := h H1 g Q fun l _ H2 n g i e => by subst e; exact q l H2 n g i
theorem G.mono (h : G K m te σ H C) (g : Go m H H1) : G K m te σ H1 C := fun H2 g2 Q q => h H2 (g.trans g2) Q q
theorem G.imp {C' : Dt → Prop} (h : G K m te σ H C) (i : ∀ d, C d → C' d) : G K m te σ H C' := fun H2 g2 Q q => h H2 g2 Q fun v d H3 g3 hv c => q v d H3 g3 hv (i d c)
theorem T.mono {C : Bool → Prop} (h : T m tt σ H C) (g : Go m H H1) : T m tt σ H1 C := fun H2 g2 Q q => h H2 (g.trans g2) Q q
theorem Li.go (g : Go m H H1) (h : Li K m H l ds) : Li K m H1 l ds := by
  obtain ⟨vs, e, n, i⟩ := h
  exact ⟨vs, g.1 l _ e fun z => (n z).elim, n, i.tk g.tk⟩
theorem Li.sq (h : Li K m H l ds) : ∃ vs, SqL K H l vs ∧ IsAll K H ds vs := let ⟨vs, e, _, i⟩ := h; ⟨vs, .inl (.inl e), i⟩
/-! ### constants, names -/
theorem e_c {v : V} (h : ∀ H, Is K H d v) : E K m (tC v) σ H d := fun H1 g Q q => q v d H1 g.again (h H1) rfl
theorem e_int {i : Int} : E K m (tC (.int i)) σ H (.int i) := e_c fun _ => .int i
theorem e_str {x : Str} : E K m (tC (.str x)) σ H (.str x) := e_c fun _ => .str x
theorem e_bl {x : Bool} : E K m (tC (.bl x)) σ H (.bl x) := e_c fun _ => .bl x
theorem e_non : E K m (tC .non) σ H .non := e_c fun _ => .non
theorem e_adr {x : Addr} : E K m (tC (.ref x)) σ H (.adr x) := e_c fun _ => .adr x
theorem e_var {i : Nat} {v : V} (h : σ[i]? = some (some v)) (hd : Is K H d v) : E K m (tVar i) σ H d := fun H1 g Q q => ⟨v, h, q v d H1 g.again (hd.tk g.tk) rfl⟩
theorem Is.go {v : V} (h : Is K H d v) (g : Go m H H1) : Is K H1 d v := h.tk g.tk
/-! ### operators on values -/
/-- data without depth -/
def Dt.fl : Dt → Bool
  | .tup _ => false
  | .adr _ => false
  | .ftup _ => false
  | _ => true
def Dt.fv : Dt → V
  | .non => .non
  | .bl b => .bl b
  | .int i => .int i
  | .str x => .str x
  | _ => .non
theorem Is.fv {v : V} (h : Is K H d v) (f : d.fl = true) : v = d.fv := by cases h <;> first | rfl | cases f
theorem fv_flat (f : d.fl = true) : flatV d.fv = true := by cases d <;> first | rfl | cases f
theorem isAll_fv {vs : List V} (h : IsAll K H ds vs) (f : ds.all Dt.fl = true) : vs = ds.map Dt.fv := by
  induction ds generalizing vs with
  | nil => cases h; rfl
  | cons d ds ih =>
    rw [List.all_cons, Bool.and_eq_true] at f
    cases h with
    | cons q r => rw [q.fv f.1, ih r f.2, List.map_cons]
theorem all_flat (f : ds.all Dt.fl = true) : (ds.map Dt.fv).all flatV = true := by
  rw [List.all_map]
  exact List.all_eq_true.mpr fun x hx => fv_flat (List.all_eq_true.mp f x hx)
theorem e_op {r : R2} {f : Dt} (ha : E K m ta σ H d) (hb : E K m tb σ H e)
    (hr : ∀ H1 x y, Go m H H1 → Is K H1 d x → Is K H1 e y → ∀ Q : VK, (∀ v H2, Go m H1 H2 → Is K H2 f v → Q v H2) → r x y H1 Q) : E K m (tOp r ta tb) σ H f := fun H1 g Q q =>
  ha.go g fun x H2 g2 hx => hb.go (g.trans g2) fun y H3 g3 hy => hr H3 x y ((g.trans g2).trans g3) (hx.go g3) hy Q fun v H4 g4 hv => q v f H4 ((g2.trans g3).trans g4) hv rfl
theorem e_i0 {gf : Int → Int → V} {i j : Int} {f : Dt} (ha : E K m ta σ H (.int i)) (hb : E K m tb σ H (.int j)) (hf : ∀ H, Is K H f (gf i j)) : E K m (tOp (rI0 gf) ta tb) σ H f :=
  e_op ha hb fun H1 x y g hx hy Q q => ⟨i, j, hx.int_inv, hy.int_inv, q _ H1 g.again (hf H1)⟩
theorem e_i {Cd : Int → Int → Prop} {gf : Int → Int → V} {i j : Int} {f : Dt} (ha : E K m ta σ H (.int i)) (hb : E K m tb σ H (.int j)) (hc : Cd i j) (hf : ∀ H, Is K H f (gf i j)) : E K m (tOp (rI Cd gf) ta tb) σ H f :=
  e_op ha hb fun H1 x y g hx hy Q q => ⟨i, j, hx.int_inv, hy.int_inv, hc, q _ H1 g.again (hf H1)⟩
theorem e_add {i j : Int} (ha : E K m ta σ H (.int i)) (hb : E K m tb σ H (.int j)) : E K m (tOp (rI0 fun i j => .int (i + j)) ta tb) σ H (.int (i + j)) := e_i0 ha hb fun _ => .int _
theorem e_sub {i j : Int} (ha : E K m ta σ H (.int i)) (hb : E K m tb σ H (.int j)) : E K m (tOp (rI0 fun i j => .int (i - j)) ta tb) σ H (.int (i - j)) := e_i0 ha hb fun _ => .int _
theorem e_lt {i j : Int} (ha : E K m ta σ H (.int i)) (hb : E K m tb σ H (.int j)) : E K m (tOp (rI0 fun i j => .bl (decide (i < j))) ta tb) σ H (.bl (decide (i < j))) := e_i0 ha hb fun _ => .bl _
theorem e_le {i j : Int} (ha : E K m ta σ H (.int i)) (hb : E K m tb σ H (.int j)) : E K m (tOp (rI0 fun i j => .bl (decide (i ≤ j))) ta tb) σ H (.bl (decide (i ≤ j))) := e_i0 ha hb fun _ => .bl _
theorem e_gt {i j : Int} (ha : E K m ta σ H (.int i)) (hb : E K m tb σ H (.int j)) : E K m (tOp (rI0 fun i j => .bl (decide (j < i))) ta tb) σ H (.bl (decide (j < i))) := e_i0 ha hb fun _ => .bl _
theorem e_ge {i j : Int} (ha : E K m ta σ H (.int i)) (hb : E K m tb σ H (.int j)) : E K m (tOp (rI0 fun i j => .bl (decide (j ≤ i))) ta tb) σ H (.bl (decide (j ≤ i))) := e_i0 ha hb fun _ => .bl _
theorem e_neg {i : Int} (ha : E K m ta σ H (.int i)) : E K m (tUn (rU fun i => .int (-i)) ta) σ H (.int (-i)) := fun H1 g Q q => ha.go g fun x H2 g2 hx => ⟨i, hx.int_inv, q _ _ H2 g2 (.int _) rfl⟩
theorem e_eq (ha : E K m ta σ H d) (hb : E K m tb σ H e) (fd : d.fl = true) (fe : e.fl = true) (hs : scal d.fv e.fv = true) : E K m (tOp rEq ta tb) σ H (.bl (decide (d.fv = e.fv))) :=
  e_op ha hb fun H1 x y g hx hy Q q => by rw [hx.fv fd, hy.fv fe]; exact ⟨hs, q _ H1 g.again (.bl _)⟩
theorem e_ne (ha : E K m ta σ H d) (hb : E K m tb σ H e) (fd : d.fl = true) (fe : e.fl = true) (hs : scal d.fv e.fv = true) : E K m (tOp rNe ta tb) σ H (.bl (!decide (d.fv = e.fv))) :=
  e_op ha hb fun H1 x y g hx hy Q q => by rw [hx.fv fd, hy.fv fe]; exact ⟨hs, q _ H1 g.again (.bl _)⟩
/-- none or not -/
def Dt.isN : Dt → Bool
  | .non => true
  | _ => false
theorem Is.isN {v : V} (h : Is K H d v) : decide (v = .non) = d.isN := by cases h <;> first | rfl | exact decide_eq_false (fun z => nomatch z)
theorem e_isN (ha : E K m ta σ H d) : E K m (tOp (fun x y H Q => y = .non ∧ Q (.bl (decide (x = .non))) H) ta (tC .non)) σ H (.bl d.isN) :=
  e_op ha e_non fun H1 x y g hx hy Q q => ⟨hy.non_inv, by rw [hx.isN]; exact q _ H1 g.again (.bl _)⟩
theorem e_notN (ha : E K m ta σ H d) : E K m (tOp (fun x y H Q => y = .non ∧ Q (.bl (!decide (x = .non))) H) ta (tC .non)) σ H (.bl (!d.isN)) :=
  e_op ha e_non fun H1 x y g hx hy Q q => ⟨hy.non_inv, by rw [hx.isN]; exact q _ H1 g.again (.bl _)⟩
theorem e_in {neg : Bool} (ha : E K m ta σ H d) (hb : E K m tb σ H (.tup ds)) (fd : d.fl = true) (fs : ds.all Dt.fl = true) :
    E K m (tOp (rIn K neg) ta tb) σ H (.bl (if neg = true then !inV d.fv (ds.map Dt.fv) else inV d.fv (ds.map Dt.fv))) :=
  e_op ha hb fun H1 x y g hx hy Q q => by
    obtain ⟨p, xs, rfl, hq, hi⟩ := hy.inv
    rw [hx.fv fd]
    rw [isAll_fv hi fs] at hq
    refine ⟨p, _, rfl, .inr hq, fv_flat fd, all_flat fs, ?_⟩
    have := q (.bl (if neg = true then !inV d.fv (ds.map Dt.fv) else inV d.fv (ds.map Dt.fv))) H1 g.again (.bl _)
    exact this
theorem e_inL {neg : Bool} (ha : E K m ta σ H d) (hb : LE K m tb σ H ds) (fd : d.fl = true) (fs : ds.all Dt.fl = true) :
    E K m (tOp (rIn K neg) ta tb) σ H (.bl (if neg = true then !inV d.fv (ds.map Dt.fv) else inV d.fv (ds.map Dt.fv))) := fun H1 g Q q =>
  ha.go g fun x H2 g2 hx => hb.go (g.trans g2) fun l H3 _ g3 hl => by
    obtain ⟨xs, hq, hi⟩ := hl.sq
    rw [hx.fv fd]
    rw [isAll_fv hi fs] at hq
    refine ⟨l, _, rfl, .inl hq, fv_flat fd, all_flat fs, ?_⟩
    exact q (.bl (if neg = true then !inV d.fv (ds.map Dt.fv) else inV d.fv (ds.map Dt.fv))) _ H3 (g2.trans g3) (.bl _) rfl
/-- .. in a list that stands in slot i -/
theorem e_inS {neg : Bool} {i : Nat} (ha : E K m ta σ H d) (hb : σ[i]? = some (some (.ref l))) (hl : Li K m H l ds) (fd : d.fl = true) (fs : ds.all Dt.fl = true) :
    E K m (tOp (rIn K neg) ta (tVar i)) σ H (.bl (if neg = true then !inV d.fv (ds.map Dt.fv) else inV d.fv (ds.map Dt.fv))) := fun H1 g Q q =>
  ha.go g fun x H2 g2 hx => ⟨_, hb, by
    obtain ⟨xs, hq, hi⟩ := (hl.go (g.trans g2)).sq
    rw [hx.fv fd]
    rw [isAll_fv hi fs] at hq
    refine ⟨l, _, rfl, .inl hq, fv_flat fd, all_flat fs, ?_⟩
    exact q (.bl (if neg = true then !inV d.fv (ds.map Dt.fv) else inV d.fv (ds.map Dt.fv))) _ H2 g2 (.bl _) rfl⟩
theorem e_ixT {i : Int} (ha : E K m ta σ H (.tup ds)) (hb : E K m tb σ H (.int i)) (h : atI ds i = some d) : E K m (tOp (rIxT K) ta tb) σ H d :=
  e_op ha hb fun H1 x y g hx hy Q q => by
    obtain ⟨p, xs, rfl, hq, hi⟩ := hx.inv
    unfold atI at h
    cases e1 : ixN ds.length i with
    | none => rw [e1] at h; cases h
    | some j =>
      rw [e1] at h
      obtain ⟨v, hv, hd⟩ := hi.get (show ds[j]? = some d from h)
      exact ⟨p, xs, i, v, rfl, hy.int_inv, hq, by unfold atI; rw [← hi.length, e1]; exact hv, q v H1 g.again hd⟩
theorem atD {j : Nat} (h : ds[j]? = some d) : atI ds (j : Int) = some d := atI_nat h
/-! ### tests -/
theorem t_B (h : E K m te σ H (.bl b)) : TE' m (tB te) σ H b := fun H1 g Q q => h.go g fun x H2 g2 hx => ⟨b, hx.bl_inv, q b H2 g2 rfl⟩
theorem t_test (h : E K m te σ H (.bl b)) : TE' m (tTest te) σ H b := fun H1 g Q q => h.go g fun x H2 g2 hx => ⟨b, hx.bl_inv, q b H2 g2 rfl⟩
theorem t_not (h : TE' m tt σ H b) : TE' m (tNot tt) σ H (!b) := fun H1 g Q q => h.go g fun H2 g2 => q _ H2 g2 rfl
theorem t_and (h1 : TE' m tt σ H a) (h2 : a = true → TE' m tu σ H b) : TE' m (tAnd tt tu) σ H (a && b) := fun H1 g Q q => h1.go g fun H2 g2 => by
  cases a with
  | true => exact (h2 rfl).go (g.trans g2) fun H3 g3 => q _ H3 (g2.trans g3) rfl
  | false => exact q _ H2 g2 rfl
theorem t_or (h1 : TE' m tt σ H a) (h2 : a = false → TE' m tu σ H b) : TE' m (tOr tt tu) σ H (a || b) := fun H1 g Q q => h1.go g fun H2 g2 => by
  cases a with
  | false => exact (h2 rfl).go (g.trans g2) fun H3 g3 => q _ H3 (g2.trans g3) rfl
  | true => exact q _ H2 g2 rfl
theorem e_if (h : TE' m tt σ H a) (h1 : a = true → G K m ta σ H C) (h2 : a = false → G K m tb σ H C) : G K m (tIf tt ta tb) σ H C := fun H1 g Q q => h.go g fun H2 g2 => by
  cases a with
  | true => exact h1 rfl H2 (g.trans g2) Q fun v d H3 g3 => q v d H3 (g2.trans g3)
  | false => exact h2 rfl H2 (g.trans g2) Q fun v d H3 g3 => q v d H3 (g2.trans g3)
theorem l_if {C : List Dt → Prop} (h : TE' m tt σ H a) (h1 : a = true → L K m ta σ H C) (h2 : a = false → L K m tb σ H C) : L K m (tIf tt ta tb) σ H C := fun H1 g Q q => h.go g fun H2 g2 => by
  cases a with
  | true => exact h1 rfl H2 (g.trans g2) Q fun l ds H3 n g3 => q l ds H3 (g2.free n) (g2.trans g3)
  | false => exact h2 rfl H2 (g.trans g2) Q fun l ds H3 n g3 => q l ds H3 (g2.free n) (g2.trans g3)
theorem e_and (h1 : E K m ta σ H (.bl a)) (h2 : a = true → E K m tb σ H (.bl b)) : E K m (tAndV ta tb) σ H (.bl (a && b)) := fun H1 g Q q => h1.go g fun x H2 g2 hx => ⟨a, hx.bl_inv, by
  cases a with
  | true => exact (h2 rfl).go (g.trans g2) fun v H3 g3 hv => q _ _ H3 (g2.trans g3) hv rfl
  | false => exact q _ _ H2 g2 (.bl _) rfl⟩
theorem e_or (h1 : E K m ta σ H (.bl a)) (h2 : a = false → E K m tb σ H (.bl b)) : E K m (tOrV ta tb) σ H (.bl (a || b)) := fun H1 g Q q => h1.go g fun x H2 g2 hx => ⟨a, hx.bl_inv, by
  cases a with
  | false => exact (h2 rfl).go (g.trans g2) fun v H3 g3 hv => q _ _ H3 (g2.trans g3) hv rfl
  | true => exact q _ _ H2 g2 (.bl _) rfl⟩
theorem e_not (h1 : E K m ta σ H (.bl a)) : E K m (tNotV ta) σ H (.bl (!a)) := fun H1 g Q q => h1.go g fun x H2 g2 hx => ⟨a, hx.bl_inv, q _ _ H2 g2 (.bl _) rfl⟩
/-- a < b < c -/
theorem e_chain {gf gf' : Int → Int → V} {i j k : Int} {x y : Bool} (ha : E K m ta σ H (.int i)) (hb : E K m tb σ H (.int j)) (hc : E K m tc σ H (.int k)) (h1 : gf i j = .bl x) (h2 : gf' j k = .bl y) :
    E K m (tChain (rI0 gf) (rI0 gf') ta tb tc) σ H (.bl (x && y)) := fun H1 g Q q => ha.go g fun u H2 g2 hu => hb.go (g.trans g2) fun v H3 g3 hv => ⟨i, j, hu.int_inv, hv.int_inv, x, h1, by
  cases x with
  | true =>
    refine hc.go ((g.trans g2).trans g3) fun w H4 g4 hw => ⟨j, k, hv.int_inv, hw.int_inv, ?_⟩
    rw [h2]
    exact q _ _ H4 ((g2.trans g3).trans g4) (.bl _) rfl
  | false => exact q _ _ H3 (g2.trans g3) (.bl _) rfl⟩
theorem E.use0 (h : TPk.E K m0 te σ H d) {Q : VK} (q : ∀ v H2, Same H H2 → Is K H2 d v → Q v H2) : te σ H Q := h.use True.intro fun v H2 g hv => q v H2 g.to0 hv
theorem TE'.use0 (h : TE' m0 tt σ H b) {Q : Bool → Hp → Prop} (q : ∀ H2, Same H H2 → Q b H2) : tt σ H Q := h.use True.intro fun H2 g => q H2 g.to0
theorem LE.use0 (h : LE K m0 te σ H ds) {Q : VK} (q : ∀ l H2, H l = none → Same H H2 → Ow K H2 l ds → Q (.ref l) H2) : te σ H Q := h.use True.intro fun l H2 n g hl => q l H2 n g.to0 (let ⟨vs, e, _, i⟩ := hl; ⟨vs, e, i⟩)
theorem LE.cast (h : LE K m te σ H ds) (e : ds = es) : LE K m te σ H es := e ▸ h
theorem E.cast (h : TPk.E K m te σ H d) (h2 : d = e) : TPk.E K m te σ H e := h2 ▸ h
theorem e_sign {c : Nat} {z : Str} (ha : E K m ta σ H (.str ⟨#[c]⟩)) (hb : E K m tb σ H (.str z)) : E K m (tOp (fun x y H Q => ∃ (c : Nat) (z : Str), x = .str ⟨#[c]⟩ ∧ y = .str z ∧ Q (.bl (decide (c ∈ z.cps.toList))) H) ta tb) σ H (.bl (decide (c ∈ z.cps.toList))) :=
  e_op ha hb fun H1 x y g hx hy Q q => ⟨c, z, hx.str_inv, hy.str_inv, q _ H1 g.again (.bl _)⟩
theorem t_chain {gf gf' : Int → Int → V} {i j k : Int} {x y : Bool} (ha : E K m ta σ H (.int i)) (hb : E K m tb σ H (.int j)) (hc : E K m tc σ H (.int k)) (h1 : gf i j = .bl x) (h2 : gf' j k = .bl y) :
    TE' m (tTest (tChain (rI0 gf) (rI0 gf') ta tb tc)) σ H (x && y) := t_test (e_chain ha hb hc h1 h2)
/-! ### arguments, displays -/
theorem a_nil : AE K m tNil σ H [] := fun H1 g Q q => q [] [] H1 g.again .nil rfl
theorem a_cons {t : TA} (h : E K m te σ H d) (ht : AE K m t σ H ds) : AE K m (tCons te t) σ H (d :: ds) := fun H1 g Q q => h.go g fun x H2 g2 hx => ht.go (g.trans g2) fun xs H3 g3 hs => q _ _ H3 (g2.trans g3) (.cons (hx.go g3) hs) rfl
theorem a_star {t : TA} (h : E K m te σ H (.tup es)) (ht : AE K m t σ H ds) : AE K m (StX.tStar K te t) σ H (es ++ ds) := fun H1 g Q q => h.go g fun x H2 g2 hx => by
  obtain ⟨p, xs, rfl, hq, hi⟩ := hx.inv
  exact ⟨p, xs, rfl, .inl hq, ht.go (g.trans g2) fun ys H3 g3 hs => q _ _ H3 (g2.trans g3) ((hi.tk g3.tk).append hs) rfl⟩
theorem a_starL {t : TA} (h : LE K m te σ H es) (ht : AE K m t σ H ds) : AE K m (StX.tStar K te t) σ H (es ++ ds) := fun H1 g Q q => h.go g fun l H2 _ g2 hl => by
  obtain ⟨xs, hq, hi⟩ := hl.sq
  exact ⟨l, xs, rfl, .inr hq, ht.go (g.trans g2) fun ys H3 g3 hs => q _ _ H3 (g2.trans g3) ((hi.tk g3.tk).append hs) rfl⟩
theorem a_starS {i : Nat} {t : TA} (hb : σ[i]? = some (some (.ref l))) (hl : Li K m H l es) (ht : AE K m t σ H ds) : AE K m (StX.tStar K (tVar i) t) σ H (es ++ ds) := fun H1 g Q q => ⟨_, hb, by
  obtain ⟨xs, hq, hi⟩ := (hl.go g).sq
  exact ⟨l, xs, rfl, .inr hq, ht.go g fun ys H3 g3 hs => q _ _ H3 g3 ((hi.tk g3.tk).append hs) rfl⟩⟩
theorem e_tup {t : TA} (h : AE K m t σ H ds) (hl : ds.length ≤ sizeLine) : E K m (tTup t) σ H (.tup ds) := fun H1 g Q q => h.go g fun xs H2 g2 hs => ⟨by rw [← hs.length]; exact hl, fun p hp => q _ _ _ (g2.new hp) (is_new hp hs) rfl⟩
theorem l_lst {t : TA} (h : AE K m t σ H ds) (hl : ds.length ≤ sizeLine) : LE K m (tLst t) σ H ds := fun H1 g Q q => h.go g fun xs H2 g2 hs => ⟨by rw [← hs.length]; exact hl, fun p hp =>
  q p _ _ (g2.free hp) (g2.new hp) ⟨xs, upd_same, g2.2 |> fun j => Go.notM j hp, hs.tk (tk_new hp)⟩ rfl⟩
/-! ### built-ins -/
def rTupOf (K : PySem.W.Frag) : List V → Hp → VK → Prop := fun xs H Q => ∃ p ys, xs = [.ref p] ∧ ((SqL K H p ys ∧ ∀ l, H l = none → Q (.ref l) (upd H l (.tup ys))) ∨ (SqT K H p ys ∧ Q (.ref p) H))
theorem e_tupL (h : LE K m te σ H ds) : E K m (tCB (rTupOf K) (tCons te tNil)) σ H (.tup ds) := fun H1 g Q q => h.go g fun l H2 _ g2 hl => by
  obtain ⟨xs, hq, hi⟩ := hl.sq
  exact ⟨l, xs, rfl, .inl ⟨hq, fun p hp => q _ _ _ (g2.new hp) (is_new hp hi) rfl⟩⟩
theorem g_tupL {C : List Dt → Prop} (h : L K m te σ H C) : G K m (tCB (rTupOf K) (tCons te tNil)) σ H (fun d => ∃ ds, d = .tup ds ∧ C ds) := fun H1 g Q q => h H1 g _ fun l ds H2 _ g2 hl hc => by
  obtain ⟨xs, hq, hi⟩ := hl.sq
  exact ⟨l, xs, rfl, .inl ⟨hq, fun p hp => q _ _ _ (g2.new hp) (is_new hp hi) ⟨ds, rfl, hc⟩⟩⟩
theorem e_tupS {i : Nat} (hb : σ[i]? = some (some (.ref l))) (hl : Li K m H l ds) : E K m (tCB (rTupOf K) (tCons (tVar i) tNil)) σ H (.tup ds) := fun H1 g Q q => ⟨_, hb, by
  obtain ⟨xs, hq, hi⟩ := (hl.go g).sq
  exact ⟨l, xs, rfl, .inl ⟨hq, fun p hp => q _ _ _ (g.again.new hp) (is_new hp hi) rfl⟩⟩⟩
def rLenS (K : PySem.W.Frag) : List V → Hp → VK → Prop := fun xs H Q => ∃ p ys, xs = [.ref p] ∧ (SqL K H p ys ∨ SqT K H p ys) ∧ Q (.int ys.length) H
theorem e_lenT (h : E K m te σ H (.tup ds)) : E K m (tCB (rLenS K) (tCons te tNil)) σ H (.int (ds.length : Nat)) := fun H1 g Q q => h.go g fun x H2 g2 hx => by
  obtain ⟨p, xs, rfl, hq, hi⟩ := hx.inv
  exact ⟨p, xs, rfl, .inr hq, by rw [← hi.length]; exact q _ _ _ g2 (.int _) rfl⟩
theorem e_lenL {i : Nat} (hb : σ[i]? = some (some (.ref l))) (hl : Li K m H l ds) : E K m (tCB (rLenS K) (tCons (tVar i) tNil)) σ H (.int (ds.length : Nat)) := fun H1 g Q q => ⟨_, hb, by
  obtain ⟨xs, hq, hi⟩ := (hl.go g).sq
  exact ⟨l, xs, rfl, .inl hq, by rw [← hi.length]; exact q _ _ _ g.again (.int _) rfl⟩⟩
def rLenA (K : PySem.W.Frag) : List V → Hp → VK → Prop := fun xs H Q => ∃ x n, xs = [x] ∧ LenV K x H n ∧ Q (.int (n : Nat)) H
theorem e_lenX {x : Str} (h : E K m te σ H (.str x)) (hl : x.length ≤ sizeLine) : E K m (tCB (rLenA K) (tCons te tNil)) σ H (.int (x.length : Nat)) := fun H1 g Q q => h.go g fun v H2 g2 hx =>
  ⟨v, x.length, rfl, by rw [hx.str_inv]; exact ⟨hl, rfl⟩, q _ _ _ g2 (.int _) rfl⟩
theorem isAll_bls {bs : List Bool} {vs : List V} (r : IsAll K H (bs.map Dt.bl) vs) : vs = bs.map V.bl := by
  induction bs generalizing vs with
  | nil => cases r; rfl
  | cons x xs ih =>
    rw [List.map_cons] at r
    cases r with
    | cons q r => rw [q.bl_inv, ih r]; rfl
theorem isAll_ints {bs : List Int} {vs : List V} (r : IsAll K H (bs.map Dt.int) vs) : vs = bs.map V.int := by
  induction bs generalizing vs with
  | nil => cases r; rfl
  | cons x xs ih =>
    rw [List.map_cons] at r
    cases r with
    | cons q r => rw [q.int_inv, ih r]; rfl
theorem e_all {bs : List Bool} (h : LE K m te σ H (bs.map Dt.bl)) : E K m (tCB (rAll K) (tCons te tNil)) σ H (.bl (bs.all id)) := fun H1 g Q q => h.go g fun l H2 _ g2 hl => by
  obtain ⟨xs, hq, hi⟩ := hl.sq
  rw [isAll_bls hi] at hq
  exact ⟨l, bs, rfl, hq, q _ _ _ g2 (.bl _) rfl⟩
theorem e_any {bs : List Bool} (h : LE K m te σ H (bs.map Dt.bl)) : E K m (tCB (rAny K) (tCons te tNil)) σ H (.bl (bs.any id)) := fun H1 g Q q => h.go g fun l H2 _ g2 hl => by
  obtain ⟨xs, hq, hi⟩ := hl.sq
  rw [isAll_bls hi] at hq
  exact ⟨l, bs, rfl, hq, q _ _ _ g2 (.bl _) rfl⟩
theorem l_cat (ha : LE K m ta σ H ds) (hb : LE K m tb σ H es) (hl : ds.length + es.length ≤ sizeLine) : LE K m (tOp rCat ta tb) σ H (ds ++ es) := fun H1 g Q q =>
  ha.go g fun l H2 nl g2 h2 => hb.go (g.trans g2) fun k H3 _ g3 h3 => by
    obtain ⟨xs, e1, n1, i1⟩ := h2.go g3
    obtain ⟨ys, e2, n2, i2⟩ := h3
    exact ⟨l, k, xs, ys, rfl, rfl, e1, e2, by rw [← i1.length, ← i2.length]; exact hl, fun p hp => q p _ _ (g2.free (g3.free hp)) ((g2.trans g3).new hp) ⟨_, upd_same, Go.notM g3.2 hp, (i1.append i2).tk (tk_new hp)⟩ rfl⟩
theorem l_catS {i : Nat} (hx : σ[i]? = some (some (.ref l))) (hL : Li K m H l ds) (hb : LE K m tb σ H es) (hl : ds.length + es.length ≤ sizeLine) : LE K m (tOp rCat (tVar i) tb) σ H (ds ++ es) := fun H1 g Q q => ⟨_, hx,
  hb.go g fun k H3 _ g3 h3 => by
    obtain ⟨xs, e1, n1, i1⟩ := hL.go (g.trans g3)
    obtain ⟨ys, e2, n2, i2⟩ := h3
    exact ⟨l, k, xs, ys, rfl, rfl, e1, e2, by rw [← i1.length, ← i2.length]; exact hl, fun p hp => q p _ _ (g3.free hp) (g3.new hp) ⟨_, upd_same, Go.notM g3.2 hp, (i1.append i2).tk (tk_new hp)⟩ rfl⟩⟩
/-! ### a call of a def whose promise is told by data -/
/-- what the def gives, from the heap and the arguments; nothing that stood is changed -/
def Pu (K : PySem.W.Frag) (R : Hp → List Dt → Dt → Prop) : Sp := fun vs H Q _ => ∃ ds d, IsAll K H ds vs ∧ R H ds d ∧ ∀ v H', Same H H' → Is K H' d v → Q v H'
theorem e_call {R : Hp → List Dt → Dt → Prop} {t : TA} {E : XK} (h : AE K m t σ H ds) (hR : ∀ H1, Go m H H1 → R H1 ds d) : TPk.E K m (tCall (Pu K R) [] E t) σ H d := fun H1 g Q q =>
  h.go g fun vs H2 g2 hs => ⟨ds, d, by rw [List.append_nil]; exact hs, hR H2 (g.trans g2), fun v H3 s hv => q v d H3 (g2.same s) hv rfl⟩
/-! ### what is walked -/
theorem src_tup {p : Addr} : Src K (Itt K p) ds (fun H => Is K H (.tup ds) (.ref p)) := by
  refine ⟨⟨fun i H hi h => ?_, fun H h => ?_, fun i H x H' hi h y => ?_⟩⟩
  · obtain ⟨q, xs, e, hq, hI⟩ := h.inv
    cases e
    exact ⟨xs, xs[i]'(by rw [← hI.length]; exact hi), hq, List.getElem?_eq_getElem _⟩
  · obtain ⟨q, xs, e, hq, hI⟩ := h.inv
    cases e
    exact ⟨xs, hq, by rw [hI.length]; exact Nat.le_refl _⟩
  · obtain ⟨q, xs, e, hq, hI⟩ := h.inv
    cases e
    obtain ⟨rfl, hx⟩ := y
    obtain ⟨d, hd, hv⟩ := hI.getV (hx xs hq)
    exact ⟨Same.refl _, d, hd, hv⟩
theorem src_list {p : Addr} : Src K (Itl K p) ds (fun H => ∃ vs, SqL K H p vs ∧ IsAll K H ds vs) := by
  refine ⟨⟨fun i H hi h => ?_, fun H h => ?_, fun i H x H' hi h y => ?_⟩⟩
  · obtain ⟨xs, hq, hI⟩ := h
    exact ⟨xs, xs[i]'(by rw [← hI.length]; exact hi), hq, List.getElem?_eq_getElem _⟩
  · obtain ⟨xs, hq, hI⟩ := h
    exact ⟨xs, hq, by rw [hI.length]; exact Nat.le_refl _⟩
  · obtain ⟨xs, hq, hI⟩ := h
    obtain ⟨rfl, hx⟩ := y
    obtain ⟨d, hd, hv⟩ := hI.getV (hx xs hq)
    exact ⟨Same.refl _, d, hd, hv⟩
theorem i_tup (h : E K m te σ H (.tup ds)) : I K m X (iTup K te) σ H ds := fun H1 g R q => h.go g fun x H2 g2 hx => by
  obtain ⟨p, xs, rfl, hq, hi⟩ := hx.inv
  exact ⟨p, rfl, ⟨xs, hq⟩, q _ _ H2 g2 src_tup hx fun H3 g3 => hx.tk g3.tk⟩
theorem Li.kp (h : Li K m H l ds) (nx : ¬ X l) (k : Kp (fun b => m.M b ∨ X b) H H1) : ∃ vs, SqL K H1 l vs ∧ IsAll K H1 ds vs := by
  obtain ⟨vs, e, n, i⟩ := h
  exact ⟨vs, .inl (.inl (k l _ e fun z => (z.elim n nx).elim)), i.tk k.tk⟩
theorem i_list (h : LE K m te σ H ds) (hX : ∀ b, X b → H b ≠ none) : I K m X (iList K te) σ H ds := fun H1 g R q => h.go g fun l H2 nl g2 hl => by
  obtain ⟨xs, hq, hi⟩ := hl.sq
  exact ⟨l, rfl, ⟨xs, hq⟩, q _ _ H2 g2 src_list hl.sq fun H3 g3 => hl.kp (fun z => hX l z (g.free nl)) g3⟩
theorem i_listS {i : Nat} (hb : σ[i]? = some (some (.ref l))) (hl : Li K m H l ds) (nx : ¬ X l) : I K m X (iList K (tVar i)) σ H ds := fun H1 g R q => ⟨_, hb, by
  obtain ⟨xs, hq, hi⟩ := (hl.go g).sq
  exact ⟨l, rfl, ⟨xs, hq⟩, q _ _ H1 g.again src_list (hl.go g).sq fun H3 g3 => (hl.go g).kp nx g3⟩⟩
theorem src_range {n : Nat} : Src K (Itr 0 n) ((List.range n).map fun (i : Nat) => Dt.int (i : Int)) (fun _ => True) := by
  refine ⟨⟨fun i H hi _ => show i < n by simpa using hi, fun H _ => show n ≤ _ by simp, fun i H x H' hi _ y => ?_⟩⟩
  obtain ⟨rfl, rfl⟩ := y
  have hi : i < n := by simpa using hi
  refine ⟨Same.refl _, .int (i : Int), by simp [hi], ?_⟩
  rw [Int.zero_add]
  exact .int _
theorem i_range {n : Nat} (h : E K m te σ H (.int (n : Int))) (hn : n < 2 ^ 62) : I K m X (iRng1 (tCons te tNil)) σ H ((List.range n).map fun (i : Nat) => Dt.int (i : Int)) := fun H1 g R q => h.go g fun x H2 g2 hx => by
  cases hx.int_inv
  exact ⟨n, rfl, by omega, by omega, q _ _ H2 g2 src_range True.intro fun _ _ => True.intro⟩
theorem src_enumT {p : Addr} : Src K (ItT K p) (ds.zipIdx.map fun q => Dt.tup [.int (q.2 : Nat), q.1]) (fun H => Is K H (.tup ds) (.ref p)) := by
  refine ⟨⟨fun i H hi h => ?_, fun H h => ?_, fun i H x H' hi h y => ?_⟩⟩
  · obtain ⟨q, xs, e, hq, hI⟩ := h.inv
    cases e
    have hi' : i < xs.length := by rw [← hI.length]; simpa using hi
    exact ⟨xs, xs[i], hq, List.getElem?_eq_getElem _⟩
  · obtain ⟨q, xs, e, hq, hI⟩ := h.inv
    cases e
    exact ⟨xs, hq, by simp [hI.length]⟩
  · obtain ⟨q, xs, e, hq, hI⟩ := h.inv
    cases e
    obtain ⟨TT, z, rfl, hn, rfl, hx⟩ := y
    obtain ⟨d, hd, hv⟩ := hI.getV (hx xs hq)
    refine ⟨same_new hn, .tup [.int (i : Nat), d], by simp [hd], is_new hn (.cons (.int _) (.cons hv .nil))⟩
theorem i_enumT (h : E K m te σ H (.tup ds)) : I K m X (iEnumT K (tCons te tNil)) σ H (ds.zipIdx.map fun q => Dt.tup [.int (q.2 : Nat), q.1]) := fun H1 g R q => h.go g fun x H2 g2 hx => by
  obtain ⟨p, xs, rfl, hq, hi⟩ := hx.inv
  exact ⟨p, xs, rfl, hq, q _ _ H2 g2 src_enumT hx fun H3 g3 => hx.tk g3.tk⟩
theorem i_str {x : Str} (h : E K m te σ H (.str x)) : I K m X (iStr te) σ H (x.cps.toList.map fun c => Dt.str ⟨#[c]⟩) := fun H1 g R q => h.go g fun v H2 g2 hx => by
  refine ⟨x, hx.str_inv, q _ (fun _ => True) H2 g2 ⟨⟨fun i H hi _ => show i < x.cps.size by simpa using hi, fun H _ => show x.cps.size ≤ _ by simp, fun i H v H' hi _ y => ?_⟩⟩ True.intro fun _ _ => True.intro⟩
  obtain ⟨rfl, c, hc, rfl⟩ := y
  refine ⟨Same.refl _, .str ⟨#[c]⟩, ?_, .str _⟩
  rw [List.getElem?_map, Array.getElem?_toList, hc]
  rfl
/-! ### loops -/
theorem for_src {J : It} {S : List Dt} {Gd : Hp → Prop} {g : TG} {tb : TS} {D : Ends} (w : Src K J S Gd) (Pv : Nat → L2.St → Hp → Prop) (h0 : Pv 0 σ H) (hG : ∀ i σ H, i ≤ S.length → Pv i σ H → Gd H)
    (hs : ∀ i d x σ H H', S[i]? = some d → Pv i σ H → Same H H' → Is K H' d x → g x σ H' fun σ2 H2 => tb { D with nx := Pv (i + 1), ct := Pv (i + 1), bk := D.nx } σ2 H2) (hd : ∀ σ H, Pv S.length σ H → D.nx σ H) :
    ∃ W : Nat → Nat → L2.St → Hp → Prop, (∃ m, W 0 m σ H) ∧ ∀ i m σ H, W i m σ H →
      (J.stop i H ∧ D.nx σ H) ∨ (J.go i H ∧ ∃ N : L2.St → Hp → Prop, (∀ σ' H', N σ' H' → ∃ m', m' < m ∧ W (i + 1) m' σ' H') ∧ ∀ x H', J.yld i H x H' → g x σ H' fun σ2 H2 => tb { D with nx := N, ct := N, bk := D.nx } σ2 H2) :=
  for_it w.w Pv h0 hG (fun i x σ H H' _ p y => let ⟨s, d, hd, hv⟩ := y; hs i d x σ H H' hd p s hv) hd
/-- targets -/
theorem g_two {i k : Nat} {x : V} {Q : L2.St → Hp → Prop} (h : Is K H (.tup [d, e]) x) (q : ∀ v w, Is K H d v → Is K H e w → Q ((σ.set i (some v)).set k (some w)) H) : gTup K 2 (gCons (gName i) (gCons (gName k) gNil)) x σ H Q := by
  obtain ⟨p, xs, rfl, hq, hi⟩ := h.inv
  cases hi with
  | cons h1 r =>
    cases r with
    | cons h2 r =>
      cases r
      exact ⟨p, _, rfl, hq, rfl, _, _, rfl, _, _, rfl, rfl, q _ _ h1 h2⟩
theorem wipe_two (σ : L2.St) (k n : Nat) (v w : Option V) : wipe (((wipe σ [k, n]).set k v).set n w) [k, n] = wipe σ [k, n] := by
  have e : ∀ τ : L2.St, wipe τ [k, n] = ((τ.set n none).set k none) := fun τ => rfl
  rw [e, e]
  apply List.ext_getElem?
  intro i
  simp only [List.getElem?_set, List.length_set]
  by_cases h1 : k = i <;> by_cases h2 : n = i <;> simp [h1, h2]
/-! ### own lists that grow -/
def Mo.add (m : Mo) (l : Addr) (hl : ¬ m.M l) : Mo where
  M := fun b => m.M b ∨ b = l
  J := fun H => m.J H ∧ ∃ vs, H l = some (.lst vs)
  has := fun {H b} j h => h.elim (fun z => m.has j.1 z) (fun z => by obtain ⟨vs, e⟩ := j.2; rw [z, e]; exact fun z => nomatch z)
  loc := fun {H H'} j k t => ⟨m.loc j.1 (fun b o hb e => k b o (.inl hb) e) t, let ⟨vs, e⟩ := j.2; ⟨vs, k l _ (.inr rfl) e⟩⟩
section
variable {hl : ¬ m.M l}
theorem add_start {xs : List V} (g : Go m H H1) (h : H1 l = none) : (m.add l hl).J (upd H1 l (.lst xs)) := ⟨(g.new h).2, xs, upd_same⟩
theorem Go.put {ys : List V} (g : Go (m.add l hl) H H1) : Go (m.add l hl) H (upd H1 l (.lst ys)) := by
  obtain ⟨k, j, vs, e⟩ := g
  refine ⟨fun b o hb i => ?_, m.loc j (fun b o hb eb => by rw [upd_ne (fun z => hl (by rw [← z]; exact hb))]; exact eb) ((TK.refl H1).mut e fun z => z), ys, upd_same⟩
  by_cases z : b = l
  · subst z
    have := k b o hb i
    rw [e] at this
    cases this
    exact (i (.inr rfl)).elim
  · rw [upd_ne z]
    exact k b o hb i
theorem Go.drop (g0 : Go m H H1) (h : H l = none) (g : Go (m.add l hl) H1 H2) : Go m H H2 := ⟨fun b o hb i => g.1 b o (g0.1 b o hb i) (fun z => z.elim i fun z => by rw [z, h] at hb; cases hb), g.2.1⟩
end
theorem Ow.li (h : Ow K H l ds) : Li K m0 H l ds := let ⟨vs, e, i⟩ := h; ⟨vs, e, fun z => z, i⟩
/-- for .. in S: B the heap behind the making of what is walked -/
theorem s_for {wi : TI} {S : List Dt} {g : TG} {tb : TS} {D : Ends} (j : m.J H) (hi : I K m (fun _ => False) wi σ H S) (Pv : Nat → L2.St → Hp → Prop) (h0 : ∀ B, Go m H B → Pv 0 σ B)
    (hs : ∀ B i d x σ' H1 H2, Go m H B → S[i]? = some d → Go m B H1 → Pv i σ' H1 → Same H1 H2 → Is K H2 d x → g x σ' H2 fun σ2 H3 => tb { D with nx := fun s h => Go m B h ∧ Pv (i + 1) s h, ct := fun s h => Go m B h ∧ Pv (i + 1) s h, bk := D.nx } σ2 H3)
    (hd : ∀ B σ' H1, Go m H B → Go m B H1 → Pv S.length σ' H1 → D.nx σ' H1) : tFor wi g tb D σ H := hi H (.refl j) _ fun J Gd B gB w hG st =>
  for_src w (fun i s h => Go m B h ∧ Pv i s h) ⟨gB.again, h0 B gB⟩ (fun i s h _ p => st h fun b o e z => p.1.1 b o e fun y => z (.inl y)) (fun i d x s h h' hd' p sm hx => hs B i d x s h h' gB hd' p.1 p.2 sm hx) (fun s h p => hd B s h gB p.1 p.2)
/-- .. while the own list l grows -/
theorem s_forO {wi : TI} {S : List Dt} {g : TG} {tb : TS} {D : Ends} (hl : ¬ m.M l) (j : m.J H) (hO : Ow K H l es) (hi : I K m (fun b => b = l) wi σ H S) (Pv : Nat → L2.St → Hp → Prop) (h0 : ∀ B, Go m H B → Ow K B l es → Pv 0 σ B)
    (hs : ∀ B i d x σ' H1 H2, Go m H B → S[i]? = some d → Go (m.add l hl) B H1 → Pv i σ' H1 → Same H1 H2 → Is K H2 d x → g x σ' H2 fun σ2 H3 => tb { D with nx := fun s h => Go (m.add l hl) B h ∧ Pv (i + 1) s h, ct := fun s h => Go (m.add l hl) B h ∧ Pv (i + 1) s h, bk := D.nx } σ2 H3)
    (hd : ∀ B σ' H1, Go m H B → Go (m.add l hl) B H1 → Pv S.length σ' H1 → D.nx σ' H1) : tFor wi g tb D σ H := hi H (.refl j) _ fun J Gd B gB w hG st => by
  have hOB : Ow K B l es := let ⟨vs, e, i⟩ := hO; ⟨vs, gB.1 l _ e fun z => (hl z).elim, i.tk gB.tk⟩
  exact for_src w (fun i s h => Go (m.add l hl) B h ∧ Pv i s h) ⟨.refl ⟨gB.2, let ⟨vs, e, _⟩ := hOB; ⟨vs, e⟩⟩, h0 B gB hOB⟩ (fun i s h _ p => st h p.1.1) (fun i d x s h h' hd' p sm hx => hs B i d x s h h' gB hd' p.1 p.2 sm hx) (fun s h p => hd B s h gB p.1 p.2)
theorem Li.ow (h : Li K m H l ds) : Ow K H l ds := let ⟨vs, e, _, i⟩ := h; ⟨vs, e, i⟩
theorem Ow.same (h : Ow K H l ds) (s : Same H H1) : Ow K H1 l ds := let ⟨vs, e, i⟩ := h; ⟨vs, s l _ e, i.tk (Same.tk s)⟩
theorem ow_new {vs : List V} (h : H l = none) (i : IsAll K H ds vs) : Ow K (upd H l (.lst vs)) l ds := ⟨vs, upd_same, i.tk (tk_new h)⟩
/-- an own list gets one more -/
theorem Ow.app {v : V} (h : Ow K H l ds) (hv : Is K H d v) (hz : ds.length < sizeLine) {Q : VK} (q : ∀ vs, H l = some (.lst vs) → Ow K (upd H l (.lst (vs ++ [v]))) l (ds ++ [d]) → Q .non (upd H l (.lst (vs ++ [v])))) : rAppend (.ref l) [v] H Q := by
  obtain ⟨vs, e, i⟩ := h
  exact ⟨l, vs, v, rfl, rfl, e, by rw [← i.length]; exact hz, q vs e ⟨_, upd_same, (i.snoc hv).tk (tk_mutL e)⟩⟩
/-! ### comprehensions -/
theorem l_lc {wi : TI} {S : List Dt} {g : TG} {tt : TT} {vs : List Nat} (hi : I K m (fun _ => False) wi σ H S) (hS : S.length ≤ sizeLine) (Iv : Nat → List Dt → Prop) (h0 : Iv 0 [])
    (hs : ∀ i d x acc H1 (Qy : VK) (Qn : Hp → Prop), S[i]? = some d → Go m H H1 → Is K H1 d x → Iv i acc → (∀ y e H2, Go m H1 H2 → Is K H2 e y → Iv (i + 1) (acc ++ [e]) → Qy y H2) → (∀ H2, Go m H1 H2 → Iv (i + 1) acc → Qn H2) →
      g x (wipe σ vs) H1 fun σ2 H2 => wipe σ2 vs = wipe σ vs ∧ tt σ2 H2 fun b H3 => if b = true then te σ2 H3 Qy else Qn H3) : L K m (tLc wi g tt te vs) σ H (Iv S.length) := fun H1 g1 Q q =>
  hi H1 g1 _ fun J Gd B gB w hG st => fun D nD => by
    have hDM : ¬ m.M D := Go.notM gB.2 nD
    refine lc_it w.w (fun i h => Go m B h ∧ ∃ acc, acc.length ≤ i ∧ Li K m h D acc ∧ Iv i acc) ⟨gB.again.new nD, [], Nat.le_refl _, ⟨[], upd_same, hDM, .nil⟩, h0⟩ (fun i h _ p => st h fun b o e z => p.1.1 b o e fun y => z (.inl y)) (fun i x h h' hi' p y => ?_) (fun h p => ?_)
    · obtain ⟨gh, acc, ha, hL, hI⟩ := p
      obtain ⟨sm, d, hd, hx⟩ := y
      have gh' := gh.same sm
      have hL' : Li K m h' D acc := hL.go (go_same gh.2 sm)
      refine hs i d x acc h' _ _ hd ((g1.trans gB).trans gh') hx hI (fun y e H2 g2 hy hIv => ?_) (fun H2 g2 hIv => ⟨gh'.trans g2, acc, Nat.le_succ_of_le ha, hL'.go g2, hIv⟩)
      obtain ⟨us, e1, _, i1⟩ := hL'.go g2
      refine ⟨us, e1, by rw [← i1.length]; exact Nat.lt_of_le_of_lt ha (Nat.lt_of_lt_of_le hi' hS), (gh'.trans g2).mut nD e1 (fun z => z) hDM, acc ++ [e], by rw [List.length_append]; exact Nat.succ_le_succ ha, ⟨_, upd_same, hDM, (i1.snoc hy).tk (tk_mutL e1)⟩, hIv⟩
    · obtain ⟨gh, acc, ha, hL, hI⟩ := p
      exact q D acc h (gB.free nD) (gB.trans gh) hL hI
theorem wipe_one (σ : L2.St) (k : Nat) (v : Option V) : wipe ((wipe σ [k]).set k v) [k] = wipe σ [k] := by simp [wipe]
/-- [e for x in S] -/
theorem l_map {wi : TI} {S : List Dt} {k : Nat} {f : Dt → Dt} (hi : I K m (fun _ => False) wi σ H S) (hS : S.length ≤ sizeLine) (he : ∀ (i : Nat) (d : Dt) x H1, S[i]? = some d → Go m H H1 → Is K H1 d x → E K m te ((wipe σ [k]).set k (some x)) H1 (f d)) :
    LE K m (tLc wi (gName k) tYes te [k]) σ H (S.map f) := by
  have h := l_lc (te := te) (g := gName k) (tt := tYes) (vs := [k]) hi hS (fun i acc => acc = (S.take i).map f) (by simp) (fun i d x acc H1 Qy Qn hd g hx ha qy qn => ?_)
  · intro H1 g Q q
    exact h H1 g Q fun l ds H2 n g2 hl e => q l ds H2 n g2 hl (by rw [e, List.take_length])
  · refine ⟨wipe_one σ k _, iteT (B := Qn H1) ((he i d x H1 hd g hx).go g.again fun y H2 g2 hy => qy y (f d) H2 g2 hy ?_)⟩
    subst ha
    rw [List.take_add_one, hd, List.map_append]
    rfl
/-- [e for x in S if t] -/
theorem l_flt {wi : TI} {S : List Dt} {k : Nat} {f : Dt → Dt} {p : Dt → Bool} (hi : I K m (fun _ => False) wi σ H S) (hS : S.length ≤ sizeLine) (ht : ∀ (i : Nat) (d : Dt) x H1, S[i]? = some d → Go m H H1 → Is K H1 d x → TE' m tt ((wipe σ [k]).set k (some x)) H1 (p d))
    (he : ∀ (i : Nat) (d : Dt) x H1, S[i]? = some d → p d = true → Go m H H1 → Is K H1 d x → E K m te ((wipe σ [k]).set k (some x)) H1 (f d)) :
    LE K m (tLc wi (gName k) tt te [k]) σ H ((S.filter p).map f) := by
  have h := l_lc (te := te) (g := gName k) (tt := tt) (vs := [k]) hi hS (fun i acc => acc = ((S.take i).filter p).map f) (by simp) (fun i d x acc H1 Qy Qn hd g hx ha qy qn => ?_)
  · intro H1 g Q q
    exact h H1 g Q fun l ds H2 n g2 hl e => q l ds H2 n g2 hl (by rw [e, List.take_length])
  · refine ⟨wipe_one σ k _, (ht i d x H1 hd g hx).go g.again fun H2 g2 => ?_⟩
    subst ha
    have e1 : S.take (i + 1) = S.take i ++ [d] := by rw [List.take_add_one, hd]; rfl
    cases hp : p d with
    | true =>
      refine iteT ((he i d x H1 hd hp g hx).go g2 fun y H3 g3 hy => qy y (f d) H3 (g2.trans g3) hy ?_)
      rw [e1, List.filter_append, List.map_append, List.filter_cons_of_pos hp]
      rfl
    | false =>
      refine iteF (qn H2 g2 ?_)
      rw [e1, List.filter_append, List.filter_cons_of_neg (by rw [hp]; exact Bool.false_ne_true), List.filter_nil, List.append_nil]
/-- [e for x, y in S] -/
theorem l_map2 {wi : TI} {S : List Dt} {k n : Nat} {f : Dt → Dt} (hi : I K m (fun _ => False) wi σ H S) (hS : S.length ≤ sizeLine) (hp : ∀ d ∈ S, ∃ a b : Dt, d = .tup [a, b])
    (he : ∀ (i : Nat) (a b : Dt) x y H1, S[i]? = some (Dt.tup [a, b]) → Go m H H1 → Is K H1 a x → Is K H1 b y → E K m te (((wipe σ [k, n]).set k (some x)).set n (some y)) H1 (f (.tup [a, b]))) :
    LE K m (tLc wi (gTup K 2 (gCons (gName k) (gCons (gName n) gNil))) tYes te [k, n]) σ H (S.map f) := by
  have h := l_lc (te := te) (g := gTup K 2 (gCons (gName k) (gCons (gName n) gNil))) (tt := tYes) (vs := [k, n]) hi hS (fun i acc => acc = (S.take i).map f) (by simp) (fun i d x acc H1 Qy Qn hd g hx ha qy qn => ?_)
  · intro H1 g Q q
    exact h H1 g Q fun l ds H2 n g2 hl e => q l ds H2 n g2 hl (by rw [e, List.take_length])
  · obtain ⟨a, b, rfl⟩ := hp d (List.mem_of_getElem? hd)
    refine g_two hx fun v w hv hw => ⟨wipe_two σ k n _ _, iteT (B := Qn H1) ((he i a b v w H1 hd g hv hw).go g.again fun y H2 g2 hy => qy y _ H2 g2 hy ?_)⟩
    subst ha
    rw [List.take_add_one, hd, List.map_append]
    rfl
/-- [e for x, y in S if t] -/
theorem l_flt2 {wi : TI} {S : List Dt} {k n : Nat} {f : Dt → Dt} {p : Dt → Bool} (hi : I K m (fun _ => False) wi σ H S) (hS : S.length ≤ sizeLine) (hp : ∀ d ∈ S, ∃ a b : Dt, d = .tup [a, b])
    (ht : ∀ (i : Nat) (a b : Dt) x y H1, S[i]? = some (Dt.tup [a, b]) → Go m H H1 → Is K H1 a x → Is K H1 b y → TE' m tt (((wipe σ [k, n]).set k (some x)).set n (some y)) H1 (p (.tup [a, b])))
    (he : ∀ (i : Nat) (a b : Dt) x y H1, S[i]? = some (Dt.tup [a, b]) → p (.tup [a, b]) = true → Go m H H1 → Is K H1 a x → Is K H1 b y → E K m te (((wipe σ [k, n]).set k (some x)).set n (some y)) H1 (f (.tup [a, b]))) :
    LE K m (tLc wi (gTup K 2 (gCons (gName k) (gCons (gName n) gNil))) tt te [k, n]) σ H ((S.filter p).map f) := by
  have h := l_lc (te := te) (g := gTup K 2 (gCons (gName k) (gCons (gName n) gNil))) (tt := tt) (vs := [k, n]) hi hS (fun i acc => acc = ((S.take i).filter p).map f) (by simp) (fun i d x acc H1 Qy Qn hd g hx ha qy qn => ?_)
  · intro H1 g Q q
    exact h H1 g Q fun l ds H2 n g2 hl e => q l ds H2 n g2 hl (by rw [e, List.take_length])
  · obtain ⟨a, b, rfl⟩ := hp d (List.mem_of_getElem? hd)
    refine g_two hx fun v w hv hw => ⟨wipe_two σ k n _ _, (ht i a b v w H1 hd g hv hw).go g.again fun H2 g2 => ?_⟩
    subst ha
    have e1 : S.take (i + 1) = S.take i ++ [.tup [a, b]] := by rw [List.take_add_one, hd]; rfl
    cases hpp : p (.tup [a, b]) with
    | true =>
      refine iteT ((he i a b v w H1 hd hpp g hv hw).go g2 fun y H3 g3 hy => qy y _ H3 (g2.trans g3) hy ?_)
      rw [e1, List.filter_append, List.map_append, List.filter_cons_of_pos hpp]
      rfl
    | false =>
      refine iteF (qn H2 g2 ?_)
      rw [e1, List.filter_append, List.filter_cons_of_neg (by rw [hpp]; exact Bool.false_ne_true), List.filter_nil, List.append_nil]
end
end TPk
end E1_text

section E2_text
set_option Elab.async false
set_option linter.all false
set_option maxRecDepth 100000
set_option maxHeartbeats 4000000
/-! Statements over data. -/
namespace TPk
open PySem PySem.Spec PyProof.Rows L2
section
variable {K : PySem.W.Frag} {m : Mo} {σ : L2.St} {H H1 H2 : Hp} {te ta tb tc : TE} {tt tu : TT} {C : Dt → Prop} {d e : Dt} {ds es : List Dt} {a b : Bool} {l : Addr} {t u : TS} {D : Ends} {i : Nat}
theorem TE'.cast (h : TE' m tt σ H a) (e : a = b) : TE' m tt σ H b := e ▸ h
theorem q_if (h : TE' m0 tt σ H b) (q : ∀ H1, Same H H1 → if b = true then t D σ H1 else u D σ H1) : tIfS tt t u D σ H := h.use0 q
theorem q_ifF (h : TE' m0 tt σ H false) (q : ∀ H1, Same H H1 → u D σ H1) : tIfS tt t u D σ H := h.use0 fun H1 s => iteF (q H1 s)
theorem q_ifT (h : TE' m0 tt σ H true) (q : ∀ H1, Same H H1 → t D σ H1) : tIfS tt t u D σ H := h.use0 fun H1 s => iteT (q H1 s)
theorem q_set (h : E K m0 te σ H d) (q : ∀ v H1, Same H H1 → Is K H1 d v → D.nx (σ.set i (some v)) H1) : tAsg te (gName i) D σ H := h.use0 q
theorem q_setL (h : LE K m0 te σ H ds) (q : ∀ l H1, H l = none → Same H H1 → Ow K H1 l ds → D.nx (σ.set i (some (.ref l))) H1) : tAsg te (gName i) D σ H := h.use0 q
theorem q_ret (h : E K m0 te σ H d) (q : ∀ v H1, Same H H1 → Is K H1 d v → D.rt v H1) : tRet te D σ H := h.use0 q
theorem r_if (j : m.J H) (h : TE' m tt σ H b) (q : ∀ H1, Go m H H1 → if b = true then t D σ H1 else u D σ H1) : tIfS tt t u D σ H := h.use j q
theorem r_ifF (j : m.J H) (h : TE' m tt σ H false) (q : ∀ H1, Go m H H1 → u D σ H1) : tIfS tt t u D σ H := h.use j fun H1 s => iteF (q H1 s)
theorem r_ifT (j : m.J H) (h : TE' m tt σ H true) (q : ∀ H1, Go m H H1 → t D σ H1) : tIfS tt t u D σ H := h.use j fun H1 s => iteT (q H1 s)
theorem r_set (j : m.J H) (h : E K m te σ H d) (q : ∀ v H1, Go m H H1 → Is K H1 d v → D.nx (σ.set i (some v)) H1) : tAsg te (gName i) D σ H := h.use j q
theorem r_setL (j : m.J H) (h : LE K m te σ H ds) (q : ∀ l H1, H l = none → Go m H H1 → Li K m H1 l ds → D.nx (σ.set i (some (.ref l))) H1) : tAsg te (gName i) D σ H := h.use j q
theorem r_ret (j : m.J H) (h : E K m te σ H d) (q : ∀ v H1, Go m H H1 → Is K H1 d v → D.rt v H1) : tRet te D σ H := h.use j q
theorem q_par {k : Nat} {t1 t2 : TE} (h : AE K m0 (tCons t1 (tCons t2 tNil)) σ H [d, e]) (q : ∀ v w H1, Same H H1 → Is K H1 d v → Is K H1 e w → D.nx ((σ.set i (some v)).set k (some w)) H1) : tPar i k (tCons t1 (tCons t2 tNil)) D σ H :=
  AE.go h (.refl True.intro) fun vs H1 g hs => by
    obtain ⟨v, w, rfl, h1, h2⟩ := hs.inv2
    exact ⟨v, w, rfl, q v w H1 g.to0 h1 h2⟩
/-- for .. in S, nothing that stood before is changed; B: the heap behind the making of what is walked -/
theorem q_for {wi : TI} {S : List Dt} {g : TG} {tb : TS} {D : Ends} (hi : I K m0 (fun _ => False) wi σ H S) (Pv : Nat → L2.St → Hp → Prop) (h0 : ∀ B, Same H B → Pv 0 σ B)
    (hs : ∀ B i d x σ' H1 H2, S[i]? = some d → Same H H2 → Same B H2 → Pv i σ' H1 → Same H1 H2 → Is K H2 d x → g x σ' H2 fun σ2 H3 => tb { D with nx := fun s h => Same B h ∧ Pv (i + 1) s h, ct := fun s h => Same B h ∧ Pv (i + 1) s h, bk := D.nx } σ2 H3)
    (hd : ∀ B σ' H1, Same H H1 → Same B H1 → Pv S.length σ' H1 → D.nx σ' H1) : tFor wi g tb D σ H := hi H (.refl True.intro) _ fun J Gd B gB w hG st =>
  for_src w (fun i s h => Same B h ∧ Pv i s h) ⟨.refl _, h0 B gB.to0⟩ (fun i s h _ p => st h fun b o e _ => p.1 b o e) (fun i d x s h h' hd' p sm hx => hs B i d x s h h' hd' ((gB.to0.trans p.1).trans sm) (p.1.trans sm) p.2 sm hx) (fun s h p => hd B s h (gB.to0.trans p.1) p.1 p.2)
/-! the same ahead of what follows -/
theorem k_if {w : TS} (h : TE' m0 tt σ H b) (q : ∀ H1, Same H H1 → if b = true then t { D with nx := w D } σ H1 else u { D with nx := w D } σ H1) : tSeq (tIfS tt t u) w D σ H := h.use0 q
theorem k_no {w : TS} (h : TE' m0 tt σ H false) (q : ∀ H1, Same H H1 → w D σ H1) : tSeq (tIfS tt t tNext) w D σ H := h.use0 fun H1 s => iteF (q H1 s)
theorem k_yes {w : TS} (h : TE' m0 tt σ H true) (q : ∀ H1, Same H H1 → t { D with nx := w D } σ H1) : tSeq (tIfS tt t u) w D σ H := h.use0 fun H1 s => iteT (q H1 s)
theorem k_ite {w : TS} (h : TE' m0 tt σ H b) (q1 : b = true → ∀ H1, Same H H1 → t { D with nx := w D } σ H1) (q2 : b = false → ∀ H1, Same H H1 → w D σ H1) : tSeq (tIfS tt t tNext) w D σ H := h.use0 fun H1 s => by
  cases b with
  | true => exact iteT (q1 rfl H1 s)
  | false => exact iteF (q2 rfl H1 s)
theorem q_ite (h : TE' m0 tt σ H b) (q1 : b = true → ∀ H1, Same H H1 → t D σ H1) (q2 : b = false → ∀ H1, Same H H1 → u D σ H1) : tIfS tt t u D σ H := h.use0 fun H1 s => by
  cases b with
  | true => exact iteT (q1 rfl H1 s)
  | false => exact iteF (q2 rfl H1 s)
theorem k_set {w : TS} (h : E K m0 te σ H d) (q : ∀ v H1, Same H H1 → Is K H1 d v → w D (σ.set i (some v)) H1) : tSeq (tAsg te (gName i)) w D σ H := h.use0 q
theorem k_setL {w : TS} (h : LE K m0 te σ H ds) (q : ∀ l H1, H l = none → Same H H1 → Ow K H1 l ds → w D (σ.set i (some (.ref l))) H1) : tSeq (tAsg te (gName i)) w D σ H := h.use0 q
theorem k_drop {w : TS} (h : E K m0 te σ H d) (q : ∀ H1, Same H H1 → w D σ H1) : tSeq (tDrop te) w D σ H := h.use0 fun _ H1 s _ => q H1 s
theorem k_par {w : TS} {k : Nat} {t1 t2 : TE} (h : AE K m0 (tCons t1 (tCons t2 tNil)) σ H [d, e]) (q : ∀ v x H1, Same H H1 → Is K H1 d v → Is K H1 e x → w D ((σ.set i (some v)).set k (some x)) H1) : tSeq (tPar i k (tCons t1 (tCons t2 tNil))) w D σ H := q_par h q
theorem k_for {w : TS} {wi : TI} {S : List Dt} {g : TG} {tb : TS} (hi : I K m0 (fun _ => False) wi σ H S) (Pv : Nat → L2.St → Hp → Prop) (h0 : ∀ B, Same H B → Pv 0 σ B)
    (hs : ∀ B i d x σ' H1 H2, S[i]? = some d → Same H H2 → Same B H2 → Pv i σ' H1 → Same H1 H2 → Is K H2 d x → g x σ' H2 fun σ2 H3 => tb { D with nx := fun s h => Same B h ∧ Pv (i + 1) s h, ct := fun s h => Same B h ∧ Pv (i + 1) s h, bk := w D } σ2 H3)
    (hd : ∀ B σ' H1, Same H H1 → Same B H1 → Pv S.length σ' H1 → w D σ' H1) : tSeq (tFor wi g tb) w D σ H := q_for hi Pv h0 hs hd
theorem n_if {w : TS} (j : m.J H) (h : TE' m tt σ H b) (q : ∀ H1, Go m H H1 → if b = true then t { D with nx := w D } σ H1 else u { D with nx := w D } σ H1) : tSeq (tIfS tt t u) w D σ H := h.use j q
theorem n_no {w : TS} (j : m.J H) (h : TE' m tt σ H false) (q : ∀ H1, Go m H H1 → w D σ H1) : tSeq (tIfS tt t tNext) w D σ H := h.use j fun H1 s => iteF (q H1 s)
theorem n_set {w : TS} (j : m.J H) (h : E K m te σ H d) (q : ∀ v H1, Go m H H1 → Is K H1 d v → w D (σ.set i (some v)) H1) : tSeq (tAsg te (gName i)) w D σ H := h.use j q
theorem n_setL {w : TS} (j : m.J H) (h : LE K m te σ H ds) (q : ∀ l H1, H l = none → Go m H H1 → Li K m H1 l ds → w D (σ.set i (some (.ref l))) H1) : tSeq (tAsg te (gName i)) w D σ H := h.use j q
theorem n_for {w : TS} {wi : TI} {S : List Dt} {g : TG} {tb : TS} (j : m.J H) (hi : I K m (fun _ => False) wi σ H S) (Pv : Nat → L2.St → Hp → Prop) (h0 : ∀ B, Go m H B → Pv 0 σ B)
    (hs : ∀ B i d x σ' H1 H2, Go m H B → S[i]? = some d → Go m B H1 → Pv i σ' H1 → Same H1 H2 → Is K H2 d x → g x σ' H2 fun σ2 H3 => tb { D with nx := fun s h => Go m B h ∧ Pv (i + 1) s h, ct := fun s h => Go m B h ∧ Pv (i + 1) s h, bk := w D } σ2 H3)
    (hd : ∀ B σ' H1, Go m H B → Go m B H1 → Pv S.length σ' H1 → w D σ' H1) : tSeq (tFor wi g tb) w D σ H := s_for j hi Pv h0 hs hd
end
/-! ### own lists that grow -/
section
variable {K : PySem.W.Frag} {m : Mo} {σ : L2.St} {H H1 H2 B : Hp} {te ta tb tc : TE} {d e : Dt} {ds es : List Dt} {l : Addr} {hl : ¬ m.M l} {t u w : TS} {D : Ends} {i : Nat}
theorem Go.up {vs : List V} (g : Go m H H1) (h : H l = some (.lst vs)) : Go (m.add l hl) H H1 := ⟨fun b o hb i => g.1 b o hb fun z => i (.inl z), g.2, vs, g.1 l _ h fun z => (hl z).elim⟩
theorem add_j {H : Hp} (j : m.J H) (h : Ow K H l ds) : (m.add l hl).J H := ⟨j, let ⟨vs, e, _⟩ := h; ⟨vs, e⟩⟩
theorem Ow.go (h : Ow K H l ds) (g : Go m H H1) (hl : ¬ m.M l) : Ow K H1 l ds := let ⟨vs, e, i⟩ := h; ⟨vs, g.1 l _ e fun z => (hl z).elim, i.tk g.tk⟩
theorem app_ (hb : σ[i]? = some (some (.ref l))) (hO : Ow K H l ds) (j : m.J H) (he : E K m te σ H d) (hz : ds.length < sizeLine) {Q : VK} (q : ∀ H1, Go (m.add l hl) H H1 → Ow K H1 l (ds ++ [d]) → Q .non H1) : tBM K "list" rAppend (tVar i) (tCons te tNil) σ H Q := by
  have hO' := hO
  obtain ⟨vs, e, hi⟩ := hO
  refine ⟨_, hb, .inl ⟨rfl, _, .inl (.inl e)⟩, he.use j fun v H2 g hv => (hO'.go g hl).app hv hz fun us e2 hO2 => q _ (g.up e).put hO2⟩
theorem q_app (hl : ¬ m.M l) (hb : σ[i]? = some (some (.ref l))) (hO : Ow K H l ds) (j : m.J H) (he : E K m te σ H d) (hz : ds.length < sizeLine) (q : ∀ H1, Go (m.add l hl) H H1 → Ow K H1 l (ds ++ [d]) → D.nx σ H1) : tDrop (tBM K "list" rAppend (tVar i) (tCons te tNil)) D σ H :=
  app_ hb hO j he hz q
theorem k_app (hl : ¬ m.M l) (hb : σ[i]? = some (some (.ref l))) (hO : Ow K H l ds) (j : m.J H) (he : E K m te σ H d) (hz : ds.length < sizeLine) (q : ∀ H1, Go (m.add l hl) H H1 → Ow K H1 l (ds ++ [d]) → w D σ H1) : tSeq (tDrop (tBM K "list" rAppend (tVar i) (tCons te tNil))) w D σ H :=
  app_ hb hO j he hz q
theorem q_ext (hl : ¬ m.M l) (hb : σ[i]? = some (some (.ref l))) (hO : Ow K H l ds) (j : m.J H) (he : LE K m te σ H es) (hz : ds.length + es.length ≤ sizeLine) (q : ∀ H1, Go (m.add l hl) H H1 → Ow K H1 l (ds ++ es) → D.nx σ H1) : tDrop (tBM K "list" rExtend (tVar i) (tCons te tNil)) D σ H := by
  have hO' := hO
  obtain ⟨vs, e, hi⟩ := hO
  refine ⟨_, hb, .inl ⟨rfl, _, .inl (.inl e)⟩, he.use j fun k H2 nk g hk => ?_⟩
  obtain ⟨us, e1, i1⟩ := hO'.go g hl
  obtain ⟨ws, e2, _, i2⟩ := hk
  exact ⟨l, k, us, ws, rfl, rfl, e1, e2, by rw [← i1.length, ← i2.length]; exact hz, q _ (g.up e).put ⟨_, upd_same, (i1.append i2).tk (tk_mutL e1)⟩⟩
/-- a for in which the own list l grows -/
theorem k_forO {wi : TI} {S : List Dt} {g : TG} {tb : TS} (hl : ¬ m.M l) (j : m.J H) (hO : Ow K H l es) (hi : I K m (fun b => b = l) wi σ H S) (Pv : Nat → L2.St → Hp → Prop) (h0 : ∀ B, Go m H B → Ow K B l es → Pv 0 σ B)
    (hs : ∀ B i d x σ' H1 H2, Go m H B → S[i]? = some d → Go (m.add l hl) B H1 → Pv i σ' H1 → Same H1 H2 → Is K H2 d x → g x σ' H2 fun σ2 H3 => tb { D with nx := fun s h => Go (m.add l hl) B h ∧ Pv (i + 1) s h, ct := fun s h => Go (m.add l hl) B h ∧ Pv (i + 1) s h, bk := w D } σ2 H3)
    (hd : ∀ B σ' H1, Go m H B → Go (m.add l hl) B H1 → Pv S.length σ' H1 → w D σ' H1) : tSeq (tFor wi g tb) w D σ H := s_forO hl j hO hi Pv h0 hs hd
/-- the block's end: nothing that stood is changed -/
theorem Go.dropS {hl : ¬ m0.M l} (s : Same H H1) (h : H l = none) (g : Go (m0.add l hl) H1 H2) : Same H H2 := (Go.drop (go0 s) h g).to0
theorem not0 : ¬ m0.M l := fun z => z
/-- a def that gives a new list -/
def Pl (K : PySem.W.Frag) (R : Hp → List Dt → List Dt → Prop) : Sp := fun vs H Q _ => ∃ ds es, IsAll K H ds vs ∧ R H ds es ∧ ∀ l H', H l = none → Same H H' → Ow K H' l es → Q (.ref l) H'
theorem l_call {R : Hp → List Dt → List Dt → Prop} {t : TA} {E : XK} (h : AE K m t σ H ds) (hR : ∀ H1, Go m H H1 → R H1 ds es) : LE K m (tCall (Pl K R) [] E t) σ H es := fun H1 g Q q =>
  h.go g fun vs H2 g2 hs => ⟨ds, es, by rw [List.append_nil]; exact hs, hR H2 (g.trans g2), fun l H3 n s ⟨us, e1, i1⟩ => q l es H3 (g2.free n) (g2.same s) ⟨us, e1, Go.notM g2.2 n, i1⟩ rfl⟩
/-- tuple(l), l in slot i -/
theorem q_tupS (hb : σ[i]? = some (some (.ref l))) (hO : Ow K H l ds) {Q : VK} (q : ∀ v H1, Same H H1 → Is K H1 (.tup ds) v → Q v H1) : tCB (rTupOf K) (tCons (tVar i) tNil) σ H Q := (e_tupS hb hO.li).use0 q
/-! ### slices -/
def O (m : Mo) (to : TO) (σ : L2.St) (H : Hp) (o : Option Int) : Prop := ∀ H1, Go m H H1 → ∀ Q : Option Int → Hp → Prop, (∀ H2, Go m H1 H2 → Q o H2) → to σ H1 Q
theorem o_none : O m tNoPart σ H none := fun H1 g Q q => q H1 g.again
theorem o_some {i : Int} (h : E K m te σ H (.int i)) : O m (tPart te) σ H (some i) := fun H1 g Q q => h.go g fun v H2 g2 hv => ⟨i, hv.int_inv, q H2 g2⟩
theorem o_int {i : Int} : O m (tPart (tC (.int i))) σ H (some i) := fun H1 g Q q => ⟨i, rfl, q H1 g.again⟩
theorem e_slX {x : Str} {lo hi : Option Int} {tl th : TO} (ha : E K m ta σ H (.str x)) (hl : O m tl σ H lo) (hh : O m th σ H hi) (hz : x.length ≤ sizeLine) : E K m (tSl rSlS ta tl th) σ H (.str (cutS x lo hi)) :=
  fun H1 g Q q => ha.go g fun v H2 g2 hv => hl H2 (g.trans g2) _ fun H3 g3 => hh H3 ((g.trans g2).trans g3) _ fun H4 g4 => ⟨x, hv.str_inv, hz, q _ _ H4 ((g2.trans g3).trans g4) (.str _) rfl⟩
def cutD (ds : List Dt) (lo hi : Option Int) : List Dt := (ds.drop (HT.sIx ds.length 0 lo)).take (HT.sIx ds.length ds.length hi - HT.sIx ds.length 0 lo)
theorem IsAll.cut {vs : List V} (h : IsAll K H ds vs) (lo hi : Option Int) : IsAll K H (cutD ds lo hi) (cutV vs lo hi) := by
  unfold cutV cutD
  rw [← h.length]
  exact (h.drop _).take _
theorem e_slT {lo hi : Option Int} {tl th : TO} (ha : E K m ta σ H (.tup ds)) (hl : O m tl σ H lo) (hh : O m th σ H hi) : E K m (tSl (rSlA K) ta tl th) σ H (.tup (cutD ds lo hi)) :=
  fun H1 g Q q => ha.go g fun v H2 g2 hv => hl H2 (g.trans g2) _ fun H3 g3 => hh H3 ((g.trans g2).trans g3) _ fun H4 g4 => by
    obtain ⟨p, xs, rfl, hq, hI⟩ := (hv.go (g3.trans g4)).inv
    refine ⟨p, xs, rfl, hq, fun z => ?_, fun _ r hr => q _ _ _ (((g2.trans g3).trans g4).new hr) (is_new hr (hI.cut lo hi)) rfl⟩
    have e : cutD ds lo hi = ds := by
      unfold cutD
      rw [hI.length, z.1, z.2, Nat.sub_zero, List.drop_zero, ← hI.length, List.take_length]
    rw [e] at q
    exact q _ _ H4 ((g2.trans g3).trans g4) (hv.go (g3.trans g4)) rfl
theorem cutD_to {n : Nat} (h : n ≤ ds.length) : cutD ds none (some (n : Int)) = ds.take n := by
  unfold cutD
  rw [HT.sIx_none, HT.sIx_nat, Nat.min_eq_left h, Nat.sub_zero, List.drop_zero]
end
theorem e_addS {K : PySem.W.Frag} {m : Mo} {σ : L2.St} {H : Hp} {ta tb : TE} {x y : Str} (ha : E K m ta σ H (.str x)) (hb : E K m tb σ H (.str y)) (hz : x.length + y.length ≤ sizeLine) : E K m (tOp (fun x y H Q => ∃ i j, x = .str i ∧ y = .str j ∧ i.length + j.length ≤ sizeLine ∧ Q (.str (i ++ j)) H) ta tb) σ H (.str (x ++ y)) :=
  e_op ha hb fun H1 v u g hv hu Q q => ⟨x, y, hv.str_inv, hu.str_inv, hz, q _ H1 g.again (.str _)⟩
theorem pa_starQ {X : Cx} {e : Expr} {es : List Expr} {p : Pos} {te : TE} {t : TA} (he : PE X e te) (hr : PA X es t) : PA X (.Starred e p :: es) (StX.tStar X.K te t) := StX.pa_star he hr (by rfl)
theorem inV_str (k : Str) (ks : List Str) : inV (V.str k) ((ks.map Dt.str).map Dt.fv) = decide (k ∈ ks) := by
  induction ks with
  | nil => rfl
  | cons x xs ih =>
    show (eqV (V.str x) (V.str k) || inV (V.str k) ((xs.map Dt.str).map Dt.fv)) = _
    rw [ih]
    by_cases h : x = k
    · subst h
      simp [eqV]
    · have h' : ¬ k = x := fun e => h e.symm
      simp [eqV, h, h']
theorem strs_fl (ks : List Str) : (ks.map Dt.str).all Dt.fl = true := by
  rw [List.all_map]
  exact List.all_eq_true.mpr fun _ _ => rfl
end TPk
end E2_text

section E3_text
set_option Elab.async false
set_option linter.all false
set_option maxRecDepth 100000
set_option maxHeartbeats 4000000
/-! == of lists and tuples of flat data. -/
namespace TPk
open PySem PySem.Spec PyProof.Rows L2
def Dt.pd : Dt → PyData
  | .non => .none
  | .bl b => .bool b
  | .int i => .int i
  | .str x => .str x
  | _ => .none
/-- flat, its text in range -/
def Dt.sf : Dt → Bool
  | .str x => PyData.strOk x
  | .tup _ => false
  | .adr _ => false
  | .ftup _ => false
  | _ => true
section
variable {K : PySem.W.Frag} {m : Mo} {σ : L2.St} {H : Hp} {te ta tb : TE} {d : Dt} {ds es : List Dt} {l : Addr}
theorem Is.dp {v : V} (h : Is K H d v) (f : d.sf = true) : Dp K H v d.pd := by cases h <;> first | exact .non | exact .bl _ | exact .int _ | exact .str _ | cases f
theorem IsAll.dp {ds : List Dt} {vs : List V} (h : IsAll K H ds vs) (f : ds.all Dt.sf = true) : DpAll K H vs (ds.map Dt.pd) := by
  induction ds generalizing vs with
  | nil => cases h; exact .nil
  | cons d ds ih =>
    rw [List.all_cons, Bool.and_eq_true] at f
    cases h with
    | cons q r => exact .cons (q.dp f.1) (ih r f.2)
theorem pd_lay : ∀ {ds : List Dt}, ds.all Dt.sf = true → PyData.canLayAll0 (ds.map Dt.pd) = true ∧ PyData.depthAll (ds.map Dt.pd) ≤ 1
  | [], _ => by simp [PyData.canLayAll0, PyData.depthAll]
  | d :: ds, f => by
    rw [List.all_cons, Bool.and_eq_true] at f
    obtain ⟨h1, h2⟩ := pd_lay (ds := ds) f.2
    have hd : PyData.canLay0 d.pd = true ∧ PyData.depth d.pd ≤ 1 := by
      have f1 := f.1
      cases d <;> first | (simp [Dt.pd, PyData.canLay0, PyData.depth]; done) | cases f1 | (exact ⟨by simp only [Dt.pd, PyData.canLay0]; exact f1, by simp [Dt.pd, PyData.depth]⟩)
    simp only [List.map_cons, PyData.canLayAll0, PyData.depthAll, hd.1, h1, Bool.and_self, true_and]
    omega
theorem shaped_l (f : ds.all Dt.sf = true) : SeqAt.shaped (.list (ds.map Dt.pd)) = true := by
  obtain ⟨h1, h2⟩ := pd_lay f
  show (PyData.canLay0 (.list (ds.map Dt.pd)) && decide (PyData.depth (.list (ds.map Dt.pd)) ≤ 64)) = true
  rw [Bool.and_eq_true]
  exact ⟨by simp only [PyData.canLay0]; exact h1, decide_eq_true (by simp only [PyData.depth]; omega)⟩
theorem shaped_t (f : ds.all Dt.sf = true) : SeqAt.shaped (.tuple (ds.map Dt.pd)) = true := by
  obtain ⟨h1, h2⟩ := pd_lay f
  show (PyData.canLay0 (.tuple (ds.map Dt.pd)) && decide (PyData.depth (.tuple (ds.map Dt.pd)) ≤ 64)) = true
  rw [Bool.and_eq_true]
  exact ⟨by simp only [PyData.canLay0]; exact h1, decide_eq_true (by simp only [PyData.depth]; omega)⟩
theorem eqv_nil_l (ds : List Dt) : PyData.eqv (.list (ds.map Dt.pd)) (.list (([] : List Dt).map Dt.pd)) = ds.isEmpty := by
  cases ds <;> simp [PyData.eqv, PyData.eqvAll]
theorem eqv_nil_t (ds : List Dt) : PyData.eqv (.tuple (ds.map Dt.pd)) (.tuple (([] : List Dt).map Dt.pd)) = ds.isEmpty := by
  cases ds <;> simp [PyData.eqv, PyData.eqvAll]
theorem Li.dp (h : Li K m H l ds) (f : ds.all Dt.sf = true) : Dp K H (.ref l) (.list (ds.map Dt.pd)) := by
  obtain ⟨vs, e, _, i⟩ := h
  exact .lst (.inl (.inl e)) (i.dp f)
/-- l == [..], l in slot i -/
theorem e_eqLS {i : Nat} (hb : σ[i]? = some (some (.ref l))) (hl : Li K m H l ds) (ht : LE K m tb σ H es) (fd : ds.all Dt.sf = true) (fe : es.all Dt.sf = true) :
    E K m (tOp (rEqD K) (tVar i) tb) σ H (.bl (PyData.eqv (.list (ds.map Dt.pd)) (.list (es.map Dt.pd)))) := fun H1 g Q q => ⟨_, hb, ht.go g fun k H2 nk g2 hk =>
  ⟨_, _, (hl.go (g.trans g2)).dp fd, hk.dp fe, shaped_l fd, shaped_l fe, q _ _ H2 g2 (.bl _) rfl⟩⟩
theorem e_neLS {i : Nat} (ha : LE K m ta σ H ds) (hb : σ[i]? = some (some (.ref l))) (hl : Li K m H l es) (fd : ds.all Dt.sf = true) (fe : es.all Dt.sf = true) :
    E K m (tOp (rNeD K) ta (tVar i)) σ H (.bl (!PyData.eqv (.list (ds.map Dt.pd)) (.list (es.map Dt.pd)))) := fun H1 g Q q => ha.go g fun k H2 nk g2 hk => ⟨_, hb,
  ⟨_, _, hk.dp fd, (hl.go (g.trans g2)).dp fe, shaped_l fd, shaped_l fe, q _ _ H2 g2 (.bl _) rfl⟩⟩
theorem e_nilS {i : Nat} (hb : σ[i]? = some (some (.ref l))) (hl : Li K m H l ds) (fd : ds.all Dt.sf = true) : E K m (tOp (rEqD K) (tVar i) (tLst tNil)) σ H (.bl ds.isEmpty) :=
  (e_eqLS hb hl (l_lst a_nil (Nat.zero_le _)) fd rfl).cast (by rw [eqv_nil_l])
/-- t == (..) -/
theorem e_eqT (ha : E K m ta σ H (.tup ds)) (hb : E K m tb σ H (.tup es)) (fd : ds.all Dt.sf = true) (fe : es.all Dt.sf = true) :
    E K m (tOp (rEqD K) ta tb) σ H (.bl (PyData.eqv (.tuple (ds.map Dt.pd)) (.tuple (es.map Dt.pd)))) := e_op ha hb fun H1 x y g hx hy Q q => by
  obtain ⟨p, xs, rfl, hq, hi⟩ := hx.inv
  obtain ⟨p', ys, rfl, hq', hi'⟩ := hy.inv
  exact ⟨_, _, .tup hq (hi.dp fd), .tup hq' (hi'.dp fe), shaped_t fd, shaped_t fe, q _ H1 g.again (.bl _)⟩
theorem e_neT (ha : E K m ta σ H (.tup ds)) (hb : E K m tb σ H (.tup es)) (fd : ds.all Dt.sf = true) (fe : es.all Dt.sf = true) :
    E K m (tOp (rNeD K) ta tb) σ H (.bl (!PyData.eqv (.tuple (ds.map Dt.pd)) (.tuple (es.map Dt.pd)))) := e_op ha hb fun H1 x y g hx hy Q q => by
  obtain ⟨p, xs, rfl, hq, hi⟩ := hx.inv
  obtain ⟨p', ys, rfl, hq', hi'⟩ := hy.inv
  exact ⟨_, _, .tup hq (hi.dp fd), .tup hq' (hi'.dp fe), shaped_t fd, shaped_t fe, q _ H1 g.again (.bl _)⟩
theorem e_nilT (ha : E K m ta σ H (.tup ds)) (fd : ds.all Dt.sf = true) : E K m (tOp (rEqD K) ta (tTup tNil)) σ H (.bl ds.isEmpty) := (e_eqT ha (e_tup a_nil (Nat.zero_le _)) fd rfl).cast (by rw [eqv_nil_t])
theorem e_notNilT (ha : E K m ta σ H (.tup ds)) (fd : ds.all Dt.sf = true) : E K m (tOp (rNeD K) ta (tTup tNil)) σ H (.bl (!ds.isEmpty)) := (e_neT ha (e_tup a_nil (Nat.zero_le _)) fd rfl).cast (by rw [eqv_nil_t])
end
/-! ### none or an int -/
def oD : Option Int → Dt
  | none => .non
  | some i => .int i
theorem oD_sf (os : List (Option Int)) : (os.map oD).all Dt.sf = true := by
  rw [List.all_map]
  exact List.all_eq_true.mpr fun x _ => by cases x <;> rfl
theorem eqv_oD (os ps : List (Option Int)) : PyData.eqvAll ((os.map oD).map Dt.pd) ((ps.map oD).map Dt.pd) = decide (os = ps) := by
  induction os generalizing ps with
  | nil => cases ps <;> simp [PyData.eqvAll]
  | cons x xs ih =>
    cases ps with
    | nil => simp [PyData.eqvAll]
    | cons y ys =>
      simp only [List.map_cons, PyData.eqvAll, ih]
      cases x <;> cases y <;> simp [oD, Dt.pd, PyData.eqv]
      rename_i a b
      rw [show (a == b) = decide (a = b) from rfl]
end TPk
end E3_text

section E4_text
set_option Elab.async false
set_option linter.all false
set_option maxRecDepth 100000
set_option maxHeartbeats 4000000
/-! [e for x in S for y in T]. -/
namespace TPk
open PySem PySem.Spec PyProof.Rows L2
section
variable {K : PySem.W.Frag} {m : Mo} {σ : L2.St} {H : Hp} {te : TE}
theorem wipe_12 (σ : L2.St) (k n : Nat) (v w : Option V) (h : k ≠ n) : wipe ((wipe ((wipe σ [k, n]).set k v) [n]).set n w) [n] = wipe ((wipe σ [k, n]).set k v) [n] := by simp [wipe]
theorem wipe_1a (σ : L2.St) (k n : Nat) (v : Option V) : wipe ((wipe σ [k, n]).set k v) [k, n] = wipe σ [k, n] := by
  have e : ∀ τ : L2.St, wipe τ [k, n] = ((τ.set n none).set k none) := fun τ => rfl
  rw [e, e]
  apply List.ext_getElem?
  intro i
  simp only [List.getElem?_set, List.length_set]
  by_cases h1 : k = i <;> by_cases h2 : n = i <;> simp [h1, h2]
theorem l_map22 {wi wi1 : TI} {S S1 : List Dt} {k n : Nat} {f : Dt → Dt → Dt} (hkn : k ≠ n) (hi : I K m (fun _ => False) wi σ H S) (hS : S.length * S1.length + S1.length ≤ 100000)
    (hi1 : ∀ (i : Nat) (d : Dt) x H1 X, S[i]? = some d → Go m H H1 → Is K H1 d x → I K m X wi1 ((wipe σ [k, n]).set k (some x)) H1 S1)
    (he : ∀ (i j : Nat) (d e : Dt) x y H1, S[i]? = some d → S1[j]? = some e → Go m H H1 → Is K H1 d x → Is K H1 e y → E K m te ((wipe ((wipe σ [k, n]).set k (some x)) [n]).set n (some y)) H1 (f d e)) :
    LE K m (tLc2 wi (gName k) tYes wi1 (gName n) tYes te [k, n] [n]) σ H (S.flatMap fun d => S1.map fun e => f d e) := fun H1 g1 Q q =>
  hi H1 g1 _ fun J Gd B gB w hG st => fun D nD => by
    have hDM : ¬ m.M D := Go.notM gB.2 nD
    refine ⟨fun i mm h => mm = S.length - i ∧ i ≤ S.length ∧ Go m B h ∧ Li K m h D ((S.take i).flatMap fun d => S1.map fun e => f d e), ⟨S.length, by simp, Nat.zero_le _, gB.again.new nD, [], upd_same, hDM, .nil⟩, ?_⟩
    rintro i mm h ⟨rfl, hi', gh, hL⟩
    have hGd : Gd h := st h fun b o e z => gh.1 b o e fun y => z (.inl y)
    by_cases hlt : i < S.length
    · refine .inr ⟨w.w.goes i h hlt hGd, fun h => i + 1 ≤ S.length ∧ Go m B h ∧ Li K m h D ((S.take (i + 1)).flatMap fun d => S1.map fun e => f d e), fun h' p => ⟨S.length - (i + 1), by omega, rfl, p.1, p.2.1, p.2.2⟩, fun x h' y => ?_⟩
      obtain ⟨sm, d, hd, hx⟩ := w.w.yields i h x h' hlt hGd y
      have gh' := gh.same sm
      have hL' : Li K m h' D _ := hL.go (go_same gh.2 sm)
      refine ⟨wipe_1a σ k n _, hi1 i d x h' (fun b => b = D) hd ((g1.trans gB).trans gh') hx h' gh'.again _ fun J1 Gd1 B1 gB1 w1 hG1 st1 => ?_⟩
      have hL1 := hL'.go gB1
      refine ⟨fun j kk h2 => kk = S1.length - j ∧ j ≤ S1.length ∧ Go m B h2 ∧ Kp (fun b => m.M b ∨ b = D) B1 h2 ∧ Li K m h2 D (((S.take i).flatMap fun d => S1.map fun e => f d e) ++ (S1.take j).map (f d)), ⟨S1.length, by simp, Nat.zero_le _, gh'.trans gB1, fun _ _ e _ => e, by simpa using hL1⟩, ?_⟩
      rintro j kk h2 ⟨rfl, hj, g2, kp, hL2⟩
      have hGd1 : Gd1 h2 := st1 h2 kp
      by_cases hlt1 : j < S1.length
      · refine .inr ⟨w1.w.goes j h2 hlt1 hGd1, fun h => j + 1 ≤ S1.length ∧ Go m B h ∧ Kp (fun b => m.M b ∨ b = D) B1 h ∧ Li K m h D (((S.take i).flatMap fun d => S1.map fun e => f d e) ++ (S1.take (j + 1)).map (f d)), fun h' p => ⟨S1.length - (j + 1), by omega, rfl, p⟩, fun y h3 yy => ?_⟩
        obtain ⟨sm2, e, he', hy⟩ := w1.w.yields j h2 y h3 hlt1 hGd1 yy
        have g3 := g2.same sm2
        have kp3 : Kp (fun b => m.M b ∨ b = D) B1 h3 := fun b o e z => sm2 b o (kp b o e z)
        have hx3 : Is K h3 d x := (hx.tk (gB1.tk)).tk kp3.tk
        have hL3 : Li K m h3 D _ := hL2.go (go_same g2.2 sm2)
        refine ⟨wipe_12 σ k n _ _ hkn, (he i j d e x y h3 hd he' ((g1.trans gB).trans g3) hx3 hy).go g3.again fun v h4 g4 hv => ?_⟩
        obtain ⟨us, e1, n1, i1⟩ := hL3.go g4
        have hlen : us.length ≤ S.length * S1.length := by
          rw [← i1.length, List.length_append, List.length_map, List.length_take]
          have hfl : ∀ l : List Dt, (l.flatMap fun d => S1.map fun e => f d e).length = l.length * S1.length := fun l => by
            induction l with
            | nil => simp
            | cons a l ih => rw [List.flatMap_cons, List.length_append, ih, List.length_map, List.length_cons, Nat.succ_mul, Nat.add_comm]
          rw [hfl, List.length_take, Nat.min_eq_left (Nat.le_of_lt hlt)]
          have : i * S1.length + S1.length ≤ S.length * S1.length := by
            rw [← Nat.succ_mul]
            exact Nat.mul_le_mul_right _ hlt
          omega
        refine ⟨us, e1, Nat.lt_of_lt_of_le (show us.length < 100000 by omega) (by decide), by omega, (g3.trans g4).mut nD e1 (fun z => z) hDM, fun b o hb z => ?_, ⟨_, upd_same, hDM, ?_⟩⟩
        · have hbD : b ≠ D := fun e => by
            subst e
            obtain ⟨ws, e2, _, _⟩ := hL1
            rw [e2] at hb
            cases hb
            exact (z (.inr rfl)).elim
          rw [upd_ne hbD]
          exact g4.1 b o (kp3 b o hb z) fun y => z (.inl y)
        · rw [List.take_add_one, he', List.map_append, ← List.append_assoc]
          exact (i1.snoc hv).tk (tk_mutL e1)
      · have ej : j = S1.length := by omega
        subst ej
        refine .inl ⟨w1.w.stops h2 hGd1, hlt, g2, ?_⟩
        rw [List.take_add_one, hd, List.flatMap_append]
        rw [List.take_length] at hL2
        simpa using hL2
    · have ei : i = S.length := by omega
      subst ei
      rw [List.take_length] at hL
      exact .inl ⟨w.w.stops h hGd, q D _ h (gB.free nD) (gB.trans gh) hL rfl⟩
end
end TPk
end E4_text

section E5_text
set_option Elab.async false
set_option linter.all false
set_option maxRecDepth 100000
set_option maxHeartbeats 4000000
/-! Dicts of texts. -/
namespace TPk
open PySem PySem.Spec PyProof.Rows L2
def stepK (acc : List (Key × V)) (d : Dt) : List (Key × V) := match d with
  | .tup [.str k, v] => putK acc (.inr k) v.fv
  | _ => acc
section
variable {K : PySem.W.Frag} {m : Mo} {σ : L2.St} {H : Hp} {te ty tb : TE}
theorem stepK_len (S : List Dt) : (S.foldl stepK []).length ≤ S.length := by
  suffices h : ∀ acc, (S.foldl stepK acc).length ≤ acc.length + S.length by simpa using h []
  induction S with
  | nil => intro acc; simp
  | cons d S ih =>
    intro acc
    have h1 := ih (stepK acc d)
    have h2 : (stepK acc d).length ≤ acc.length + 1 := by
      unfold stepK
      split
      · exact length_putK _ _ _
      · omega
    rw [List.foldl_cons, List.length_cons]
    omega
theorem d_dc {wi : TI} {S : List Dt} {k n : Nat} (hi : I K m (fun _ => False) wi σ H S) (hS : S.length ≤ 100000) (hp : ∀ d ∈ S, ∃ (k : Str) (v : Dt), d = .tup [.str k, v] ∧ v.fl = true)
    (e1 : ∀ x y, (((wipe σ [k, n]).set k (some x)).set n (some y))[k]? = some (some x)) (e2 : ∀ x y, (((wipe σ [k, n]).set k (some x)).set n (some y))[n]? = some (some y)) (H1 : Hp) (g1 : Go m H H1) {Q : VK}
    (q : ∀ p H2, H1 p = none → Go m H1 H2 → H2 p = some (.dK (S.foldl stepK [])) → Q (.ref p) H2) : tDc wi (gTup K 2 (gCons (gName k) (gCons (gName n) gNil))) tYes (tVar k) (tVar n) [k, n] σ H1 Q :=
  hi H1 g1 _ fun J Gd B gB w hG st => fun D nD => by
    have hDM : ¬ m.M D := Go.notM gB.2 nD
    refine ⟨fun i mm h => mm = S.length - i ∧ i ≤ S.length ∧ Go m B h ∧ h D = some (.dK ((S.take i).foldl stepK [])), ⟨S.length, by simp, Nat.zero_le _, gB.again.new nD, upd_same⟩, ?_⟩
    rintro i mm h ⟨rfl, hi', gh, hD⟩
    have hGd : Gd h := st h fun b o e z => gh.1 b o e fun y => z (.inl y)
    by_cases hlt : i < S.length
    · refine .inr ⟨w.w.goes i h hlt hGd, fun h => i + 1 ≤ S.length ∧ Go m B h ∧ h D = some (.dK ((S.take (i + 1)).foldl stepK [])), fun h' p => ⟨S.length - (i + 1), by omega, rfl, p⟩, fun x h' y => ?_⟩
      obtain ⟨sm, d, hd, hx⟩ := w.w.yields i h x h' hlt hGd y
      obtain ⟨kk, vv, rfl, fv⟩ := hp d (List.mem_of_getElem? hd)
      refine g_two hx fun a b ha hb => ⟨wipe_two σ k n _ _, ⟨a, e1 a b, b, e2 a b, _, .inr kk, ha.str_inv, sm _ _ hD, Nat.lt_of_lt_of_le (show _ < 100000 from ?_) (by decide), hlt, (gh.same sm).mut nD (sm _ _ hD) (fun z => z) hDM, ?_⟩⟩
      · have := stepK_len (S.take i)
        rw [List.length_take] at this
        omega
      · rw [upd_same, List.take_add_one, hd, List.foldl_append, hb.fv fv]
        rfl
    · have ei : i = S.length := by omega
      subst ei
      rw [List.take_length] at hD
      exact .inl ⟨w.w.stops h hGd, q D h (gB.free nD) (gB.trans gh) hD⟩
/-- {'k': v} -/
theorem d_disp1 {k : Str} {v : V} {d : Dt} (hv : ∀ H, Is K H d v) (H1 : Hp) (g1 : Go m H H1) {Q : VK} (q : ∀ p H2, H1 p = none → Go m H1 H2 → H2 p = some (.dK [(.inr k, v)]) → Q (.ref p) H2) : tDisp [(tC (.str k), tC v)] σ H1 Q := fun p hp =>
  ⟨upd_same, [(.inr k, v)], rfl, (by decide : 1 ≤ 15), q p _ hp (by
    have : upd (upd H1 p (.dK [])) p (.dK (mergeK [] [(.inr k, v)])) = upd H1 p (.dK (mergeK [] [(.inr k, v)])) := by
      funext b
      by_cases e : b = p
      · subst e; rw [upd_same, upd_same]
      · rw [upd_ne e, upd_ne e, upd_ne e]
    rw [this]
    exact g1.again.new hp) upd_same⟩
/-- d['k'], d in slot i -/
theorem e_getK {i : Nat} {p : Addr} {kvs : List (Key × V)} {k : Str} {v : V} {d : Dt} (hb : σ[i]? = some (some (.ref p))) (hp : H p = some (.dK kvs)) (hm : ¬ m.M p) (hk : E K m ty σ H (.str k)) (hv : valV kvs (.inr k) = some v) (hd : ∀ H, Is K H d v) : E K m (tDGet (tVar i) ty) σ H d := fun H1 g Q q =>
  ⟨_, hb, hk.go g fun y H2 g2 hy => ⟨p, v, rfl, by
    rw [hy.str_inv, ← hv]
    exact DGet.k (k := .inr k) ((g.trans g2).1 p _ hp fun z => (hm z).elim), q v d H2 g2 (hd H2) rfl⟩⟩
end
end TPk
end E5_text

section F1_text
set_option Elab.async false
set_option linter.all false
set_option maxRecDepth 100000
set_option maxHeartbeats 4000000
/-! Walks: kinds, amounts, events, logs. -/
namespace TPk
open PySem PySem.Spec PyProof.Rows L2
/-! ### isinstance of data -/
def Dt.tyn : Dt → String
  | .non => "NoneType"
  | .bl _ => "bool"
  | .int _ => "int"
  | .str _ => "str"
  | .tup _ => "tuple"
  | .adr _ => ""
  | .ftup _ => ""
def Dt.na : Dt → Bool
  | .adr _ => false
  | .ftup _ => false
  | _ => true
theorem Is.tyx {K : PySem.W.Frag} {H : Hp} {d : Dt} {v : V} (h : Is K H d v) (n : d.na = true) : TyX K H v (.type d.tyn) := by
  cases h with
  | non => exact .base .non
  | bl b => exact .base (.bl b)
  | int i => exact .base (.int i)
  | str x => exact .base (.str x)
  | tup q r =>
    rcases q with (q | ⟨o, q⟩) | ⟨o, its, n, hk, hc, hd, hz, r⟩
    · exact .base (.tup q)
    · exact .fTuple q
    · exact .kTuple hk hc
  | adr a => cases n
  | ftup h d => cases n
theorem e_isi {K : PySem.W.Frag} {m : Mo} {σ : L2.St} {H : Hp} {te : TE} {d : Dt} {n : String} {b : Bool} (h : E K m te σ H d) (na : d.na = true) (hk : kitB d.tyn n = some b) : E K m (tCB (rIsi K) (tCons te (tCons (tC (.ty n)) tNil))) σ H (.bl b) := fun H1 g Q q =>
  h.go g fun v H2 g2 hv => ⟨v, .ty n, _, .type n, b, rfl, .ty n, hv.tyx na, kit_ty hk, q _ _ H2 g2 (.bl _) rfl⟩
/-! ### the scopes -/
theorem sc_is_integer : FnScope ["value"] ["value"] (defScope s_is_integer) := ⟨rfl, rfl, rfl, by decide +kernel, rfl, by decide +kernel, by decide +kernel⟩
theorem sc_is_kind : FnScope ["value", "letter"] ["value"] (defScope s_is_kind) := ⟨rfl, rfl, rfl, by decide +kernel, rfl, by decide +kernel, by decide +kernel⟩
theorem sc_is_amount : FnScope ["value"] ["value"] (defScope s_is_amount) := ⟨rfl, rfl, rfl, by decide +kernel, rfl, by decide +kernel, by decide +kernel⟩
theorem sc_is_event : FnScope ["value"] ["value"] (defScope s_is_event) := ⟨rfl, rfl, rfl, by decide +kernel, rfl, by decide +kernel, by decide +kernel⟩
def letters26 : Str := "abcdefghijklmnopqrstuvwxyz"
def KindOk (x : Str) : Prop := 1 ≤ x.length ∧ x.length ≤ 8 ∧ ∀ c ∈ x.cps.toList, c ∈ letters26.cps.toList
def big : Int := 1000000000000000000000000000000
def AmtOk (i : Int) : Prop := -big ≤ i ∧ i ≤ big
section
variable {P : Program} {w : World} {K : PySem.W.Frag} {mg : Str → Option Value} {base : Heap}
def R_is_integer : Hp → List Dt → Dt → Prop := fun _ ds d => ∃ i, ds = [.int i] ∧ d = .bl true
theorem c_is_integer (T : Fx K mg) : C8.Cal P w K mg base 1 "is_integer" (Pu K R_is_integer) [] := by
  obtain ⟨fd, F⟩ := T.D.def_ 0
  refine ⟨_, fd, ["value"], [], ok0 F sc_is_integer (fun vs H Q Er h => ?_) (fun cdv Ar outer sh H vs Q Er hr h => ?_), T.m_is_integer, F.kp, F.bindsN (fun kV doc pm an cdv ct us hl => match us, hl with | [_], _ => rfl), .nil⟩
  · obtain ⟨ds, d, hI, ⟨i, rfl, rfl⟩, q⟩ := h
    exact hI.length.symm
  · obtain ⟨ds, d, hI, ⟨i, rfl, rfl⟩, q⟩ := h
    obtain ⟨v, rfl, h1⟩ := hI.inv1
    refine ⟨_, (pss_one (ps_ret (pe_and (pe_callB call_isi rfl T.f_isinstance (by decide +kernel) (pa_cons (pv 0) (pa_cons (pe_bltn (v := .ty "int") rfl T.f_int (by decide +kernel) rfl) pa_nil))) (pe_one (pe_not (pe_callB call_isi rfl T.f_isinstance (by decide +kernel) (pa_cons (pv 0) (pa_cons (pe_bltn (v := .ty "bool") rfl T.f_bool (by decide +kernel) rfl) pa_nil)))))))), ?_⟩
    exact (e_and (e_isi (e_var rfl h1) rfl (by decide +kernel : kitB "int" "int" = some true)) fun _ => e_not (e_isi (e_var rfl h1) rfl (by decide +kernel : kitB "int" "bool" = some false))).use0 q
def R_is_kind : Hp → List Dt → Dt → Prop := fun _ ds d => ∃ x, ds = [.str x] ∧ KindOk x ∧ d = .bl true
theorem c_is_kind (T : Fx K mg) : C8.Cal P w K mg base 1 "is_kind" (Pu K R_is_kind) [] := by
  obtain ⟨fd, F⟩ := T.D.def_ 1
  refine ⟨_, fd, ["value"], [], ok0 F sc_is_kind (fun vs H Q Er h => ?_) (fun cdv Ar outer sh H vs Q Er hr h => ?_), T.m_is_kind, F.kp, F.bindsN (fun kV doc pm an cdv ct us hl => match us, hl with | [_], _ => rfl), .nil⟩
  · obtain ⟨ds, d, hI, ⟨x, rfl, hk, rfl⟩, q⟩ := h
    exact hI.length.symm
  · obtain ⟨ds, d, hI, ⟨x, rfl, hk, rfl⟩, q⟩ := h
    obtain ⟨v, rfl, h1⟩ := hI.inv1
    refine ⟨_, (pss_one (ps_ret (pe_and (pe_callB call_isi rfl T.f_isinstance (by decide +kernel) (pa_cons (pv 0) (pa_cons (pe_bltn (v := .ty "str") rfl T.f_str (by decide +kernel) rfl) pa_nil))) (pe_and (pe_chain op_le op_le pe_int (pe_callB call_len rfl T.f_len PySem.boot_len (pa_cons (pv 0) pa_nil)) pe_int) (pe_one (pe_callB (cr_all rfl) rfl T.f_all (by decide +kernel) (pa_cons (pe_lcF (own := [("letter", 1)]) rfl sc_is_kind.nd (pi_str (pv 0)) (blkOk_by (by kernel_rfl)) (fun _ _ _ _ _ => (pg_name (i := 1) sc_is_kind.nd rfl (by first | exact Or.inl rfl | exact Or.inr rfl))) (fun _ _ _ _ _ => pts_nil) (fun _ _ _ _ _ => (pe_cmpR op_in_sign (pv 1) (C8.pe_gc rfl T.g_LETTERS) rfl))) pa_nil))))))), ?_⟩
    have hz : x.length ≤ 100000 := Nat.le_trans hk.2.1 (by decide)
    refine (e_and (e_isi (e_var rfl h1) rfl (by decide +kernel : kitB "str" "str" = some true)) fun _ => e_and (e_chain e_int (e_lenX (e_var rfl h1) (sz hz)) e_int rfl rfl) fun _ =>
      e_all (bs := x.cps.toList.map fun c => decide (c ∈ letters26.cps.toList)) ((l_map (f := fun d => match d with | .str z => .bl (decide (z.cps.toList.getD 0 0 ∈ letters26.cps.toList)) | _ => .non) (i_str (e_var rfl h1)) ?_ fun i d y H1 hd g hy => ?_).cast ?_)).use0 fun v H2 g hv => ?_
    · rw [List.length_map]
      exact sz hz
    · rw [List.getElem?_map] at hd
      cases hc : x.cps.toList[i]? with
      | none => rw [hc] at hd; cases hd
      | some c =>
        rw [hc] at hd
        cases hd
        exact e_sign (e_var rfl hy) e_str
    · rw [List.map_map, List.map_map]
      rfl
    · have e1 : (decide ((1 : Int) ≤ (x.length : Nat)) && decide (((x.length : Nat) : Int) ≤ 8)) = true := by
        rw [Bool.and_eq_true, decide_eq_true_eq, decide_eq_true_eq]
        have := hk.1
        have := hk.2.1
        omega
      have e2 : ((x.cps.toList.map fun c => decide (c ∈ letters26.cps.toList)).all id) = true := by
        rw [List.all_map]
        exact List.all_eq_true.mpr fun c hc => decide_eq_true (hk.2.2 c hc)
      rw [e1, e2] at hv
      exact q v H2 g hv
def R_is_amount : Hp → List Dt → Dt → Prop := fun _ ds d => ∃ i, ds = [.int i] ∧ AmtOk i ∧ d = .bl true
theorem c_is_amount (T : Fx K mg) : C8.Cal P w K mg base 2 "is_amount" (Pu K R_is_amount) [] := by
  have c_is_integer := c_is_integer (P := P) (w := w) (base := base) T
  obtain ⟨fd, F⟩ := T.D.def_ 2
  refine ⟨_, fd, ["value"], [], ok0 F sc_is_amount (fun vs H Q Er h => ?_) (fun cdv Ar outer sh H vs Q Er hr h => ?_), T.m_is_amount, F.kp, F.bindsN (fun kV doc pm an cdv ct us hl => match us, hl with | [_], _ => rfl), .nil⟩
  · obtain ⟨ds, d, hI, ⟨i, rfl, hk, rfl⟩, q⟩ := h
    exact hI.length.symm
  · obtain ⟨ds, d, hI, ⟨i, rfl, hk, rfl⟩, q⟩ := h
    obtain ⟨v, rfl, h1⟩ := hI.inv1
    refine ⟨_, (pss_one (ps_ret (pe_and (C8.pe_c c_is_integer hr (by decide) rfl (pa_cons (pv 0) pa_nil)) (pe_one (pe_chain op_le op_le (pe_un un_neg (C8.pe_gc rfl T.g_MAX_AMOUNT)) (pv 0) (C8.pe_gc rfl T.g_MAX_AMOUNT)))))), ?_⟩
    refine (e_and (e_call (a_cons (e_var rfl h1) a_nil) fun H1 g => ⟨i, rfl, rfl⟩) fun _ => e_chain (e_neg e_int) (e_var rfl h1) e_int (x := decide (-big ≤ i)) (y := decide (i ≤ big)) rfl rfl).use0 fun v H2 g hv => ?_
    rw [decide_eq_true hk.1, decide_eq_true hk.2] at hv
    exact q v H2 g hv
def evD (k : Str) (a : Int) : Dt := .tup [.str k, .int a]
def R_is_event : Hp → List Dt → Dt → Prop := fun _ ds d => ∃ k a, ds = [evD k a] ∧ KindOk k ∧ AmtOk a ∧ d = .bl true
theorem c_is_event (T : Fx K mg) : C8.Cal P w K mg base 3 "is_event" (Pu K R_is_event) [] := by
  have c_is_amount := c_is_amount (P := P) (w := w) (base := base) T
  have c_is_kind := c_is_kind (P := P) (w := w) (base := base) T
  obtain ⟨fd, F⟩ := T.D.def_ 3
  refine ⟨_, fd, ["value"], [], ok0 F sc_is_event (fun vs H Q Er h => ?_) (fun cdv Ar outer sh H vs Q Er hr h => ?_), T.m_is_event, F.kp, F.bindsN (fun kV doc pm an cdv ct us hl => match us, hl with | [_], _ => rfl), .nil⟩
  · obtain ⟨ds, d, hI, ⟨k, a, rfl, hk, ha, rfl⟩, q⟩ := h
    exact hI.length.symm
  · obtain ⟨ds, d, hI, ⟨k, a, rfl, hk, ha, rfl⟩, q⟩ := h
    obtain ⟨v, rfl, h1⟩ := hI.inv1
    refine ⟨_, (pss_one (ps_ret (pe_and (pe_callB call_isi rfl T.f_isinstance (by decide +kernel) (pa_cons (pv 0) (pa_cons (pe_bltn (v := .ty "tuple") rfl T.f_tuple (by decide +kernel) rfl) pa_nil))) (pe_and (pe_cmpR op_eq (pe_callB call_len_seq rfl T.f_len PySem.boot_len (pa_cons (pv 0) pa_nil)) pe_int (nomark _)) (pe_and (C8.pe_c c_is_kind hr (by decide) rfl (pa_cons (pe_ix ix_tup (pv 0) pe_int (fun _ _ => rfl)) pa_nil)) (pe_one (C8.pe_c c_is_amount hr (by decide) rfl (pa_cons (pe_ix ix_tup (pv 0) pe_int (fun _ _ => rfl)) pa_nil)))))))), ?_⟩
    refine (e_and (e_isi (e_var rfl h1) rfl (by decide +kernel : kitB "tuple" "tuple" = some true)) fun _ => e_and (e_eq (e_lenT (e_var rfl h1)) e_int rfl rfl rfl) fun _ =>
      e_and (e_call (a_cons (e_ixT (e_var rfl h1) e_int rfl) a_nil) fun H1 g => ⟨k, rfl, hk, rfl⟩) fun _ => e_call (a_cons (e_ixT (e_var rfl h1) e_int rfl) a_nil) fun H1 g => ⟨a, rfl, ha, rfl⟩).use0 fun v H2 g hv => ?_
    exact q v H2 g hv
end
end TPk
end F1_text

section F2_text
set_option Elab.async false
set_option linter.all false
set_option maxRecDepth 100000
set_option maxHeartbeats 4000000
/-! Walks: logs. -/
namespace TPk
open PySem PySem.Spec PyProof.Rows L2
theorem sc_first_wrong : FnScope ["value", "kinds", "index", "event"] ["value", "kinds"] (defScope s_first_wrong) := ⟨rfl, rfl, rfl, by decide +kernel, rfl, by decide +kernel, by decide +kernel⟩
theorem sc_check_log : FnScope ["log", "kinds", "wrong"] ["log", "kinds"] (defScope s_check_log) := ⟨rfl, rfl, rfl, by decide +kernel, rfl, by decide +kernel, by decide +kernel⟩
def strsD (xs : List Str) : Dt := .tup (xs.map Dt.str)
def logD (log : List (Str × Int)) : Dt := .tup (log.map fun e => evD e.1 e.2)
/-- a log that is taken: at most a thousand events, of these kinds -/
def LogOk (kinds : List Str) (log : List (Str × Int)) : Prop := log.length ≤ 1000 ∧ ∀ e ∈ log, e.1 ∈ kinds ∧ KindOk e.1 ∧ AmtOk e.2
section
variable {P : Program} {w : World} {K : PySem.W.Frag} {mg : Str → Option Value} {base : Heap}
def R_first_wrong : Hp → List Dt → Dt → Prop := fun _ ds d => ∃ log kinds, ds = [logD log, strsD kinds] ∧ LogOk kinds log ∧ d = .non
theorem c_first_wrong (T : Fx K mg) : C8.Cal P w K mg base 4 "first_wrong" (Pu K R_first_wrong) [] := by
  have c_is_event := c_is_event (P := P) (w := w) (base := base) T
  obtain ⟨fd, F⟩ := T.D.def_ 4
  obtain ⟨ds0, hd0, b0⟩ := F.binds1 (ps := ["value", "kinds"]) 2 1 (by intro z; cases z) rfl (fun T kV doc pm an cdv ct us its h1 h2 => match us, its, h1, h2 with | [_, _], [_], _, _ => ⟨_, rfl, rfl⟩)
  cases hd0
  refine ⟨_, fd, ["value", "kinds"], [], ok0 F sc_first_wrong (fun vs H Q Er h => ?_) (fun cdv Ar outer sh H vs Q Er hr h => ?_), T.m_first_wrong, F.kp, b0, .nil⟩
  · obtain ⟨ds, d, hI, ⟨log, kinds, rfl, hk, rfl⟩, q⟩ := h
    exact hI.length.symm
  · obtain ⟨ds, d, hI, ⟨log, kinds, rfl, hk, rfl⟩, q⟩ := h
    obtain ⟨v, k, rfl, h1, h2⟩ := hI.inv2
    refine ⟨_, (pss_cons (ps_if (PW.pt (pw_or (pt_not (pt_val (pe_callB call_isi rfl T.f_isinstance (by decide +kernel) (pa_cons (pv 0) (pa_cons (pe_bltn (v := .ty "tuple") rfl T.f_tuple (by decide +kernel) rfl) pa_nil))))) (pw_or1 (pt_cmpR op_gt (pe_callB call_len_seq rfl T.f_len PySem.boot_len (pa_cons (pv 0) pa_nil)) (C8.pe_gc rfl T.g_MAX_EVENTS) (nomark _))))) (pss_one (ps_ret (pe_tup (pa_cons pe_non pa_nil)))) pss_nil)
    (pss_cons (ps_for PassesOwn.never rfl (pi_enumT rfl T.f_enumerate (pa_cons (pv 0) pa_nil)) (pg_tup rfl (pgs_cons (pg_name (i := 2) sc_first_wrong.nd rfl (Or.inl rfl)) (pgs_cons (pg_name (i := 3) sc_first_wrong.nd rfl (Or.inl rfl)) pgs_nil))) (pss_one (ps_if (PW.pt (pw_or (pt_not (pt_val (C8.pe_c c_is_event hr (by decide) rfl (pa_cons (pv 3) pa_nil)))) (pw_or1 (PW.pt (pw_and (pt_cmpR op_notN (pv 1) pe_non (nomark _)) (pw_and1 (pt_cmpR op_notIn_seq (pe_ix ix_tup (pv 3) pe_int (fun _ _ => rfl)) (pv 1) rfl))))))) (pss_one (ps_ret (pe_tup (pa_cons (pv 2) pa_nil)))) pss_nil)))
    (pss_one (ps_ret pe_non)))), ?_⟩
    refine k_no ((t_or (t_not (t_B (e_isi (e_var rfl h1) rfl (by decide +kernel : kitB "tuple" "tuple" = some true)))) fun _ => t_test (e_gt (e_lenT (e_var rfl h1)) e_int)).cast ?_) fun H1 s1 => ?_
    · rw [List.length_map]
      have := hk.1
      simp only [Bool.not_true, Bool.false_or, decide_eq_false_iff_not]
      omega
    refine k_for (i_enumT (e_var rfl (h1.same s1))) (fun i σ' _ => ∃ y2 y3, σ' = [some v, some k, y2, y3]) (fun B _ => ⟨_, _, rfl⟩) (fun B i d x σ' H2 H3 hd sA sB p s23 hx => ?_) (fun B σ' H2 sA sB p => ?_)
    · obtain ⟨y2, y3, rfl⟩ := p
      obtain ⟨e, he, rfl⟩ : ∃ e, log[i]? = some e ∧ d = .tup [.int (i : Nat), evD e.1 e.2] := by
        rw [List.getElem?_map, List.getElem?_zipIdx, List.getElem?_map] at hd
        cases hh : log[i]? with
        | none => rw [hh] at hd; cases hd
        | some e => rw [hh] at hd; cases hd; exact ⟨e, rfl, by simp⟩
      obtain ⟨z1, z2, z3⟩ := hk.2 e (List.mem_of_getElem? he)
      refine g_two hx fun a b ha hb => ?_
      have h2' := (h2.same s1).same sA
      refine q_ifF ((t_or (t_not (t_B (e_call (a_cons (e_var rfl hb) a_nil) fun H1 g => ⟨e.1, e.2, rfl, z2, z3, rfl⟩))) fun _ => t_and (t_test (e_notN (e_var rfl h2'))) fun _ => t_test (e_in (neg := true) (e_ixT (e_var rfl hb) e_int (d := .str e.1) rfl) (e_var rfl h2') rfl (strs_fl kinds))).cast ?_) fun H4 s4 => ?_
      · rw [if_pos rfl]
        show (!true || (!false && !inV (V.str e.1) ((kinds.map Dt.str).map Dt.fv))) = false
        rw [inV_str, decide_eq_true z1]
        rfl
      · exact ⟨sB.trans s4, a, b, rfl⟩
    · obtain ⟨y2, y3, rfl⟩ := p
      exact q_ret e_non fun v H3 s3 hv => q v H3 ((s1.trans sA).trans s3) hv
def R_check_log : Hp → List Dt → Dt → Prop := fun _ ds d => ∃ log kinds, ds = [logD log, strsD kinds] ∧ LogOk kinds log ∧ d = .non
theorem c_check_log (T : Fx K mg) : C8.Cal P w K mg base 5 "check_log" (Pu K R_check_log) [] := by
  have c_first_wrong := c_first_wrong (P := P) (w := w) (base := base) T
  obtain ⟨fd, F⟩ := T.D.def_ 5
  obtain ⟨ds0, hd0, b0⟩ := F.binds1 (ps := ["log", "kinds"]) 2 1 (by intro z; cases z) rfl (fun T kV doc pm an cdv ct us its h1 h2 => match us, its, h1, h2 with | [_, _], [_], _, _ => ⟨_, rfl, rfl⟩)
  cases hd0
  refine ⟨_, fd, ["log", "kinds"], [], ok0 F sc_check_log (fun vs H Q Er h => ?_) (fun cdv Ar outer sh H vs Q Er hr h => ?_), T.m_check_log, F.kp, b0, .nil⟩
  · obtain ⟨ds, d, hI, ⟨log, kinds, rfl, hk, rfl⟩, q⟩ := h
    exact hI.length.symm
  · obtain ⟨ds, d, hI, ⟨log, kinds, rfl, hk, rfl⟩, q⟩ := h
    obtain ⟨v, k, rfl, h1, h2⟩ := hI.inv2
    refine ⟨_, (pss_one (ps_ifW (ptw_cmp op_notN (pew_named (i := 2) sc_check_log.nd rfl (Or.inl rfl) (pew_of (C8.pe_c c_first_wrong hr (by decide) rfl (pa_cons (pv 0) (pa_cons (pv 1) pa_nil))))) pe_non (nomark _)) (pss_one ps_never) pss_nil)), ?_⟩
    refine TPk.E.use0 (e_call (d := .non) (R := R_first_wrong) (a_cons (e_var rfl h1) (a_cons (e_var rfl h2) a_nil)) fun H1 g => ⟨log, kinds, rfl, hk, rfl⟩) fun x H1 s1 hx => ?_
    cases hx.non_inv
    exact ⟨rfl, false, rfl, iteF (q _ H1 s1 .non)⟩
end
end TPk
end F2_text

section F3_text
set_option Elab.async false
set_option linter.all false
set_option maxRecDepth 100000
set_option maxHeartbeats 4000000
/-! Walks: nodes. -/
namespace TPk
open PySem PySem.Spec PyProof.Rows L2
theorem sc_terms_of : FnScope ["count", "found", "slot"] ["count"] (defScope s_terms_of) := ⟨rfl, rfl, rfl, by decide +kernel, rfl, by decide +kernel, by decide +kernel⟩
theorem sc_source_of : FnScope ["term"] ["term"] (defScope s_source_of) := ⟨rfl, rfl, rfl, by decide +kernel, rfl, by decide +kernel, by decide +kernel⟩
theorem sc_best_of : FnScope ["side", "values", "found", "value"] ["side", "values"] (defScope s_best_of) := ⟨rfl, rfl, rfl, by decide +kernel, rfl, by decide +kernel, by decide +kernel⟩
/-! ### the texts of terms, nodes, registers -/
def TT : List Str := ["0", "r0", "r0+x", "r1", "r1+x", "r2", "r2+x", "r3", "r3+x", "r4", "r4+x", "r5", "r5+x", "x"]
def NT : List Str := ["0", "r0", "r1", "r2", "r3", "r4", "r5"]
def RT : List Str := ["r0", "r1", "r2", "r3", "r4", "r5"]
def tt (c : Nat) : Str := TT.getD c ""
def nt (n : Nat) : Str := NT.getD n ""
def rt (j : Nat) : Str := RT.getD j ""
/-- the codes of the terms over n registers -/
def codes (n : Nat) : List Nat := List.range (2 * n + 1) ++ [13]
theorem tt_src : ∀ c, c < 14 → ((tt c = "0" ∨ tt c = "x") ↔ (c = 0 ∨ c = 13)) ∧ (c ≠ 0 → c ≠ 13 → cutS (tt c) none (some 2) = nt (src c) ∧ decide ((2 : Int) < ((tt c).length : Nat)) = tak c) ∧ (tt c).length ≤ 4 := by decide +kernel
section
variable {P : Program} {w : World} {K : PySem.W.Frag} {mg : Str → Option Value} {base : Heap}
theorem e_regs (T : Fx K mg) {m : Mo} {σ : L2.St} {H : Hp} : E K m (tC (.ref (He.ga K "REGISTERS"))) σ H (.tup (RT.map Dt.str)) := e_c fun H => is_strs (T.regs H)
def R_terms_of : Hp → List Dt → List Dt → Prop := fun _ ds es => ∃ n : Nat, ds = [.int (n : Int)] ∧ n ≤ 6 ∧ es = (codes n).map fun c => .str (tt c)
theorem c_terms_of (T : Fx K mg) : C8.Cal P w K mg base 1 "terms_of" (Pl K R_terms_of) [] := by
  obtain ⟨fd, F⟩ := T.D.def_ 6
  refine ⟨_, fd, ["count"], [], ok0 F sc_terms_of (fun vs H Q Er h => ?_) (fun cdv Ar outer sh H vs Q Er hr h => ?_), T.m_terms_of, F.kp, F.bindsN (fun kV doc pm an cdv ct us hl => match us, hl with | [_], _ => rfl), .nil⟩
  · obtain ⟨ds, d, hI, ⟨n, rfl, hn, rfl⟩, q⟩ := h
    exact hI.length.symm
  · obtain ⟨ds, d, hI, ⟨n, rfl, hn, rfl⟩, q⟩ := h
    obtain ⟨v, rfl, h1⟩ := hI.inv1
    refine ⟨_, (pss_cons (ps_set (i := 1) sc_terms_of.nd rfl (Or.inl rfl) (pe_lst (pa_cons pe_str pa_nil)))
    (pss_cons (ps_for PassesOwn.never rfl (pi_tup (pe_slice sl_tupA (C8.pe_gc rfl T.g_REGISTERS) po_none (po_some (pv 0)))) (pg_name (i := 2) sc_terms_of.nd rfl (Or.inl rfl)) (pss_one (ps_expr (pe_bm PySem.F.plainAttrs_list PySem.F.slot_list_extend PySem.F.type_list_extend mt_extend (pv 1) (pa_cons (pe_lst (pa_cons (pv 2) (pa_cons (pe_op op_add_str (pv 2) pe_str) pa_nil))) pa_nil)))))
    (pss_one (ps_ret (pe_lst (pa_starQ (pv 1) (pa_cons pe_str pa_nil))))))), ?_⟩
    refine k_setL (K := K) (l_lst (a_cons e_str a_nil) (sz (by decide))) fun l H1 nl s1 hO => ?_
    have eR : cutD (RT.map Dt.str) none (some (n : Int)) = (RT.take n).map Dt.str := by rw [cutD_to (by simpa [RT] using hn), List.map_take]
    refine k_forO (m := m0) not0 True.intro hO (i_tup (eR ▸ e_slT (e_regs T) o_none (o_some (e_var rfl (h1.same s1)))))
      (fun i σ' H' => (∃ y, σ' = [some v, some (.ref l), y]) ∧ Ow K H' l ((List.range (2 * i + 1)).map fun c => .str (tt c)))
      (fun B g hB => ⟨⟨_, rfl⟩, hB⟩) (fun B i d x σ' H2 H3 gB hd g2 p s23 hx => ?_) (fun B σ' H2 gB g2 p => ?_)
    · obtain ⟨⟨y, rfl⟩, hO2⟩ := p
      obtain ⟨hi, rfl⟩ : i < n ∧ d = .str (rt i) := by
        rw [List.getElem?_map, List.getElem?_take] at hd
        by_cases h : i < n
        · rw [if_pos h] at hd
          have h6 : i < RT.length := Nat.lt_of_lt_of_le h (by simpa [RT] using hn)
          rw [List.getElem?_eq_getElem h6] at hd
          cases hd
          exact ⟨h, by unfold rt; rw [List.getD_eq_getElem?_getD, List.getElem?_eq_getElem h6]; rfl⟩
        · rw [if_neg h] at hd; cases hd
      have ht : ∀ i, i < 6 → tt (2 * i + 1) = rt i ∧ tt (2 * i + 2) = rt i ++ "+x" ∧ (rt i).length + 2 ≤ 100 := by decide +kernel
      obtain ⟨t1, t2, t3⟩ := ht i (by omega)
      refine q_ext (m := m0) not0 rfl (hO2.same s23) True.intro (l_lst (a_cons (e_var rfl hx) (a_cons (e_addS (e_var rfl hx) e_str (sz (Nat.le_trans t3 (by decide)))) a_nil)) (sz (by show 2 ≤ 100000; decide))) ?_ fun H4 g4 hO4 => ?_
      · rw [List.length_map, List.length_range]
        exact sz (by show 2 * i + 1 + 2 ≤ 100000; omega)
      · refine ⟨(g2.same s23).trans g4, ⟨_, rfl⟩, ?_⟩
        rw [show 2 * (i + 1) + 1 = (2 * i + 1) + 1 + 1 by omega, List.range_succ, List.range_succ, List.map_append, List.map_append, List.append_assoc]
        show Ow K H4 l (_ ++ ([Dt.str (tt (2 * i + 1))] ++ [Dt.str (tt (2 * i + 2))]))
        rw [t1, t2]
        exact hO4
    · obtain ⟨⟨y, rfl⟩, hO2⟩ := p
      have s2 : Same H H2 := Go.dropS (s1.trans gB.to0) nl g2
      refine TPk.LE.use0 (l_lst (a_starS rfl hO2.li (a_cons e_str a_nil)) ?_) fun p H3 np s3 hp => q p H3 (s2.free np) (s2.trans s3) ?_
      · simp [RT]
        exact sz (by omega)
      · have : (List.map (fun c => Dt.str (tt c)) (codes n)) = (List.map (fun c => Dt.str (tt c)) (List.range (2 * ((RT.take n).map Dt.str).length + 1)) ++ [.str "x"]) := by
          unfold codes
          rw [List.map_append, List.length_map, List.length_take, Nat.min_eq_left (by simpa [RT] using hn)]
          rfl
        rw [this]
        exact hp
def sdT (g : Bool) : Str := if g = true then "greatest" else "least"
/-- the texts of a term's codes -/
theorem src_term : ∀ c, c < 14 → inV (V.str (tt c)) (([.str "0", .str "x"] : List Dt).map Dt.fv) = decide (c = 0 ∨ c = 13) ∧ (decide (V.str (tt c) = V.str "x")) = decide (c = 13) ∧ (¬ (c = 0 ∨ c = 13) → cutS (tt c) none (some 2) = nt (src c) ∧ decide ((2 : Int) < ((tt c).length : Nat)) = tak c) ∧ (tt c).length ≤ 4 ∧
    ((c = 0 ∨ c = 13) → src c = 0 ∧ tak c = decide (c = 13)) := by decide +kernel
/-- where a term comes from -/
def srcD (c : Nat) : Dt := .tup [.str (nt (src c)), .bl (tak c)]
def R_source_of : Hp → List Dt → Dt → Prop := fun _ ds d => ∃ c, c < 14 ∧ ds = [.str (tt c)] ∧ d = srcD c
theorem c_source_of (T : Fx K mg) : C8.Cal P w K mg base 1 "source_of" (Pu K R_source_of) [] := by
  obtain ⟨fd, F⟩ := T.D.def_ 7
  refine ⟨_, fd, ["term"], [], ok0 F sc_source_of (fun vs H Q Er h => ?_) (fun cdv Ar outer sh H vs Q Er hr h => ?_), T.m_source_of, F.kp, F.bindsN (fun kV doc pm an cdv ct us hl => match us, hl with | [_], _ => rfl), .nil⟩
  · obtain ⟨ds, d, hI, ⟨c, hc, rfl, rfl⟩, q⟩ := h
    exact hI.length.symm
  · obtain ⟨ds, d, hI, ⟨c, hc, rfl, rfl⟩, q⟩ := h
    obtain ⟨v, rfl, h1⟩ := hI.inv1
    obtain ⟨z1, z2, z3, z4, z5⟩ := src_term c hc
    refine ⟨_, (pss_cons (ps_if (pt_cmpR op_in_seq (pv 0) (pe_tup (pa_cons pe_str (pa_cons pe_str pa_nil))) rfl) (pss_one (ps_ret (pe_tup (pa_cons pe_str (pa_cons (pe_cmpR op_eq (pv 0) pe_str (nomark _)) pa_nil))))) pss_nil)
    (pss_one (ps_ret (pe_tup (pa_cons (pe_slice sl_str (pv 0) po_none (po_some pe_int)) (pa_cons (pe_cmpR op_gt (pe_callB call_len rfl T.f_len PySem.boot_len (pa_cons (pv 0) pa_nil)) pe_int (nomark _)) pa_nil)))))), ?_⟩
    refine k_ite ((t_test (e_in (neg := false) (e_var rfl h1) (e_tup (a_cons e_str (a_cons e_str a_nil)) (sz (by decide))) rfl rfl)).cast (show (if false = true then !inV (Dt.str (tt c)).fv (([.str "0", .str "x"] : List Dt).map Dt.fv) else inV (Dt.str (tt c)).fv (([.str "0", .str "x"] : List Dt).map Dt.fv)) = decide (c = 0 ∨ c = 13) from z1)) (fun h0 H1 s1 => ?_) (fun h0 H1 s1 => ?_)
    · obtain ⟨y1, y2⟩ := z5 (of_decide_eq_true h0)
      refine q_ret (e_tup (a_cons e_str (a_cons (e_eq (e_var rfl (h1.same s1)) e_str rfl rfl rfl) a_nil)) (sz (by show 2 ≤ 100000; decide))) fun u H2 s2 hu => q u H2 (s1.trans s2) ?_
      unfold srcD
      rw [y1, y2, ← z2]
      exact hu
    · obtain ⟨y1, y2⟩ := z3 (of_decide_eq_false h0)
      refine q_ret (e_tup (a_cons (e_slX (e_var rfl (h1.same s1)) o_none o_int (sz (Nat.le_trans z4 (by decide)))) (a_cons (e_gt (e_lenX (e_var rfl (h1.same s1)) (sz (Nat.le_trans z4 (by decide)))) e_int) a_nil)) (sz (by show 2 ≤ 100000; decide))) fun u H2 s2 hu => q u H2 (s1.trans s2) ?_
      unfold srcD
      rw [← y1, ← y2]
      exact hu
theorem e_maxS {m : Mo} {σ : L2.St} {H : Hp} {i : Nat} {l : Addr} {is : List Int} (hb : σ[i]? = some (some (.ref l))) (hl : Li K m H l (is.map Dt.int)) (hp : 0 < is.length) : TPk.E K m (tCB (rMax K) (tCons (tVar i) tNil)) σ H (oD (bst true is)) := fun H1 g Q q => ⟨_, hb, by
  obtain ⟨xs, hq, hi⟩ := (hl.go g).sq
  rw [isAll_ints hi] at hq
  refine ⟨l, is, rfl, hq, hp, fun m h1 h2 => ?_⟩
  have e : bst true is = some m := bst_of h1 fun y hy => by unfold better; rw [if_pos rfl]; exact h2 y hy
  exact q _ _ _ g.again (.int m) (by rw [e]; rfl)⟩
theorem e_minS {m : Mo} {σ : L2.St} {H : Hp} {i : Nat} {l : Addr} {is : List Int} (hb : σ[i]? = some (some (.ref l))) (hl : Li K m H l (is.map Dt.int)) (hp : 0 < is.length) : TPk.E K m (tCB (rMin K) (tCons (tVar i) tNil)) σ H (oD (bst false is)) := fun H1 g Q q => ⟨_, hb, by
  obtain ⟨xs, hq, hi⟩ := (hl.go g).sq
  rw [isAll_ints hi] at hq
  refine ⟨l, is, rfl, hq, hp, fun m h1 h2 => ?_⟩
  have e : bst false is = some m := bst_of h1 fun y hy => by unfold better; rw [if_neg Bool.false_ne_true]; exact h2 y hy
  exact q _ _ _ g.again (.int m) (by rw [e]; rfl)⟩
/-- the best of a list -/
def spBest (K : PySem.W.Frag) : Sp := fun vs H Q _ => ∃ (g : Bool) (p : Addr) (os : List (Option Int)), vs = [.str (sdT g), .ref p] ∧ Ow K H p (os.map oD) ∧ os.length ≤ 100000 ∧ ∀ v H', Same H H' → Is K H' (oD (bst g (os.filterMap id))) v → Q v H'
theorem filter_oD (os : List (Option Int)) : ((os.map oD).filter fun d => !d.isN).map id = (os.filterMap id).map Dt.int := by
  induction os with
  | nil => rfl
  | cons x xs ih =>
    cases x with
    | none => exact ih
    | some i => exact congrArg (Dt.int i :: ·) ih
theorem ints_sf (is : List Int) : (is.map Dt.int).all Dt.sf = true := by
  rw [List.all_map]
  exact List.all_eq_true.mpr fun x _ => rfl
theorem c_best_of (T : Fx K mg) : C8.Cal P w K mg base 1 "best_of" (spBest K) [] := by
  obtain ⟨fd, F⟩ := T.D.def_ 8
  refine ⟨_, fd, ["side", "values"], [], ok0 F sc_best_of (fun vs H Q Er h => ?_) (fun cdv Ar outer sh H vs Q Er hr h => ?_), T.m_best_of, F.kp, F.bindsN (fun kV doc pm an cdv ct us hl => match us, hl with | [_, _], _ => rfl), .nil⟩
  · obtain ⟨g, p, os, rfl, hO, hz, q⟩ := h
    rfl
  · obtain ⟨g, p, os, rfl, hO, hz, q⟩ := h
    refine ⟨_, (pss_cons (ps_setLcF (i := 2) (own := [("value", 3)]) rfl sc_best_of.nd rfl rfl (sw_true rfl rfl rfl (by decide +kernel)) (pi_list (pv 1)) (blkOk_by (by kernel_rfl)) (fun _ _ _ _ _ => (pg_name (i := 3) sc_best_of.nd rfl (by first | exact Or.inl rfl | exact Or.inr rfl))) (fun _ _ _ _ _ => (pts_one (pt_cmpR op_notN (pv 3) pe_non (nomark _)))) (fun _ _ _ _ _ => (pv 3)))
    (pss_cons (ps_if (pt_cmpR (op_eqD hr.units) (pv 2) (pe_lst pa_nil) (nomark _)) (pss_one (ps_ret pe_non)) pss_nil)
    (pss_one (ps_ret (pe_ifExp (pt_cmpR op_eq (pv 0) pe_str (nomark _)) (pe_callB (cr_max rfl) rfl T.f_max (by decide +kernel) (pa_cons (pv 2) pa_nil)) (pe_callB (cr_min rfl) rfl T.f_min (by decide +kernel) (pa_cons (pv 2) pa_nil))))))), ?_⟩
    refine k_setL (K := K) ((l_flt (f := id) (p := fun d => !d.isN) (i_listS rfl hO.li fun z => z) (by rw [List.length_map]; exact sz hz) (fun i d x H1 hd g hx => t_test (e_notN (e_var rfl hx))) (fun i d x H1 hd hp g hx => e_var rfl hx)).cast (filter_oD os)) fun l H1 nl s1 hL => ?_
    refine k_ite (t_test (e_nilS rfl hL.li (ints_sf _))) (fun h0 H2 s2 => ?_) (fun h0 H2 s2 => ?_)
    · have e : os.filterMap id = [] := by simpa using h0
      refine q_ret (e_non (K := K)) fun v H3 s3 hv => q v H3 ((s1.trans s2).trans s3) ?_
      rw [e]
      exact hv
    · have hne : os.filterMap id ≠ [] := fun e => by rw [e] at h0; cases h0
      have hpos : 0 < (os.filterMap id).length := List.length_pos_iff.mpr hne
      have hL2 := hL.same s2
      have hg : ∀ g, decide ((Dt.str (sdT g)).fv = (Dt.str "greatest").fv) = g := by decide +kernel
      refine q_ret (e_if ((t_test (K := K) (e_eq (e_var (d := .str (sdT g)) rfl (.str _)) e_str rfl rfl rfl)).cast (hg g)) (fun e => ?_) (fun e => ?_)) fun v H3 s3 hv => q v H3 ((s1.trans s2).trans s3) hv
      · subst e; exact e_maxS rfl hL2.li hpos
      · subst e; exact e_minS rfl hL2.li hpos
end
end TPk
end F3_text

section F4_text
set_option Elab.async false
set_option linter.all false
set_option maxRecDepth 100000
set_option maxHeartbeats 4000000
/-! Walks: a statistic; what reads it. -/
namespace TPk
open PySem PySem.Spec PyProof.Rows L2
theorem sc_start_nodes : FnScope ["statistic", "at", "begun"] ["statistic"] (defScope s_start_nodes) := ⟨rfl, rfl, rfl, by decide +kernel, rfl, by decide +kernel, by decide +kernel⟩
theorem sc_marks_meant : FnScope ["side", "mark", "natural"] ["side", "mark", "natural"] (defScope s_marks_meant) := ⟨rfl, rfl, rfl, by decide +kernel, rfl, by decide +kernel, by decide +kernel⟩
theorem sc_has_result : FnScope ["statistic", "nodes", "slot"] ["statistic", "nodes"] (defScope s_has_result) := ⟨rfl, rfl, rfl, by decide +kernel, rfl, by decide +kernel, by decide +kernel⟩
theorem sc_pairs_of : FnScope ["statistic", "kind", "mark"] ["statistic"] (defScope s_pairs_of) := ⟨rfl, rfl, rfl, by decide +kernel, rfl, by decide +kernel, by decide +kernel⟩
theorem sc_read_out : FnScope ["side", "result", "held", "slot"] ["side", "result", "held"] (defScope s_read_out) := ⟨rfl, rfl, rfl, by decide +kernel, rfl, by decide +kernel, by decide +kernel⟩
section
variable {K : PySem.W.Frag} {m : Mo} {σ : L2.St} {H : Hp} {te ta tb : TE} {ds es : List Dt} {X : Addr → Prop}
/-! ### zip of two tuples -/
theorem zip_at {ds es : List Dt} {i : Nat} {d e : Dt} (h1 : ds[i]? = some d) (h2 : es[i]? = some e) : ((ds.zip es).map fun p => Dt.tup [p.1, p.2])[i]? = some (.tup [d, e]) := by
  rw [List.getElem?_map, List.getElem?_zip_eq_some.mpr (show ds[i]? = some (d, e).1 ∧ es[i]? = some (d, e).2 from ⟨h1, h2⟩)]
  rfl
theorem src_zipT {a b : Addr} : Src K (RZ.ItzT K a b) ((ds.zip es).map fun p => Dt.tup [p.1, p.2]) (fun H => Is K H (.tup ds) (.ref a) ∧ Is K H (.tup es) (.ref b)) := by
  refine ⟨⟨fun i H hi h => ?_, fun H h => ?_, fun i H x H' hi h y => ?_⟩⟩
  · obtain ⟨p, xs, e, hq, hI⟩ := h.1.inv
    cases e
    obtain ⟨p, ys, e, hq', hI'⟩ := h.2.inv
    cases e
    rw [List.length_map, List.length_zip] at hi
    have h1 : i < xs.length := by rw [← hI.length]; omega
    have h2 : i < ys.length := by rw [← hI'.length]; omega
    exact ⟨xs, ys, xs[i], ys[i], hq, hq', List.getElem?_eq_getElem _, List.getElem?_eq_getElem _⟩
  · obtain ⟨p, xs, e, hq, hI⟩ := h.1.inv
    cases e
    obtain ⟨p, ys, e, hq', hI'⟩ := h.2.inv
    cases e
    refine ⟨xs, ys, hq, hq', ?_⟩
    rw [List.length_map, List.length_zip, hI.length, hI'.length]
    omega
  · obtain ⟨p, xs, e, hq, hI⟩ := h.1.inv
    cases e
    obtain ⟨p, ys, e, hq', hI'⟩ := h.2.inv
    cases e
    obtain ⟨TT, u, v, rfl, hn, rfl, h1, h2⟩ := y
    obtain ⟨d, hd, hdv⟩ := hI.getV (h1 xs hq)
    obtain ⟨e, he, hev⟩ := hI'.getV (h2 ys hq')
    exact ⟨same_new hn, _, zip_at hd he, is_new hn (.cons hdv (.cons hev .nil))⟩
theorem i_zipT (h : AE K m (tCons ta (tCons tb tNil)) σ H [.tup ds, .tup es]) : I K m X (iZipK K false (tCons ta (tCons tb tNil))) σ H ((ds.zip es).map fun p => Dt.tup [p.1, p.2]) := fun H1 g R q => AE.go h g fun vs H2 g2 hx => by
  obtain ⟨v, w, rfl, h1, h2⟩ := hx.inv2
  obtain ⟨p, xs, rfl, hq, hi⟩ := h1.inv
  obtain ⟨p', ys, rfl, hq', hi'⟩ := h2.inv
  refine ⟨p, p', xs, ys, rfl, hq, hq', ?_⟩
  rw [if_neg Bool.false_ne_true]
  exact q _ _ H2 g2 src_zipT ⟨h1, h2⟩ fun H3 g3 => ⟨h1.tk g3.tk, h2.tk g3.tk⟩
/-! ### a statistic as an object -/
def rn (j : Nat) : Dt := .str (rt j)
def kindsD (s : Stt Str) : Dt := strsD s.kinds
def startD (bs : List Bool) : Dt := .tup (bs.map fun b => if b = true then .int 0 else .non)
def rowD (t : List Nat) : Dt := .tup (t.map fun c => .str (tt c))
def ruleD (r : List (List Nat)) : Dt := .tup (r.map rowD)
def rulesD (rs : List (List (List Nat))) : Dt := .tup (rs.map ruleD)
def endsD (es : List Nat) : Dt := .tup (es.map rn)
def clsA (K : PySem.W.Frag) (g : Bool) : Addr := if g = true then He.ga K "Greatest" else He.ga K "Least"
def StatAt (K : PySem.W.Frag) (H : Hp) (a : Addr) (s : Stt Str) : Prop := ∃ dx k st ru en, H a = some (.ins (clsA K s.side) dx [("kinds", k), ("start", st), ("rules", ru), ("ends", en)]) ∧ Is K H (kindsD s) k ∧ Is K H (startD s.start) st ∧ Is K H (rulesD s.rules) ru ∧ Is K H (endsD s.ends) en
theorem StatAt.tk {H' : Hp} {a : Addr} {s : Stt Str} (h : StatAt K H a s) (e : TK H H') : StatAt K H' a s := by
  obtain ⟨dx, k, st, ru, en, h0, h1, h2, h3, h4⟩ := h
  exact ⟨dx, k, st, ru, en, e _ _ h0 True.intro, h1.tk e, h2.tk e, h3.tk e, h4.tk e⟩
theorem StatAt.same {H' : Hp} {a : Addr} {s : Stt Str} (h : StatAt K H a s) (e : Same H H') : StatAt K H' a s := h.tk (Same.tk e)
theorem StatAt.go {H' : Hp} {a : Addr} {s : Stt Str} (h : StatAt K H a s) (e : Go m H H') : StatAt K H' a s := h.tk e.tk
section
variable {mg : Str → Option Value} (T : Fx K mg) {a : Addr} {s : Stt Str}
include T
theorem cls_g (g : Bool) : Cls K (clsA K g) ∧ NoAttr K (clsA K g) "kinds" ∧ NoAttr K (clsA K g) "start" ∧ NoAttr K (clsA K g) "rules" ∧ NoAttr K (clsA K g) "ends" ∧ ∃ u, Con K (clsA K g) "SIDE" (.str (sdT g)) u := by
  cases g with
  | true => exact ⟨T.cls_Greatest, T.no_Greatest_kinds, T.no_Greatest_start, T.no_Greatest_rules, T.no_Greatest_ends, T.con_g⟩
  | false => exact ⟨T.cls_Least, T.no_Least_kinds, T.no_Least_start, T.no_Least_rules, T.no_Least_ends, T.con_l⟩
theorem e_kinds (h : E K m te σ H (.adr a)) (hs : StatAt K H a s) : E K m (tFld K te "kinds") σ H (kindsD s) := fun H1 g Q q => h.go g fun v H2 g2 hv => by
  obtain ⟨dx, k, st, ru, en, h0, h1, h2, h3, h4⟩ := hs.go (g.trans g2)
  exact ⟨a, _, dx, _, k, hv.adr_inv, h0, (cls_g T s.side).1, (cls_g T s.side).2.1, rfl, q _ _ H2 g2 h1 rfl⟩
theorem e_start (h : E K m te σ H (.adr a)) (hs : StatAt K H a s) : E K m (tFld K te "start") σ H (startD s.start) := fun H1 g Q q => h.go g fun v H2 g2 hv => by
  obtain ⟨dx, k, st, ru, en, h0, h1, h2, h3, h4⟩ := hs.go (g.trans g2)
  exact ⟨a, _, dx, _, st, hv.adr_inv, h0, (cls_g T s.side).1, (cls_g T s.side).2.2.1, rfl, q _ _ H2 g2 h2 rfl⟩
theorem e_rules (h : E K m te σ H (.adr a)) (hs : StatAt K H a s) : E K m (tFld K te "rules") σ H (rulesD s.rules) := fun H1 g Q q => h.go g fun v H2 g2 hv => by
  obtain ⟨dx, k, st, ru, en, h0, h1, h2, h3, h4⟩ := hs.go (g.trans g2)
  exact ⟨a, _, dx, _, ru, hv.adr_inv, h0, (cls_g T s.side).1, (cls_g T s.side).2.2.2.1, rfl, q _ _ H2 g2 h3 rfl⟩
theorem e_ends (h : E K m te σ H (.adr a)) (hs : StatAt K H a s) : E K m (tFld K te "ends") σ H (endsD s.ends) := fun H1 g Q q => h.go g fun v H2 g2 hv => by
  obtain ⟨dx, k, st, ru, en, h0, h1, h2, h3, h4⟩ := hs.go (g.trans g2)
  exact ⟨a, _, dx, _, en, hv.adr_inv, h0, (cls_g T s.side).1, (cls_g T s.side).2.2.2.2.1, rfl, q _ _ H2 g2 h4 rfl⟩
theorem e_side (h : E K m te σ H (.adr a)) (hs : StatAt K H a s) : E K m (tCon K te "SIDE") σ H (.str (sdT s.side)) := fun H1 g Q q => h.go g fun v H2 g2 hv => by
  obtain ⟨dx, k, st, ru, en, h0, h1, h2, h3, h4⟩ := hs.go (g.trans g2)
  obtain ⟨u, hu⟩ := (cls_g T s.side).2.2.2.2.2
  exact ⟨a, _, dx, _, .str (sdT s.side), u, hv.adr_inv, h0, (cls_g T s.side).1, hu, rfl, q _ _ H2 g2 (.str _) rfl⟩
end
end
def nodesD (S : List Nat) : Dt := strsD (S.map nt)
section
variable {P : Program} {w : World} {K : PySem.W.Frag} {mg : Str → Option Value} {base : Heap}
theorem rt_nt : ∀ j, j < 6 → rt j = nt (j + 1) ∧ (rt j).length = 2 := by decide +kernel
theorem filter_zip (bs : List Bool) : (((bs.map fun b => if b = true then Dt.int 0 else Dt.non).zipIdx.map fun q => Dt.tup [.int (q.2 : Nat), q.1]).filter fun d => match d with | .tup [_, x] => !x.isN | _ => false) = ((List.range bs.length).filter fun j => bs.getD j false).map fun (j : Nat) => Dt.tup [.int (j : Nat), .int 0] := by
  suffices h : ∀ (n : Nat), ((((bs.map fun b => if b = true then Dt.int 0 else Dt.non).zipIdx n).map fun q => Dt.tup [.int (q.2 : Nat), q.1]).filter fun d => match d with | .tup [_, x] => !x.isN | _ => false) = ((List.range bs.length).filter fun j => bs.getD j false).map fun (j : Nat) => Dt.tup [.int ((n + j : Nat) : Int), .int 0] by
    have := h 0
    simpa using this
  induction bs with
  | nil => intro n; rfl
  | cons b bs ih =>
    intro n
    rw [List.map_cons, List.zipIdx_cons, List.map_cons, List.length_cons, List.range_succ_eq_map, List.filter_cons, List.filter_cons, ih (n + 1)]
    have e : (((List.range bs.length).map Nat.succ).filter fun j => (b :: bs).getD j false) = ((List.range bs.length).filter fun j => bs.getD j false).map Nat.succ := by
      rw [List.filter_map]
      rfl
    rw [e]
    cases b with
    | true =>
      show Dt.tup [.int (n : Nat), .int 0] :: _ = Dt.tup [.int ((n + 0 : Nat) : Int), .int 0] :: _
      rw [List.map_map]
      refine congrArg _ (List.map_congr_left fun j _ => ?_)
      show Dt.tup [.int ((n + 1 + j : Nat) : Int), .int 0] = Dt.tup [.int ((n + (j + 1) : Nat) : Int), .int 0]
      rw [show n + 1 + j = n + (j + 1) by omega]
    | false =>
      show _ = List.map _ (List.map Nat.succ _)
      rw [List.map_map]
      refine List.map_congr_left fun j _ => ?_
      show Dt.tup [.int ((n + 1 + j : Nat) : Int), .int 0] = Dt.tup [.int ((n + (j + 1) : Nat) : Int), .int 0]
      rw [show n + 1 + j = n + (j + 1) by omega]
def R_start_nodes (K : PySem.W.Frag) : Hp → List Dt → Dt → Prop := fun H ds d => ∃ a s, ds = [.adr a] ∧ StatAt K H a s ∧ s.start.length ≤ 6 ∧ d = nodesD s.st0
theorem c_start_nodes (T : Fx K mg) : C8.Cal P w K mg base 1 "start_nodes" (Pu K (R_start_nodes K)) [] := by
  obtain ⟨fd, F⟩ := T.D.def_ 9
  refine ⟨_, fd, ["statistic"], [], ok0 F sc_start_nodes (fun vs H Q Er h => ?_) (fun cdv Ar outer sh H vs Q Er hr h => ?_), T.m_start_nodes, F.kp, F.bindsN (fun kV doc pm an cdv ct us hl => match us, hl with | [_], _ => rfl), .nil⟩
  · obtain ⟨ds, d, hI, ⟨a, s, rfl, hs, hn, rfl⟩, q⟩ := h
    exact hI.length.symm
  · obtain ⟨ds, d, hI, ⟨a, s, rfl, hs, hn, rfl⟩, q⟩ := h
    obtain ⟨v, rfl, h1⟩ := hI.inv1
    refine ⟨_, (pss_one (ps_ret (pe_tup (pa_cons pe_str (pa_starQ (pe_lcF (own := [("at", 1), ("begun", 2)]) rfl sc_start_nodes.nd (pi_enumT rfl T.f_enumerate (pa_cons (pe_fld (pv 0) rfl) pa_nil)) (blkOk_by (by kernel_rfl)) (fun _ _ _ _ _ => (pg_tup rfl (pgs_cons (pg_name (i := 1) sc_start_nodes.nd rfl (by first | exact Or.inl rfl | exact Or.inr rfl)) (pgs_cons (pg_name (i := 2) sc_start_nodes.nd rfl (by first | exact Or.inl rfl | exact Or.inr rfl)) pgs_nil)))) (fun _ _ _ _ _ => (pts_one (pt_cmpR op_notN (pv 2) pe_non (nomark _)))) (fun _ _ _ _ _ => (pe_ix ix_tup (C8.pe_gc rfl T.g_REGISTERS) (pv 1) (fun _ _ => rfl)))) pa_nil))))), ?_⟩
    have hlen : ∀ x ∈ (List.map (fun (q : Dt × Nat) => Dt.tup [Dt.int (q.2 : Nat), q.1]) ((s.start.map fun b => if b = true then Dt.int 0 else Dt.non).zipIdx)), ∃ a b : Dt, x = .tup [a, b] := fun x hx => by
      obtain ⟨z, _, rfl⟩ := List.mem_map.mp hx
      exact ⟨_, _, rfl⟩
    have hsz : (List.map (fun (q : Dt × Nat) => Dt.tup [Dt.int (q.2 : Nat), q.1]) ((s.start.map fun b => if b = true then Dt.int 0 else Dt.non).zipIdx)).length ≤ 100000 := by
      rw [List.length_map, List.length_zipIdx, List.length_map]; omega
    have hat : ∀ (i : Nat) (a b : Dt), (List.map (fun (q : Dt × Nat) => Dt.tup [Dt.int (q.2 : Nat), q.1]) ((s.start.map fun b => if b = true then Dt.int 0 else Dt.non).zipIdx))[i]? = some (Dt.tup [a, b]) → i < s.start.length ∧ a = .int (i : Nat) := fun i a b hd => by
      rw [List.getElem?_map, List.getElem?_zipIdx, List.getElem?_map] at hd
      cases hh : s.start[i]? with
      | none => rw [hh] at hd; cases hd
      | some e =>
        rw [hh] at hd
        have : a = .int ((0 + i : Nat) : Int) := by
          have z := Option.some.inj hd
          injection z with z
          injection z with z1 z2
          exact z1.symm
        exact ⟨(List.getElem?_eq_some_iff.mp hh).1, by rw [this, Nat.zero_add]⟩
    refine q_ret (d := nodesD s.st0) (E.cast (e_tup (a_cons e_str (a_starL (l_flt2 (f := fun d => match d with | .tup [.int i, _] => .str (rt i.toNat) | _ => .non) (p := fun d => match d with | .tup [_, x] => !x.isN | _ => false) (i_enumT (e_start T (e_var rfl h1) hs)) (sz hsz) hlen (fun i a b x y H1 hd g ha hb => t_test (e_notN (e_var rfl hb))) (fun i a b x y H1 hd hp g ha hb => ?_)) a_nil)) ?_) ?_) q
    · obtain ⟨hi, rfl⟩ := hat i a b hd
      refine e_ixT (e_regs T) (e_var rfl ha) (atD ?_)
      have h6 : i < RT.length := Nat.lt_of_lt_of_le hi hn
      rw [List.getElem?_map, List.getElem?_eq_getElem h6]
      simp only [Int.toNat_natCast]
      unfold rt
      rw [List.getD_eq_getElem?_getD, List.getElem?_eq_getElem h6]
      rfl
    · rw [filter_zip]
      simp only [List.length_append, List.length_map, List.length_cons, List.length_nil]
      have := List.length_filter_le (fun j => s.start.getD j false) (List.range s.start.length)
      rw [List.length_range] at this
      exact sz (by omega)
    · rw [filter_zip, List.append_nil]
      unfold nodesD strsD Stt.st0
      rw [List.map_map, List.map_cons, List.map_map, List.map_cons, List.map_map]
      refine congrArg Dt.tup (congrArg (Dt.str "0" :: ·) (List.map_congr_left fun j hj => ?_))
      have h6 : j < 6 := Nat.lt_of_lt_of_le (List.mem_range.mp (List.mem_filter.mp hj).1) hn
      show Dt.str (rt (Int.toNat (j : Int))) = Dt.str (nt (j + 1))
      rw [Int.toNat_natCast, (rt_nt j h6).1]
/-! ### marks -/
def marksOf (g nat mark : Bool) : List Bool := if (nat && (mark == !g)) = true then [false, true] else [mark]
def marksD (l : List Bool) : Dt := .tup (l.map Dt.bl)
theorem in_marks : ∀ g nat mark t, inV (V.bl t) (((marksOf g nat mark).map Dt.bl).map Dt.fv) = inM g nat mark t := by decide +kernel
def R_marks_meant : Hp → List Dt → Dt → Prop := fun _ ds d => ∃ g mark nat, ds = [.str (sdT g), .bl mark, .bl nat] ∧ d = marksD (marksOf g nat mark)
theorem c_marks_meant (T : Fx K mg) : C8.Cal P w K mg base 1 "marks_meant" (Pu K R_marks_meant) [] := by
  obtain ⟨fd, F⟩ := T.D.def_ 10
  refine ⟨_, fd, ["side", "mark", "natural"], [], ok0 F sc_marks_meant (fun vs H Q Er h => ?_) (fun cdv Ar outer sh H vs Q Er hr h => ?_), T.m_marks_meant, F.kp, F.bindsN (fun kV doc pm an cdv ct us hl => match us, hl with | [_, _, _], _ => rfl), .nil⟩
  · obtain ⟨ds, d, hI, ⟨g, mark, nat, rfl, rfl⟩, q⟩ := h
    exact hI.length.symm
  · obtain ⟨ds, d, hI, ⟨g, mark, nat, rfl, rfl⟩, q⟩ := h
    obtain ⟨v1, v2, v3, rfl, h1, h2, h3⟩ := hI.inv3
    refine ⟨_, (pss_cons (ps_if (PW.pt (pw_and (pt_val (pv 2)) (pw_and1 (pt_cmpR op_eq (pv 1) (pe_cmpR op_eq (pv 0) pe_str (nomark _)) (nomark _))))) (pss_one (ps_ret (pe_tup (pa_cons pe_bl (pa_cons pe_bl pa_nil))))) pss_nil)
    (pss_one (ps_ret (pe_tup (pa_cons (pv 1) pa_nil))))), ?_⟩
    have hg : ∀ (g mark : Bool), decide ((Dt.bl mark).fv = (Dt.bl (decide ((Dt.str (sdT g)).fv = (Dt.str "least").fv))).fv) = (mark == !g) := by decide +kernel
    refine k_ite (t_and (t_B (e_var rfl h3)) fun _ => (t_test (e_eq (e_var rfl h2) (e_eq (e_var rfl h1) e_str rfl rfl rfl) rfl rfl rfl)).cast (hg g mark)) (fun h0 H1 s1 => ?_) (fun h0 H1 s1 => ?_)
    · refine q_ret (K := K) (e_tup (a_cons e_bl (a_cons e_bl a_nil)) (sz (by show 2 ≤ 100000; decide))) fun u H2 s2 hu => q u H2 (s1.trans s2) ?_
      unfold marksOf
      rw [if_pos h0]
      exact hu
    · refine q_ret (e_tup (a_cons (e_var rfl (h2.same s1)) a_nil) (sz (by show 1 ≤ 100000; decide))) fun u H2 s2 hu => q u H2 (s1.trans s2) ?_
      unfold marksOf
      rw [if_neg (by rw [h0]; exact Bool.false_ne_true)]
      exact hu
/-! ### results -/
theorem nt_inj : ∀ a, a < 7 → ∀ b, b < 7 → nt a = nt b → a = b := by decide +kernel
theorem in_nodes {S : List Nat} {n : Nat} (hS : ∀ x ∈ S, x < 7) (hn : n < 7) : inV (V.str (nt n)) (((S.map nt).map Dt.str).map Dt.fv) = decide (n ∈ S) := by
  rw [inV_str]
  by_cases h : n ∈ S
  · rw [decide_eq_true h, decide_eq_true (List.mem_map.mpr ⟨n, h, rfl⟩)]
  · rw [decide_eq_false h, decide_eq_false]
    intro z
    obtain ⟨x, hx, e⟩ := List.mem_map.mp z
    rw [nt_inj x (hS x hx) n hn e] at hx
    exact h hx
def R_has_result (K : PySem.W.Frag) : Hp → List Dt → Dt → Prop := fun H ds d => ∃ a s S, ds = [.adr a, nodesD S] ∧ StatAt K H a s ∧ s.ends.length ≤ 1000 ∧ (∀ e ∈ s.ends, e < 6) ∧ (∀ x ∈ S, x < 7) ∧ d = .bl (s.acc S)
theorem c_has_result (T : Fx K mg) : C8.Cal P w K mg base 1 "has_result" (Pu K (R_has_result K)) [] := by
  obtain ⟨fd, F⟩ := T.D.def_ 12
  refine ⟨_, fd, ["statistic", "nodes"], [], ok0 F sc_has_result (fun vs H Q Er h => ?_) (fun cdv Ar outer sh H vs Q Er hr h => ?_), T.m_has_result, F.kp, F.bindsN (fun kV doc pm an cdv ct us hl => match us, hl with | [_, _], _ => rfl), .nil⟩
  · obtain ⟨ds, d, hI, ⟨a, s, S, rfl, hs, hz, he, hS, rfl⟩, q⟩ := h
    exact hI.length.symm
  · obtain ⟨ds, d, hI, ⟨a, s, S, rfl, hs, hz, he, hS, rfl⟩, q⟩ := h
    obtain ⟨v, k, rfl, h1, h2⟩ := hI.inv2
    refine ⟨_, (pss_one (ps_ret (pe_callB (cr_any rfl) rfl T.f_any (by decide +kernel) (pa_cons (pe_lcF (own := [("slot", 2)]) rfl sc_has_result.nd (pi_tup (pe_fld (pv 0) rfl)) (blkOk_by (by kernel_rfl)) (fun _ _ _ _ _ => (pg_name (i := 2) sc_has_result.nd rfl (by first | exact Or.inl rfl | exact Or.inr rfl))) (fun _ _ _ _ _ => pts_nil) (fun _ _ _ _ _ => (pe_cmpR op_in_seq (pv 2) (pv 1) rfl))) pa_nil)))), ?_⟩
    refine q_ret (E.cast (e_any (bs := s.ends.map fun e => decide (e + 1 ∈ S)) ((l_map (f := fun d => match d with | .str x => .bl (inV (V.str x) (((S.map nt).map Dt.str).map Dt.fv)) | _ => .non) (i_tup (e_ends T (e_var rfl h1) hs)) ?_ fun i d x H1 hd g hx => ?_).cast ?_)) ?_) q
    · rw [List.length_map]
      exact sz (by omega)
    · rw [List.getElem?_map] at hd
      cases hh : s.ends[i]? with
      | none => rw [hh] at hd; cases hd
      | some e =>
        rw [hh] at hd
        cases hd
        exact e_in (neg := false) (e_var rfl hx) (e_var rfl (h2.go g)) rfl (strs_fl _)
    · refine List.map_map.trans ((List.map_congr_left fun e hm => ?_).trans List.map_map.symm)
      show Dt.bl (inV (V.str (rt e)) _) = Dt.bl (decide (e + 1 ∈ S))
      rw [(rt_nt e (he e hm)).1, in_nodes hS (by have := he e hm; omega)]
    · unfold Stt.acc
      rw [List.any_map]
      rfl
end
end TPk
end F4_text

section F5_text
set_option Elab.async false
set_option linter.all false
set_option maxRecDepth 100000
set_option maxHeartbeats 4000000
/-! Walks: pairs, steps, results. -/
namespace TPk
open PySem PySem.Spec PyProof.Rows L2
theorem sc_stepped : FnScope ["side", "rule", "row", "amount", "held", "found", "terms", "values", "source", "taken", "slot", "content", "term"] ["side", "rule", "row", "amount"] (defScope s_stepped) := ⟨rfl, rfl, rfl, by decide +kernel, rfl, by decide +kernel, by decide +kernel⟩
section
variable {P : Program} {w : World} {K : PySem.W.Frag} {mg : Str → Option Value} {base : Heap} {m : Mo} {σ : L2.St} {H : Hp} {ta tl : TE}
def lettersD (ks : List Str) : List Dt := (letters ks).map fun p => .tup [.str p.1, .bl p.2]
def R_pairs_of (K : PySem.W.Frag) : Hp → List Dt → List Dt → Prop := fun H ds es => ∃ a s, ds = [.adr a] ∧ StatAt K H a s ∧ s.kinds.length ≤ 1000 ∧ es = lettersD s.kinds
theorem c_pairs_of (T : Fx K mg) : C8.Cal P w K mg base 1 "pairs_of" (Pl K (R_pairs_of K)) [] := by
  obtain ⟨fd, F⟩ := T.D.def_ 13
  refine ⟨_, fd, ["statistic"], [], ok0 F sc_pairs_of (fun vs H Q Er h => ?_) (fun cdv Ar outer sh H vs Q Er hr h => ?_), T.m_pairs_of, F.kp, F.bindsN (fun kV doc pm an cdv ct us hl => match us, hl with | [_], _ => rfl), .nil⟩
  · obtain ⟨ds, d, hI, ⟨a, s, rfl, hs, hz, rfl⟩, q⟩ := h
    exact hI.length.symm
  · obtain ⟨ds, d, hI, ⟨a, s, rfl, hs, hz, rfl⟩, q⟩ := h
    obtain ⟨v, rfl, h1⟩ := hI.inv1
    refine ⟨_, (pss_one (ps_ret (pe_lc2F (vs1 := [2]) (own := [("kind", 1), ("mark", 2)]) rfl sc_pairs_of.nd (pi_tup (pe_fld (pv 0) rfl)) (blkOk_by (by kernel_rfl)) (by decide) (fun _ _ _ _ _ => (pg_name (i := 1) sc_pairs_of.nd rfl (by first | exact Or.inl rfl | exact Or.inr rfl))) (fun _ _ _ _ _ => pts_nil) (fun _ _ _ _ _ => (pi_tup (pe_tup (pa_cons pe_bl (pa_cons pe_bl pa_nil))))) (fun _ _ _ _ _ => (pg_name (i := 2) sc_pairs_of.nd rfl (by first | exact Or.inl rfl | exact Or.inr rfl))) (fun _ _ _ _ _ => pts_nil) (fun _ _ _ _ _ => (pe_tup (pa_cons (pv 1) (pa_cons (pv 2) pa_nil))))))), ?_⟩
    refine LE.use0 ((l_map22 (S1 := [.bl false, .bl true]) (f := fun a b => .tup [a, b]) (by decide) (i_tup (e_kinds T (e_var rfl h1) hs)) ?_ (fun i d x H1 X hd g hx => i_tup (e_tup (a_cons e_bl (a_cons e_bl a_nil)) (sz (by show 2 ≤ 100000; decide)))) (fun i j d e x y H1 hd he g hx hy => e_tup (a_cons (e_var rfl hx) (a_cons (e_var rfl hy) a_nil)) (sz (by show 2 ≤ 100000; decide)))).cast ?_) q
    · rw [List.length_map]
      show s.kinds.length * 2 + 2 ≤ 100000
      omega
    · unfold lettersD letters
      induction s.kinds with
      | nil => rfl
      | cons k ks ih =>
        rw [List.map_cons, List.flatMap_cons, List.flatMap_cons, List.map_append, ih]
        rfl
/-! ### the best of a new list, of a list in a slot -/
theorem e_best {g : Bool} {os : List (Option Int)} {Er : XK} (ha : E K m ta σ H (.str (sdT g))) (hl : LE K m tl σ H (os.map oD)) (hz : os.length ≤ 100000) : E K m (tCall (spBest K) [] Er (tCons ta (tCons tl tNil))) σ H (oD (bst g (os.filterMap id))) := fun H1 g1 Q q =>
  ha.go g1 fun v H2 g2 hv => hl.go (g1.trans g2) fun l H3 nl g3 hL => ⟨g, l, os, by rw [hv.str_inv]; rfl, hL.ow, hz, fun u H4 s4 hu => q u _ H4 ((g2.trans g3).same s4) hu rfl⟩
theorem e_bestS {i : Nat} {l : Addr} {g : Bool} {os : List (Option Int)} {Er : XK} (ha : E K m ta σ H (.str (sdT g))) (hb : σ[i]? = some (some (.ref l))) (hl : Li K m H l (os.map oD)) (hz : os.length ≤ 100000) : E K m (tCall (spBest K) [] Er (tCons ta (tCons (tVar i) tNil))) σ H (oD (bst g (os.filterMap id))) := fun H1 g1 Q q =>
  ha.go g1 fun v H2 g2 hv => ⟨_, hb, ⟨g, l, os, by rw [hv.str_inv]; rfl, (hl.go (g1.trans g2)).ow, hz, fun u H4 s4 hu => q u _ H4 (g2.same s4) hu rfl⟩⟩
theorem e_intX {x : Str} {n : Int} (h : E K m ta σ H (.str x)) (hn : PySem.intText? x = some n) (hl : x.length ≤ 640) : E K m (tCB (fun xs H Q => ∃ a n, xs = [.str a] ∧ PySem.intText? a = some n ∧ a.length ≤ 640 ∧ Q (.int n) H) (tCons ta tNil)) σ H (.int n) := fun H1 g Q q =>
  h.go g fun v H2 g2 hv => ⟨x, n, by rw [hv.str_inv], hn, hl, q _ _ H2 g2 (.int _) rfl⟩
theorem rt_int : ∀ j, j < 6 → PySem.intText? (cutS (rt j) (some 1) none) = some (j : Int) ∧ (cutS (rt j) (some 1) none).length ≤ 640 ∧ (rt j).length ≤ 100 := by decide +kernel
def rowOD (row : List (Option Int)) : Dt := .tup (row.map oD)
def R_read_out : Hp → List Dt → Dt → Prop := fun _ ds d => ∃ g es row, ds = [.str (sdT g), endsD es, rowOD row] ∧ es.length ≤ 1000 ∧ row.length ≤ 6 ∧ (∀ e ∈ es, e < row.length) ∧ d = oD (rd g es row)
theorem c_read_out (T : Fx K mg) : C8.Cal P w K mg base 2 "read_out" (Pu K R_read_out) [] := by
  have c_best_of := c_best_of (P := P) (w := w) (base := base) T
  obtain ⟨fd, F⟩ := T.D.def_ 15
  refine ⟨_, fd, ["side", "result", "held"], [], ok0 F sc_read_out (fun vs H Q Er h => ?_) (fun cdv Ar outer sh H vs Q Er hr h => ?_), T.m_read_out, F.kp, F.bindsN (fun kV doc pm an cdv ct us hl => match us, hl with | [_, _, _], _ => rfl), .nil⟩
  · obtain ⟨ds, d, hI, ⟨g, es, row, rfl, hz, hr6, he, rfl⟩, q⟩ := h
    exact hI.length.symm
  · obtain ⟨ds, d, hI, ⟨g, es, row, rfl, hz, hr6, he, rfl⟩, q⟩ := h
    obtain ⟨v1, v2, v3, rfl, h1, h2, h3⟩ := hI.inv3
    refine ⟨_, (pss_one (ps_ret (C8.pe_c c_best_of hr (by decide) rfl (pa_cons (pv 0) (pa_cons (pe_lcF (own := [("slot", 3)]) rfl sc_read_out.nd (pi_tup (pv 1)) (blkOk_by (by kernel_rfl)) (fun _ _ _ _ _ => (pg_name (i := 3) sc_read_out.nd rfl (by first | exact Or.inl rfl | exact Or.inr rfl))) (fun _ _ _ _ _ => pts_nil) (fun _ _ _ _ _ => (pe_ix ix_tup (pv 2) (pe_callTy call_int_str rfl T.f_int (by decide +kernel) (pa_cons (pe_slice sl_str (pv 3) (po_some pe_int) po_none) pa_nil)) (fun _ _ => rfl)))) pa_nil))))), ?_⟩
    refine q_ret (E.cast (e_best (os := es.map fun e => row.getD e none) (e_var rfl h1) ((l_map (f := fun d => match d with | .str x => oD (row.getD ((PySem.intText? (cutS x (some 1) none)).getD 0).toNat none) | _ => .non) (i_tup (e_var rfl h2)) (by rw [List.length_map]; exact sz (by omega)) fun i d x H1 hd g hx => ?_).cast ?_) (by rw [List.length_map]; omega)) ?_) q
    · rw [List.getElem?_map] at hd
      cases hh : es[i]? with
      | none => rw [hh] at hd; cases hd
      | some e =>
        rw [hh] at hd
        cases hd
        have h6 := he e (List.mem_of_getElem? hh)
        obtain ⟨z1, z2, z3⟩ := rt_int e (by omega)
        refine e_ixT (e_var rfl (h3.go g)) (e_intX (e_slX (e_var rfl hx) o_int o_none (sz (by omega))) z1 z2) (atD ?_)
        rw [List.getElem?_map, List.getElem?_eq_getElem h6]
        show some (oD row[e]) = some (oD (row.getD ((PySem.intText? (cutS (rt e) (some 1) none)).getD 0).toNat none))
        rw [z1]
        show some (oD row[e]) = some (oD (row.getD e none))
        rw [List.getD_eq_getElem?_getD, List.getElem?_eq_getElem h6]
        rfl
    · refine List.map_map.trans ((List.map_congr_left fun e hm => ?_).trans List.map_map.symm)
      have h6 := he e hm
      obtain ⟨z1, z2, z3⟩ := rt_int e (by omega)
      show oD (row.getD ((PySem.intText? (cutS (rt e) (some 1) none)).getD 0).toNat none) = oD (row.getD e none)
      rw [z1]
      rfl
    · unfold rd
      rw [List.filterMap_map]
      rfl
/-! ### a step -/
def heldK (row : List (Option Int)) : List (Key × V) := mergeK [(.inr "0", .int 0)] (((RT.map Dt.str).zip (row.map oD)).map (fun p => Dt.tup [p.1, p.2]) |>.foldl stepK [])
theorem heldK_at : ∀ (row : List (Option Int)), row.length ≤ 6 → ∀ n, n ≤ row.length → valV (heldK row) (.inr (nt n)) = some (oD (held row n)).fv := by
  intro row h n hn
  match row, h with
  | [], _ => match n, hn with | 0, _ => kernel_rfl
  | [a], _ => match n, hn with | 0, _ => kernel_rfl | 1, _ => kernel_rfl
  | [a, b], _ => match n, hn with | 0, _ => kernel_rfl | 1, _ => kernel_rfl | 2, _ => kernel_rfl
  | [a, b, c], _ => match n, hn with | 0, _ => kernel_rfl | 1, _ => kernel_rfl | 2, _ => kernel_rfl | 3, _ => kernel_rfl
  | [a, b, c, d], _ => match n, hn with | 0, _ => kernel_rfl | 1, _ => kernel_rfl | 2, _ => kernel_rfl | 3, _ => kernel_rfl | 4, _ => kernel_rfl
  | [a, b, c, d, e], _ => match n, hn with | 0, _ => kernel_rfl | 1, _ => kernel_rfl | 2, _ => kernel_rfl | 3, _ => kernel_rfl | 4, _ => kernel_rfl | 5, _ => kernel_rfl
  | [a, b, c, d, e, f], _ => match n, hn with | 0, _ => kernel_rfl | 1, _ => kernel_rfl | 2, _ => kernel_rfl | 3, _ => kernel_rfl | 4, _ => kernel_rfl | 5, _ => kernel_rfl | 6, _ => kernel_rfl
theorem tt_ix : ∀ c, c < 14 → TT.idxOf (tt c) = c := by decide +kernel
theorem k_held {i k n : Nat} {k0 : Str} {v0 : V} {d0 : Dt} {wi : TI} {S : List Dt} {w : TS} {D : Ends} (hv : ∀ H, Is K H d0 v0) (hi : ∀ H1, Same H H1 → I K m0 (fun _ => False) wi σ H1 S) (hS : S.length ≤ 1000) (hp : ∀ d ∈ S, ∃ (k : Str) (v : Dt), d = .tup [.str k, v] ∧ v.fl = true)
    (e1 : ∀ x y, (((wipe σ [k, n]).set k (some x)).set n (some y))[k]? = some (some x)) (e2 : ∀ x y, (((wipe σ [k, n]).set k (some x)).set n (some y))[n]? = some (some y))
    (q : ∀ p H1, H p = none → Same H H1 → H1 p = some (.dK (mergeK [(.inr k0, v0)] (S.foldl stepK []))) → w D (σ.set i (some (.ref p))) H1) :
    tSeq (tAsg (tOp rOrD (tDisp [(tC (.str k0), tC v0)]) (tDc wi (gTup K 2 (gCons (gName k) (gCons (gName n) gNil))) tYes (tVar k) (tVar n) [k, n])) (gName i)) w D σ H := by
  show tDisp [(tC (.str k0), tC v0)] σ H (fun x H1 => tDc wi (gTup K 2 (gCons (gName k) (gCons (gName n) gNil))) tYes (tVar k) (tVar n) [k, n] σ H1 fun y H2 => rOrD x y H2 fun z H3 => w D (σ.set i (some z)) H3)
  refine d_disp1 (K := K) (m := m0) hv H (.refl True.intro) fun p H1 np g1 hp1 => ?_
  refine d_dc (m := m0) (hi H1 g1.to0) (by omega) hp e1 e2 H1 g1.again fun p2 H2 np2 g2 hp2 => ?_
  refine ⟨p, p2, _, _, rfl, rfl, g2.to0 _ _ hp1, hp2, ?_, fun p3 np3 => ?_⟩
  · have := stepK_len S
    exact sz (by simp only [List.length_cons, List.length_nil]; omega)
  · exact q p3 _ (g1.free (g2.free np3)) ((g1.trans g2).new np3).to0 upd_same
theorem oD_fv (o : Option Int) : ∀ H, Is K H (oD o) (oD o).fv := fun H => by cases o <;> first | exact .non | exact .int _
theorem stp_snoc (g : Bool) (rule : List (List Nat)) (row : List (Option Int)) (a : Int) (i : Nat) (ts : List Nat) (h : rule[i]? = some ts) : stp g (rule.take (i + 1)) row a = stp g (rule.take i) row a ++ [bst g (valsOf row ts a)] := by
  unfold stp
  rw [List.take_add_one, h, List.map_append]
  rfl
theorem valsOf_snoc (row : List (Option Int)) (ts : List Nat) (a : Int) (j c : Nat) (h : ts[j]? = some c) : valsOf row (ts.take (j + 1)) a = valsOf row (ts.take j) a ++ (match held row (src c) with | none => [] | some v => [if tak c = true then v + a else v]) := by
  unfold valsOf
  rw [List.take_add_one, h, List.filterMap_append]
  cases e : held row (src c) with
  | none => simp [e]
  | some v => simp [e]
theorem valsOf_len (row : List (Option Int)) (ts : List Nat) (a : Int) : (valsOf row ts a).length ≤ ts.length := List.length_filterMap_le _ _
def R_stepped : Hp → List Dt → Dt → Prop := fun _ ds d => ∃ g rule row a, ds = [.str (sdT g), ruleD rule, rowOD row, .int a] ∧ rule.length ≤ 6 ∧ row.length ≤ 6 ∧ (∀ ts ∈ rule, ts.length ≤ 1000 ∧ ∀ c ∈ ts, c < 14 ∧ src c ≤ row.length) ∧ d = rowOD (stp g rule row a)
theorem c_stepped (T : Fx K mg) : C8.Cal P w K mg base 2 "stepped" (Pu K R_stepped) [] := by
  have c_best_of := c_best_of (P := P) (w := w) (base := base) T
  have c_source_of := c_source_of (P := P) (w := w) (base := base) T
  obtain ⟨fd, F⟩ := T.D.def_ 14
  refine ⟨_, fd, ["side", "rule", "row", "amount"], [], ok0 F sc_stepped (fun vs H Q Er h => ?_) (fun cdv Ar outer sh H vs Q Er hr h => ?_), T.m_stepped, F.kp, F.bindsN (fun kV doc pm an cdv ct us hl => match us, hl with | [_, _, _, _], _ => rfl), .nil⟩
  · obtain ⟨ds, d, hI, ⟨g, rule, row, a, rfl, hr6, hw6, hts, rfl⟩, q⟩ := h
    exact hI.length.symm
  · obtain ⟨ds, d, hI, ⟨g, rule, row, a, rfl, hr6, hw6, hts, rfl⟩, q⟩ := h
    obtain ⟨v1, v2, v3, v4, rfl, h1, h2, h3, h4⟩ := hI.inv4
    refine ⟨_, (pss_cons (ps_set (i := 4) sc_stepped.nd rfl (Or.inl rfl) (pe_op op_or_dict (pe_disp (pps_cons pe_str pe_int pps_nil) (by rfl) (by rfl) (fun z => by cases z) (by decide)) (pe_dcF (own := [("slot", 10), ("content", 11)]) rfl sc_stepped.nd (pi_zipK rfl T.f_zip (pa_cons (C8.pe_gc rfl T.g_REGISTERS) (pa_cons (pv 2) pa_nil))) (blkOk_by (by kernel_rfl)) (fun _ _ _ _ _ => (pg_tup rfl (pgs_cons (pg_name (i := 10) sc_stepped.nd rfl (Or.inl rfl)) (pgs_cons (pg_name (i := 11) sc_stepped.nd rfl (Or.inl rfl)) pgs_nil)))) (fun _ _ _ _ _ => pts_nil) (fun _ _ _ _ _ => (pv 10)) (fun _ _ _ _ _ => (pv 11)))))
    (pss_cons (ps_set (i := 5) sc_stepped.nd rfl (Or.inl rfl) (pe_lst pa_nil))
    (pss_cons (ps_for PassesOwn.never rfl (pi_tup (pv 1)) (pg_name (i := 6) sc_stepped.nd rfl (Or.inl rfl)) (pss_cons (ps_set (i := 7) sc_stepped.nd rfl (Or.inl rfl) (pe_lst pa_nil))
    (pss_cons (ps_for PassesOwn.never rfl (pi_list (pe_lcF (own := [("term", 12)]) rfl sc_stepped.nd (pi_tup (pv 6)) (blkOk_by (by kernel_rfl)) (fun _ _ _ _ _ => (pg_name (i := 12) sc_stepped.nd rfl (by first | exact Or.inl rfl | exact Or.inr rfl))) (fun _ _ _ _ _ => pts_nil) (fun _ _ _ _ _ => (C8.pe_c c_source_of hr (by decide) rfl (pa_cons (pv 12) pa_nil))))) (pg_tup rfl (pgs_cons (pg_name (i := 8) sc_stepped.nd rfl (Or.inl rfl)) (pgs_cons (pg_name (i := 9) sc_stepped.nd rfl (Or.inl rfl)) pgs_nil))) (pss_one (ps_if (pt_cmpR op_notN (pe_dget (hu_of hr) (pv 4) (pv 8) (fun _ _ => rfl)) pe_non (nomark _)) (pss_one (ps_expr (pe_bm PySem.F.plainAttrs_list PySem.F.slot_list_append PySem.F.type_list_append mt_append (pv 7) (pa_cons (pe_ifExp (pt_val (pv 9)) (pe_op op_add (pe_dget (hu_of hr) (pv 4) (pv 8) (fun _ _ => rfl)) (pv 3)) (pe_dget (hu_of hr) (pv 4) (pv 8) (fun _ _ => rfl))) pa_nil)))) pss_nil)))
    (pss_one (ps_expr (pe_bm PySem.F.plainAttrs_list PySem.F.slot_list_append PySem.F.type_list_append mt_append (pv 5) (pa_cons (C8.pe_c c_best_of hr (by decide) rfl (pa_cons (pv 0) (pa_cons (pv 7) pa_nil))) pa_nil)))))))
    (pss_one (ps_ret (pe_callTy call_tuple_of rfl T.f_tuple (by decide +kernel) (pa_cons (pv 5) pa_nil))))))), ?_⟩
    refine k_held (K := K) (d0 := .int 0) (fun H => .int 0) (fun H1 s1 => i_zipT (a_cons (e_regs T) (a_cons (e_var rfl (h3.same s1)) a_nil))) ?_ ?_ (fun x y => rfl) (fun x y => rfl) fun p3 H3 np3 sH eH => ?_
    · rw [List.length_map, List.length_zip, List.length_map, List.length_map]
      exact Nat.le_trans (Nat.min_le_left _ _) (by decide)
    · intro x hx
      obtain ⟨⟨z1, z2⟩, hz, rfl⟩ := List.mem_map.mp hx
      obtain ⟨y1, y2⟩ := List.of_mem_zip hz
      obtain ⟨k, _, rfl⟩ := List.mem_map.mp y1
      obtain ⟨o, _, rfl⟩ := List.mem_map.mp y2
      exact ⟨k, oD o, rfl, by cases o <;> rfl⟩
    have eH : H3 p3 = some (.dK (heldK row)) := eH
    refine k_setL (K := K) (l_lst a_nil (Nat.zero_le _)) fun l H4 nl s4 hO => ?_
    have hlp : p3 ≠ l := ne_of_none eH nl
    refine k_forO (m := m0) not0 True.intro hO (i_tup (e_var rfl ((h2.same sH).same s4)))
      (fun i σ' H' => (∃ y6 y7 y8 y9, σ' = [some v1, some v2, some v3, some v4, some (.ref p3), some (.ref l), y6, y7, y8, y9, none, none, none]) ∧ H' p3 = some (.dK (heldK row)) ∧ Ow K H' l ((stp g (rule.take i) row a).map oD))
      (fun B gB hB => ⟨⟨_, _, _, _, rfl⟩, gB.to0 _ _ (s4 _ _ eH), hB⟩) (fun B i d x σ' H5 H6 gB hd g5 pv s56 hx => ?_) (fun B σ' H5 gB g5 pv => ?_)
    · obtain ⟨⟨y6, y7, y8, y9, rfl⟩, hp5, hO5⟩ := pv
      obtain ⟨ts, ht, rfl⟩ : ∃ ts, rule[i]? = some ts ∧ d = rowD ts := by
        rw [List.getElem?_map] at hd
        cases hh : rule[i]? with
        | none => rw [hh] at hd; cases hd
        | some ts => rw [hh] at hd; cases hd; exact ⟨ts, rfl, rfl⟩
      obtain ⟨hl1, hc⟩ := hts ts (List.mem_of_getElem? ht)
      have hi6 : i < 6 := Nat.lt_of_lt_of_le (List.getElem?_eq_some_iff.mp ht).1 hr6
      have sB6 : ∀ {d v}, Is K H d v → Is K H6 d v := fun hh => (((hh.same (sH.trans (s4.trans gB.to0))).go g5).same s56)
      have hp6 := s56 _ _ hp5
      have hO6 := hO5.same s56
      refine k_setL (K := K) (l_lst a_nil (Nat.zero_le _)) fun l2 H7 nl2 s7 hO7 => ?_
      have hpl2 : p3 ≠ l2 := ne_of_none hp6 nl2
      have hl2l : l ≠ l2 := by
        obtain ⟨us, e, _⟩ := hO6
        exact ne_of_none e nl2
      refine k_forO (m := m0) (S := ts.map srcD) not0 True.intro hO7 (i_list ((l_map (f := fun d => match d with | .str z => srcD (TT.idxOf z) | _ => .non) (i_tup (e_var (i := 6) rfl (hx.same s7))) (by rw [List.length_map]; exact sz (by omega)) fun j d y H8 hd8 g8 hy => ?_).cast ?_) fun b e => by subst e; obtain ⟨us, e, _⟩ := hO7; rw [e]; exact fun z => nomatch z)
        (fun j σ' H' => (∃ y8 y9, σ' = [some v1, some v2, some v3, some v4, some (.ref p3), some (.ref l), some x, some (.ref l2), y8, y9, none, none, none]) ∧ Ow K H' l2 ((valsOf row (ts.take j) a).map Dt.int))
        (fun B2 gB2 hB2 => ⟨⟨_, _, rfl⟩, hB2⟩) (fun B2 j d x2 σ' H8 H9 gB2 hd2 g8 pv2 s89 hx2 => ?_) (fun B2 σ' H8 gB2 g8 pv2 => ?_)
      · rw [List.getElem?_map] at hd8
        cases hh : ts[j]? with
        | none => rw [hh] at hd8; cases hd8
        | some c =>
          rw [hh] at hd8
          cases hd8
          have hc14 := (hc c (List.mem_of_getElem? hh)).1
          refine e_call (a_cons (e_var (i := 12) rfl hy) a_nil) fun H9 g9 => ⟨c, hc14, rfl, ?_⟩
          show srcD (TT.idxOf (tt c)) = srcD c
          rw [tt_ix c hc14]
      · refine List.map_map.trans (List.map_congr_left fun c hm => ?_)
        show srcD (TT.idxOf (tt c)) = srcD c
        rw [tt_ix c (hc c hm).1]
      · obtain ⟨⟨y8, y9, rfl⟩, hO8⟩ := pv2
        obtain ⟨c, hcj, rfl⟩ : ∃ c, ts[j]? = some c ∧ d = srcD c := by
          rw [List.getElem?_map] at hd2
          cases hh : ts[j]? with
          | none => rw [hh] at hd2; cases hd2
          | some c => rw [hh] at hd2; cases hd2; exact ⟨c, rfl, rfl⟩
        obtain ⟨hc14, hcr⟩ := hc c (List.mem_of_getElem? hcj)
        refine g_two hx2 fun u1 u2 hu1 hu2 => ?_
        have hp9 : H9 p3 = some (.dK (heldK row)) := s89 _ _ (g8.1 _ _ ((s7.trans gB2.to0) _ _ hp6) fun z => (z.elim (fun y => y) hpl2).elim)
        have eg : ∀ H', Same H9 H' → E K m0 (tDGet (tVar 4) (tVar 8)) _ H' (oD (held row (src c))) := fun H' s' => e_getK (i := 4) (σ := [some v1, some v2, some v3, some v4, some (.ref p3), some (.ref l), some x, some (.ref l2), some u1, some u2, none, none, none]) rfl (s' _ _ hp9) not0 (e_var rfl (hu1.same s')) (heldK_at row hw6 (src c) hcr) (oD_fv _)
        refine q_ite (t_test (e_notN (eg H9 (.refl _)))) (fun h0 H10 s10 => ?_) (fun h0 H10 s10 => ?_)
        · cases hh : held row (src c) with
          | none => rw [hh] at h0; cases h0
          | some v =>
            rw [hh] at eg
            have hval := valsOf_snoc row ts a j c hcj
            rw [hh] at hval
            refine q_app (m := m0) (d := .int (if tak c = true then v + a else v)) not0 rfl ((hO8.same s89).same s10) True.intro (e_if (t_B (e_var rfl (hu2.same s10))) (fun e => ?_) (fun e => ?_)) ?_ fun H11 g11 hO11 => ?_
            · rw [if_pos e]
              exact e_add (eg H10 s10) (e_var rfl ((((sB6 h4).same (s7.trans gB2.to0)).go g8).same (s89.trans s10)))
            · rw [if_neg (by rw [e]; exact Bool.false_ne_true)]
              exact eg H10 s10
            · rw [List.length_map]
              have := valsOf_len row (ts.take j) a
              rw [List.length_take] at this
              exact Nat.lt_of_lt_of_le (show _ < 100000 by omega) (by decide)
            · refine ⟨((g8.same s89).same s10).trans g11, ⟨_, _, rfl⟩, ?_⟩
              rw [hval, List.map_append]
              exact hO11
        · have hval := valsOf_snoc row ts a j c hcj
          cases hh : held row (src c) with
          | some v => rw [hh] at h0; cases h0
          | none =>
            rw [hh, List.append_nil] at hval
            refine ⟨(g8.same s89).same s10, ⟨_, _, rfl⟩, ?_⟩
            rw [hval]
            exact (hO8.same s89).same s10
      · obtain ⟨⟨y8', y9', rfl⟩, hO8⟩ := pv2
        have s68 : Same H6 H8 := Go.dropS (s7.trans gB2.to0) nl2 g8
        rw [List.length_map, List.take_length] at hO8
        have e1 : (valsOf row ts a).map Dt.int = ((valsOf row ts a).map some).map oD := by rw [List.map_map]; rfl
        have e2 : ((valsOf row ts a).map some).filterMap id = valsOf row ts a := by rw [List.filterMap_map]; simp
        refine q_app (m := m0) (d := oD (bst g (valsOf row ts a))) not0 rfl (hO6.same s68) True.intro ((e_bestS (e_var rfl ((sB6 h1).same s68)) rfl (by rw [← e1]; exact hO8.li) ?_).cast (by rw [e2])) ?_ fun H11 g11 hO11 => ?_
        · rw [List.length_map]
          have := valsOf_len row ts a
          omega
        · rw [List.length_map]
          unfold stp
          rw [List.length_map, List.length_take]
          exact Nat.lt_of_lt_of_le (show _ < 100000 by omega) (by decide)
        · refine ⟨((g5.same s56).same s68).trans g11, ⟨⟨_, _, _, _, rfl⟩, ?_, ?_⟩⟩
          · exact g11.1 _ _ (s68 _ _ hp6) fun z => (z.elim (fun y => y) hlp).elim
          · rw [stp_snoc g rule row a i ts ht, List.map_append]
            exact hO11
    · obtain ⟨⟨y6, y7, y8, y9, rfl⟩, hp5, hO5⟩ := pv
      have s5 : Same H H5 := Go.dropS ((sH.trans s4).trans gB.to0) (Same.free sH nl) g5
      rw [List.length_map, List.take_length] at hO5
      exact q_tupS rfl hO5 fun v H6 s6 hv => q v H6 (s5.trans s6) hv
end
end TPk
end F5_text

section F6_text
set_option Elab.async false
set_option linter.all false
set_option maxRecDepth 100000
set_option maxHeartbeats 4000000
/-! Walks: what a statistic is made of is checked. -/
namespace TPk
open PySem PySem.Spec PyProof.Rows L2
theorem sc_first_fall : FnScope ["value", "known", "index", "element"] ["value", "known"] (defScope s_first_fall) := ⟨rfl, rfl, rfl, by decide +kernel, rfl, by decide +kernel, by decide +kernel⟩
theorem sc_check_kinds : FnScope ["kinds", "wrong", "kind"] ["kinds"] (defScope s_check_kinds) := ⟨rfl, rfl, rfl, by decide +kernel, rfl, by decide +kernel, by decide +kernel⟩
theorem sc_check_start : FnScope ["start", "index", "begun"] ["start"] (defScope s_check_start) := ⟨rfl, rfl, rfl, by decide +kernel, rfl, by decide +kernel, by decide +kernel⟩
theorem sc_is_rule : FnScope ["value", "count", "known", "terms"] ["value", "count"] (defScope s_is_rule) := ⟨rfl, rfl, rfl, by decide +kernel, rfl, by decide +kernel, by decide +kernel⟩
theorem sc_check_rules : FnScope ["rules", "kinds", "count", "index", "rule"] ["rules", "kinds", "count"] (defScope s_check_rules) := ⟨rfl, rfl, rfl, by decide +kernel, rfl, by decide +kernel, by decide +kernel⟩
theorem sc_check_result : FnScope ["result", "count", "wrong"] ["result", "count"] (defScope s_check_result) := ⟨rfl, rfl, rfl, by decide +kernel, rfl, by decide +kernel, by decide +kernel⟩
def AscS (xs : List Str) : Prop := ∀ (i : Nat) (x y : Str), xs[i]? = some x → xs[i + 1]? = some y → x.cps.toList < y.cps.toList
section
variable {P : Program} {w : World} {K : PySem.W.Frag} {mg : Str → Option Value} {base : Heap} {m : Mo} {σ : L2.St} {H : Hp} {ta tb te : TE}
def spFF (K : PySem.W.Frag) : Sp := fun vs H Q _ => ∃ (v : V) (p : Addr) (xs ys : List Str), vs = [v, .ref p] ∧ Is K H (strsD xs) v ∧ (SqL K H p (ys.map V.str) ∨ SqT K H p (ys.map V.str)) ∧ AscS xs ∧ (∀ x ∈ xs, x ∈ ys) ∧ ∀ H', Same H H' → Q .non H'
theorem sqE {H' : Hp} {p : Addr} {xs : List V} (h : SqL K H p xs ∨ SqT K H p xs) (s : Same H H') : SqL K H' p xs ∨ SqT K H' p xs := h.elim (fun z => .inl (s.seq z)) fun z => .inr (sqT_tk (Same.tk s) z)
theorem inV_s (k : Str) (ks : List Str) : inV (V.str k) (ks.map V.str) = decide (k ∈ ks) := by
  have := inV_str k ks
  rw [List.map_map] at this
  exact this
theorem e_leS {x y : Str} (ha : E K m ta σ H (.str x)) (hb : E K m tb σ H (.str y)) : E K m (tOp (fun x y H Q => ∃ i j, x = .str i ∧ y = .str j ∧ Q (.bl (!decide (j.cps.toList < i.cps.toList))) H) ta tb) σ H (.bl (!decide (y.cps.toList < x.cps.toList))) :=
  e_op ha hb fun H1 v u g hv hu Q q => ⟨x, y, hv.str_inv, hu.str_inv, q _ H1 g.again (.bl _)⟩
/-- x in y, y a list or a tuple of texts in slot i -/
theorem e_inE {neg : Bool} {i : Nat} {p : Addr} {x : Str} {ys : List Str} (ha : E K m0 ta σ H (.str x)) (hb : σ[i]? = some (some (.ref p))) (hs : SqL K H p (ys.map V.str) ∨ SqT K H p (ys.map V.str)) :
    E K m0 (tOp (rIn K neg) ta (tVar i)) σ H (.bl (if neg = true then !decide (x ∈ ys) else decide (x ∈ ys))) := fun H1 g Q q => ha.go g fun v H2 g2 hv => ⟨_, hb, p, _, rfl, sqE hs (g.trans g2).to0, by rw [hv.str_inv]; rfl, by rw [List.all_map]; exact List.all_eq_true.mpr fun _ _ => rfl, by
    rw [hv.str_inv, inV_s]
    exact q (.bl (if neg = true then !decide (x ∈ ys) else decide (x ∈ ys))) _ H2 g2 (.bl _) rfl⟩
theorem zipIdx_at {ds : List Dt} {i : Nat} {d : Dt} (h : (ds.zipIdx.map fun (q : Dt × Nat) => Dt.tup [Dt.int (q.2 : Nat), q.1])[i]? = some d) : ∃ e, ds[i]? = some e ∧ d = .tup [.int (i : Nat), e] := by
  rw [List.getElem?_map, List.getElem?_zipIdx] at h
  cases hh : ds[i]? with
  | none => rw [hh] at h; cases h
  | some e => rw [hh] at h; cases h; exact ⟨e, rfl, by simp⟩
theorem c_first_fall (T : Fx K mg) : C8.Cal P w K mg base 1 "first_fall" (spFF K) [] := by
  obtain ⟨fd, F⟩ := T.D.def_ 16
  refine ⟨_, fd, ["value", "known"], [], ok0 F sc_first_fall (fun vs H Q Er h => ?_) (fun cdv Ar outer sh H vs Q Er hr h => ?_), T.m_first_fall, F.kp, F.bindsN (fun kV doc pm an cdv ct us hl => match us, hl with | [_, _], _ => rfl), .nil⟩
  · obtain ⟨v, p, xs, ys, rfl, _⟩ := h
    rfl
  · obtain ⟨v, p, xs, ys, rfl, h1, hq, ha, hm, q⟩ := h
    refine ⟨_, (pss_cons (ps_for PassesOwn.never rfl (pi_enumT rfl T.f_enumerate (pa_cons (pv 0) pa_nil)) (pg_tup rfl (pgs_cons (pg_name (i := 2) sc_first_fall.nd rfl (Or.inl rfl)) (pgs_cons (pg_name (i := 3) sc_first_fall.nd rfl (Or.inl rfl)) pgs_nil))) (pss_one (ps_if (PW.pt (pw_or (pt_not (pt_val (pe_callB call_isi rfl T.f_isinstance (by decide +kernel) (pa_cons (pv 3) (pa_cons (pe_bltn (v := .ty "str") rfl T.f_str (by decide +kernel) rfl) pa_nil))))) (pw_or (pt_cmpR op_notIn_seq (pv 3) (pv 1) rfl) (pw_or1 (PW.pt (pw_and (pt_cmpR op_gt (pv 2) pe_int (nomark _)) (pw_and1 (pt_cmpR op_le_str (pv 3) (pe_ix ix_tup (pv 0) (pe_op op_sub (pv 2) pe_int) (fun _ _ => rfl)) (nomark _))))))))) (pss_one (ps_ret (pv 2))) pss_nil)))
    (pss_one (ps_ret pe_non))), ?_⟩
    refine k_for (K := K) (i_enumT (e_var rfl h1)) (fun i σ' _ => ∃ y2 y3, σ' = [some v, some (.ref p), y2, y3]) (fun B _ => ⟨_, _, rfl⟩) (fun B i d x σ' H2 H3 hd sA sB pv s23 hx => ?_) (fun B σ' H2 sA sB pv => ?_)
    · obtain ⟨y2, y3, rfl⟩ := pv
      obtain ⟨e, he, rfl⟩ := zipIdx_at hd
      rw [List.getElem?_map] at he
      cases hh : xs[i]? with
      | none => rw [hh] at he; cases he
      | some z =>
        rw [hh] at he
        cases he
        refine g_two hx fun a b ha' hb => ?_
        have h1' := h1.same sA
        refine q_ite ((t_or (t_not (t_B (e_isi (e_var rfl hb) rfl (by decide +kernel : kitB "str" "str" = some true)))) fun _ => t_or (b := decide (0 < i) && !(if 0 < i then decide ((xs.getD (i - 1) z).cps.toList < z.cps.toList) else true)) (t_test (e_inE (neg := true) (e_var rfl hb) rfl (sqE hq sA))) fun _ => (t_and (b := !(if 0 < i then decide ((xs.getD (i - 1) z).cps.toList < z.cps.toList) else true)) (t_test (e_gt (e_var rfl ha') e_int)) fun h0 => ?_).cast ?_).cast (b := false) ?_) (fun h0 => nomatch h0) (fun _ H4 s4 => ?_)
        · have hi : 0 < i := by have := of_decide_eq_true h0; omega
          rw [if_pos hi]
          have hp : xs[i - 1]? = some (xs.getD (i - 1) z) := by
            have : i - 1 < xs.length := by have := (List.getElem?_eq_some_iff.mp hh).1; omega
            rw [List.getD_eq_getElem?_getD, List.getElem?_eq_getElem this]
            rfl
          refine t_test (e_leS (e_var rfl hb) (e_ixT (i := ((i - 1 : Nat) : Int)) (e_var rfl h1') ((e_sub (e_var rfl ha') e_int).cast ?_) (atD (by rw [List.getElem?_map, hp]; rfl))))
          congr 1
          omega
        · by_cases hi : 0 < i
          · rw [decide_eq_true hi, decide_eq_true (show (0 : Int) < (i : Int) by omega)]
          · rw [decide_eq_false hi, decide_eq_false (show ¬ (0 : Int) < (i : Int) by omega)]
        · rw [if_pos rfl, decide_eq_true (hm z (List.mem_of_getElem? hh))]
          by_cases hi : 0 < i
          · rw [if_pos hi, decide_eq_true hi]
            have hp : xs[i - 1]? = some (xs.getD (i - 1) z) := by
              have : i - 1 < xs.length := by have := (List.getElem?_eq_some_iff.mp hh).1; omega
              rw [List.getD_eq_getElem?_getD, List.getElem?_eq_getElem this]
              rfl
            have := ha (i - 1) _ z hp (by rw [Nat.sub_add_cancel hi]; exact hh)
            rw [decide_eq_true this]
            rfl
          · rw [decide_eq_false hi]
            rfl
        · exact ⟨sB.trans s4, a, b, rfl⟩
    · obtain ⟨y2, y3, rfl⟩ := pv
      exact q_ret (K := K) e_non fun v H3 s3 hv => by cases hv.non_inv; exact q H3 (sA.trans s3)
/-! ### what a statistic may be made of -/
structure RowOk (n : Nat) (t : List Nat) : Prop where
  asc : t.Pairwise (· < ·)
  inc : ∀ c ∈ t, c ∈ codes n
def RuleOk (n : Nat) (r : List (List Nat)) : Prop := r.length = n ∧ ∀ t ∈ r, RowOk n t
def KindsOk (ks : List Str) : Prop := 1 ≤ ks.length ∧ ks.length ≤ 4 ∧ (∀ k ∈ ks, KindOk k) ∧ AscS ks
def RulesOk (nk n : Nat) (rs : List (List (List Nat))) : Prop := rs.length = nk ∧ ∀ r ∈ rs, RuleOk n r
def EndsOk (n : Nat) (es : List Nat) : Prop := es ≠ [] ∧ es.Pairwise (· < ·) ∧ ∀ e ∈ es, e < n
structure SV (s : Stt Str) : Prop where
  kinds : KindsOk s.kinds
  start : 1 ≤ s.start.length ∧ s.start.length ≤ 6
  rules : RulesOk s.kinds.length s.start.length s.rules
  ends : EndsOk s.start.length s.ends
theorem codes_lt {n c : Nat} (h : c ∈ codes n) (hn : n ≤ 6) : c < 14 := by
  unfold codes at h
  rcases List.mem_append.mp h with h | h
  · have := List.mem_range.mp h; omega
  · have : c = 13 := by simpa using h
    omega
theorem pw_len {t : List Nat} {N : Nat} (h : t.Pairwise (· < ·)) (hl : ∀ c ∈ t, c < N) : t.length ≤ N := nodup_bound N t (h.imp (fun z => Nat.ne_of_lt z)) hl
theorem tt_asc : ∀ c, c < 14 → ∀ d, d < 14 → c < d → (tt c).cps.toList < (tt d).cps.toList := by decide +kernel
theorem rt_asc : ∀ c, c < 6 → ∀ d, d < 6 → c < d → (rt c).cps.toList < (rt d).cps.toList := by decide +kernel
theorem pw_next {t : List Nat} (h : t.Pairwise (· < ·)) {i a b : Nat} (h1 : t[i]? = some a) (h2 : t[i + 1]? = some b) : a < b := by
  obtain ⟨l1, e1⟩ := List.getElem?_eq_some_iff.mp h1
  obtain ⟨l2, e2⟩ := List.getElem?_eq_some_iff.mp h2
  have := List.pairwise_iff_getElem.mp h i (i + 1) l1 l2 (by omega)
  rw [e1, e2] at this
  exact this
theorem asc_tt {t : List Nat} (h : t.Pairwise (· < ·)) (hl : ∀ c ∈ t, c < 14) : AscS (t.map tt) := fun i x y h1 h2 => by
  rw [List.getElem?_map] at h1 h2
  cases e1 : t[i]? with
  | none => rw [e1] at h1; cases h1
  | some a =>
    cases e2 : t[i + 1]? with
    | none => rw [e2] at h2; cases h2
    | some b =>
      rw [e1] at h1
      rw [e2] at h2
      cases h1
      cases h2
      exact tt_asc a (hl a (List.mem_of_getElem? e1)) b (hl b (List.mem_of_getElem? e2)) (pw_next h e1 e2)
theorem asc_rt {t : List Nat} (h : t.Pairwise (· < ·)) (hl : ∀ c ∈ t, c < 6) : AscS (t.map rt) := fun i x y h1 h2 => by
  rw [List.getElem?_map] at h1 h2
  cases e1 : t[i]? with
  | none => rw [e1] at h1; cases h1
  | some a =>
    cases e2 : t[i + 1]? with
    | none => rw [e2] at h2; cases h2
    | some b =>
      rw [e1] at h1
      rw [e2] at h2
      cases h1
      cases h2
      exact rt_asc a (hl a (List.mem_of_getElem? e1)) b (hl b (List.mem_of_getElem? e2)) (pw_next h e1 e2)
/-- a call of first_fall: known a new list | in a slot -/
theorem e_ffL {xs ys : List Str} {Er : XK} (ha : E K m ta σ H (strsD xs)) (hl : LE K m tb σ H (ys.map Dt.str)) (h1 : AscS xs) (h2 : ∀ x ∈ xs, x ∈ ys) : E K m (tCall (spFF K) [] Er (tCons ta (tCons tb tNil))) σ H .non := fun H1 g Q q =>
  ha.go g fun v H2 g2 hv => hl.go (g.trans g2) fun l H3 nl g3 hL => by
    obtain ⟨us, hq, hi⟩ := hL.sq
    rw [isAll_strs hi] at hq
    exact ⟨v, l, xs, ys, rfl, hv.go g3, .inl hq, h1, h2, fun H4 s4 => q _ _ H4 ((g2.trans g3).same s4) .non rfl⟩
theorem e_ffS {i : Nat} {l : Addr} {xs ys : List Str} {Er : XK} (ha : E K m ta σ H (strsD xs)) (hb : σ[i]? = some (some (.ref l))) (hl : Li K m H l (ys.map Dt.str)) (h1 : AscS xs) (h2 : ∀ x ∈ xs, x ∈ ys) : E K m (tCall (spFF K) [] Er (tCons ta (tCons (tVar i) tNil))) σ H .non := fun H1 g Q q =>
  ha.go g fun v H2 g2 hv => ⟨_, hb, by
    obtain ⟨us, hq, hi⟩ := (hl.go (g.trans g2)).sq
    rw [isAll_strs hi] at hq
    exact ⟨v, l, xs, ys, rfl, hv, .inl hq, h1, h2, fun H4 s4 => q _ _ H4 (g2.same s4) .non rfl⟩⟩
theorem e_ffT {xs ys : List Str} {Er : XK} (ha : E K m ta σ H (strsD xs)) (hl : E K m tb σ H (strsD ys)) (h1 : AscS xs) (h2 : ∀ x ∈ xs, x ∈ ys) : E K m (tCall (spFF K) [] Er (tCons ta (tCons tb tNil))) σ H .non := fun H1 g Q q =>
  ha.go g fun v H2 g2 hv => hl.go (g.trans g2) fun u H3 g3 hu => by
    obtain ⟨l, rfl, hq⟩ := hu.strs
    exact ⟨v, l, xs, ys, rfl, hv.go g3, .inr hq, h1, h2, fun H4 s4 => q _ _ H4 ((g2.trans g3).same s4) .non rfl⟩
def R_check_kinds : Hp → List Dt → Dt → Prop := fun _ ds d => ∃ ks, ds = [strsD ks] ∧ KindsOk ks ∧ d = .non
theorem c_check_kinds (T : Fx K mg) : C8.Cal P w K mg base 2 "check_kinds" (Pu K R_check_kinds) [] := by
  have c_first_fall := c_first_fall (P := P) (w := w) (base := base) T
  have c_is_kind := c_is_kind (P := P) (w := w) (base := base) T
  obtain ⟨fd, F⟩ := T.D.def_ 17
  refine ⟨_, fd, ["kinds"], [], ok0 F sc_check_kinds (fun vs H Q Er h => ?_) (fun cdv Ar outer sh H vs Q Er hr h => ?_), T.m_check_kinds, F.kp, F.bindsN (fun kV doc pm an cdv ct us hl => match us, hl with | [_], _ => rfl), .nil⟩
  · obtain ⟨ds, d, hI, ⟨ks, rfl, hk, rfl⟩, q⟩ := h
    exact hI.length.symm
  · obtain ⟨ds, d, hI, ⟨ks, rfl, hk, rfl⟩, q⟩ := h
    obtain ⟨v, rfl, h1⟩ := hI.inv1
    refine ⟨_, (pss_cons (ps_if (PW.pt (pw_or (pt_not (pt_val (pe_callB call_isi rfl T.f_isinstance (by decide +kernel) (pa_cons (pv 0) (pa_cons (pe_bltn (v := .ty "tuple") rfl T.f_tuple (by decide +kernel) rfl) pa_nil))))) (pw_or1 (pt_not (pt_chain op_le op_le pe_int (pe_callB call_len_seq rfl T.f_len PySem.boot_len (pa_cons (pv 0) pa_nil)) (C8.pe_gc rfl T.g_MAX_KINDS)))))) (pss_one ps_never) pss_nil)
    (pss_cons (ps_set (i := 1) sc_check_kinds.nd rfl (Or.inl rfl) (C8.pe_c c_first_fall hr (by decide) rfl (pa_cons (pv 0) (pa_cons (pe_lcF (own := [("kind", 2)]) rfl sc_check_kinds.nd (pi_tup (pv 0)) (blkOk_by (by kernel_rfl)) (fun _ _ _ _ _ => (pg_name (i := 2) sc_check_kinds.nd rfl (by first | exact Or.inl rfl | exact Or.inr rfl))) (fun _ _ _ _ _ => (pts_one (pt_val (C8.pe_c c_is_kind hr (by decide) rfl (pa_cons (pv 2) pa_nil))))) (fun _ _ _ _ _ => (pv 2))) pa_nil))))
    (pss_one (ps_if (pt_cmpR op_notN (pv 1) pe_non (nomark _)) (pss_one ps_never) pss_nil)))), ?_⟩
    refine k_no ((t_or (t_not (t_B (e_isi (e_var rfl h1) rfl (by decide +kernel : kitB "tuple" "tuple" = some true)))) fun _ => t_not (t_chain e_int (e_lenT (e_var rfl h1)) e_int rfl rfl)).cast ?_) fun H1 s1 => ?_
    · rw [List.length_map]
      have := hk.1
      have := hk.2.1
      simp only [Bool.not_true, Bool.false_or, Bool.not_eq_false', Bool.and_eq_true, decide_eq_true_eq]
      omega
    refine k_set (e_ffL (e_var rfl (h1.same s1)) ((l_flt (f := id) (p := fun _ => true) (i_tup (e_var rfl (h1.same s1))) (by rw [List.length_map]; exact sz (by have := hk.2.1; omega)) (fun i d x H1 hd g hx => ?_) (fun i d x H1 hd hp g hx => e_var rfl hx)).cast (by rw [List.map_id]; exact List.filter_eq_self.mpr fun _ _ => rfl)) hk.2.2.2 fun x hx => hx) fun u H2 s2 hu => ?_
    · rw [List.getElem?_map] at hd
      cases hh : ks[i]? with
      | none => rw [hh] at hd; cases hd
      | some k =>
        rw [hh] at hd
        cases hd
        exact t_B (e_call (a_cons (e_var rfl hx) a_nil) fun H3 g3 => ⟨k, rfl, hk.2.2.1 k (List.mem_of_getElem? hh), rfl⟩)
    refine q_ifF (t_test (e_notN (e_var rfl hu))) fun H3 s3 => q _ H3 ((s1.trans s2).trans s3) .non
def R_check_start : Hp → List Dt → Dt → Prop := fun _ ds d => ∃ bs, ds = [startD bs] ∧ 1 ≤ bs.length ∧ bs.length ≤ 6 ∧ d = .non
theorem c_check_start (T : Fx K mg) : C8.Cal P w K mg base 2 "check_start" (Pu K R_check_start) [] := by
  have c_is_integer := c_is_integer (P := P) (w := w) (base := base) T
  obtain ⟨fd, F⟩ := T.D.def_ 18
  refine ⟨_, fd, ["start"], [], ok0 F sc_check_start (fun vs H Q Er h => ?_) (fun cdv Ar outer sh H vs Q Er hr h => ?_), T.m_check_start, F.kp, F.bindsN (fun kV doc pm an cdv ct us hl => match us, hl with | [_], _ => rfl), .nil⟩
  · obtain ⟨ds, d, hI, ⟨bs, rfl, hk, hk2, rfl⟩, q⟩ := h
    exact hI.length.symm
  · obtain ⟨ds, d, hI, ⟨bs, rfl, hk, hk2, rfl⟩, q⟩ := h
    obtain ⟨v, rfl, h1⟩ := hI.inv1
    refine ⟨_, (pss_cons (ps_if (PW.pt (pw_or (pt_not (pt_val (pe_callB call_isi rfl T.f_isinstance (by decide +kernel) (pa_cons (pv 0) (pa_cons (pe_bltn (v := .ty "tuple") rfl T.f_tuple (by decide +kernel) rfl) pa_nil))))) (pw_or1 (pt_not (pt_chain op_le op_le pe_int (pe_callB call_len_seq rfl T.f_len PySem.boot_len (pa_cons (pv 0) pa_nil)) (C8.pe_gc rfl T.g_MAX_REGISTERS)))))) (pss_one ps_never) pss_nil)
    (pss_one (ps_for PassesOwn.never rfl (pi_enumT rfl T.f_enumerate (pa_cons (pv 0) pa_nil)) (pg_tup rfl (pgs_cons (pg_name (i := 1) sc_check_start.nd rfl (Or.inl rfl)) (pgs_cons (pg_name (i := 2) sc_check_start.nd rfl (Or.inl rfl)) pgs_nil))) (pss_one (ps_if (PW.pt (pw_and (pt_cmpR op_notN (pv 2) pe_non (nomark _)) (pw_and1 (PW.pt (pw_or (pt_not (pt_val (C8.pe_c c_is_integer hr (by decide) rfl (pa_cons (pv 2) pa_nil)))) (pw_or1 (pt_cmpR op_ne (pv 2) pe_int (nomark _)))))))) (pss_one ps_never) pss_nil))))), ?_⟩
    refine k_no ((t_or (t_not (t_B (e_isi (e_var rfl h1) rfl (by decide +kernel : kitB "tuple" "tuple" = some true)))) fun _ => t_not (t_chain e_int (e_lenT (e_var rfl h1)) e_int rfl rfl)).cast ?_) fun H1 s1 => ?_
    · rw [List.length_map]
      simp only [Bool.not_true, Bool.false_or, Bool.not_eq_false', Bool.and_eq_true, decide_eq_true_eq]
      omega
    refine q_for (K := K) (i_enumT (e_var rfl (h1.same s1))) (fun i σ' _ => ∃ y2 y3, σ' = [some v, y2, y3]) (fun B _ => ⟨_, _, rfl⟩) (fun B i d x σ' H2 H3 hd sA sB pv s23 hx => ?_) (fun B σ' H2 sA sB pv => q _ H2 (s1.trans sA) .non)
    obtain ⟨y2, y3, rfl⟩ := pv
    obtain ⟨e, he, rfl⟩ := zipIdx_at hd
    refine g_two hx fun a b ha hb => ?_
    rw [List.getElem?_map] at he
    have he2 : e = .int 0 ∨ e = .non := by
      cases hh : bs[i]? with
      | none => rw [hh] at he; cases he
      | some z => rw [hh] at he; cases he; cases z <;> simp
    rcases he2 with rfl | rfl
    · exact q_ifF ((t_and (t_test (e_notN (e_var rfl hb))) fun _ => t_or (t_not (t_B (e_call (d := .bl true) (a_cons (e_var rfl hb) a_nil) fun H4 g4 => ⟨0, rfl, rfl⟩))) fun _ => t_test (e_ne (e_var rfl hb) e_int rfl rfl rfl)).cast (by rfl)) fun H4 s4 => ⟨sB.trans s4, _, _, rfl⟩
    · exact q_ifF (t_and (b := false) (t_test (e_notN (e_var rfl hb))) fun h0 => nomatch h0) fun H4 s4 => ⟨sB.trans s4, _, _, rfl⟩
def R_is_rule : Hp → List Dt → Dt → Prop := fun _ ds d => ∃ (r : List (List Nat)) (n : Nat), ds = [ruleD r, .int (n : Nat)] ∧ n ≤ 6 ∧ RuleOk n r ∧ d = .bl true
theorem row_ok {n : Nat} {t : List Nat} (h : RowOk n t) (hn : n ≤ 6) : (∀ c ∈ t, c < 14) ∧ t.length ≤ 14 ∧ AscS (t.map tt) := by
  have h1 : ∀ c ∈ t, c < 14 := fun c hc => codes_lt (h.inc c hc) hn
  exact ⟨h1, pw_len h.asc h1, asc_tt h.asc h1⟩
theorem rowD_strs (t : List Nat) : rowD t = strsD (t.map tt) := by
  unfold rowD strsD
  rw [List.map_map]
  rfl
theorem c_is_rule (T : Fx K mg) : C8.Cal P w K mg base 2 "is_rule" (Pu K R_is_rule) [] := by
  have c_first_fall := c_first_fall (P := P) (w := w) (base := base) T
  have c_terms_of := c_terms_of (P := P) (w := w) (base := base) T
  obtain ⟨fd, F⟩ := T.D.def_ 19
  refine ⟨_, fd, ["value", "count"], [], ok0 F sc_is_rule (fun vs H Q Er h => ?_) (fun cdv Ar outer sh H vs Q Er hr h => ?_), T.m_is_rule, F.kp, F.bindsN (fun kV doc pm an cdv ct us hl => match us, hl with | [_, _], _ => rfl), .nil⟩
  · obtain ⟨ds, d, hI, ⟨r, n, rfl, hn, hk, rfl⟩, q⟩ := h
    exact hI.length.symm
  · obtain ⟨ds, d, hI, ⟨r, n, rfl, hn, hk, rfl⟩, q⟩ := h
    obtain ⟨v, u, rfl, h1, h2⟩ := hI.inv2
    refine ⟨_, (pss_cons (ps_if (PW.pt (pw_or (pt_not (pt_val (pe_callB call_isi rfl T.f_isinstance (by decide +kernel) (pa_cons (pv 0) (pa_cons (pe_bltn (v := .ty "tuple") rfl T.f_tuple (by decide +kernel) rfl) pa_nil))))) (pw_or1 (pt_cmpR op_ne (pe_callB call_len_seq rfl T.f_len PySem.boot_len (pa_cons (pv 0) pa_nil)) (pv 1) (nomark _))))) (pss_one (ps_ret pe_bl)) pss_nil)
    (pss_cons (ps_set (i := 2) sc_is_rule.nd rfl (Or.inr rfl) (C8.pe_c c_terms_of hr (by decide) rfl (pa_cons (pv 1) pa_nil)))
    (pss_one (ps_ret (pe_callB (cr_all rfl) rfl T.f_all (by decide +kernel) (pa_cons (pe_lcF (own := [("terms", 3)]) rfl sc_is_rule.nd (pi_tup (pv 0)) (blkOk_by (by kernel_rfl)) (fun _ _ _ _ _ => (pg_name (i := 3) sc_is_rule.nd rfl (by first | exact Or.inl rfl | exact Or.inr rfl))) (fun _ _ _ _ _ => pts_nil) (fun _ _ _ _ _ => (pe_and (pe_callB call_isi rfl T.f_isinstance (by decide +kernel) (pa_cons (pv 3) (pa_cons (pe_bltn (v := .ty "tuple") rfl T.f_tuple (by decide +kernel) rfl) pa_nil))) (pe_one (pe_cmpR op_isN (C8.pe_c c_first_fall hr (by decide) rfl (pa_cons (pv 3) (pa_cons (pv 2) pa_nil))) pe_non (nomark _)))))) pa_nil)))))), ?_⟩
    refine k_no ((t_or (t_not (t_B (e_isi (e_var rfl h1) rfl (by decide +kernel : kitB "tuple" "tuple" = some true)))) fun _ => t_test (e_ne (e_lenT (e_var rfl h1)) (e_var rfl h2) rfl rfl rfl)).cast ?_) fun H1 s1 => ?_
    · rw [List.length_map, hk.1]
      simp
    refine k_setL (l_call (a_cons (e_var rfl (h2.same s1)) a_nil) fun H2 g2 => ⟨n, rfl, hn, rfl⟩) fun l H2 nl s2 hL => ?_
    have hL2 : Li K m0 H2 l (((codes n).map tt).map Dt.str) := by rw [List.map_map]; exact hL.li
    refine q_ret (E.cast (e_all (bs := r.map fun _ => true) ((l_map (f := fun _ => .bl true) (i_tup (e_var rfl ((h1.same s1).same s2))) (by rw [List.length_map, hk.1]; exact sz (by omega)) fun i d x H3 hd g hx => ?_).cast (by rw [List.map_map, List.map_map]; rfl))) ?_) fun z H3 s3 hz => q z H3 ((s1.trans s2).trans s3) hz
    · rw [List.getElem?_map] at hd
      cases hh : r[i]? with
      | none => rw [hh] at hd; cases hd
      | some t =>
        rw [hh] at hd
        cases hd
        have ht := hk.2 t (List.mem_of_getElem? hh)
        obtain ⟨z1, z2, z3⟩ := row_ok ht hn
        rw [rowD_strs] at hx
        exact e_and (e_isi (e_var rfl hx) rfl (by decide +kernel : kitB "tuple" "tuple" = some true)) fun _ => e_isN (e_ffS (e_var rfl hx) rfl (hL2.go g) z3 fun y hy => by
          obtain ⟨c, hc, rfl⟩ := List.mem_map.mp hy
          exact List.mem_map.mpr ⟨c, ht.inc c hc, rfl⟩)
    · congr 1
      rw [List.all_map]
      exact List.all_eq_true.mpr fun _ _ => rfl
def R_check_rules : Hp → List Dt → Dt → Prop := fun _ ds d => ∃ (rs : List (List (List Nat))) (ks : List Str) (n : Nat), ds = [rulesD rs, strsD ks, .int (n : Nat)] ∧ n ≤ 6 ∧ ks.length ≤ 4 ∧ RulesOk ks.length n rs ∧ d = .non
theorem c_check_rules (T : Fx K mg) : C8.Cal P w K mg base 3 "check_rules" (Pu K R_check_rules) [] := by
  have c_is_rule := c_is_rule (P := P) (w := w) (base := base) T
  obtain ⟨fd, F⟩ := T.D.def_ 20
  refine ⟨_, fd, ["rules", "kinds", "count"], [], ok0 F sc_check_rules (fun vs H Q Er h => ?_) (fun cdv Ar outer sh H vs Q Er hr h => ?_), T.m_check_rules, F.kp, F.bindsN (fun kV doc pm an cdv ct us hl => match us, hl with | [_, _, _], _ => rfl), .nil⟩
  · obtain ⟨ds, d, hI, ⟨rs, ks, n, rfl, hn, hk4, hk, rfl⟩, q⟩ := h
    exact hI.length.symm
  · obtain ⟨ds, d, hI, ⟨rs, ks, n, rfl, hn, hk4, hk, rfl⟩, q⟩ := h
    obtain ⟨v, u, x, rfl, h1, h2, h3⟩ := hI.inv3
    refine ⟨_, (pss_cons (ps_if (PW.pt (pw_or (pt_not (pt_val (pe_callB call_isi rfl T.f_isinstance (by decide +kernel) (pa_cons (pv 0) (pa_cons (pe_bltn (v := .ty "tuple") rfl T.f_tuple (by decide +kernel) rfl) pa_nil))))) (pw_or1 (pt_cmpR op_ne (pe_callB call_len_seq rfl T.f_len PySem.boot_len (pa_cons (pv 0) pa_nil)) (pe_callB call_len_seq rfl T.f_len PySem.boot_len (pa_cons (pv 1) pa_nil)) (nomark _))))) (pss_one ps_never) pss_nil)
    (pss_one (ps_for PassesOwn.never rfl (pi_enumT rfl T.f_enumerate (pa_cons (pv 0) pa_nil)) (pg_tup rfl (pgs_cons (pg_name (i := 3) sc_check_rules.nd rfl (Or.inl rfl)) (pgs_cons (pg_name (i := 4) sc_check_rules.nd rfl (Or.inl rfl)) pgs_nil))) (pss_one (ps_if (pt_not (pt_val (C8.pe_c c_is_rule hr (by decide) rfl (pa_cons (pv 4) (pa_cons (pv 2) pa_nil))))) (pss_one ps_never) pss_nil))))), ?_⟩
    refine k_no ((t_or (t_not (t_B (e_isi (e_var rfl h1) rfl (by decide +kernel : kitB "tuple" "tuple" = some true)))) fun _ => t_test (e_ne (e_lenT (e_var rfl h1)) (e_lenT (e_var rfl h2)) rfl rfl rfl)).cast ?_) fun H1 s1 => ?_
    · rw [List.length_map, List.length_map, hk.1]
      simp
    refine q_for (K := K) (i_enumT (e_var rfl (h1.same s1))) (fun i σ' _ => ∃ y2 y3, σ' = [some v, some u, some x, y2, y3]) (fun B _ => ⟨_, _, rfl⟩) (fun B i d x' σ' H2 H3 hd sA sB pv s23 hx => ?_) (fun B σ' H2 sA sB pv => q _ H2 (s1.trans sA) .non)
    obtain ⟨y2, y3, rfl⟩ := pv
    obtain ⟨e, he, rfl⟩ := zipIdx_at hd
    refine g_two hx fun a b ha hb => ?_
    rw [List.getElem?_map] at he
    cases hh : rs[i]? with
    | none => rw [hh] at he; cases he
    | some r =>
      rw [hh] at he
      cases he
      exact q_ifF ((t_not (t_B (e_call (d := .bl true) (a_cons (e_var rfl hb) (a_cons (e_var rfl ((h3.same s1).same sA)) a_nil)) fun H4 g4 => ⟨r, n, rfl, hn, hk.2 r (List.mem_of_getElem? hh), rfl⟩))).cast (by rfl)) fun H4 s4 => ⟨sB.trans s4, _, _, rfl⟩
def R_check_result : Hp → List Dt → Dt → Prop := fun _ ds d => ∃ (es : List Nat) (n : Nat), ds = [endsD es, .int (n : Nat)] ∧ n ≤ 6 ∧ EndsOk n es ∧ d = .non
theorem rt_sf : ∀ j, j < 6 → (Dt.str (rt j)).sf = true := by decide +kernel
theorem endsD_strs (es : List Nat) : endsD es = strsD (es.map rt) := by
  unfold endsD strsD
  rw [List.map_map]
  rfl
theorem RT_take {n j : Nat} (h : j < n) (hn : n ≤ 6) : rt j ∈ RT.take n := by
  have h6 : j < RT.length := Nat.lt_of_lt_of_le h (by simpa [RT] using hn)
  refine List.mem_of_getElem? (i := j) ?_
  rw [List.getElem?_take, if_pos h, List.getElem?_eq_getElem h6]
  unfold rt
  rw [List.getD_eq_getElem?_getD, List.getElem?_eq_getElem h6]
  rfl
theorem c_check_result (T : Fx K mg) : C8.Cal P w K mg base 2 "check_result" (Pu K R_check_result) [] := by
  have c_first_fall := c_first_fall (P := P) (w := w) (base := base) T
  obtain ⟨fd, F⟩ := T.D.def_ 21
  refine ⟨_, fd, ["result", "count"], [], ok0 F sc_check_result (fun vs H Q Er h => ?_) (fun cdv Ar outer sh H vs Q Er hr h => ?_), T.m_check_result, F.kp, F.bindsN (fun kV doc pm an cdv ct us hl => match us, hl with | [_, _], _ => rfl), .nil⟩
  · obtain ⟨ds, d, hI, ⟨es, n, rfl, hn, hk, rfl⟩, q⟩ := h
    exact hI.length.symm
  · obtain ⟨ds, d, hI, ⟨es, n, rfl, hn, hk, rfl⟩, q⟩ := h
    obtain ⟨v, u, rfl, h1, h2⟩ := hI.inv2
    have h6 : ∀ e ∈ es, e < 6 := fun e he => Nat.lt_of_lt_of_le (hk.2.2 e he) hn
    refine ⟨_, (pss_cons (ps_if (PW.pt (pw_or (pt_not (pt_val (pe_callB call_isi rfl T.f_isinstance (by decide +kernel) (pa_cons (pv 0) (pa_cons (pe_bltn (v := .ty "tuple") rfl T.f_tuple (by decide +kernel) rfl) pa_nil))))) (pw_or1 (pt_cmpR (op_eqD hr.units) (pv 0) (pe_tup pa_nil) (nomark _))))) (pss_one ps_never) pss_nil)
    (pss_cons (ps_set (i := 2) sc_check_result.nd rfl (Or.inl rfl) (C8.pe_c c_first_fall hr (by decide) rfl (pa_cons (pv 0) (pa_cons (pe_slice sl_tupA (C8.pe_gc rfl T.g_REGISTERS) po_none (po_some (pv 1))) pa_nil))))
    (pss_one (ps_if (pt_cmpR op_notN (pv 2) pe_non (nomark _)) (pss_one ps_never) pss_nil)))), ?_⟩
    refine k_no ((t_or (t_not (t_B (e_isi (e_var rfl h1) rfl (by decide +kernel : kitB "tuple" "tuple" = some true)))) fun _ => t_test (e_nilT (e_var rfl h1) ?_)).cast ?_) fun H1 s1 => ?_
    · rw [List.all_map]
      exact List.all_eq_true.mpr fun e he => rt_sf e (h6 e he)
    · cases es with
      | nil => exact absurd rfl hk.1
      | cons e es => rfl
    have eR : cutD (RT.map Dt.str) none (some (n : Int)) = (RT.take n).map Dt.str := by rw [cutD_to (by simpa [RT] using hn), List.map_take]
    rw [endsD_strs] at h1
    refine k_set (e_ffT (e_var rfl (h1.same s1)) ((e_slT (e_regs T) o_none (o_some (e_var rfl (h2.same s1)))).cast (by rw [eR]; rfl)) (asc_rt hk.2.1 h6) fun x hx => ?_) fun z H2 s2 hz => ?_
    · obtain ⟨e, he, rfl⟩ := List.mem_map.mp hx
      exact RT_take (hk.2.2 e he) hn
    refine q_ifF (t_test (e_notN (e_var rfl hz))) fun H3 s3 => q _ H3 ((s1.trans s2).trans s3) .non
end
end TPk
end F6_text

section F7_text
set_option Elab.async false
set_option linter.all false
set_option maxRecDepth 100000
set_option maxHeartbeats 4000000
/-! Walks: a statistic is made, read, called. -/
namespace TPk
open PySem PySem.Spec PyProof.Rows L2
theorem sc_stat_init : FnScope ["self", "kinds", "start", "rules", "result"] ["self", "kinds", "start", "rules", "result"] (defScope s_stat_init) := ⟨rfl, rfl, rfl, by decide +kernel, rfl, by decide +kernel, by decide +kernel⟩
theorem sc_stat_item : FnScope ["self", "kind", "known", "rule"] ["self", "kind"] (defScope s_stat_item) := ⟨rfl, rfl, rfl, by decide +kernel, rfl, by decide +kernel, by decide +kernel⟩
theorem sc_stat_call : FnScope ["self", "log", "contents", "kind", "amount"] ["self", "log"] (defScope s_stat_call) := ⟨rfl, rfl, rfl, by decide +kernel, rfl, by decide +kernel, by decide +kernel⟩
theorem sc_moved : FnScope ["statistic", "nodes", "kind", "mark", "natural", "marks", "found", "slot", "terms", "sources", "term", "source", "taken"] ["statistic", "nodes", "kind", "mark", "natural"] (defScope s_moved) := ⟨rfl, rfl, rfl, by decide +kernel, rfl, by decide +kernel, by decide +kernel⟩
theorem sc_check_statistic : FnScope ["value"] ["value"] (defScope s_check_statistic) := ⟨rfl, rfl, rfl, by decide +kernel, rfl, by decide +kernel, by decide +kernel⟩
theorem sc_check_two : FnScope ["one", "other"] ["one", "other"] (defScope s_check_two) := ⟨rfl, rfl, rfl, by decide +kernel, rfl, by decide +kernel, by decide +kernel⟩
theorem sc_check_flag : FnScope ["value"] ["value"] (defScope s_check_flag) := ⟨rfl, rfl, rfl, by decide +kernel, rfl, by decide +kernel, by decide +kernel⟩
/-- a method by its address -/
structure Met0 (P : Program) (w : World) (K : PySem.W.Frag) (mg : Str → Option Value) (base : Heap) (k : Nat) (C m : Str) (sp : Sp) : Prop where
  ex : ∃ (fd : FuncData) (ps : List Str), FnOk P w K mg base C8.CX0 k (He.ma K (He.ga K C) m) fd ps sp ∧ PySem.W.keepIn K (.ref (He.ma K (He.ga K C) m)) = true ∧ L2.Binds K fd ps []
section
variable {P : Program} {w : World} {K : PySem.W.Frag} {mg : Str → Option Value} {base : Heap} {m : Mo} {σ : L2.St} {H : Hp} {ta tb te to tk : TE}
theorem Met0.r {k : Nat} {C n : Str} {sp : Sp} (h : Met0 P w K mg base k C n sp) : FnR P w K mg base C8.CX0 k (He.ma K (He.ga K C) n) (fun vs H Q E => sp (vs ++ []) H Q E) := by
  obtain ⟨fd, ps, F, _, b⟩ := h.ex
  exact F.raw b .nil
/-! ### made -/
def fsS (k st ru en : V) : List (Str × V) := [("kinds", k), ("start", st), ("rules", ru), ("ends", en)]
def spInit (K : PySem.W.Frag) : Sp := fun vs H Q _ => ∃ (x dx : Addr) (s : Stt Str) (k st ru en : V), vs = [.ref x, k, st, ru, en] ∧ H x = some (.ins (clsA K s.side) dx []) ∧ SV s ∧
  Is K H (kindsD s) k ∧ Is K H (startD s.start) st ∧ Is K H (rulesD s.rules) ru ∧ Is K H (endsD s.ends) en ∧ ∀ H', (∀ b o, b ≠ x → H b = some o → H' b = some o) → H' x = some (.ins (clsA K s.side) dx (fsS k st ru en)) → Q .non H'
theorem ok_init (T : Fx K mg) : Met0 P w K mg base 4 "Statistic" "__init__" (spInit K) := by
  have c_check_kinds := c_check_kinds (P := P) (w := w) (base := base) T
  have c_check_start := c_check_start (P := P) (w := w) (base := base) T
  have c_check_rules := c_check_rules (P := P) (w := w) (base := base) T
  have c_check_result := c_check_result (P := P) (w := w) (base := base) T
  obtain ⟨fd, F⟩ := T.D.def_ 56
  refine ⟨fd, ["self", "kinds", "start", "rules", "result"], ok0 F sc_stat_init (fun vs H Q Er h => ?_) (fun cdv Ar outer sh H vs Q Er hr h => ?_), F.kp, F.bindsN (fun kV doc pm an cdv ct us hl => match us, hl with | [_, _, _, _, _], _ => rfl)⟩
  · obtain ⟨x, dx, s, k, st, ru, en, rfl, _⟩ := h
    rfl
  · obtain ⟨x, dx, s, k, st, ru, en, rfl, hx, hv, h1, h2, h3, h4, q⟩ := h
    refine ⟨_, (pss_cons (ps_expr (C8.pe_c c_check_kinds hr (by decide) rfl (pa_cons (pv 1) pa_nil)))
    (pss_cons (ps_expr (C8.pe_c c_check_start hr (by decide) rfl (pa_cons (pv 2) pa_nil)))
    (pss_cons (ps_expr (C8.pe_c c_check_rules hr (by decide) rfl (pa_cons (pv 3) (pa_cons (pv 1) (pa_cons (pe_callB call_len_seq rfl T.f_len PySem.boot_len (pa_cons (pv 2) pa_nil)) pa_nil)))))
    (pss_cons (ps_expr (C8.pe_c c_check_result hr (by decide) rfl (pa_cons (pv 4) (pa_cons (pe_callB call_len_seq rfl T.f_len PySem.boot_len (pa_cons (pv 2) pa_nil)) pa_nil))))
    (pss_cons (ps_fld (pv 0) (pv 1) rfl)
    (pss_cons (ps_fld (pv 0) (pv 2) rfl)
    (pss_cons (ps_fld (pv 0) (pv 3) rfl)
    (pss_one (ps_fld (pv 0) (pv 4) rfl))))))))), ?_⟩
    refine k_drop (e_call (a_cons (e_var rfl h1) a_nil) fun H1 g => ⟨s.kinds, rfl, hv.kinds, rfl⟩) fun H1 s1 => ?_
    refine k_drop (e_call (a_cons (e_var rfl (h2.same s1)) a_nil) fun H1 g => ⟨s.start, rfl, hv.start.1, hv.start.2, rfl⟩) fun H2 s2 => ?_
    have s12 := s1.trans s2
    refine k_drop (e_call (a_cons (e_var rfl (h3.same s12)) (a_cons (e_var rfl (h1.same s12)) (a_cons (e_lenT (e_var rfl (h2.same s12))) a_nil))) fun H1 g => ⟨s.rules, s.kinds, s.start.length, by rw [List.length_map]; rfl, hv.start.2, hv.kinds.2.1, hv.rules, rfl⟩) fun H3 s3 => ?_
    have s13 := s12.trans s3
    refine k_drop (e_call (a_cons (e_var rfl (h4.same s13)) (a_cons (e_lenT (e_var rfl (h2.same s13))) a_nil)) fun H1 g => ⟨s.ends, s.start.length, by rw [List.length_map], hv.start.2, hv.ends, rfl⟩) fun H4 s4 => ?_
    have s14 := s13.trans s4
    have e0 := s14 _ _ hx
    obtain ⟨z1, z2, z3, z4, z5, _⟩ := cls_g T s.side
    refine ⟨k, rfl, .ref x, rfl, x, _, dx, [], rfl, e0, z1, z2, by decide, ?_⟩
    refine ⟨st, rfl, .ref x, rfl, x, _, dx, [("kinds", k)], rfl, upd_same, z1, z3, (by decide : 1 < 1000), ?_⟩
    refine ⟨ru, rfl, .ref x, rfl, x, _, dx, [("kinds", k), ("start", st)], rfl, upd_same, z1, z4, (by decide : 2 < 1000), ?_⟩
    refine ⟨en, rfl, .ref x, rfl, x, _, dx, [("kinds", k), ("start", st), ("rules", ru)], rfl, upd_same, z1, z5, (by decide : 3 < 1000), ?_⟩
    refine q _ (fun b o hb e => ?_) upd_same
    rw [upd_ne hb, upd_ne hb, upd_ne hb, upd_ne hb]
    exact s14 b o e
theorem mk_stat (T : Fx K mg) : C8.Mak P w K mg base 4 "Greatest" (clsA K true) (spInit K) [] ∧ C8.Mak P w K mg base 4 "Least" (clsA K false) (spInit K) [] := by
  obtain ⟨fd, ps, F, kp, b⟩ := (ok_init (P := P) (w := w) (base := base) T).ex
  have m1 := T.mk_Greatest
  have m2 := T.mk_Least
  rw [T.same_init_g] at m1
  rw [T.same_init_l] at m2
  exact ⟨⟨_, fd, ps, [], m1, F, T.m_Greatest, b, .nil⟩, ⟨_, fd, ps, [], m2, F, T.m_Least, b, .nil⟩⟩
/-- a new statistic -/
theorem make_ {t : TA} {Er : XK} {s : Stt Str} {g : Bool} (h : AE K m t σ H [kindsD s, startD s.start, rulesD s.rules, endsD s.ends]) (hv : SV s) (hg : s.side = g) (H1 : Hp) (g1 : Go m H H1) {Q : VK} (q : ∀ a H2, H1 a = none → Go m H1 H2 → StatAt K H2 a s → Q (.ref a) H2) :
    tMake (clsA K g) (spInit K) [] Er t σ H1 Q := AE.go h g1 fun vs H2 g2 hs => fun x dx nx nd nxd => by
  obtain ⟨k, st, ru, en, rfl, h1, h2, h3, h4⟩ := hs.inv4
  have hx0 : (upd H2 dx (.own x)) x = none := by rw [upd_ne (fun e => nxd e.symm)]; exact nx
  have sA : Same H2 (upd (upd H2 dx (.own x)) x (.ins (clsA K g) dx [])) := (same_new nd).trans (same_new hx0)
  subst hg
  refine ⟨x, dx, s, k, st, ru, en, rfl, upd_same, hv, h1.same sA, h2.same sA, h3.same sA, h4.same sA, fun H' hk he => ⟨rfl, q x H' (g2.free nx) (g2.same fun b o e => ?_) ⟨dx, k, st, ru, en, he, ?_, ?_, ?_, ?_⟩⟩⟩
  all_goals first
    | exact hk b o (ne_of_none e nx) (sA b o e)
    | exact h1.same fun b o e => hk b o (ne_of_none e nx) (sA b o e)
    | exact h2.same fun b o e => hk b o (ne_of_none e nx) (sA b o e)
    | exact h3.same fun b o e => hk b o (ne_of_none e nx) (sA b o e)
    | exact h4.same fun b o e => hk b o (ne_of_none e nx) (sA b o e)
/-! ### statistic[kind] -/
def R_item (K : PySem.W.Frag) : Hp → List Dt → Dt → Prop := fun H ds d => ∃ a s k, ds = [.adr a, .str k] ∧ StatAt K H a s ∧ k ∈ s.kinds ∧ s.rules.length = s.kinds.length ∧ d = ruleD (s.rule k)
theorem q_zipS {S1 S2 : List Dt} {p : Nat} {g : TG} {tb : TS} {D : Ends} {tb' : TE} (h : AE K m0 (tCons ta (tCons tb' tNil)) σ H [.tup S1, .tup S2]) (hp : p < S1.length) (hp' : p < S2.length) (Pv : Nat → L2.St → Hp → Prop) (h0 : ∀ B, Same H B → Pv 0 σ B)
    (hs : ∀ B i d e x σ' H1 H2, i ≤ p → S1[i]? = some d → S2[i]? = some e → Same H H2 → Same B H2 → Same H1 H2 → Pv i σ' H1 → Is K H2 (.tup [d, e]) x → g x σ' H2 fun σ2 H3 => tb { D with nx := fun s h => i + 1 ≤ p ∧ Same B h ∧ Pv (i + 1) s h, ct := fun s h => i + 1 ≤ p ∧ Same B h ∧ Pv (i + 1) s h, bk := D.nx } σ2 H3) :
    tFor (iZipK K true (tCons ta (tCons tb' tNil))) g tb D σ H := by
  unfold tFor iZipK
  refine AE.go h (.refl True.intro) fun vs B gB hx => ?_
  obtain ⟨v, w, rfl, h1, h2⟩ := hx.inv2
  obtain ⟨a, xs, rfl, hq, hi⟩ := h1.inv
  obtain ⟨a', ys, rfl, hq', hi'⟩ := h2.inv
  refine ⟨a, a', xs, ys, rfl, hq, hq', ?_⟩
  rw [if_pos rfl]
  refine ⟨fun i mm σ' h => mm = p + 1 - i ∧ i ≤ p ∧ Same B h ∧ Pv i σ' h, ⟨p + 1, rfl, Nat.zero_le _, .refl _, h0 B gB.to0⟩, ?_⟩
  rintro i mm σ' h' ⟨rfl, hip, sB, pv⟩
  have q1 := sqT_tk (Same.tk sB) hq
  have q2 := sqT_tk (Same.tk sB) hq'
  have l1 : i < xs.length := by rw [← hi.length]; omega
  have l2 : i < ys.length := by rw [← hi'.length]; omega
  refine .inr ⟨⟨xs, ys, xs[i], ys[i], q1, q2, List.getElem?_eq_getElem _, List.getElem?_eq_getElem _⟩, fun s h => i + 1 ≤ p ∧ Same B h ∧ Pv (i + 1) s h, fun σ2 H2 pp => ⟨p + 1 - (i + 1), by omega, rfl, pp⟩, fun x h2 y => ?_⟩
  obtain ⟨TT, u, v, rfl, hn, rfl, y1, y2⟩ := y
  obtain ⟨d, hd, hdv⟩ := hi.getV (y1 xs q1)
  obtain ⟨e, he, hev⟩ := hi'.getV (y2 ys q2)
  have s2 : Same h' (upd h' TT (.tup [u, v])) := same_new hn
  exact hs B i d e _ σ' h' _ hip hd he ((gB.to0.trans sB).trans s2) (sB.trans s2) s2 pv (is_new hn (.cons (hdv.same sB) (.cons (hev.same sB) .nil)))
theorem it_ok (T : Fx K mg) : Met0 P w K mg base 1 "Statistic" "__getitem__" (Pu K (R_item K)) := by
  obtain ⟨fd, F⟩ := T.D.def_ 58
  refine ⟨fd, ["self", "kind"], ok0 F sc_stat_item (fun vs H Q Er h => ?_) (fun cdv Ar outer sh H vs Q Er hr h => ?_), F.kp, F.bindsN (fun kV doc pm an cdv ct us hl => match us, hl with | [_, _], _ => rfl)⟩
  · obtain ⟨ds, d, hI, ⟨a, s, k, rfl, _⟩, q⟩ := h
    exact hI.length.symm
  · obtain ⟨ds, d, hI, ⟨a, s, k, rfl, hs, hk, hl, rfl⟩, q⟩ := h
    obtain ⟨v, u, rfl, h1, h2⟩ := hI.inv2
    obtain ⟨hp1, hp2⟩ := pos_at hk
    refine ⟨_, (pss_cons (ps_if (pt_val (pe_callB call_isi rfl T.f_isinstance (by decide +kernel) (pa_cons (pv 1) (pa_cons (pe_bltn (v := .ty "str") rfl T.f_str (by decide +kernel) rfl) pa_nil)))) (pss_one (ps_for PassesOwn.never rfl (pi_zipK rfl T.f_zip (pa_cons (pe_fld (pv 0) rfl) (pa_cons (pe_fld (pv 0) rfl) pa_nil))) (pg_tup rfl (pgs_cons (pg_name (i := 2) sc_stat_item.nd rfl (Or.inl rfl)) (pgs_cons (pg_name (i := 3) sc_stat_item.nd rfl (Or.inl rfl)) pgs_nil))) (pss_one (ps_if (pt_cmpR op_eq (pv 2) (pv 1) (nomark _)) (pss_one (ps_ret (pv 3))) pss_nil)))) pss_nil)
    (pss_one ps_never)), ?_⟩
    refine k_yes (t_B (e_isi (e_var rfl h2) rfl (by decide +kernel : kitB "str" "str" = some true))) fun H1 s1 => ?_
    refine q_zipS (p := pos s.kinds k) (a_cons (e_kinds T (e_var rfl (h1.same s1)) (hs.same s1)) (a_cons (e_rules T (e_var rfl (h1.same s1)) (hs.same s1)) a_nil)) (by rw [List.length_map]; exact pos_lt hk) (by rw [List.length_map, hl]; exact pos_lt hk) (fun i σ' _ => ∃ y2 y3, σ' = [some v, some u, y2, y3]) (fun B _ => ⟨_, _, rfl⟩) (fun B i d e x σ' H2 H3 hip hd he sA sB s23 pv hx => ?_)
    obtain ⟨y2, y3, rfl⟩ := pv
    refine g_two hx fun z1 z2 hz1 hz2 => ?_
    rw [List.getElem?_map] at hd he
    cases hh : s.kinds[i]? with
    | none => rw [hh] at hd; cases hd
    | some kk =>
      cases hr2 : s.rules[i]? with
      | none => rw [hr2] at he; cases he
      | some r =>
        rw [hh] at hd
        rw [hr2] at he
        cases hd
        cases he
        by_cases e : i = pos s.kinds k
        · subst e
          rw [hp1] at hh
          cases hh
          refine q_ifT ((t_test (e_eq (e_var rfl hz1) (e_var rfl ((h2.same s1).same sA)) rfl rfl rfl)).cast (decide_eq_true rfl)) fun H4 s4 => ?_
          refine q_ret (e_var rfl (hz2.same s4)) fun z H5 s5 hz => q z H5 (((s1.trans sA).trans s4).trans s5) ?_
          have : s.rule k = r := by
            unfold Stt.rule
            rw [List.getD_eq_getElem?_getD, hr2]
            rfl
          rw [this]
          exact hz
        · have hne : kk ≠ k := fun z => hp2 i (by omega) (by rw [hh, z])
          refine q_ifF ((t_test (e_eq (e_var rfl hz1) (e_var rfl ((h2.same s1).same sA)) rfl rfl rfl)).cast (decide_eq_false fun z => hne (by injection z))) fun H4 s4 => ?_
          exact ⟨by omega, sB.trans s4, _, _, rfl⟩
theorem it_stat (T : Fx K mg) : FnR P w K mg base C8.CX0 1 (He.ma K (He.ga K "Statistic") "__getitem__") (fun vs H Q E => Pu K (R_item K) (vs ++ []) H Q E) := (it_ok T).r
theorem io_stat (T : Fx K mg) (g : Bool) : ItemO K (clsA K g) (He.ma K (He.ga K "Statistic") "__getitem__") := by
  cases g with
  | true =>
    have h := T.cl_item_g
    rw [T.same_item_g] at h
    exact ⟨h.1, h.2.1, h.2.2⟩
  | false =>
    have h := T.cl_item_l
    rw [T.same_item_l] at h
    exact ⟨h.1, h.2.1, h.2.2⟩
theorem e_item {a : Addr} {s : Stt Str} {k : Str} (ha : TPk.E K m to σ H (.adr a)) (hk : TPk.E K m tk σ H (.str k)) (hs : StatAt K H a s) (hm : k ∈ s.kinds) (hl : s.rules.length = s.kinds.length) :
    TPk.E K m (tGetO (clsA K s.side) (fun vs H Q E => Pu K (R_item K) (vs ++ []) H Q E) to tk) σ H (ruleD (s.rule k)) := fun H1 g Q q => ha.go g fun v H2 g2 hv => hk.go (g.trans g2) fun u H3 g3 hu => by
  have hs3 := hs.go ((g.trans g2).trans g3)
  obtain ⟨dx, k1, st, ru, en, h0, _⟩ := id hs3
  refine ⟨a, dx, _, hv.adr_inv, h0, [.adr a, .str k], ruleD (s.rule k), .cons (.adr a) (.cons hu .nil), ⟨a, s, k, rfl, hs3, hm, hl, rfl⟩, fun z H4 s4 hz => q z _ H4 ((g2.trans g3).same s4) hz rfl⟩
/-! ### facts of valid statistics -/
theorem rule_ok {s : Stt Str} (hv : SV s) {k : Str} (hk : k ∈ s.kinds) : RuleOk s.start.length (s.rule k) := by
  have hl : pos s.kinds k < s.rules.length := by rw [hv.rules.1]; exact pos_lt hk
  have : s.rule k ∈ s.rules := by
    unfold Stt.rule
    rw [List.getD_eq_getElem?_getD, List.getElem?_eq_getElem hl]
    exact List.getElem_mem hl
  exact hv.rules.2 _ this
theorem src_le : ∀ n, n ≤ 6 → ∀ c ∈ codes n, src c ≤ n := by decide +kernel
theorem row0_len (s : Stt Str) : s.row0.length = s.start.length := by unfold Stt.row0; rw [List.length_map]
theorem startD_row (s : Stt Str) : startD s.start = rowOD s.row0 := by
  unfold startD rowOD Stt.row0
  rw [List.map_map]
  refine congrArg Dt.tup (List.map_congr_left fun b _ => ?_)
  cases b <;> rfl
theorem rowOf_len {s : Stt Str} (hv : SV s) {log : List (Str × Int)} (hk : ∀ e ∈ log, e.1 ∈ s.kinds) : (s.rowOf log).length = s.start.length := by
  induction log using snoc_ind with
  | h0 => exact row0_len s
  | hs l x ih =>
    rw [rowOf_snoc]
    unfold stp
    rw [List.length_map]
    exact (rule_ok hv (hk x (by simp))).1
theorem rowOf_take {s : Stt Str} {log : List (Str × Int)} {i : Nat} {e : Str × Int} (h : log[i]? = some e) : s.rowOf (log.take (i + 1)) = stp s.side (s.rule e.1) (s.rowOf (log.take i)) e.2 := by
  rw [List.take_add_one, h]
  exact rowOf_snoc s _ e
theorem rule_rows {s : Stt Str} (hv : SV s) {k : Str} (hk : k ∈ s.kinds) : ∀ ts ∈ s.rule k, ts.length ≤ 14 ∧ ∀ c ∈ ts, c < 14 ∧ src c ≤ s.start.length := fun ts ht => by
  have h := (rule_ok hv hk).2 ts ht
  obtain ⟨h1, h2, _⟩ := row_ok h hv.start.2
  exact ⟨h2, fun c hc => ⟨h1 c hc, src_le _ hv.start.2 c (h.inc c hc)⟩⟩
/-! ### statistic(log) -/
def R_scall (K : PySem.W.Frag) : Hp → List Dt → Dt → Prop := fun H ds d => ∃ a s log, ds = [.adr a, logD log] ∧ StatAt K H a s ∧ SV s ∧ LogOk s.kinds log ∧ d = oD (s.res log)
theorem sc_ok (T : Fx K mg) : Met0 P w K mg base 6 "Statistic" "__call__" (Pu K (R_scall K)) := by
  have c_check_log := c_check_log (P := P) (w := w) (base := base) T
  have c_stepped := c_stepped (P := P) (w := w) (base := base) T
  have c_read_out := c_read_out (P := P) (w := w) (base := base) T
  obtain ⟨fd, F⟩ := T.D.def_ 57
  refine ⟨fd, ["self", "log"], ok0 F sc_stat_call (fun vs H Q Er h => ?_) (fun cdv Ar outer sh H vs Q Er hr h => ?_), F.kp, F.bindsN (fun kV doc pm an cdv ct us hl => match us, hl with | [_, _], _ => rfl)⟩
  · obtain ⟨ds, d, hI, ⟨a, s, log, rfl, _⟩, q⟩ := h
    exact hI.length.symm
  · obtain ⟨ds, d, hI, ⟨a, s, log, rfl, hs, hv, hlog, rfl⟩, q⟩ := h
    obtain ⟨v, u, rfl, h1, h2⟩ := hI.inv2
    refine ⟨_, (pss_cons (ps_expr (C8.pe_c c_check_log hr (by decide) rfl (pa_cons (pv 1) (pa_cons (pe_fld (pv 0) rfl) pa_nil))))
    (pss_cons (ps_set (i := 2) sc_stat_call.nd rfl (Or.inl rfl) (pe_fld (pv 0) rfl))
    (pss_cons (ps_for PassesOwn.never rfl (pi_tup (pv 1)) (pg_tup rfl (pgs_cons (pg_name (i := 3) sc_stat_call.nd rfl (Or.inl rfl)) (pgs_cons (pg_name (i := 4) sc_stat_call.nd rfl (Or.inl rfl)) pgs_nil))) (pss_one (ps_set (i := 2) sc_stat_call.nd rfl (Or.inl rfl) (C8.pe_c c_stepped hr (by decide) rfl (pa_cons (pe_con (pv 0) rfl) (pa_cons (pe_getO (io_stat T s.side) (it_stat (P := P) (w := w) (base := base) T) (hr.mono (by decide)) (pv 0) (pv 3)) (pa_cons (pv 2) (pa_cons (pv 4) pa_nil))))))))
    (pss_one (ps_ret (C8.pe_c c_read_out hr (by decide) rfl (pa_cons (pe_con (pv 0) rfl) (pa_cons (pe_fld (pv 0) rfl) (pa_cons (pv 2) pa_nil))))))))), ?_⟩
    refine k_drop (e_call (a_cons (e_var rfl h2) (a_cons (e_kinds T (e_var rfl h1) hs) a_nil)) fun H1 g => ⟨log, s.kinds, rfl, hlog, rfl⟩) fun H1 s1 => ?_
    refine k_set (e_start T (e_var rfl (h1.same s1)) (hs.same s1)) fun c0 H2 s2 hc0 => ?_
    rw [startD_row] at hc0
    have s12 := s1.trans s2
    have hkk : ∀ i, ∀ e ∈ log.take i, e.1 ∈ s.kinds := fun i e he => (hlog.2 e (List.mem_of_mem_take he)).1
    refine k_for (K := K) (i_tup (e_var rfl (h2.same s12))) (fun i σ' H' => ∃ c y3 y4, σ' = [some v, some u, some c, y3, y4] ∧ Is K H' (rowOD (s.rowOf (log.take i))) c) (fun B sB => ⟨_, _, _, rfl, hc0.same sB⟩) (fun B i d x σ' H3 H4 hd sA sB pv s34 hx => ?_) (fun B σ' H3 sA sB pv => ?_)
    · obtain ⟨c, y3, y4, rfl, hc⟩ := pv
      rw [List.getElem?_map] at hd
      cases hh : log[i]? with
      | none => rw [hh] at hd; cases hd
      | some e =>
        rw [hh] at hd
        cases hd
        obtain ⟨z1, z2, z3⟩ := hlog.2 e (List.mem_of_getElem? hh)
        refine g_two hx fun a1 a2 ha1 ha2 => ?_
        have s14 := s12.trans sA
        have hrl := rowOf_len hv (hkk i)
        refine q_set (d := rowOD (s.rowOf (log.take (i + 1)))) (e_call (a_cons (e_side T (e_var rfl (h1.same s14)) (hs.same s14)) (a_cons (e_item (e_var rfl (h1.same s14)) (e_var rfl ha1) (hs.same s14) z1 hv.rules.1) (a_cons (e_var rfl (hc.same s34)) (a_cons (e_var rfl ha2) a_nil)))) fun H5 g5 => ⟨s.side, s.rule e.1, s.rowOf (log.take i), e.2, rfl, ?_, ?_, ?_, ?_⟩) fun z H5 s5 hz => ⟨sB.trans s5, _, _, _, rfl, hz⟩
        · rw [(rule_ok hv z1).1]; exact hv.start.2
        · rw [hrl]; exact hv.start.2
        · intro ts ht
          obtain ⟨w1, w2⟩ := rule_rows hv z1 ts ht
          rw [hrl]
          exact ⟨by omega, w2⟩
        · rw [rowOf_take hh]
    · obtain ⟨c, y3, y4, rfl, hc⟩ := pv
      rw [List.length_map, List.take_length] at hc
      have s13 := s12.trans sA
      have hrl := rowOf_len hv (fun e he => (hlog.2 e he).1)
      refine q_ret (e_call (d := oD (s.res log)) (a_cons (e_side T (e_var rfl (h1.same s13)) (hs.same s13)) (a_cons (e_ends T (e_var rfl (h1.same s13)) (hs.same s13)) (a_cons (e_var rfl hc) a_nil))) fun H5 g5 => ⟨s.side, s.ends, s.rowOf log, rfl, ?_, ?_, ?_, rfl⟩) fun z H5 s5 hz => q z H5 (s13.trans s5) hz
      · have := pw_len (N := 6) hv.ends.2.1 fun e he => Nat.lt_of_lt_of_le (hv.ends.2.2 e he) hv.start.2
        omega
      · rw [hrl]; exact hv.start.2
      · rw [hrl]; exact hv.ends.2.2
theorem co_stat (T : Fx K mg) (g : Bool) : StX.CallO K (clsA K g) (He.ma K (He.ga K "Statistic") "__call__") := by
  cases g with
  | true =>
    have h := T.cl_call_g
    rw [T.same_call_g] at h
    exact ⟨h.1, h.2.1, h.2.2⟩
  | false =>
    have h := T.cl_call_l
    rw [T.same_call_l] at h
    exact ⟨h.1, h.2.1, h.2.2⟩
/-! ### the nodes behind a mark -/
def R_moved (K : PySem.W.Frag) : Hp → List Dt → Dt → Prop := fun H ds d => ∃ a s S k mark nat, ds = [.adr a, nodesD S, .str k, .bl mark, .bl nat] ∧ StatAt K H a s ∧ SV s ∧ k ∈ s.kinds ∧ (∀ x ∈ S, x < 7) ∧ d = nodesD (s.mv nat S k mark)
theorem filt_snoc (p : Nat → Bool) (i : Nat) : ((List.range (i + 1)).filter p).map (· + 1) = ((List.range i).filter p).map (· + 1) ++ (if p i = true then [i + 1] else []) := by
  rw [List.range_succ, List.filter_append, List.map_append]
  cases h : p i <;> simp [h]
theorem filt_t {p : Nat → Bool} {i : Nat} (h : p i = true) : ((List.range (i + 1)).filter p).map (· + 1) = ((List.range i).filter p).map (· + 1) ++ [i + 1] := by rw [filt_snoc, if_pos h]
theorem filt_f {p : Nat → Bool} {i : Nat} (h : p i = false) : ((List.range (i + 1)).filter p).map (· + 1) = ((List.range i).filter p).map (· + 1) := by rw [filt_snoc, h]; simp
theorem c_moved (T : Fx K mg) : C8.Cal P w K mg base 3 "moved" (Pu K (R_moved K)) [] := by
  have c_marks_meant := c_marks_meant (P := P) (w := w) (base := base) T
  have c_source_of := c_source_of (P := P) (w := w) (base := base) T
  obtain ⟨fd, F⟩ := T.D.def_ 11
  obtain ⟨ds0, hd0, b0⟩ := F.binds1 (ps := ["statistic", "nodes", "kind", "mark", "natural"]) 5 1 (by intro z; cases z) rfl (fun T kV doc pm an cdv ct us its h1 h2 => match us, its, h1, h2 with | [_, _, _, _, _], [_], _, _ => ⟨_, rfl, rfl⟩)
  cases hd0
  refine ⟨_, fd, ["statistic", "nodes", "kind", "mark", "natural"], [], ok0 F sc_moved (fun vs H Q Er h => ?_) (fun cdv Ar outer sh H vs Q Er hr h => ?_), T.m_moved, F.kp, b0, .nil⟩
  · obtain ⟨ds, d, hI, ⟨a, s, S, k, mark, nat, rfl, _⟩, q⟩ := h
    exact hI.length.symm
  · obtain ⟨ds, d, hI, ⟨a, s, S, k, mark, nat, rfl, hs, hv, hk, hS, rfl⟩, q⟩ := h
    obtain ⟨v1, v2, v3, v4, v5, rfl, h1, h2, h3, h4, h5⟩ := hI.inv5
    refine ⟨_, (pss_cons (ps_set (i := 5) sc_moved.nd rfl (Or.inr rfl) (C8.pe_c c_marks_meant hr (by decide) rfl (pa_cons (pe_con (pv 0) rfl) (pa_cons (pv 3) (pa_cons (pv 4) pa_nil)))))
    (pss_cons (ps_set (i := 6) sc_moved.nd rfl (Or.inl rfl) (pe_ifExp (PW.pt (pw_and (pt_cmpR op_in_seq pe_str (pv 1) rfl) (pw_and1 (pt_cmpR op_in_seq pe_bl (pv 5) rfl)))) (pe_lst (pa_cons pe_str pa_nil)) (pe_lst pa_nil)))
    (pss_cons (ps_for PassesOwn.never rfl (pi_zipK rfl T.f_zip (pa_cons (C8.pe_gc rfl T.g_REGISTERS) (pa_cons (pe_getO (io_stat T s.side) (it_stat (P := P) (w := w) (base := base) T) (hr.mono (by decide)) (pv 0) (pv 2)) pa_nil))) (pg_tup rfl (pgs_cons (pg_name (i := 7) sc_moved.nd rfl (Or.inl rfl)) (pgs_cons (pg_name (i := 8) sc_moved.nd rfl (Or.inl rfl)) pgs_nil))) (pss_cons (ps_setLcF (i := 9) (own := [("term", 10)]) rfl sc_moved.nd rfl rfl (sw_true rfl rfl rfl (by decide +kernel)) (pi_tup (pv 8)) (blkOk_by (by kernel_rfl)) (fun _ _ _ _ _ => (pg_name (i := 10) sc_moved.nd rfl (by first | exact Or.inl rfl | exact Or.inr rfl))) (fun _ _ _ _ _ => pts_nil) (fun _ _ _ _ _ => (C8.pe_c c_source_of hr (by decide) rfl (pa_cons (pv 10) pa_nil))))
    (pss_one (ps_if (pt_val (pe_callB (cr_any rfl) rfl T.f_any (by decide +kernel) (pa_cons (pe_lcF (own := [("source", 11), ("taken", 12)]) rfl sc_moved.nd (pi_list (pv 9)) (blkOk_by (by kernel_rfl)) (fun _ _ _ _ _ => (pg_tup rfl (pgs_cons (pg_name (i := 11) sc_moved.nd rfl (by first | exact Or.inl rfl | exact Or.inr rfl)) (pgs_cons (pg_name (i := 12) sc_moved.nd rfl (by first | exact Or.inl rfl | exact Or.inr rfl)) pgs_nil)))) (fun _ _ _ _ _ => pts_nil) (fun _ _ _ _ _ => (pe_and (pe_cmpR op_in_seq (pv 12) (pv 5) rfl) (pe_one (pe_cmpR op_in_seq (pv 11) (pv 1) rfl))))) pa_nil))) (pss_one (ps_expr (pe_bm PySem.F.plainAttrs_list PySem.F.slot_list_append PySem.F.type_list_append mt_append (pv 6) (pa_cons (pv 7) pa_nil)))) pss_nil))))
    (pss_one (ps_ret (pe_callTy call_tuple_of rfl T.f_tuple (by decide +kernel) (pa_cons (pv 6) pa_nil))))))), ?_⟩
    refine k_set (e_call (a_cons (e_side T (e_var rfl h1) hs) (a_cons (e_var rfl h4) (a_cons (e_var rfl h5) a_nil))) fun H1 g => ⟨s.side, mark, nat, rfl, rfl⟩) fun mk H1 s1 hmk => ?_
    have hm0 : ∀ t, inV (V.bl t) (((marksOf s.side nat mark).map Dt.bl).map Dt.fv) = inM s.side nat mark t := in_marks s.side nat mark
    have bl_fl : ((marksOf s.side nat mark).map Dt.bl).all Dt.fl = true := by rw [List.all_map]; exact List.all_eq_true.mpr fun _ _ => rfl
    refine k_setL (K := K) (ds := (if 0 ∈ S ∧ inM s.side nat mark false = true then [0] else []).map fun n => Dt.str (nt n)) (l_if (t_and ((t_test (e_in (neg := false) e_str (e_var rfl (h2.same s1)) rfl (strs_fl _))).cast (in_nodes (n := 0) hS (by decide))) fun _ => (t_test (e_in (neg := false) e_bl (e_var rfl hmk) rfl bl_fl)).cast (hm0 false)) (fun e => (l_lst (a_cons e_str a_nil) (sz (by decide))).cast ?_) (fun e => (l_lst a_nil (Nat.zero_le _)).cast ?_)) fun l H2 nl s2 hL => ?_
    · rw [Bool.and_eq_true, decide_eq_true_eq] at e
      rw [if_pos e]
      rfl
    · have e' : ¬ (0 ∈ S ∧ inM s.side nat mark false = true) := fun z => by rw [z.2, decide_eq_true z.1] at e; cases e
      rw [if_neg e']
      rfl
    have s12 := s1.trans s2
    have hrl := (rule_ok hv hk).1
    have h6 := hv.start.2
    refine k_forO (m := m0) not0 True.intro hL (i_zipT (a_cons (e_regs T) (a_cons (e_item (e_var rfl (h1.same s12)) (e_var rfl (h3.same s12)) (hs.same s12) hk hv.rules.1) a_nil)))
      (fun i σ' H' => (∃ y7 y8 y9, σ' = [some v1, some v2, some v3, some v4, some v5, some mk, some (.ref l), y7, y8, y9, none, none, none]) ∧ Ow K H' l (((if 0 ∈ S ∧ inM s.side nat mark false = true then [0] else []) ++ ((List.range i).filter fun j => ((s.rule k).getD j []).any fun c => inM s.side nat mark (tak c) && decide (src c ∈ S)).map (· + 1)).map fun n => Dt.str (nt n)))
      (fun B gB hB => ⟨⟨_, _, _, rfl⟩, by simpa using hB⟩) (fun B i d x σ' H3 H4 gB hd g3 pv s34 hx => ?_) (fun B σ' H3 gB g3 pv => ?_)
    · obtain ⟨⟨y7, y8, y9, rfl⟩, hO3⟩ := pv
      obtain ⟨ts, ht, rfl⟩ : ∃ ts, (s.rule k)[i]? = some ts ∧ d = .tup [.str (rt i), rowD ts] := by
        rw [List.getElem?_map] at hd
        cases hz : ((RT.map Dt.str).zip ((s.rule k).map rowD))[i]? with
        | none => rw [hz] at hd; cases hd
        | some p =>
          rw [hz] at hd
          obtain ⟨w1, w2⟩ := List.getElem?_zip_eq_some.mp hz
          rw [List.getElem?_map] at w1 w2
          cases hr2 : (s.rule k)[i]? with
          | none => rw [hr2] at w2; cases w2
          | some ts =>
            rw [hr2] at w2
            have hi6 : i < RT.length := by have := (List.getElem?_eq_some_iff.mp hr2).1; show i < 6; omega
            rw [List.getElem?_eq_getElem hi6] at w1
            refine ⟨ts, rfl, ?_⟩
            have e1 : p.1 = .str (rt i) := by
              rw [← Option.some.inj w1]
              unfold rt
              rw [List.getD_eq_getElem?_getD, List.getElem?_eq_getElem hi6]
              rfl
            have e2 : p.2 = rowD ts := (Option.some.inj w2).symm
            rw [← e1, ← e2]
            exact (Option.some.inj hd).symm
      have hi : i < s.start.length := by rw [← hrl]; exact (List.getElem?_eq_some_iff.mp ht).1
      obtain ⟨hl14, hc⟩ := rule_rows hv hk ts (List.mem_of_getElem? ht)
      refine g_two hx fun u1 u2 hu1 hu2 => ?_
      have sB4 : ∀ {d v}, Is K H d v → Is K H4 d v := fun hh => (((hh.same (s12.trans gB.to0)).go g3).same s34)
      refine k_setL ((l_map (f := fun d => match d with | .str z => srcD (TT.idxOf z) | _ => .non) (i_tup (e_var rfl hu2)) (by rw [List.length_map]; exact sz (by omega)) fun j d y H8 hd8 g8 hy => ?_).cast (es := ts.map srcD) ?_) fun l2 H5 nl2 s5 hL2 => ?_
      · rw [List.getElem?_map] at hd8
        cases hh : ts[j]? with
        | none => rw [hh] at hd8; cases hd8
        | some c =>
          rw [hh] at hd8
          cases hd8
          have hc14 := (hc c (List.mem_of_getElem? hh)).1
          refine e_call (a_cons (e_var (i := 10) rfl hy) a_nil) fun H9 g9 => ⟨c, hc14, rfl, ?_⟩
          show srcD (TT.idxOf (tt c)) = srcD c
          rw [tt_ix c hc14]
      · refine List.map_map.trans (List.map_congr_left fun c hm => ?_)
        show srcD (TT.idxOf (tt c)) = srcD c
        rw [tt_ix c (hc c hm).1]
      have hn4 := sB4 h2
      have hm4 : Is K H4 (marksD (marksOf s.side nat mark)) mk := (((hmk.same (s2.trans gB.to0)).go g3).same s34)
      have hgd : (s.rule k).getD i [] = ts := by rw [List.getD_eq_getElem?_getD, ht]; rfl
      refine q_ite ((t_B (e_any (bs := ts.map fun c => inM s.side nat mark (tak c) && decide (src c ∈ S)) ((l_map2 (f := fun d => match d with | .tup [.str x, .bl t] => .bl (inM s.side nat mark t && inV (V.str x) (((S.map nt).map Dt.str).map Dt.fv)) | _ => .non) (i_listS rfl hL2.li fun z => z) (by rw [List.length_map]; exact sz (by omega)) (fun d hd => ?_) fun j a b y z H6 hd6 g6 hy hz => ?_).cast ?_))).cast (b := ((s.rule k).getD i []).any fun c => inM s.side nat mark (tak c) && decide (src c ∈ S)) ?_) (fun h0 H6 s6 => ?_) (fun h0 H6 s6 => ?_)
      · obtain ⟨c, _, rfl⟩ := List.mem_map.mp hd
        exact ⟨_, _, rfl⟩
      · rw [List.getElem?_map] at hd6
        cases hh : ts[j]? with
        | none => rw [hh] at hd6; cases hd6
        | some c =>
          rw [hh] at hd6
          cases hd6
          have e1 := e_in (neg := false) (K := K) (m := m0) (H := H6) (σ := [some v1, some v2, some v3, some v4, some v5, some mk, some (.ref l), some u1, some u2, some (.ref l2), none, some y, some z]) (ta := tVar 12) (tb := tVar 5) (e_var rfl hz) (e_var rfl ((hm4.same s5).go g6)) rfl bl_fl
          have e2 := e_in (neg := false) (K := K) (m := m0) (H := H6) (σ := [some v1, some v2, some v3, some v4, some v5, some mk, some (.ref l), some u1, some u2, some (.ref l2), none, some y, some z]) (ta := tVar 11) (tb := tVar 1) (e_var rfl hy) (e_var rfl ((hn4.same s5).go g6)) rfl (strs_fl _)
          refine (e_and e1 fun _ => e2).cast ?_
          rw [if_neg Bool.false_ne_true, if_neg Bool.false_ne_true]
          exact congrArg (fun z => Dt.bl (z && _)) (hm0 (tak c))
      · refine List.map_map.trans ((List.map_congr_left fun c hm => ?_).trans List.map_map.symm)
        have hc7 : src c < 7 := by have := (hc c hm).2; omega
        show Dt.bl (inM s.side nat mark (tak c) && inV (V.str (nt (src c))) _) = Dt.bl (inM s.side nat mark (tak c) && decide (src c ∈ S))
        rw [in_nodes hS hc7]
      · rw [hgd, List.any_map]
        rfl
      · refine q_app (m := m0) (d := .str (rt i)) not0 rfl (((hO3.same s34).same s5).same s6) True.intro (e_var rfl ((hu1.same s5).same s6)) ?_ fun H7 g7 hO7 => ?_
        · rw [List.length_map, List.length_append, List.length_map]
          have w1 := List.length_filter_le (fun j => ((s.rule k).getD j []).any fun c => inM s.side nat mark (tak c) && decide (src c ∈ S)) (List.range i)
          rw [List.length_range] at w1
          have w2 : (if 0 ∈ S ∧ inM s.side nat mark false = true then [0] else ([] : List Nat)).length ≤ 1 := by split <;> simp
          exact Nat.lt_of_lt_of_le (show _ < 100000 by omega) (by decide)
        · refine ⟨(((g3.same s34).same s5).same s6).trans g7, ⟨_, _, _, rfl⟩, ?_⟩
          rw [filt_t (p := fun j => ((s.rule k).getD j []).any fun c => inM s.side nat mark (tak c) && decide (src c ∈ S)) h0, ← List.append_assoc, List.map_append]
          show Ow K H7 l (_ ++ [Dt.str (nt (i + 1))])
          rw [← (rt_nt i (by omega)).1]
          exact hO7
      · refine ⟨((g3.same s34).same s5).same s6, ⟨_, _, _, rfl⟩, ?_⟩
        rw [filt_f (p := fun j => ((s.rule k).getD j []).any fun c => inM s.side nat mark (tak c) && decide (src c ∈ S)) h0]
        exact ((hO3.same s34).same s5).same s6
    · obtain ⟨⟨y7, y8, y9, rfl⟩, hO3⟩ := pv
      have s3 : Same H H3 := Go.dropS (s12.trans gB.to0) (Same.free s1 nl) g3
      rw [List.length_map, List.length_zip, List.length_map, List.length_map, show RT.length = 6 from rfl, Nat.min_eq_right (by omega)] at hO3
      refine q_tupS rfl hO3 fun v H6 s6 hv6 => q v H6 (s3.trans s6) ?_
      unfold nodesD strsD
      rw [List.map_map]
      exact hv6
end
end TPk
end F7_text

section F8_text
set_option Elab.async false
set_option linter.all false
set_option maxRecDepth 100000
set_option maxHeartbeats 4000000
/-! Walks: checks of two, a word shown. -/
namespace TPk
open PySem PySem.Spec PyProof.Rows L2
theorem sc_shown : FnScope ["side", "natural", "marks", "marked", "other", "kind", "mark"] ["side", "natural", "marks"] (defScope s_shown) := ⟨rfl, rfl, rfl, by decide +kernel, rfl, by decide +kernel, by decide +kernel⟩
section
variable {P : Program} {w : World} {K : PySem.W.Frag} {mg : Str → Option Value} {base : Heap} {m : Mo} {σ : L2.St} {H : Hp} {ta tb te to tk : TE}
theorem k_asg2 {d e : Dt} {i k : Nat} {D : Ends} {w : TS} (h : TPk.E K m0 te σ H (.tup [d, e])) (q : ∀ v u H1, Same H H1 → Is K H1 d v → Is K H1 e u → w D ((σ.set i (some v)).set k (some u)) H1) : tSeq (tAsg te (gTup K 2 (gCons (gName i) (gCons (gName k) gNil)))) w D σ H :=
  h.use0 fun x H1 s1 hx => g_two hx fun v u hv hu => q v u H1 s1 hv hu
theorem q_asg2 {d e : Dt} {i k : Nat} {D : Ends} (h : TPk.E K m0 te σ H (.tup [d, e])) (q : ∀ v u H1, Same H H1 → Is K H1 d v → Is K H1 e u → D.nx ((σ.set i (some v)).set k (some u)) H1) : tAsg te (gTup K 2 (gCons (gName i) (gCons (gName k) gNil))) D σ H :=
  h.use0 fun x H1 s1 hx => g_two hx fun v u hv hu => q v u H1 s1 hv hu
def R_check_statistic (K : PySem.W.Frag) : Hp → List Dt → Dt → Prop := fun H ds d => ∃ a s, ds = [.adr a] ∧ StatAt K H a s ∧ d = .non
theorem e_isS (T : Fx K mg) {a : Addr} {s : Stt Str} (h : TPk.E K m te σ H (.adr a)) (hs : StatAt K H a s) : TPk.E K m (tCB (rIsi K) (tCons te (tCons (tC (.ref (He.ga K "Statistic"))) tNil))) σ H (.bl true) := fun H1 g Q q => h.go g fun v H2 g2 hv => by
  obtain ⟨dx, k, st, ru, en, h0, _⟩ := hs.go (g.trans g2)
  cases hg : s.side with
  | true =>
    rw [hg] at h0
    obtain ⟨t1, t2⟩ := T.isa_g h0
    exact ⟨v, .ref (He.ga K "Statistic"), _, .ref (He.ga K "Statistic"), true, rfl, .own _, by rw [hv.adr_inv]; exact t1, t2, q _ _ H2 g2 (.bl _) rfl⟩
  | false =>
    rw [hg] at h0
    obtain ⟨t1, t2⟩ := T.isa_l h0
    exact ⟨v, .ref (He.ga K "Statistic"), _, .ref (He.ga K "Statistic"), true, rfl, .own _, by rw [hv.adr_inv]; exact t1, t2, q _ _ H2 g2 (.bl _) rfl⟩
theorem c_check_statistic (T : Fx K mg) : C8.Cal P w K mg base 1 "check_statistic" (Pu K (R_check_statistic K)) [] := by
  obtain ⟨fd, F⟩ := T.D.def_ 22
  refine ⟨_, fd, ["value"], [], ok0 F sc_check_statistic (fun vs H Q Er h => ?_) (fun cdv Ar outer sh H vs Q Er hr h => ?_), T.m_check_statistic, F.kp, F.bindsN (fun kV doc pm an cdv ct us hl => match us, hl with | [_], _ => rfl), .nil⟩
  · obtain ⟨ds, d, hI, ⟨a, s, rfl, hs, rfl⟩, q⟩ := h
    exact hI.length.symm
  · obtain ⟨ds, d, hI, ⟨a, s, rfl, hs, rfl⟩, q⟩ := h
    obtain ⟨v, rfl, h1⟩ := hI.inv1
    refine ⟨_, (pss_one (ps_if (pt_not (pt_val (pe_callB call_isi rfl T.f_isinstance (by decide +kernel) (pa_cons (pv 0) (pa_cons (C8.pe_gc rfl T.g_Statistic) pa_nil))))) (pss_one ps_never) pss_nil)), ?_⟩
    exact q_ifF ((t_not (t_B (e_isS T (e_var rfl h1) hs))).cast (by rfl)) fun H1 s1 => q _ H1 s1 .non
theorem kind_sf {k : Str} (h : KindOk k) : (Dt.str k).sf = true := by
  show k.cps.all (· < 0x110000) = true
  rw [← Array.all_toList]
  refine List.all_eq_true.mpr fun c hc => ?_
  have : ∀ c ∈ letters26.cps.toList, decide (c < 0x110000) = true := by decide +kernel
  exact this c (h.2.2 c hc)
theorem kinds_sf {ks : List Str} (h : KindsOk ks) : (ks.map Dt.str).all Dt.sf = true := by
  rw [List.all_map]
  exact List.all_eq_true.mpr fun k hk => kind_sf (h.2.2.1 k hk)
def R_check_two (K : PySem.W.Frag) : Hp → List Dt → Dt → Prop := fun H ds d => ∃ a s b t, ds = [.adr a, .adr b] ∧ StatAt K H a s ∧ StatAt K H b t ∧ s.side = t.side ∧ s.kinds = t.kinds ∧ KindsOk s.kinds ∧ d = .non
theorem c_check_two (T : Fx K mg) : C8.Cal P w K mg base 2 "check_two" (Pu K (R_check_two K)) [] := by
  have c_check_statistic := c_check_statistic (P := P) (w := w) (base := base) T
  obtain ⟨fd, F⟩ := T.D.def_ 23
  refine ⟨_, fd, ["one", "other"], [], ok0 F sc_check_two (fun vs H Q Er h => ?_) (fun cdv Ar outer sh H vs Q Er hr h => ?_), T.m_check_two, F.kp, F.bindsN (fun kV doc pm an cdv ct us hl => match us, hl with | [_, _], _ => rfl), .nil⟩
  · obtain ⟨ds, d, hI, ⟨a, s, b, t, rfl, _⟩, q⟩ := h
    exact hI.length.symm
  · obtain ⟨ds, d, hI, ⟨a, s, b, t, rfl, hs, ht, e1, e2, hk, rfl⟩, q⟩ := h
    obtain ⟨v, u, rfl, h1, h2⟩ := hI.inv2
    refine ⟨_, (pss_cons (ps_expr (C8.pe_c c_check_statistic hr (by decide) rfl (pa_cons (pv 0) pa_nil)))
    (pss_cons (ps_expr (C8.pe_c c_check_statistic hr (by decide) rfl (pa_cons (pv 1) pa_nil)))
    (pss_one (ps_if (PW.pt (pw_or (pt_cmpR op_ne (pe_con (pv 0) rfl) (pe_con (pv 1) rfl) (nomark _)) (pw_or1 (pt_cmpR (op_neD hr.units) (pe_fld (pv 0) rfl) (pe_fld (pv 1) rfl) (nomark _))))) (pss_one ps_never) pss_nil)))), ?_⟩
    refine k_drop (e_call (d := .non) (a_cons (e_var rfl h1) a_nil) fun H1 g => ⟨a, s, rfl, hs.go g, rfl⟩) fun H1 s1 => ?_
    refine k_drop (e_call (d := .non) (a_cons (e_var rfl (h2.same s1)) a_nil) fun H2 g => ⟨b, t, rfl, (ht.same s1).go g, rfl⟩) fun H2 s2 => ?_
    have s12 := s1.trans s2
    have hks := kinds_sf hk
    refine q_ifF ((t_or (t_test (e_ne (e_side T (e_var rfl (h1.same s12)) (hs.same s12)) (e_side T (e_var rfl (h2.same s12)) (ht.same s12)) rfl rfl rfl)) fun _ => t_test (e_neT (e_kinds T (e_var rfl (h1.same s12)) (hs.same s12)) (e_kinds T (e_var rfl (h2.same s12)) (ht.same s12)) hks (by rw [← e2]; exact hks))).cast ?_) fun H3 s3 => q _ H3 (s12.trans s3) .non
    rw [← e1, ← e2, SeqAt.eqv_refl _ (SeqAt.canLay_of_shaped (shaped_t hks)), decide_eq_true rfl]
    rfl
def R_check_flag : Hp → List Dt → Dt → Prop := fun _ ds d => ∃ b, ds = [.bl b] ∧ d = .non
theorem c_check_flag (T : Fx K mg) : C8.Cal P w K mg base 1 "check_flag" (Pu K R_check_flag) [] := by
  obtain ⟨fd, F⟩ := T.D.def_ 24
  refine ⟨_, fd, ["value"], [], ok0 F sc_check_flag (fun vs H Q Er h => ?_) (fun cdv Ar outer sh H vs Q Er hr h => ?_), T.m_check_flag, F.kp, F.bindsN (fun kV doc pm an cdv ct us hl => match us, hl with | [_], _ => rfl), .nil⟩
  · obtain ⟨ds, d, hI, ⟨b, rfl, rfl⟩, q⟩ := h
    exact hI.length.symm
  · obtain ⟨ds, d, hI, ⟨b, rfl, rfl⟩, q⟩ := h
    obtain ⟨v, rfl, h1⟩ := hI.inv1
    refine ⟨_, (pss_one (ps_if (pt_not (pt_val (pe_callB call_isi rfl T.f_isinstance (by decide +kernel) (pa_cons (pv 0) (pa_cons (pe_bltn (v := .ty "bool") rfl T.f_bool (by decide +kernel) rfl) pa_nil))))) (pss_one ps_never) pss_nil)), ?_⟩
    exact q_ifF ((t_not (t_B (e_isi (e_var rfl h1) rfl (by decide +kernel : kitB "bool" "bool" = some true)))).cast (by rfl)) fun H1 s1 => q _ H1 s1 .non
def wordD (w : Word Str) : Dt := .tup (w.map fun p => .tup [.str p.1, .bl p.2])
def R_shown : Hp → List Dt → Dt → Prop := fun _ ds d => ∃ g nat w, ds = [.str (sdT g), .bl nat, wordD w] ∧ w.length ≤ 100000 ∧ d = logD (shown g nat w)
theorem c_shown (T : Fx K mg) : C8.Cal P w K mg base 1 "shown" (Pu K R_shown) [] := by
  obtain ⟨fd, F⟩ := T.D.def_ 27
  refine ⟨_, fd, ["side", "natural", "marks"], [], ok0 F sc_shown (fun vs H Q Er h => ?_) (fun cdv Ar outer sh H vs Q Er hr h => ?_), T.m_shown, F.kp, F.bindsN (fun kV doc pm an cdv ct us hl => match us, hl with | [_, _, _], _ => rfl), .nil⟩
  · obtain ⟨ds, d, hI, ⟨g, nat, wd, rfl, _⟩, q⟩ := h
    exact hI.length.symm
  · obtain ⟨ds, d, hI, ⟨g, nat, wd, rfl, hz, rfl⟩, q⟩ := h
    obtain ⟨v1, v2, v3, rfl, h1, h2, h3⟩ := hI.inv3
    refine ⟨_, (pss_cons (ps_asg (pe_tup (pa_cons pe_int (pa_cons (pe_ifExp (pt_val (pv 1)) pe_int (pe_un un_neg pe_int)) pa_nil))) (pg_tup rfl (pgs_cons (pg_name (i := 3) sc_shown.nd rfl (Or.inr rfl)) (pgs_cons (pg_name (i := 4) sc_shown.nd rfl (Or.inr rfl)) pgs_nil))))
    (pss_cons (ps_if (pt_cmpR op_eq (pv 0) pe_str (nomark _)) (pss_one (ps_asg (pe_ifExp (pt_val (pv 1)) (pe_tup (pa_cons pe_int (pa_cons pe_int pa_nil))) (pe_tup (pa_cons (pe_un un_neg pe_int) (pa_cons pe_int pa_nil)))) (pg_tup rfl (pgs_cons (pg_name (i := 3) sc_shown.nd rfl (Or.inr rfl)) (pgs_cons (pg_name (i := 4) sc_shown.nd rfl (Or.inr rfl)) pgs_nil))))) pss_nil)
    (pss_one (ps_ret (pe_callTy call_tuple_of rfl T.f_tuple (by decide +kernel) (pa_cons (pe_lcF (own := [("kind", 5), ("mark", 6)]) rfl sc_shown.nd (pi_tup (pv 2)) (blkOk_by (by kernel_rfl)) (fun _ _ _ _ _ => (pg_tup rfl (pgs_cons (pg_name (i := 5) sc_shown.nd rfl (by first | exact Or.inl rfl | exact Or.inr rfl)) (pgs_cons (pg_name (i := 6) sc_shown.nd rfl (by first | exact Or.inl rfl | exact Or.inr rfl)) pgs_nil)))) (fun _ _ _ _ _ => pts_nil) (fun _ _ _ _ _ => (pe_tup (pa_cons (pv 5) (pa_cons (pe_ifExp (pt_val (pv 6)) (pv 3) (pv 4)) pa_nil))))) pa_nil)))))), ?_⟩
    refine k_asg2 (d := .int 1) (e := .int (if nat = true then 0 else -1)) (e_tup (a_cons e_int (a_cons (e_if (t_B (e_var rfl h2)) (fun e => ?_) (fun e => ?_)) a_nil)) (sz (by show 2 ≤ 100000; decide))) fun a1 a2 H1 s1 ha1 ha2 => ?_
    · rw [if_pos e]; exact e_int
    · rw [if_neg (by rw [e]; exact Bool.false_ne_true)]; exact e_neg e_int
    have fin : ∀ (b1 b2 : V) (H2 : Hp), Same H H2 → Is K H2 (.int (am g nat true)) b1 → Is K H2 (.int (am g nat false)) b2 → ∀ (σ' : L2.St), σ' = [some v1, some v2, some v3, some b1, some b2, none, none] →
        tCB (rTupOf K) (tCons (tLc (iTup K (tVar 2)) (gTup K 2 (gCons (gName 5) (gCons (gName 6) gNil))) tYes (tTup (tCons (tVar 5) (tCons (tIf (tB (tVar 6)) (tVar 3) (tVar 4)) tNil))) [5, 6]) tNil) σ' H2 Q := by
      intro b1 b2 H2 s2 hb1 hb2 σ' hσ
      subst hσ
      refine TPk.E.use0 (e_tupL ((l_map2 (f := fun d => match d with | .tup [.str x, .bl t] => evD x (am g nat t) | _ => .non) (i_tup (e_var rfl (h3.same s2))) (by rw [List.length_map]; exact sz hz) (fun d hd => ?_) fun j a b y z H6 hd6 g6 hy hz' => ?_).cast (es := (TPk.shown g nat wd).map fun (e : Str × Int) => evD e.1 e.2) ?_)) fun z H3 s3 hz' => q z H3 (s2.trans s3) hz'
      · obtain ⟨c, _, rfl⟩ := List.mem_map.mp hd
        exact ⟨_, _, rfl⟩
      · rw [List.getElem?_map] at hd6
        cases hh : wd[j]? with
        | none => rw [hh] at hd6; cases hd6
        | some p =>
          rw [hh] at hd6
          cases hd6
          refine e_tup (a_cons (e_var rfl hy) (a_cons (e_if (t_B (e_var rfl hz')) (fun e => ?_) (fun e => ?_)) a_nil)) (sz (by show 2 ≤ 100000; decide))
          · rw [e]; exact e_var rfl (hb1.go g6)
          · rw [e]; exact e_var rfl (hb2.go g6)
      · unfold shown
        refine List.map_map.trans ((List.map_congr_left fun c hm => ?_).trans List.map_map.symm)
        rfl
    cases g with
    | true =>
      refine k_no ((t_test (e_eq (e_var rfl (h1.same s1)) e_str rfl rfl rfl)).cast (by decide +kernel)) fun H2 s2 => ?_
      exact fin a1 a2 H2 (s1.trans s2) ((ha1.same s2)) (by have := ha2.same s2; cases nat <;> exact this) _ rfl
    | false =>
      refine k_yes ((t_test (e_eq (e_var rfl (h1.same s1)) e_str rfl rfl rfl)).cast (by decide +kernel)) fun H2 s2 => ?_
      refine q_asg2 (d := .int (am false nat true)) (e := .int (am false nat false)) (e_if (t_B (e_var rfl ((h2.same s1).same s2))) (fun e => ?_) (fun e => ?_)) fun b1 b2 H3 s3 hb1 hb2 => ?_
      · subst e; exact e_tup (a_cons e_int (a_cons e_int a_nil)) (sz (by show 2 ≤ 100000; decide))
      · subst e; exact e_tup (a_cons (e_neg e_int) (a_cons e_int a_nil)) (sz (by show 2 ≤ 100000; decide))
      exact fin b1 b2 H3 ((s1.trans s2).trans s3) hb1 hb2 _ rfl
end
end TPk
end F8_text

section F9_text
set_option Elab.async false
set_option linter.all false
set_option maxRecDepth 100000
set_option maxHeartbeats 4000000
/-! Walks: the walker. -/
namespace TPk
open PySem PySem.Spec PyProof.Rows L2
theorem sc_walk_init : FnScope ["self", "statistic", "natural"] ["self", "statistic", "natural"] (defScope s_walk_init) := ⟨rfl, rfl, rfl, by decide +kernel, rfl, by decide +kernel, by decide +kernel⟩
theorem sc_walk_call : FnScope ["self", "nodes", "kind", "mark", "key"] ["self", "nodes", "kind", "mark"] (defScope s_walk_call) := ⟨rfl, rfl, rfl, by decide +kernel, rfl, by decide +kernel, by decide +kernel⟩
/-! ### keys -/
theorem keys_map : ∀ ds : List Dt, Dt.keys ds = ds.map Dt.key
  | [] => rfl
  | d :: ds => congrArg (Dt.key d :: ·) (keys_map ds)
theorem pls_all : ∀ ds : List Dt, Dt.pls ds = ds.all Dt.pl
  | [] => rfl
  | d :: ds => congrArg (Dt.pl d && ·) (pls_all ds)
theorem strs_depth (xs : List Str) : NestedKey.depthAll (Dt.keys (xs.map Dt.str)) = 0 := by
  induction xs with
  | nil => rfl
  | cons x xs ih =>
    show max 0 (NestedKey.depthAll (Dt.keys (xs.map Dt.str))) = 0
    rw [ih]
    rfl
theorem nodes_depth (S : List Nat) : (nodesD S).key.depth = 1 := by
  show NestedKey.depthAll (Dt.keys ((S.map nt).map Dt.str)) + 1 = 1
  rw [strs_depth]
theorem nodes_pl (S : List Nat) : (nodesD S).pl = true := by
  show Dt.pls ((S.map nt).map Dt.str) = true
  rw [pls_all, List.all_map]
  exact List.all_eq_true.mpr fun _ _ => rfl
def keyD (S : List Nat) (k : Str) (mark : Bool) : Dt := .tup [nodesD S, .str k, .bl mark]
theorem keyD_ok (S : List Nat) (k : Str) (mark : Bool) : (keyD S k mark).ok := by
  refine ⟨?_, ?_⟩
  · show max (nodesD S).key.depth (max 0 (max 0 0)) + 1 ≤ 8
    rw [nodes_depth]
    decide
  · show ((nodesD S).pl && (true && (true && true))) = true
    rw [nodes_pl]
    rfl
theorem nts_inj : ∀ {S S' : List Nat}, (∀ y ∈ S, y < 7) → (∀ y ∈ S', y < 7) → S.map nt = S'.map nt → S = S'
  | [], [], _, _, _ => rfl
  | [], _ :: _, _, _, h => by cases h
  | _ :: _, [], _, _, h => by cases h
  | a :: S, b :: S', h1, h2, h => by
    rw [List.map_cons, List.map_cons] at h
    injection h with e1 e2
    rw [nt_inj a (h1 a (by simp)) b (h2 b (by simp)) e1, nts_inj (fun y hy => h1 y (by simp [hy])) (fun y hy => h2 y (by simp [hy])) e2]
theorem strs_key_inj : ∀ {xs ys : List Str}, Dt.keys (xs.map Dt.str) = Dt.keys (ys.map Dt.str) → xs = ys
  | [], [], _ => rfl
  | [], _ :: _, h => by cases h
  | _ :: _, [], h => by cases h
  | x :: xs, y :: ys, h => by
    have h : NestedKey.text x :: Dt.keys (xs.map Dt.str) = NestedKey.text y :: Dt.keys (ys.map Dt.str) := h
    injection h with e1 e2
    injection e1 with e1
    rw [e1, strs_key_inj e2]
theorem nodes_key_inj {S S' : List Nat} (h1 : ∀ y ∈ S, y < 7) (h2 : ∀ y ∈ S', y < 7) (h : (nodesD S).key = (nodesD S').key) : S = S' := by
  have h : NestedKey.tup (Dt.keys ((S.map nt).map Dt.str)) = NestedKey.tup (Dt.keys ((S'.map nt).map Dt.str)) := h
  injection h with h
  exact nts_inj h1 h2 (strs_key_inj h)
theorem keyD_inj {S S' : List Nat} {k k' : Str} {m m' : Bool} (h1 : ∀ y ∈ S, y < 7) (h2 : ∀ y ∈ S', y < 7) (h : (keyD S k m).key = (keyD S' k' m').key) : S = S' ∧ k = k' ∧ m = m' := by
  have h : NestedKey.tup [(nodesD S).key, .text k, .num (if m = true then 1 else 0)] = NestedKey.tup [(nodesD S').key, .text k', .num (if m' = true then 1 else 0)] := h
  injection h with h
  injection h with e1 h
  injection h with e2 h
  injection h with e3 _
  injection e2 with e2
  injection e3 with e3
  refine ⟨nodes_key_inj h1 h2 e1, e2, ?_⟩
  cases m <;> cases m' <;> first | rfl | cases e3
theorem atV_some {xs : List NEnt} {k : NestedKey} {v : V} (h : atV xs k = some v) : ∃ x ∈ xs, x.1 = k ∧ x.2.2 = v := by
  unfold atV at h
  cases e : xs.find? fun x => decide (x.1 = k) with
  | none => rw [e] at h; cases h
  | some x =>
    rw [e] at h
    have := List.find?_some e
    exact ⟨x, List.mem_of_find?_eq_some e, of_decide_eq_true this, Option.some.inj h⟩
section
variable {P : Program} {w : World} {K : PySem.W.Frag} {mg : Str → Option Value} {base : Heap} {m : Mo} {σ : L2.St} {H : Hp} {ta tb te : TE}
/-! ### a walker as an object -/
def WalkAt (K : PySem.W.Frag) (H : Hp) (x a : Addr) (nat : Bool) (d : Addr) : Prop := ∃ dx, H x = some (.ins (He.ga K "Walker") dx [("owner", .ref a), ("widely", .bl nat), ("seen", .ref d)])
theorem WalkAt.tk {H' : Hp} {x a d : Addr} {nat : Bool} (h : WalkAt K H x a nat d) (e : TK H H') : WalkAt K H' x a nat d := let ⟨dx, h⟩ := h; ⟨dx, e _ _ h True.intro⟩
def Seen (P : Program) (w : World) (K : PySem.W.Frag) (H : Hp) (d : Addr) (s : Stt Str) (nat : Bool) (n : Nat) : Prop := ∃ xs : List NEnt, xs.length ≤ n ∧ H d = some (ND P w d xs) ∧ KeysIn K H xs ∧
  ∀ x ∈ xs, ∀ S k mark, (∀ y ∈ S, y < 7) → (keyD S k mark).key = x.1 → Is K H (nodesD (s.mv nat S k mark)) x.2.2
theorem Seen.kp {F : Addr → Prop} {H' : Hp} {d : Addr} {s : Stt Str} {nat : Bool} {n : Nat} (h : Seen P w K H d s nat n) (e : Kp F H H') (hF : ¬ F d) : Seen P w K H' d s nat n := by
  obtain ⟨xs, h1, h2, h3, h4⟩ := h
  exact ⟨xs, h1, e _ _ h2 fun z => (hF z).elim, h3.tk e.tk, fun x hx S k mark hS hk => (h4 x hx S k mark hS hk).tk e.tk⟩
theorem Same.kp {F : Addr → Prop} {H' : Hp} (s : Same H H') : Kp F H H' := fun b o h _ => s b o h
theorem Kp.trans {F : Addr → Prop} {H1 H2 : Hp} (a : Kp F H H1) (b : Kp F H1 H2) : Kp F H H2 := fun x o h i => b x o (a x o h i) i
theorem kp_upd {d : Addr} {o : HO} {xs : List NEnt} (h : H d = some (ND P w d xs)) : Kp (· = d) H (upd H d o) := fun b u hb i => by
  by_cases e : b = d
  · subst e
    rw [h] at hb
    cases hb
    exact (i rfl).elim
  · rw [upd_ne e]; exact hb
theorem nget_at {d b : Addr} {xs : List NEnt} {dt : Dt} (h : H d = some (ND P w d xs)) (hk : KeysIn K H xs) (hb : Is K H dt (.ref b)) (ho : dt.ok) : NGet P w K H (.ref d) (.ref b) (atV xs dt.key) := ⟨d, xs, dt, b, rfl, h, hk, rfl, hb, ho, rfl⟩
theorem e_wfld (T : Fx K mg) {x a d : Addr} {nat : Bool} (h : TPk.E K m te σ H (.adr x)) (hw : WalkAt K H x a nat d) : TPk.E K m (tFld K te "owner") σ H (.adr a) ∧ TPk.E K m (tFld K te "widely") σ H (.bl nat) ∧ TPk.E K m (tFld K te "seen") σ H (.adr d) := by
  refine ⟨fun H1 g Q q => h.go g fun v H2 g2 hv => ?_, fun H1 g Q q => h.go g fun v H2 g2 hv => ?_, fun H1 g Q q => h.go g fun v H2 g2 hv => ?_⟩
  · obtain ⟨dx, h0⟩ := hw.tk (g.trans g2).tk
    exact ⟨x, _, dx, _, .ref a, hv.adr_inv, h0, T.cls_Walker, T.no_Walker_owner, rfl, q _ _ H2 g2 (.adr a) rfl⟩
  · obtain ⟨dx, h0⟩ := hw.tk (g.trans g2).tk
    exact ⟨x, _, dx, _, .bl nat, hv.adr_inv, h0, T.cls_Walker, T.no_Walker_widely, rfl, q _ _ H2 g2 (.bl nat) rfl⟩
  · obtain ⟨dx, h0⟩ := hw.tk (g.trans g2).tk
    exact ⟨x, _, dx, _, .ref d, hv.adr_inv, h0, T.cls_Walker, T.no_Walker_seen, rfl, q _ _ H2 g2 (.adr d) rfl⟩
theorem e_nget {d : Addr} {xs : List NEnt} {ds : List Dt} {v : V} {e : Dt} (ho : TPk.E K m ta σ H (.adr d)) (hk : TPk.E K m tb σ H (.tup ds)) (hx : H d = some (ND P w d xs)) (hd : ¬ m.M d) (hks : KeysIn K H xs) (hok : (Dt.tup ds).ok) (hv : atV xs (Dt.tup ds).key = some v) (he : Is K H e v) :
    TPk.E K m (tNGet P w K ta tb) σ H e := fun H1 g Q q => ho.go g fun x H2 g2 hx2 => hk.go (g.trans g2) fun y H3 g3 hy => by
  have g4 := (g.trans g2).trans g3
  obtain ⟨b, _, rfl, _⟩ := hy.inv
  rw [hx2.adr_inv]
  exact ⟨v, by rw [← hv]; exact nget_at (g4.1 d _ hx fun z => (hd z).elim) (hks.tk g4.tk) hy hok, q v e H3 (g2.trans g3) (he.go g4) rfl⟩
theorem e_nnotin {d : Addr} {xs : List NEnt} {ds : List Dt} (hk : TPk.E K m tb σ H (.tup ds)) (ho : TPk.E K m ta σ H (.adr d)) (hx : H d = some (ND P w d xs)) (hd : ¬ m.M d) (hks : KeysIn K H xs) (hok : (Dt.tup ds).ok) :
    TPk.E K m (tNNotIn P w K tb ta) σ H (.bl (!(atV xs (Dt.tup ds).key).isSome)) := fun H1 g Q q => hk.go g fun y H2 g2 hy => ho.go (g.trans g2) fun x H3 g3 hx3 => by
  have g4 := (g.trans g2).trans g3
  have hy3 := hy.go g3
  obtain ⟨b, _, rfl, _⟩ := hy.inv
  rw [hx3.adr_inv]
  exact ⟨_, nget_at (g4.1 d _ hx fun z => (hd z).elim) (hks.tk g4.tk) hy3 hok, q _ _ H3 (g2.trans g3) (.bl _) rfl⟩
/-- d[key] = v -/
theorem q_setn {d : Addr} {xs : List NEnt} {ds : List Dt} {e : Dt} {D : Ends} (he : TPk.E K m0 te σ H e) (ho : ∀ H1, Same H H1 → TPk.E K m0 ta σ H1 (.adr d)) (hk : ∀ H1, Same H H1 → TPk.E K m0 tb σ H1 (.tup ds)) (hx : H d = some (ND P w d xs)) (hks : KeysIn K H xs) (hok : (Dt.tup ds).ok) (hn : atV xs (Dt.tup ds).key = none) (hl : xs.length < sizeLine)
    (q : ∀ v b H1, Kp (· = d) H H1 → H1 d = some (ND P w d (xs ++ [((Dt.tup ds).key, b, v)])) → KeysIn K H1 (xs ++ [((Dt.tup ds).key, b, v)]) → Is K H1 e v → D.nx σ H1) : tAsg te (gSub ta tb (rSetN P w K)) D σ H :=
  he.use0 fun v H1 s1 hv => (ho H1 s1).use0 fun x H2 s2 hx2 => (hk H2 (s1.trans s2)).use0 fun y H3 s3 hy => by
    have s13 := (s1.trans s2).trans s3
    have hy' := hy
    obtain ⟨b, _, rfl, _⟩ := hy.inv
    have hx3 := s13 _ _ hx
    have kp : Kp (· = d) H3 (upd H3 d (ND P w d (xs ++ [((Dt.tup ds).key, b, v)]))) := kp_upd hx3
    rw [hx2.adr_inv]
    exact ⟨d, xs, .tup ds, b, rfl, hx3, hks.tk (Same.tk s13), rfl, hy', hok, hn, hl, q v b _ ((Same.kp s13).trans kp) upd_same (((hks.tk (Same.tk s13)).tk kp.tk).snoc (hy'.tk kp.tk) hok) (((hv.same s2).same s3).tk kp.tk)⟩
/-! ### made -/
def spWInit (P : Program) (w : World) (K : PySem.W.Frag) : Sp := fun vs H Q _ => ∃ (x dx a : Addr) (nat : Bool), vs = [.ref x, .ref a, .bl nat] ∧ H x = some (.ins (He.ga K "Walker") dx []) ∧
  ∀ d H', H d = none → (∀ b o, b ≠ x → H b = some o → H' b = some o) → WalkAt K H' x a nat d → H' d = some (ND P w d []) → Q .non H'
theorem ok_winit (T : Fx K mg) : C8.Mak P w K mg base 1 "Walker" (He.ga K "Walker") (spWInit P w K) [] := by
  obtain ⟨fd, F⟩ := T.D.def_ 59
  obtain ⟨ds0, hd0, b0⟩ := F.binds1 (ps := ["self", "statistic", "natural"]) 3 1 (by intro z; cases z) rfl (fun T kV doc pm an cdv ct us its h1 h2 => match us, its, h1, h2 with | [_, _, _], [_], _, _ => ⟨_, rfl, rfl⟩)
  cases hd0
  refine ⟨_, fd, ["self", "statistic", "natural"], [], T.mk_Walker, ok0 F sc_walk_init (fun vs H Q Er h => ?_) (fun cdv Ar outer sh H vs Q Er hr h => ?_), T.m_Walker, b0, .nil⟩
  · obtain ⟨x, dx, a, nat, rfl, _⟩ := h
    rfl
  · obtain ⟨x, dx, a, nat, rfl, hx, q⟩ := h
    refine ⟨_, (pss_cons (ps_fld (pv 0) (pv 1) rfl)
    (pss_cons (ps_fld (pv 0) (pv 2) rfl)
    (pss_one (ps_fld (pv 0) pe_nnew rfl)))), ?_⟩
    refine ⟨.ref a, rfl, .ref x, rfl, x, _, dx, [], rfl, hx, T.cls_Walker, T.no_Walker_owner, (by decide : 0 < 1000), ?_⟩
    refine ⟨.bl nat, rfl, .ref x, rfl, x, _, dx, [("owner", .ref a)], rfl, upd_same, T.cls_Walker, T.no_Walker_widely, (by decide : 1 < 1000), ?_⟩
    intro d hd
    have hdx : d ≠ x := fun e => by rw [e, upd_same] at hd; cases hd
    have hd0 : H d = none := by
      rw [upd_ne hdx, upd_ne hdx] at hd
      exact hd
    refine ⟨.ref x, rfl, x, _, dx, [("owner", .ref a), ("widely", .bl nat)], rfl, by rw [upd_ne hdx.symm]; exact upd_same, T.cls_Walker, T.no_Walker_seen, (by decide : 2 < 1000), ?_⟩
    refine q d _ hd0 (fun b o hb e => ?_) ⟨dx, upd_same⟩ ?_
    · have hbd : b ≠ d := ne_of_none e hd0
      rw [upd_ne hb, upd_ne hbd, upd_ne hb, upd_ne hb]
      exact e
    · rw [upd_ne hdx]
      exact upd_same
/-! ### called -/
def spW (P : Program) (w : World) (K : PySem.W.Frag) : Sp := fun vs H Q _ => ∃ (x a d : Addr) (s : Stt Str) (nat : Bool) (n : Nat) (S : List Nat) (k : Str) (mark : Bool) (v1 v2 v3 : V), vs = [.ref x, v1, v2, v3] ∧ WalkAt K H x a nat d ∧ StatAt K H a s ∧ SV s ∧ Is K H (nodesD S) v1 ∧ Is K H (.str k) v2 ∧ Is K H (.bl mark) v3 ∧
  k ∈ s.kinds ∧ (∀ y ∈ S, y < 7) ∧ Seen P w K H d s nat n ∧ n < 10000000 ∧ ∀ v H', Kp (· = d) H H' → Seen P w K H' d s nat (n + 1) → Is K H' (nodesD (s.mv nat S k mark)) v → Q v H'
theorem ok_wcall (T : Fx K mg) : Met0 P w K mg base 4 "Walker" "__call__" (spW P w K) := by
  have c_moved := c_moved (P := P) (w := w) (base := base) T
  obtain ⟨fd, F⟩ := T.D.def_ 60
  refine ⟨fd, ["self", "nodes", "kind", "mark"], ok0 F sc_walk_call (fun vs H Q Er h => ?_) (fun cdv Ar outer sh H vs Q Er hr h => ?_), F.kp, F.bindsN (fun kV doc pm an cdv ct us hl => match us, hl with | [_, _, _, _], _ => rfl)⟩
  · obtain ⟨x, a, d, s, nat, n, S, k, mark, v1, v2, v3, rfl, _⟩ := h
    rfl
  · obtain ⟨x, a, d, s, nat, n, S, k, mark, v1, v2, v3, rfl, hw, hs, hv, h1, h2, h3, hk, hS, hse, hn, q⟩ := h
    refine ⟨_, (pss_cons (ps_set (i := 4) sc_walk_call.nd rfl (Or.inl rfl) (pe_tup (pa_cons (pv 1) (pa_cons (pv 2) (pa_cons (pv 3) pa_nil)))))
    (pss_cons (ps_if (pt_cmp (pc_nnotin hr.units (pv 4) (pe_fld (pv 0) rfl))) (pss_one (ps_asg (C8.pe_c c_moved hr (by decide) rfl (pa_cons (pe_fld (pv 0) rfl) (pa_cons (pv 1) (pa_cons (pv 2) (pa_cons (pv 3) (pa_cons (pe_fld (pv 0) rfl) pa_nil)))))) (pg_sub (pe_fld (pv 0) rfl) (pv 4) (set_n hr.units)))) pss_nil)
    (pss_one (ps_ret (pe_nget hr.units (pe_fld (pv 0) rfl) (pv 4) (fun _ _ => rfl)))))), ?_⟩
    refine k_set (d := keyD S k mark) (e_tup (a_cons (e_var rfl h1) (a_cons (e_var rfl h2) (a_cons (e_var rfl h3) a_nil))) (sz (by show 3 ≤ 100000; decide))) fun kv H1 s1 hkv => ?_
    have hse1 := hse.kp (Same.kp (F := fun _ => False) s1) (fun z => z)
    obtain ⟨xs, hx1, hx2, hx3, hx4⟩ := id hse1
    have hw1 := hw.tk (Same.tk s1)
    have hs1 := hs.same s1
    have eself : ∀ {H'}, TPk.E K m0 (tVar 0) [some (V.ref x), some v1, some v2, some v3, some kv] H' (.adr x) := e_var rfl (.adr x)
    refine k_ite (t_B (e_nnotin (e_var rfl hkv) (e_wfld T eself hw1).2.2 hx2 not0 hx3 (keyD_ok S k mark))) (fun h0 H2 s2 => ?_) (fun h0 H2 s2 => ?_)
    · have e : atV xs (keyD S k mark).key = none := by
        cases e : atV xs (keyD S k mark).key with
        | none => rfl
        | some v => rw [show (Dt.tup [nodesD S, .str k, .bl mark]) = keyD S k mark from rfl, e] at h0; cases h0
      have hw2 := hw1.tk (Same.tk s2)
      refine q_setn (P := P) (w := w) (xs := xs) (d := d) (e_call (d := nodesD (s.mv nat S k mark)) (a_cons (e_wfld T eself hw2).1 (a_cons (e_var rfl ((h1.same s1).same s2)) (a_cons (e_var rfl ((h2.same s1).same s2)) (a_cons (e_var rfl ((h3.same s1).same s2)) (a_cons (e_wfld T eself hw2).2.1 a_nil))))) fun H3 g3 => ⟨a, s, S, k, mark, nat, rfl, (hs1.same s2).go g3, hv, hk, hS, rfl⟩)
        (fun H3 s3 => (e_wfld T eself (hw2.tk (Same.tk s3))).2.2) (fun H3 s3 => e_var rfl ((hkv.same s2).same s3)) (s2 _ _ hx2) (hx3.tk (Same.tk s2)) (keyD_ok S k mark) e (Nat.lt_of_le_of_lt hx1 (Nat.lt_trans hn (by decide))) fun v b H5 kp5 hd5 hk5 hv5 => ?_
      refine q_ret (e_nget (P := P) (w := w) (e_wfld T eself (hw2.tk kp5.tk)).2.2 (e_var rfl ((hkv.same s2).tk kp5.tk)) hd5 not0 hk5 (keyD_ok S k mark) (v := v) ?_ hv5) fun u H6 s6 hu => ?_
      · rw [atV_snoc, show atV xs (Dt.tup [nodesD S, .str k, .bl mark]).key = none from e, if_pos rfl]
      · have kp6 : Kp (· = d) H H6 := ((Same.kp (s1.trans s2)).trans kp5).trans (Same.kp s6)
        have kp56 : Kp (· = d) H1 H6 := ((Same.kp s2).trans kp5).trans (Same.kp s6)
        refine q u H6 kp6 ⟨_, ?_, s6 _ _ hd5, hk5.tk (Same.tk s6), fun y hy S' k' mark' hS' hkey => ?_⟩ hu
        · rw [List.length_append]; simp only [List.length_cons, List.length_nil]; omega
        · rcases List.mem_append.mp hy with hy | hy
          · exact (hx4 y hy S' k' mark' hS' hkey).tk kp56.tk
          · have e2 : y = ((keyD S k mark).key, b, v) := List.mem_singleton.mp hy
            subst e2
            obtain ⟨rfl, rfl, rfl⟩ := keyD_inj hS' hS hkey
            exact hv5.same s6
    · cases e : atV xs (keyD S k mark).key with
      | none => rw [show (Dt.tup [nodesD S, .str k, .bl mark]) = keyD S k mark from rfl, e] at h0; cases h0
      | some v =>
        obtain ⟨y, hy, ey, rfl⟩ := atV_some e
        refine q_ret (e_nget (P := P) (w := w) (e_wfld T eself (hw1.tk (Same.tk s2))).2.2 (e_var rfl (hkv.same s2)) (s2 _ _ hx2) not0 (hx3.tk (Same.tk s2)) (keyD_ok S k mark) e ((hx4 y hy S k mark hS ey.symm).same s2)) fun u H3 s3 hu => ?_
        have s23 := s2.trans s3
        exact q u H3 (Same.kp (s1.trans s23)) (by
          obtain ⟨xs', z1, z2, z3, z4⟩ := hse1.kp (Same.kp (F := fun _ => False) s23) (fun z => z)
          exact ⟨xs', by omega, z2, z3, z4⟩) hu
theorem co_walk (T : Fx K mg) : StX.CallO K (He.ga K "Walker") (He.ma K (He.ga K "Walker") "__call__") := ⟨T.cl_call_w.1, T.cl_call_w.2.1, T.cl_call_w.2.2⟩
end
end TPk
end F9_text

section F10_text
set_option Elab.async false
set_option linter.all false
set_option maxRecDepth 100000
set_option maxHeartbeats 4000000
/-! Walks: the way back. -/
namespace TPk
open PySem PySem.Spec PyProof.Rows L2
theorem sc_letters_to : FnScope ["before", "pair", "found", "letter"] ["before", "pair"] (defScope s_letters_to) := ⟨rfl, rfl, rfl, by decide +kernel, rfl, by decide +kernel, by decide +kernel⟩
def pairD (p : Pr) : Dt := .tup [nodesD p.1, nodesD p.2]
def letD (l : Str × Bool) : Dt := .tup [.str l.1, .bl l.2]
def parD : Option (Pr × (Str × Bool)) → Dt
  | none => .non
  | some q => .tup [pairD q.1, letD q.2]
abbrev En : Type := Ent Pr (Str × Bool)
def Small (p : Pr) : Prop := (∀ y ∈ p.1, y < 7) ∧ ∀ y ∈ p.2, y < 7
theorem pairD_ok (p : Pr) : (pairD p).ok := by
  refine ⟨?_, ?_⟩
  · show max (nodesD p.1).key.depth (max (nodesD p.2).key.depth 0) + 1 ≤ 8
    rw [nodes_depth, nodes_depth]
    decide
  · show ((nodesD p.1).pl && ((nodesD p.2).pl && true)) = true
    rw [nodes_pl, nodes_pl]
    rfl
theorem pairD_inj {p q : Pr} (hp : Small p) (hq : Small q) (h : (pairD p).key = (pairD q).key) : p = q := by
  have h : NestedKey.tup [(nodesD p.1).key, (nodesD p.2).key] = NestedKey.tup [(nodesD q.1).key, (nodesD q.2).key] := h
  injection h with h
  injection h with e1 h
  injection h with e2 _
  exact Prod.ext (nodes_key_inj hp.1 hq.1 e1) (nodes_key_inj hp.2 hq.2 e2)
section
variable {P : Program} {w : World} {K : PySem.W.Frag} {mg : Str → Option Value} {base : Heap} {m : Mo} {σ : L2.St} {H : Hp} {ta tb te : TE}
/-- the dict of what was reached -/
def Bef (P : Program) (w : World) (K : PySem.W.Frag) (H : Hp) (bd : Addr) (bs : List En) : Prop := ∃ xs : List NEnt, xs.length = bs.length ∧ H bd = some (ND P w bd xs) ∧ KeysIn K H xs ∧
  ∀ (i : Nat) (e : En) (x : NEnt), bs[i]? = some e → xs[i]? = some x → x.1 = (pairD e.st).key ∧ Is K H (parD e.par) x.2.2
theorem Bef.kp {F : Addr → Prop} {H' : Hp} {bd : Addr} {bs : List En} (h : Bef P w K H bd bs) (e : Kp F H H') (hF : ¬ F bd) : Bef P w K H' bd bs := by
  obtain ⟨xs, h1, h2, h3, h4⟩ := h
  exact ⟨xs, h1, e _ _ h2 fun z => (hF z).elim, h3.tk e.tk, fun i en x hi hx => ⟨(h4 i en x hi hx).1, (h4 i en x hi hx).2.tk e.tk⟩⟩
theorem bef_none {xs : List NEnt} {bs : List En} (hl : xs.length = bs.length) (h : ∀ (i : Nat) (e : En) (x : NEnt), bs[i]? = some e → xs[i]? = some x → x.1 = (pairD e.st).key) (hs : ∀ e ∈ bs, Small e.st) {p : Pr} (hp : Small p) (hn : p ∉ bs.map Ent.st) : atV xs (pairD p).key = none := by
  unfold atV
  rw [List.find?_eq_none.mpr]
  · rfl
  · intro x hx
    obtain ⟨i, hi⟩ := List.getElem?_of_mem hx
    have hlt : i < bs.length := by rw [← hl]; exact (List.getElem?_eq_some_iff.mp hi).1
    have he : bs[i]? = some bs[i] := List.getElem?_eq_getElem hlt
    have hx1 := h i _ x he hi
    have hm : bs[i] ∈ bs := List.getElem_mem hlt
    simp only [decide_eq_true_eq]
    intro z
    rw [hx1] at z
    exact hn (List.mem_map.mpr ⟨_, hm, pairD_inj (hs _ hm) hp z⟩)
theorem bef_some {xs : List NEnt} {bs : List En} (hl : xs.length = bs.length) (h : ∀ (i : Nat) (e : En) (x : NEnt), bs[i]? = some e → xs[i]? = some x → x.1 = (pairD e.st).key ∧ Is K H (parD e.par) x.2.2) (hs : ∀ e ∈ bs, Small e.st) (nd : (bs.map Ent.st).Nodup) {j : Nat} {e : En} (he : bs[j]? = some e) :
    ∃ v, atV xs (pairD e.st).key = some v ∧ Is K H (parD e.par) v := by
  have hj : j < xs.length := by rw [hl]; exact (List.getElem?_eq_some_iff.mp he).1
  have hx : xs[j]? = some xs[j] := List.getElem?_eq_getElem hj
  cases ha : atV xs (pairD e.st).key with
  | none =>
    exfalso
    unfold atV at ha
    rw [Option.map_eq_none_iff, List.find?_eq_none] at ha
    exact ha _ (List.getElem_mem hj) (decide_eq_true (h j e _ he hx).1)
  | some v =>
    obtain ⟨y, hy, ey, rfl⟩ := atV_some ha
    obtain ⟨i, hi⟩ := List.getElem?_of_mem hy
    have hlt : i < bs.length := by rw [← hl]; exact (List.getElem?_eq_some_iff.mp hi).1
    have he' : bs[i]? = some bs[i] := List.getElem?_eq_getElem hlt
    obtain ⟨q1, q2⟩ := h i _ y he' hi
    have hst : bs[i].st = e.st := pairD_inj (hs _ (List.getElem_mem hlt)) (hs e (List.mem_of_getElem? he)) (by rw [← q1, ey])
    have hij : i = j := by
      have z1 : (bs.map Ent.st)[i]? = some e.st := by rw [List.getElem?_map, he']; exact congrArg some hst
      have z2 : (bs.map Ent.st)[j]? = some e.st := by rw [List.getElem?_map, he]; rfl
      exact nd_ix nd z1 z2
    subst hij
    rw [he] at he'
    cases he'
    exact ⟨_, rfl, q2⟩
theorem bip_small {a b : Stt Str} (ha : a.Six) (hb : b.Six) {nat half : Bool} {bs : List En} {n i : Nat} (B : BIP a b nat half bs n i) : ∀ e ∈ bs, Small e.st := fun e he => by
  obtain ⟨h1, h2⟩ := bi_setOk ha hb B e.st (List.mem_map.mpr ⟨e, he, rfl⟩)
  exact ⟨h1.2, h2.2⟩
theorem dp_le {a b : Stt Str} {nat half : Bool} {bs : List En} {n i : Nat} (B : BIP a b nat half bs n i) : ∀ (j : Nat) (e : En), bs[j]? = some e → e.dp ≤ j := by
  intro j
  induction j using Nat.strongRecOn with
  | ind j ih =>
    intro e he
    cases j with
    | zero =>
      obtain ⟨e', q1, _, _, q4⟩ := B.h0
      rw [he] at q1
      cases q1
      omega
    | succ j =>
      obtain ⟨k, f, l, h1, h2, _, _, _, h6⟩ := B.par (j + 1) e (by omega) he
      have := ih k h1 f h2
      omega
theorem IsAll.rev {ds : List Dt} {vs : List V} (h : IsAll K H ds vs) : IsAll K H ds.reverse vs.reverse := by
  induction ds generalizing vs with
  | nil => cases h; exact .nil
  | cons d ds ih =>
    obtain ⟨v, us, rfl, h1, h2⟩ := h.invc
    rw [List.reverse_cons, List.reverse_cons]
    exact (ih h2).snoc h1
theorem l_revS {i : Nat} {l : Addr} {ds : List Dt} (hb : σ[i]? = some (some (.ref l))) (hl : Li K m H l ds) : LE K m (tRevL K (tVar i)) σ H ds.reverse := fun H1 g Q q => ⟨_, hb, by
  obtain ⟨vs, hq, hi⟩ := (hl.go g).sq
  exact ⟨l, vs, rfl, hq, fun p hp => q p _ _ hp (g.again.new hp) ⟨_, upd_same, Go.notM g.2 hp, hi.rev.tk (tk_new hp)⟩ rfl⟩⟩
def spLT (P : Program) (w : World) (K : PySem.W.Frag) : Sp := fun vs H Q _ => ∃ (bd : Addr) (pw : V) (a b : Stt Str) (nat half : Bool) (bs : List En) (n : Nat) (c : En), vs = [.ref bd, pw] ∧ a.Six ∧ b.Six ∧ BIP a b nat half bs n 0 ∧ bs[n]? = some c ∧ goalP a b half c.st = true ∧ Bef P w K H bd bs ∧ Is K H (pairD c.st) pw ∧
  ∀ v H' wd, Same H H' → Told a b nat half (some wd) → Is K H' (wordD wd) v → Q v H'
theorem c_letters_to (T : Fx K mg) : C8.Cal P w K mg base 1 "letters_to" (spLT P w K) [] := by
  obtain ⟨fd, F⟩ := T.D.def_ 25
  refine ⟨_, fd, ["before", "pair"], [], ok0 F sc_letters_to (fun vs H Q Er h => ?_) (fun cdv Ar outer sh H vs Q Er hr h => ?_), T.m_letters_to, F.kp, F.bindsN (fun kV doc pm an cdv ct us hl => match us, hl with | [_, _], _ => rfl), .nil⟩
  · obtain ⟨bd, pw, a, b, nat, half, bs, n, c, rfl, _⟩ := h
    rfl
  · obtain ⟨bd, pw, a, b, nat, half, bs, n, c, rfl, h6a, h6b, B, hc, hg, hB, hp, q⟩ := h
    refine ⟨_, (pss_cons (ps_set (i := 2) sc_letters_to.nd rfl (Or.inl rfl) (pe_lst pa_nil))
    (pss_cons (ps_while PassesOwn.never (pt_cmpR op_notN (pe_nget hr.units (pv 0) (pv 1) (fun _ _ => rfl)) pe_non (nomark _)) (pss_cons (ps_asg (pe_nget hr.units (pv 0) (pv 1) (fun _ _ => rfl)) (pg_tup rfl (pgs_cons (pg_name (i := 1) sc_letters_to.nd rfl (Or.inl rfl)) (pgs_cons (pg_name (i := 3) sc_letters_to.nd rfl (Or.inl rfl)) pgs_nil))))
    (pss_one (ps_expr (pe_bm PySem.F.plainAttrs_list PySem.F.slot_list_append PySem.F.type_list_append mt_append (pv 2) (pa_cons (pv 3) pa_nil))))))
    (pss_one (ps_ret (pe_callTy call_tuple_of rfl T.f_tuple (by decide +kernel) (pa_cons (pe_revL (pv 2)) pa_nil)))))), ?_⟩
    refine k_setL (K := K) (l_lst a_nil (Nat.zero_le _)) fun l H1 nl s1 hO => ?_
    have hB1 := hB.kp (Same.kp (F := fun _ => False) s1) (fun z => z)
    have hbl : bd ≠ l := by
      obtain ⟨xs, _, e, _⟩ := hB
      exact ne_of_none e nl
    have hcb := bi_bound h6a h6b B
    have hcd := dp_le B n c hc
    have hnb : n < bs.length := (List.getElem?_eq_some_iff.mp hc).1
    refine ⟨fun mm σ' H' => ∃ (e : En) (fs : List (Str × Bool)) (pw' : V) (y3 : Option V), σ' = [some (.ref bd), some pw', some (.ref l), y3] ∧ mm = e.dp ∧ Go (m0.add l not0) H1 H' ∧ Back (stepP a b nat) (letters a.kinds) bs c e fs ∧ Is K H' (pairD e.st) pw' ∧ Ow K H' l (fs.map letD),
      ⟨c.dp, c, [], pw, none, rfl, rfl, .refl (add_j True.intro hO), back_start hc, hp.same s1, hO⟩, ?_⟩
    rintro mm σ' H' ⟨e, fs, pw', y3, rfl, rfl, gH, hbk, hpv, hO'⟩
    obtain ⟨⟨j, hj⟩, k1, k2, k3⟩ := id hbk
    have hB' : Bef P w K H' bd bs := hB1.kp gH.1 fun z => (z.elim (fun y => y) hbl).elim
    obtain ⟨xs, x1, x2, x3, x4⟩ := id hB'
    obtain ⟨v, hv1, hv2⟩ := bef_some x1 x4 (bip_small h6a h6b B) B.nd hj
    have eget : ∀ {H''}, Same H' H'' → TPk.E K m0 (tNGet P w K (tVar 0) (tVar 1)) [some (.ref bd), some pw', some (.ref l), y3] H'' (parD e.par) := fun {H''} s => e_nget (P := P) (w := w) (e_var rfl (.adr bd)) (e_var rfl (hpv.same s)) (s _ _ x2) not0 (x3.tk (Same.tk s)) (pairD_ok e.st) hv1 (hv2.same s)
    refine TE'.use0 (t_test (e_notN (eget (.refl _)))) fun H2 s2 => ?_
    cases hpar : e.par with
    | none =>
      refine iteF ?_
      have sH : Same H H2 := (Go.dropS s1 nl gH).trans s2
      refine TPk.E.use0 (e_tupL (l_revS rfl (hO'.same s2).li)) fun u H3 s3 hu => q u H3 fs.reverse (sH.trans s3) (told_some B hc hg hbk hpar) ?_
      rw [← List.map_reverse] at hu
      exact hu
    | some z =>
      obtain ⟨y, lt⟩ := z
      obtain ⟨f, hf1, hf2, hf3⟩ := back_step B hbk hpar
      rw [hpar] at eget
      refine iteT ⟨fun σ'' H'' => ∃ (e : En) (fs : List (Str × Bool)) (pw' : V) (y3 : Option V), σ'' = [some (.ref bd), some pw', some (.ref l), y3] ∧ e = f ∧ Go (m0.add l not0) H1 H'' ∧ Back (stepP a b nat) (letters a.kinds) bs c e fs ∧ Is K H'' (pairD e.st) pw' ∧ Ow K H'' l (fs.map letD), fun σ'' H'' hh => ?_, ?_⟩
      · obtain ⟨e', fs', pw'', y3', z1, rfl, z3, z4, z5, z6⟩ := hh
        exact ⟨e'.dp, hf3, e', fs', pw'', y3', z1, rfl, z3, z4, z5, z6⟩
      · refine k_asg2 (eget s2) fun v1 v2 H3 s3 hv1' hv2' => ?_
        refine q_app (m := m0) (d := letD lt) not0 rfl ((hO'.same s2).same s3) True.intro (e_var rfl hv2') ?_ fun H4 g4 hO4 => ?_
        · rw [List.length_map]
          exact Nat.lt_of_lt_of_le (show _ < 100000 by omega) (by decide)
        · refine ⟨f, fs ++ [lt], v1, some v2, rfl, rfl, ((gH.same s2).same s3).trans g4, hf2, by rw [hf1]; exact hv1'.go g4, ?_⟩
          rw [List.map_append]
          exact hO4
end
end TPk
end F10_text

section F11_text
set_option Elab.async false
set_option linter.all false
set_option maxRecDepth 100000
set_option maxHeartbeats 4000000
/-! Walks: the search. -/
namespace TPk
open PySem PySem.Spec PyProof.Rows L2
theorem sc_first_parting : FnScope ["one", "other", "natural", "half", "walks", "pairs", "before", "at", "nodes", "mates", "first", "second", "kind", "mark", "goal"] ["one", "other", "natural", "half"] (defScope s_first_parting) := ⟨rfl, rfl, rfl, by decide +kernel, rfl, by decide +kernel, by decide +kernel⟩
theorem sv_six {s : Stt Str} (h : SV s) : s.Six := ⟨h.start.2, fun r hr => by rw [(h.rules.2 r hr).1]; exact h.start.2⟩
section
variable {P : Program} {w : World} {K : PySem.W.Frag} {mg : Str → Option Value} {base : Heap} {m : Mo} {σ : L2.St} {H : Hp} {ta tb te : TE}
/-- a def that gives data of which C is told -/
def Pn (K : PySem.W.Frag) (R : Hp → List Dt → (Dt → Prop) → Prop) : Sp := fun vs H Q _ => ∃ ds C, IsAll K H ds vs ∧ R H ds C ∧ ∀ v d H', Same H H' → Is K H' d v → C d → Q v H'
theorem g_call {R : Hp → List Dt → (Dt → Prop) → Prop} {t : TA} {Er : XK} {ds : List Dt} {C : Dt → Prop} (h : AE K m t σ H ds) (hR : ∀ H1, Go m H H1 → R H1 ds C) : G K m (tCall (Pn K R) [] Er t) σ H C := fun H1 g Q q =>
  AE.go h g fun vs H2 g2 hs => ⟨ds, C, by rw [List.append_nil]; exact hs, hR H2 (g.trans g2), fun v d H3 s hv hc => q v d H3 (g2.same s) hv hc⟩
theorem G.use0 {C : Dt → Prop} (h : G K m0 te σ H C) {Q : VK} (q : ∀ v d H2, Same H H2 → Is K H2 d v → C d → Q v H2) : te σ H Q := G.use h True.intro fun v d H2 g hv c => q v d H2 g.to0 hv c
theorem e_ixS {i : Nat} {l : Addr} {ds : List Dt} {d : Dt} {j : Nat} (hb : σ[i]? = some (some (.ref l))) (hl : Li K m H l ds) (ht : TPk.E K m tb σ H (.int (j : Nat))) (hd : ds[j]? = some d) : TPk.E K m (tOp (rIxL K) (tVar i) tb) σ H d := fun H1 g Q q => ⟨_, hb, ht.go g fun y H2 g2 hy => by
  obtain ⟨vs, hq, hi⟩ := (hl.go (g.trans g2)).sq
  obtain ⟨v, hv, hdv⟩ := hi.get hd
  exact ⟨l, vs, j, v, rfl, hy.int_inv, hq, atI_nat hv, q v d H2 g2 hdv rfl⟩⟩
/-! ### walkers made and called -/
theorem w_make {a : Addr} {nat : Bool} {Er : XK} {Q : VK} (ha : TPk.E K m0 ta σ H (.adr a)) (hb : TPk.E K m0 tb σ H (.bl nat)) (q : ∀ x d H1, H x = none → H d = none → x ≠ d → Same H H1 → WalkAt K H1 x a nat d → H1 d = some (ND P w d []) → Q (.ref x) H1) :
    tMake (He.ga K "Walker") (spWInit P w K) [] Er (tCons ta (tCons tb tNil)) σ H Q := ha.use0 fun u H1 s1 hu => hb.go (go0 s1) fun v H2 g2 hv => fun x dx nx nd nxd => by
  have s12 := s1.trans g2.to0
  have hx0 : (upd H2 dx (.own x)) x = none := by rw [upd_ne (fun e => nxd e.symm)]; exact nx
  have sA : Same H2 (upd (upd H2 dx (.own x)) x (.ins (He.ga K "Walker") dx [])) := (same_new nd).trans (same_new hx0)
  rw [hu.adr_inv, hv.bl_inv]
  refine ⟨x, dx, a, nat, rfl, upd_same, fun d H' hd hk hw hnd => ⟨rfl, ?_⟩⟩
  have hdx : x ≠ d := fun e => by rw [← e, upd_same] at hd; cases hd
  exact q x d H' (Same.free s12 nx) (Same.free s12 (Same.free sA hd)) hdx (s12.trans fun b o e => hk b o (ne_of_none e nx) (sA b o e)) hw hnd
theorem wk_r (T : Fx K mg) : FnR P w K mg base C8.CX0 4 (He.ma K (He.ga K "Walker") "__call__") (fun vs H Q E => spW P w K (vs ++ []) H Q E) := (ok_wcall T).r
theorem w_call {X : Cx} {Er : XK} {Q : VK} {t : TA} {x a d : Addr} {s : Stt Str} {nat : Bool} {n : Nat} {S : List Nat} {k : Str} {mark : Bool} (hx : TPk.E K m0 te σ H (.adr x)) (ht : ∀ H1, Same H H1 → AE K m0 t σ H1 [nodesD S, .str k, .bl mark]) (hw : WalkAt K H x a nat d) (hs : StatAt K H a s) (hv : SV s) (hk : k ∈ s.kinds) (hS : ∀ y ∈ S, y < 7)
    (hse : Seen P w K H d s nat n) (hn : n < 10000000) (q : ∀ v H1, Kp (· = d) H H1 → Seen P w K H1 d s nat (n + 1) → Is K H1 (nodesD (s.mv nat S k mark)) v → Q v H1) :
    StX.tCallO X (He.ga K "Walker") (fun vs H Q E => spW P w K (vs ++ []) H Q E) Er te t σ H Q := hx.use0 fun u H1 s1 hu => by
  refine ⟨x, hu.adr_inv, AE.go (ht H1 s1) (.refl True.intro) fun vs H2 g2 hvs => ?_⟩
  have s12 := s1.trans g2.to0
  obtain ⟨v1, v2, v3, rfl, h1, h2, h3⟩ := hvs.inv3
  have hw2 := hw.tk (Same.tk s12)
  obtain ⟨dx, e0⟩ := id hw2
  exact ⟨.inr ⟨dx, _, e0⟩, x, a, d, s, nat, n, S, k, mark, v1, v2, v3, rfl, hw2, hs.same s12, hv, h1, h2, h3, hk, hS, hse.kp (Same.kp (F := fun _ => False) s12) (fun z => z), hn, fun v H' kp hse' hv' => q v H' ((Same.kp s12).trans kp) hse' hv'⟩
/-- a for over what stays, while what X names may change -/
theorem q_forX {X : Addr → Prop} {wi : TI} {S : List Dt} {g : TG} {tb : TS} {D : Ends} (hi : I K m0 X wi σ H S) (Pv : Nat → L2.St → Hp → Prop) (h0 : ∀ B, Same H B → Pv 0 σ B)
    (hs : ∀ B i d x σ' H1 H2, Same H B → S[i]? = some d → Kp X B H1 → Pv i σ' H1 → Same H1 H2 → Is K H2 d x → g x σ' H2 fun σ2 H3 => tb { D with nx := fun s h => Kp X B h ∧ Pv (i + 1) s h, ct := fun s h => Kp X B h ∧ Pv (i + 1) s h, bk := D.nx } σ2 H3)
    (hd : ∀ B σ' H1, Same H B → Kp X B H1 → Pv S.length σ' H1 → D.nx σ' H1) : tFor wi g tb D σ H := hi H (.refl True.intro) _ fun J Gd B gB w hG st =>
  for_src w (fun i s h => Kp X B h ∧ Pv i s h) ⟨fun _ _ e _ => e, h0 B gB.to0⟩ (fun i s h _ p => st h fun b o e z => p.1 b o e fun y => z (.inr y)) (fun i d x s h h' hd' p sm hx => hs B i d x s h h' gB.to0 hd' p.1 p.2 sm hx) (fun s h p => hd B s h gB.to0 p.1 p.2)
theorem k_forX {X : Addr → Prop} {wi : TI} {S : List Dt} {g : TG} {tb : TS} {D : Ends} {w : TS} (hi : I K m0 X wi σ H S) (Pv : Nat → L2.St → Hp → Prop) (h0 : ∀ B, Same H B → Pv 0 σ B)
    (hs : ∀ B i d x σ' H1 H2, Same H B → S[i]? = some d → Kp X B H1 → Pv i σ' H1 → Same H1 H2 → Is K H2 d x → g x σ' H2 fun σ2 H3 => tb { D with nx := fun s h => Kp X B h ∧ Pv (i + 1) s h, ct := fun s h => Kp X B h ∧ Pv (i + 1) s h, bk := w D } σ2 H3)
    (hd : ∀ B σ' H1, Same H B → Kp X B H1 → Pv S.length σ' H1 → w D σ' H1) : tSeq (tFor wi g tb) w D σ H := q_forX hi Pv h0 hs hd
theorem k_setn {d : Addr} {xs : List NEnt} {ds : List Dt} {e : Dt} {D : Ends} {u : TS} (he : TPk.E K m0 te σ H e) (ho : ∀ H1, Same H H1 → TPk.E K m0 ta σ H1 (.adr d)) (hk : ∀ H1, Same H H1 → TPk.E K m0 tb σ H1 (.tup ds)) (hx : H d = some (ND P w d xs)) (hks : KeysIn K H xs) (hok : (Dt.tup ds).ok) (hn : atV xs (Dt.tup ds).key = none) (hl : xs.length < sizeLine)
    (q : ∀ v b H1, Kp (· = d) H H1 → H1 d = some (ND P w d (xs ++ [((Dt.tup ds).key, b, v)])) → KeysIn K H1 (xs ++ [((Dt.tup ds).key, b, v)]) → Is K H1 e v → u D σ H1) : tSeq (tAsg te (gSub ta tb (rSetN P w K))) u D σ H := q_setn he ho hk hx hks hok hn hl q
/-! ### what stands meanwhile -/
structure FPI (P : Program) (w : World) (K : PySem.W.Frag) (H0 H : Hp) (a1 a2 x1 x2 d1 d2 l bd : Addr) (s t : Stt Str) (nat : Bool) (wv : V) (bs : List En) (N : Nat) : Prop where
  same : Same H0 H
  w1 : WalkAt K H x1 a1 nat d1
  w2 : WalkAt K H x2 a2 nat d2
  s1 : Seen P w K H d1 s nat N
  s2 : Seen P w K H d2 t nat N
  ow : Ow K H l (bs.map fun e => pairD e.st)
  bf : Bef P w K H bd bs
  wk : Is K H (.tup [.adr x1, .adr x2]) wv
structure FPD (H0 : Hp) (d1 d2 l bd : Addr) : Prop where
  n1 : H0 d1 = none
  n2 : H0 d2 = none
  nl : H0 l = none
  nb : H0 bd = none
  e12 : d1 ≠ d2
  e1l : d1 ≠ l
  e1b : d1 ≠ bd
  e2l : d2 ≠ l
  e2b : d2 ≠ bd
  elb : l ≠ bd
theorem Seen.more {d : Addr} {s : Stt Str} {nat : Bool} {n k : Nat} (h : Seen P w K H d s nat n) (hk : n ≤ k) : Seen P w K H d s nat k := by
  obtain ⟨xs, h1, h2⟩ := h
  exact ⟨xs, Nat.le_trans h1 hk, h2⟩
theorem Ow.kp {F : Addr → Prop} {H' : Hp} {l : Addr} {ds : List Dt} (h : Ow K H l ds) (e : Kp F H H') (hF : ¬ F l) : Ow K H' l ds := let ⟨vs, q, i⟩ := h; ⟨vs, e _ _ q fun z => (hF z).elim, i.tk e.tk⟩
theorem same_kp {F : Addr → Prop} {H0 H' : Hp} (s : Same H0 H) (e : Kp F H H') (hF : ∀ b, F b → H0 b = none) : Same H0 H' := fun b o h => e b o (s b o h) fun z => by rw [hF b z] at h; cases h
section
variable {H0 H' : Hp} {a1 a2 x1 x2 d1 d2 l bd : Addr} {s t : Stt Str} {nat : Bool} {wv : V} {bs : List En} {N : Nat}
theorem FPI.sm (h : FPI P w K H0 H a1 a2 x1 x2 d1 d2 l bd s t nat wv bs N) (e : Same H H') : FPI P w K H0 H' a1 a2 x1 x2 d1 d2 l bd s t nat wv bs N :=
  ⟨h.same.trans e, h.w1.tk (Same.tk e), h.w2.tk (Same.tk e), h.s1.kp (Same.kp (F := fun _ => False) e) (fun z => z), h.s2.kp (Same.kp (F := fun _ => False) e) (fun z => z), h.ow.same e, h.bf.kp (Same.kp (F := fun _ => False) e) (fun z => z), h.wk.same e⟩
theorem FPI.k1 (D : FPD H0 d1 d2 l bd) (h : FPI P w K H0 H a1 a2 x1 x2 d1 d2 l bd s t nat wv bs N) (e : Kp (· = d1) H H') {k : Nat} (hs : Seen P w K H' d1 s nat k) (hk : N ≤ k) : FPI P w K H0 H' a1 a2 x1 x2 d1 d2 l bd s t nat wv bs k :=
  ⟨same_kp h.same e (fun b z => by rw [z]; exact D.n1), h.w1.tk e.tk, h.w2.tk e.tk, hs, (h.s2.kp e D.e12.symm).more hk, h.ow.kp e D.e1l.symm, h.bf.kp e D.e1b.symm, h.wk.tk e.tk⟩
theorem FPI.k2 (D : FPD H0 d1 d2 l bd) (h : FPI P w K H0 H a1 a2 x1 x2 d1 d2 l bd s t nat wv bs N) (e : Kp (· = d2) H H') {k : Nat} (hs : Seen P w K H' d2 t nat k) (hk : N ≤ k) : FPI P w K H0 H' a1 a2 x1 x2 d1 d2 l bd s t nat wv bs k :=
  ⟨same_kp h.same e (fun b z => by rw [z]; exact D.n2), h.w1.tk e.tk, h.w2.tk e.tk, (h.s1.kp e D.e12).more hk, hs, h.ow.kp e D.e2l.symm, h.bf.kp e D.e2b.symm, h.wk.tk e.tk⟩
end
theorem k_walks {i : Nat} {D : Ends} {u : TS} {ta1 tb1 ta2 tb2 : TE} {a1 a2 : Addr} {nat : Bool} {E1 E2 : XK} (h1 : TPk.E K m0 ta1 σ H (.adr a1)) (g1 : TPk.E K m0 tb1 σ H (.bl nat)) (h2 : TPk.E K m0 ta2 σ H (.adr a2)) (g2 : TPk.E K m0 tb2 σ H (.bl nat))
    (q : ∀ x1 x2 d1 d2 wa H1 H2 H3, H d1 = none → H1 d2 = none → Same H H1 → Same H1 H2 → Same H2 H3 → d1 ≠ d2 → WalkAt K H1 x1 a1 nat d1 → H1 d1 = some (ND P w d1 []) → WalkAt K H2 x2 a2 nat d2 → H2 d2 = some (ND P w d2 []) → Is K H3 (.tup [.adr x1, .adr x2]) (.ref wa) → u D (σ.set i (some (.ref wa))) H3) :
    tSeq (tAsg (tTup (tCons (tMake (He.ga K "Walker") (spWInit P w K) [] E1 (tCons ta1 (tCons tb1 tNil))) (tCons (tMake (He.ga K "Walker") (spWInit P w K) [] E2 (tCons ta2 (tCons tb2 tNil))) tNil))) (gName i)) u D σ H := by
  show tMake (He.ga K "Walker") (spWInit P w K) [] E1 (tCons ta1 (tCons tb1 tNil)) σ H (fun x H1 => tMake (He.ga K "Walker") (spWInit P w K) [] E2 (tCons ta2 (tCons tb2 tNil)) σ H1 (fun y H2 => [x, y].length ≤ sizeLine ∧ ∀ p, H2 p = none → u D (σ.set i (some (.ref p))) (upd H2 p (.tup [x, y]))))
  refine w_make h1 g1 fun x1 d1 H1 nx1 nd1 _ s1 hw1 he1 => ?_
  refine w_make (G.mono h2 (go0 s1)) (G.mono g2 (go0 s1)) fun x2 d2 H2 nx2 nd2 _ s2 hw2 he2 => ?_
  refine ⟨by show 2 ≤ sizeLine; decide, fun wa nwa => ?_⟩
  exact q x1 x2 d1 d2 wa H1 H2 _ nd1 nd2 s1 s2 (same_new nwa) (ne_of_none he1 nd2) hw1 he1 hw2 he2 (is_new nwa (.cons (.adr x1) (.cons (.adr x2) .nil)))
theorem k_bef {i k : Nat} {D : Ends} {u : TS} {p0 : Pr} {te : TE} (hk : ∀ H1, Same H H1 → TPk.E K m0 te σ H1 (pairD p0)) (q : ∀ bd H1, H bd = none → Same H H1 → Bef P w K H1 bd [⟨p0, none, 0⟩] → u D ((σ.set i (some (.ref bd))).set k (some (.int 0))) H1) :
    tSeq (tPar i k (tCons (tNDisp P w K te (tC .non)) (tCons (tC (.int 0)) tNil))) u D σ H := by
  show ∀ p, H p = none → te σ (upd H p (ND P w p [])) fun y H1 => H1 p = some (ND P w p []) ∧ ∃ dt b, y = .ref b ∧ Is K H1 dt y ∧ dt.ok ∧ ∃ v w', [V.ref p, V.int 0] = [v, w'] ∧ u D ((σ.set i (some v)).set k (some w')) (upd H1 p (ND P w p [(dt.key, b, .non)]))
  intro bd nbd
  refine (hk _ (same_new nbd)).use0 fun pk H5 s5 hpk => ?_
  have hbd5 : H5 bd = some (ND P w bd []) := s5 _ _ upd_same
  have hpk' := hpk
  obtain ⟨pb, _, rfl, _⟩ := hpk.inv
  have kb : Kp (· = bd) H5 (upd H5 bd (ND P w bd [((pairD p0).key, pb, .non)])) := kp_upd hbd5
  refine ⟨hbd5, pairD p0, pb, rfl, hpk', pairD_ok _, _, _, rfl, q bd _ nbd (same_kp ((same_new nbd).trans s5) kb fun b z => by rw [z]; exact nbd) ⟨_, rfl, upd_same, ?_, fun i e x hi hx => ?_⟩⟩
  · exact (show KeysIn K _ [] from fun x hx => nomatch hx).snoc (hpk'.tk kb.tk) (pairD_ok _)
  · cases i with
    | zero => cases hi; cases hx; exact ⟨rfl, .non⟩
    | succ i => cases hi
theorem k_goal {X : Cx} {i : Nat} {D : Ends} {u : TS} {f1 f2 : TE} {t1 t2 : TA} {E1 E2 : XK} {sp1 sp2 : Sp} {W : Addr} (q : StX.tCallO X W sp1 E1 f1 t1 σ H fun x H1 => StX.tCallO X W sp2 E2 f2 t2 σ H1 fun y H2 => [x, y].length ≤ sizeLine ∧ ∀ p, H2 p = none → u D (σ.set i (some (.ref p))) (upd H2 p (.tup [x, y]))) :
    tSeq (tAsg (tTup (tCons (StX.tCallO X W sp1 E1 f1 t1) (tCons (StX.tCallO X W sp2 E2 f2 t2) tNil))) (gName i)) u D σ H := q
theorem q_lt {i : Nat} {D : Ends} {te : TE} {Er : XK} {sp : Sp} {bd : Addr} {d : Dt} (hb : σ[i]? = some (some (.ref bd))) (h : TPk.E K m0 te σ H d) (q : ∀ v H1, Same H H1 → Is K H1 d v → sp [.ref bd, v] H1 D.rt Er) : tRet (tCall sp [] Er (tCons (tVar i) (tCons te tNil))) D σ H :=
  ⟨_, hb, h.use0 fun v H1 s hv => q v H1 s hv⟩
def optD : Option (Word Str) → Dt
  | none => .non
  | some w => wordD w
def R_fp (K : PySem.W.Frag) : Hp → List Dt → (Dt → Prop) → Prop := fun H ds C => ∃ a1 a2 s t nat half, ds = [.adr a1, .adr a2, .bl nat, .bl half] ∧ StatAt K H a1 s ∧ StatAt K H a2 t ∧ SV s ∧ SV t ∧ s.kinds = t.kinds ∧ C = fun d => ∃ o, Told s t nat half o ∧ d = optD o
theorem letters_at {ks : List Str} {i : Nat} {d : Dt} (h : (lettersD ks)[i]? = some d) : ∃ l, (letters ks)[i]? = some l ∧ d = letD l := by
  unfold lettersD at h
  rw [List.getElem?_map] at h
  cases e : (letters ks)[i]? with
  | none => rw [e] at h; cases h
  | some l => rw [e] at h; cases h; exact ⟨l, rfl, rfl⟩
theorem letters_len (ks : List Str) : (letters ks).length = 2 * ks.length := by
  unfold letters
  induction ks with
  | nil => rfl
  | cons k ks ih => rw [List.flatMap_cons, List.length_append, ih, List.length_cons]; simp only [List.length_cons, List.length_nil]; omega
theorem c_first_parting (T : Fx K mg) : C8.Cal P w K mg base 5 "first_parting" (Pn K (R_fp K)) [] := by
  have m_Walker := ok_winit (P := P) (w := w) (base := base) T
  have c_has_result := c_has_result (P := P) (w := w) (base := base) T
  have c_letters_to := c_letters_to (P := P) (w := w) (base := base) T
  have c_pairs_of := c_pairs_of (P := P) (w := w) (base := base) T
  have c_start_nodes := c_start_nodes (P := P) (w := w) (base := base) T
  obtain ⟨fd, F⟩ := T.D.def_ 26
  refine ⟨_, fd, ["one", "other", "natural", "half"], [], ok0 F sc_first_parting (fun vs H Q Er h => ?_) (fun cdv Ar outer sh H vs Q Er hr h => ?_), T.m_first_parting, F.kp, F.bindsN (fun kV doc pm an cdv ct us hl => match us, hl with | [_, _, _, _], _ => rfl), .nil⟩
  · obtain ⟨ds, C, hI, ⟨a1, a2, s, t, nat, half, rfl, _⟩, q⟩ := h
    exact hI.length.symm
  · obtain ⟨ds, C, hI, ⟨a1, a2, s, t, nat, half, rfl, hs, ht, hvs, hvt, hkk, rfl⟩, q⟩ := h
    obtain ⟨u1, u2, u3, u4, rfl, h1, h2, h3, h4⟩ := hI.inv4
    cases h1.adr_inv
    cases h2.adr_inv
    cases h3.bl_inv
    cases h4.bl_inv
    have h6s := sv_six hvs
    have h6t := sv_six hvt
    refine ⟨_, (pss_cons (ps_set (i := 4) sc_first_parting.nd rfl (Or.inl rfl) (pe_tup (pa_cons (C8.pe_mk m_Walker hr (by decide) rfl (pa_cons (pv 0) (pa_cons (pv 2) pa_nil))) (pa_cons (C8.pe_mk m_Walker hr (by decide) rfl (pa_cons (pv 1) (pa_cons (pv 2) pa_nil))) pa_nil))))
    (pss_cons (ps_set (i := 5) sc_first_parting.nd rfl (Or.inl rfl) (pe_lst (pa_cons (pe_tup (pa_cons (C8.pe_c c_start_nodes hr (by decide) rfl (pa_cons (pv 0) pa_nil)) (pa_cons (C8.pe_c c_start_nodes hr (by decide) rfl (pa_cons (pv 1) pa_nil)) pa_nil))) pa_nil)))
    (pss_cons (ps_par (i := 6) (j := 7) rfl sc_first_parting.nd rfl rfl (by decide) rfl rfl (pa_cons (pe_ndisp hr.units (pe_ix ix_list (pv 5) pe_int (fun _ _ => rfl)) pe_non) (pa_cons pe_int pa_nil)) (by rfl))
    (pss_cons (ps_while PassesOwn.never (pt_cmpR op_lt (pv 7) (pe_callB call_len_seq rfl T.f_len PySem.boot_len (pa_cons (pv 5) pa_nil)) (nomark _)) (pss_cons (ps_asg (pe_ix ix_list (pv 5) (pv 7) (fun _ _ => rfl)) (pg_tup rfl (pgs_cons (pg_name (i := 8) sc_first_parting.nd rfl (Or.inl rfl)) (pgs_cons (pg_name (i := 9) sc_first_parting.nd rfl (Or.inl rfl)) pgs_nil))))
    (pss_cons (ps_par (i := 10) (j := 11) rfl sc_first_parting.nd rfl rfl (by decide) rfl rfl (pa_cons (C8.pe_c c_has_result hr (by decide) rfl (pa_cons (pv 0) (pa_cons (pv 8) pa_nil))) (pa_cons (C8.pe_c c_has_result hr (by decide) rfl (pa_cons (pv 1) (pa_cons (pv 9) pa_nil))) pa_nil)) (by rfl))
    (pss_cons (ps_if (PW.pt (pw_or (PW.pt (pw_and (pt_val (pv 10)) (pw_and1 (pt_not (pt_val (pv 11)))))) (pw_or1 (PW.pt (pw_and (pt_val (pv 11)) (pw_and (pt_not (pt_val (pv 10))) (pw_and1 (pt_not (pt_val (pv 3)))))))))) (pss_one (ps_ret (C8.pe_c c_letters_to hr (by decide) rfl (pa_cons (pv 6) (pa_cons (pe_ix ix_list (pv 5) (pv 7) (fun _ _ => rfl)) pa_nil))))) pss_nil)
    (pss_cons (ps_for PassesOwn.never rfl (pi_list (C8.pe_c c_pairs_of hr (by decide) rfl (pa_cons (pv 0) pa_nil))) (pg_tup rfl (pgs_cons (pg_name (i := 12) sc_first_parting.nd rfl (Or.inl rfl)) (pgs_cons (pg_name (i := 13) sc_first_parting.nd rfl (Or.inl rfl)) pgs_nil))) (pss_cons (ps_set (i := 14) sc_first_parting.nd rfl (Or.inl rfl) (pe_tup (pa_cons (StX.pe_callO (pe_ix ix_tup (pv 4) pe_int (fun _ _ => rfl)) (co_walk T) (wk_r (P := P) (w := w) (base := base) T) (hr.mono (by decide)) (C8.pass0 (E := C8.E0)) (pa_cons (pv 8) (pa_cons (pv 12) (pa_cons (pv 13) pa_nil)))) (pa_cons (StX.pe_callO (pe_ix ix_tup (pv 4) pe_int (fun _ _ => rfl)) (co_walk T) (wk_r (P := P) (w := w) (base := base) T) (hr.mono (by decide)) (C8.pass0 (E := C8.E0)) (pa_cons (pv 9) (pa_cons (pv 12) (pa_cons (pv 13) pa_nil)))) pa_nil))))
    (pss_one (ps_if (pt_cmp (pc_nnotin hr.units (pv 14) (pv 6))) (pss_cons (ps_asg (pe_tup (pa_cons (pe_ix ix_list (pv 5) (pv 7) (fun _ _ => rfl)) (pa_cons (pe_tup (pa_cons (pv 12) (pa_cons (pv 13) pa_nil))) pa_nil))) (pg_sub (pv 6) (pv 14) (set_n hr.units)))
    (pss_one (ps_expr (pe_bm PySem.F.plainAttrs_list PySem.F.slot_list_append PySem.F.type_list_append mt_append (pv 5) (pa_cons (pv 14) pa_nil))))) pss_nil))))
    (pss_one (ps_aug (i := 7) sc_first_parting.nd rfl (Or.inl rfl) pe_int ip_add)))))))
    (pss_one (ps_ret pe_non)))))), ?_⟩
    refine k_walks (P := P) (w := w) (a1 := a1) (a2 := a2) (nat := nat) (e_var rfl (.adr a1)) (e_var rfl (.bl nat)) (e_var rfl (.adr a2)) (e_var rfl (.bl nat)) fun x1 x2 d1 d2 wa H1 H2 H3 nd1 nd2 s1 s2 s3 d12 hw1 he1 hw2 he2 hwv => ?_
    have s02 := s1.trans s2
    have s03 := s02.trans s3
    refine k_setL (ds := [pairD (s.st0, t.st0)]) (l_lst (a_cons (e_tup (a_cons (e_call (a_cons (e_var rfl (.adr a1)) a_nil) fun H4 g4 => ⟨a1, s, rfl, (hs.same s03).go g4, hvs.start.2, rfl⟩) (a_cons (e_call (a_cons (e_var rfl (.adr a2)) a_nil) fun H4 g4 => ⟨a2, t, rfl, (ht.same s03).go g4, hvt.start.2, rfl⟩) a_nil)) (sz (by show 2 ≤ 100000; decide))) a_nil) (sz (by show 1 ≤ 100000; decide))) fun l H4 nl s4 hL => ?_
    have s04 := s03.trans s4
    refine k_bef (P := P) (w := w) (p0 := (s.st0, t.st0)) (fun Hx sx => e_ixS (i := 5) (j := 0) rfl (hL.same sx).li e_int rfl) fun bd H6 nbd s46 hbef => ?_
    have D : FPD H d1 d2 l bd := by
      refine ⟨nd1, Same.free s1 nd2, Same.free s03 nl, Same.free s04 nbd, d12, ?_, ?_, ?_, ?_, ?_⟩
      · exact ne_of_none (s3 _ _ (s2 _ _ he1)) nl
      · exact ne_of_none (s4 _ _ (s3 _ _ (s2 _ _ he1))) nbd
      · exact ne_of_none (s3 _ _ he2) nl
      · exact ne_of_none (s4 _ _ (s3 _ _ he2)) nbd
      · obtain ⟨us, e, _⟩ := hL
        exact ne_of_none e nbd
    have F0 : FPI P w K H H6 a1 a2 x1 x2 d1 d2 l bd s t nat (.ref wa) [⟨(s.st0, t.st0), none, 0⟩] 0 :=
      ⟨s04.trans s46, hw1.tk (Same.tk ((s2.trans s3).trans (s4.trans s46))), hw2.tk (Same.tk (s3.trans (s4.trans s46))), ⟨[], Nat.le_refl _, ((s2.trans s3).trans (s4.trans s46)) _ _ he1, (by intro x hx; cases hx), (by intro x hx; cases hx)⟩, ⟨[], Nat.le_refl _, (s3.trans (s4.trans s46)) _ _ he2, (by intro x hx; cases hx), (by intro x hx; cases hx)⟩, hL.same s46, hbef, hwv.same (s4.trans s46)⟩
    have hs6 := hs.same F0.same
    have ht6 := ht.same F0.same
    -- the loop
    refine ⟨fun mm σ' H' => ∃ (bs : List En) (n : Nat) (y8 y9 y10 y11 y12 y13 y14 : Option V), σ' = [some (.ref a1), some (.ref a2), some (.bl nat), some (.bl half), some (.ref wa), some (.ref l), some (.ref bd), some (.int (n : Nat)), y8, y9, y10, y11, y12, y13, y14] ∧ mm = 16385 - n ∧ n ≤ bs.length ∧
        BIP s t nat half bs n 0 ∧ FPI P w K H H' a1 a2 x1 x2 d1 d2 l bd s t nat (.ref wa) bs (8 * n), ⟨16385, [⟨(s.st0, t.st0), none, 0⟩], 0, none, none, none, none, none, none, none, rfl, rfl, Nat.zero_le _, bi_start, F0⟩, ?_⟩
    rintro mm σ' H' ⟨bs, n, y8, y9, y10, y11, y12, y13, y14, rfl, rfl, hn, B, F⟩
    have hb := bi_bound h6s h6t B
    refine TE'.use0 (t_test (e_lt (e_var rfl (.int _)) (e_lenL rfl F.ow.li))) fun H7 s7 => ?_
    have F7 := F.sm s7
    rw [List.length_map]
    by_cases hlt : n < bs.length
    · rw [decide_eq_true (show ((n : Nat) : Int) < (bs.length : Nat) by omega)]
      have hc : bs[n]? = some bs[n] := List.getElem?_eq_getElem hlt
      generalize bs[n] = c at hc
      have hsm := bip_small h6s h6t B c (List.mem_of_getElem? hc)
      refine iteT ⟨fun σ'' H'' => ∃ (bs : List En) (y8 y9 y10 y11 y12 y13 y14 : Option V), σ'' = [some (.ref a1), some (.ref a2), some (.bl nat), some (.bl half), some (.ref wa), some (.ref l), some (.ref bd), some (.int ((n + 1 : Nat) : Int)), y8, y9, y10, y11, y12, y13, y14] ∧ n + 1 ≤ bs.length ∧
        BIP s t nat half bs (n + 1) 0 ∧ FPI P w K H H'' a1 a2 x1 x2 d1 d2 l bd s t nat (.ref wa) bs (8 * (n + 1)), fun σ'' H'' ⟨bs', z8, z9, z10, z11, z12, z13, z14, e, hn', B', F'⟩ => ⟨16385 - (n + 1), by omega, bs', n + 1, z8, z9, z10, z11, z12, z13, z14, e, rfl, hn', B', F'⟩, ?_⟩
      have hcl : (bs.map fun e => pairD e.st)[n]? = some (pairD c.st) := by rw [List.getElem?_map, hc]; rfl
      refine k_asg2 (e_ixS (j := n) rfl F7.ow.li (e_var rfl (.int _)) hcl) fun v8 v9 H8 s8 hv8 hv9 => ?_
      have F8 := F7.sm s8
      have hs8 := hs.same F8.same
      have ht8 := ht.same F8.same
      have elen : ∀ {z : Stt Str}, SV z → z.ends.length ≤ 1000 ∧ ∀ e ∈ z.ends, e < 6 := fun {z} hz => by
        have h6 : ∀ e ∈ z.ends, e < 6 := fun e he => Nat.lt_of_lt_of_le (hz.ends.2.2 e he) hz.start.2
        have := pw_len hz.ends.2.1 h6
        exact ⟨by omega, h6⟩
      refine k_par (a_cons (e_call (d := .bl (s.acc c.st.1)) (a_cons (e_var rfl (.adr a1)) (a_cons (e_var rfl hv8) a_nil)) fun H9 g9 => ⟨a1, s, c.st.1, rfl, hs8.go g9, (elen hvs).1, (elen hvs).2, hsm.1, rfl⟩) (a_cons (e_call (d := .bl (t.acc c.st.2)) (a_cons (e_var rfl (.adr a2)) (a_cons (e_var rfl hv9) a_nil)) fun H9 g9 => ⟨a2, t, c.st.2, rfl, ht8.go g9, (elen hvt).1, (elen hvt).2, hsm.2, rfl⟩) a_nil)) fun v10 v11 H9 s9 hv10 hv11 => ?_
      have F9 := F8.sm s9
      cases hv10.bl_inv
      cases hv11.bl_inv
      refine k_ite (b := goalP s t half c.st) (t_or (t_and (t_B (K := K) (e_var rfl (.bl _))) fun _ => t_not (t_B (K := K) (e_var rfl (.bl _)))) fun _ => t_and (t_B (K := K) (e_var rfl (.bl _))) fun _ => t_and (t_not (t_B (K := K) (e_var rfl (.bl _)))) fun _ => t_not (t_B (K := K) (e_var rfl (.bl half)))) (fun hg H10 s10 => ?_) (fun hg H10 s10 => ?_)
      · have F10 := F9.sm s10
        refine q_lt rfl (e_ixS (j := n) rfl F10.ow.li (e_var rfl (.int _)) hcl) fun pw H11 s11 hpw => ?_
        have F11 := F10.sm s11
        exact ⟨bd, pw, s, t, nat, half, bs, n, c, rfl, h6s, h6t, B, hc, hg, F11.bf, hpw, fun v H12 wd s12 htold hv => q v _ H12 (F11.same.trans s12) hv ⟨some wd, htold, rfl⟩⟩
      · have F10 := F9.sm s10
        have s8_10 := s9.trans s10
        have hs10 := hs.same F10.same
        refine k_forX (X := fun b => b = d1 ∨ b = d2 ∨ b = l ∨ b = bd) (i_list (l_call (es := lettersD s.kinds) (a_cons (e_var rfl (.adr a1)) a_nil) fun H11 g11 => ⟨a1, s, rfl, hs10.go g11, by have := hvs.kinds.2.1; omega, rfl⟩) ?_)
          (fun i σ'' H'' => ∃ (bs' : List En) (y12 y13 y14 : Option V), σ'' = [some (.ref a1), some (.ref a2), some (.bl nat), some (.bl half), some (.ref wa), some (.ref l), some (.ref bd), some (.int (n : Nat)), some v8, some v9, some (.bl (s.acc c.st.1)), some (.bl (t.acc c.st.2)), y12, y13, y14] ∧
            BIP s t nat half bs' n i ∧ bs'[n]? = some c ∧ FPI P w K H H'' a1 a2 x1 x2 d1 d2 l bd s t nat (.ref wa) bs' (8 * n + i) ∧ Is K H'' (nodesD c.st.1) v8 ∧ Is K H'' (nodesD c.st.2) v9)
          (fun B' sB => ⟨bs, y12, y13, y14, rfl, B, hc, F10.sm sB, (hv8.same s8_10).same sB, (hv9.same s8_10).same sB⟩) (fun B' i d x σ'' H11 H12 sB hd kpB pv1 s12 hx => ?_) (fun B' σ'' H11 sB kpB pv1 => ?_)
        · rintro b (rfl | rfl | rfl | rfl)
          · obtain ⟨xs, _, e, _⟩ := F10.s1
            rw [e]; exact fun z => nomatch z
          · obtain ⟨xs, _, e, _⟩ := F10.s2
            rw [e]; exact fun z => nomatch z
          · obtain ⟨xs, e, _⟩ := F10.ow
            rw [e]; exact fun z => nomatch z
          · obtain ⟨xs, _, e, _⟩ := F10.bf
            rw [e]; exact fun z => nomatch z
        · obtain ⟨bs', y12, y13, y14, rfl, B1, hc1, F11, hv8', hv9'⟩ := pv1
          obtain ⟨⟨k, mark⟩, hl1, rfl⟩ := letters_at hd
          have hkm : k ∈ s.kinds := mem_letters.mp (List.mem_of_getElem? hl1)
          have hi8 : i < 8 := by
            have z := (List.getElem?_eq_some_iff.mp hl1).1
            rw [letters_len] at z
            have := hvs.kinds.2.1
            omega
          have hb1 := bi_bound h6s h6t B1
          have F12 := F11.sm s12
          have hv8a := hv8'.same s12
          have hv9a := hv9'.same s12
          refine g_two hx fun vk vm hvk hvm => ?_
          have hs12 := hs.same F12.same
          have ht12 := ht.same F12.same
          refine k_goal ?_
          refine w_call (P := P) (w := w) (e_ixT (e_var rfl F12.wk) e_int rfl) (fun Ha sa => a_cons (e_var rfl (hv8a.same sa)) (a_cons (e_var rfl (hvk.same sa)) (a_cons (e_var rfl (hvm.same sa)) a_nil))) F12.w1 hs12 hvs hkm hsm.1 F12.s1 (by omega) fun g1 H13 kp1 se1 hg1 => ?_
          have F13 := F12.k1 D kp1 se1 (by omega)
          have ht13 := ht12.tk kp1.tk
          refine w_call (P := P) (w := w) (e_ixT (e_var rfl F13.wk) e_int rfl) (fun Ha sa => a_cons (e_var rfl ((hv9a.tk kp1.tk).same sa)) (a_cons (e_var rfl ((hvk.tk kp1.tk).same sa)) (a_cons (e_var rfl ((hvm.tk kp1.tk).same sa)) a_nil))) F13.w2 ht13 hvt (by rw [← hkk]; exact hkm) hsm.2 (F12.s2.kp kp1 D.e12.symm) (by omega) fun g2 H14 kp2 se2 hg2 => ?_
          have F14 := F13.k2 D kp2 se2 (Nat.le_refl _)
          refine ⟨by show 2 ≤ sizeLine; decide, fun ga nga => ?_⟩
          have s15 : Same H14 (upd H14 ga (.tup [g1, g2])) := same_new nga
          have hgl : Is K (upd H14 ga (.tup [g1, g2])) (pairD (stepP s t nat c.st (k, mark))) (.ref ga) := is_new nga (.cons (hg1.tk kp2.tk) (.cons hg2 .nil))
          generalize upd H14 ga (.tup [g1, g2]) = H15 at s15 hgl
          have F15 := F14.sm s15
          have hsp : Small (stepP s t nat c.st (k, mark)) := ⟨(h6s.mv nat _ _ _).2, (h6t.mv nat _ _ _).2⟩
          have kB15 : Kp (fun b => b = d1 ∨ b = d2 ∨ b = l ∨ b = bd) B' H15 := fun b o e z => s15 b o (kp2 b o (kp1 b o (s12 b o (kpB b o e z)) fun y => z (.inl y)) fun y => z (.inr (.inl y)))
          have tk12_15 : TK H12 H15 := (kp1.tk.trans kp2.tk).trans (Same.tk s15)
          obtain ⟨xs, q1, q2, q3, q4⟩ := id F15.bf
          show tIfS _ _ _ _ _ H15
          by_cases hin : stepP s t nat c.st (k, mark) ∈ bs'.map Ent.st
          · obtain ⟨e, he, hest⟩ := List.mem_map.mp hin
            obtain ⟨j, hj⟩ := List.getElem?_of_mem he
            obtain ⟨v, hv, _⟩ := bef_some q1 q4 (bip_small h6s h6t B1) B1.nd hj
            rw [hest] at hv
            refine q_ifF ((t_B (e_nnotin (e_var rfl hgl) (e_var rfl (.adr bd)) q2 not0 q3 (pairD_ok _))).cast ?_) fun H16 s16 => ?_
            · rw [show (Dt.tup [nodesD (stepP s t nat c.st (k, mark)).1, nodesD (stepP s t nat c.st (k, mark)).2]) = pairD (stepP s t nat c.st (k, mark)) from rfl, hv]
              rfl
            · refine ⟨fun b o e z => s16 b o (kB15 b o e z), bs', _, _, _, rfl, bi_seen B1 hl1 hc1 hin, hc1, ?_, (hv8a.tk tk12_15).same s16, (hv9a.tk tk12_15).same s16⟩
              have := F15.sm s16
              exact this
          · have hv := bef_none q1 (fun i e x hi hx => (q4 i e x hi hx).1) (bip_small h6s h6t B1) hsp hin
            refine q_ifT ((t_B (e_nnotin (e_var rfl hgl) (e_var rfl (.adr bd)) q2 not0 q3 (pairD_ok _))).cast ?_) fun H16 s16 => ?_
            · rw [show (Dt.tup [nodesD (stepP s t nat c.st (k, mark)).1, nodesD (stepP s t nat c.st (k, mark)).2]) = pairD (stepP s t nat c.st (k, mark)) from rfl, hv]
              rfl
            have F16 := F15.sm s16
            have hcl1 : (bs'.map fun e => pairD e.st)[n]? = some (pairD c.st) := by rw [List.getElem?_map, hc1]; rfl
            have hvk16 := (hvk.tk tk12_15).same s16
            have hvm16 := (hvm.tk tk12_15).same s16
            refine k_setn (P := P) (w := w) (d := bd) (xs := xs) (e := parD (some (c.st, (k, mark)))) (e_tup (a_cons (e_ixS (j := n) rfl F16.ow.li (e_var rfl (.int _)) hcl1) (a_cons (e_tup (a_cons (e_var rfl hvk16) (a_cons (e_var rfl hvm16) a_nil)) (sz (by show 2 ≤ 100000; decide))) a_nil)) (sz (by show 2 ≤ 100000; decide))) (fun Hb sb => e_var rfl (.adr bd)) (fun Hb sb => e_var rfl ((hgl.same s16).same sb)) (s16 _ _ q2) (q3.tk (Same.tk s16)) (pairD_ok _) hv (by rw [q1]; exact Nat.lt_of_le_of_lt hb1 (by decide)) fun vv bb H17 kp17 hd17 hk17 hvv => ?_
            refine q_app (m := m0) not0 rfl (F16.ow.kp kp17 D.elb) True.intro (e_var rfl ((hgl.same s16).tk kp17.tk)) ?_ fun H18 g18 hO18 => ?_
            · rw [List.length_map]
              exact Nat.lt_of_le_of_lt hb1 (by decide)
            have kl : Kp (· = l) H17 H18 := fun b o e z => g18.1 b o e fun y => y.elim (fun y => y.elim) z
            have tk12_18 : TK H12 H18 := ((tk12_15.trans (Same.tk s16)).trans kp17.tk).trans kl.tk
            have tk16_18 : TK H16 H18 := kp17.tk.trans kl.tk
            refine ⟨fun b o e z => kl b o (kp17 b o (s16 b o (kB15 b o e z)) fun y => z (.inr (.inr (.inr y)))) fun y => z (.inr (.inr (.inl y))), bs' ++ [⟨stepP s t nat c.st (k, mark), some (c.st, (k, mark)), c.dp + 1⟩], _, _, _, rfl, bi_new B1 hl1 hc1 hin, get_left hc1, ?_, hv8a.tk tk12_18, hv9a.tk tk12_18⟩
            refine ⟨same_kp (same_kp F16.same kp17 fun b z => by rw [z]; exact D.nb) kl fun b z => by rw [z]; exact D.nl, F16.w1.tk tk16_18, F16.w2.tk tk16_18, (F16.s1.kp kp17 D.e1b).kp kl D.e1l, (F16.s2.kp kp17 D.e2b).kp kl D.e2l, ?_, ?_, F16.wk.tk tk16_18⟩
            · rw [List.map_append]
              exact hO18
            · refine Bef.kp (F := (· = l)) ⟨_, ?_, hd17, hk17, fun j e x hj hxj => ?_⟩ kl D.elb.symm
              · rw [List.length_append, List.length_append, q1]
                rfl
              · rcases get_snoc hj with hj | ⟨hj2, he2⟩
                · have hjl : j < xs.length := by rw [q1]; exact (List.getElem?_eq_some_iff.mp hj).1
                  rw [List.getElem?_append_left hjl] at hxj
                  obtain ⟨z1, z2⟩ := q4 j e x hj hxj
                  exact ⟨z1, (z2.same s16).tk kp17.tk⟩
                · subst he2
                  subst hj2
                  rw [List.getElem?_append_right (by omega), q1, Nat.sub_self] at hxj
                  cases hxj
                  exact ⟨rfl, hvv⟩
        · obtain ⟨bs', y12, y13, y14, rfl, B1, hc1, F11, hv8', hv9'⟩ := pv1
          have hlen : (lettersD s.kinds).length = (letters s.kinds).length := by unfold lettersD; rw [List.length_map]
          rw [hlen] at B1 F11
          refine ⟨_, rfl, _, _, rfl, rfl, bs', _, _, _, _, _, _, _, rfl, (List.getElem?_eq_some_iff.mp hc1).1, bi_next B1 hc1 hg, ?_⟩
          have hl8 : (letters s.kinds).length ≤ 8 := by rw [letters_len]; have := hvs.kinds.2.1; omega
          exact ⟨F11.same, F11.w1, F11.w2, F11.s1.more (by omega), F11.s2.more (by omega), F11.ow, F11.bf, F11.wk⟩
    · have e : n = bs.length := by omega
      subst e
      rw [decide_eq_false (show ¬ ((bs.length : Nat) : Int) < (bs.length : Nat) by omega)]
      refine iteF ?_
      exact q .non .non H7 F7.same .non ⟨none, told_none B, rfl⟩
end
end TPk
end F11_text

section F12_text
set_option Elab.async false
set_option linter.all false
set_option maxRecDepth 100000
set_option maxHeartbeats 4000000
/-! Walks: difference, equal, excess, never_above. -/
namespace TPk
open PySem PySem.Spec PyProof.Rows L2
theorem sc_difference : FnScope ["one", "other", "natural", "marks"] ["one", "other", "natural"] (defScope s_difference) := ⟨rfl, rfl, rfl, by decide +kernel, rfl, by decide +kernel, by decide +kernel⟩
theorem sc_equal : FnScope ["one", "other", "natural"] ["one", "other", "natural"] (defScope s_equal) := ⟨rfl, rfl, rfl, by decide +kernel, rfl, by decide +kernel, by decide +kernel⟩
theorem sc_excess : FnScope ["one", "other", "natural", "upper", "lower", "marks"] ["one", "other", "natural"] (defScope s_excess) := ⟨rfl, rfl, rfl, by decide +kernel, rfl, by decide +kernel, by decide +kernel⟩
theorem sc_never_above : FnScope ["one", "other", "natural"] ["one", "other", "natural"] (defScope s_never_above) := ⟨rfl, rfl, rfl, by decide +kernel, rfl, by decide +kernel, by decide +kernel⟩
/-- a def called with natural= -/
structure CalK (P : Program) (w : World) (K : PySem.W.Frag) (mg : Str → Option Value) (base : Heap) (k : Nat) (x : Str) (sp : Sp) : Prop where
  ex : ∃ (f : Addr) (fd : FuncData) (ps : List Str), FnOk P w K mg base C8.CX0 k f fd ps sp ∧ mg x = some (.ref f) ∧ PySem.W.keepIn K (.ref f) = true ∧ KBn K fd ps 2 ["natural"] (fun us ws => us ++ ws) (fun vs zs => vs ++ zs)
theorem pe_kw {X : Cx} {k j : Nat} {x : Str} {sp : Sp} {p pos : Pos} {e : Expr} {es : List Expr} {kws : List Keyword} {t tk : TA} (c : CalK X.prog X.w X.K X.mg X.base k x sp) (hr : Room j X.A) (hk : k ≤ j) (hg : Gl X x) (ha : PA X (e :: es) t) (hkw : PK X kws tk)
    (hall : (backToKw pos (keywordEach kws X.env)).all (·.1.isSome) = true := by rfl) (hks : (backToKw pos (keywordEach kws X.env)).filterMap (·.1) = [("natural" : Str)] := by rfl)
    (hdb : (x == ("__debug__" : Str)) = false := by decide) (he : starEach (e :: es) X.env = (false, eval e X.env) :: starEach es X.env := by rfl)
    (hpl : ((backTo pos (starEach (e :: es) X.env)).any (·.1) || (backToKw pos (keywordEach kws X.env)).any (·.1.isNone)) = false := by rfl) :
    PE X (.Call (.Name x p) (e :: es) kws pos) (tCallN 2 [("natural" : Str)].length sp (fun vs zs => vs ++ zs) C8.E0 t tk) := by
  obtain ⟨f, fd, ps, F, hm, kp, b⟩ := c.ex
  exact pe_callN F (hr.mono hk) hg hm kp b C8.pass0 ha hkw hall hks hdb he hpl
section
variable {P : Program} {w : World} {K : PySem.W.Frag} {mg : Str → Option Value} {base : Heap} {m : Mo} {σ : L2.St} {H : Hp} {ta tb te : TE}
theorem kb_nat {x qual : Str} {params : Arguments} {body : List Stmt} {scope : Scope} {f : Addr} {fd : FuncData} {ps : List Str} {v : V} (F : FunD K x qual params body scope [] [("natural", v)] f fd)
    (h : ∀ (doc pm : Value) (an : Option Addr) (cdv ct kV : Value) (us ws : List Value), us.length = 2 → ws.length = 1 → bindArgs (PySem.W.fnOf x qual params body scope .none kV doc pm an cdv ct) ⟨us, [("natural" : Str)].zip ws⟩ = pure (ps.zip (us ++ ws))) :
    KBn K fd ps 2 ["natural"] (fun us ws => us ++ ws) (fun vs zs => vs ++ zs) := by
  obtain ⟨oc, od, dV, kV, doc, pm, an, cdv, ct, osl, rfl, lk, hcd, hD, hK⟩ := F.ex
  rcases hD with ⟨_, rfl⟩ | ⟨e, _⟩
  · exact ⟨fun s us ws X l1 l2 => .of_eq (h doc pm an cdv ct kV us ws l1 l2), fun r1 r2 => r1.append r2⟩
  · exact absurd rfl e
theorem g_kw {R : Hp → List Dt → (Dt → Prop) → Prop} {t tk : TA} {Er : XK} {d1 d2 d3 : Dt} {C : Dt → Prop} (h : AE K m t σ H [d1, d2]) (hk : AE K m tk σ H [d3]) (hR : ∀ H1, Go m H H1 → R H1 [d1, d2, d3] C) : G K m (tCallN 2 1 (Pn K R) (fun vs zs => vs ++ zs) Er t tk) σ H C := fun H1 g Q q =>
  AE.go h g fun vs H2 g2 hs => AE.go hk (g.trans g2) fun zs H3 g3 hz => by
    have hs3 := hs.tk g3.tk
    exact ⟨hs.length.symm, hz.length.symm, [d1, d2, d3], C, hs3.append hz, hR H3 ((g.trans g2).trans g3), fun v d H4 s hv hc => q v d H4 ((g2.trans g3).same s) hv hc⟩
def logO (g nat : Bool) : Option (Word Str) → Dt
  | none => .non
  | some w => logD (shown g nat w)
structure TwoAt (K : PySem.W.Frag) (H : Hp) (a1 a2 : Addr) (s t : Stt Str) : Prop where
  h1 : StatAt K H a1 s
  h2 : StatAt K H a2 t
  v1 : SV s
  v2 : SV t
  side : s.side = t.side
  kinds : s.kinds = t.kinds
theorem TwoAt.tk {H' : Hp} {a1 a2 : Addr} {s t : Stt Str} (h : TwoAt K H a1 a2 s t) (e : TK H H') : TwoAt K H' a1 a2 s t := ⟨h.h1.tk e, h.h2.tk e, h.v1, h.v2, h.side, h.kinds⟩
theorem TwoAt.same {H' : Hp} {a1 a2 : Addr} {s t : Stt Str} (h : TwoAt K H a1 a2 s t) (e : Same H H') : TwoAt K H' a1 a2 s t := h.tk (Same.tk e)
def R_difference (K : PySem.W.Frag) : Hp → List Dt → (Dt → Prop) → Prop := fun H ds C => ∃ a1 a2 s t nat, ds = [.adr a1, .adr a2, .bl nat] ∧ TwoAt K H a1 a2 s t ∧ C = fun d => ∃ o, Told s t nat false o ∧ d = logO s.side nat o
theorem optD_isN (o : Option (Word Str)) : (optD o).isN = o.isNone := by cases o <;> rfl
theorem logO_isN (g nat : Bool) (o : Option (Word Str)) : (logO g nat o).isN = o.isNone := by cases o <;> rfl
theorem told_len {s t : Stt Str} (hs : SV s) (ht : SV t) {nat half : Bool} {wd : Word Str} (h : Told s t nat half (some wd)) : wd.length ≤ 895 := told_895 (sv_six hs) (sv_six ht) h
theorem c_difference (T : Fx K mg) : CalK P w K mg base 6 "difference" (Pn K (R_difference K)) := by
  have c_check_flag := c_check_flag (P := P) (w := w) (base := base) T
  have c_check_two := c_check_two (P := P) (w := w) (base := base) T
  have c_first_parting := c_first_parting (P := P) (w := w) (base := base) T
  have c_shown := c_shown (P := P) (w := w) (base := base) T
  obtain ⟨fd, F⟩ := T.D.def_ 28
  refine ⟨_, fd, ["one", "other", "natural"], ok0 F sc_difference (fun vs H Q Er h => ?_) (fun cdv Ar outer sh H vs Q Er hr h => ?_), T.m_difference, F.kp, kb_nat F (fun doc pm an cdv ct kV us ws h1 h2 => match us, ws, h1, h2 with | [_, _], [_], _, _ => rfl)⟩
  · obtain ⟨ds, C, hI, ⟨a1, a2, s, t, nat, rfl, _⟩, q⟩ := h
    exact hI.length.symm
  · obtain ⟨ds, C, hI, ⟨a1, a2, s, t, nat, rfl, h2, rfl⟩, q⟩ := h
    obtain ⟨u1, u2, u3, rfl, k1, k2, k3⟩ := hI.inv3
    refine ⟨_, (pss_cons (ps_expr (C8.pe_c c_check_two hr (by decide) rfl (pa_cons (pv 0) (pa_cons (pv 1) pa_nil))))
    (pss_cons (ps_expr (C8.pe_c c_check_flag hr (by decide) rfl (pa_cons (pv 2) pa_nil)))
    (pss_cons (ps_set (i := 3) sc_difference.nd rfl (Or.inl rfl) (C8.pe_c c_first_parting hr (by decide) rfl (pa_cons (pv 0) (pa_cons (pv 1) (pa_cons (pv 2) (pa_cons pe_bl pa_nil))))))
    (pss_one (ps_ret (pe_ifExp (pt_cmpR op_isN (pv 3) pe_non (nomark _)) pe_non (C8.pe_c c_shown hr (by decide) rfl (pa_cons (pe_con (pv 0) rfl) (pa_cons (pv 2) (pa_cons (pv 3) pa_nil)))))))))), ?_⟩
    refine k_drop (e_call (d := .non) (a_cons (e_var rfl k1) (a_cons (e_var rfl k2) a_nil)) fun H1 g => ⟨a1, s, a2, t, rfl, (h2.tk g.tk).h1, (h2.tk g.tk).h2, h2.side, h2.kinds, h2.v1.kinds, rfl⟩) fun H1 s1 => ?_
    refine k_drop (e_call (d := .non) (a_cons (e_var rfl (k3.same s1)) a_nil) fun H1 g => ⟨nat, rfl, rfl⟩) fun H2 s2 => ?_
    have s12 := s1.trans s2
    refine G.use0 (g_call (R := R_fp K) (a_cons (e_var rfl (k1.same s12)) (a_cons (e_var rfl (k2.same s12)) (a_cons (e_var rfl (k3.same s12)) (a_cons e_bl a_nil)))) fun H3 g => ⟨a1, a2, s, t, nat, false, rfl, (h2.tk ((Same.tk s12).trans g.tk)).h1, (h2.tk ((Same.tk s12).trans g.tk)).h2, h2.v1, h2.v2, h2.kinds, rfl⟩) fun mv d H3 s3 hm ⟨o, ho, ed⟩ => ?_
    subst ed
    have s13 := s12.trans s3
    cases o with
    | none => exact q_ret (d := .non) (e_if ((t_test (e_isN (e_var rfl hm))).cast (b := true) rfl) (fun _ => e_non) (fun z => nomatch z)) fun v H4 s4 hv => q v _ H4 (s13.trans s4) hv ⟨none, ho, rfl⟩
    | some wd =>
      have := told_len h2.v1 h2.v2 ho
      refine q_ret (d := logD (shown s.side nat wd)) (e_if ((t_test (e_isN (e_var rfl hm))).cast (b := false) rfl) (fun z => nomatch z) (fun _ => e_call (a_cons (e_side T (e_var rfl (k1.same s13)) (h2.same s13).h1) (a_cons (e_var rfl (k3.same s13)) (a_cons (e_var rfl hm) a_nil))) fun H4 g4 => ⟨s.side, nat, wd, rfl, by omega, rfl⟩)) fun v H4 s4 hv => q v _ H4 (s13.trans s4) hv ⟨some wd, ho, rfl⟩
def R_equal (K : PySem.W.Frag) : Hp → List Dt → (Dt → Prop) → Prop := fun H ds C => ∃ a1 a2 s t nat, ds = [.adr a1, .adr a2, .bl nat] ∧ TwoAt K H a1 a2 s t ∧ C = fun d => ∃ o, Told s t nat false o ∧ d = .bl o.isNone
theorem c_equal (T : Fx K mg) : CalK P w K mg base 7 "equal" (Pn K (R_equal K)) := by
  have c_difference := c_difference (P := P) (w := w) (base := base) T
  obtain ⟨fd, F⟩ := T.D.def_ 29
  refine ⟨_, fd, ["one", "other", "natural"], ok0 F sc_equal (fun vs H Q Er h => ?_) (fun cdv Ar outer sh H vs Q Er hr h => ?_), T.m_equal, F.kp, kb_nat F (fun doc pm an cdv ct kV us ws h1 h2 => match us, ws, h1, h2 with | [_, _], [_], _, _ => rfl)⟩
  · obtain ⟨ds, C, hI, ⟨a1, a2, s, t, nat, rfl, _⟩, q⟩ := h
    exact hI.length.symm
  · obtain ⟨ds, C, hI, ⟨a1, a2, s, t, nat, rfl, h2, rfl⟩, q⟩ := h
    obtain ⟨u1, u2, u3, rfl, k1, k2, k3⟩ := hI.inv3
    refine ⟨_, (pss_one (ps_ret (pe_cmpR op_isN (pe_kw c_difference hr (by decide) rfl (pa_cons (pv 0) (pa_cons (pv 1) pa_nil)) (pk_cons (pv 2) pk_nil)) pe_non (nomark _)))), ?_⟩
    refine G.use0 (g_kw (R := R_difference K) (a_cons (e_var rfl k1) (a_cons (e_var rfl k2) a_nil)) (a_cons (e_var rfl k3) a_nil) fun H1 g => ⟨a1, a2, s, t, nat, rfl, h2.tk g.tk, rfl⟩) fun v d H1 s1 hv ⟨o, ho, ed⟩ => ?_
    subst ed
    refine ⟨rfl, q _ (.bl o.isNone) H1 s1 ?_ ⟨o, ho, rfl⟩⟩
    rw [hv.isN, logO_isN]
    exact .bl _
def up (s t : Stt Str) : Stt Str := if s.side = true then s else t
def lo (s t : Stt Str) : Stt Str := if s.side = true then t else s
def R_excess (K : PySem.W.Frag) : Hp → List Dt → (Dt → Prop) → Prop := fun H ds C => ∃ a1 a2 s t nat, ds = [.adr a1, .adr a2, .bl nat] ∧ TwoAt K H a1 a2 s t ∧ C = fun d => ∃ o, Told (up s t) (lo s t) nat true o ∧ d = logO s.side nat o
theorem c_excess (T : Fx K mg) : CalK P w K mg base 6 "excess" (Pn K (R_excess K)) := by
  have c_check_flag := c_check_flag (P := P) (w := w) (base := base) T
  have c_check_two := c_check_two (P := P) (w := w) (base := base) T
  have c_first_parting := c_first_parting (P := P) (w := w) (base := base) T
  have c_shown := c_shown (P := P) (w := w) (base := base) T
  obtain ⟨fd, F⟩ := T.D.def_ 30
  refine ⟨_, fd, ["one", "other", "natural"], ok0 F sc_excess (fun vs H Q Er h => ?_) (fun cdv Ar outer sh H vs Q Er hr h => ?_), T.m_excess, F.kp, kb_nat F (fun doc pm an cdv ct kV us ws h1 h2 => match us, ws, h1, h2 with | [_, _], [_], _, _ => rfl)⟩
  · obtain ⟨ds, C, hI, ⟨a1, a2, s, t, nat, rfl, _⟩, q⟩ := h
    exact hI.length.symm
  · obtain ⟨ds, C, hI, ⟨a1, a2, s, t, nat, rfl, h2, rfl⟩, q⟩ := h
    obtain ⟨u1, u2, u3, rfl, k1, k2, k3⟩ := hI.inv3
    refine ⟨_, (pss_cons (ps_expr (C8.pe_c c_check_two hr (by decide) rfl (pa_cons (pv 0) (pa_cons (pv 1) pa_nil))))
    (pss_cons (ps_expr (C8.pe_c c_check_flag hr (by decide) rfl (pa_cons (pv 2) pa_nil)))
    (pss_cons (ps_asg (pe_ifExp (pt_cmpR op_eq (pe_con (pv 0) rfl) pe_str (nomark _)) (pe_tup (pa_cons (pv 0) (pa_cons (pv 1) pa_nil))) (pe_tup (pa_cons (pv 1) (pa_cons (pv 0) pa_nil)))) (pg_tup rfl (pgs_cons (pg_name (i := 3) sc_excess.nd rfl (Or.inl rfl)) (pgs_cons (pg_name (i := 4) sc_excess.nd rfl (Or.inl rfl)) pgs_nil))))
    (pss_cons (ps_set (i := 5) sc_excess.nd rfl (Or.inl rfl) (C8.pe_c c_first_parting hr (by decide) rfl (pa_cons (pv 3) (pa_cons (pv 4) (pa_cons (pv 2) (pa_cons pe_bl pa_nil))))))
    (pss_one (ps_ret (pe_ifExp (pt_cmpR op_isN (pv 5) pe_non (nomark _)) pe_non (C8.pe_c c_shown hr (by decide) rfl (pa_cons (pe_con (pv 0) rfl) (pa_cons (pv 2) (pa_cons (pv 5) pa_nil))))))))))), ?_⟩
    refine k_drop (e_call (d := .non) (a_cons (e_var rfl k1) (a_cons (e_var rfl k2) a_nil)) fun H1 g => ⟨a1, s, a2, t, rfl, (h2.tk g.tk).h1, (h2.tk g.tk).h2, h2.side, h2.kinds, h2.v1.kinds, rfl⟩) fun H1 s1 => ?_
    refine k_drop (e_call (d := .non) (a_cons (e_var rfl (k3.same s1)) a_nil) fun H1 g => ⟨nat, rfl, rfl⟩) fun H2 s2 => ?_
    have s12 := s1.trans s2
    have hg : ∀ g, decide ((Dt.str (sdT g)).fv = (Dt.str "greatest").fv) = g := by decide +kernel
    refine k_asg2 (d := .adr (if s.side = true then a1 else a2)) (e := .adr (if s.side = true then a2 else a1)) (e_if ((t_test (e_eq (e_side T (e_var rfl (k1.same s12)) (h2.same s12).h1) e_str rfl rfl rfl)).cast (hg s.side)) (fun e => ?_) (fun e => ?_)) fun v1 v2 H3 s3 hv1 hv2 => ?_
    · rw [if_pos e, if_pos e]; exact e_tup (a_cons (e_var rfl (k1.same s12)) (a_cons (e_var rfl (k2.same s12)) a_nil)) (sz (by show 2 ≤ 100000; decide))
    · rw [if_neg (by rw [e]; exact Bool.false_ne_true), if_neg (by rw [e]; exact Bool.false_ne_true)]; exact e_tup (a_cons (e_var rfl (k2.same s12)) (a_cons (e_var rfl (k1.same s12)) a_nil)) (sz (by show 2 ≤ 100000; decide))
    have s13 := s12.trans s3
    have hup : ∀ {H'}, TK H H' → StatAt K H' (if s.side = true then a1 else a2) (up s t) ∧ StatAt K H' (if s.side = true then a2 else a1) (lo s t) := fun {H'} e => by
      unfold up lo
      split
      · exact ⟨h2.h1.tk e, h2.h2.tk e⟩
      · exact ⟨h2.h2.tk e, h2.h1.tk e⟩
    have hvv : SV (up s t) ∧ SV (lo s t) ∧ (up s t).kinds = (lo s t).kinds := by
      unfold up lo
      split
      · exact ⟨h2.v1, h2.v2, h2.kinds⟩
      · exact ⟨h2.v2, h2.v1, h2.kinds.symm⟩
    refine G.use0 (g_call (R := R_fp K) (a_cons (e_var rfl hv1) (a_cons (e_var rfl hv2) (a_cons (e_var rfl (k3.same s13)) (a_cons e_bl a_nil)))) fun H4 g => ⟨_, _, up s t, lo s t, nat, true, rfl, (hup ((Same.tk s13).trans g.tk)).1, (hup ((Same.tk s13).trans g.tk)).2, hvv.1, hvv.2.1, hvv.2.2, rfl⟩) fun mv d H4 s4 hm ⟨o, ho, ed⟩ => ?_
    subst ed
    have s14 := s13.trans s4
    cases o with
    | none => exact q_ret (d := .non) (e_if ((t_test (e_isN (e_var rfl hm))).cast (b := true) rfl) (fun _ => e_non) (fun z => nomatch z)) fun v H5 s5 hv => q v _ H5 (s14.trans s5) hv ⟨none, ho, rfl⟩
    | some wd =>
      have := told_len hvv.1 hvv.2.1 ho
      refine q_ret (d := logD (shown s.side nat wd)) (e_if ((t_test (e_isN (e_var rfl hm))).cast (b := false) rfl) (fun z => nomatch z) (fun _ => e_call (a_cons (e_side T (e_var rfl (k1.same s14)) (h2.same s14).h1) (a_cons (e_var rfl (k3.same s14)) (a_cons (e_var rfl hm) a_nil))) fun H5 g5 => ⟨s.side, nat, wd, rfl, by omega, rfl⟩)) fun v H5 s5 hv => q v _ H5 (s14.trans s5) hv ⟨some wd, ho, rfl⟩
def R_never (K : PySem.W.Frag) : Hp → List Dt → (Dt → Prop) → Prop := fun H ds C => ∃ a1 a2 s t nat, ds = [.adr a1, .adr a2, .bl nat] ∧ TwoAt K H a1 a2 s t ∧ C = fun d => ∃ o, Told (up s t) (lo s t) nat true o ∧ d = .bl o.isNone
theorem c_never_above (T : Fx K mg) : CalK P w K mg base 7 "never_above" (Pn K (R_never K)) := by
  have c_excess := c_excess (P := P) (w := w) (base := base) T
  obtain ⟨fd, F⟩ := T.D.def_ 31
  refine ⟨_, fd, ["one", "other", "natural"], ok0 F sc_never_above (fun vs H Q Er h => ?_) (fun cdv Ar outer sh H vs Q Er hr h => ?_), T.m_never_above, F.kp, kb_nat F (fun doc pm an cdv ct kV us ws h1 h2 => match us, ws, h1, h2 with | [_, _], [_], _, _ => rfl)⟩
  · obtain ⟨ds, C, hI, ⟨a1, a2, s, t, nat, rfl, _⟩, q⟩ := h
    exact hI.length.symm
  · obtain ⟨ds, C, hI, ⟨a1, a2, s, t, nat, rfl, h2, rfl⟩, q⟩ := h
    obtain ⟨u1, u2, u3, rfl, k1, k2, k3⟩ := hI.inv3
    refine ⟨_, (pss_one (ps_ret (pe_cmpR op_isN (pe_kw c_excess hr (by decide) rfl (pa_cons (pv 0) (pa_cons (pv 1) pa_nil)) (pk_cons (pv 2) pk_nil)) pe_non (nomark _)))), ?_⟩
    refine G.use0 (g_kw (R := R_excess K) (a_cons (e_var rfl k1) (a_cons (e_var rfl k2) a_nil)) (a_cons (e_var rfl k3) a_nil) fun H1 g => ⟨a1, a2, s, t, nat, rfl, h2.tk g.tk, rfl⟩) fun v d H1 s1 hv ⟨o, ho, ed⟩ => ?_
    subst ed
    refine ⟨rfl, q _ (.bl o.isNone) H1 s1 ?_ ⟨o, ho, rfl⟩⟩
    rw [hv.isN, logO_isN]
    exact .bl _
end
end TPk
end F12_text

section F13_text
set_option Elab.async false
set_option linter.all false
set_option maxRecDepth 100000
set_option maxHeartbeats 4000000
/-! Walks: the law's cells and its pool. -/
namespace TPk
open PySem PySem.Spec PyProof.Rows L2
theorem sc_l_cell : FnScope ["_law_cells", "_law_k", "_law_seed", "_law_part_here"] ["_law_cells", "_law_k"] (defScope s_l_cell) := ⟨rfl, rfl, rfl, by decide +kernel, rfl, by decide +kernel, by decide +kernel⟩
theorem sc_l_pool : FnScope ["_law_cell_here", "_law_digits"] ["_law_cell_here"] (defScope s_l_pool) := ⟨rfl, rfl, rfl, by decide +kernel, rfl, by decide +kernel, by decide +kernel⟩
theorem sc_l_draw : FnScope ["_law_pool_here", "_law_many", "_law_seed", "_law_digit"] ["_law_pool_here", "_law_many"] (defScope s_l_draw) := ⟨rfl, rfl, rfl, by decide +kernel, rfl, by decide +kernel, by decide +kernel⟩
theorem sc_l_above : FnScope ["_law_side", "_law_one_result", "_law_other_result"] ["_law_side", "_law_one_result", "_law_other_result"] (defScope s_l_above) := ⟨rfl, rfl, rfl, by decide +kernel, rfl, by decide +kernel, by decide +kernel⟩
def PoolAt (H : Hp) (p : Addr) : Prop := ∃ a b c : Int, H p = some (.lst [.int a, .int b, .int c]) ∧ 0 ≤ a ∧ 0 ≤ b
/-- the pool may change -/
def mp (p : Addr) : Mo where
  M := fun b => b = p
  J := fun H => PoolAt H p
  has := fun {H b} j e => by obtain ⟨_, _, _, h, _⟩ := j; rw [e, h]; exact fun z => nomatch z
  loc := fun {H H'} j k _ => by obtain ⟨a, b, c, h, h1, h2⟩ := j; exact ⟨a, b, c, k p _ rfl h, h1, h2⟩
section
variable {P : Program} {w : World} {K : PySem.W.Frag} {mg : Str → Option Value} {base : Heap} {m : Mo} {σ : L2.St} {H : Hp} {ta tb te : TE}
theorem e_mul {i j : Int} (ha : TPk.E K m ta σ H (.int i)) (hb : TPk.E K m tb σ H (.int j)) (hc : CMul i j) : TPk.E K m (tOp (rI CMul fun i j => .int (i * j)) ta tb) σ H (.int (i * j)) := e_i ha hb hc fun _ => .int _
theorem e_mod {i j : Int} (ha : TPk.E K m ta σ H (.int i)) (hb : TPk.E K m tb σ H (.int j)) (hc : 0 < j) : TPk.E K m (tOp (rI (fun _ j => 0 < j) fun i j => .int (i % j)) ta tb) σ H (.int (i % j)) := e_i ha hb hc fun _ => .int _
theorem e_fdiv {i j : Int} (ha : TPk.E K m ta σ H (.int i)) (hb : TPk.E K m tb σ H (.int j)) (hc : CDiv i j) : TPk.E K m (tOp (rI CDiv fun i j => .int (i / j)) ta tb) σ H (.int (i / j)) := e_i ha hb hc fun _ => .int _
theorem e_pow {i j : Int} (ha : TPk.E K m ta σ H (.int i)) (hb : TPk.E K m tb σ H (.int j)) (hc : CPow i j) : TPk.E K m (tOp (rI CPow fun i j => .int (i ^ j.toNat)) ta tb) σ H (.int (i ^ j.toNat)) := e_i ha hb hc fun _ => .int _
theorem ints_isAll : ∀ ns : List Int, IsAll K H (ns.map Dt.int) (ns.map V.int)
  | [] => .nil
  | x :: xs => .cons (.int x) (ints_isAll xs)
theorem l_slQ {i : Nat} {a : Addr} {ns : List Int} {lo hi : Option Int} {tl th : TO} (hb : σ[i]? = some (some (.ref a))) (h : SqL K H a (ns.map V.int)) (hl : O m0 tl σ H lo) (hh : O m0 th σ H hi) : LE K m0 (tSl (rSlL K) (tVar i) tl th) σ H (cutD (ns.map Dt.int) lo hi) := fun H1 g Q q => ⟨_, hb, hl H1 g _ fun H2 g2 => hh H2 (g.trans g2) _ fun H3 g3 =>
  ⟨a, _, rfl, Same.seq ((g.trans g2).trans g3).to0 h, fun p hp => q p _ _ (g2.free (g3.free hp)) ((g2.trans g3).new hp) ⟨_, upd_same, fun z => z, (IsAll.cut (show IsAll K H3 (ns.map Dt.int) (ns.map V.int) from ints_isAll ns) lo hi).tk (tk_new hp)⟩ rfl⟩⟩
theorem cut_int {ns : List Int} {lo hi : Option Int} {d : Dt} (h : d ∈ cutD (ns.map Dt.int) lo hi) : ∃ z, d = .int z := by
  unfold cutD at h
  obtain ⟨z, _, rfl⟩ := List.mem_map.mp (List.mem_of_mem_drop (List.mem_of_mem_take h))
  exact ⟨z, rfl⟩
/-- of the script: its list stands at a -/
def spCell (K : PySem.W.Frag) : Sp := fun vs H Q _ => ∃ (a : Addr) (ns : List Int) (k : Nat), vs = [.ref a, .int (k : Int)] ∧ SqL K H a (ns.map V.int) ∧ k ≤ 1000 ∧ ∀ i H', Same H H' → Q (.int i) H'
theorem e_lenQ {i : Nat} {a : Addr} {xs : List V} (hb : σ[i]? = some (some (.ref a))) (h : SqL K H a xs) : TPk.E K m0 (tCB (rLenS K) (tCons (tVar i) tNil)) σ H (.int (xs.length : Nat)) := fun H1 g Q q => ⟨_, hb, a, xs, rfl, .inl (Same.seq g.to0 h), q _ _ H1 g.again (.int _) rfl⟩
theorem e_ixQ {i : Nat} {a : Addr} {ns : List Int} {j : Nat} {x : Int} (hb : σ[i]? = some (some (.ref a))) (h : SqL K H a (ns.map V.int)) (ht : TPk.E K m0 tb σ H (.int (j : Nat))) (hx : ns[j]? = some x) : TPk.E K m0 (tOp (rIxL K) (tVar i) tb) σ H (.int x) := fun H1 g Q q => ⟨_, hb, ht.go g fun y H2 g2 hy =>
  ⟨a, _, j, .int x, rfl, hy.int_inv, Same.seq (g.trans g2).to0 h, atI_nat (by rw [List.getElem?_map, hx]; rfl), q _ _ H2 g2 (.int x) rfl⟩⟩
theorem c_l_cell (T : Fx K mg) : C8.Cal P w K mg base 1 "_law_cell" (spCell K) [] := by
  obtain ⟨fd, F⟩ := T.D.def_ 32
  refine ⟨_, fd, ["_law_cells", "_law_k"], [], ok0 F sc_l_cell (fun vs H Q Er h => ?_) (fun cdv Ar outer sh H vs Q Er hr h => ?_), T.m_law_cell, F.kp, F.bindsN (fun kV doc pm an cdv ct us hl => match us, hl with | [_, _], _ => rfl), .nil⟩
  · obtain ⟨a, ns, k, rfl, _⟩ := h
    rfl
  · obtain ⟨a, ns, k, rfl, hq, hk, q⟩ := h
    refine ⟨_, (pss_cons (ps_if (pt_cmpR op_lt (pv 1) (pe_callB call_len_seq rfl T.f_len PySem.boot_len (pa_cons (pv 0) pa_nil)) (nomark _)) (pss_one (ps_ret (pe_ix ix_list (pv 0) (pv 1) (fun _ _ => rfl)))) pss_nil)
    (pss_cons (ps_set (i := 2) sc_l_cell.nd rfl (Or.inl rfl) (pe_op op_mod (pe_op op_mul pe_int (pe_op op_add (pe_op op_add (pe_op op_mul (pv 1) (pv 1)) (pe_op op_mul pe_int (pv 1))) pe_int)) pe_int))
    (pss_cons (ps_for PassesOwn.never rfl (pi_list (pe_slice sl_list (pv 0) po_none (po_some pe_int))) (pg_name (i := 3) sc_l_cell.nd rfl (Or.inl rfl)) (pss_one (ps_set (i := 2) sc_l_cell.nd rfl (Or.inl rfl) (pe_op op_mod (pe_op op_add (pe_op op_mul (pv 2) pe_int) (pv 3)) pe_int))))
    (pss_one (ps_ret (pv 2)))))), ?_⟩
    refine k_ite (t_test (e_lt (e_var rfl (.int _)) (e_lenQ rfl hq))) (fun h0 H1 s1 => ?_) (fun h0 H1 s1 => ?_)
    · have hlt : k < ns.length := by
        have := of_decide_eq_true h0
        rw [List.length_map] at this
        omega
      exact q_ret (e_ixQ rfl (s1.seq hq) (e_var rfl (.int _)) (List.getElem?_eq_getElem hlt)) fun v H2 s2 hv => by cases hv.int_inv; exact q _ H2 (s1.trans s2)
    · have hM : (0 : Int) < 2147483179 := by decide
      refine k_set (K := K) (e_mod (e_mul e_int (e_add (e_add (e_mul (e_var rfl (.int _)) (e_var rfl (.int _)) (.inl ⟨by omega, by omega⟩)) (e_mul e_int (e_var rfl (.int _)) (.inl ⟨by decide, by decide⟩))) e_int) (.inl ⟨by decide, by decide⟩)) e_int hM) fun v2 H2 s2 hv2 => ?_
      cases hv2.int_inv
      refine k_for (K := K) (i_list (l_slQ rfl ((s1.trans s2).seq hq) o_none o_int) (fun _ z => z.elim)) (fun i σ' _ => ∃ x y, σ' = [some (.ref a), some (.int (k : Int)), some (.int x), y]) (fun B _ => ⟨_, _, rfl⟩) (fun B i d x σ' H3 H4 hd sA sB p s34 hx => ?_) (fun B σ' H3 sA sB p => ?_)
      · obtain ⟨y2, y3, rfl⟩ := p
        obtain ⟨z, rfl⟩ := cut_int (List.mem_of_getElem? hd)
        refine q_set (e_mod (e_add (e_mul (e_var rfl (.int _)) e_int (.inr ⟨by decide, by decide⟩)) (e_var rfl hx)) e_int hM) fun v5 H5 s5 hv5 => ?_
        cases hv5.int_inv
        exact ⟨sB.trans s5, _, _, rfl⟩
      · obtain ⟨y2, y3, rfl⟩ := p
        exact q_ret (K := K) (e_var rfl (.int _)) fun v H4 s4 hv => by cases hv.int_inv; exact q _ H4 (((s1.trans s2).trans sA).trans s4)
def spPool : Sp := fun vs H Q _ => ∃ c : Int, vs = [.int c] ∧ ∀ p H', H p = none → Same H H' → PoolAt H' p → Q (.ref p) H'
theorem e_abs {i : Int} (h : TPk.E K m te σ H (.int i)) : TPk.E K m (tCB (fun xs H Q => ∃ i, xs = [.int i] ∧ Q (.int (if i < 0 then -i else i)) H) (tCons te tNil)) σ H (.int (if i < 0 then -i else i)) := fun H1 g Q q => h.go g fun v H2 g2 hv => ⟨i, by rw [hv.int_inv], q _ _ H2 g2 (.int _) rfl⟩
theorem c_l_pool (T : Fx K mg) : C8.Cal P w K mg base 1 "_law_pool" spPool [] := by
  obtain ⟨fd, F⟩ := T.D.def_ 33
  refine ⟨_, fd, ["_law_cell_here"], [], ok0 F sc_l_pool (fun vs H Q Er h => ?_) (fun cdv Ar outer sh H vs Q Er hr h => ?_), T.m_law_pool, F.kp, F.bindsN (fun kV doc pm an cdv ct us hl => match us, hl with | [_], _ => rfl), .nil⟩
  · obtain ⟨c, rfl, _⟩ := h
    rfl
  · obtain ⟨c, rfl, q⟩ := h
    refine ⟨_, (pss_cons (ps_set (i := 1) sc_l_pool.nd rfl (Or.inl rfl) (pe_ifExp (PW.pt (pw_or (pt_cmpR op_lt (pv 0) pe_int (nomark _)) (pw_or1 (pt_cmpR op_ge (pv 0) (pe_op op_pow pe_int pe_int) (nomark _))))) (pe_callB call_abs rfl T.f_abs (by decide +kernel) (pa_cons (pv 0) pa_nil)) pe_int))
    (pss_one (ps_ret (pe_lst (pa_cons (pe_op op_mod (pv 0) pe_int) (pa_cons (pv 1) (pa_cons pe_int pa_nil))))))), ?_⟩
    have hex : ∃ b : Int, 0 ≤ b ∧ TPk.E K m0 (tIf (tOr (tTest (tOp (rI0 fun i j => .bl (decide (i < j))) (tVar 0) (tC (.int 0)))) (tTest (tOp (rI0 fun i j => .bl (decide (j ≤ i))) (tVar 0) (tOp (rI CPow fun i j => .int (i ^ j.toNat)) (tC (.int 10)) (tC (.int 18)))))) (tCB (fun xs H Q => ∃ i, xs = [.int i] ∧ Q (.int (if i < 0 then -i else i)) H) (tCons (tVar 0) tNil)) (tC (.int 0))) (L2.start ["_law_cell_here", "_law_digits"] [.int c]) H (.int b) := by
      have ht := t_or (m := m0) (t_test (K := K) (e_lt (H := H) (σ := L2.start ["_law_cell_here", "_law_digits"] [.int c]) (e_var (i := 0) rfl (.int c)) (e_int (i := 0)))) (fun _ => t_test (K := K) (e_ge (e_var (i := 0) rfl (.int c)) (e_pow (i := 10) (j := 18) e_int e_int ⟨by decide, by decide, by decide⟩)))
      cases hb : (decide (c < 0) || decide ((10 : Int) ^ (18 : Int).toNat ≤ c)) with
      | true => exact ⟨if c < 0 then -c else c, by split <;> omega, e_if (ht.cast hb) (fun _ => e_abs (e_var rfl (.int c))) (fun z => nomatch z)⟩
      | false => exact ⟨0, Int.le_refl _, e_if (ht.cast hb) (fun z => nomatch z) (fun _ => e_int)⟩
    obtain ⟨b, hb, he⟩ := hex
    refine k_set he fun v H1 s1 hv => ?_
    cases hv.int_inv
    refine TPk.LE.use0 (l_lst (K := K) (a_cons (e_mod (e_var rfl (.int c)) e_int (by decide)) (a_cons (e_var rfl (.int b)) (a_cons e_int a_nil))) (sz (by show 3 ≤ 100000; decide))) fun p H2 np s2 hp => q p H2 (Same.free s1 np) (s1.trans s2) ?_
    obtain ⟨us, e, hi⟩ := hp
    have : us = [.int (c % 2147483179), .int b, .int 0] := by
      obtain ⟨w1, w2, w3, rfl, z1, z2, z3⟩ := hi.inv3
      rw [z1.int_inv, z2.int_inv, z3.int_inv]
    rw [this] at e
    exact ⟨_, _, _, e, Int.emod_nonneg _ (by decide), hb⟩
/-! ### a draw -/
def many : Int := 2000000000000000000000000000001
def spDraw (K : PySem.W.Frag) : Sp := fun vs H Q _ => ∃ (p : Addr) (k : Int), vs = [.ref p, .int k] ∧ PoolAt H p ∧ 0 < k ∧ k ≤ many ∧ ∀ i H', Go (mp p) H H' → 0 ≤ i → i < k → Q (.int i) H'
theorem mp_upd {p : Addr} {a b c : Int} {x : HO} (h : H p = some x) (hm : ¬ Imm x) (ha : 0 ≤ a) (hb : 0 ≤ b) : Go (mp p) H (upd H p (.lst [.int a, .int b, .int c])) := ⟨fun q o hq i => by
  by_cases e : q = p
  · subst e
    rw [h] at hq
    cases hq
    exact (hm (i rfl)).elim
  · rw [upd_ne e]; exact hq, a, b, c, upd_same, ha, hb⟩
theorem sqp {p : Addr} {xs : List V} (h : H p = some (.lst xs)) : SqL K H p xs := .inl (.inl h)
theorem div_small {i j : Int} (hj : 0 < j) (hk : j ≤ many) : CDivP i j := ⟨hj, PyProof.noPylong_of_log2 (by
  have h2 : j.natAbs < 2 ^ 101 := by
    have : (2 : Nat) ^ 101 = 2535301200456458802993406410752 := by decide
    unfold many at hk
    omega
  have := Nat.log2_lt (n := j.natAbs) (k := 101) (by omega) |>.mpr h2
  omega)⟩
theorem c_l_draw (T : Fx K mg) : C8.Cal P w K mg base 1 "_law_draw" (spDraw K) [] := by
  obtain ⟨fd, F⟩ := T.D.def_ 34
  refine ⟨_, fd, ["_law_pool_here", "_law_many"], [], ok0 F sc_l_draw (fun vs H Q Er h => ?_) (fun cdv Ar outer sh H vs Q Er hr h => ?_), T.m_law_draw, F.kp, F.bindsN (fun kV doc pm an cdv ct us hl => match us, hl with | [_, _], _ => rfl), .nil⟩
  · obtain ⟨p, k, rfl, _⟩ := h
    rfl
  · obtain ⟨p, k, rfl, ⟨a, b, c, hp, ha, hb⟩, hk, hk2, q⟩ := h
    refine ⟨_, (pss_cons (ps_asg (pe_op op_add (pe_ix ix_list (pv 0) pe_int (fun _ _ => rfl)) pe_int) (pg_sub (pv 0) pe_int set_list))
    (pss_cons (ps_set (i := 2) sc_l_draw.nd rfl (Or.inl rfl) (pe_ix ix_list (pv 0) pe_int (fun _ _ => rfl)))
    (pss_cons (ps_asg (pe_op op_mod (pe_op op_add (pe_op op_add (pe_op op_mul (pv 2) (pe_op op_add (pe_op op_mod (pv 2) pe_int) pe_int)) (pe_op op_mul pe_int (pe_ix ix_list (pv 0) pe_int (fun _ _ => rfl)))) pe_int) pe_int) (pg_sub (pv 0) pe_int set_list))
    (pss_cons (ps_if (pt_cmpR op_gt (pe_ix ix_list (pv 0) pe_int (fun _ _ => rfl)) pe_int (nomark _)) (pss_cons (ps_asg (pe_callB call_divmodW rfl T.f_divmod (by decide +kernel) (pa_cons (pe_ix ix_list (pv 0) pe_int (fun _ _ => rfl)) (pa_cons (pv 1) pa_nil))) (pg_tup rfl (pgs_cons (pg_sub (pv 0) pe_int set_list) (pgs_cons (pg_name (i := 3) sc_l_draw.nd rfl (Or.inl rfl)) pgs_nil))))
    (pss_one (ps_ret (pv 3)))) pss_nil)
    (pss_one (ps_ret (pe_op op_mod (pe_op op_fdiv (pe_ix ix_list (pv 0) pe_int (fun _ _ => rfl)) pe_int) (pv 1)))))))), ?_⟩
    refine ⟨_, rfl, p, _, 2, .int c, rfl, rfl, sqp hp, rfl, c, 1, rfl, rfl, _, rfl, p, _, 2, 2, rfl, rfl, hp, rfl, ?_⟩
    refine ⟨_, rfl, p, _, 0, .int a, rfl, rfl, sqp upd_same, rfl, ?_⟩
    refine ⟨_, rfl, _, rfl, a, 40993, rfl, rfl, (by decide : (0 : Int) < 40993), _, 30013, rfl, rfl, a, _, rfl, rfl, .inr ⟨?_, ?_⟩, _, rfl, p, _, 2, .int (c + 1), rfl, rfl, sqp upd_same, rfl, 70001, _, rfl, rfl, .inl ⟨by decide, by decide⟩, _, _, rfl, rfl, _, 9, rfl, rfl, _, 2147483179, rfl, rfl, (by decide : (0 : Int) < 2147483179), ?_⟩
    · have := Int.emod_nonneg a (show (40993 : Int) ≠ 0 by decide)
      omega
    · have := Int.emod_lt_of_pos a (show (0 : Int) < 40993 by decide)
      omega
    have g1 := mp_upd (a := a) (b := b) (c := c + 1) hp (fun z => z) ha hb
    have ha2 := Int.emod_nonneg (a * (a % 40993 + 30013) + 70001 * (c + 1) + 9) (show (2147483179 : Int) ≠ 0 by decide)
    have g2 := mp_upd (a := (a * (a % 40993 + 30013) + 70001 * (c + 1) + 9) % 2147483179) (b := b) (c := c + 1) (upd_same : (upd H p (.lst [.int a, .int b, .int (c + 1)])) p = some _) (fun z => z) ha2 hb
    have g := g1.trans g2
    have h2 : (upd (upd H p (.lst [.int a, .int b, .int (c + 1)])) p (.lst [.int ((a * (a % 40993 + 30013) + 70001 * (c + 1) + 9) % 2147483179), .int b, .int (c + 1)])) p = some (.lst [.int ((a * (a % 40993 + 30013) + 70001 * (c + 1) + 9) % 2147483179), .int b, .int (c + 1)]) := upd_same
    refine ⟨_, rfl, p, _, 0, 0, rfl, rfl, upd_same, rfl, ?_⟩
    have hh : ∃ H2, H2 = upd (upd H p (.lst [.int a, .int b, .int (c + 1)])) p (.lst [.int ((a * (a % 40993 + 30013) + 70001 * (c + 1) + 9) % 2147483179), .int b, .int (c + 1)]) := ⟨_, rfl⟩
    obtain ⟨H2, hH2⟩ := hh
    rw [← hH2] at g h2
    refine (fun z => (show upd (upd H p (.lst [.int a, .int b, .int (c + 1)])) p (.lst [.int ((a * (a % 40993 + 30013) + 70001 * (c + 1) + 9) % 2147483179), .int b, .int (c + 1)]) = H2 from hH2.symm) ▸ z : _ → _) ?_
    generalize (a * (a % 40993 + 30013) + 70001 * (c + 1) + 9) % 2147483179 = a' at ha2 h2
    clear hH2 g1 g2
    refine ⟨_, rfl, p, _, 1, .int b, rfl, rfl, sqp h2, rfl, b, 0, rfl, rfl, _, rfl, ?_⟩
    by_cases h0 : 0 < b
    · rw [decide_eq_true h0]
      refine iteT ?_
      refine ⟨_, rfl, p, _, 1, .int b, rfl, rfl, sqp h2, rfl, _, rfl, b, k, rfl, div_small hk hk2, fun t nt => ?_⟩
      have nt2 : p ≠ t := ne_of_none h2 nt
      refine ⟨t, _, rfl, SqT.of upd_same, rfl, _, _, rfl, ⟨_, rfl, p, _, 1, 1, rfl, rfl, by rw [upd_ne nt2]; exact h2, rfl, ?_⟩⟩
      refine ⟨_, _, rfl, rfl, ?_⟩
      refine ⟨_, rfl, q _ _ ?_ (Int.emod_nonneg _ (by omega)) (Int.emod_lt_of_pos _ hk)⟩
      exact (g.same (same_new nt)).trans (mp_upd (x := .lst [.int a', .int b, .int (c + 1)]) (by rw [upd_ne nt2]; exact h2) (fun z => z) ha2 (Int.ediv_nonneg hb (by omega)))
    · rw [decide_eq_false h0]
      refine iteF ?_
      refine ⟨_, rfl, p, _, 0, .int a', rfl, rfl, sqp h2, rfl, a', 64, rfl, rfl, ⟨by decide, by decide⟩, _, rfl, a' / 64, k, rfl, rfl, hk, ?_⟩
      exact q _ _ g (Int.emod_nonneg _ (by omega)) (Int.emod_lt_of_pos _ hk)
end
end TPk
end F13_text

section F14_text
set_option Elab.async false
set_option linter.all false
set_option maxRecDepth 100000
set_option maxHeartbeats 4000000
/-! Walks: the law's own reckoning. -/
namespace TPk
open PySem PySem.Spec PyProof.Rows L2
theorem sc_l_terms : FnScope ["_law_count", "_law_found", "_law_k"] ["_law_count"] (defScope s_l_terms) := ⟨rfl, rfl, rfl, by decide +kernel, rfl, by decide +kernel, by decide +kernel⟩
theorem sc_l_source : FnScope ["_law_term"] ["_law_term"] (defScope s_l_source) := ⟨rfl, rfl, rfl, by decide +kernel, rfl, by decide +kernel, by decide +kernel⟩
theorem sc_l_best : FnScope ["_law_side", "_law_some_here", "_law_found", "_law_value_here"] ["_law_side", "_law_some_here"] (defScope s_l_best) := ⟨rfl, rfl, rfl, by decide +kernel, rfl, by decide +kernel, by decide +kernel⟩
theorem sc_l_step : FnScope ["_law_plain_here", "_law_held", "_law_event", "_law_sources", "_law_found", "_law_k", "_law_terms_here", "_law_some_here", "_law_term", "_law_node", "_law_taken"] ["_law_plain_here", "_law_held", "_law_event"] (defScope s_l_step) := ⟨rfl, rfl, rfl, by decide +kernel, rfl, by decide +kernel, by decide +kernel⟩
theorem sc_l_end : FnScope ["_law_plain_here", "_law_held", "_law_one_end"] ["_law_plain_here", "_law_held"] (defScope s_l_end) := ⟨rfl, rfl, rfl, by decide +kernel, rfl, by decide +kernel, by decide +kernel⟩
theorem sc_l_result : FnScope ["_law_plain_here", "_law_events_here", "_law_held", "_law_event"] ["_law_plain_here", "_law_events_here"] (defScope s_l_result) := ⟨rfl, rfl, rfl, by decide +kernel, rfl, by decide +kernel, by decide +kernel⟩
theorem sc_l_of : FnScope ["_law_plain_here"] ["_law_plain_here"] (defScope s_l_of) := ⟨rfl, rfl, rfl, by decide +kernel, rfl, by decide +kernel, by decide +kernel⟩
section
variable {P : Program} {w : World} {K : PySem.W.Frag} {mg : Str → Option Value} {base : Heap} {m : Mo} {σ : L2.St} {H : Hp} {ta tb te : TE}
theorem c_l_best (T : Fx K mg) : C8.Cal P w K mg base 1 "_law_best" (spBest K) [] := by
  obtain ⟨fd, F⟩ := T.D.def_ 42
  refine ⟨_, fd, ["_law_side", "_law_some_here"], [], ok0 F sc_l_best (fun vs H Q Er h => ?_) (fun cdv Ar outer sh H vs Q Er hr h => ?_), T.m_law_best, F.kp, F.bindsN (fun kV doc pm an cdv ct us hl => match us, hl with | [_, _], _ => rfl), .nil⟩
  · obtain ⟨g, p, os, rfl, hO, hz, q⟩ := h
    rfl
  · obtain ⟨g, p, os, rfl, hO, hz, q⟩ := h
    refine ⟨_, (pss_cons (ps_setLcF (i := 2) (own := [("_law_value_here", 3)]) rfl sc_l_best.nd rfl rfl (sw_true rfl rfl rfl (by decide +kernel)) (pi_list (pv 1)) (blkOk_by (by kernel_rfl)) (fun _ _ _ _ _ => (pg_name (i := 3) sc_l_best.nd rfl (by first | exact Or.inl rfl | exact Or.inr rfl))) (fun _ _ _ _ _ => (pts_one (pt_cmpR op_notN (pv 3) pe_non (nomark _)))) (fun _ _ _ _ _ => (pv 3)))
    (pss_cons (ps_if (pt_cmpR (op_eqD hr.units) (pv 2) (pe_lst pa_nil) (nomark _)) (pss_one (ps_ret pe_non)) pss_nil)
    (pss_one (ps_ret (pe_ifExp (pt_cmpR op_eq (pv 0) pe_str (nomark _)) (pe_callB (cr_max rfl) rfl T.f_max (by decide +kernel) (pa_cons (pv 2) pa_nil)) (pe_callB (cr_min rfl) rfl T.f_min (by decide +kernel) (pa_cons (pv 2) pa_nil))))))), ?_⟩
    refine k_setL (K := K) ((l_flt (f := id) (p := fun d => !d.isN) (i_listS rfl hO.li fun z => z) (by rw [List.length_map]; exact sz hz) (fun i d x H1 hd g hx => t_test (e_notN (e_var rfl hx))) (fun i d x H1 hd hp g hx => e_var rfl hx)).cast (filter_oD os)) fun l H1 nl s1 hL => ?_
    refine k_ite (t_test (e_nilS rfl hL.li (ints_sf _))) (fun h0 H2 s2 => ?_) (fun h0 H2 s2 => ?_)
    · have e : os.filterMap id = [] := by simpa using h0
      refine q_ret (e_non (K := K)) fun v H3 s3 hv => q v H3 ((s1.trans s2).trans s3) ?_
      rw [e]
      exact hv
    · have hne : os.filterMap id ≠ [] := fun e => by rw [e] at h0; cases h0
      have hpos : 0 < (os.filterMap id).length := List.length_pos_iff.mpr hne
      have hL2 := hL.same s2
      have hg : ∀ g, decide ((Dt.str (sdT g)).fv = (Dt.str "greatest").fv) = g := by decide +kernel
      refine q_ret (e_if ((t_test (K := K) (e_eq (e_var (d := .str (sdT g)) rfl (.str _)) e_str rfl rfl rfl)).cast (hg g)) (fun e => ?_) (fun e => ?_)) fun v H3 s3 hv => q v H3 ((s1.trans s2).trans s3) hv
      · subst e; exact e_maxS rfl hL2.li hpos
      · subst e; exact e_minS rfl hL2.li hpos
theorem c_l_source (T : Fx K mg) : C8.Cal P w K mg base 1 "_law_source" (Pu K R_source_of) [] := by
  obtain ⟨fd, F⟩ := T.D.def_ 36
  refine ⟨_, fd, ["_law_term"], [], ok0 F sc_l_source (fun vs H Q Er h => ?_) (fun cdv Ar outer sh H vs Q Er hr h => ?_), T.m_law_source, F.kp, F.bindsN (fun kV doc pm an cdv ct us hl => match us, hl with | [_], _ => rfl), .nil⟩
  · obtain ⟨ds, d, hI, ⟨c, hc, rfl, rfl⟩, q⟩ := h
    exact hI.length.symm
  · obtain ⟨ds, d, hI, ⟨c, hc, rfl, rfl⟩, q⟩ := h
    obtain ⟨v, rfl, h1⟩ := hI.inv1
    obtain ⟨z1, z2, z3, z4, z5⟩ := src_term c hc
    refine ⟨_, (pss_cons (ps_if (pt_cmpR op_in_seq (pv 0) (pe_lst (pa_cons pe_str (pa_cons pe_str pa_nil))) rfl) (pss_one (ps_ret (pe_tup (pa_cons pe_str (pa_cons (pe_cmpR op_eq (pv 0) pe_str (nomark _)) pa_nil))))) pss_nil)
    (pss_one (ps_ret (pe_tup (pa_cons (pe_slice sl_str (pv 0) po_none (po_some pe_int)) (pa_cons (pe_cmpR op_gt (pe_callB call_len rfl T.f_len PySem.boot_len (pa_cons (pv 0) pa_nil)) pe_int (nomark _)) pa_nil)))))), ?_⟩
    refine k_ite ((t_test (e_inL (neg := false) (e_var rfl h1) (l_lst (a_cons e_str (a_cons e_str a_nil)) (sz (by decide))) rfl rfl)).cast (show (if false = true then !inV (Dt.str (tt c)).fv (([.str "0", .str "x"] : List Dt).map Dt.fv) else inV (Dt.str (tt c)).fv (([.str "0", .str "x"] : List Dt).map Dt.fv)) = decide (c = 0 ∨ c = 13) from z1)) (fun h0 H1 s1 => ?_) (fun h0 H1 s1 => ?_)
    · obtain ⟨y1, y2⟩ := z5 (of_decide_eq_true h0)
      refine q_ret (e_tup (a_cons e_str (a_cons (e_eq (e_var rfl (h1.same s1)) e_str rfl rfl rfl) a_nil)) (sz (by show 2 ≤ 100000; decide))) fun u H2 s2 hu => q u H2 (s1.trans s2) ?_
      unfold srcD
      rw [y1, y2, ← z2]
      exact hu
    · obtain ⟨y1, y2⟩ := z3 (of_decide_eq_false h0)
      refine q_ret (e_tup (a_cons (e_slX (e_var rfl (h1.same s1)) o_none o_int (sz (Nat.le_trans z4 (by decide)))) (a_cons (e_gt (e_lenX (e_var rfl (h1.same s1)) (sz (Nat.le_trans z4 (by decide)))) e_int) a_nil)) (sz (by show 2 ≤ 100000; decide))) fun u H2 s2 hu => q u H2 (s1.trans s2) ?_
      unfold srcD
      rw [← y1, ← y2]
      exact hu

theorem oD_scal : ∀ (a b : Option Int), (oD a).fl = true ∧ scal (oD a).fv (oD b).fv = true ∧ (decide ((oD a).fv = (oD b).fv)) = decide (a = b) := fun a b => by
  cases a <;> cases b <;> refine ⟨rfl, rfl, ?_⟩
  · rfl
  · exact decide_eq_false (fun z => nomatch z)
  · exact decide_eq_false (fun z => nomatch z)
  · rename_i x y
    by_cases h : x = y
    · subst h; rw [decide_eq_true rfl, decide_eq_true rfl]
    · rw [decide_eq_false (fun z => h (by injection z)), decide_eq_false (fun z => h (by injection z))]
def R_above : Hp → List Dt → Dt → Prop := fun _ ds d => ∃ g a b, ds = [.str (sdT g), oD a, oD b] ∧ d = .bl (abv g a b)
theorem c_l_above (T : Fx K mg) : C8.Cal P w K mg base 1 "_law_above" (Pu K R_above) [] := by
  obtain ⟨fd, F⟩ := T.D.def_ 51
  refine ⟨_, fd, ["_law_side", "_law_one_result", "_law_other_result"], [], ok0 F sc_l_above (fun vs H Q Er h => ?_) (fun cdv Ar outer sh H vs Q Er hr h => ?_), T.m_law_above, F.kp, F.bindsN (fun kV doc pm an cdv ct us hl => match us, hl with | [_, _, _], _ => rfl), .nil⟩
  · obtain ⟨ds, d, hI, ⟨g, a, b, rfl, rfl⟩, q⟩ := h
    exact hI.length.symm
  · obtain ⟨ds, d, hI, ⟨g, a, b, rfl, rfl⟩, q⟩ := h
    obtain ⟨v1, v2, v3, rfl, h1, h2, h3⟩ := hI.inv3
    refine ⟨_, (pss_cons (ps_if (PW.pt (pw_or (pt_cmpR op_isN (pv 1) pe_non (nomark _)) (pw_or1 (pt_cmpR op_isN (pv 2) pe_non (nomark _))))) (pss_one (ps_ret (pe_and (pe_cmpR op_eq (pe_cmpR op_isN (pv 2) pe_non (nomark _)) (pe_cmpR op_eq (pv 0) pe_str (nomark _)) (nomark _)) (pe_one (pe_cmpR op_ne (pv 1) (pv 2) (nomark _)))))) pss_nil)
    (pss_one (ps_ret (pe_cmpR op_gt (pv 1) (pv 2) (nomark _))))), ?_⟩
    have hg : ∀ g, decide ((Dt.str (sdT g)).fv = (Dt.str "greatest").fv) = g := by decide +kernel
    obtain ⟨f1, f2, f3⟩ := oD_scal a b
    obtain ⟨f4, _, _⟩ := oD_scal b a
    have part : ∀ H1, Same H H1 → (a.isNone || b.isNone) = true → TPk.E K m0 (tAndV (tOp rEq (tOp (fun x y H Q => y = .non ∧ Q (.bl (decide (x = .non))) H) (tVar 2) (tC .non)) (tOp rEq (tVar 0) (tC (.str "greatest")))) (tOp rNe (tVar 1) (tVar 2))) (L2.start ["_law_side", "_law_one_result", "_law_other_result"] [v1, v2, v3]) H1 (.bl (abv g a b)) := fun H1 s1 hn =>
      (e_and (b := !decide ((oD a).fv = (oD b).fv)) (e_eq (e_isN (e_var rfl (h3.same s1))) (e_eq (e_var rfl (h1.same s1)) e_str rfl rfl rfl) rfl rfl rfl) fun _ => e_ne (e_var rfl (h2.same s1)) (e_var rfl (h3.same s1)) f1 f4 f2).cast (by
        rw [f3, hg g]
        have e1 : (oD b).isN = b.isNone := by cases b <;> rfl
        rw [e1]
        have e2 : decide ((Dt.bl b.isNone).fv = (Dt.bl g).fv) = (b.isNone == g) := by cases b.isNone <;> cases g <;> rfl
        rw [e2]
        cases a with
        | none => cases b <;> simp [abv]
        | some x =>
          cases b with
          | none => simp [abv]
          | some y => cases hn)
    have e0 : ∀ o, (oD o).isN = o.isNone := fun o => by cases o <;> rfl
    refine k_ite ((t_or (t_test (e_isN (e_var rfl h2))) fun _ => t_test (e_isN (e_var rfl h3))).cast (by rw [e0, e0])) (fun h0 H1 s1 => ?_) (fun h0 H1 s1 => ?_)
    · exact q_ret (part H1 s1 h0) fun v H2 s2 hv => q v H2 (s1.trans s2) hv
    · cases a with
      | none => cases h0
      | some x =>
        cases b with
        | none => cases h0
        | some y => exact q_ret (e_gt (e_var rfl (h2.same s1)) (e_var rfl (h3.same s1))) fun v H2 s2 hv => q v H2 (s1.trans s2) hv
/-! ### terms -/
theorem str_int : ∀ n, n < 6 → ("r" : Str) ++ Str.ofString (toString ((n : Nat) : Int)) = rt n ∧ ((n : Nat) : Int).natAbs.log2 < 1920 ∧ ("r" : Str).length + (Str.ofString (toString ((n : Nat) : Int))).length ≤ 100 ∧ (rt n).length + ("+x" : Str).length ≤ 100 ∧ tt (2 * n + 1) = rt n ∧ tt (2 * n + 2) = rt n ++ "+x" := by decide +kernel
theorem e_strI {n : Nat} (h : TPk.E K m te σ H (.int (n : Int))) (hn : n < 6) : TPk.E K m (tCB (fun xs H Q => ∃ i, xs = [.int i] ∧ i.natAbs.log2 < 1920 ∧ Q (.str (toString i)) H) (tCons te tNil)) σ H (.str (Str.ofString (toString (n : Int)))) := fun H1 g Q q => h.go g fun v H2 g2 hv => ⟨n, by rw [hv.int_inv], (str_int n hn).2.1, q _ _ H2 g2 (.str _) rfl⟩
/-- 'r' + str(n) -/
theorem e_rn {n : Nat} (h : TPk.E K m te σ H (.int (n : Int))) (hn : n < 6) : TPk.E K m (tOp (fun x y H Q => ∃ i j, x = .str i ∧ y = .str j ∧ i.length + j.length ≤ sizeLine ∧ Q (.str (i ++ j)) H) (tC (.str "r")) (tCB (fun xs H Q => ∃ i, xs = [.int i] ∧ i.natAbs.log2 < 1920 ∧ Q (.str (toString i)) H) (tCons te tNil))) σ H (.str (rt n)) := by
  obtain ⟨z1, z2, z3, _⟩ := str_int n hn
  exact (e_addS e_str (e_strI h hn) (sz (by omega))).cast (by rw [z1])
theorem range_at {n i : Nat} {d : Dt} (h : ((List.range n).map fun (j : Nat) => Dt.int (j : Int))[i]? = some d) : i < n ∧ d = .int (i : Nat) := by
  rw [List.getElem?_map] at h
  cases e : (List.range n)[i]? with
  | none => rw [e] at h; cases h
  | some j =>
    rw [e] at h
    obtain ⟨h1, h2⟩ := List.getElem?_eq_some_iff.mp e
    rw [List.getElem_range] at h2
    rw [List.length_range] at h1
    subst h2
    exact ⟨h1, (Option.some.inj h).symm⟩
theorem c_l_terms (T : Fx K mg) : C8.Cal P w K mg base 1 "_law_terms" (Pl K R_terms_of) [] := by
  obtain ⟨fd, F⟩ := T.D.def_ 35
  refine ⟨_, fd, ["_law_count"], [], ok0 F sc_l_terms (fun vs H Q Er h => ?_) (fun cdv Ar outer sh H vs Q Er hr h => ?_), T.m_law_terms, F.kp, F.bindsN (fun kV doc pm an cdv ct us hl => match us, hl with | [_], _ => rfl), .nil⟩
  · obtain ⟨ds, d, hI, ⟨n, rfl, hn, rfl⟩, q⟩ := h
    exact hI.length.symm
  · obtain ⟨ds, d, hI, ⟨n, rfl, hn, rfl⟩, q⟩ := h
    obtain ⟨v, rfl, h1⟩ := hI.inv1
    refine ⟨_, (pss_cons (ps_set (i := 1) sc_l_terms.nd rfl (Or.inl rfl) (pe_lst (pa_cons pe_str pa_nil)))
    (pss_cons (ps_for PassesOwn.never rfl (pi_range1 rfl T.f_range (pa_cons (pv 0) pa_nil)) (pg_name (i := 2) sc_l_terms.nd rfl (Or.inl rfl)) (pss_one (ps_set (i := 1) sc_l_terms.nd rfl (Or.inl rfl) (pe_op op_cat (pv 1) (pe_lst (pa_cons (pe_op op_add_str pe_str (pe_callTy call_str_int rfl T.f_str (by decide +kernel) (pa_cons (pv 2) pa_nil))) (pa_cons (pe_op op_add_str (pe_op op_add_str pe_str (pe_callTy call_str_int rfl T.f_str (by decide +kernel) (pa_cons (pv 2) pa_nil))) pe_str) pa_nil)))))))
    (pss_one (ps_ret (pe_op op_cat (pv 1) (pe_lst (pa_cons pe_str pa_nil))))))), ?_⟩
    refine k_setL (K := K) (l_lst (a_cons e_str a_nil) (sz (by decide))) fun l H1 nl s1 hO => ?_
    refine k_for (K := K) (i_range (e_var rfl (h1.same s1)) (by omega)) (fun i σ' H' => ∃ l y, σ' = [some v, some (.ref l), y] ∧ Ow K H' l ((List.range (2 * i + 1)).map fun c => .str (tt c))) (fun B sB => ⟨l, _, rfl, hO.same sB⟩) (fun B i d x σ' H2 H3 hd sA sB p s23 hx => ?_) (fun B σ' H2 sA sB p => ?_)
    · obtain ⟨l', y, rfl, hO'⟩ := p
      obtain ⟨hi, rfl⟩ := range_at hd
      obtain ⟨z1, z2, z3, z4, z5, z6⟩ := str_int i (by omega)
      refine q_setL (l_catS rfl (hO'.same s23).li (l_lst (a_cons (e_rn (e_var rfl hx) (by omega)) (a_cons (e_addS (e_rn (e_var rfl hx) (by omega)) e_str (sz (by omega))) a_nil)) (sz (by show 2 ≤ 100000; decide))) ?_) fun l2 H4 nl2 s4 hO2 => ⟨sB.trans s4, l2, _, rfl, ?_⟩
      · rw [List.length_map, List.length_range]
        exact sz (by show 2 * i + 1 + 2 ≤ 100000; omega)
      · rw [show 2 * (i + 1) + 1 = (2 * i + 1) + 1 + 1 by omega, List.range_succ, List.range_succ, List.map_append, List.map_append, List.append_assoc]
        show Ow K H4 l2 (_ ++ ([Dt.str (tt (2 * i + 1))] ++ [Dt.str (tt (2 * i + 2))]))
        rw [z5, z6]
        exact hO2
    · obtain ⟨l', y, rfl, hO'⟩ := p
      rw [List.length_map, List.length_range] at hO'
      refine LE.use0 (l_catS rfl hO'.li (l_lst (a_cons e_str a_nil) (sz (by decide))) ?_) fun l2 H3 nl2 s3 hO2 => q l2 H3 (Same.free (s1.trans sA) nl2) ((s1.trans sA).trans s3) ?_
      · rw [List.length_map, List.length_range]
        exact sz (by show 2 * n + 1 + 1 ≤ 100000; omega)
      · unfold codes
        rw [List.map_append]
        exact hO2
/-! ### the plain form -/
def plainD (s : Stt Str) : Dt := .tup [.str (sdT s.side), .ftup s.kinds, startD s.start, rulesD s.rules, endsD s.ends]
theorem Is.ft {xs : List Str} {v : V} (h : Is K H (.ftup xs) v) : Is K H (strsD xs) v := by
  obtain ⟨a, ob, rfl, h1, h2⟩ := h.ftup_inv
  exact is_strs (.inl (.inr ⟨ob, h1⟩))
theorem e_ft {xs : List Str} (h : TPk.E K m te σ H (.ftup xs)) : TPk.E K m te σ H (strsD xs) := fun H1 g Q q => h.go g fun v H2 g2 hv => q v _ H2 g2 hv.ft rfl
theorem e_p0 {s : Stt Str} (h : TPk.E K m te σ H (plainD s)) : TPk.E K m (tOp (rIxT K) te (tC (.int 0))) σ H (.str (sdT s.side)) := e_ixT h e_int rfl
theorem e_p1 {s : Stt Str} (h : TPk.E K m te σ H (plainD s)) : TPk.E K m (tOp (rIxT K) te (tC (.int 1))) σ H (.ftup s.kinds) := e_ixT h e_int rfl
theorem e_p2 {s : Stt Str} (h : TPk.E K m te σ H (plainD s)) : TPk.E K m (tOp (rIxT K) te (tC (.int 2))) σ H (startD s.start) := e_ixT h e_int rfl
theorem e_p3 {s : Stt Str} (h : TPk.E K m te σ H (plainD s)) : TPk.E K m (tOp (rIxT K) te (tC (.int 3))) σ H (rulesD s.rules) := e_ixT h e_int rfl
theorem e_p4 {s : Stt Str} (h : TPk.E K m te σ H (plainD s)) : TPk.E K m (tOp (rIxT K) te (tC (.int 4))) σ H (endsD s.ends) := e_ixT h e_int rfl
/-! ### made -/
def spOf (K : PySem.W.Frag) : Sp := fun vs H Q _ => ∃ v s, vs = [v] ∧ Is K H (plainD s) v ∧ SV s ∧ ∀ a H', Same H H' → StatAt K H' a s → Q (.ref a) H'
theorem c_l_of (T : Fx K mg) : C8.Cal P w K mg base 6 "_law_of" (spOf K) [] := by
  obtain ⟨m_Greatest, m_Least⟩ := mk_stat (P := P) (w := w) (base := base) T
  obtain ⟨fd, F⟩ := T.D.def_ 41
  refine ⟨_, fd, ["_law_plain_here"], [], ok0 F sc_l_of (fun vs H Q Er h => ?_) (fun cdv Ar outer sh H vs Q Er hr h => ?_), T.m_law_of, F.kp, F.bindsN (fun kV doc pm an cdv ct us hl => match us, hl with | [_], _ => rfl), .nil⟩
  · obtain ⟨v, s, rfl, _⟩ := h
    rfl
  · obtain ⟨v, s, rfl, h1, hv, q⟩ := h
    refine ⟨_, (pss_cons (ps_if (pt_cmpR op_eq (pe_ix ix_tup (pv 0) pe_int (fun _ _ => rfl)) pe_str (nomark _)) (pss_one (ps_ret (C8.pe_mk m_Greatest hr (by decide) rfl (pa_cons (pe_ix ix_tup (pv 0) pe_int (fun _ _ => rfl)) (pa_cons (pe_ix ix_tup (pv 0) pe_int (fun _ _ => rfl)) (pa_cons (pe_ix ix_tup (pv 0) pe_int (fun _ _ => rfl)) (pa_cons (pe_ix ix_tup (pv 0) pe_int (fun _ _ => rfl)) pa_nil))))))) pss_nil)
    (pss_one (ps_ret (C8.pe_mk m_Least hr (by decide) rfl (pa_cons (pe_ix ix_tup (pv 0) pe_int (fun _ _ => rfl)) (pa_cons (pe_ix ix_tup (pv 0) pe_int (fun _ _ => rfl)) (pa_cons (pe_ix ix_tup (pv 0) pe_int (fun _ _ => rfl)) (pa_cons (pe_ix ix_tup (pv 0) pe_int (fun _ _ => rfl)) pa_nil)))))))), ?_⟩
    have hg : ∀ g, decide ((Dt.str (sdT g)).fv = (Dt.str "greatest").fv) = g := by decide +kernel
    refine k_ite ((t_test (e_eq (e_p0 (e_var rfl h1)) e_str rfl rfl rfl)).cast (hg s.side)) (fun h0 H1 s1 => ?_) (fun h0 H1 s1 => ?_)
    · have h1' := h1.same s1
      exact make_ (m := m0) (g := true) (a_cons (e_ft (e_p1 (e_var rfl h1'))) (a_cons (e_p2 (e_var rfl h1')) (a_cons (e_p3 (e_var rfl h1')) (a_cons (e_p4 (e_var rfl h1')) a_nil)))) hv h0 H1 (.refl True.intro) fun a H2 na g2 hs => q a H2 (s1.trans g2.to0) hs
    · have h1' := h1.same s1
      exact make_ (m := m0) (g := false) (a_cons (e_ft (e_p1 (e_var rfl h1'))) (a_cons (e_p2 (e_var rfl h1')) (a_cons (e_p3 (e_var rfl h1')) (a_cons (e_p4 (e_var rfl h1')) a_nil)))) hv h0 H1 (.refl True.intro) fun a H2 na g2 hs => q a H2 (s1.trans g2.to0) hs
/-! ### results -/
def R_lend : Hp → List Dt → Dt → Prop := fun _ ds d => ∃ s row, ds = [plainD s, rowOD row] ∧ SV s ∧ row.length = s.start.length ∧ d = oD (rd s.side s.ends row)
theorem c_l_end (T : Fx K mg) : C8.Cal P w K mg base 2 "_law_end" (Pu K R_lend) [] := by
  have c_l_best := c_l_best (P := P) (w := w) (base := base) T
  obtain ⟨fd, F⟩ := T.D.def_ 44
  refine ⟨_, fd, ["_law_plain_here", "_law_held"], [], ok0 F sc_l_end (fun vs H Q Er h => ?_) (fun cdv Ar outer sh H vs Q Er hr h => ?_), T.m_law_end, F.kp, F.bindsN (fun kV doc pm an cdv ct us hl => match us, hl with | [_, _], _ => rfl), .nil⟩
  · obtain ⟨ds, d, hI, ⟨s, row, rfl, _⟩, q⟩ := h
    exact hI.length.symm
  · obtain ⟨ds, d, hI, ⟨s, row, rfl, hv, hrw, rfl⟩, q⟩ := h
    obtain ⟨v1, v3, rfl, h1, h3⟩ := hI.inv2
    have he : ∀ e ∈ s.ends, e < row.length := fun e he => by rw [hrw]; exact hv.ends.2.2 e he
    have hr6 : row.length ≤ 6 := by rw [hrw]; exact hv.start.2
    have hz := pw_len (N := 6) hv.ends.2.1 fun e h => Nat.lt_of_lt_of_le (he e h) hr6
    refine ⟨_, (pss_one (ps_ret (C8.pe_c c_l_best hr (by decide) rfl (pa_cons (pe_ix ix_tup (pv 0) pe_int (fun _ _ => rfl)) (pa_cons (pe_lcF (own := [("_law_one_end", 2)]) rfl sc_l_end.nd (pi_tup (pe_ix ix_tup (pv 0) pe_int (fun _ _ => rfl))) (blkOk_by (by kernel_rfl)) (fun _ _ _ _ _ => (pg_name (i := 2) sc_l_end.nd rfl (by first | exact Or.inl rfl | exact Or.inr rfl))) (fun _ _ _ _ _ => pts_nil) (fun _ _ _ _ _ => (pe_ix ix_tup (pv 1) (pe_callTy call_int_str rfl T.f_int (by decide +kernel) (pa_cons (pe_slice sl_str (pv 2) (po_some pe_int) po_none) pa_nil)) (fun _ _ => rfl)))) pa_nil))))), ?_⟩
    refine q_ret (E.cast (e_best (os := s.ends.map fun e => row.getD e none) (e_p0 (e_var rfl h1)) ((l_map (f := fun d => match d with | .str x => oD (row.getD ((PySem.intText? (cutS x (some 1) none)).getD 0).toNat none) | _ => .non) (i_tup (e_p4 (e_var rfl h1))) (by rw [List.length_map]; exact sz (by omega)) fun i d x H1 hd g hx => ?_).cast ?_) (by rw [List.length_map]; omega)) ?_) q
    · rw [List.getElem?_map] at hd
      cases hh : s.ends[i]? with
      | none => rw [hh] at hd; cases hd
      | some e =>
        rw [hh] at hd
        cases hd
        have h6 := he e (List.mem_of_getElem? hh)
        obtain ⟨z1, z2, z3⟩ := rt_int e (by omega)
        refine e_ixT (e_var rfl (h3.go g)) (e_intX (e_slX (e_var rfl hx) o_int o_none (sz (by omega))) z1 z2) (atD ?_)
        rw [List.getElem?_map, List.getElem?_eq_getElem h6]
        show some (oD row[e]) = some (oD (row.getD ((PySem.intText? (cutS (rt e) (some 1) none)).getD 0).toNat none))
        rw [z1]
        show some (oD row[e]) = some (oD (row.getD e none))
        rw [List.getD_eq_getElem?_getD, List.getElem?_eq_getElem h6]
        rfl
    · refine List.map_map.trans ((List.map_congr_left fun e hm => ?_).trans List.map_map.symm)
      have h6 := he e hm
      obtain ⟨z1, z2, z3⟩ := rt_int e (by omega)
      show oD (row.getD ((PySem.intText? (cutS (rt e) (some 1) none)).getD 0).toNat none) = oD (row.getD e none)
      rw [z1]
      rfl
    · unfold rd
      rw [List.filterMap_map]
      rfl
end
end TPk
end F14_text

section F15_text
set_option Elab.async false
set_option linter.all false
set_option maxRecDepth 100000
set_option maxHeartbeats 4000000
/-! Walks: the law's step and result. -/
namespace TPk
open PySem PySem.Spec PyProof.Rows L2
section
variable {P : Program} {w : World} {K : PySem.W.Frag} {mg : Str → Option Value} {base : Heap} {m : Mo} {σ : L2.St} {H : Hp} {ta tb te : TE}
theorem k_parDL {i k : Nat} {k0 : Str} {v0 : V} {D : Ends} {u : TS} (q : ∀ p l H1, H p = none → H l = none → p ≠ l → Same H H1 → H1 p = some (.dK [(.inr k0, v0)]) → Ow K H1 l [] → u D ((σ.set i (some (.ref p))).set k (some (.ref l))) H1) :
    tSeq (tPar i k (tCons (tDisp [(tC (.str k0), tC v0)]) (tCons (tLst tNil) tNil))) u D σ H := by
  intro p np
  refine ⟨upd_same, [(.inr k0, v0)], rfl, (by decide : 1 ≤ 15), ?_⟩
  have eq1 : upd (upd H p (.dK [])) p (.dK (mergeK [] [(.inr k0, v0)])) = upd H p (.dK (mergeK [] [(.inr k0, v0)])) := by
    funext b
    by_cases e : b = p
    · subst e; rw [upd_same, upd_same]
    · rw [upd_ne e, upd_ne e, upd_ne e]
  rw [eq1]
  refine ⟨Nat.zero_le _, fun l nl => ⟨_, _, rfl, ?_⟩⟩
  have hpl : p ≠ l := fun e => by rw [← e, upd_same] at nl; cases nl
  have s1 : Same H (upd H p (.dK (mergeK [] [(.inr k0, v0)]))) := same_new np
  exact q p l _ np (Same.free s1 nl) hpl (s1.trans (same_new nl)) (by rw [upd_ne hpl]; exact upd_same) ⟨[], upd_same, .nil⟩
def lawKn (row : List (Option Int)) (n : Nat) : List (Key × V) := (List.range n).foldl (fun acc j => putK acc (.inr (rt j)) (oD (row.getD j none)).fv) [(.inr "0", .int 0)]
theorem lawK_at : ∀ (row : List (Option Int)), row.length ≤ 6 → ∀ n, n ≤ row.length → valV (lawKn row row.length) (.inr (nt n)) = some (oD (held row n)).fv := by
  intro row h n hn
  match row, h with
  | [], _ => match n, hn with | 0, _ => kernel_rfl
  | [a], _ => match n, hn with | 0, _ => kernel_rfl | 1, _ => kernel_rfl
  | [a, b], _ => match n, hn with | 0, _ => kernel_rfl | 1, _ => kernel_rfl | 2, _ => kernel_rfl
  | [a, b, c], _ => match n, hn with | 0, _ => kernel_rfl | 1, _ => kernel_rfl | 2, _ => kernel_rfl | 3, _ => kernel_rfl
  | [a, b, c, d], _ => match n, hn with | 0, _ => kernel_rfl | 1, _ => kernel_rfl | 2, _ => kernel_rfl | 3, _ => kernel_rfl | 4, _ => kernel_rfl
  | [a, b, c, d, e], _ => match n, hn with | 0, _ => kernel_rfl | 1, _ => kernel_rfl | 2, _ => kernel_rfl | 3, _ => kernel_rfl | 4, _ => kernel_rfl | 5, _ => kernel_rfl
  | [a, b, c, d, e, f], _ => match n, hn with | 0, _ => kernel_rfl | 1, _ => kernel_rfl | 2, _ => kernel_rfl | 3, _ => kernel_rfl | 4, _ => kernel_rfl | 5, _ => kernel_rfl | 6, _ => kernel_rfl
theorem lawK_len (row : List (Option Int)) (n : Nat) : (lawKn row n).length ≤ n + 1 := by
  unfold lawKn
  induction n with
  | zero => exact Nat.le_refl _
  | succ n ih =>
    rw [List.range_succ, List.foldl_append]
    exact Nat.le_trans (length_putK _ _ _) (Nat.succ_le_succ ih)
theorem lawK_succ (row : List (Option Int)) (n : Nat) : lawKn row (n + 1) = putK (lawKn row n) (.inr (rt n)) (oD (row.getD n none)).fv := by
  unfold lawKn
  rw [List.range_succ, List.foldl_append]
  rfl
theorem q_dput {i : Nat} {p : Addr} {kvs : List (Key × V)} {k : Str} {d : Dt} {D : Ends} (hb : σ[i]? = some (some (.ref p))) (hp : H p = some (.dK kvs)) (hl : kvs.length < sizeLine) (hv : TPk.E K m0 te σ H d) (hd : d.fl = true) (hk : ∀ H1, Same H H1 → TPk.E K m0 tb σ H1 (.str k))
    (q : ∀ H1, Kp (· = p) H H1 → H1 p = some (.dK (putK kvs (.inr k) d.fv)) → D.nx σ H1) : sDPut (tVar i) tb te D σ H :=
  hv.use0 fun v H1 s1 hv1 => ⟨_, hb, (hk H1 s1).use0 fun y H2 s2 hy => by
    have hp2 := s2 _ _ (s1 _ _ hp)
    refine ⟨p, _, rfl, by rw [hy.str_inv]; exact DPut.k (k := .inr k) hp2 hl, q _ (fun b o e z => ?_) (by rw [upd_same, hv1.fv hd])⟩
    have e2 := s2 _ _ (s1 _ _ e)
    by_cases h : b = p
    · subst h
      rw [hp] at e
      cases e
      exact (z rfl).elim
    · rw [upd_ne h]; exact e2⟩
theorem e_idx {ks : List Str} {k : Str} (ha : TPk.E K m ta σ H (.ftup ks)) (hb : TPk.E K m tb σ H (.str k)) (hk : k ∈ ks) : TPk.E K m (tIdx K ta (tCons tb tNil)) σ H (.int (pos ks k : Nat)) := fun H1 g Q q => ha.go g fun x H2 g2 hx => by
  obtain ⟨p, ob, rfl, h1, h2⟩ := hx.ftup_inv
  refine ⟨⟨p, ob, _, rfl, h1, h2⟩, hb.go (g.trans g2) fun y H3 g3 hy => ?_⟩
  obtain ⟨z1, z2⟩ := pos_at hk
  exact ⟨p, ks, k, pos ks k, rfl, by rw [hy.str_inv], .inl (.inr ⟨ob, g3.1 _ _ h1 fun _ => True.intro⟩), z1, z2, q _ _ H3 (g2.trans g3) (.int _) rfl⟩
theorem e_int1 {b : Bool} (h : TPk.E K m te σ H (.bl b)) : TPk.E K m (tCB (fun xs H Q => (∃ i, xs = [.int i] ∧ Q (.int i) H) ∨ ∃ k, xs = [.bl k] ∧ Q (.int (if k then 1 else 0)) H) (tCons te tNil)) σ H (.int (if b = true then 1 else 0)) := fun H1 g Q q => h.go g fun v H2 g2 hv =>
  .inr ⟨b, by rw [hv.bl_inv], q _ _ H2 g2 (.int _) rfl⟩
def R_lstep : Hp → List Dt → Dt → Prop := fun _ ds d => ∃ s row k a, ds = [plainD s, rowOD row, evD k a] ∧ SV s ∧ k ∈ s.kinds ∧ row.length = s.start.length ∧ d = rowOD (stp s.side (s.rule k) row a)
theorem c_l_step (T : Fx K mg) : C8.Cal P w K mg base 2 "_law_step" (Pu K R_lstep) [] := by
  have c_l_best := c_l_best (P := P) (w := w) (base := base) T
  have c_l_source := c_l_source (P := P) (w := w) (base := base) T
  obtain ⟨fd, F⟩ := T.D.def_ 43
  refine ⟨_, fd, ["_law_plain_here", "_law_held", "_law_event"], [], ok0 F sc_l_step (fun vs H Q Er h => ?_) (fun cdv Ar outer sh H vs Q Er hr h => ?_), T.m_law_step, F.kp, F.bindsN (fun kV doc pm an cdv ct us hl => match us, hl with | [_, _, _], _ => rfl), .nil⟩
  · obtain ⟨ds, d, hI, ⟨s, row, k, a, rfl, _⟩, q⟩ := h
    exact hI.length.symm
  · obtain ⟨ds, d, hI, ⟨s, row, k, a, rfl, hv, hk, hrw, rfl⟩, q⟩ := h
    obtain ⟨v1, v2, v3, rfl, h1, h2, h3⟩ := hI.inv3
    have hr6 : row.length ≤ 6 := by rw [hrw]; exact hv.start.2
    refine ⟨_, (pss_cons (ps_par (i := 3) (j := 4) rfl sc_l_step.nd rfl rfl (by decide) rfl rfl (pa_cons (pe_disp (pps_cons pe_str pe_int pps_nil) (by rfl) (by rfl) (fun z => by cases z) (by decide)) (pa_cons (pe_lst pa_nil) pa_nil)) (by rfl))
    (pss_cons (ps_for PassesOwn.never rfl (pi_range1 rfl T.f_range (pa_cons (pe_callB call_len_seq rfl T.f_len PySem.boot_len (pa_cons (pv 1) pa_nil)) pa_nil)) (pg_name (i := 5) sc_l_step.nd rfl (Or.inl rfl)) (pss_one (ps_dput (hu_of hr) (pv 3) (pe_op op_add_str pe_str (pe_callTy call_str_int rfl T.f_str (by decide +kernel) (pa_cons (pv 5) pa_nil))) (pe_ix ix_tup (pv 1) (pv 5) (fun _ _ => rfl)) rfl)))
    (pss_cons (ps_for PassesOwn.never rfl (pi_tup (pe_ix ix_tup (pe_ix ix_tup (pv 0) pe_int (fun _ _ => rfl)) (pe_idx (pe_ix ix_tup (pv 0) pe_int (fun _ _ => rfl)) (pa_cons (pe_ix ix_tup (pv 2) pe_int (fun _ _ => rfl)) pa_nil)) (fun _ _ => rfl))) (pg_name (i := 6) sc_l_step.nd rfl (Or.inl rfl)) (pss_cons (ps_set (i := 7) sc_l_step.nd rfl (Or.inl rfl) (pe_lst pa_nil))
    (pss_cons (ps_for PassesOwn.never rfl (pi_tup (pv 6)) (pg_name (i := 8) sc_l_step.nd rfl (Or.inl rfl)) (pss_cons (ps_asg (C8.pe_c c_l_source hr (by decide) rfl (pa_cons (pv 8) pa_nil)) (pg_tup rfl (pgs_cons (pg_name (i := 9) sc_l_step.nd rfl (Or.inl rfl)) (pgs_cons (pg_name (i := 10) sc_l_step.nd rfl (Or.inl rfl)) pgs_nil))))
    (pss_one (ps_if (pt_cmpR op_notN (pe_dget (hu_of hr) (pv 3) (pv 9) (fun _ _ => rfl)) pe_non (nomark _)) (pss_one (ps_expr (pe_bm PySem.F.plainAttrs_list PySem.F.slot_list_append PySem.F.type_list_append mt_append (pv 7) (pa_cons (pe_op op_add (pe_dget (hu_of hr) (pv 3) (pv 9) (fun _ _ => rfl)) (pe_op op_mul (pe_ix ix_tup (pv 2) pe_int (fun _ _ => rfl)) (pe_callTy call_int1 rfl T.f_int (by decide +kernel) (pa_cons (pv 10) pa_nil)))) pa_nil)))) pss_nil))))
    (pss_one (ps_expr (pe_bm PySem.F.plainAttrs_list PySem.F.slot_list_append PySem.F.type_list_append mt_append (pv 4) (pa_cons (C8.pe_c c_l_best hr (by decide) rfl (pa_cons (pe_ix ix_tup (pv 0) pe_int (fun _ _ => rfl)) (pa_cons (pv 7) pa_nil))) pa_nil)))))))
    (pss_one (ps_ret (pe_callTy call_tuple_of rfl T.f_tuple (by decide +kernel) (pa_cons (pv 4) pa_nil))))))), ?_⟩
    refine k_parDL (K := K) fun p l H1 np nl hpl s1 hp hO => ?_
    refine k_forX (K := K) (X := fun b => b = p) (i_range (e_lenT (e_var rfl (h2.same s1))) (by rw [List.length_map]; omega)) (fun i σ' H' => (∃ y5, σ' = [some v1, some v2, some v3, some (.ref p), some (.ref l), y5, none, none, none, none, none]) ∧ H' p = some (.dK (lawKn row i)))
      (fun B sB => ⟨⟨_, rfl⟩, sB _ _ hp⟩) (fun B i d x σ' H2 H3 sB hd kpB pv s23 hx => ?_) (fun B σ' H2 sB kpB pv => ?_)
    · obtain ⟨⟨y5, rfl⟩, hp2⟩ := pv
      obtain ⟨hi, rfl⟩ := range_at hd
      rw [List.length_map] at hi
      have hrow : (row.map oD)[i]? = some (oD (row.getD i none)) := by
        rw [List.getElem?_map, List.getElem?_eq_getElem hi, List.getD_eq_getElem?_getD, List.getElem?_eq_getElem hi]
        rfl
      have h2' : Is K H3 (rowOD row) v2 := (((h2.same s1).same sB).tk kpB.tk).same s23
      refine q_dput (K := K) (d := oD (row.getD i none)) rfl (s23 _ _ hp2) (Nat.lt_of_le_of_lt (lawK_len row i) (Nat.lt_of_lt_of_le (show _ < 100000 by omega) (by decide))) (e_ixT (e_var rfl h2') (e_var rfl hx) (atD hrow)) (by cases row.getD i none <;> rfl) (fun H4 s4 => e_rn (e_var rfl (hx.same s4)) (by omega)) fun H4 kp4 hp4 => ?_
      exact ⟨fun b o e z => kp4 b o (s23 b o (kpB b o e z)) z, ⟨_, rfl⟩, by rw [lawK_succ]; exact hp4⟩
    · obtain ⟨⟨y5, rfl⟩, hp2⟩ := pv
      rw [List.length_map, List.length_range, List.length_map] at hp2
      have sH2 : Same H H2 := same_kp (s1.trans sB) kpB fun b z => by rw [z]; exact np
      have hO2 : Ow K H2 l [] := (hO.same sB).kp kpB hpl.symm
      have hpos : (s.rules.map ruleD)[pos s.kinds k]? = some (ruleD (s.rule k)) := by
        have : pos s.kinds k < s.rules.length := by rw [hv.rules.1]; exact pos_lt hk
        rw [List.getElem?_map]
        unfold Stt.rule
        rw [List.getD_eq_getElem?_getD, List.getElem?_eq_getElem this]
        rfl
      have h1' := h1.same sH2
      have h3' := h3.same sH2
      have ev0 : TPk.E K m0 (tOp (rIxT K) (tVar 2) (tC (.int 0))) [some v1, some v2, some v3, some (.ref p), some (.ref l), y5, none, none, none, none, none] H2 (.str k) := e_ixT (e_var rfl h3') e_int rfl
      have hrl := (rule_ok hv hk).1
      refine k_forO (m := m0) not0 True.intro hO2 (i_tup (e_ixT (e_p3 (e_var rfl h1')) (e_idx (e_p1 (e_var rfl h1')) ev0 hk) (atD hpos)))
        (fun i σ' H' => (∃ y6 y7 y8 y9 y10, σ' = [some v1, some v2, some v3, some (.ref p), some (.ref l), y5, y6, y7, y8, y9, y10]) ∧ H' p = some (.dK (lawKn row row.length)) ∧ Ow K H' l ((stp s.side ((s.rule k).take i) row a).map oD))
        (fun B gB hB => ⟨⟨_, _, _, _, _, rfl⟩, gB.to0 _ _ hp2, hB⟩) (fun B i d x σ' H5 H6 gB hd g5 pv s56 hx => ?_) (fun B σ' H5 gB g5 pv => ?_)
      · obtain ⟨⟨y6, y7, y8, y9, y10, rfl⟩, hp5, hO5⟩ := pv
        obtain ⟨ts, ht, rfl⟩ : ∃ ts, (s.rule k)[i]? = some ts ∧ d = rowD ts := by
          rw [List.getElem?_map] at hd
          cases hh : (s.rule k)[i]? with
          | none => rw [hh] at hd; cases hd
          | some ts => rw [hh] at hd; cases hd; exact ⟨ts, rfl, rfl⟩
        obtain ⟨hl1, hc⟩ := rule_rows hv hk ts (List.mem_of_getElem? ht)
        have hi6 : i < 6 := by have := (List.getElem?_eq_some_iff.mp ht).1; have := hv.start.2; omega
        have sB6 : ∀ {d v}, Is K H d v → Is K H6 d v := fun hh => (((hh.same (sH2.trans gB.to0)).go g5).same s56)
        have hp6 := s56 _ _ hp5
        have hO6 := hO5.same s56
        refine k_setL (K := K) (l_lst a_nil (Nat.zero_le _)) fun l2 H7 nl2 s7 hO7 => ?_
        have hpl2 : p ≠ l2 := ne_of_none hp6 nl2
        refine k_forO (m := m0) not0 True.intro hO7 (i_tup (e_var rfl (hx.same s7)))
          (fun j σ' H' => (∃ y8 y9 y10, σ' = [some v1, some v2, some v3, some (.ref p), some (.ref l), y5, some x, some (.ref l2), y8, y9, y10]) ∧ Ow K H' l2 ((valsOf row (ts.take j) a).map Dt.int))
          (fun B2 gB2 hB2 => ⟨⟨_, _, _, rfl⟩, hB2⟩) (fun B2 j d x2 σ' H8 H9 gB2 hd2 g8 pv2 s89 hx2 => ?_) (fun B2 σ' H8 gB2 g8 pv2 => ?_)
        · obtain ⟨⟨y8, y9, y10, rfl⟩, hO8⟩ := pv2
          obtain ⟨c, hcj, rfl⟩ : ∃ c, ts[j]? = some c ∧ d = .str (tt c) := by
            rw [List.getElem?_map] at hd2
            cases hh : ts[j]? with
            | none => rw [hh] at hd2; cases hd2
            | some c => rw [hh] at hd2; cases hd2; exact ⟨c, rfl, rfl⟩
          obtain ⟨hc14, hcr⟩ := hc c (List.mem_of_getElem? hcj)
          have hcr' : src c ≤ row.length := by rw [hrw]; exact hcr
          refine k_asg2 (e_call (d := srcD c) (a_cons (e_var rfl hx2) a_nil) fun Hx gx => ⟨c, hc14, rfl, rfl⟩) fun u1 u2 H9b s9b hu1 hu2 => ?_
          have s89b := s89.trans s9b
          have hp9 : H9b p = some (.dK (lawKn row row.length)) := s89b _ _ (g8.1 _ _ ((s7.trans gB2.to0) _ _ hp6) fun z => (z.elim (fun y => y) hpl2).elim)
          have eg : ∀ H', Same H9b H' → TPk.E K m0 (tDGet (tVar 3) (tVar 9)) _ H' (oD (held row (src c))) := fun H' s' => e_getK (i := 3) (σ := [some v1, some v2, some v3, some (.ref p), some (.ref l), y5, some x, some (.ref l2), some x2, some u1, some u2]) rfl (s' _ _ hp9) not0 (e_var rfl (hu1.same s')) (lawK_at row hr6 (src c) hcr') (oD_fv _)
          have h3k : ∀ H', Same H9b H' → Is K H' (evD k a) v3 := fun H' s' => ((((sB6 h3).same (s7.trans gB2.to0)).go g8).same s89b).same s'
          refine q_ite (t_test (e_notN (eg H9b (.refl _)))) (fun h0 H10 s10 => ?_) (fun h0 H10 s10 => ?_)
          · cases hh : held row (src c) with
            | none => rw [hh] at h0; cases h0
            | some v =>
              rw [hh] at eg
              have hval := valsOf_snoc row ts a j c hcj
              rw [hh] at hval
              have hsum : v + a * (if tak c = true then 1 else 0) = (if tak c = true then v + a else v) := by split <;> omega
              refine q_app (m := m0) (d := .int (if tak c = true then v + a else v)) not0 rfl ((hO8.same s89b).same s10) True.intro ((e_add (eg H10 s10) (e_mul (e_ixT (e_var rfl (h3k H10 s10)) e_int rfl) (e_int1 (e_var rfl (hu2.same s10))) ?_)).cast (by rw [hsum])) ?_ fun H11 g11 hO11 => ?_
              · right
                split <;> exact ⟨by decide, by decide⟩
              · rw [List.length_map]
                have := valsOf_len row (ts.take j) a
                rw [List.length_take] at this
                exact Nat.lt_of_lt_of_le (show _ < 100000 by omega) (by decide)
              · refine ⟨((g8.same s89b).same s10).trans g11, ⟨_, _, _, rfl⟩, ?_⟩
                rw [hval, List.map_append]
                exact hO11
          · have hval := valsOf_snoc row ts a j c hcj
            cases hh : held row (src c) with
            | some v => rw [hh] at h0; cases h0
            | none =>
              rw [hh, List.append_nil] at hval
              refine ⟨(g8.same s89b).same s10, ⟨_, _, _, rfl⟩, ?_⟩
              rw [hval]
              exact (hO8.same s89b).same s10
        · obtain ⟨⟨y8', y9', y10', rfl⟩, hO8⟩ := pv2
          have s68 : Same H6 H8 := Go.dropS (s7.trans gB2.to0) nl2 g8
          rw [List.length_map, List.take_length] at hO8
          have e1 : (valsOf row ts a).map Dt.int = ((valsOf row ts a).map some).map oD := by rw [List.map_map]; rfl
          have e2 : ((valsOf row ts a).map some).filterMap id = valsOf row ts a := by rw [List.filterMap_map]; simp
          refine q_app (m := m0) (d := oD (bst s.side (valsOf row ts a))) not0 rfl (hO6.same s68) True.intro ((e_bestS (e_p0 (e_var rfl ((sB6 h1).same s68))) rfl (by rw [← e1]; exact hO8.li) ?_).cast (by rw [e2])) ?_ fun H11 g11 hO11 => ?_
          · rw [List.length_map]
            have := valsOf_len row ts a
            omega
          · rw [List.length_map]
            unfold stp
            rw [List.length_map, List.length_take]
            exact Nat.lt_of_lt_of_le (show _ < 100000 by omega) (by decide)
          · refine ⟨((g5.same s56).same s68).trans g11, ⟨⟨_, _, _, _, _, rfl⟩, ?_, ?_⟩⟩
            · exact g11.1 _ _ (s68 _ _ hp6) fun z => (z.elim (fun y => y) hpl).elim
            · rw [stp_snoc s.side (s.rule k) row a i ts ht, List.map_append]
              exact hO11
      · obtain ⟨⟨y6, y7, y8, y9, y10, rfl⟩, hp5, hO5⟩ := pv
        have s5 : Same H H5 := Go.dropS (sH2.trans gB.to0) nl g5
        rw [List.length_map, List.take_length] at hO5
        exact q_tupS rfl hO5 fun v H6 s6 hv6 => q v H6 (s5.trans s6) hv6
def R_lresult : Hp → List Dt → Dt → Prop := fun _ ds d => ∃ s log, ds = [plainD s, logD log] ∧ SV s ∧ (∀ e ∈ log, e.1 ∈ s.kinds) ∧ log.length ≤ 1000 ∧ d = oD (s.res log)
theorem c_l_result (T : Fx K mg) : C8.Cal P w K mg base 3 "_law_result" (Pu K R_lresult) [] := by
  have c_l_end := c_l_end (P := P) (w := w) (base := base) T
  have c_l_step := c_l_step (P := P) (w := w) (base := base) T
  obtain ⟨fd, F⟩ := T.D.def_ 45
  refine ⟨_, fd, ["_law_plain_here", "_law_events_here"], [], ok0 F sc_l_result (fun vs H Q Er h => ?_) (fun cdv Ar outer sh H vs Q Er hr h => ?_), T.m_law_result, F.kp, F.bindsN (fun kV doc pm an cdv ct us hl => match us, hl with | [_, _], _ => rfl), .nil⟩
  · obtain ⟨ds, d, hI, ⟨s, log, rfl, _⟩, q⟩ := h
    exact hI.length.symm
  · obtain ⟨ds, d, hI, ⟨s, log, rfl, hv, hk, hz, rfl⟩, q⟩ := h
    obtain ⟨v1, v2, rfl, h1, h2⟩ := hI.inv2
    refine ⟨_, (pss_cons (ps_set (i := 2) sc_l_result.nd rfl (Or.inl rfl) (pe_ix ix_tup (pv 0) pe_int (fun _ _ => rfl)))
    (pss_cons (ps_for PassesOwn.never rfl (pi_tup (pv 1)) (pg_name (i := 3) sc_l_result.nd rfl (Or.inl rfl)) (pss_one (ps_set (i := 2) sc_l_result.nd rfl (Or.inl rfl) (C8.pe_c c_l_step hr (by decide) rfl (pa_cons (pv 0) (pa_cons (pv 2) (pa_cons (pv 3) pa_nil)))))))
    (pss_one (ps_ret (C8.pe_c c_l_end hr (by decide) rfl (pa_cons (pv 0) (pa_cons (pv 2) pa_nil))))))), ?_⟩
    refine k_set (e_p2 (e_var rfl h1)) fun c0 H1 s1 hc0 => ?_
    rw [startD_row] at hc0
    have hkk : ∀ i, ∀ e ∈ log.take i, e.1 ∈ s.kinds := fun i e he => hk e (List.mem_of_mem_take he)
    refine k_for (K := K) (i_tup (e_var rfl (h2.same s1))) (fun i σ' H' => ∃ c y3, σ' = [some v1, some v2, some c, y3] ∧ Is K H' (rowOD (s.rowOf (log.take i))) c) (fun B sB => ⟨_, _, rfl, hc0.same sB⟩) (fun B i d x σ' H3 H4 hd sA sB pv s34 hx => ?_) (fun B σ' H3 sA sB pv => ?_)
    · obtain ⟨c, y3, rfl, hc⟩ := pv
      rw [List.getElem?_map] at hd
      cases hh : log[i]? with
      | none => rw [hh] at hd; cases hd
      | some e =>
        rw [hh] at hd
        cases hd
        have z1 := hk e (List.mem_of_getElem? hh)
        refine q_set (d := rowOD (s.rowOf (log.take (i + 1)))) (e_call (a_cons (e_var rfl ((h1.same s1).same sA)) (a_cons (e_var rfl (hc.same s34)) (a_cons (e_var rfl hx) a_nil))) fun H5 g5 => ⟨s, s.rowOf (log.take i), e.1, e.2, rfl, hv, z1, rowOf_len hv (hkk i), by rw [rowOf_take hh]⟩) fun z H5 s5 hz' => ⟨sB.trans s5, _, _, rfl, hz'⟩
    · obtain ⟨c, y3, rfl, hc⟩ := pv
      rw [List.length_map, List.take_length] at hc
      refine q_ret (e_call (d := oD (s.res log)) (a_cons (e_var rfl ((h1.same s1).same sA)) (a_cons (e_var rfl hc) a_nil)) fun H5 g5 => ⟨s, s.rowOf log, rfl, hv, rowOf_len hv hk, rfl⟩) fun z H5 s5 hz' => q z H5 ((s1.trans sA).trans s5) hz'
end
end TPk
end F15_text

section F16_text
set_option Elab.async false
set_option linter.all false
set_option maxRecDepth 100000
set_option maxHeartbeats 4000000
/-! Walks: what the law draws. -/
namespace TPk
open PySem PySem.Spec PyProof.Rows L2
theorem sc_l_some : FnScope ["_law_pool_here", "_law_count", "_law_k", "_law_own", "_law_way", "_law_every", "_law_term"] ["_law_pool_here", "_law_count", "_law_k"] (defScope s_l_some) := ⟨rfl, rfl, rfl, by decide +kernel, rfl, by decide +kernel, by decide +kernel⟩
theorem sc_l_named : FnScope ["_law_pool_here", "_law_many", "_law_some_here"] ["_law_pool_here", "_law_many"] (defScope s_l_named) := ⟨rfl, rfl, rfl, by decide +kernel, rfl, by decide +kernel, by decide +kernel⟩
theorem sc_l_events : FnScope ["_law_pool_here", "_law_plain_here", "_law_size", "_law_wide", "_law_named_here", "_law_k"] ["_law_pool_here", "_law_plain_here", "_law_size", "_law_wide"] (defScope s_l_events) := ⟨rfl, rfl, rfl, by decide +kernel, rfl, by decide +kernel, by decide +kernel⟩
section
variable {P : Program} {w : World} {K : PySem.W.Frag} {mg : Str → Option Value} {base : Heap} {m : Mo} {σ : L2.St} {H : Hp} {ta tb te : TE} {C C1 C2 : Dt → Prop}
/-! ### what is told of data -/
theorem g_op {r : R2} (ha : G K m ta σ H C1) (hb : G K m tb σ H C2) (hr : ∀ d e, C1 d → C2 e → ∀ H1 x y, Go m H H1 → Is K H1 d x → Is K H1 e y → ∀ Q : VK, (∀ v f H2, Go m H1 H2 → Is K H2 f v → C f → Q v H2) → r x y H1 Q) : G K m (tOp r ta tb) σ H C := fun H1 g Q q =>
  ha H1 g _ fun x d H2 g2 hx c1 => hb H2 (g.trans g2) _ fun y e H3 g3 hy c2 => hr d e c1 c2 H3 x y ((g.trans g2).trans g3) (hx.go g3) hy Q fun v f H4 g4 hv hc => q v f H4 ((g2.trans g3).trans g4) hv hc
theorem g_i0 {gf : Int → Int → V} (ha : G K m ta σ H C1) (hb : G K m tb σ H C2) (h : ∀ d e, C1 d → C2 e → ∃ i j f, d = .int i ∧ e = .int j ∧ C f ∧ ∀ H, Is K H f (gf i j)) : G K m (tOp (rI0 gf) ta tb) σ H C :=
  g_op ha hb fun d e c1 c2 H1 x y g hx hy Q q => by
    obtain ⟨i, j, f, rfl, rfl, hc, hf⟩ := h d e c1 c2
    exact ⟨i, j, hx.int_inv, hy.int_inv, q _ f H1 g.again (hf H1) hc⟩
theorem g_ixT {ds : List Dt} (ha : TPk.E K m ta σ H (.tup ds)) (hb : G K m tb σ H fun d => ∃ j : Nat, d = .int (j : Int) ∧ j < ds.length) : G K m (tOp (rIxT K) ta tb) σ H fun d => d ∈ ds :=
  g_op ha hb fun d e c1 c2 H1 x y g hx hy Q q => by
    subst c1
    obtain ⟨j, rfl, hj⟩ := c2
    obtain ⟨p, xs, rfl, hq, hi⟩ := hx.inv
    have hd : ds[j]? = some ds[j] := List.getElem?_eq_getElem hj
    obtain ⟨v, hv, hdv⟩ := hi.get hd
    exact ⟨p, xs, j, v, rfl, hy.int_inv, hq, atI_nat hv, q v _ H1 g.again hdv (List.getElem_mem hj)⟩
/-- [..][j], the list just made -/
theorem g_ixN {ds : List Dt} (ha : LE K m ta σ H ds) (hb : G K m tb σ H fun d => ∃ j : Nat, d = .int (j : Int) ∧ j < ds.length) : G K m (tOp (rIxL K) ta tb) σ H fun d => d ∈ ds := fun H1 g Q q =>
  LE.go ha g fun l H2 nl g2 hl => hb H2 (g.trans g2) _ fun y e H3 g3 hy ⟨j, ej, hj⟩ => by
    subst ej
    obtain ⟨xs, hq, hi⟩ := (hl.go g3).sq
    have hd : ds[j]? = some ds[j] := List.getElem?_eq_getElem hj
    obtain ⟨v, hv, hdv⟩ := hi.get hd
    exact ⟨l, xs, j, v, rfl, hy.int_inv, hq, atI_nat hv, q v _ H3 (g2.trans g3) hdv (List.getElem_mem hj)⟩
def GA (K : PySem.W.Frag) (m : Mo) (t : TA) (σ : L2.St) (H : Hp) (C : List Dt → Prop) : Prop := A K m t σ H C
theorem ga_nil : GA K m tNil σ H fun ds => ds = [] := fun H1 g Q q => q [] [] H1 g.again .nil rfl
theorem ga_cons {t : TA} {CA : List Dt → Prop} (h : G K m te σ H C) (ht : GA K m t σ H CA) : GA K m (tCons te t) σ H fun ds => ∃ d es, ds = d :: es ∧ C d ∧ CA es := fun H1 g Q q => h H1 g _ fun x d H2 g2 hx c => ht H2 (g.trans g2) _ fun xs es H3 g3 hs cs => q _ _ H3 (g2.trans g3) (.cons (hx.go g3) hs) ⟨d, es, rfl, c, cs⟩
theorem g_tup {t : TA} {CA : List Dt → Prop} (h : GA K m t σ H CA) (hl : ∀ ds, CA ds → ds.length ≤ 100000) : G K m (tTup t) σ H fun d => ∃ ds, d = .tup ds ∧ CA ds := fun H1 g Q q => h H1 g _ fun xs ds H2 g2 hs c => ⟨by rw [← hs.length]; exact sz (hl ds c), fun p hp => q _ _ _ (g2.new hp) (is_new hp hs) ⟨ds, rfl, c⟩⟩
theorem g_tup2 (h1 : G K m ta σ H C1) (h2 : G K m tb σ H C2) : G K m (tTup (tCons ta (tCons tb tNil))) σ H fun d => ∃ a b, d = .tup [a, b] ∧ C1 a ∧ C2 b :=
  G.imp (g_tup (ga_cons h1 (ga_cons h2 ga_nil)) fun ds ⟨d, es, e1, _, d2, es2, e2, _, e3⟩ => by subst e3; subst e2; subst e1; show 2 ≤ 100000; decide) fun d ⟨ds, e, d1, es, e1, c1, d2, es2, e2, c2, e3⟩ => by subst e3; subst e2; subst e1; exact ⟨d1, d2, e, c1, c2⟩
theorem t_testG {C : Bool → Prop} (h : G K m te σ H fun d => ∃ b, d = .bl b ∧ C b) : T m (tTest te) σ H C := fun H1 g Q q => h H1 g _ fun x d H2 g2 hx ⟨b, e, c⟩ => by subst e; exact ⟨b, hx.bl_inv, q b H2 g2 c⟩
theorem t_BG {C : Bool → Prop} (h : G K m te σ H fun d => ∃ b, d = .bl b ∧ C b) : T m (tB te) σ H C := fun H1 g Q q => h H1 g _ fun x d H2 g2 hx ⟨b, e, c⟩ => by subst e; exact ⟨b, hx.bl_inv, q b H2 g2 c⟩
/-- [e for x in S], its items told one by one -/
theorem l_mapG {wi : TI} {S : List Dt} {k : Nat} {Ci : Nat → Dt → Prop} (hi : I K m (fun _ => False) wi σ H S) (hS : S.length ≤ sizeLine) (he : ∀ (i : Nat) (d : Dt) x H1, S[i]? = some d → Go m H H1 → Is K H1 d x → G K m te ((wipe σ [k]).set k (some x)) H1 (Ci i)) :
    L K m (tLc wi (gName k) tYes te [k]) σ H fun ds => ds.length = S.length ∧ ∀ i e, ds[i]? = some e → Ci i e := by
  have h := l_lc (te := te) (g := gName k) (tt := tYes) (vs := [k]) hi hS (fun i acc => acc.length = i ∧ ∀ j e, acc[j]? = some e → Ci j e) ⟨rfl, fun j e h => by simp at h⟩ (fun i d x acc H1 Qy Qn hd g hx ha qy qn => ?_)
  · exact h
  · refine ⟨wipe_one σ k _, iteT (B := Qn H1) (G.use (he i d x H1 hd g hx) g.2 fun y e H2 g2 hy hc => qy y e H2 g2 hy ⟨by rw [List.length_append, ha.1]; rfl, fun j e' hj => ?_⟩)⟩
    by_cases hlt : j < acc.length
    · rw [List.getElem?_append_left hlt] at hj
      exact ha.2 j e' hj
    · rw [List.getElem?_append_right (by omega)] at hj
      cases hz : j - acc.length with
      | zero =>
        rw [hz] at hj
        cases hj
        have : j = i := by rw [← ha.1]; omega
        rw [this]
        exact hc
      | succ z => rw [hz] at hj; cases hj
/-- [x for x in S if ..], an unknown part of S -/
theorem l_subG {wi : TI} {S : List Dt} {k : Nat} {f : Dt → Dt} {tt : L2.TT} (hi : I K m (fun _ => False) wi σ H S) (hS : S.length ≤ sizeLine) (ht : ∀ (i : Nat) (d : Dt) x H1, S[i]? = some d → Go m H H1 → Is K H1 d x → T m tt ((wipe σ [k]).set k (some x)) H1 fun _ => True)
    (he : ∀ (i : Nat) (d : Dt) x H1, S[i]? = some d → Go m H H1 → Is K H1 d x → TPk.E K m te ((wipe σ [k]).set k (some x)) H1 (f d)) :
    L K m (tLc wi (gName k) tt te [k]) σ H fun ds => ∃ S' : List Dt, S'.Sublist S ∧ ds = S'.map f := by
  have h := l_lc (te := te) (g := gName k) (tt := tt) (vs := [k]) hi hS (fun i acc => ∃ S' : List Dt, S'.Sublist (S.take i) ∧ acc = S'.map f) ⟨[], List.nil_sublist _, rfl⟩ (fun i d x acc H1 Qy Qn hd g hx ha qy qn => ?_)
  · intro H1 g Q q
    exact h H1 g Q fun l ds H2 n g2 hl ⟨S', e1, e2⟩ => q l ds H2 n g2 hl ⟨S', by rwa [List.take_length] at e1, e2⟩
  · obtain ⟨S', h1, rfl⟩ := ha
    have e1 : S.take (i + 1) = S.take i ++ [d] := by rw [List.take_add_one, hd]; rfl
    refine ⟨wipe_one σ k _, ht i d x H1 hd g hx H1 g.again _ fun b H2 g2 _ => ?_⟩
    cases b with
    | true => exact iteT ((he i d x H1 hd g hx).go g2 fun y H3 g3 hy => qy y (f d) H3 (g2.trans g3) hy ⟨S' ++ [d], by rw [e1]; exact h1.append (List.Sublist.refl _), by rw [List.map_append]; rfl⟩)
    | false => exact iteF (qn H2 g2 ⟨S', by rw [e1]; exact h1.trans (List.sublist_append_left _ _), rfl⟩)
/-! ### draws -/
theorem g_draw {i p : Nat} {k : Int} {Er : XK} (hb : σ[i]? = some (some (.ref p))) (h : TPk.E K (mp p) te σ H (.int k)) (h0 : 0 < k) (h1 : k ≤ many) : G K (mp p) (tCall (spDraw K) [] Er (tCons (tVar i) (tCons te tNil))) σ H fun d => ∃ j : Nat, d = .int (j : Int) ∧ (j : Int) < k := fun H1 g Q q =>
  ⟨_, hb, h.go g fun v H2 g2 hv => ⟨p, k, by rw [hv.int_inv]; rfl, g2.2, h0, h1, fun i H3 g3 hi hik => q _ (.int i) H3 (g2.trans g3) (.int i) ⟨i.toNat, by rw [Int.toNat_of_nonneg hi], by rw [Int.toNat_of_nonneg hi]; exact hik⟩⟩⟩
/-- a def that draws: the pool at p -/
def Pp (K : PySem.W.Frag) (R : List Dt → (Dt → Prop) → Prop) : Sp := fun vs H Q _ => ∃ (p : Addr) (us : List V) (ds : List Dt) (C : Dt → Prop), vs = .ref p :: us ∧ PoolAt H p ∧ IsAll K H ds us ∧ R ds C ∧ ∀ v d H', Go (mp p) H H' → Is K H' d v → C d → Q v H'
theorem g_pcall {R : List Dt → (Dt → Prop) → Prop} {i p : Nat} {t : TA} {Er : XK} {CA : List Dt → Prop} (hb : σ[i]? = some (some (.ref p))) (h : GA K (mp p) t σ H CA) (hR : ∀ ds, CA ds → R ds C) : G K (mp p) (tCall (Pp K R) [] Er (tCons (tVar i) t)) σ H C := fun H1 g Q q =>
  ⟨_, hb, h H1 g _ fun vs ds H2 g2 hs hc => ⟨p, vs, ds, C, by rw [List.append_nil], g2.2, hs, hR ds hc, fun v d H3 g3 hv hd => q v d H3 (g2.trans g3) hv hd⟩⟩
theorem n_par {i k : Nat} {t1 t2 : TE} {D : Ends} {w : TS} (j : m.J H) (h1 : G K m t1 σ H C1) (h2 : G K m t2 σ H C2) (q : ∀ v u d e H1, Go m H H1 → Is K H1 d v → Is K H1 e u → C1 d → C2 e → w D ((σ.set i (some v)).set k (some u)) H1) : tSeq (tPar i k (tCons t1 (tCons t2 tNil))) w D σ H :=
  h1 H (.refl j) _ fun v d H1 g1 hv c1 => h2 H1 g1 _ fun u e H2 g2 hu c2 => ⟨v, u, rfl, q v u d e H2 (g1.trans g2) (hv.go g2) hu c1 c2⟩
theorem n_setG {i : Nat} {D : Ends} {w : TS} (j : m.J H) (h : G K m te σ H C) (q : ∀ v d H1, Go m H H1 → Is K H1 d v → C d → w D (σ.set i (some v)) H1) : tSeq (tAsg te (gName i)) w D σ H := h H (.refl j) _ q
theorem n_setGL {i : Nat} {D : Ends} {w : TS} {CL : List Dt → Prop} (j : m.J H) (h : L K m te σ H CL) (q : ∀ l ds H1, H l = none → Go m H H1 → Li K m H1 l ds → CL ds → w D (σ.set i (some (.ref l))) H1) : tSeq (tAsg te (gName i)) w D σ H := h H (.refl j) _ q
theorem n_ite {b : Bool} {tt : L2.TT} {t w : TS} {D : Ends} (j : m.J H) (h : TE' m tt σ H b) (q1 : b = true → ∀ H1, Go m H H1 → t { D with nx := w D } σ H1) (q2 : b = false → ∀ H1, Go m H H1 → w D σ H1) : tSeq (tIfS tt t tNext) w D σ H := h.use j fun H1 s => by
  cases b with
  | true => exact iteT (q1 rfl H1 s)
  | false => exact iteF (q2 rfl H1 s)
theorem r_retG {D : Ends} (j : m.J H) (h : G K m te σ H C) (q : ∀ v d H1, Go m H H1 → Is K H1 d v → C d → D.rt v H1) : tRet te D σ H := h H (.refl j) _ q
/-! ### some terms -/
theorem some_ok (n : Nat) (hn : n ≤ 6) (k : Nat) (hk : k < n) : (2 * k + 1 ∈ codes n) ∧ (2 * k + 2 ∈ codes n) ∧ 13 ∈ codes n ∧ 0 ∈ codes n ∧ 2 * k + 2 < 13 := by
  have hr : ∀ c, c < 2 * n + 1 → c ∈ codes n := fun c hc => List.mem_append.mpr (.inl (List.mem_range.mpr hc))
  exact ⟨hr _ (by omega), hr _ (by omega), List.mem_append.mpr (.inr (by simp)), hr _ (by omega), by omega⟩
theorem codes_asc : ∀ n, n ≤ 6 → (codes n).Pairwise (· < ·) := by decide +kernel
theorem sub_map {α β : Type} {f : α → β} : ∀ {S : List α} {T : List β}, T.Sublist (S.map f) → ∃ S' : List α, S'.Sublist S ∧ T = S'.map f
  | [], T, h => by
    have : T = [] := List.sublist_nil.mp h
    exact ⟨[], List.Sublist.refl _, by rw [this]; rfl⟩
  | a :: S, T, h => by
    rw [List.map_cons] at h
    cases h with
    | cons _ h =>
      obtain ⟨S', h1, h2⟩ := sub_map h
      exact ⟨S', h1.cons _, h2⟩
    | cons_cons _ h =>
      obtain ⟨S', h1, h2⟩ := sub_map h
      exact ⟨a :: S', h1.cons₂ _, by rw [h2]; rfl⟩
def R_some : List Dt → (Dt → Prop) → Prop := fun ds C => ∃ n k : Nat, ds = [.int (n : Int), .int (k : Int)] ∧ n ≤ 6 ∧ k < n ∧ C = fun d => ∃ t, d = rowD t ∧ RowOk n t
theorem c_l_some (T : Fx K mg) : C8.Cal P w K mg base 2 "_law_some" (Pp K R_some) [] := by
  have c_l_draw := c_l_draw (P := P) (w := w) (base := base) T
  have c_l_terms := c_l_terms (P := P) (w := w) (base := base) T
  obtain ⟨fd, F⟩ := T.D.def_ 37
  refine ⟨_, fd, ["_law_pool_here", "_law_count", "_law_k"], [], ok0 F sc_l_some (fun vs H Q Er h => ?_) (fun cdv Ar outer sh H vs Q Er hr h => ?_), T.m_law_some, F.kp, F.bindsN (fun kV doc pm an cdv ct us hl => match us, hl with | [_, _, _], _ => rfl), .nil⟩
  · obtain ⟨p, us, ds, C, rfl, _, hI, ⟨n, k, rfl, _⟩, q⟩ := h
    exact congrArg Nat.succ hI.length.symm
  · obtain ⟨p, us, ds, C, rfl, hp, hI, ⟨n, k, rfl, hn, hk, rfl⟩, q⟩ := h
    obtain ⟨v1, v2, rfl, h1, h2⟩ := hI.inv2
    cases h1.int_inv
    cases h2.int_inv
    obtain ⟨z1, z2, z3, z4, z5, z6⟩ := str_int k (by omega)
    obtain ⟨o1, o2, o3, o4, o5⟩ := some_ok n hn k hk
    refine ⟨_, (pss_cons (ps_par (i := 3) (j := 4) rfl sc_l_some.nd rfl rfl (by decide) rfl rfl (pa_cons (pe_op op_add_str pe_str (pe_callTy call_str_int rfl T.f_str (by decide +kernel) (pa_cons (pv 2) pa_nil))) (pa_cons (C8.pe_c c_l_draw hr (by decide) rfl (pa_cons (pv 0) (pa_cons pe_int pa_nil))) pa_nil)) (by rfl))
    (pss_cons (ps_if (pt_cmpR op_lt (pv 4) pe_int (nomark _)) (pss_one (ps_ret (pe_ix ix_list (pe_lst (pa_cons (pe_tup (pa_cons (pv 3) pa_nil)) (pa_cons (pe_tup (pa_cons (pe_op op_add_str (pv 3) pe_str) pa_nil)) (pa_cons (pe_tup (pa_cons (pe_op op_add_str (pv 3) pe_str) (pa_cons pe_str pa_nil))) (pa_cons (pe_tup (pa_cons pe_str pa_nil)) (pa_cons (pe_tup pa_nil) pa_nil)))))) (pv 4) (fun _ _ => rfl)))) pss_nil)
    (pss_cons (ps_set (i := 5) sc_l_some.nd rfl (Or.inr rfl) (C8.pe_c c_l_terms hr (by decide) rfl (pa_cons (pv 1) pa_nil)))
    (pss_one (ps_ret (pe_callTy call_tuple_of rfl T.f_tuple (by decide +kernel) (pa_cons (pe_lcF (own := [("_law_term", 6)]) rfl sc_l_some.nd (pi_list (pv 5)) (blkOk_by (by kernel_rfl)) (fun _ _ _ _ _ => (pg_name (i := 6) sc_l_some.nd rfl (by first | exact Or.inl rfl | exact Or.inr rfl))) (fun _ _ _ _ _ => (pts_one (pt_cmpR op_lt (C8.pe_c c_l_draw hr (by decide) rfl (pa_cons (pv 0) (pa_cons (pe_callB call_len_seq rfl T.f_len PySem.boot_len (pa_cons (pv 5) pa_nil)) pa_nil))) pe_int (nomark _)))) (fun _ _ _ _ _ => (pv 6))) pa_nil))))))), ?_⟩
    refine n_par (m := mp p) (C1 := fun d => d = .str (rt k)) hp (e_rn (e_var rfl (.int _)) (by omega)) (g_draw rfl e_int (by decide) (by decide)) fun vo vw d e H1 g1 ho hw c1 ⟨j, ew, hj⟩ => ?_
    subst c1
    subst ew
    refine n_ite g1.2 (t_test (e_lt (e_var rfl hw) e_int)) (fun h0 H2 g2 => ?_) (fun h0 H2 g2 => ?_)
    · have hj5 : j < 5 := by have := of_decide_eq_true h0; omega
      have ho2 := ho.go g2
      refine r_retG g2.2 (g_ixN (l_lst (ds := [rowD [2 * k + 1], rowD [2 * k + 2], rowD [2 * k + 2, 13], rowD [0], rowD []])
        (a_cons ((e_tup (a_cons (e_var rfl ho2) a_nil) (sz (by show 1 ≤ 100000; decide))).cast (by rw [← z5]; rfl))
        (a_cons ((e_tup (a_cons (e_addS (e_var rfl ho2) e_str (sz (by omega))) a_nil) (sz (by show 1 ≤ 100000; decide))).cast (by rw [← z6]; rfl))
        (a_cons ((e_tup (a_cons (e_addS (e_var rfl ho2) e_str (sz (by omega))) (a_cons e_str a_nil)) (sz (by show 2 ≤ 100000; decide))).cast (by rw [← z6]; rfl))
        (a_cons (e_tup (a_cons e_str a_nil) (sz (by show 1 ≤ 100000; decide)))
        (a_cons (e_tup a_nil (Nat.zero_le _)) a_nil))))) (sz (by show 5 ≤ 100000; decide))) (G.imp (e_var rfl (hw.go g2)) fun d e => ⟨j, e, hj5⟩)) fun v d H3 g3 hv hc => q v d H3 ((g1.trans g2).trans g3) hv ?_
      simp only [List.mem_cons, List.not_mem_nil, or_false] at hc
      rcases hc with rfl | rfl | rfl | rfl | rfl
      · exact ⟨_, rfl, by simp, by simpa using o1⟩
      · exact ⟨_, rfl, by simp, by simpa using o2⟩
      · exact ⟨_, rfl, by simpa using o5, by simpa using ⟨o2, o3⟩⟩
      · exact ⟨_, rfl, by simp, by simpa using o4⟩
      · exact ⟨_, rfl, by simp, by simp⟩
    · refine n_setL g2.2 (l_call (a_cons (e_var rfl (.int (n : Int))) a_nil) fun Hx gx => ⟨n, rfl, hn, rfl⟩) fun l H3 nl g3 hL => ?_
      have hlen : ((codes n).map fun c => Dt.str (tt c)).length = 2 * n + 2 := by unfold codes; simp
      refine r_retG g3.2 (g_tupL (l_subG (f := id) (i_listS rfl hL fun z => z) (by rw [hlen]; exact sz (by omega)) (fun i d x H4 hd g4 hx => t_testG (g_i0 (C := fun d => ∃ b, d = .bl b ∧ True) (g_draw (k := ((2 * n + 2 : Nat) : Int)) rfl ((e_lenL rfl (hL.go g4)).cast (by rw [hlen])) (by omega) (by unfold many; omega)) e_int fun d e ⟨j, ed, _⟩ ee => ⟨j, 3, _, ed, ee, ⟨_, rfl, trivial⟩, fun H => .bl _⟩)) (fun i d x H4 hd g4 hx => e_var rfl hx))) fun v d H4 g4 hv ⟨ds, ed, S', hS', eds⟩ => q v d H4 (((g1.trans g2).trans g3).trans g4) hv ?_
      obtain ⟨t, ht1, ht2⟩ := sub_map hS'
      rw [List.map_id] at eds
      refine ⟨t, by rw [ed, eds, ht2]; rfl, (codes_asc n hn).sublist ht1, fun c hc => ht1.subset hc⟩
/-! ### events -/
def R_events : List Dt → (Dt → Prop) → Prop := fun ds C => ∃ (s : Stt Str) (size : Nat) (wide : Int), ds = [plainD s, .int (size : Int), .int wide] ∧ SV s ∧ size ≤ 100 ∧ 1 ≤ wide ∧ wide ≤ big ∧ C = fun d => ∃ log, d = logD log ∧ log.length = size ∧ ∀ e ∈ log, e.1 ∈ s.kinds ∧ AmtOk e.2
theorem evs_of {s : Stt Str} : ∀ {ds : List Dt}, (∀ d ∈ ds, ∃ k a, d = evD k a ∧ k ∈ s.kinds ∧ AmtOk a) → ∃ log : List (Str × Int), ds = log.map (fun e => evD e.1 e.2) ∧ log.length = ds.length ∧ ∀ e ∈ log, e.1 ∈ s.kinds ∧ AmtOk e.2
  | [], _ => ⟨[], rfl, rfl, fun e he => nomatch he⟩
  | d :: ds, h => by
    obtain ⟨k, a, rfl, hk, ha⟩ := h d (by simp)
    obtain ⟨log, rfl, h2, h3⟩ := evs_of (ds := ds) fun d hd => h d (by simp [hd])
    refine ⟨(k, a) :: log, rfl, by simp, fun e he => ?_⟩
    rcases List.mem_cons.mp he with rfl | he
    · exact ⟨hk, ha⟩
    · exact h3 e he
theorem c_l_events (T : Fx K mg) : C8.Cal P w K mg base 2 "_law_events" (Pp K R_events) [] := by
  have c_l_draw := c_l_draw (P := P) (w := w) (base := base) T
  obtain ⟨fd, F⟩ := T.D.def_ 46
  refine ⟨_, fd, ["_law_pool_here", "_law_plain_here", "_law_size", "_law_wide"], [], ok0 F sc_l_events (fun vs H Q Er h => ?_) (fun cdv Ar outer sh H vs Q Er hr h => ?_), T.m_law_events, F.kp, F.bindsN (fun kV doc pm an cdv ct us hl => match us, hl with | [_, _, _, _], _ => rfl), .nil⟩
  · obtain ⟨p, us, ds, C, rfl, _, hI, ⟨s, size, wide, rfl, _⟩, q⟩ := h
    exact congrArg Nat.succ hI.length.symm
  · obtain ⟨p, us, ds, C, rfl, hp, hI, ⟨s, size, wide, rfl, hv, hz, hw1, hw2, rfl⟩, q⟩ := h
    obtain ⟨v1, v2, v3, rfl, h1, h2, h3⟩ := hI.inv3
    refine ⟨_, (pss_cons (ps_set (i := 4) sc_l_events.nd rfl (Or.inr rfl) (pe_ix ix_tup (pv 1) pe_int (fun _ _ => rfl)))
    (pss_one (ps_ret (pe_callTy call_tuple_of rfl T.f_tuple (by decide +kernel) (pa_cons (pe_lcF (own := [("_law_k", 5)]) rfl sc_l_events.nd (pi_range1 rfl T.f_range (pa_cons (pv 2) pa_nil)) (blkOk_by (by kernel_rfl)) (fun _ _ _ _ _ => (pg_name (i := 5) sc_l_events.nd rfl (by first | exact Or.inl rfl | exact Or.inr rfl))) (fun _ _ _ _ _ => pts_nil) (fun _ _ _ _ _ => (pe_tup (pa_cons (pe_ix ix_tup (pv 4) (C8.pe_c c_l_draw hr (by decide) rfl (pa_cons (pv 0) (pa_cons (pe_callB call_len_seq rfl T.f_len PySem.boot_len (pa_cons (pv 4) pa_nil)) pa_nil))) (fun _ _ => rfl)) (pa_cons (pe_op op_sub (C8.pe_c c_l_draw hr (by decide) rfl (pa_cons (pv 0) (pa_cons (pe_op op_add (pe_op op_mul pe_int (pv 3)) pe_int) pa_nil))) (pv 3)) pa_nil))))) pa_nil))))), ?_⟩
    refine n_set (m := mp p) hp (e_p1 (e_var rfl h1)) fun vn H1 g1 hn => ?_
    have hkl := hv.kinds.1
    have hkl4 := hv.kinds.2.1
    refine r_retG g1.2 (g_tupL (l_mapG (Ci := fun _ d => ∃ k a, d = evD k a ∧ k ∈ s.kinds ∧ AmtOk a) (i_range (e_var rfl (h2.go g1)) (by omega)) (by rw [List.length_map, List.length_range]; exact sz (by omega)) fun i d x H2 hd g2 hx => ?_)) fun v d H3 g3 hv' ⟨ds, ed, hl, hc⟩ => q v d H3 (g1.trans g3) hv' ?_
    · have hn2 := hn.go g2
      have h32 := (h3.go g1).go g2
      refine G.imp (g_tup2 (C1 := fun d => ∃ k, d = .str k ∧ k ∈ s.kinds) (C2 := fun d => ∃ a, d = .int a ∧ AmtOk a) (G.imp (g_ixT (e_ft (e_var rfl hn2)) (G.imp (g_draw (k := ((s.kinds.map Dt.str).length : Nat)) rfl (e_lenT (e_ft (e_var rfl hn2))) (by rw [List.length_map]; omega) (by rw [List.length_map]; unfold many; omega)) fun d ⟨j, e, hj⟩ => ⟨j, e, by omega⟩)) fun d hd => ?_)
        (g_i0 (C := fun d => ∃ a, d = .int a ∧ AmtOk a) (g_draw (k := 2 * wide + 1) rfl (e_add (e_mul e_int (e_var rfl h32) (.inl ⟨by decide, by decide⟩)) e_int) (by omega) (by unfold many; unfold big at hw2; omega)) (e_var rfl h32) fun d e ⟨j, ed, hj⟩ ee => ⟨j, wide, _, ed, ee, ⟨_, rfl, ?_⟩, fun H => .int _⟩)) fun d ⟨a, b, ed, ⟨k, ea, hk⟩, ⟨x, eb, hx⟩⟩ => ⟨k, x, by rw [ed, ea, eb]; rfl, hk, hx⟩
      · obtain ⟨k, hk, rfl⟩ := List.mem_map.mp hd
        exact ⟨k, rfl, hk⟩
      · unfold AmtOk
        omega
    · obtain ⟨log, e1, e2, e3⟩ := evs_of (s := s) (ds := ds) fun d hd => by
        obtain ⟨i, hi⟩ := List.getElem?_of_mem hd
        exact hc i d hi
      refine ⟨log, by rw [ed, e1]; rfl, ?_, e3⟩
      rw [e2, hl, List.length_map, List.length_range]
end
end TPk
end F16_text

section F17_text
set_option Elab.async false
set_option linter.all false
set_option maxRecDepth 100000
set_option maxHeartbeats 4000000
/-! Walks: the law's plain form drawn. -/
namespace TPk
open PySem PySem.Spec PyProof.Rows L2
theorem sc_l_plain : FnScope ["_law_pool_here", "_law_many", "_law_count", "_law_begun", "_law_body", "_law_ends", "_law_side", "_law_k", "_law_turn"] ["_law_pool_here", "_law_many", "_law_count"] (defScope s_l_plain) := ⟨rfl, rfl, rfl, by decide +kernel, rfl, by decide +kernel, by decide +kernel⟩
theorem sc_l_great : FnScope ["_law_pool_here"] ["_law_pool_here"] (defScope s_l_great) := ⟨rfl, rfl, rfl, by decide +kernel, rfl, by decide +kernel, by decide +kernel⟩
def nameLists : List (List Str) := [["a", "b", "c", "d"], ["buy", "deal", "new", "sell"], ["a", "aa", "ab", "b"], ["k", "z", "zz", "zzzzzzzz"]]
def ascB : List Str → Bool
  | x :: y :: r => decide (x.cps.toList < y.cps.toList) && ascB (y :: r)
  | _ => true
theorem ascB_ok : ∀ {xs : List Str}, ascB xs = true → AscS xs
  | [], _ => fun i x y h => by cases i <;> cases h
  | [x], _ => fun i a b h h2 => by cases i <;> cases h2
  | x :: y :: r, h => by
    obtain ⟨h1, h2⟩ := Bool.and_eq_true_iff.mp h
    intro i a b ha hb
    cases i with
    | zero => cases ha; cases hb; exact of_decide_eq_true h1
    | succ i => exact ascB_ok h2 i a b ha hb
theorem names_ok : ∀ ks ∈ nameLists, ∀ m ∈ [1, 2, 3, 4], (∀ k ∈ ks.take m, 1 ≤ k.length ∧ k.length ≤ 8 ∧ ∀ c ∈ k.cps.toList, c ∈ letters26.cps.toList) ∧ ascB (ks.take m) = true ∧ (ks.take m).length = m := by decide +kernel
theorem names_len : ∀ ks ∈ nameLists, ks.length = 4 := by decide +kernel
theorem kinds_of {ks : List Str} {m : Nat} (h : ks ∈ nameLists) (h1 : 1 ≤ m) (h4 : m ≤ 4) : KindsOk (ks.take m) ∧ (ks.take m).length = m := by
  have hm : m ∈ [1, 2, 3, 4] := by
    have : m = 1 ∨ m = 2 ∨ m = 3 ∨ m = 4 := by omega
    rcases this with rfl | rfl | rfl | rfl <;> simp
  obtain ⟨z1, z2, z3⟩ := names_ok ks h m hm
  exact ⟨⟨by omega, by omega, z1, ascB_ok z2⟩, z3⟩
section
variable {P : Program} {w : World} {K : PySem.W.Frag} {mg : Str → Option Value} {base : Heap} {m : Mo} {σ : L2.St} {H : Hp} {ta tb te : TE} {C C1 C2 : Dt → Prop}
theorem k_ll {i : Nat} {t1 t2 t3 t4 : TE} {d1 d2 d3 d4 : List Dt} {u : TS} {D : Ends} (j : m.J H) (h1 : LE K m t1 σ H d1) (h2 : LE K m t2 σ H d2) (h3 : LE K m t3 σ H d3) (h4 : LE K m t4 σ H d4)
    (q : ∀ a1 a2 a3 a4 l H1, Go m H H1 → H1 l = some (.lst [.ref a1, .ref a2, .ref a3, .ref a4]) → ¬ m.M l → Li K m H1 a1 d1 → Li K m H1 a2 d2 → Li K m H1 a3 d3 → Li K m H1 a4 d4 → u D (σ.set i (some (.ref l))) H1) :
    tSeq (tAsg (tLst (tCons t1 (tCons t2 (tCons t3 (tCons t4 tNil))))) (gName i)) u D σ H :=
  LE.go h1 (.refl j) fun a1 H1 _ g1 l1 => LE.go h2 g1 fun a2 H2 _ g2 l2 => LE.go h3 (g1.trans g2) fun a3 H3 _ g3 l3 => LE.go h4 ((g1.trans g2).trans g3) fun a4 H4 _ g4 l4 =>
    ⟨sz (by show 4 ≤ 100000; decide), fun p hp => by
      have gn : Go m H4 (upd H4 p (.lst [.ref a1, .ref a2, .ref a3, .ref a4])) := g4.again.new hp
      exact q a1 a2 a3 a4 p _ ((((g1.trans g2).trans g3).trans g4).trans gn) upd_same (Go.notM g4.2 hp) (((((l1.go g2).go g3).go g4)).go gn) (((l2.go g3).go g4).go gn) ((l3.go g4).go gn) (l4.go gn)⟩
theorem cutV_to {xs : List V} {n : Nat} (h : n ≤ xs.length) : cutV xs none (some (n : Int)) = xs.take n := by
  unfold cutV
  rw [HT.sIx_none, HT.sIx_nat, Nat.min_eq_left h, Nat.sub_zero, List.drop_zero]
def R_named : List Dt → (Dt → Prop) → Prop := fun ds C => ∃ k : Nat, ds = [.int (k : Int)] ∧ 1 ≤ k ∧ k ≤ 4 ∧ C = fun d => ∃ ks, d = .ftup ks ∧ KindsOk ks ∧ ks.length = k
theorem c_l_named (T : Fx K mg) : C8.Cal P w K mg base 2 "_law_named" (Pp K R_named) [] := by
  have c_l_draw := c_l_draw (P := P) (w := w) (base := base) T
  obtain ⟨fd, F⟩ := T.D.def_ 38
  refine ⟨_, fd, ["_law_pool_here", "_law_many"], [], ok0 F sc_l_named (fun vs H Q Er h => ?_) (fun cdv Ar outer sh H vs Q Er hr h => ?_), T.m_law_named, F.kp, F.bindsN (fun kV doc pm an cdv ct us hl => match us, hl with | [_, _], _ => rfl), .nil⟩
  · obtain ⟨p, us, ds, C, rfl, _, hI, ⟨k, rfl, _⟩, q⟩ := h
    exact congrArg Nat.succ hI.length.symm
  · obtain ⟨p, us, ds, C, rfl, hp, hI, ⟨k, rfl, hk1, hk4, rfl⟩, q⟩ := h
    obtain ⟨v1, rfl, h1⟩ := hI.inv1
    cases h1.int_inv
    refine ⟨_, (pss_cons (ps_set (i := 2) sc_l_named.nd rfl (Or.inl rfl) (pe_lst (pa_cons (pe_lst (pa_cons pe_str (pa_cons pe_str (pa_cons pe_str (pa_cons pe_str pa_nil))))) (pa_cons (pe_lst (pa_cons pe_str (pa_cons pe_str (pa_cons pe_str (pa_cons pe_str pa_nil))))) (pa_cons (pe_lst (pa_cons pe_str (pa_cons pe_str (pa_cons pe_str (pa_cons pe_str pa_nil))))) (pa_cons (pe_lst (pa_cons pe_str (pa_cons pe_str (pa_cons pe_str (pa_cons pe_str pa_nil))))) pa_nil))))))
    (pss_one (ps_ret (pe_callTy call_tupF rfl T.f_tuple (by decide +kernel) (pa_cons (pe_slice sl_list (pe_ix ix_list (pv 2) (C8.pe_c c_l_draw hr (by decide) rfl (pa_cons (pv 0) (pa_cons pe_int pa_nil))) (fun _ _ => rfl)) po_none (po_some (pv 1))) pa_nil))))), ?_⟩
    have ll : ∀ (x y z u : Str), LE K (mp p) (tLst (tCons (tC (.str x)) (tCons (tC (.str y)) (tCons (tC (.str z)) (tCons (tC (.str u)) tNil))))) (L2.start ["_law_pool_here", "_law_many", "_law_some_here"] [.ref p, .int (k : Int)]) H (([x, y, z, u] : List Str).map Dt.str) := fun x y z u => l_lst (a_cons e_str (a_cons e_str (a_cons e_str (a_cons e_str a_nil)))) (sz (by show 4 ≤ 100000; decide))
    refine k_ll (m := mp p) hp (ll _ _ _ _) (ll _ _ _ _) (ll _ _ _ _) (ll _ _ _ _) fun a1 a2 a3 a4 l H1 g1 hl nl l1 l2 l3 l4 => ?_
    refine ⟨_, rfl, (g_draw (K := K) (p := p) (i := 0) (σ := (L2.start ["_law_pool_here", "_law_many", "_law_some_here"] [.ref p, .int (k : Int)]).set 2 (some (.ref l))) (k := 4) (te := tC (.int 4)) rfl e_int (by decide) (by decide)) H1 g1.again _ fun vj d H2 g2 hv ⟨j, ed, hj⟩ => ?_⟩
    subst ed
    have hpick : ∃ aj ks, ([.ref a1, .ref a2, .ref a3, .ref a4] : List V)[j]? = some (.ref aj) ∧ ks ∈ nameLists ∧ Li K (mp p) H1 aj (ks.map Dt.str) := by
      have : j = 0 ∨ j = 1 ∨ j = 2 ∨ j = 3 := by omega
      rcases this with rfl | rfl | rfl | rfl
      · exact ⟨a1, _, rfl, by unfold nameLists; simp, l1⟩
      · exact ⟨a2, _, rfl, by unfold nameLists; simp, l2⟩
      · exact ⟨a3, _, rfl, by unfold nameLists; simp, l3⟩
      · exact ⟨a4, _, rfl, by unfold nameLists; simp, l4⟩
    obtain ⟨aj, ks, e1, hks, hLj⟩ := hpick
    obtain ⟨hko, hkl⟩ := kinds_of hks hk1 hk4
    have hl2 : H2 l = some (.lst [.ref a1, .ref a2, .ref a3, .ref a4]) := g2.1 l _ hl fun z => (nl z).elim
    refine ⟨l, _, j, .ref aj, rfl, hv.int_inv, .inl (.inl hl2), atI_nat e1, ?_⟩
    obtain ⟨xs, hq, hi⟩ := (hLj.go g2).sq
    have exs : xs = ks.map V.str := by
      have := isAll_fv hi (strs_fl ks)
      rw [this, List.map_map]
      rfl
    subst exs
    refine ⟨_, rfl, k, rfl, aj, _, rfl, hq, fun b nb => ?_⟩
    refine ⟨b, _, rfl, .inl (.inl upd_same), fun t ob nt hob => ?_⟩
    have gg := ((g1.trans g2).new nb).new (o := .frz ob (.tup (cutV (ks.map V.str) none (some (k : Int))))) nt
    have ec : cutV (ks.map V.str) none (some (k : Int)) = (ks.take k).map V.str := by
      rw [cutV_to (by rw [List.length_map, names_len ks hks]; exact hk4), List.map_take]
    rw [ec] at gg ⊢
    exact q _ (.ftup (ks.take k)) _ gg (.ftup upd_same hob) ⟨_, rfl, hko, hkl⟩
/-! ### the plain form -/
theorem list_of {α : Type} {f : α → Dt} {p : α → Prop} : ∀ {ds : List Dt}, (∀ d ∈ ds, ∃ x, d = f x ∧ p x) → ∃ xs : List α, ds = xs.map f ∧ ∀ x ∈ xs, p x
  | [], _ => ⟨[], rfl, fun x hx => nomatch hx⟩
  | d :: ds, h => by
    obtain ⟨x, rfl, hp⟩ := h d (by simp)
    obtain ⟨xs, rfl, h2⟩ := list_of (ds := ds) fun d hd => h d (by simp [hd])
    refine ⟨x :: xs, rfl, fun y hy => ?_⟩
    rcases List.mem_cons.mp hy with rfl | hy
    · exact hp
    · exact h2 y hy
theorem all_of {ds : List Dt} {Ci : Dt → Prop} (h : ∀ (i : Nat) (e : Dt), ds[i]? = some e → Ci e) : ∀ d ∈ ds, Ci d := fun d hd => let ⟨i, hi⟩ := List.getElem?_of_mem hd; h i d hi
theorem n_setIfL {tt : L2.TT} {i k : Nat} {b : Bool} {l0 : Addr} {ds0 : List Dt} {CL : List Dt → Prop} {u : TS} {D : Ends} (j : m.J H) (h : TE' m tt σ H b) (h1 : b = true → L K m ta σ H CL) (hb : σ[k]? = some (some (.ref l0))) (hL : Li K m H l0 ds0) (h2 : b = false → CL ds0)
    (q : ∀ l ds H1, Go m H H1 → Li K m H1 l ds → CL ds → u D (σ.set i (some (.ref l))) H1) : tSeq (tAsg (tIf tt ta (tVar k)) (gName i)) u D σ H := h.use j fun H1 g => by
  cases b with
  | true => exact iteT (h1 rfl H1 g _ fun l ds H2 n g2 hl hc => q l ds H2 (g.trans g2) hl hc)
  | false => exact iteF ⟨_, hb, q l0 ds0 H1 g (hL.go g) (h2 rfl)⟩
def bD (b : Bool) : Dt := if b = true then .int 0 else .non
def R_plain : List Dt → (Dt → Prop) → Prop := fun ds C => ∃ many count : Nat, ds = [.int (many : Int), .int (count : Int)] ∧ 1 ≤ many ∧ many ≤ 4 ∧ 1 ≤ count ∧ count ≤ 6 ∧ ∀ s, SV s → s.kinds.length = many → s.start.length = count → C (plainD s)
theorem pick2 {d0 d1 : Dt} {te : TE} (h : LE K m te σ H [d0, d1]) {p : Nat} {a : Addr} {Er : XK} (hm : m = mp a) (hb : σ[p]? = some (some (.ref a))) : G K m (tOp (rIxL K) te (tCall (spDraw K) [] Er (tCons (tVar p) (tCons (tC (.int 2)) tNil)))) σ H fun d => d = d0 ∨ d = d1 := by
  subst hm
  refine G.imp (g_ixN h (G.imp (g_draw (k := 2) hb e_int (by decide) (by decide)) fun d ⟨j, e, hj⟩ => ⟨j, e, by show j < 2; omega⟩)) fun d hd => ?_
  simpa using hd
theorem range_sz {n : Nat} (h : n ≤ 100) : ((List.range n).map fun (j : Nat) => Dt.int (j : Int)).length ≤ sizeLine := by
  rw [List.length_map, List.length_range]
  exact sz (by omega)
def endC (n : Nat) : List Dt → Prop := fun ds => ∃ es : List Nat, ds = es.map (fun (e : Nat) => Dt.int (e : Int)) ∧ EndsOk n es
theorem c_l_plain (T : Fx K mg) : C8.Cal P w K mg base 3 "_law_plain" (Pp K R_plain) [] := by
  have c_l_draw := c_l_draw (P := P) (w := w) (base := base) T
  have c_l_named := c_l_named (P := P) (w := w) (base := base) T
  have c_l_some := c_l_some (P := P) (w := w) (base := base) T
  obtain ⟨fd, F⟩ := T.D.def_ 39
  refine ⟨_, fd, ["_law_pool_here", "_law_many", "_law_count"], [], ok0 F sc_l_plain (fun vs H Q Er h => ?_) (fun cdv Ar outer sh H vs Q Er hr h => ?_), T.m_law_plain, F.kp, F.bindsN (fun kV doc pm an cdv ct us hl => match us, hl with | [_, _, _], _ => rfl), .nil⟩
  · obtain ⟨p, us, ds, C, rfl, _, hI, ⟨_, _, rfl, _⟩, q⟩ := h
    exact congrArg Nat.succ hI.length.symm
  · obtain ⟨p, us, ds, C, rfl, hp, hI, ⟨many, count, rfl, hm1, hm4, hc1, hc6, hC⟩, q⟩ := h
    obtain ⟨v1, v2, rfl, h1, h2⟩ := hI.inv2
    refine ⟨_, (pss_cons (ps_set (i := 3) sc_l_plain.nd rfl (Or.inl rfl) (pe_callTy call_tuple_of rfl T.f_tuple (by decide +kernel) (pa_cons (pe_lcF (own := [("_law_k", 7)]) rfl sc_l_plain.nd (pi_range1 rfl T.f_range (pa_cons (pv 2) pa_nil)) (blkOk_by (by kernel_rfl)) (fun _ _ _ _ _ => (pg_name (i := 7) sc_l_plain.nd rfl (by first | exact Or.inl rfl | exact Or.inr rfl))) (fun _ _ _ _ _ => pts_nil) (fun _ _ _ _ _ => (pe_ix ix_list (pe_lst (pa_cons pe_int (pa_cons pe_non pa_nil))) (C8.pe_c c_l_draw hr (by decide) rfl (pa_cons (pv 0) (pa_cons pe_int pa_nil))) (fun _ _ => rfl)))) pa_nil)))
    (pss_cons (ps_set (i := 4) sc_l_plain.nd rfl (Or.inl rfl) (pe_callTy call_tuple_of rfl T.f_tuple (by decide +kernel) (pa_cons (pe_lcF (own := [("_law_turn", 8)]) rfl sc_l_plain.nd (pi_range1 rfl T.f_range (pa_cons (pv 1) pa_nil)) (blkOk_by (by kernel_rfl)) (fun _ _ _ _ _ => (pg_name (i := 8) sc_l_plain.nd rfl (by first | exact Or.inl rfl | exact Or.inr rfl))) (fun _ _ _ _ _ => pts_nil) (fun _ _ _ _ _ => (pe_callTy call_tuple_of rfl T.f_tuple (by decide +kernel) (pa_cons (pe_lcF (own := [("_law_k", 7)]) rfl sc_l_plain.nd (pi_range1 rfl T.f_range (pa_cons (pv 2) pa_nil)) (blkOk_by (by kernel_rfl)) (fun _ _ _ _ _ => (pg_name (i := 7) sc_l_plain.nd rfl (by first | exact Or.inl rfl | exact Or.inr rfl))) (fun _ _ _ _ _ => pts_nil) (fun _ _ _ _ _ => (C8.pe_c c_l_some hr (by decide) rfl (pa_cons (pv 0) (pa_cons (pv 2) (pa_cons (pv 7) pa_nil)))))) pa_nil)))) pa_nil)))
    (pss_cons (ps_setLcF (i := 5) (own := [("_law_k", 7)]) rfl sc_l_plain.nd rfl rfl (sw_true rfl rfl rfl (by decide +kernel)) (pi_range1 rfl T.f_range (pa_cons (pv 2) pa_nil)) (blkOk_by (by kernel_rfl)) (fun _ _ _ _ _ => (pg_name (i := 7) sc_l_plain.nd rfl (by first | exact Or.inl rfl | exact Or.inr rfl))) (fun _ _ _ _ _ => (pts_one (pt_cmpR op_eq (C8.pe_c c_l_draw hr (by decide) rfl (pa_cons (pv 0) (pa_cons pe_int pa_nil))) pe_int (nomark _)))) (fun _ _ _ _ _ => (pv 7)))
    (pss_cons (ps_set (i := 5) sc_l_plain.nd rfl (Or.inl rfl) (pe_ifExp (pt_cmpR (op_eqD hr.units) (pv 5) (pe_lst pa_nil) (nomark _)) (pe_lst (pa_cons (pe_op op_sub (pv 2) pe_int) pa_nil)) (pv 5)))
    (pss_cons (ps_set (i := 6) sc_l_plain.nd rfl (Or.inl rfl) (pe_ix ix_list (pe_lst (pa_cons pe_str (pa_cons pe_str pa_nil))) (C8.pe_c c_l_draw hr (by decide) rfl (pa_cons (pv 0) (pa_cons pe_int pa_nil))) (fun _ _ => rfl)))
    (pss_one (ps_ret (pe_tup (pa_cons (pv 6) (pa_cons (C8.pe_c c_l_named hr (by decide) rfl (pa_cons (pv 0) (pa_cons (pv 1) pa_nil))) (pa_cons (pv 3) (pa_cons (pv 4) (pa_cons (pe_callTy call_tuple_of rfl T.f_tuple (by decide +kernel) (pa_cons (pe_lcF (own := [("_law_k", 7)]) rfl sc_l_plain.nd (pi_list (pv 5)) (blkOk_by (by kernel_rfl)) (fun _ _ _ _ _ => (pg_name (i := 7) sc_l_plain.nd rfl (by first | exact Or.inl rfl | exact Or.inr rfl))) (fun _ _ _ _ _ => pts_nil) (fun _ _ _ _ _ => (pe_op op_add_str pe_str (pe_callTy call_str_int rfl T.f_str (by decide +kernel) (pa_cons (pv 7) pa_nil))))) pa_nil)) pa_nil))))))))))))), ?_⟩
    refine n_setG (m := mp p) hp (g_tupL (l_mapG (Ci := fun _ d => ∃ b, d = bD b ∧ True) (i_range (e_var rfl h2) (by omega)) (range_sz (by omega)) fun i d x H1 hd g1 hx => G.imp (pick2 (l_lst (ds := [.int 0, .non]) (a_cons e_int (a_cons e_non a_nil)) (sz (by show 2 ≤ 100000; decide))) rfl rfl) fun d hd => ?_)) fun vb db H1 g1 hb ⟨bs, eb, hbl, hbc⟩ => ?_
    · rcases hd with rfl | rfl
      · exact ⟨true, rfl, trivial⟩
      · exact ⟨false, rfl, trivial⟩
    obtain ⟨start, rfl, _⟩ := list_of (all_of hbc)
    subst eb
    refine n_setG g1.2 (g_tupL (l_mapG (Ci := fun _ d => ∃ r, d = ruleD r ∧ RuleOk count r) (i_range (e_var rfl (h1.go g1)) (by omega)) (range_sz (by omega)) fun i d x H2 hd g2 hx => G.imp (g_tupL (l_mapG (Ci := fun _ d => ∃ t, d = rowD t ∧ RowOk count t) (i_range (e_var rfl ((h2.go g1).go g2)) (by omega)) (range_sz (by omega)) fun j d' y H3 hd' g3 hy => ?_)) fun d ⟨ds, ed, hl, hc⟩ => ?_)) fun vr dr H2 g2 hr' ⟨rs0, er, hrl, hrc⟩ => ?_
    · obtain ⟨hj, rfl⟩ := range_at hd'
      exact g_pcall (R := R_some) rfl (ga_cons (e_var rfl (((h2.go g1).go g2).go g3)) (ga_cons (e_var rfl hy) ga_nil)) fun ds ⟨d, es, e1, c1, d2, es2, e2, c2, e3⟩ => by
        subst e3
        subst c2
        subst e2
        subst c1
        subst e1
        exact ⟨count, j, rfl, hc6, hj, rfl⟩
    · obtain ⟨ts, rfl, hts⟩ := list_of (all_of hc)
      refine ⟨ts, ed, ?_, hts⟩
      rw [List.length_map, List.length_map, List.length_range] at hl
      exact hl
    obtain ⟨rs, rfl, hrs⟩ := list_of (all_of hrc)
    subst er
    have g12 := g1.trans g2
    refine n_setGL (K := K) (m := mp p) g2.2 (l_subG (f := id) (i_range (e_var rfl (h2.go g12)) (by omega)) (range_sz (by omega)) (fun i d x H3 hd g3 hx => t_testG (g_op (C := fun d => ∃ b, d = .bl b ∧ True) (g_draw (k := 3) rfl e_int (by decide) (by decide)) e_int fun d e ⟨j, ed, _⟩ ee H4 x y g4 hx hy Q qq => by
      subst ed
      subst ee
      rw [hx.int_inv, hy.int_inv]
      exact ⟨rfl, qq _ (.bl _) H4 g4.again (.bl _) ⟨_, rfl, trivial⟩⟩)) fun i d x H3 hd g3 hx => e_var rfl hx) fun l es0 H3 nl g3 hL ⟨S', hS', ees⟩ => ?_
    rw [List.map_id] at ees
    subst ees
    obtain ⟨es, hes, rfl⟩ := sub_map hS'
    have hfl : (es.map fun (e : Nat) => Dt.int (e : Int)).all Dt.sf = true := by
      rw [List.all_map]
      exact List.all_eq_true.mpr fun _ _ => rfl
    have h23 := h2.go (g12.trans g3)
    refine n_setIfL (CL := endC count) g3.2 (t_test (e_nilS rfl hL hfl)) (fun he => fun H4 g4 Q qq => ?_) rfl hL (fun he => ?_) fun l5 ds5 H4 g4 hL5 ⟨es5, e5, he5⟩ => ?_
    · exact (l_lst (a_cons (e_sub (e_var (d := .int (count : Int)) rfl h23) e_int) a_nil) (sz (by show 1 ≤ 100000; decide))) H4 g4 Q fun l6 ds6 H6 n6 g6 hL6 e6 => qq l6 ds6 H6 n6 g6 hL6 ⟨[count - 1], by rw [e6]; show [Dt.int ((count : Int) - 1)] = [Dt.int ((count - 1 : Nat) : Int)]; rw [show ((count - 1 : Nat) : Int) = (count : Int) - 1 by omega], by simp, by simp, fun e he => by rw [List.mem_singleton.mp he]; omega⟩
    · refine ⟨es, rfl, fun e => ?_, List.pairwise_lt_range.sublist hes, fun e he => List.mem_range.mp (hes.subset he)⟩
      subst e
      cases he
    subst e5
    have g14 := (g12.trans g3).trans g4
    refine n_setG g4.2 (pick2 (l_lst (ds := [.str "greatest", .str "least"]) (a_cons e_str (a_cons e_str a_nil)) (sz (by show 2 ≤ 100000; decide))) rfl rfl) fun vs ds H5 g5 hs hds => ?_
    obtain ⟨sd, rfl⟩ : ∃ sd, ds = .str (sdT sd) := by
      rcases hds with rfl | rfl
      · exact ⟨true, rfl⟩
      · exact ⟨false, rfl⟩
    have g15 := g14.trans g5
    refine r_retG g5.2 (g_tup (ga_cons (e_var rfl hs) (ga_cons (g_pcall (R := R_named) (C := fun d => ∃ ks, d = .ftup ks ∧ KindsOk ks ∧ ks.length = many) rfl (ga_cons (e_var rfl (h1.go g15)) ga_nil) fun ds ⟨d, es, e1, c1, e3⟩ => ?_) (ga_cons (e_var rfl (((((hb.go g2).go g3).go g4).go g5))) (ga_cons (e_var rfl (((hr'.go g3).go g4).go g5)) (ga_cons (E.cast (e_tupL (l_map (f := fun d => match d with | .int i => .str (rt i.toNat) | _ => .non) (i_listS rfl (hL5.go g5) fun z => z) ?_ fun i d x H6 hd g6 hx => ?_)) (e := endsD es5) ?_) ga_nil))))) ?_) fun v d H6 g6 hv hd => ?_
    · subst e3
      subst c1
      subst e1
      exact ⟨many, rfl, hm1, hm4, rfl⟩
    · have := pw_len he5.2.1 he5.2.2
      rw [List.length_map]
      exact sz (by omega)
    · rw [List.getElem?_map] at hd
      cases hh : es5[i]? with
      | none => rw [hh] at hd; cases hd
      | some e =>
        rw [hh] at hd
        cases hd
        have := he5.2.2 e (List.mem_of_getElem? hh)
        exact e_rn (e_var rfl hx) (by omega)
    · unfold endsD
      rw [List.map_map]
      rfl
    · rintro ds ⟨d1, e1, rfl, _, d2, e2, rfl, _, d3, e3, rfl, _, d4, e4, rfl, _, d5, e5, rfl, _, rfl⟩
      show 5 ≤ 100000
      decide
    · obtain ⟨ds, rfl, d1, e1, rfl, rfl, d2, e2, rfl, ⟨ks, rfl, hko, hkl⟩, d3, e3, rfl, rfl, d4, e4, rfl, rfl, d5, e5, rfl, rfl, rfl⟩ := hd
      rw [List.length_map, List.length_map, List.length_range] at hbl hrl
      refine q v _ H6 (g15.trans g6) hv (hC ⟨sd, ks, start, rs, es5⟩ ⟨hko, ⟨by show 1 ≤ start.length; omega, by show start.length ≤ 6; omega⟩, ⟨by show rs.length = ks.length; omega, ?_⟩, ?_⟩ hkl hbl)
      · show ∀ r ∈ rs, RuleOk start.length r
        rw [hbl]
        exact hrs
      · show EndsOk start.length es5
        rw [hbl]
        exact he5
def R_great : List Dt → (Dt → Prop) → Prop := fun ds C => ds = [] ∧ C = fun d => ∃ s, d = plainD s ∧ SV s
theorem one_plus {i : Nat} {p : Addr} {k : Nat} {Er : XK} (hb : σ[i]? = some (some (.ref p))) (h1 : 1 ≤ k) (h2 : k ≤ 1000) : G K (mp p) (tOp (rI0 fun i j => .int (i + j)) (tC (.int 1)) (tCall (spDraw K) [] Er (tCons (tVar i) (tCons (tC (.int (k : Int))) tNil)))) σ H fun d => ∃ n : Nat, d = .int (n : Int) ∧ 1 ≤ n ∧ n ≤ k :=
  g_i0 e_int (g_draw hb e_int (by omega) (by unfold many; omega)) fun d e ed ⟨j, ee, hj⟩ => ⟨1, (j : Int), .int ((j + 1 : Nat) : Int), ed, ee, ⟨j + 1, rfl, by omega, by omega⟩, fun H => by
    rw [show ((1 : Int) + (j : Int)) = ((j + 1 : Nat) : Int) by omega]
    exact .int _⟩
theorem c_l_great (T : Fx K mg) : C8.Cal P w K mg base 4 "_law_great" (Pp K R_great) [] := by
  have c_l_draw := c_l_draw (P := P) (w := w) (base := base) T
  have c_l_plain := c_l_plain (P := P) (w := w) (base := base) T
  obtain ⟨fd, F⟩ := T.D.def_ 40
  refine ⟨_, fd, ["_law_pool_here"], [], ok0 F sc_l_great (fun vs H Q Er h => ?_) (fun cdv Ar outer sh H vs Q Er hr h => ?_), T.m_law_great, F.kp, F.bindsN (fun kV doc pm an cdv ct us hl => match us, hl with | [_], _ => rfl), .nil⟩
  · obtain ⟨p, us, ds, C, rfl, _, hI, ⟨rfl, _⟩, q⟩ := h
    exact congrArg Nat.succ hI.length.symm
  · obtain ⟨p, us, ds, C, rfl, hp, hI, ⟨rfl, rfl⟩, q⟩ := h
    cases hI
    refine ⟨_, (pss_one (ps_ret (C8.pe_c c_l_plain hr (by decide) rfl (pa_cons (pv 0) (pa_cons (pe_op op_add pe_int (C8.pe_c c_l_draw hr (by decide) rfl (pa_cons (pv 0) (pa_cons pe_int pa_nil)))) (pa_cons (pe_op op_add pe_int (C8.pe_c c_l_draw hr (by decide) rfl (pa_cons (pv 0) (pa_cons pe_int pa_nil)))) pa_nil)))))), ?_⟩
    exact r_retG (m := mp p) hp (g_pcall (R := R_plain) (C := fun d => ∃ s, d = plainD s ∧ SV s) rfl (ga_cons (one_plus (k := 4) rfl (by decide) (by decide)) (ga_cons (one_plus (k := 6) rfl (by decide) (by decide)) ga_nil)) fun ds ⟨d, es, e1, ⟨n1, c1, x1, y1⟩, d2, es2, e2, ⟨n2, c2, x2, y2⟩, e3⟩ => by
      subst e3
      subst c2
      subst e2
      subst c1
      subst e1
      exact ⟨n1, n2, rfl, x1, y1, x2, y2, fun s hv _ _ => ⟨s, rfl, hv⟩⟩) fun v d H1 g1 hv hd => q v d H1 g1 hv hd
end
end TPk
end F17_text

section F18_text
set_option Elab.async false
set_option linter.all false
set_option maxRecDepth 100000
set_option maxHeartbeats 4000000
/-! Walks: the law's statistic turned: sorted texts, two registers swapped. -/
namespace TPk
open PySem PySem.Spec PyProof.Rows L2
theorem sc_l_swapped_name : FnScope ["_law_node", "_law_one_name", "_law_other_name"] ["_law_node", "_law_one_name", "_law_other_name"] (defScope s_l_swapped_name) := ⟨rfl, rfl, rfl, by decide +kernel, rfl, by decide +kernel, by decide +kernel⟩
theorem sc_l_renamed : FnScope ["_law_plain_here", "_law_k", "_law_side", "_law_named_here", "_law_begun", "_law_body", "_law_ends", "_law_pair", "_law_at", "_law_order", "_law_rows", "_law_rule_here", "_law_found", "_law_some_here", "_law_term", "_law_node", "_law_taken", "_law_new", "_law_new_ends", "_law_one_end"] ["_law_plain_here", "_law_k"] (defScope s_l_renamed) := ⟨rfl, rfl, rfl, by decide +kernel, rfl, by decide +kernel, by decide +kernel⟩
/-! ### sorted codes -/
abbrev tD (c : Nat) : Dt := .str (tt c)
theorem tt_le : ∀ c, c < 14 → ∀ d, d < 14 → ltCps (tt d).cps.toList (tt c).cps.toList = false → c ≤ d := by decide +kernel
theorem tt_dec : ∀ c, c < 14 → pos TT (tt c) = c := by decide +kernel
theorem rising_codes : ∀ {zs : List Nat} {c : Nat}, c < 14 → (∀ z ∈ zs, z < 14) → risingS (tt c) (zs.map tt) = true → (c :: zs).Nodup → (c :: zs).Pairwise (· < ·)
  | [], c, _, _, _, _ => by simp
  | z :: zs, c, hc, hz, h, hn => by
    have h : (!ltCps (tt z).cps.toList (tt c).cps.toList && risingS (tt z) (zs.map tt)) = true := h
    obtain ⟨h1, h2⟩ := Bool.and_eq_true_iff.mp h
    have h1 : ltCps (tt z).cps.toList (tt c).cps.toList = false := by simpa using h1
    have hz14 := hz z (by simp)
    have hle := tt_le c hc z hz14 h1
    obtain ⟨hn1, hn2⟩ := List.nodup_cons.mp hn
    have hne : c ≠ z := fun e => hn1 (by rw [e]; simp)
    have ih := rising_codes hz14 (fun x hx => hz x (by simp [hx])) h2 hn2
    refine List.pairwise_cons.mpr ⟨fun x hx => ?_, ih⟩
    rcases List.mem_cons.mp hx with rfl | hx
    · omega
    · have := (List.pairwise_cons.mp ih).1 x hx
      omega
def sortC (cs : List Nat) : List Nat := (List.range 14).filter fun c => decide (c ∈ cs)
theorem sortC_asc (cs : List Nat) : (sortC cs).Pairwise (· < ·) := asc_range_filter _ 14
theorem mem_sortC {cs : List Nat} {c : Nat} : c ∈ sortC cs ↔ c < 14 ∧ c ∈ cs := by
  unfold sortC
  rw [List.mem_filter, List.mem_range, decide_eq_true_iff]
theorem sorted_tt {ys : List Str} {cs : List Nat} (h : ys.Perm (cs.map tt)) (hl : ∀ c ∈ cs, c < 14) (hn : cs.Nodup) (hs : sortedS ys = true) : ys = (sortC cs).map tt := by
  have e1 : (cs.map tt).map (pos TT) = cs := by
    rw [List.map_map]
    have : cs.map (pos TT ∘ tt) = cs.map id := List.map_congr_left fun c hc => tt_dec c (hl c hc)
    rw [this, List.map_id]
  have hp : (ys.map (pos TT)).Perm cs := by
    have := h.map (pos TT)
    rwa [e1] at this
  have e2 : ys = (ys.map (pos TT)).map tt := by
    rw [List.map_map]
    have : ys.map (tt ∘ pos TT) = ys.map id := List.map_congr_left fun y hy => by
      obtain ⟨c, hc, rfl⟩ := List.mem_map.mp (h.mem_iff.mp hy)
      show tt (pos TT (tt c)) = tt c
      rw [tt_dec c (hl c hc)]
    rw [this, List.map_id]
  generalize ys.map (pos TT) = zs at hp e2
  subst e2
  congr 1
  have hz : ∀ z ∈ zs, z < 14 := fun z hz => hl z (hp.mem_iff.mp hz)
  have hzn : zs.Nodup := hp.nodup_iff.mpr hn
  have hasc : zs.Pairwise (· < ·) := by
    cases zs with
    | nil => exact List.Pairwise.nil
    | cons z zs => exact rising_codes (hz z (by simp)) (fun x hx => hz x (by simp [hx])) hs hzn
  refine asc_eq hasc (sortC_asc cs) fun x => ?_
  rw [mem_sortC, hp.mem_iff]
  exact ⟨fun h => ⟨hl x h, h⟩, fun h => h.2⟩
section
variable {P : Program} {w : World} {K : PySem.W.Frag} {mg : Str → Option Value} {base : Heap} {m : Mo} {σ : L2.St} {H : Hp} {ta tb te : TE} {C C1 C2 : Dt → Prop}
theorem L.imp {CL CL' : List Dt → Prop} (h : L K m te σ H CL) (i : ∀ ds, CL ds → CL' ds) : L K m te σ H CL' := fun H1 g Q q => h H1 g Q fun l ds H2 n g2 hl hc => q l ds H2 n g2 hl (i ds hc)
theorem allStrs {xs : List Str} : IsAll K H (xs.map Dt.str) (xs.map V.str) := by
  induction xs with
  | nil => exact .nil
  | cons x xs ih => exact .cons (.str x) ih
theorem strs_inv {xs : List Str} {vs : List V} (h : IsAll K H (xs.map Dt.str) vs) : vs = xs.map V.str := by
  have := isAll_fv h (strs_fl xs)
  rw [this, List.map_map]
  rfl
def sortR (xs : List Str) : List Dt → Prop := fun ds => ∃ ys : List Str, ds = ys.map Dt.str ∧ ys.Perm xs ∧ sortedS ys = true
/-- sorted(l), l a list just made -/
theorem l_sortL {xs : List Str} (h : LE K m te σ H (xs.map Dt.str)) (hz : xs.length < 64) : L K m (tCB (rSortedS K) (tCons te tNil)) σ H (sortR xs) := fun H1 g Q q => LE.go h g fun l H2 _ g2 hl => by
  obtain ⟨vs, e, _, i⟩ := hl
  rw [strs_inv i] at e
  exact ⟨l, xs, rfl, .inl (.inl e), hz, fun ys p hp hs np => q p _ _ (g2.free np) (g2.new np) ⟨_, upd_same, Go.notM g2.2 np, allStrs⟩ ⟨ys, rfl, hp, hs⟩⟩
theorem l_sortS {i : Nat} {l : Addr} {xs : List Str} (hb : σ[i]? = some (some (.ref l))) (hl : Li K m H l (xs.map Dt.str)) (hz : xs.length < 64) : L K m (tCB (rSortedS K) (tCons (tVar i) tNil)) σ H (sortR xs) := fun H1 g Q q => ⟨_, hb, by
  obtain ⟨vs, e, _, i⟩ := hl.go g
  rw [strs_inv i] at e
  exact ⟨l, xs, rfl, .inl (.inl e), hz, fun ys p hp hs np => q p _ _ np (g.again.new np) ⟨_, upd_same, Go.notM g.2 np, allStrs⟩ ⟨ys, rfl, hp, hs⟩⟩⟩
theorem l_sortT {xs : List Str} (h : TPk.E K m te σ H (.tup (xs.map Dt.str))) (hz : xs.length < 64) : L K m (tCB (rSortedT K) (tCons te tNil)) σ H (sortR xs) := fun H1 g Q q => h.go g fun v H2 g2 hv => by
  obtain ⟨a, vs, rfl, e, i⟩ := hv.inv
  rw [strs_inv i] at e
  exact ⟨a, xs, rfl, e, hz, fun ys p hp hs np => q p _ _ (g2.free np) (g2.new np) ⟨_, upd_same, Go.notM g2.2 np, allStrs⟩ ⟨ys, rfl, hp, hs⟩⟩
theorem sortR_codes {cs : List Nat} (hl : ∀ c ∈ cs, c < 14) (hn : cs.Nodup) (ds : List Dt) (h : sortR (cs.map tt) ds) : ds = (sortC cs).map tD := by
  obtain ⟨ys, rfl, hp, hs⟩ := h
  rw [sorted_tt hp hl hn hs, List.map_map]
  rfl
/-! ### statements -/
theorem g_five {i1 i2 i3 i4 i5 : Nat} {d1 d2 d3 d4 d5 : Dt} {x : V} {Q : L2.St → Hp → Prop} (h : Is K H (.tup [d1, d2, d3, d4, d5]) x)
    (q : ∀ v1 v2 v3 v4 v5, Is K H d1 v1 → Is K H d2 v2 → Is K H d3 v3 → Is K H d4 v4 → Is K H d5 v5 → Q (((((σ.set i1 (some v1)).set i2 (some v2)).set i3 (some v3)).set i4 (some v4)).set i5 (some v5)) H) :
    gTup K 5 (gCons (gName i1) (gCons (gName i2) (gCons (gName i3) (gCons (gName i4) (gCons (gName i5) gNil))))) x σ H Q := by
  obtain ⟨p, xs, rfl, hq, hi⟩ := h.inv
  obtain ⟨v1, v2, v3, v4, v5, rfl, h1, h2, h3, h4, h5⟩ := hi.inv5
  exact ⟨p, _, rfl, hq, rfl, _, _, rfl, _, _, rfl, _, _, rfl, _, _, rfl, _, _, rfl, rfl, q _ _ _ _ _ h1 h2 h3 h4 h5⟩
theorem n_asg5 {i1 i2 i3 i4 i5 : Nat} {d1 d2 d3 d4 d5 : Dt} {D : Ends} {u : TS} (j : m.J H) (h : TPk.E K m te σ H (.tup [d1, d2, d3, d4, d5]))
    (q : ∀ v1 v2 v3 v4 v5 H1, Go m H H1 → Is K H1 d1 v1 → Is K H1 d2 v2 → Is K H1 d3 v3 → Is K H1 d4 v4 → Is K H1 d5 v5 → u D (((((σ.set i1 (some v1)).set i2 (some v2)).set i3 (some v3)).set i4 (some v4)).set i5 (some v5)) H1) :
    tSeq (tAsg te (gTup K 5 (gCons (gName i1) (gCons (gName i2) (gCons (gName i3) (gCons (gName i4) (gCons (gName i5) gNil))))))) u D σ H :=
  h.use j fun x H1 g hx => g_five hx fun v1 v2 v3 v4 v5 z1 z2 z3 z4 z5 => q v1 v2 v3 v4 v5 H1 g z1 z2 z3 z4 z5
/-! ### a name swapped -/
def swT (x a b : Str) : Str := if x = a then b else if x = b then a else x
def R_swap : Hp → List Dt → Dt → Prop := fun _ ds d => ∃ x a b, ds = [.str x, .str a, .str b] ∧ d = .str (swT x a b)
theorem eq_strs (x y : Str) : decide ((Dt.str x).fv = (Dt.str y).fv) = decide (x = y) := by
  by_cases h : x = y
  · subst h; rw [decide_eq_true rfl, decide_eq_true rfl]
  · rw [decide_eq_false h, decide_eq_false fun e => h (by injection e)]
theorem c_l_swapped_name (T : Fx K mg) : C8.Cal P w K mg base 1 "_law_swapped_name" (Pu K R_swap) [] := by
  obtain ⟨fd, F⟩ := T.D.def_ 47
  refine ⟨_, fd, ["_law_node", "_law_one_name", "_law_other_name"], [], ok0 F sc_l_swapped_name (fun vs H Q Er h => ?_) (fun cdv Ar outer sh H vs Q Er hr h => ?_), T.m_law_swapped_name, F.kp, F.bindsN (fun kV doc pm an cdv ct us hl => match us, hl with | [_, _, _], _ => rfl), .nil⟩
  · obtain ⟨ds, d, hI, ⟨x, a, b, rfl, rfl⟩, q⟩ := h
    exact hI.length.symm
  · obtain ⟨ds, d, hI, ⟨x, a, b, rfl, rfl⟩, q⟩ := h
    obtain ⟨v1, v2, v3, rfl, h1, h2, h3⟩ := hI.inv3
    refine ⟨_, (pss_cons (ps_if (pt_cmpR op_eq (pv 0) (pv 1) (nomark _)) (pss_one (ps_ret (pv 2))) pss_nil)
    (pss_one (ps_ret (pe_ifExp (pt_cmpR op_eq (pv 0) (pv 2) (nomark _)) (pv 1) (pv 0))))), ?_⟩
    refine k_ite ((t_test (e_eq (e_var rfl h1) (e_var rfl h2) rfl rfl rfl)).cast (eq_strs x a)) (fun h0 H1 s1 => ?_) (fun h0 H1 s1 => ?_)
    · have h0 := of_decide_eq_true h0
      refine q_ret (e_var rfl (h3.same s1)) fun v H2 s2 hv => q v H2 (s1.trans s2) ?_
      unfold swT
      rw [if_pos h0]
      exact hv
    · have h0 := of_decide_eq_false h0
      have ht := (t_test (K := K) (m := m0) (e_eq (e_var (i := 0) (σ := L2.start ["_law_node", "_law_one_name", "_law_other_name"] [v1, v2, v3]) rfl (h1.same s1)) (e_var (i := 2) rfl (h3.same s1)) rfl rfl rfl)).cast (eq_strs x b)
      refine q_ret (d := .str (swT x a b)) (e_if ht (fun e => ?_) (fun e => ?_)) fun v H2 s2 hv => q v H2 (s1.trans s2) hv
      · unfold swT
        rw [if_neg h0, if_pos (of_decide_eq_true e)]
        exact e_var rfl (h2.same s1)
      · unfold swT
        rw [if_neg h0, if_neg (of_decide_eq_false e)]
        exact e_var rfl (h1.same s1)
/-! ### two registers swapped -/
theorem sw_node : ∀ k, k < 5 → ∀ n, n < 7 → swT (nt n) (rt k) (rt (k + 1)) = nt (swN k n) := by decide +kernel
theorem sw_reg : ∀ k, k < 5 → ∀ e, e < 6 → swT (rt e) (rt k) (rt (k + 1)) = rt (swR k e) ∧ swR k e < 6 := by decide +kernel
theorem rt_tt : ∀ e, e < 6 → rt e = tt (2 * e + 1) := by decide +kernel
theorem sw_term : ∀ k, k < 5 → ∀ c, c < 14 → (nt (swN k (src c)) = "0" → (if tak c = true then "x" else "0" : Str) = tt (swC k c)) ∧ (nt (swN k (src c)) ≠ "0" → (nt (swN k (src c)) ++ (if tak c = true then "+x" else "" : Str)) = tt (swC k c)) ∧ (nt (swN k (src c))).length ≤ 10 ∧ src c < 7 := by decide +kernel
theorem e_swR {i k : Nat} {a b : Nat} (h1 : TPk.E K m (tVar a) σ H (.int (i : Int))) (h2 : TPk.E K m (tVar b) σ H (.int (k : Int))) :
    TPk.E K m (tIf (tTest (tOp rEq (tVar a) (tVar b))) (tOp (rI0 fun i j => .int (i + j)) (tVar b) (tC (.int 1))) (tIf (tTest (tOp rEq (tVar a) (tOp (rI0 fun i j => .int (i + j)) (tVar b) (tC (.int 1))))) (tVar b) (tVar a))) σ H (.int ((swR k i : Nat) : Int)) := by
  have d1 : ∀ x y : Int, decide ((Dt.int x).fv = (Dt.int y).fv) = decide (x = y) := fun x y => by
    by_cases h : x = y
    · subst h; rw [decide_eq_true rfl, decide_eq_true rfl]
    · rw [decide_eq_false h, decide_eq_false fun e => h (by injection e)]
  refine e_if ((t_test (e_eq h1 h2 rfl rfl rfl)).cast (d1 _ _)) (fun e => ?_) (fun e => ?_)
  · have e := of_decide_eq_true e
    refine (e_add h2 e_int).cast ?_
    unfold swR
    rw [if_pos (by omega)]
    rfl
  · have e := of_decide_eq_false e
    refine e_if ((t_test (e_eq h1 (e_add h2 e_int) rfl rfl rfl)).cast (d1 _ _)) (fun e2 => ?_) (fun e2 => ?_)
    · have e2 := of_decide_eq_true e2
      refine E.cast h2 ?_
      unfold swR
      rw [if_neg (by omega), if_pos (by omega)]
    · have e2 := of_decide_eq_false e2
      refine E.cast h1 ?_
      unfold swR
      rw [if_neg (by omega), if_neg (by omega)]
theorem L.toE {CL : List Dt → Prop} {es : List Dt} (h : L K m te σ H CL) (i : ∀ ds, CL ds → ds = es) : LE K m te σ H es := L.imp h i
def R_renamed : Hp → List Dt → Dt → Prop := fun _ ds d => ∃ s k, ds = [plainD s, .int ((k : Nat) : Int)] ∧ SV s ∧ k + 1 < s.start.length ∧ d = plainD (ren k s)
theorem renR_snoc {n k : Nat} {r : List (List Nat)} {i : Nat} (h : i < n) : ((List.range n).take (i + 1)).map (fun j => renT k (r.getD (swR k j) [])) = ((List.range n).take i).map (fun j => renT k (r.getD (swR k j) [])) ++ [renT k (r.getD (swR k i) [])] := by
  rw [List.take_add_one, List.getElem?_range h, List.map_append]
  rfl
theorem renT_sort {k : Nat} (hk : k < 5) {t : List Nat} (ht : ∀ c ∈ t, c < 14) : sortC (t.map (swC k)) = renT k t := by
  refine asc_eq (sortC_asc _) (asc_range_filter _ 14) fun c => ?_
  rw [mem_sortC, mem_renT]
  constructor
  · rintro ⟨h1, h2⟩
    obtain ⟨c', hc', rfl⟩ := List.mem_map.mp h2
    exact ⟨h1, by rw [(swC_facts k hk c' (ht c' hc')).1]; exact hc'⟩
  · rintro ⟨h1, h2⟩
    exact ⟨h1, List.mem_map.mpr ⟨_, h2, (swC_facts k hk c h1).1⟩⟩
theorem swC_nodup {k : Nat} (hk : k < 5) : ∀ {t : List Nat}, (∀ c ∈ t, c < 14) → t.Nodup → (t.map (swC k)).Nodup
  | [], _, _ => List.nodup_nil
  | c :: t, ht, hn => by
    obtain ⟨h1, h2⟩ := List.nodup_cons.mp hn
    refine List.nodup_cons.mpr ⟨fun h => ?_, swC_nodup hk (fun x hx => ht x (by simp [hx])) h2⟩
    obtain ⟨c', hc', e⟩ := List.mem_map.mp h
    have e1 := (swC_facts k hk c (ht c (by simp))).1
    have e2 := (swC_facts k hk c' (ht c' (by simp [hc']))).1
    rw [e, e1] at e2
    exact h1 (by rw [e2]; exact hc')
theorem ends_sort {n k : Nat} (hk : k + 1 < n) (hn : n ≤ 6) {es : List Nat} (he : ∀ e ∈ es, e < n) : sortC ((es.map (swR k)).map fun e => 2 * e + 1) = ((List.range n).filter fun e => decide (swR k e ∈ es)).map fun e => 2 * e + 1 := by
  refine asc_eq (sortC_asc _) ?_ fun c => ?_
  · rw [List.pairwise_map]
    exact (asc_range_filter _ n).imp fun {a b} h => by omega
  · rw [mem_sortC]
    constructor
    · rintro ⟨h1, h2⟩
      obtain ⟨e', h3, rfl⟩ := List.mem_map.mp h2
      obtain ⟨e, h4, rfl⟩ := List.mem_map.mp h3
      exact List.mem_map.mpr ⟨swR k e, List.mem_filter.mpr ⟨List.mem_range.mpr (swR_lt hk (he e h4)), decide_eq_true (by rw [swR_swR]; exact h4)⟩, rfl⟩
    · intro h
      obtain ⟨e, h1, rfl⟩ := List.mem_map.mp h
      obtain ⟨h2, h3⟩ := List.mem_filter.mp h1
      have h2 := List.mem_range.mp h2
      exact ⟨by omega, List.mem_map.mpr ⟨e, List.mem_map.mpr ⟨swR k e, of_decide_eq_true h3, swR_swR k e⟩, rfl⟩⟩
theorem ends_nodup {n k : Nat} {es : List Nat} (he : es.Pairwise (· < ·)) : ((es.map (swR k)).map fun e => 2 * e + 1).Nodup := by
  rw [List.map_map]
  unfold List.Nodup
  rw [List.pairwise_map]
  refine he.imp fun {a b} h => ?_
  show 2 * swR k a + 1 ≠ 2 * swR k b + 1
  intro e
  have e : swR k a = swR k b := by omega
  have := congrArg (swR k) e
  rw [swR_swR, swR_swR] at this
  omega
theorem o01 (b : Bool) : ([Dt.str "0", Dt.str "x"] : List Dt)[(if b = true then 1 else 0 : Nat)]? = some (.str (if b = true then "x" else "0" : Str)) := by cases b <;> rfl
/-- [..][e], the list just made, its place known -/
theorem e_ixN {ds : List Dt} {d : Dt} {j : Nat} (ha : LE K m ta σ H ds) (hb : TPk.E K m tb σ H (.int (j : Int))) (hd : ds[j]? = some d) : TPk.E K m (tOp (rIxL K) ta tb) σ H d := fun H1 g Q q =>
  LE.go ha g fun l H2 nl g2 hl => hb.go (g.trans g2) fun y H3 g3 hy => by
    obtain ⟨xs, hq, hi⟩ := (hl.go g3).sq
    obtain ⟨v, hv, hdv⟩ := hi.get hd
    exact ⟨l, xs, j, v, rfl, hy.int_inv, hq, atI_nat hv, q v _ H3 (g2.trans g3) hdv rfl⟩
theorem e_mulS {x : Str} {b : Bool} (ha : TPk.E K m ta σ H (.str x)) (hb : TPk.E K m tb σ H (.int (if b = true then 1 else 0))) : TPk.E K m (tOp (fun x y H Q => ∃ z n, x = .str z ∧ y = .int n ∧ (n = 0 ∨ n = 1) ∧ Q (.str (if n = 0 then Str.empty else z)) H) ta tb) σ H (.str (if b = true then x else Str.empty)) :=
  e_op ha hb fun H1 u v g hu hv Q q => ⟨x, _, hu.str_inv, hv.int_inv, by cases b; exact .inl rfl; exact .inr rfl, by
    cases b
    · exact q _ H1 g.again (.str _)
    · exact q _ H1 g.again (.str _)⟩
theorem c_l_renamed (T : Fx K mg) : C8.Cal P w K mg base 2 "_law_renamed" (Pu K R_renamed) [] := by
  have c_l_source := c_l_source (P := P) (w := w) (base := base) T
  have c_l_swapped_name := c_l_swapped_name (P := P) (w := w) (base := base) T
  obtain ⟨fd, F⟩ := T.D.def_ 48
  refine ⟨_, fd, ["_law_plain_here", "_law_k"], [], ok0 F sc_l_renamed (fun vs H Q Er h => ?_) (fun cdv Ar outer sh H vs Q Er hr h => ?_), T.m_law_renamed, F.kp, F.bindsN (fun kV doc pm an cdv ct us hl => match us, hl with | [_, _], _ => rfl), .nil⟩
  · obtain ⟨ds, d, hI, ⟨s, k, rfl, _⟩, q⟩ := h
    exact hI.length.symm
  · obtain ⟨ds, d, hI, ⟨s, k, rfl, hv, hk, rfl⟩, q⟩ := h
    obtain ⟨v1, v2, rfl, h1, h2⟩ := hI.inv2
    cases h2.int_inv
    have h6 := hv.start.2
    have hk5 : k < 5 := by omega
    refine ⟨_, (pss_cons (ps_asg (pv 0) (pg_tup rfl (pgs_cons (pg_name (i := 2) sc_l_renamed.nd rfl (Or.inl rfl)) (pgs_cons (pg_name (i := 3) sc_l_renamed.nd rfl (Or.inl rfl)) (pgs_cons (pg_name (i := 4) sc_l_renamed.nd rfl (Or.inr rfl)) (pgs_cons (pg_name (i := 5) sc_l_renamed.nd rfl (Or.inl rfl)) (pgs_cons (pg_name (i := 6) sc_l_renamed.nd rfl (Or.inl rfl)) pgs_nil)))))))
    (pss_cons (ps_set (i := 7) sc_l_renamed.nd rfl (Or.inr rfl) (pe_tup (pa_cons (pe_op op_add_str pe_str (pe_callTy call_str_int rfl T.f_str (by decide +kernel) (pa_cons (pv 1) pa_nil))) (pa_cons (pe_op op_add_str pe_str (pe_callTy call_str_int rfl T.f_str (by decide +kernel) (pa_cons (pe_op op_add (pv 1) pe_int) pa_nil))) pa_nil))))
    (pss_cons (ps_setLcF (i := 9) (own := [("_law_at", 8)]) rfl sc_l_renamed.nd rfl rfl (sw_true rfl rfl rfl (by decide +kernel)) (pi_range1 rfl T.f_range (pa_cons (pe_callB call_len_seq rfl T.f_len PySem.boot_len (pa_cons (pv 4) pa_nil)) pa_nil)) (blkOk_by (by kernel_rfl)) (fun _ _ _ _ _ => (pg_name (i := 8) sc_l_renamed.nd rfl (by first | exact Or.inl rfl | exact Or.inr rfl))) (fun _ _ _ _ _ => pts_nil) (fun _ _ _ _ _ => (pe_ifExp (pt_cmpR op_eq (pv 8) (pv 1) (nomark _)) (pe_op op_add (pv 1) pe_int) (pe_ifExp (pt_cmpR op_eq (pv 8) (pe_op op_add (pv 1) pe_int) (nomark _)) (pv 1) (pv 8)))))
    (pss_cons (ps_set (i := 10) sc_l_renamed.nd rfl (Or.inl rfl) (pe_lst pa_nil))
    (pss_cons (ps_for PassesOwn.never rfl (pi_tup (pv 5)) (pg_name (i := 11) sc_l_renamed.nd rfl (Or.inl rfl)) (pss_cons (ps_set (i := 12) sc_l_renamed.nd rfl (Or.inl rfl) (pe_lst pa_nil))
    (pss_cons (ps_for PassesOwn.never rfl (pi_list (pv 9)) (pg_name (i := 8) sc_l_renamed.nd rfl (Or.inl rfl)) (pss_cons (ps_set (i := 13) sc_l_renamed.nd rfl (Or.inl rfl) (pe_lst pa_nil))
    (pss_cons (ps_for PassesOwn.never rfl (pi_tup (pe_ix ix_tup (pv 11) (pv 8) (fun _ _ => rfl))) (pg_name (i := 14) sc_l_renamed.nd rfl (Or.inl rfl)) (pss_cons (ps_asg (C8.pe_c c_l_source hr (by decide) rfl (pa_cons (pv 14) pa_nil)) (pg_tup rfl (pgs_cons (pg_name (i := 15) sc_l_renamed.nd rfl (Or.inl rfl)) (pgs_cons (pg_name (i := 16) sc_l_renamed.nd rfl (Or.inl rfl)) pgs_nil))))
    (pss_cons (ps_set (i := 17) sc_l_renamed.nd rfl (Or.inl rfl) (C8.pe_c c_l_swapped_name hr (by decide) rfl (pa_cons (pv 15) (pa_cons (pe_ix ix_tup (pv 7) pe_int (fun _ _ => rfl)) (pa_cons (pe_ix ix_tup (pv 7) pe_int (fun _ _ => rfl)) pa_nil)))))
    (pss_one (ps_expr (pe_bm PySem.F.plainAttrs_list PySem.F.slot_list_append PySem.F.type_list_append mt_append (pv 13) (pa_cons (pe_ifExp (pt_cmpR op_eq (pv 17) pe_str (nomark _)) (pe_ix ix_list (pe_lst (pa_cons pe_str (pa_cons pe_str pa_nil))) (pe_callTy call_int1 rfl T.f_int (by decide +kernel) (pa_cons (pv 16) pa_nil)) (fun _ _ => rfl)) (pe_op op_add_str (pv 17) (pe_op op_mulS pe_str (pe_callTy call_int1 rfl T.f_int (by decide +kernel) (pa_cons (pv 16) pa_nil))))) pa_nil)))))))
    (pss_one (ps_expr (pe_bm PySem.F.plainAttrs_list PySem.F.slot_list_append PySem.F.type_list_append mt_append (pv 12) (pa_cons (pe_callTy call_tuple_of rfl T.f_tuple (by decide +kernel) (pa_cons (pe_callB cr_sortedS rfl T.f_sorted (by decide +kernel) (pa_cons (pv 13) pa_nil)) pa_nil)) pa_nil)))))))
    (pss_one (ps_expr (pe_bm PySem.F.plainAttrs_list PySem.F.slot_list_append PySem.F.type_list_append mt_append (pv 10) (pa_cons (pe_callTy call_tuple_of rfl T.f_tuple (by decide +kernel) (pa_cons (pv 12) pa_nil)) pa_nil)))))))
    (pss_cons (ps_set (i := 18) sc_l_renamed.nd rfl (Or.inl rfl) (pe_callTy call_tuple_of rfl T.f_tuple (by decide +kernel) (pa_cons (pe_callB cr_sortedS rfl T.f_sorted (by decide +kernel) (pa_cons (pe_lcF (own := [("_law_one_end", 19)]) rfl sc_l_renamed.nd (pi_tup (pv 6)) (blkOk_by (by kernel_rfl)) (fun _ _ _ _ _ => (pg_name (i := 19) sc_l_renamed.nd rfl (by first | exact Or.inl rfl | exact Or.inr rfl))) (fun _ _ _ _ _ => pts_nil) (fun _ _ _ _ _ => (C8.pe_c c_l_swapped_name hr (by decide) rfl (pa_cons (pv 19) (pa_cons (pe_ix ix_tup (pv 7) pe_int (fun _ _ => rfl)) (pa_cons (pe_ix ix_tup (pv 7) pe_int (fun _ _ => rfl)) pa_nil)))))) pa_nil)) pa_nil)))
    (pss_one (ps_ret (pe_tup (pa_cons (pv 2) (pa_cons (pv 3) (pa_cons (pe_callTy call_tuple_of rfl T.f_tuple (by decide +kernel) (pa_cons (pe_lcF (own := [("_law_at", 8)]) rfl sc_l_renamed.nd (pi_list (pv 9)) (blkOk_by (by kernel_rfl)) (fun _ _ _ _ _ => (pg_name (i := 8) sc_l_renamed.nd rfl (by first | exact Or.inl rfl | exact Or.inr rfl))) (fun _ _ _ _ _ => pts_nil) (fun _ _ _ _ _ => (pe_ix ix_tup (pv 4) (pv 8) (fun _ _ => rfl)))) pa_nil)) (pa_cons (pe_callTy call_tuple_of rfl T.f_tuple (by decide +kernel) (pa_cons (pv 10) pa_nil)) (pa_cons (pv 18) pa_nil)))))))))))))), ?_⟩
    refine n_asg5 (m := m0) True.intro (e_var rfl h1) fun w1 w2 w3 w4 w5 H1 g1 z1 z2 z3 z4 z5 => ?_
    have s1 := g1.to0
    refine k_set (K := K) (e_tup (a_cons (e_rn (e_var rfl (.int (k : Int))) (by omega)) (a_cons (e_rn (n := k + 1) ((e_add (e_var rfl (.int (k : Int))) e_int).cast (by rfl)) (by omega)) a_nil)) (sz (by show 2 ≤ 100000; decide))) fun v7 H2 s2 h7 => ?_
    refine k_setL (K := K) ((l_map (f := fun d => match d with | .int i => .int ((swR k i.toNat : Nat) : Int) | _ => .non) (i_range (e_lenT (e_var rfl (z3.same s2))) (by rw [List.length_map]; omega)) (range_sz (by rw [List.length_map]; omega)) fun i d x H3 hd g3 hx => ?_).cast (es := (List.range s.start.length).map fun (i : Nat) => Dt.int ((swR k i : Nat) : Int)) ?_) fun l9 H3 n9 s3 hO9 => ?_
    · obtain ⟨hi, rfl⟩ := range_at hd
      exact e_swR (e_var rfl hx) (e_var rfl (.int (k : Int)))
    · rw [List.map_map, List.length_map]
      rfl
    have s13 := (s1.trans s2).trans s3
    have h7' := h7.same s3
    refine k_setL (K := K) (l_lst a_nil (Nat.zero_le _)) fun l10 H4 n10 s4 hO10 => ?_
    have hO9' := hO9.same s4
    have h910 : l9 ≠ l10 := by
      obtain ⟨_, e9, _⟩ := hO9
      exact ne_of_none e9 n10
    have s14 := s13.trans s4
    have s24 := (s2.trans s3).trans s4
    have hrules : ∀ r ∈ s.rules, r.length = s.start.length ∧ ∀ t ∈ r, RowOk s.start.length t := hv.rules.2
    have hL9 : ∀ {H'}, TK H4 H' → True := fun _ => trivial
    refine k_forO (m := m0) not0 True.intro hO10 (i_tup (e_var rfl (z4.same s24)))
      (fun i σ' H' => (∃ y8 y11 y12 y13 y14 y15 y16 y17, σ' = [some v1, some (.int (k : Int)), some w1, some w2, some w3, some w4, some w5, some v7, y8, some (.ref l9), some (.ref l10), y11, y12, y13, y14, y15, y16, y17, none, none]) ∧ Ow K H' l9 ((List.range s.start.length).map fun (i : Nat) => Dt.int ((swR k i : Nat) : Int)) ∧ Ow K H' l10 (((s.rules.take i).map (renR s.start.length k)).map ruleD))
      (fun B gB hB => ⟨⟨_, _, _, _, _, _, _, _, rfl⟩, hO9'.same gB.to0, hB⟩) (fun B i d x σ' H5 H6 gB hd g5 pv s56 hx => ?_) (fun B σ' H5 gB g5 pv => ?_)
    · obtain ⟨⟨y8, y11, y12, y13, y14, y15, y16, y17, rfl⟩, hO95, hO105⟩ := pv
      obtain ⟨r, hr, rfl⟩ : ∃ r, s.rules[i]? = some r ∧ d = ruleD r := by
        rw [List.getElem?_map] at hd
        cases hh : s.rules[i]? with
        | none => rw [hh] at hd; cases hd
        | some r => rw [hh] at hd; cases hd; exact ⟨r, rfl, rfl⟩
      obtain ⟨hrl, hrt⟩ := hrules r (List.mem_of_getElem? hr)
      have hi4 : i < 4 := by
        have := (List.getElem?_eq_some_iff.mp hr).1
        have := hv.rules.1
        have := hv.kinds.2.1
        omega
      have up6 : ∀ {d v}, Is K H4 d v → Is K H6 d v := fun hh => ((hh.same gB.to0).go g5).same s56
      have hO96 := hO95.same s56
      have hO106 := hO105.same s56
      have h76 := up6 (h7'.same s4)
      refine k_setL (K := K) (l_lst a_nil (Nat.zero_le _)) fun l12 H7 n12 s7 hO12 => ?_
      have h912 : l9 ≠ l12 := by
        obtain ⟨_, e9, _⟩ := hO96
        exact ne_of_none e9 n12
      have hO97 := hO96.same s7
      refine k_forO (m := m0) not0 True.intro hO12 (i_listS rfl hO97.li h912)
        (fun j σ' H' => (∃ y8 y13 y14 y15 y16 y17, σ' = [some v1, some (.int (k : Int)), some w1, some w2, some w3, some w4, some w5, some v7, y8, some (.ref l9), some (.ref l10), some x, some (.ref l12), y13, y14, y15, y16, y17, none, none]) ∧ Ow K H' l12 ((((List.range s.start.length).take j).map fun j => renT k (r.getD (swR k j) [])).map rowD))
        (fun B2 gB2 hB2 => ⟨⟨_, _, _, _, _, _, rfl⟩, hB2⟩) (fun B2 j d x2 σ' H8 H9 gB2 hd2 g8 pv2 s89 hx2 => ?_) (fun B2 σ' H8 gB2 g8 pv2 => ?_)
      · obtain ⟨⟨y8', y13', y14', y15', y16', y17', rfl⟩, hO128⟩ := pv2
        obtain ⟨hj, rfl⟩ : j < s.start.length ∧ d = .int ((swR k j : Nat) : Int) := by
          rw [List.getElem?_map] at hd2
          cases hh : (List.range s.start.length)[j]? with
          | none => rw [hh] at hd2; cases hd2
          | some j' =>
            rw [hh] at hd2
            obtain ⟨e1, e2⟩ := List.getElem?_eq_some_iff.mp hh
            rw [List.getElem_range] at e2
            rw [List.length_range] at e1
            subst e2
            exact ⟨e1, (Option.some.inj hd2).symm⟩
        have hsw : swR k j < r.length := by rw [hrl]; exact swR_lt hk hj
        obtain ⟨t, ht⟩ : ∃ t, r[swR k j]? = some t := ⟨_, List.getElem?_eq_getElem hsw⟩
        have hgd : r.getD (swR k j) [] = t := by rw [List.getD_eq_getElem?_getD, ht]; rfl
        obtain ⟨hta, htc⟩ := hrt t (List.mem_of_getElem? ht)
        have ht14 : ∀ c ∈ t, c < 14 := fun c hc => codes_lt (htc c hc) h6
        have htl : t.length ≤ 14 := pw_len hta ht14
        have up9 : ∀ {d v}, Is K H6 d v → Is K H9 d v := fun hh => ((hh.same (s7.trans gB2.to0)).go g8).same s89
        have hO129 := hO128.same s89
        refine k_setL (K := K) (l_lst a_nil (Nat.zero_le _)) fun l13 HA n13 sA hO13 => ?_
        refine k_forO (m := m0) not0 True.intro hO13 (i_tup (e_ixT (e_var rfl ((up9 (hx : Is K H6 (ruleD r) x)).same sA)) (e_var rfl (hx2.same sA)) (atD (d := rowD t) (by rw [List.getElem?_map, ht]; rfl))))
          (fun c σ' H' => (∃ y14 y15 y16 y17, σ' = [some v1, some (.int (k : Int)), some w1, some w2, some w3, some w4, some w5, some v7, some x2, some (.ref l9), some (.ref l10), some x, some (.ref l12), some (.ref l13), y14, y15, y16, y17, none, none]) ∧ Ow K H' l13 (((t.take c).map (swC k)).map tD))
          (fun B3 gB3 hB3 => ⟨⟨_, _, _, _, rfl⟩, hB3⟩) (fun B3 c d x3 σ' HB HC gB3 hd3 gB' pv3 sBC hx3 => ?_) (fun B3 σ' HB gB3 gB' pv3 => ?_)
        · obtain ⟨⟨y14'', y15'', y16'', y17'', rfl⟩, hO13B⟩ := pv3
          obtain ⟨cd, hcj, rfl⟩ : ∃ cd, t[c]? = some cd ∧ d = .str (tt cd) := by
            rw [List.getElem?_map] at hd3
            cases hh : t[c]? with
            | none => rw [hh] at hd3; cases hd3
            | some cd => rw [hh] at hd3; cases hd3; exact ⟨cd, rfl, rfl⟩
          have hc14 := ht14 cd (List.mem_of_getElem? hcj)
          obtain ⟨m1, m2, m3, m4⟩ := sw_term k hk5 cd hc14
          have upC : ∀ {d v}, Is K H9 d v → Is K HC d v := fun hh => ((hh.same (sA.trans gB3.to0)).go gB').same sBC
          refine k_asg2 (e_call (d := srcD cd) (a_cons (e_var rfl hx3) a_nil) fun Hx gx => ⟨cd, hc14, rfl, rfl⟩) fun u1 u2 HD sD hu1 hu2 => ?_
          have h7D := (upC (up9 h76)).same sD
          refine k_set (e_call (d := .str (nt (swN k (src cd)))) (a_cons (e_var rfl hu1) (a_cons (e_ixT (e_var rfl h7D) e_int rfl) (a_cons (e_ixT (e_var rfl h7D) e_int rfl) a_nil))) fun Hx gx => ⟨_, _, _, rfl, by rw [sw_node k hk5 _ m4]⟩) fun u3 HE sE hu3 => ?_
          refine q_app (m := m0) (d := tD (swC k cd)) not0 rfl ((hO13B.same (sBC.trans sD)).same sE) True.intro (e_if ((t_test (e_eq (e_var rfl hu3) e_str rfl rfl rfl)).cast (eq_strs _ _)) (fun e => ?_) (fun e => ?_)) ?_ fun HF gF hO13F => ?_
          · have e := of_decide_eq_true e
            exact (e_ixN (j := if tak cd = true then 1 else 0) (l_lst (a_cons e_str (a_cons e_str a_nil)) (sz (by show 2 ≤ 100000; decide))) ((e_int1 (e_var rfl (hu2.same sE))).cast (by cases tak cd <;> rfl)) (o01 _)).cast (by rw [m1 e])
          · have e := of_decide_eq_false e
            refine (e_addS (e_var rfl hu3) (e_mulS e_str (e_int1 (e_var rfl (hu2.same sE)))) ?_).cast ?_
            · cases tak cd
              · exact sz (by show _ + 0 ≤ 100000; omega)
              · exact sz (by show _ + 2 ≤ 100000; omega)
            · have := m2 e
              show Dt.str (nt (swN k (src cd)) ++ (if tak cd = true then ("+x" : Str) else Str.empty)) = Dt.str (tt (swC k cd))
              rw [← this]
              cases tak cd <;> rfl
          · rw [List.length_map, List.length_map, List.length_take]
            exact Nat.lt_of_lt_of_le (show _ < 100000 by omega) (by decide)
          · refine ⟨((gB'.same (sBC.trans sD)).same sE).trans gF, ⟨_, _, _, _, rfl⟩, ?_⟩
            rw [List.take_add_one, hcj, List.map_append, List.map_append]
            exact hO13F
        · obtain ⟨⟨y14'', y15'', y16'', y17'', rfl⟩, hO13B⟩ := pv3
          rw [List.length_map, List.take_length] at hO13B
          have s9B : Same H9 HB := Go.dropS (sA.trans gB3.to0) n13 gB'
          refine q_app (m := m0) (d := rowD (renT k t)) not0 rfl (hO129.same s9B) True.intro ((e_tupL (L.toE (l_sortS (xs := (t.map (swC k)).map tt) rfl (by rw [List.map_map]; exact hO13B.li) ?_) (sortR_codes ?_ ?_))).cast ?_) ?_ fun HC gC hO12C => ?_
          · rw [List.length_map, List.length_map]
            omega
          · intro c hc
            obtain ⟨c', hc', rfl⟩ := List.mem_map.mp hc
            exact (swC_facts k hk5 c' (ht14 c' hc')).2.1
          · exact swC_nodup hk5 ht14 (hta.imp fun z => Nat.ne_of_lt z)
          · rw [renT_sort hk5 ht14]
            rfl
          · rw [List.length_map, List.length_map, List.length_take]
            exact Nat.lt_of_lt_of_le (show _ < 100000 by omega) (by decide)
          · refine ⟨((g8.same s89).same s9B).trans gC, ⟨_, _, _, _, _, _, rfl⟩, ?_⟩
            rw [renR_snoc hj, hgd, List.map_append]
            exact hO12C
      · obtain ⟨⟨y8', y13', y14', y15', y16', y17', rfl⟩, hO128⟩ := pv2
        have s68 : Same H6 H8 := Go.dropS (s7.trans gB2.to0) n12 g8
        have elen : ((List.range s.start.length).map fun (i : Nat) => Dt.int ((swR k i : Nat) : Int)).length = (List.range s.start.length).length := List.length_map ..
        rw [elen, List.take_length] at hO128
        refine q_app (m := m0) (d := ruleD (renR s.start.length k r)) not0 rfl (hO106.same s68) True.intro (e_tupS rfl hO128.li) ?_ fun HC gC hO10C => ?_
        · rw [List.length_map, List.length_map, List.length_take]
          exact Nat.lt_of_lt_of_le (show _ < 100000 by omega) (by decide)
        · refine ⟨((g5.same s56).same s68).trans gC, ⟨_, _, _, _, _, _, _, _, rfl⟩, ?_, ?_⟩
          · exact (hO96.same s68).go gC fun z => z.elim (fun y => y) h910
          · rw [List.take_add_one, hr, List.map_append, List.map_append]
            exact hO10C
    · obtain ⟨⟨y8, y11, y12, y13, y14, y15, y16, y17, rfl⟩, hO95, hO105⟩ := pv
      rw [List.length_map, List.take_length] at hO105
      have s5 : Same H3 H5 := Go.dropS (s4.trans gB.to0) n10 g5
      have he6 : ∀ e ∈ s.ends, e < 6 := fun e he => by have := hv.ends.2.2 e he; omega
      have hel : s.ends.length ≤ 6 := pw_len hv.ends.2.1 he6
      refine k_set (d := endsD ((List.range s.start.length).filter fun e => decide (swR k e ∈ s.ends))) ((e_tupL (L.toE (l_sortL (xs := ((s.ends.map (swR k)).map fun e => 2 * e + 1).map tt) ((l_map (f := fun d => match d with | .str x => .str (swT x (rt k) (rt (k + 1))) | _ => .non) (i_tup (e_var rfl (z5.same ((s2.trans s3).trans s5)))) (by rw [List.length_map]; exact sz (by omega)) fun i d x H6 hd g6 hx => ?_).cast ?_) ?_) (sortR_codes ?_ (ends_nodup (n := s.start.length) hv.ends.2.1)))).cast ?_) fun v18 H6 s6 h18 => ?_
      · rw [List.getElem?_map] at hd
        cases hh : s.ends[i]? with
        | none => rw [hh] at hd; cases hd
        | some e =>
          rw [hh] at hd
          cases hd
          have h7E := (h7'.same s5).go g6
          exact e_call (d := .str (swT (rt e) (rt k) (rt (k + 1)))) (a_cons (e_var rfl hx) (a_cons (e_ixT (e_var rfl h7E) e_int rfl) (a_cons (e_ixT (e_var rfl h7E) e_int rfl) a_nil))) fun Hx gx => ⟨_, _, _, rfl, rfl⟩
      · rw [List.map_map, List.map_map, List.map_map, List.map_map]
        refine List.map_congr_left fun e he => ?_
        show Dt.str (swT (rt e) (rt k) (rt (k + 1))) = Dt.str (tt (2 * swR k e + 1))
        obtain ⟨a1, a2⟩ := sw_reg k hk5 e (he6 e he)
        rw [a1, rt_tt _ a2]
      · rw [List.length_map, List.length_map, List.length_map]
        omega
      · intro c hc
        obtain ⟨e', he', rfl⟩ := List.mem_map.mp hc
        obtain ⟨e, he, rfl⟩ := List.mem_map.mp he'
        have := (sw_reg k hk5 e (he6 e he)).2
        omega
      · rw [ends_sort hk h6 hv.ends.2.2]
        unfold endsD
        congr 1
        rw [List.map_map]
        refine List.map_congr_left fun e he => ?_
        have := List.mem_range.mp (List.mem_filter.mp he).1
        show Dt.str (tt (2 * e + 1)) = Dt.str (rt e)
        rw [rt_tt e (by omega)]
      have s36 := s5.trans s6
      have s16 := (s2.trans s3).trans (s5.trans s6)
      refine q_ret (d := plainD (ren k s)) ((e_tup (a_cons (e_var rfl (z1.same s16)) (a_cons (e_var rfl (z2.same s16)) (a_cons (e_tupL (l_map (f := fun d => match d with | .int i => bD (s.start.getD i.toNat false) | _ => .non) (i_listS rfl (hO95.same s6).li fun z => z) (by rw [List.length_map, List.length_range]; exact sz (by omega)) fun i d x H7 hd g7 hx => ?_)) (a_cons (e_tupS rfl (hO105.same s6).li) (a_cons (e_var rfl h18) a_nil))))) (sz (by show 5 ≤ 100000; decide))).cast ?_) fun v H7 s7 hv' => q v H7 (((s13.trans s5).trans s6).trans s7) hv'
      · rw [List.getElem?_map] at hd
        cases hh : (List.range s.start.length)[i]? with
        | none => rw [hh] at hd; cases hd
        | some j =>
          rw [hh] at hd
          cases hd
          have hj : j < s.start.length := List.mem_range.mp (List.mem_of_getElem? hh)
          have hs := swR_lt hk hj
          refine e_ixT (e_var rfl ((z3.same s16).go g7)) (e_var rfl hx) (atD ?_)
          rw [List.getElem?_map, List.getElem?_eq_getElem hs]
          show some _ = some (bD (s.start.getD (swR k j) false))
          rw [List.getD_eq_getElem?_getD, List.getElem?_eq_getElem hs]
          rfl
      · have ea : (((List.range s.start.length).map fun (i : Nat) => Dt.int ((swR k i : Nat) : Int)).map fun d => match d with | .int i => bD (s.start.getD i.toNat false) | _ => .non) = ((List.range s.start.length).map fun j => s.start.getD (swR k j) false).map fun b => if b = true then Dt.int 0 else .non := by
          rw [List.map_map, List.map_map]
          rfl
        rw [ea]
        rfl
end
end TPk
end F18_text

section F19_text
set_option Elab.async false
set_option linter.all false
set_option maxRecDepth 100000
set_option maxHeartbeats 4000000
/-! Walks: a rule bent, the mate drawn. -/
namespace TPk
open PySem PySem.Spec PyProof.Rows L2
theorem sc_l_bent_rule : FnScope ["_law_pool_here", "_law_plain_here", "_law_side", "_law_named_here", "_law_begun", "_law_body", "_law_ends", "_law_at", "_law_k", "_law_every", "_law_term", "_law_old", "_law_new", "_law_rule_here", "_law_word"] ["_law_pool_here", "_law_plain_here"] (defScope s_l_bent_rule) := ⟨rfl, rfl, rfl, by decide +kernel, rfl, by decide +kernel, by decide +kernel⟩
theorem sc_l_varied : FnScope ["_law_pool_here", "_law_plain_here", "_law_side", "_law_named_here", "_law_begun", "_law_body", "_law_ends", "_law_way", "_law_k", "_law_new", "_law_other_plain", "_law_bent", "_law_at"] ["_law_pool_here", "_law_plain_here"] (defScope s_l_varied) := ⟨rfl, rfl, rfl, by decide +kernel, rfl, by decide +kernel, by decide +kernel⟩
theorem swC_codes : ∀ n, n ≤ 6 → ∀ k, k + 1 < n → ∀ c ∈ codes n, swC k c ∈ codes n := by
  have h : ∀ n, n < 7 → ∀ k, k < 6 → k + 1 < n → ∀ c ∈ codes n, swC k c ∈ codes n := by decide +kernel
  exact fun n hn k hk => h n (by omega) k (by omega) hk
theorem ren_SV {s : Stt Str} {k : Nat} (hv : SV s) (hk : k + 1 < s.start.length) : SV (ren k s) ∧ (ren k s).start.length = s.start.length := by
  have h6 := hv.start.2
  have hl : (ren k s).start.length = s.start.length := by
    show ((List.range s.start.length).map _).length = _
    rw [List.length_map, List.length_range]
  refine ⟨⟨hv.kinds, by rw [hl]; exact hv.start, ⟨?_, ?_⟩, ?_⟩, hl⟩
  · show (s.rules.map _).length = _
    rw [List.length_map]
    exact hv.rules.1
  · intro r' hr'
    rw [hl]
    obtain ⟨r, hr, rfl⟩ := List.mem_map.mp hr'
    obtain ⟨h1, h2⟩ := hv.rules.2 r hr
    refine ⟨by unfold renR; rw [List.length_map, List.length_range], fun t' ht' => ?_⟩
    obtain ⟨j, hj, rfl⟩ := List.mem_map.mp ht'
    have hj := List.mem_range.mp hj
    have hsw : swR k j < r.length := by rw [h1]; exact swR_lt hk hj
    have hg : r.getD (swR k j) [] ∈ r := by
      rw [List.getD_eq_getElem?_getD, List.getElem?_eq_getElem hsw]
      exact List.getElem_mem hsw
    obtain ⟨a1, a2⟩ := h2 _ hg
    refine ⟨asc_range_filter _ 14, fun c hc => ?_⟩
    obtain ⟨c1, c2⟩ := mem_renT.mp hc
    have := swC_codes _ h6 k hk _ (a2 _ c2)
    rwa [(swC_facts k (by omega) c c1).1] at this
  · rw [hl]
    obtain ⟨e1, e2, e3⟩ := hv.ends
    refine ⟨fun z => ?_, asc_range_filter _ _, fun e he => List.mem_range.mp (List.mem_filter.mp he).1⟩
    cases he : s.ends with
    | nil => exact e1 he
    | cons e es =>
      have hm : e ∈ s.ends := by rw [he]; simp
      have : swR k e ∈ (ren k s).ends := List.mem_filter.mpr ⟨List.mem_range.mpr (swR_lt hk (e3 e hm)), decide_eq_true (by rw [swR_swR]; exact hm)⟩
      rw [z] at this
      cases this
theorem rowSf (c : Nat) : (tD c).sf = true := by
  have h : ∀ c, c < 14 → PyData.strOk (tt c) = true := by decide +kernel
  by_cases hc : c < 14
  · exact h c hc
  · have e : tt c = "" := by
      unfold tt
      rw [List.getD_eq_getElem?_getD, List.getElem?_eq_none (show TT.length ≤ c by show 14 ≤ c; omega)]
      rfl
    show PyData.strOk (tt c) = true
    rw [e]
    decide +kernel
section
variable {P : Program} {w : World} {K : PySem.W.Frag} {mg : Str → Option Value} {base : Heap} {m : Mo} {σ : L2.St} {H : Hp} {ta tb te : TE} {C C1 C2 : Dt → Prop}
theorem IsAll.mid {xs ys : List V} {ds es : List Dt} (h1 : IsAll K H ds xs) (h2 : IsAll K H es ys) : IsAll K H (ds ++ es) (xs ++ ys) := h1.append h2
theorem catA_raw {ds es : List Dt} {x y : V} {H1 : Hp} (hx : Is K H1 (.tup ds) x) (hy : Is K H1 (.tup es) y) (hz : ds.length + es.length ≤ sizeLine) (j : m.J H1) {Q : VK} (q : ∀ v H2, Go m H1 H2 → Is K H2 (.tup (ds ++ es)) v → Q v H2) : rCatA K x y H1 Q := by
  obtain ⟨a, xs, rfl, ha, ia⟩ := hx.inv
  obtain ⟨b, ys, rfl, hb, ib⟩ := hy.inv
  refine ⟨a, b, xs, ys, rfl, rfl, ha, hb, by rw [← ia.length, ← ib.length]; exact hz, fun e => ?_, fun _ e => ?_, fun _ _ p hp => q _ _ (Go.new' j hp) (is_new hp (ia.append ib))⟩
  · subst e
    cases ia
    exact q _ H1 (.refl j) hy
  · subst e
    cases ib
    refine q _ H1 (.refl j) ?_
    rw [List.append_nil]
    exact hx
theorem e_catA {ds es : List Dt} (ha : TPk.E K m ta σ H (.tup ds)) (hb : TPk.E K m tb σ H (.tup es)) (hz : ds.length + es.length ≤ sizeLine) : TPk.E K m (tOp (rCatA K) ta tb) σ H (.tup (ds ++ es)) := fun H1 g Q q =>
  ha.go g fun x H2 g2 hx => hb.go (g.trans g2) fun y H3 g3 hy => catA_raw (hx.go g3) hy hz ((g.trans g2).trans g3).2 fun v H4 g4 hv => q v _ H4 ((g2.trans g3).trans g4) hv rfl
theorem g_catA {CA CB : List Dt → Prop} (ha : G K m ta σ H fun d => ∃ ds, d = .tup ds ∧ CA ds) (hb : G K m tb σ H fun d => ∃ es, d = .tup es ∧ CB es) (hz : ∀ ds es, CA ds → CB es → ds.length + es.length ≤ sizeLine) :
    G K m (tOp (rCatA K) ta tb) σ H fun d => ∃ ds es, d = .tup (ds ++ es) ∧ CA ds ∧ CB es := g_op ha hb fun d e ⟨ds, e1, c1⟩ ⟨es, e2, c2⟩ H1 x y g hx hy Q q => by
  subst e1
  subst e2
  exact catA_raw hx hy (hz ds es c1 c2) g.2 fun v H2 g2 hv => q v _ H2 g2 hv ⟨ds, es, rfl, c1, c2⟩
theorem g_of {d : Dt} (h : TPk.E K m te σ H d) (hc : C d) : G K m te σ H C := G.imp h fun x e => by subst e; exact hc
theorem cutD_from {ds : List Dt} {n : Nat} (h : n ≤ ds.length) : cutD ds (some (n : Int)) none = ds.drop n := by
  unfold cutD
  rw [HT.sIx_none, HT.sIx_nat, Nat.min_eq_left h]
  exact List.take_of_length_le (by rw [List.length_drop]; omega)
theorem set_cut {α : Type} {f : α → Dt} {xs : List α} {k : Nat} (h : k < xs.length) (x : α) : cutD (xs.map f) none (some (k : Int)) ++ [f x] ++ cutD (xs.map f) (some ((k + 1 : Nat) : Int)) none = (xs.set k x).map f := by
  rw [cutD_to (by rw [List.length_map]; omega), cutD_from (by rw [List.length_map]; omega), ← List.map_take, ← List.map_drop, List.set_eq_take_append_cons_drop, if_pos h, List.map_append, List.append_assoc]
  rfl
/-! ### statements -/
theorem nrm {u : TS} {D : Ends} {σ' : L2.St} (e : σ = σ') (h : u D σ' H) : u D σ H := e ▸ h
theorem n_par3 {i k l0 : Nat} {t1 t2 t3 : TE} {D : Ends} {ds : List Dt} {u : TS} (j : m.J H) (h1 : G K m t1 σ H C1) (h2 : G K m t2 σ H C2) (h3 : LE K m t3 σ H ds)
    (q : ∀ v u1 l d e H1, Go m H H1 → Is K H1 d v → Is K H1 e u1 → Li K m H1 l ds → C1 d → C2 e → u D (((σ.set i (some v)).set k (some u1)).set l0 (some (.ref l))) H1) :
    tSeq (tPar3 i k l0 (tCons t1 (tCons t2 (tCons t3 tNil)))) u D σ H :=
  h1 H (.refl j) _ fun v d H1 g1 hv c1 => h2 H1 g1 _ fun u1 e H2 g2 hu c2 => LE.go h3 (g1.trans g2) fun l H3 _ g3 hl => ⟨v, u1, .ref l, rfl, q v u1 l d e H3 ((g1.trans g2).trans g3) ((hv.go g2).go g3) (hu.go g3) hl c1 c2⟩
theorem n_asg2G {i k : Nat} {D : Ends} {u : TS} (j : m.J H) (h : G K m te σ H fun d => ∃ a b, d = .tup [a, b] ∧ C1 a ∧ C2 b) (q : ∀ v u1 a b H1, Go m H H1 → Is K H1 a v → Is K H1 b u1 → C1 a → C2 b → u D ((σ.set i (some v)).set k (some u1)) H1) :
    tSeq (tAsg te (gTup K 2 (gCons (gName i) (gCons (gName k) gNil)))) u D σ H :=
  h H (.refl j) _ fun x d H1 g hx ⟨a, b, e, c1, c2⟩ => by
    subst e
    exact g_two hx fun v u1 hv hu => q v u1 a b H1 g hv hu c1 c2
theorem g_ixS {i : Nat} {l : Addr} {ds : List Dt} (hb : σ[i]? = some (some (.ref l))) (hl : Li K m H l ds) (ht : G K m tb σ H fun d => ∃ j : Nat, d = .int (j : Int) ∧ j < ds.length) : G K m (tOp (rIxL K) (tVar i) tb) σ H fun d => d ∈ ds := fun H1 g Q q => ⟨_, hb, ht H1 g _ fun y e H3 g3 hy ⟨j, ej, hj⟩ => by
  subst ej
  obtain ⟨xs, hq, hi⟩ := (hl.go (g.trans g3)).sq
  have hd : ds[j]? = some ds[j] := List.getElem?_eq_getElem hj
  obtain ⟨v, hv, hdv⟩ := hi.get hd
  exact ⟨l, xs, j, v, rfl, hy.int_inv, hq, atI_nat hv, q v _ H3 g3 hdv (List.getElem_mem hj)⟩⟩
theorem set_self {i : Nat} {v : V} (h : σ[i]? = some (some v)) : σ.set i (some v) = σ := by
  apply List.ext_getElem?
  intro k
  rw [List.getElem?_set]
  split
  · rename_i e
    subst e
    split
    · exact h.symm
    · rename_i hl
      rw [List.getElem?_eq_none (by omega)] at h
      cases h
  · rfl
theorem n_iteSet {i : Nat} {tt : L2.TT} {D : Ends} {u : TS} {Cb : Bool → Prop} {v0 : V} {d0 : Dt} (j : m.J H) (h : T m tt σ H Cb) (h1 : Cb true → G K m te σ H C) (hb : σ[i]? = some (some v0)) (hv : Is K H d0 v0) (h0 : Cb false → C d0)
    (q : ∀ v d H1, Go m H H1 → Is K H1 d v → C d → u D (σ.set i (some v)) H1) : tSeq (tIfS tt (tAsg te (gName i)) tNext) u D σ H := h H (.refl j) _ fun b H1 g1 hc => by
  cases b with
  | true => exact iteT (h1 hc H1 g1 _ fun v d H2 g2 hv hd => q v d H2 (g1.trans g2) hv hd)
  | false =>
    have := q v0 d0 H1 g1 (hv.go g1) (h0 hc)
    rw [set_self hb] at this
    exact iteF this
theorem t_and2 {a : Bool} {tt tu : L2.TT} {Cb : Bool → Prop} (h1 : TE' m tt σ H a) (h2 : a = true → T m tu σ H fun _ => True) (ht : a = true → Cb true) (hf : Cb false) : T m (tAnd tt tu) σ H Cb := fun H1 g Q q => h1.go g fun H2 g2 => by
  cases a with
  | true => exact h2 rfl H2 (g.trans g2) _ fun b H3 g3 _ => q b H3 (g2.trans g3) (by cases b; exact hf; exact ht rfl)
  | false => exact q false H2 g2 hf
theorem t_eqD {j : Int} (ha : G K m ta σ H fun d => ∃ i : Int, d = .int i) : T m (tTest (tOp rEq ta (tC (.int j)))) σ H fun _ => True := t_testG (g_op (C := fun d => ∃ b, d = .bl b ∧ True) ha e_int fun d e ⟨i, ed⟩ ee H4 x y g4 hx hy Q qq => by
  subst ed
  subst ee
  rw [hx.int_inv, hy.int_inv]
  exact ⟨rfl, qq _ (.bl _) H4 g4.again (.bl _) ⟨_, rfl, trivial⟩⟩)
theorem g_drawN {i p : Nat} {k : Nat} {Er : XK} (hb : σ[i]? = some (some (.ref p))) (h : TPk.E K (mp p) te σ H (.int (k : Int))) (h0 : 0 < k) (h1 : k ≤ 1000) : G K (mp p) (tCall (spDraw K) [] Er (tCons (tVar i) (tCons te tNil))) σ H fun d => ∃ j : Nat, d = .int (j : Int) ∧ j < k :=
  G.imp (g_draw hb h (by omega) (by unfold many; omega)) fun d ⟨j, e, hj⟩ => ⟨j, e, by omega⟩
def R_bent : List Dt → (Dt → Prop) → Prop := fun ds C => ∃ s, ds = [plainD s] ∧ SV s ∧ ∀ s', SV s' → s'.side = s.side → s'.kinds = s.kinds → C (plainD s')
theorem asc_ins {n : Nat} {t : List Nat} {c : Nat} (ht : RowOk n t) (hn : n ≤ 6) (hc : c ∈ codes n) : RowOk n (sortC (t ++ [c])) := ⟨sortC_asc _, fun x hx => by
  have h2 := (mem_sortC.mp hx).2
  rcases List.mem_append.mp h2 with h | h
  · exact ht.inc x h
  · rw [List.mem_singleton.mp h]; exact hc⟩
theorem c_l_bent_rule (T : Fx K mg) : C8.Cal P w K mg base 2 "_law_bent_rule" (Pp K R_bent) [] := by
  have c_l_draw := c_l_draw (P := P) (w := w) (base := base) T
  have c_l_terms := c_l_terms (P := P) (w := w) (base := base) T
  obtain ⟨fd, F⟩ := T.D.def_ 49
  refine ⟨_, fd, ["_law_pool_here", "_law_plain_here"], [], ok0 F sc_l_bent_rule (fun vs H Q Er h => ?_) (fun cdv Ar outer sh H vs Q Er hr h => ?_), T.m_law_bent_rule, F.kp, F.bindsN (fun kV doc pm an cdv ct us hl => match us, hl with | [_, _], _ => rfl), .nil⟩
  · obtain ⟨p, us, ds, C, rfl, _, hI, ⟨_, rfl, _⟩, q⟩ := h
    exact congrArg Nat.succ hI.length.symm
  · obtain ⟨p, us, ds, C, rfl, hp, hI, ⟨s, rfl, hv, hC⟩, q⟩ := h
    obtain ⟨v1, rfl, h1⟩ := hI.inv1
    have h6 := hv.start.2
    have hkl := hv.kinds.2.1
    have hrr := hv.rules.1
    refine ⟨_, (pss_cons (ps_asg (pv 1) (pg_tup rfl (pgs_cons (pg_name (i := 2) sc_l_bent_rule.nd rfl (Or.inl rfl)) (pgs_cons (pg_name (i := 3) sc_l_bent_rule.nd rfl (Or.inl rfl)) (pgs_cons (pg_name (i := 4) sc_l_bent_rule.nd rfl (Or.inl rfl)) (pgs_cons (pg_name (i := 5) sc_l_bent_rule.nd rfl (Or.inl rfl)) (pgs_cons (pg_name (i := 6) sc_l_bent_rule.nd rfl (Or.inl rfl)) pgs_nil)))))))
    (pss_cons (ps_par3 (i := 7) (j := 8) (l := 9) rfl sc_l_bent_rule.nd rfl rfl rfl (by decide) (by decide) (by decide) rfl rfl rfl (pa_cons (C8.pe_c c_l_draw hr (by decide) rfl (pa_cons (pv 0) (pa_cons (pe_callB call_len_seq rfl T.f_len PySem.boot_len (pa_cons (pv 5) pa_nil)) pa_nil))) (pa_cons (C8.pe_c c_l_draw hr (by decide) rfl (pa_cons (pv 0) (pa_cons (pe_callB call_len_seq rfl T.f_len PySem.boot_len (pa_cons (pv 4) pa_nil)) pa_nil))) (pa_cons (C8.pe_c c_l_terms hr (by decide) rfl (pa_cons (pe_callB call_len_seq rfl T.f_len PySem.boot_len (pa_cons (pv 4) pa_nil)) pa_nil)) pa_nil))) (by rfl))
    (pss_cons (ps_asg (pe_tup (pa_cons (pe_ix ix_list (pv 9) (C8.pe_c c_l_draw hr (by decide) rfl (pa_cons (pv 0) (pa_cons (pe_callB call_len_seq rfl T.f_len PySem.boot_len (pa_cons (pv 9) pa_nil)) pa_nil))) (fun _ _ => rfl)) (pa_cons (pe_ix ix_tup (pe_ix ix_tup (pv 5) (pv 7) (fun _ _ => rfl)) (pv 8) (fun _ _ => rfl)) pa_nil))) (pg_tup rfl (pgs_cons (pg_name (i := 10) sc_l_bent_rule.nd rfl (Or.inr rfl)) (pgs_cons (pg_name (i := 11) sc_l_bent_rule.nd rfl (Or.inl rfl)) pgs_nil))))
    (pss_cons (ps_if (PW.pt (pw_and (pt_cmpR (op_neD hr.units) (pv 11) (pe_tup pa_nil) (nomark _)) (pw_and1 (pt_cmpR op_eq (C8.pe_c c_l_draw hr (by decide) rfl (pa_cons (pv 0) (pa_cons pe_int pa_nil))) pe_int (nomark _))))) (pss_one (ps_set (i := 10) sc_l_bent_rule.nd rfl (Or.inr rfl) (pe_ix ix_tup (pv 11) (C8.pe_c c_l_draw hr (by decide) rfl (pa_cons (pv 0) (pa_cons (pe_callB call_len_seq rfl T.f_len PySem.boot_len (pa_cons (pv 11) pa_nil)) pa_nil))) (fun _ _ => rfl)))) pss_nil)
    (pss_cons (ps_set (i := 12) sc_l_bent_rule.nd rfl (Or.inl rfl) (pe_callTy call_tuple_of rfl T.f_tuple (by decide +kernel) (pa_cons (pe_callB cr_sortedT rfl T.f_sorted (by decide +kernel) (pa_cons (pe_op op_catA (pv 11) (pe_tup (pa_cons (pv 10) pa_nil))) pa_nil)) pa_nil)))
    (pss_cons (ps_if (pt_cmpR op_in_seq (pv 10) (pv 11) rfl) (pss_one (ps_set (i := 12) sc_l_bent_rule.nd rfl (Or.inl rfl) (pe_callTy call_tuple_of rfl T.f_tuple (by decide +kernel) (pa_cons (pe_lcF (own := [("_law_word", 14)]) rfl sc_l_bent_rule.nd (pi_tup (pv 11)) (blkOk_by (by kernel_rfl)) (fun _ _ _ _ _ => (pg_name (i := 14) sc_l_bent_rule.nd rfl (by first | exact Or.inl rfl | exact Or.inr rfl))) (fun _ _ _ _ _ => (pts_one (pt_cmpR op_ne (pv 14) (pv 10) (nomark _)))) (fun _ _ _ _ _ => (pv 14))) pa_nil)))) pss_nil)
    (pss_cons (ps_set (i := 13) sc_l_bent_rule.nd rfl (Or.inl rfl) (pe_op op_catA (pe_op op_catA (pe_slice sl_tupA (pe_ix ix_tup (pv 5) (pv 7) (fun _ _ => rfl)) po_none (po_some (pv 8))) (pe_tup (pa_cons (pv 12) pa_nil))) (pe_slice sl_tupA (pe_ix ix_tup (pv 5) (pv 7) (fun _ _ => rfl)) (po_some (pe_op op_add (pv 8) pe_int)) po_none)))
    (pss_one (ps_ret (pe_tup (pa_cons (pv 2) (pa_cons (pv 3) (pa_cons (pv 4) (pa_cons (pe_op op_catA (pe_op op_catA (pe_slice sl_tupA (pv 5) po_none (po_some (pv 7))) (pe_tup (pa_cons (pv 13) pa_nil))) (pe_slice sl_tupA (pv 5) (po_some (pe_op op_add (pv 7) pe_int)) po_none)) (pa_cons (pv 6) pa_nil))))))))))))))), ?_⟩
    refine n_asg5 (m := mp p) hp (e_var rfl h1) fun w1 w2 w3 w4 w5 H1 g1 z1 z2 z3 z4 z5 => ?_
    refine nrm (σ' := [some (.ref p), some v1, some w1, some w2, some w3, some w4, some w5, none, none, none, none, none, none, none, none]) rfl ?_
    refine n_par3 g1.2 (g_drawN (k := (s.rules.map ruleD).length) rfl (e_lenT (e_var rfl z4)) (by rw [List.length_map, hv.rules.1]; exact hv.kinds.1) (by rw [List.length_map, hv.rules.1]; omega)) (g_drawN (k := (s.start.map fun b => if b = true then Dt.int 0 else .non).length) rfl (e_lenT (e_var rfl z3)) (by rw [List.length_map]; exact hv.start.1) (by rw [List.length_map]; omega)) (l_call (a_cons (e_lenT (e_var rfl z3)) a_nil) fun Hx gx => ⟨s.start.length, by rw [List.length_map], h6, rfl⟩) fun v7 v8 l9 d7 d8 H2 g2 y7 y8 hL9 ⟨a, e7, ha⟩ ⟨k, e8, hk⟩ => ?_
    subst e7
    subst e8
    rw [List.length_map] at ha hk
    obtain ⟨r, hr⟩ : ∃ r, s.rules[a]? = some r := ⟨_, List.getElem?_eq_getElem ha⟩
    obtain ⟨hrl, hrt⟩ := hv.rules.2 r (List.mem_of_getElem? hr)
    obtain ⟨t, ht⟩ : ∃ t, r[k]? = some t := ⟨_, List.getElem?_eq_getElem (by rw [hrl]; exact hk)⟩
    have htok := hrt t (List.mem_of_getElem? ht)
    have ht14 : ∀ c ∈ t, c < 14 := fun c hc => codes_lt (htok.inc c hc) h6
    have htl : t.length ≤ 14 := pw_len htok.asc ht14
    have hlen9 : ((codes s.start.length).map fun c => Dt.str (tt c)).length = 2 * s.start.length + 2 := by unfold codes; simp
    refine nrm (σ' := [some (.ref p), some v1, some w1, some w2, some w3, some w4, some w5, some v7, some v8, some (.ref l9), none, none, none, none, none]) rfl ?_
    have e_rule : ∀ {i7 i5 : Nat} {σ' : L2.St} {H' : Hp} (g : Go (mp p) H2 H') (b5 : σ'[i5]? = some (some w4)) (b7 : σ'[i7]? = some (some v7)), TPk.E K (mp p) (tOp (rIxT K) (tVar i5) (tVar i7)) σ' H' (ruleD r) := fun g b5 b7 => e_ixT (e_var b5 ((z4.go g2).go g)) (e_var b7 (y7.go g)) (atD (by rw [List.getElem?_map, hr]; rfl))
    refine n_asg2G (C1 := fun d => ∃ c, d = tD c ∧ c ∈ codes s.start.length) (C2 := fun d => d = rowD t) g2.2 (g_tup2 (G.imp (g_ixS rfl hL9 (g_drawN (k := ((codes s.start.length).map fun c => Dt.str (tt c)).length) rfl (e_lenL rfl hL9) (by rw [hlen9]; omega) (by rw [hlen9]; omega))) fun d hd => ?_) (e_ixT (e_rule g2.again rfl rfl) (e_var rfl y8) (atD (by rw [List.getElem?_map, ht]; rfl)))) fun v10 v11 d10 d11 H3 g3 y10 y11 ⟨c0, e10, hc0⟩ e11 => ?_
    · obtain ⟨c, hc, rfl⟩ := List.mem_map.mp hd
      exact ⟨c, rfl, hc⟩
    subst e10
    subst e11
    have hsf : (t.map fun c => Dt.str (tt c)).all Dt.sf = true := by
      rw [List.all_map]
      exact List.all_eq_true.mpr fun c hc => rowSf c
    refine nrm (σ' := [some (.ref p), some v1, some w1, some w2, some w3, some w4, some w5, some v7, some v8, some (.ref l9), some v10, some v11, none, none, none]) rfl ?_
    refine n_iteSet (C := fun d => ∃ c, d = tD c ∧ c ∈ codes s.start.length) (Cb := fun b => b = true → t ≠ []) g3.2 (t_and2 (t_test (e_notNilT (e_var rfl y11) hsf)) (fun _ => t_eqD (G.imp (g_drawN (k := 2) rfl e_int (by decide) (by decide)) fun d ⟨j, e, _⟩ => ⟨_, e⟩)) (fun e _ => ?_) (fun z => nomatch z)) (fun hne => ?_) rfl y10 (fun _ => ⟨c0, rfl, hc0⟩) fun v10' d10' H4 g4 y10' ⟨c, e10', hc⟩ => ?_
    · intro z
      rw [z] at e
      cases e
    · have hpos : 0 < t.length := List.length_pos_iff.mpr (hne rfl)
      refine G.imp (g_ixT (ds := t.map fun c => Dt.str (tt c)) (e_var rfl y11) (g_drawN (k := (t.map fun c => Dt.str (tt c)).length) rfl (e_lenT (e_var rfl y11)) (by rw [List.length_map]; exact hpos) (by rw [List.length_map]; omega))) fun d hd => ?_
      obtain ⟨c, hc, rfl⟩ := List.mem_map.mp hd
      exact ⟨c, rfl, htok.inc c hc⟩
    subst e10'
    refine nrm (σ' := [some (.ref p), some v1, some w1, some w2, some w3, some w4, some w5, some v7, some v8, some (.ref l9), some v10', some v11, none, none, none]) rfl ?_
    have y11' := y11.go g4
    have e11t : rowD t = .tup ((t.map tt).map Dt.str) := by
      unfold rowD
      rw [List.map_map]
      rfl
    have y11s : Is K H4 (.tup ((t.map tt).map Dt.str)) v11 := by rw [← e11t]; exact y11'
    refine n_setG g4.2 (g_tupL (l_sortT (xs := t.map tt ++ [tt c]) (E.cast (e_catA (e_var (i := 11) rfl y11s) (e_tup (a_cons (e_var rfl y10') a_nil) (sz (by show 1 ≤ 100000; decide))) ?_) ?_) ?_)) fun v12 d12 H5 g5 y12 ⟨ds12, e12, ys, e12', hperm, hsort⟩ => ?_
    · rw [List.length_map, List.length_map]
      exact sz (by show t.length + 1 ≤ 100000; omega)
    · rw [List.map_append]
      rfl
    · rw [List.length_append, List.length_map]
      show t.length + 1 < 64
      omega
    subst e12
    subst e12'
    refine nrm (σ' := [some (.ref p), some v1, some w1, some w2, some w3, some w4, some w5, some v7, some v8, some (.ref l9), some v10', some v11, some v12, none, none]) rfl ?_
    have hfs : (t.map fun c => Dt.str (tt c)).all Dt.fl = true := by
      rw [List.all_map]
      exact List.all_eq_true.mpr fun c hc => rfl
    have hinv : inV (Dt.str (tt c)).fv ((t.map fun c => Dt.str (tt c)).map Dt.fv) = decide (tt c ∈ t.map tt) := by
      have e : (t.map fun c => Dt.str (tt c)) = (t.map tt).map Dt.str := by rw [List.map_map]; rfl
      rw [e]
      exact inV_str (tt c) (t.map tt)
    have httmem : tt c ∈ t.map tt ↔ c ∈ t := by
      constructor
      · intro h
        obtain ⟨c', hc', e⟩ := List.mem_map.mp h
        have e2 := congrArg (pos TT) e
        rw [tt_dec c' (ht14 c' hc'), tt_dec c (codes_lt hc h6)] at e2
        rw [← e2]
        exact hc'
      · exact fun h => List.mem_map.mpr ⟨c, h, rfl⟩
    refine n_iteSet (C := fun d => ∃ t', d = rowD t' ∧ RowOk s.start.length t') (Cb := fun b => b = decide (tt c ∈ t.map tt)) g5.2 ((t_test (e_in (neg := false) (e_var (d := tD c) rfl (y10'.go g5)) (e_var rfl (y11'.go g5)) rfl hfs)).cast (by show inV _ _ = _; exact hinv)) (fun _ => ?_) rfl y12 (fun hb => ?_) fun v12' d12' H6 g6 y12' ⟨t', e12, ht'⟩ => ?_
    · refine g_of (e_tupL (l_flt (f := id) (p := fun d => !decide (d.fv = (Dt.str (tt c)).fv)) (i_tup (e_var rfl (y11'.go g5))) (by rw [List.length_map]; exact sz (by omega)) (fun i d x Hx hd gx hx => ?_) (fun i d x Hx hd _ gx hx => e_var rfl hx))) ?_
      · obtain ⟨cc, _, rfl⟩ := List.mem_map.mp (List.mem_of_getElem? hd)
        exact t_test (e_ne (e_var rfl hx) (e_var rfl ((y10'.go g5).go gx)) rfl rfl rfl)
      · refine ⟨t.filter fun x => !decide ((Dt.str (tt x)).fv = (Dt.str (tt c)).fv), ?_, htok.asc.sublist List.filter_sublist, fun x hx => htok.inc x (List.mem_filter.mp hx).1⟩
        rw [List.map_id, List.filter_map]
        rfl
    · have hnc : ¬ c ∈ t := fun h => by
        have := of_decide_eq_false hb.symm
        exact this (httmem.mpr h)
      have e1 : t.map tt ++ [tt c] = (t ++ [c]).map tt := by rw [List.map_append]; rfl
      rw [e1] at hperm
      have hl14 : ∀ x ∈ t ++ [c], x < 14 := fun x hx => by
        rcases List.mem_append.mp hx with h | h
        · exact ht14 x h
        · rw [List.mem_singleton.mp h]; exact codes_lt hc h6
      have hnd : (t ++ [c]).Nodup := by
        rw [List.nodup_append]
        refine ⟨htok.asc.imp fun z => Nat.ne_of_lt z, by simp, fun x hx y hy => ?_⟩
        rw [List.mem_singleton.mp hy]
        intro e
        rw [e] at hx
        exact hnc hx
      have e2 := sorted_tt hperm hl14 hnd hsort
      exact ⟨sortC (t ++ [c]), by rw [e2, List.map_map]; rfl, asc_ins htok h6 hc⟩
    subst e12
    have g26 := (((g3.trans g4).trans g5).trans g6)
    refine nrm (σ' := [some (.ref p), some v1, some w1, some w2, some w3, some w4, some w5, some v7, some v8, some (.ref l9), some v10', some v11, some v12', none, none]) rfl ?_
    have hk' : k < r.length := by rw [hrl]; exact hk
    refine n_setG (C := fun d => d = ruleD (r.set k t')) g6.2 (E.cast (e_catA (ds := cutD (r.map rowD) none (some (k : Int)) ++ [rowD t']) (es := cutD (r.map rowD) (some ((k + 1 : Nat) : Int)) none) (e_catA (ds := cutD (r.map rowD) none (some (k : Int))) (es := [rowD t']) (e_slT (ds := r.map rowD) (e_rule g26 rfl rfl) o_none (o_some (i := (k : Int)) (e_var rfl (y8.go g26)))) (e_tup (a_cons (e_var rfl y12') a_nil) (sz (by show 1 ≤ 100000; decide))) ?_) (e_slT (ds := r.map rowD) (e_rule g26 rfl rfl) (o_some (i := ((k + 1 : Nat) : Int)) (E.cast (e_add (e_var rfl (y8.go g26)) e_int) (by rfl))) o_none) ?_) ?_) fun v13 d13 H7 g7 y13 e13 => ?_
    · rw [cutD_to (by rw [List.length_map]; omega), List.length_take, List.length_map]
      exact sz (by show min k r.length + 1 ≤ 100000; omega)
    · rw [cutD_to (by rw [List.length_map]; omega), cutD_from (by rw [List.length_map]; omega), List.length_append, List.length_take, List.length_drop, List.length_map]
      exact sz (by show min k r.length + 1 + (r.length - (k + 1)) ≤ 100000; omega)
    · rw [set_cut hk' t']
      rfl
    subst e13
    have g27 := g26.trans g7
    refine nrm (σ' := [some (.ref p), some v1, some w1, some w2, some w3, some w4, some w5, some v7, some v8, some (.ref l9), some v10', some v11, some v12', some v13, none]) rfl ?_
    have ga7 := g2.trans g27
    have z4' := z4.go ga7
    refine r_retG (C := fun d => d = plainD { s with rules := s.rules.set a (r.set k t') }) g7.2 (E.cast (e_tup (a_cons (e_var rfl (z1.go ga7)) (a_cons (e_var rfl (z2.go ga7)) (a_cons (e_var rfl (z3.go ga7)) (a_cons (e_catA (ds := cutD (s.rules.map ruleD) none (some (a : Int)) ++ [ruleD (r.set k t')]) (es := cutD (s.rules.map ruleD) (some ((a + 1 : Nat) : Int)) none) (e_catA (ds := cutD (s.rules.map ruleD) none (some (a : Int))) (es := [ruleD (r.set k t')]) (e_slT (ds := s.rules.map ruleD) (e_var rfl z4') o_none (o_some (i := (a : Int)) (e_var rfl (y7.go g27)))) (e_tup (a_cons (e_var rfl y13) a_nil) (sz (by show 1 ≤ 100000; decide))) ?_) (e_slT (ds := s.rules.map ruleD) (e_var rfl z4') (o_some (i := ((a + 1 : Nat) : Int)) (E.cast (e_add (e_var rfl (y7.go g27)) e_int) (by rfl))) o_none) ?_) (a_cons (e_var rfl (z5.go ga7)) a_nil))))) (sz (by show 5 ≤ 100000; decide))) ?_) fun v d H8 g8 hv8 ed => ?_
    · rw [cutD_to (by rw [List.length_map]; omega), List.length_take, List.length_map]
      exact sz (by show min a s.rules.length + 1 ≤ 100000; omega)
    · rw [cutD_to (by rw [List.length_map]; omega), cutD_from (by rw [List.length_map]; omega), List.length_append, List.length_take, List.length_drop, List.length_map]
      exact sz (by show min a s.rules.length + 1 + (s.rules.length - (a + 1)) ≤ 100000; omega)
    · rw [set_cut ha (r.set k t')]
      rfl
    · subst ed
      refine q v _ H8 ((g1.trans ga7).trans g8) hv8 (hC _ ⟨hv.kinds, hv.start, ⟨?_, ?_⟩, hv.ends⟩ rfl rfl)
      · show (s.rules.set a _).length = _
        rw [List.length_set]
        exact hv.rules.1
      · intro r' hr'
        rcases List.mem_or_eq_of_mem_set hr' with h | rfl
        · exact hv.rules.2 r' h
        · refine ⟨by rw [List.length_set]; exact hrl, fun t2 ht2 => ?_⟩
          rcases List.mem_or_eq_of_mem_set ht2 with h | rfl
          · exact hrt t2 h
          · exact ht'
end
end TPk
end F19_text

section F20_text
set_option Elab.async false
set_option linter.all false
set_option maxRecDepth 100000
set_option maxHeartbeats 1200000
/-! Walks: the mate drawn. -/
namespace TPk
open PySem PySem.Spec PyProof.Rows L2
section
variable {P : Program} {w : World} {K : PySem.W.Frag} {mg : Str → Option Value} {base : Heap} {m : Mo} {σ : L2.St} {H : Hp} {ta tb te : TE} {C C1 C2 : Dt → Prop}
theorem g_callU {R : Hp → List Dt → Dt → Prop} {t : TA} {Er : XK} {CA : List Dt → Prop} (h : GA K m t σ H CA) (hR : ∀ ds, CA ds → ∃ d, (∀ H1, R H1 ds d) ∧ C d) : G K m (tCall (Pu K R) [] Er t) σ H C := fun H1 g Q q =>
  h H1 g _ fun vs ds H2 g2 hs hc => by
    obtain ⟨d, hr, hd⟩ := hR ds hc
    exact ⟨ds, d, by rw [List.append_nil]; exact hs, hr H2, fun v H3 s hv => q v d H3 (g2.same s) hv hd⟩
theorem int_eqD (x y : Int) : decide ((Dt.int x).fv = (Dt.int y).fv) = decide (x = y) := by
  by_cases h : x = y
  · subst h; rw [decide_eq_true rfl, decide_eq_true rfl]
  · rw [decide_eq_false h, decide_eq_false fun e => h (by injection e)]
theorem t_eqI {i j : Int} (ha : TPk.E K m ta σ H (.int i)) (hb : TPk.E K m tb σ H (.int j)) : TE' m (tTest (tOp rEq ta tb)) σ H (decide (i = j)) := (t_test (e_eq ha hb rfl rfl rfl)).cast (int_eqD i j)
theorem t_any {tt : L2.TT} {b : Bool} (h : TE' m tt σ H b) : T m tt σ H fun _ => True := fun H1 g Q q => h.go g fun H2 g2 => q b H2 g2 trivial
def R_varied : List Dt → (Dt → Prop) → Prop := fun ds C => ∃ s, ds = [plainD s] ∧ SV s ∧ ∀ s', SV s' → s'.side = s.side → s'.kinds = s.kinds → C (plainD s')
theorem bits (b : Bool) : ([Dt.int 0, Dt.non] : List Dt)[(if b = true then 1 else 0 : Nat)]? = some (if (!b) = true then .int 0 else .non) := by cases b <;> rfl
theorem c_l_varied (T : Fx K mg) : C8.Cal P w K mg base 4 "_law_varied" (Pp K R_varied) [] := by
  have c_l_bent_rule := c_l_bent_rule (P := P) (w := w) (base := base) T
  have c_l_draw := c_l_draw (P := P) (w := w) (base := base) T
  have c_l_plain := c_l_plain (P := P) (w := w) (base := base) T
  have c_l_renamed := c_l_renamed (P := P) (w := w) (base := base) T
  obtain ⟨fd, F⟩ := T.D.def_ 50
  refine ⟨_, fd, ["_law_pool_here", "_law_plain_here"], [], ok0 F sc_l_varied (fun vs H Q Er h => ?_) (fun cdv Ar outer sh H vs Q Er hr h => ?_), T.m_law_varied, F.kp, F.bindsN (fun kV doc pm an cdv ct us hl => match us, hl with | [_, _], _ => rfl), .nil⟩
  · obtain ⟨p, us, ds, C, rfl, _, hI, ⟨_, rfl, _⟩, q⟩ := h
    exact congrArg Nat.succ hI.length.symm
  · obtain ⟨p, us, ds, C, rfl, hp, hI, ⟨s, rfl, hv, hC⟩, q⟩ := h
    obtain ⟨v1, rfl, h1⟩ := hI.inv1
    have h6 := hv.start.2
    have h61 := hv.start.1
    have hkl := hv.kinds.2.1
    have hkl1 := hv.kinds.1
    refine ⟨_, (pss_cons (ps_asg (pv 1) (pg_tup rfl (pgs_cons (pg_name (i := 2) sc_l_varied.nd rfl (Or.inl rfl)) (pgs_cons (pg_name (i := 3) sc_l_varied.nd rfl (Or.inl rfl)) (pgs_cons (pg_name (i := 4) sc_l_varied.nd rfl (Or.inl rfl)) (pgs_cons (pg_name (i := 5) sc_l_varied.nd rfl (Or.inl rfl)) (pgs_cons (pg_name (i := 6) sc_l_varied.nd rfl (Or.inr rfl)) pgs_nil)))))))
    (pss_cons (ps_asg (pe_tup (pa_cons (C8.pe_c c_l_draw hr (by decide) rfl (pa_cons (pv 0) (pa_cons pe_int pa_nil))) (pa_cons (C8.pe_c c_l_draw hr (by decide) rfl (pa_cons (pv 0) (pa_cons (pe_callB call_len_seq rfl T.f_len PySem.boot_len (pa_cons (pv 4) pa_nil)) pa_nil))) pa_nil))) (pg_tup rfl (pgs_cons (pg_name (i := 7) sc_l_varied.nd rfl (Or.inl rfl)) (pgs_cons (pg_name (i := 8) sc_l_varied.nd rfl (Or.inr rfl)) pgs_nil))))
    (pss_cons (ps_if (PW.pt (pw_and (pt_cmpR op_eq (pv 7) pe_int (nomark _)) (pw_and1 (pt_cmpR op_gt (pe_callB call_len_seq rfl T.f_len PySem.boot_len (pa_cons (pv 4) pa_nil)) pe_int (nomark _))))) (pss_one (ps_ret (C8.pe_c c_l_renamed hr (by decide) rfl (pa_cons (pv 1) (pa_cons (C8.pe_c c_l_draw hr (by decide) rfl (pa_cons (pv 0) (pa_cons (pe_op op_sub (pe_callB call_len_seq rfl T.f_len PySem.boot_len (pa_cons (pv 4) pa_nil)) pe_int) pa_nil))) pa_nil))))) pss_nil)
    (pss_cons (ps_if (pt_cmpR op_eq (pv 7) pe_int (nomark _)) (pss_cons (ps_set (i := 9) sc_l_varied.nd rfl (Or.inl rfl) (pe_op op_catA (pe_op op_catA (pe_slice sl_tupA (pv 4) po_none (po_some (pv 8))) (pe_tup (pa_cons (pe_ix ix_list (pe_lst (pa_cons pe_int (pa_cons pe_non pa_nil))) (pe_callTy call_int1 rfl T.f_int (by decide +kernel) (pa_cons (pe_cmpR op_notN (pe_ix ix_tup (pv 4) (pv 8) (fun _ _ => rfl)) pe_non (nomark _)) pa_nil)) (fun _ _ => rfl)) pa_nil))) (pe_slice sl_tupA (pv 4) (po_some (pe_op op_add (pv 8) pe_int)) po_none)))
    (pss_one (ps_ret (pe_tup (pa_cons (pv 2) (pa_cons (pv 3) (pa_cons (pv 9) (pa_cons (pv 5) (pa_cons (pv 6) pa_nil))))))))) pss_nil)
    (pss_cons (ps_if (pt_cmpR op_eq (pv 7) pe_int (nomark _)) (pss_cons (ps_set (i := 9) sc_l_varied.nd rfl (Or.inl rfl) (pe_callTy call_tuple_of rfl T.f_tuple (by decide +kernel) (pa_cons (pe_lcF (own := [("_law_at", 12)]) rfl sc_l_varied.nd (pi_range1 rfl T.f_range (pa_cons (pe_callB call_len_seq rfl T.f_len PySem.boot_len (pa_cons (pv 4) pa_nil)) pa_nil)) (blkOk_by (by kernel_rfl)) (fun _ _ _ _ _ => (pg_name (i := 12) sc_l_varied.nd rfl (by first | exact Or.inl rfl | exact Or.inr rfl))) (fun _ _ _ _ _ => (pts_one (pt_cmpR op_ne (pe_cmpR op_eq (pv 12) (pv 8) (nomark _)) (pe_cmpR op_in_seq (pe_op op_add_str pe_str (pe_callTy call_str_int rfl T.f_str (by decide +kernel) (pa_cons (pv 12) pa_nil))) (pv 6) rfl) (nomark _)))) (fun _ _ _ _ _ => (pe_op op_add_str pe_str (pe_callTy call_str_int rfl T.f_str (by decide +kernel) (pa_cons (pv 12) pa_nil))))) pa_nil)))
    (pss_one (ps_ret (pe_tup (pa_cons (pv 2) (pa_cons (pv 3) (pa_cons (pv 4) (pa_cons (pv 5) (pa_cons (pe_ifExp (pt_cmpR (op_eqD hr.units) (pv 9) (pe_tup pa_nil) (nomark _)) (pv 6) (pv 9)) pa_nil))))))))) pss_nil)
    (pss_cons (ps_if (pt_cmpR op_eq (pv 7) pe_int (nomark _)) (pss_cons (ps_set (i := 10) sc_l_varied.nd rfl (Or.inl rfl) (C8.pe_c c_l_plain hr (by decide) rfl (pa_cons (pv 0) (pa_cons (pe_callB call_len_seq rfl T.f_len PySem.boot_len (pa_cons (pv 3) pa_nil)) (pa_cons (pe_op op_add pe_int (C8.pe_c c_l_draw hr (by decide) rfl (pa_cons (pv 0) (pa_cons pe_int pa_nil)))) pa_nil)))))
    (pss_one (ps_ret (pe_op op_catA (pe_tup (pa_cons (pv 2) (pa_cons (pv 3) pa_nil))) (pe_slice sl_tupA (pv 10) (po_some pe_int) po_none))))) pss_nil)
    (pss_cons (ps_set (i := 11) sc_l_varied.nd rfl (Or.inl rfl) (C8.pe_c c_l_bent_rule hr (by decide) rfl (pa_cons (pv 0) (pa_cons (pv 1) pa_nil))))
    (pss_one (ps_ret (pe_ifExp (pt_cmpR op_gt (pv 7) pe_int (nomark _)) (C8.pe_c c_l_bent_rule hr (by decide) rfl (pa_cons (pv 0) (pa_cons (pv 11) pa_nil))) (pv 11))))))))))), ?_⟩
    refine n_asg5 (m := mp p) hp (e_var rfl h1) fun w1 w2 w3 w4 w5 H1 g1 z1 z2 z3 z4 z5 => ?_
    refine nrm (σ' := [some (.ref p), some v1, some w1, some w2, some w3, some w4, some w5, none, none, none, none, none, none]) rfl ?_
    have hsl : (s.start.map fun b => if b = true then Dt.int 0 else .non).length = s.start.length := List.length_map ..
    refine n_asg2G g1.2 (g_tup2 (g_drawN (k := 8) rfl e_int (by decide) (by decide)) (g_drawN (k := s.start.length) rfl ((e_lenT (e_var rfl z3)).cast (by rw [hsl])) h61 (by omega))) fun v7 v8 d7 d8 H2 g2 y7 y8 ⟨j, e7, hj⟩ ⟨k, e8, hk⟩ => ?_
    subst e7
    subst e8
    refine nrm (σ' := [some (.ref p), some v1, some w1, some w2, some w3, some w4, some w5, some v7, some v8, none, none, none, none]) rfl ?_
    have z1' := z1.go g2
    have z2' := z2.go g2
    have z3' := z3.go g2
    have z4' := z4.go g2
    have z5' := z5.go g2
    have g12 := g1.trans g2
    have h1' := h1.go g12
    refine n_ite g2.2 (t_and (t_eqI (e_var rfl y7) e_int) (fun _ => t_test (e_gt ((e_lenT (e_var rfl z3')).cast (by rw [hsl])) e_int))) (fun h0 H3 g3 => ?_) (fun h0 H3 g3 => ?_)
    · have h0 := of_decide_eq_true (Bool.and_eq_true_iff.mp h0).2
      refine r_retG g3.2 (g_callU (R := R_renamed) (C := fun d => ∃ s', d = plainD s' ∧ SV s' ∧ s'.side = s.side ∧ s'.kinds = s.kinds) (ga_cons (e_var rfl (h1'.go g3)) (ga_cons (g_drawN (k := s.start.length - 1) rfl (E.cast (e_sub (e_lenT (e_var rfl (z3'.go g3))) e_int) ?_) (by omega) (by omega)) ga_nil)) fun ds ⟨d, es, e1, c1, d2, es2, e2, ⟨k2, c2, hk2⟩, e3⟩ => ?_) fun v d H4 g4 hv4 ⟨s', ed, a1, a2, a3⟩ => ?_
      · rw [hsl]
        exact congrArg Dt.int (by omega)
      · subst e3
        subst c2
        subst e2
        subst c1
        subst e1
        have hk3 : k2 + 1 < s.start.length := by omega
        exact ⟨_, fun Hx => ⟨s, k2, rfl, hv, hk3, rfl⟩, ren k2 s, rfl, (ren_SV hv hk3).1, rfl, rfl⟩
      · subst ed
        exact q v _ H4 ((g12.trans g3).trans g4) hv4 (hC s' a1 a2 a3)
    refine n_ite g3.2 (t_eqI (e_var rfl (y7.go g3)) e_int) (fun h1w H4 g4 => ?_) (fun h1w H4 g4 => ?_)
    · have g34 := g3.trans g4
      have z3b := z3'.go g34
      obtain ⟨x, hx⟩ : ∃ x, s.start[k]? = some x := ⟨_, List.getElem?_eq_getElem hk⟩
      refine n_set g4.2 (d := startD (s.start.set k (!x))) (E.cast (e_catA (ds := cutD (s.start.map fun b => if b = true then Dt.int 0 else .non) none (some (k : Int)) ++ [if (!x) = true then Dt.int 0 else .non]) (es := cutD (s.start.map fun b => if b = true then Dt.int 0 else .non) (some ((k + 1 : Nat) : Int)) none) (e_catA (ds := cutD (s.start.map fun b => if b = true then Dt.int 0 else .non) none (some (k : Int))) (es := [if (!x) = true then Dt.int 0 else .non]) (e_slT (ds := s.start.map fun b => if b = true then Dt.int 0 else .non) (e_var rfl z3b) o_none (o_some (i := (k : Int)) (e_var rfl (y8.go g34))))
        (e_tup (a_cons (e_ixN (j := if x = true then 1 else 0) (l_lst (ds := [Dt.int 0, Dt.non]) (a_cons e_int (a_cons e_non a_nil)) (sz (by show 2 ≤ 100000; decide))) (E.cast (e_int1 (e_notN (e_ixT (e_var rfl z3b) (e_var rfl (y8.go g34)) (atD (d := if x = true then Dt.int 0 else .non) (by rw [List.getElem?_map, hx]; rfl))))) (by cases x <;> rfl)) (bits x)) a_nil) (sz (by show 1 ≤ 100000; decide))) ?_)
        (e_slT (ds := s.start.map fun b => if b = true then Dt.int 0 else .non) (e_var rfl z3b) (o_some (i := ((k + 1 : Nat) : Int)) (E.cast (e_add (e_var rfl (y8.go g34)) e_int) (by rfl))) o_none) ?_) ?_) fun v9 H5 g5 y9 => ?_
      · rw [cutD_to (by rw [hsl]; omega), List.length_take, hsl]
        exact sz (by show min k s.start.length + 1 ≤ 100000; omega)
      · rw [cutD_to (by rw [hsl]; omega), cutD_from (by rw [hsl]; omega), List.length_append, List.length_take, List.length_drop, hsl]
        exact sz (by show min k s.start.length + 1 + (s.start.length - (k + 1)) ≤ 100000; omega)
      · rw [set_cut (f := fun b => if b = true then Dt.int 0 else .non) hk (!x)]
        rfl
      have g35 := g34.trans g5
      have hl : (s.start.set k (!x)).length = s.start.length := List.length_set ..
      refine r_retG (C := fun d => d = plainD { s with start := s.start.set k (!x) }) g5.2 (e_tup (a_cons (e_var rfl (z1'.go g35)) (a_cons (e_var rfl (z2'.go g35)) (a_cons (e_var rfl y9) (a_cons (e_var rfl (z4'.go g35)) (a_cons (e_var rfl (z5'.go g35)) a_nil))))) (sz (by show 5 ≤ 100000; decide))) fun v d H6 g6 hv6 ed => ?_
      subst ed
      refine q v _ H6 ((g12.trans g35).trans g6) hv6 (hC { s with start := s.start.set k (!x) } ⟨hv.kinds, ?_, ?_, ?_⟩ rfl rfl)
      · show 1 ≤ (s.start.set k (!x)).length ∧ (s.start.set k (!x)).length ≤ 6
        rw [hl]; exact hv.start
      · show RulesOk _ (s.start.set k (!x)).length _
        rw [hl]; exact hv.rules
      · show EndsOk (s.start.set k (!x)).length _
        rw [hl]; exact hv.ends
    have g34 := g3.trans g4
    refine n_ite g4.2 (t_eqI (e_var rfl (y7.go g34)) e_int) (fun h2w H5 g5 => ?_) (fun h2w H5 g5 => ?_)
    · have g35 := g34.trans g5
      have hfe : (s.ends.map rn).all Dt.fl = true := by
        rw [List.all_map]
        exact List.all_eq_true.mpr fun _ _ => rfl
      refine n_setG (C := fun d => ∃ es, d = endsD es ∧ es.Pairwise (· < ·) ∧ ∀ e ∈ es, e < s.start.length) g5.2 (G.imp (g_tupL (l_subG (f := fun d => match d with | .int i => .str (rt i.toNat) | _ => .non) (i_range (n := s.start.length) (E.cast (e_lenT (e_var rfl (z3'.go g35))) (by rw [hsl])) (by omega)) (range_sz (by omega)) (fun i d x Hx hd gx hx => ?_) (fun i d x Hx hd gx hx => ?_))) fun d ⟨ds, ed, S', hS', ees⟩ => ?_) fun v9 d9 H6 g6 y9 ⟨es, e9, hes, hel⟩ => ?_
      · obtain ⟨hi, rfl⟩ := range_at hd
        exact t_any (t_test (e_ne (e_eq (e_var rfl hx) (e_var rfl ((y8.go g35).go gx)) rfl rfl rfl) (e_in (neg := false) (e_rn (e_var rfl hx) (by omega)) (e_var rfl ((z5'.go g35).go gx)) rfl hfe) rfl rfl rfl))
      · obtain ⟨hi, rfl⟩ := range_at hd
        exact e_rn (e_var rfl hx) (by omega)
      · obtain ⟨es, hes, rfl⟩ := sub_map hS'
        refine ⟨es, ?_, List.pairwise_lt_range.sublist hes, fun e he => List.mem_range.mp (hes.subset he)⟩
        rw [ed, ees, List.map_map]
        rfl
      subst e9
      refine nrm (σ' := [some (.ref p), some v1, some w1, some w2, some w3, some w4, some w5, some v7, some v8, some v9, none, none, none]) rfl ?_
      have g36 := g35.trans g6
      have hse : (es.map rn).all Dt.sf = true := by
        rw [List.all_map]
        exact List.all_eq_true.mpr fun e he => by
          have : e < 6 := by have := hel e he; omega
          show (Dt.str (rt e)).sf = true
          rw [rt_tt e this]
          exact rowSf _
      refine r_retG (C := fun d => d = plainD { s with ends := if es.isEmpty = true then s.ends else es }) g6.2 (e_tup (a_cons (e_var rfl (z1'.go g36)) (a_cons (e_var rfl (z2'.go g36)) (a_cons (e_var rfl (z3'.go g36)) (a_cons (e_var rfl (z4'.go g36)) (a_cons (e_if (t_test (e_nilT (e_var rfl y9) hse)) (fun e => ?_) (fun e => ?_)) a_nil))))) (sz (by show 5 ≤ 100000; decide))) fun v d H7 g7 hv7 ed => ?_
      · refine E.cast (e_var rfl (z5'.go g36)) ?_
        have : es.isEmpty = true := by cases es with | nil => rfl | cons a b => cases e
        rw [this]
        rfl
      · refine E.cast (e_var rfl y9) ?_
        have : es.isEmpty = false := by cases es with | nil => cases e | cons a b => rfl
        rw [this]
        rfl
      · subst ed
        refine q v _ H7 ((g12.trans g36).trans g7) hv7 (hC { s with ends := if es.isEmpty = true then s.ends else es } ⟨hv.kinds, hv.start, hv.rules, ?_⟩ rfl rfl)
        show EndsOk s.start.length (if es.isEmpty = true then s.ends else es)
        cases es with
        | nil => exact hv.ends
        | cons a b => exact ⟨by simp, hes, hel⟩
    have g35 := g34.trans g5
    refine n_ite g5.2 (t_eqI (e_var rfl (y7.go g35)) e_int) (fun h3w H6 g6 => ?_) (fun h3w H6 g6 => ?_)
    · have g36 := g35.trans g6
      refine n_setG g6.2 (g_pcall (R := R_plain) (C := fun d => ∃ s', d = plainD s' ∧ SV s' ∧ s'.kinds.length = s.kinds.length) rfl (ga_cons (C := fun d => d = .int (s.kinds.length : Int)) (E.cast (e_lenT (e_ft (e_var rfl (z2'.go g36)))) (by rw [List.length_map])) (ga_cons (one_plus (k := 3) rfl (by decide) (by decide)) ga_nil)) fun ds ⟨d, es, e1, c1, d2, es2, e2, ⟨n2, c2, a2, b2⟩, e3⟩ => ?_) fun v10 d10 H7 g7 y10 ⟨s', e10, hv', hl'⟩ => ?_
      · subst e3
        subst c2
        subst e2
        subst c1
        subst e1
        exact ⟨s.kinds.length, n2, rfl, hkl1, hkl, a2, by omega, fun s' hv' hl' _ => ⟨s', rfl, hv', hl'⟩⟩
      subst e10
      have g37 := g36.trans g7
      refine r_retG (C := fun d => d = plainD { s' with side := s.side, kinds := s.kinds }) g7.2 (E.cast (e_catA (ds := [.str (sdT s.side), .ftup s.kinds]) (es := cutD [.str (sdT s'.side), .ftup s'.kinds, startD s'.start, rulesD s'.rules, endsD s'.ends] (some ((2 : Nat) : Int)) none) (e_tup (a_cons (e_var rfl (z1'.go g37)) (a_cons (e_var rfl (z2'.go g37)) a_nil)) (sz (by show 2 ≤ 100000; decide))) (e_slT (e_var rfl y10) o_int o_none) ?_) ?_) fun v d H8 g8 hv8 ed => ?_
      · rw [cutD_from (by show 2 ≤ 5; decide)]
        exact sz (by show 2 + 3 ≤ 100000; decide)
      · rw [cutD_from (by show 2 ≤ 5; decide)]
        rfl
      · subst ed
        refine q v _ H8 ((g12.trans g37).trans g8) hv8 (hC { s' with side := s.side, kinds := s.kinds } ⟨hv.kinds, hv'.start, ⟨?_, hv'.rules.2⟩, hv'.ends⟩ rfl rfl)
        show s'.rules.length = s.kinds.length
        rw [← hl']
        exact hv'.rules.1
    have g36 := g35.trans g6
    refine n_setG (C := fun d => ∃ s', d = plainD s' ∧ SV s' ∧ s'.side = s.side ∧ s'.kinds = s.kinds) g6.2 (g_pcall (R := R_bent) rfl (ga_cons (e_var rfl (h1'.go g36)) ga_nil) fun ds ⟨d, es, e1, c1, e3⟩ => ?_) fun v11 d11 H7 g7 y11 ⟨s', e11, a1, a2, a3⟩ => ?_
    · subst e3
      subst c1
      subst e1
      exact ⟨s, rfl, hv, fun s' b1 b2 b3 => ⟨s', rfl, b1, b2, b3⟩⟩
    subst e11
    have g37 := g36.trans g7
    refine nrm (σ' := [some (.ref p), some v1, some w1, some w2, some w3, some w4, some w5, some v7, some v8, none, none, some v11, none]) rfl ?_
    refine r_retG (C := fun d => ∃ s', d = plainD s' ∧ SV s' ∧ s'.side = s.side ∧ s'.kinds = s.kinds) g7.2 (e_if (t_test (e_gt (e_var rfl (y7.go g37)) e_int)) (fun _ => g_pcall (R := R_bent) rfl (ga_cons (e_var rfl y11) ga_nil) fun ds ⟨d, es, e1, c1, e3⟩ => ?_) (fun _ => g_of (e_var rfl y11) ⟨s', rfl, a1, a2, a3⟩)) fun v d H8 g8 hv8 ⟨s2, ed, b1, b2, b3⟩ => ?_
    · subst e3
      subst c1
      subst e1
      exact ⟨s', rfl, a1, fun s2 b1 b2 b3 => ⟨s2, rfl, b1, b2.trans a2, b3.trans a3⟩⟩
    · subst ed
      exact q v _ H8 ((g12.trans g37).trans g8) hv8 (hC s2 b1 b2 b3)
end
end TPk
end F20_text

section F21_text
set_option Elab.async false
set_option linter.all false
set_option maxRecDepth 100000
set_option maxHeartbeats 1200000
/-! Walks: the law's own questions. -/
namespace TPk
open PySem PySem.Spec PyProof.Rows L2
theorem sc_l_no_right : FnScope ["_law_plain_here", "_law_mate_plain", "_law_natural_here", "_law_held", "_law_mate", "_law_found", "_law_over", "_law_events_here_here", "_law_results_here", "_law_event"] ["_law_plain_here", "_law_mate_plain", "_law_natural_here"] (defScope s_l_no_right) := ⟨rfl, rfl, rfl, by decide +kernel, rfl, by decide +kernel, by decide +kernel⟩
theorem sc_l_yes_right : FnScope ["_law_pool_here", "_law_plain_here", "_law_mate_plain", "_law_natural_here", "_law_held", "_law_mate", "_law_same", "_law_under", "_law_turn", "_law_events_here_here", "_law_told", "_law_event"] ["_law_pool_here", "_law_plain_here", "_law_mate_plain", "_law_natural_here"] (defScope s_l_yes_right) := ⟨rfl, rfl, rfl, by decide +kernel, rfl, by decide +kernel, by decide +kernel⟩
/-! ### what the answers mean -/
section
variable {s t : Stt Str} {nat : Bool}
theorem up_lo (s t : Stt Str) : (up s t = s ∧ lo s t = t ∧ s.side = true) ∨ (up s t = t ∧ lo s t = s ∧ s.side = false) := by
  unfold up lo
  cases h : s.side with
  | true => exact .inl ⟨rfl, rfl, rfl⟩
  | false => exact .inr ⟨rfl, rfl, rfl⟩
theorem up_kinds (hk : s.kinds = t.kinds) : (up s t).kinds = s.kinds := by
  rcases up_lo s t with ⟨h1, _⟩ | ⟨h1, _⟩
  · rw [h1]
  · rw [h1, hk]
theorem eq_of_none (h : Told s t nat false none) : ∀ w : Word Str, (∀ p ∈ w, p.1 ∈ s.kinds) → s.accW nat w = t.accW nat w := fun w hw => by
  have := h w hw
  unfold Parts at this
  cases h1 : s.accW nat w <;> cases h2 : t.accW nat w <;> rw [h1, h2] at this <;> first | rfl | cases this
theorem none_over (hk : s.kinds = t.kinds) (h : Told s t nat false none) {o : Option (Word Str)} (h2 : Told (up s t) (lo s t) nat true o) : o = none := by
  cases o with
  | none => rfl
  | some w =>
    obtain ⟨h3, h4, _⟩ := h2
    rw [up_kinds hk] at h3
    have e := eq_of_none h w h3
    unfold Parts at h4
    rcases up_lo s t with ⟨z1, z2, _⟩ | ⟨z1, z2, _⟩ <;> rw [z1, z2, e] at h4 <;> cases h5 : t.accW nat w <;> rw [h5] at h4 <;> cases h4
theorem over_parts (hk : s.kinds = t.kinds) {w : Word Str} (h : Told (up s t) (lo s t) nat true (some w)) : (∀ p ∈ w, p.1 ∈ s.kinds) ∧ (up s t).accW nat w = true ∧ (lo s t).accW nat w = false ∧ Parts s t nat false w = true := by
  obtain ⟨h3, h4, _⟩ := h
  rw [up_kinds hk] at h3
  refine ⟨h3, ?_⟩
  unfold Parts at h4 ⊢
  rcases up_lo s t with ⟨z1, z2, _⟩ | ⟨z1, z2, _⟩ <;> rw [z1, z2] at h4 ⊢ <;> cases h5 : t.accW nat w <;> cases h6 : s.accW nat w <;> rw [h5, h6] at h4 <;> first | exact ⟨rfl, rfl, rfl⟩ | cases h4
theorem over_longer (hk : s.kinds = t.kinds) {w w2 : Word Str} (h : Told s t nat false (some w)) (h2 : Told (up s t) (lo s t) nat true (some w2)) : w.length ≤ w2.length := by
  obtain ⟨h3, _, _, h4⟩ := over_parts hk h2
  exact h.2.2 w2 h3 h4
theorem found_ne (hs : s.side = t.side) {w : Word Str} (h : Told s t nat false (some w)) : s.res (shown s.side nat w) ≠ t.res (shown s.side nat w) := by
  refine no_equal hs fun e => ?_
  have := h.2.1
  unfold Parts at this
  rw [e] at this
  cases h5 : t.accW nat w <;> rw [h5] at this <;> cases this
theorem over_above (hs : s.side = t.side) (hk : s.kinds = t.kinds) {w : Word Str} (h : Told (up s t) (lo s t) nat true (some w)) : abv s.side (s.res (shown s.side nat w)) (t.res (shown s.side nat w)) = true := by
  obtain ⟨_, h1, h2, _⟩ := over_parts hk h
  exact no_above hs h1 h2
theorem never_under (hs : s.side = t.side) (hk : s.kinds = t.kinds) (h : Told (up s t) (lo s t) nat true none) {log : List (Str × Int)} (hl : ∀ e ∈ log, e.1 ∈ s.kinds) (hn : nat = true → ∀ e ∈ log, 0 ≤ e.2) : abv s.side (s.res log) (t.res log) = false := by
  refine yes_under hs hk (fun w hw h1 => ?_) hl hn
  have h1 : (up s t).accW nat w = true := h1
  have := h w (by rw [up_kinds hk]; exact hw)
  show (lo s t).accW nat w = true
  unfold Parts at this
  rw [h1] at this
  cases h5 : (lo s t).accW nat w with
  | true => rfl
  | false => rw [h5] at this; cases this
theorem same_under (hk : s.kinds = t.kinds) {o o2 : Option (Word Str)} (h : Told s t nat false o) (h2 : Told (up s t) (lo s t) nat true o2) : o.isNone = true → o2.isNone = true := fun e => by
  cases o with
  | some w => cases e
  | none => rw [none_over hk h h2]; rfl
theorem told_sym (hk : s.kinds = t.kinds) {o o2 : Option (Word Str)} (h : Told s t nat false o) (h2 : Told t s nat false o2) : o2.isNone = o.isNone := by
  have hp : ∀ w, Parts s t nat false w = Parts t s nat false w := fun w => by
    unfold Parts
    cases s.accW nat w <;> cases t.accW nat w <;> rfl
  cases o with
  | none =>
    cases o2 with
    | none => rfl
    | some w =>
      have := h w (by rw [hk]; exact h2.1)
      rw [hp, h2.2.1] at this
      cases this
  | some w =>
    cases o2 with
    | some w2 => rfl
    | none =>
      have := h2 w (by rw [← hk]; exact h.1)
      rw [← hp, h.2.1] at this
      cases this
theorem shown_len (g nat : Bool) (w : Word Str) : (shown g nat w).length = w.length := List.length_map ..
theorem am_ok (g nat m : Bool) : AmtOk (am g nat m) := by cases g <;> cases nat <;> cases m <;> exact ⟨by decide, by decide⟩
theorem shown_ok (hv : SV s) {g : Bool} {w : Word Str} (hw : ∀ p ∈ w, p.1 ∈ s.kinds) (hl : w.length ≤ 895) : LogOk s.kinds (shown g nat w) := by
  refine ⟨by rw [shown_len]; omega, fun e he => ?_⟩
  obtain ⟨p, hp, rfl⟩ := List.mem_map.mp he
  exact ⟨hw p hp, hv.kinds.2.2.1 _ (hw p hp), am_ok g nat p.2⟩
theorem shown_any (g nat : Bool) (w : Word Str) (hn : nat = true) : ((shown g nat w).map fun e => decide (e.2 < 0)).any id = false := by
  rw [List.any_eq_false]
  intro b hb
  obtain ⟨e, he, rfl⟩ := List.mem_map.mp hb
  obtain ⟨p, hp, rfl⟩ := List.mem_map.mp he
  subst hn
  have := am_nat g p.2
  show ¬ decide (am g true p.2 < 0) = true
  rw [decide_eq_true_iff]
  omega
end
section
variable {P : Program} {w : World} {K : PySem.W.Frag} {mg : Str → Option Value} {base : Heap} {m : Mo} {σ : L2.St} {H : Hp} {ta tb te : TE} {C C1 C2 : Dt → Prop}
theorem sc_r (T : Fx K mg) : FnR P w K mg base C8.CX0 6 (He.ma K (He.ga K "Statistic") "__call__") (fun vs H Q E => Pu K (R_scall K) (vs ++ []) H Q E) := (sc_ok T).r
theorem e_scall {X : Cx} {Er : XK} {a : Addr} {s : Stt Str} {g : Bool} {log : List (Str × Int)} (hg : s.side = g) (hb : TPk.E K m te σ H (.adr a)) (ht : TPk.E K m tb σ H (logD log)) (hs : StatAt K H a s) (hv : SV s) (hl : LogOk s.kinds log) :
    TPk.E K m (StX.tCallO X (clsA K g) (fun vs H Q E => Pu K (R_scall K) (vs ++ []) H Q E) Er te (tCons tb tNil)) σ H (oD (s.res log)) := fun H1 gg Q q => by
  subst hg
  exact hb.go gg fun u H2 g2 hu => ⟨a, hu.adr_inv, AE.go (a_cons ht a_nil) (gg.trans g2) fun vs H3 g3 hvs => by
    obtain ⟨v1, rfl, h1⟩ := hvs.inv1
    have hs3 := hs.go ((gg.trans g2).trans g3)
    obtain ⟨dx, k, st, ru, en, h0, _⟩ := id hs3
    exact ⟨.inr ⟨dx, _, h0⟩, [.adr a, logD log], oD (s.res log), .cons (.adr a) (.cons h1 .nil), ⟨a, s, log, rfl, hs3, hv, hl, rfl⟩, fun v H4 s4 hv4 => q v _ H4 ((g2.trans g3).same s4) hv4 rfl⟩⟩
/-- _law_of(..) -/
theorem of_go {s : Stt Str} {Er : XK} (he : TPk.E K m te σ H (plainD s)) (hv : SV s) {H1 : Hp} (g : Go m H H1) {Q : VK} (q : ∀ a H2, Go m H1 H2 → StatAt K H2 a s → Q (.ref a) H2) : tCall (spOf K) [] Er (tCons te tNil) σ H1 Q :=
  he.go g fun v H2 g2 hv2 => ⟨v, s, rfl, hv2, hv, fun a H3 s3 hs => q a H3 (g2.same s3) hs⟩
theorem n_two {s t : Stt Str} {i k : Nat} {E1 E2 : XK} {D : Ends} {u : TS} (j : m.J H) (h1 : TPk.E K m ta σ H (plainD s)) (h2 : TPk.E K m tb σ H (plainD t)) (v1 : SV s) (v2 : SV t) (hs : s.side = t.side) (hk : s.kinds = t.kinds)
    (q : ∀ a1 a2 H1, Go m H H1 → TwoAt K H1 a1 a2 s t → u D ((σ.set i (some (.ref a1))).set k (some (.ref a2))) H1) :
    tSeq (tPar i k (tCons (tCall (spOf K) [] E1 (tCons ta tNil)) (tCons (tCall (spOf K) [] E2 (tCons tb tNil)) tNil))) u D σ H :=
  of_go h1 v1 (.refl j) fun a1 H1 g1 s1 => of_go h2 v2 g1 fun a2 H2 g2 s2 => ⟨_, _, rfl, q a1 a2 H2 (g1.trans g2) ⟨s1.go g2, s2, v1, v2, hs, hk⟩⟩
/-! ### no -/
def R_no : Hp → List Dt → Dt → Prop := fun _ ds d => ∃ s t nat, ds = [plainD s, plainD t, .bl nat] ∧ SV s ∧ SV t ∧ s.side = t.side ∧ s.kinds = t.kinds ∧ d = .bl true
theorem eqv2 (os ps : List (Option Int)) : PyData.eqv (.list ((os.map oD).map Dt.pd)) (.list ((ps.map oD).map Dt.pd)) = decide (os = ps) := by
  rw [← eqv_oD]
  simp only [PyData.eqv]
theorem c_l_no_right (T : Fx K mg) : C8.Cal P w K mg base 7 "_law_no_right" (Pu K R_no) [] := by
  have c_l_above := c_l_above (P := P) (w := w) (base := base) T
  have c_l_of := c_l_of (P := P) (w := w) (base := base) T
  have c_l_result := c_l_result (P := P) (w := w) (base := base) T
  have c_difference := c_difference (P := P) (w := w) (base := base) T
  have c_excess := c_excess (P := P) (w := w) (base := base) T
  obtain ⟨fd, F⟩ := T.D.def_ 52
  refine ⟨_, fd, ["_law_plain_here", "_law_mate_plain", "_law_natural_here"], [], ok0 F sc_l_no_right (fun vs H Q Er h => ?_) (fun cdv Ar outer sh H vs Q Er hr h => ?_), T.m_law_no_right, F.kp, F.bindsN (fun kV doc pm an cdv ct us hl => match us, hl with | [_, _, _], _ => rfl), .nil⟩
  · obtain ⟨ds, d, hI, ⟨s, t, nat, rfl, _⟩, q⟩ := h
    exact hI.length.symm
  · obtain ⟨ds, d, hI, ⟨s, t, nat, rfl, hv, hvt, hs, hk, rfl⟩, q⟩ := h
    obtain ⟨v1, v2, v3, rfl, h1, h2, h3⟩ := hI.inv3
    refine ⟨_, (pss_cons (ps_par (i := 3) (j := 4) rfl sc_l_no_right.nd rfl rfl (by decide) rfl rfl (pa_cons (C8.pe_c c_l_of hr (by decide) rfl (pa_cons (pv 0) pa_nil)) (pa_cons (C8.pe_c c_l_of hr (by decide) rfl (pa_cons (pv 1) pa_nil)) pa_nil)) (by rfl))
    (pss_cons (ps_par (i := 5) (j := 6) rfl sc_l_no_right.nd rfl rfl (by decide) rfl rfl (pa_cons (pe_kw c_difference hr (by decide) rfl (pa_cons (pv 3) (pa_cons (pv 4) pa_nil)) (pk_cons (pv 2) pk_nil)) (pa_cons (pe_kw c_excess hr (by decide) rfl (pa_cons (pv 3) (pa_cons (pv 4) pa_nil)) (pk_cons (pv 2) pk_nil)) pa_nil)) (by rfl))
    (pss_cons (ps_for PassesOwn.never rfl (pi_list (pe_lst (pa_cons (pv 5) (pa_cons (pv 6) pa_nil)))) (pg_name (i := 7) sc_l_no_right.nd rfl (Or.inl rfl)) (pss_cons (ps_if (PW.pt (pw_and (pt_cmpR op_notN (pv 7) pe_non (nomark _)) (pw_and1 (pt_cmpR op_gt (pe_callB call_len_seq rfl T.f_len PySem.boot_len (pa_cons (pv 7) pa_nil)) pe_int (nomark _))))) (pss_one (ps_ret pe_bl)) pss_nil)
    (pss_one (ps_if (PW.pt (pw_and (pt_cmpR op_notN (pv 7) pe_non (nomark _)) (pw_and (pt_val (pv 2)) (pw_and1 (pt_val (pe_callB (cr_any rfl) rfl T.f_any (by decide +kernel) (pa_cons (pe_lcF (own := [("_law_event", 9)]) rfl sc_l_no_right.nd (pi_tup (pv 7)) (blkOk_by (by kernel_rfl)) (fun _ _ _ _ _ => (pg_name (i := 9) sc_l_no_right.nd rfl (by first | exact Or.inl rfl | exact Or.inr rfl))) (fun _ _ _ _ _ => pts_nil) (fun _ _ _ _ _ => (pe_cmpR op_lt (pe_ix ix_tup (pv 9) pe_int (fun _ _ => rfl)) pe_int (nomark _)))) pa_nil))))))) (pss_one (ps_ret pe_bl)) pss_nil))))
    (pss_cons (ps_if (pt_cmpR op_isN (pv 5) pe_non (nomark _)) (pss_one (ps_ret (pe_cmpR op_isN (pv 6) pe_non (nomark _)))) pss_nil)
    (pss_cons (ps_set (i := 8) sc_l_no_right.nd rfl (Or.inl rfl) (pe_lst (pa_cons (C8.pe_c c_l_result hr (by decide) rfl (pa_cons (pv 0) (pa_cons (pv 5) pa_nil))) (pa_cons (C8.pe_c c_l_result hr (by decide) rfl (pa_cons (pv 1) (pa_cons (pv 5) pa_nil))) pa_nil))))
    (pss_cons (ps_if (PW.pt (pw_or (pt_cmpR op_eq (pe_ix ix_list (pv 8) pe_int (fun _ _ => rfl)) (pe_ix ix_list (pv 8) pe_int (fun _ _ => rfl)) (nomark _)) (pw_or1 (pt_cmpR (op_neD hr.units) (pe_lst (pa_cons (StX.pe_callO (pv 3) (co_stat T s.side) (sc_r (P := P) (w := w) (base := base) T) (hr.mono (by decide)) (C8.pass0 (E := C8.E0)) (pa_cons (pv 5) pa_nil)) (pa_cons (StX.pe_callO (pv 4) (co_stat T s.side) (sc_r (P := P) (w := w) (base := base) T) (hr.mono (by decide)) (C8.pass0 (E := C8.E0)) (pa_cons (pv 5) pa_nil)) pa_nil))) (pv 8) (nomark _))))) (pss_one (ps_ret pe_bl)) pss_nil)
    (pss_cons (ps_if (pt_cmpR op_isN (pv 6) pe_non (nomark _)) (pss_one (ps_ret pe_bl)) pss_nil)
    (pss_cons (ps_if (pt_cmpR op_lt (pe_callB call_len_seq rfl T.f_len PySem.boot_len (pa_cons (pv 6) pa_nil)) (pe_callB call_len_seq rfl T.f_len PySem.boot_len (pa_cons (pv 5) pa_nil)) (nomark _)) (pss_one (ps_ret pe_bl)) pss_nil)
    (pss_one (ps_ret (C8.pe_c c_l_above hr (by decide) rfl (pa_cons (pe_ix ix_tup (pv 0) pe_int (fun _ _ => rfl)) (pa_cons (C8.pe_c c_l_result hr (by decide) rfl (pa_cons (pv 0) (pa_cons (pv 6) pa_nil))) (pa_cons (C8.pe_c c_l_result hr (by decide) rfl (pa_cons (pv 1) (pa_cons (pv 6) pa_nil))) pa_nil)))))))))))))), ?_⟩
    refine n_two (m := m0) True.intro (e_var rfl h1) (e_var rfl h2) hv hvt hs hk fun a1 a2 H1 g1 ht => ?_
    refine n_par (m := m0) (C1 := fun d => ∃ o, Told s t nat false o ∧ d = logO s.side nat o) (C2 := fun d => ∃ o, Told (up s t) (lo s t) nat true o ∧ d = logO s.side nat o) True.intro
      (g_kw (R := R_difference K) (a_cons (e_var (i := 3) rfl (.adr a1)) (a_cons (e_var (i := 4) rfl (.adr a2)) a_nil)) (a_cons (e_var rfl (h3.go g1)) a_nil) fun Hx gx => ⟨a1, a2, s, t, nat, rfl, ht.tk gx.tk, rfl⟩)
      (g_kw (R := R_excess K) (a_cons (e_var (i := 3) rfl (.adr a1)) (a_cons (e_var (i := 4) rfl (.adr a2)) a_nil)) (a_cons (e_var rfl (h3.go g1)) a_nil) fun Hx gx => ⟨a1, a2, s, t, nat, rfl, ht.tk gx.tk, rfl⟩) fun v5 v6 d5 d6 H2 g2 y5 y6 ⟨o, ho, e5⟩ ⟨o2, ho2, e6⟩ => ?_
    subst e5
    subst e6
    refine nrm (σ' := [some v1, some v2, some v3, some (.ref a1), some (.ref a2), some v5, some v6, none, none, none]) rfl ?_
    have s12 := g1.to0.trans g2.to0
    have hvv : SV (up s t) ∧ SV (lo s t) := by
      rcases up_lo s t with ⟨z1, z2, _⟩ | ⟨z1, z2, _⟩ <;> rw [z1, z2]
      · exact ⟨hv, hvt⟩
      · exact ⟨hvt, hv⟩
    have hlo : ∀ w, o = some w → w.length ≤ 895 := fun w e => by subst e; exact told_len hv hvt ho
    have hlo2 : ∀ w, o2 = some w → w.length ≤ 895 := fun w e => by subst e; exact told_len hvv.1 hvv.2 ho2
    refine k_for (K := K) (i_list (l_lst (a_cons (e_var rfl y5) (a_cons (e_var rfl y6) a_nil)) (sz (by show 2 ≤ 100000; decide))) (fun _ z => z.elim)) (fun i σ' _ => ∃ x, σ' = [some v1, some v2, some v3, some (.ref a1), some (.ref a2), some v5, some v6, x, none, none]) (fun B _ => ⟨_, rfl⟩) (fun B i d x σ' H3 H4 hd sA sB pv s34 hx => ?_) (fun B σ' H3 sA sB pv => ?_)
    · obtain ⟨x7, rfl⟩ := pv
      obtain ⟨oo, rfl, hoo⟩ : ∃ oo, d = logO s.side nat oo ∧ ∀ w, oo = some w → w.length ≤ 895 := by
        have : d = logO s.side nat o ∨ d = logO s.side nat o2 := by simpa using List.mem_of_getElem? hd
        rcases this with rfl | rfl
        · exact ⟨o, rfl, hlo⟩
        · exact ⟨o2, rfl, hlo2⟩
      have h34 := (h3.same s12).same sA
      cases oo with
      | none =>
        refine k_no (TE'.cast (t_and (t_test (e_notN (e_var rfl hx))) (b := false) (fun z => nomatch z)) rfl) fun H5 s5 => ?_
        exact q_ifF (TE'.cast (t_and (t_test (e_notN (e_var rfl (hx.same s5)))) (b := false) (fun z => nomatch z)) rfl) fun H6 s6 => ⟨(sB.trans s5).trans s6, _, rfl⟩
      | some wd =>
        have hl := hoo wd rfl
        have hx : Is K H4 (.tup ((shown s.side nat wd).map fun e => evD e.1 e.2)) x := hx
        have hlen : ((shown s.side nat wd).map fun e => evD e.1 e.2).length = wd.length := by rw [List.length_map, shown_len]
        refine k_no (TE'.cast (t_and (t_test (e_notN (e_var rfl hx))) (fun _ => t_test (e_gt (e_lenT (e_var rfl hx)) e_int))) ?_) fun H5 s5 => ?_
        · rw [hlen, decide_eq_false (show ¬ ((895 : Int) < (wd.length : Nat)) by omega), Bool.and_false]
        · have hx5 := hx.same s5
          refine q_ifF (TE'.cast (t_and (t_test (e_notN (e_var rfl hx5))) (fun _ => t_and (t_B (e_var rfl ((h34).same s5))) (fun _ => t_B (e_any (bs := (shown s.side nat wd).map fun e => decide (e.2 < 0)) (LE.cast (l_map (f := fun d => match d with | .tup [_, .int a] => .bl (decide (a < 0)) | _ => .non) (i_tup (e_var rfl hx5)) (by rw [hlen]; exact sz (by omega)) fun i d x6 H6 hd6 g6 hx6 => ?_) ?_))))) ?_) fun H6 s6 => ⟨(sB.trans s5).trans s6, _, rfl⟩
          · obtain ⟨e, _, rfl⟩ := List.mem_map.mp (List.mem_of_getElem? hd6)
            exact e_lt (e_ixT (e_var rfl hx6) e_int rfl) e_int
          · rw [List.map_map, List.map_map]
            rfl
          · cases hn : nat with
            | false => rw [Bool.false_and, Bool.and_false]
            | true => rw [shown_any s.side true wd rfl, Bool.and_false, Bool.and_false]
    · obtain ⟨x7, rfl⟩ := pv
      have y5' := y5.same sA
      have y6' := y6.same sA
      have s13 := s12.trans sA
      have ht3 := (ht.same g2.to0).same sA
      have h13 := h1.same s13
      have h23 := h2.same s13
      refine k_ite ((t_test (e_isN (e_var rfl y5'))).cast (logO_isN _ _ _)) (fun h0 H4 s4 => ?_) (fun h0 H4 s4 => ?_)
      · cases o with
        | some w => cases h0
        | none =>
          have e2 := none_over hk ho ho2
          subst e2
          exact q_ret (d := .bl true) (e_isN (e_var rfl (y6'.same s4))) fun v H5 s5 hv5 => q v H5 ((s13.trans s4).trans s5) hv5
      · cases o with
        | none => cases h0
        | some wd =>
          have hl := hlo wd rfl
          have y54 := y5'.same s4
          have hwk := ho.1
          have hlog := shown_ok (nat := nat) (g := s.side) hv hwk hl
          have hlogt : LogOk t.kinds (shown s.side nat wd) := by rw [← hk]; exact hlog
          refine k_setL (K := K) (LE.cast (l_lst (a_cons (e_call (d := oD (s.res (shown s.side nat wd))) (a_cons (e_var rfl (h13.same s4)) (a_cons (e_var rfl y54) a_nil)) fun Hx gx => ⟨s, _, rfl, hv, fun e he => (hlog.2 e he).1, hlog.1, rfl⟩) (a_cons (e_call (d := oD (t.res (shown s.side nat wd))) (a_cons (e_var rfl (h23.same s4)) (a_cons (e_var rfl y54) a_nil)) fun Hx gx => ⟨t, _, rfl, hvt, fun e he => (hlogt.2 e he).1, hlogt.1, rfl⟩) a_nil)) (sz (by show 2 ≤ 100000; decide))) (es := [s.res (shown s.side nat wd), t.res (shown s.side nat wd)].map oD) rfl) fun l8 H5 n8 s5 hO8 => ?_
          refine nrm (σ' := [some v1, some v2, some v3, some (.ref a1), some (.ref a2), some v5, some v6, x7, some (.ref l8), none]) rfl ?_
          have y55 := y54.same s5
          have ht5 := (ht3.same s4).same s5
          obtain ⟨f1, f2, f3⟩ := oD_scal (s.res (shown s.side nat wd)) (t.res (shown s.side nat wd))
          obtain ⟨f4, _, _⟩ := oD_scal (t.res (shown s.side nat wd)) (s.res (shown s.side nat wd))
          refine k_no (TE'.cast (t_or (t_test (e_eq (e_ixS (j := 0) rfl hO8.li e_int rfl) (e_ixS (j := 1) rfl hO8.li e_int rfl) f1 f4 f2)) (fun _ => t_test (e_neLS (ds := [s.res (shown s.side nat wd), t.res (shown s.side nat wd)].map oD) (LE.cast (l_lst (a_cons (e_scall rfl (e_var (i := 3) rfl (.adr a1)) (e_var rfl y55) ht5.h1 hv hlog) (a_cons (e_scall hs.symm (e_var (i := 4) rfl (.adr a2)) (e_var rfl y55) ht5.h2 hvt hlogt) a_nil)) (sz (by show 2 ≤ 100000; decide))) rfl) rfl hO8.li (oD_sf _) (oD_sf _)))) ?_) fun H6 s6 => ?_
          · rw [f3, eqv2, decide_eq_false (found_ne hs ho), decide_eq_true rfl]
            rfl
          · have y66 := ((y6'.same s4).same s5).same s6
            refine k_ite ((t_test (e_isN (e_var rfl y66))).cast (logO_isN _ _ _)) (fun h0 H7 s7 => ?_) (fun h0 H7 s7 => ?_)
            · exact q_ret e_bl fun v H8 s8 hv8 => q v H8 (((((s13.trans s4).trans s5).trans s6).trans s7).trans s8) hv8
            · cases o2 with
              | none => cases h0
              | some wd2 =>
                have hl2 := hlo2 wd2 rfl
                have hwk2 := (over_parts hk ho2).1
                have hlog2 := shown_ok (nat := nat) (g := s.side) hv hwk2 hl2
                have y67 : Is K H7 (.tup ((shown s.side nat wd2).map fun e => evD e.1 e.2)) v6 := y66.same s7
                have y57 : Is K H7 (.tup ((shown s.side nat wd).map fun e => evD e.1 e.2)) v5 := (y55.same s6).same s7
                refine k_no (TE'.cast (t_test (e_lt (e_lenT (e_var rfl y67)) (e_lenT (e_var rfl y57)))) ?_) fun H8 s8 => ?_
                · have := over_longer hk ho ho2
                  rw [List.length_map, List.length_map, shown_len, shown_len]
                  exact decide_eq_false (by omega)
                · have s48 := ((((s4.trans s5).trans s6).trans s7).trans s8)
                  have y68 := y67.same s8
                  have hwk2' : ∀ e ∈ shown s.side nat wd2, e.1 ∈ s.kinds := fun e he => (hlog2.2 e he).1
                  have hwk2t : ∀ e ∈ shown s.side nat wd2, e.1 ∈ t.kinds := by rw [← hk]; exact hwk2'
                  refine q_ret (d := .bl true) (e_call (a_cons (e_p0 (e_var rfl (h13.same s48))) (a_cons (e_call (d := oD (s.res (shown s.side nat wd2))) (a_cons (e_var rfl (h13.same s48)) (a_cons (e_var rfl y68) a_nil)) fun Hx gx => ⟨s, _, rfl, hv, hwk2', hlog2.1, rfl⟩) (a_cons (e_call (d := oD (t.res (shown s.side nat wd2))) (a_cons (e_var rfl (h23.same s48)) (a_cons (e_var rfl y68) a_nil)) fun Hx gx => ⟨t, _, rfl, hvt, hwk2t, hlog2.1, rfl⟩) a_nil))) fun Hx gx => ⟨s.side, _, _, rfl, by rw [over_above hs hk ho2]⟩) fun v H9 s9 hv9 => q v H9 ((s13.trans s48).trans s9) hv9
end
end TPk
end F21_text

section F22_text
set_option Elab.async false
set_option linter.all false
set_option maxRecDepth 100000
set_option maxHeartbeats 1200000
/-! Walks: the law's yes, one cell's question, the law. -/
namespace TPk
open PySem PySem.Spec PyProof.Rows L2
theorem sc_l_right : FnScope ["_law_pool_here", "_law_plain_here", "_law_natural_here", "_law_mate_plain", "_law_pair", "_law_turned_plain"] ["_law_pool_here"] (defScope s_l_right) := ⟨rfl, rfl, rfl, by decide +kernel, rfl, by decide +kernel, by decide +kernel⟩
section
variable {P : Program} {w : World} {K : PySem.W.Frag} {mg : Str → Option Value} {base : Heap} {m : Mo} {σ : L2.St} {H : Hp} {ta tb te : TE} {C C1 C2 : Dt → Prop}
def R_yes : List Dt → (Dt → Prop) → Prop := fun ds C => ∃ s t nat, ds = [plainD s, plainD t, .bl nat] ∧ SV s ∧ SV t ∧ s.side = t.side ∧ s.kinds = t.kinds ∧ C = fun d => d = .bl true
def sizesL : List Nat := [2, 5, 12, 60]
theorem sizes_ok : ∀ i, i < 4 → ∃ n, sizesL[i]? = some n ∧ n ≤ 60 := by decide
def evC (s : Stt Str) (nat : Bool) : Dt → Prop := fun d => ∃ log, d = logD log ∧ log.length ≤ 60 ∧ (∀ e ∈ log, e.1 ∈ s.kinds ∧ AmtOk e.2) ∧ (nat = true → ∀ e ∈ log, 0 ≤ e.2)
theorem c_l_yes_right (T : Fx K mg) : C8.Cal P w K mg base 8 "_law_yes_right" (Pp K R_yes) [] := by
  have c_l_above := c_l_above (P := P) (w := w) (base := base) T
  have c_l_draw := c_l_draw (P := P) (w := w) (base := base) T
  have c_l_events := c_l_events (P := P) (w := w) (base := base) T
  have c_l_of := c_l_of (P := P) (w := w) (base := base) T
  have c_equal := c_equal (P := P) (w := w) (base := base) T
  have c_never_above := c_never_above (P := P) (w := w) (base := base) T
  obtain ⟨fd, F⟩ := T.D.def_ 53
  refine ⟨_, fd, ["_law_pool_here", "_law_plain_here", "_law_mate_plain", "_law_natural_here"], [], ok0 F sc_l_yes_right (fun vs H Q Er h => ?_) (fun cdv Ar outer sh H vs Q Er hr h => ?_), T.m_law_yes_right, F.kp, F.bindsN (fun kV doc pm an cdv ct us hl => match us, hl with | [_, _, _, _], _ => rfl), .nil⟩
  · obtain ⟨p, us, ds, C, rfl, _, hI, ⟨_, _, _, rfl, _⟩, q⟩ := h
    exact congrArg Nat.succ hI.length.symm
  · obtain ⟨p, us, ds, C, rfl, hp, hI, ⟨s, t, nat, rfl, hv, hvt, hs, hk, rfl⟩, q⟩ := h
    obtain ⟨v1, v2, v3, rfl, h1, h2, h3⟩ := hI.inv3
    cases h3.bl_inv
    refine ⟨_, (pss_cons (ps_par (i := 4) (j := 5) rfl sc_l_yes_right.nd rfl rfl (by decide) rfl rfl (pa_cons (C8.pe_c c_l_of hr (by decide) rfl (pa_cons (pv 1) pa_nil)) (pa_cons (C8.pe_c c_l_of hr (by decide) rfl (pa_cons (pv 2) pa_nil)) pa_nil)) (by rfl))
    (pss_cons (ps_par (i := 6) (j := 7) rfl sc_l_yes_right.nd rfl rfl (by decide) rfl rfl (pa_cons (pe_kw c_equal hr (by decide) rfl (pa_cons (pv 4) (pa_cons (pv 5) pa_nil)) (pk_cons (pv 3) pk_nil)) (pa_cons (pe_kw c_never_above hr (by decide) rfl (pa_cons (pv 4) (pa_cons (pv 5) pa_nil)) (pk_cons (pv 3) pk_nil)) pa_nil)) (by rfl))
    (pss_cons (ps_if (PW.pt (pw_or (pt_cmpR op_ne (pv 6) (pe_kw c_equal hr (by decide) rfl (pa_cons (pv 5) (pa_cons (pv 4) pa_nil)) (pk_cons (pv 3) pk_nil)) (nomark _)) (pw_or1 (PW.pt (pw_and (pt_val (pv 6)) (pw_and1 (pt_not (pt_val (pv 7))))))))) (pss_one (ps_ret pe_bl)) pss_nil)
    (pss_cons (ps_for PassesOwn.never rfl (pi_range1 rfl T.f_range (pa_cons pe_int pa_nil)) (pg_name (i := 8) sc_l_yes_right.nd rfl (Or.inl rfl)) (pss_cons (ps_set (i := 9) sc_l_yes_right.nd rfl (Or.inl rfl) (C8.pe_c c_l_events hr (by decide) rfl (pa_cons (pv 0) (pa_cons (pv 1) (pa_cons (pe_ix ix_list (pe_lst (pa_cons pe_int (pa_cons pe_int (pa_cons pe_int (pa_cons pe_int pa_nil))))) (pv 8) (fun _ _ => rfl)) (pa_cons (pe_ix ix_list (pe_lst (pa_cons pe_int (pa_cons pe_int (pa_cons pe_int (pa_cons (pe_op op_pow pe_int pe_int) pa_nil))))) (C8.pe_c c_l_draw hr (by decide) rfl (pa_cons (pv 0) (pa_cons pe_int pa_nil))) (fun _ _ => rfl)) pa_nil))))))
    (pss_cons (ps_if (pt_val (pv 3)) (pss_one (ps_set (i := 9) sc_l_yes_right.nd rfl (Or.inl rfl) (pe_callTy call_tuple_of rfl T.f_tuple (by decide +kernel) (pa_cons (pe_lcF (own := [("_law_event", 11)]) rfl sc_l_yes_right.nd (pi_tup (pv 9)) (blkOk_by (by kernel_rfl)) (fun _ _ _ _ _ => (pg_name (i := 11) sc_l_yes_right.nd rfl (by first | exact Or.inl rfl | exact Or.inr rfl))) (fun _ _ _ _ _ => pts_nil) (fun _ _ _ _ _ => (pe_tup (pa_cons (pe_ix ix_tup (pv 11) pe_int (fun _ _ => rfl)) (pa_cons (pe_callB call_abs rfl T.f_abs (by decide +kernel) (pa_cons (pe_ix ix_tup (pv 11) pe_int (fun _ _ => rfl)) pa_nil)) pa_nil))))) pa_nil)))) pss_nil)
    (pss_cons (ps_set (i := 10) sc_l_yes_right.nd rfl (Or.inl rfl) (pe_lst (pa_cons (StX.pe_callO (pv 4) (co_stat T s.side) (sc_r (P := P) (w := w) (base := base) T) (hr.mono (by decide)) (C8.pass0 (E := C8.E0)) (pa_cons (pv 9) pa_nil)) (pa_cons (StX.pe_callO (pv 5) (co_stat T s.side) (sc_r (P := P) (w := w) (base := base) T) (hr.mono (by decide)) (C8.pass0 (E := C8.E0)) (pa_cons (pv 9) pa_nil)) pa_nil))))
    (pss_one (ps_if (PW.pt (pw_or (PW.pt (pw_and (pt_val (pv 6)) (pw_and1 (pt_cmpR op_ne (pe_ix ix_list (pv 10) pe_int (fun _ _ => rfl)) (pe_ix ix_list (pv 10) pe_int (fun _ _ => rfl)) (nomark _))))) (pw_or1 (PW.pt (pw_and (pt_val (pv 7)) (pw_and1 (pt_val (C8.pe_c c_l_above hr (by decide) rfl (pa_cons (pe_ix ix_tup (pv 1) pe_int (fun _ _ => rfl)) (pa_cons (pe_ix ix_list (pv 10) pe_int (fun _ _ => rfl)) (pa_cons (pe_ix ix_list (pv 10) pe_int (fun _ _ => rfl)) pa_nil))))))))))) (pss_one (ps_ret pe_bl)) pss_nil))))))
    (pss_one (ps_ret pe_bl)))))), ?_⟩
    refine n_two (m := mp p) hp (e_var rfl h1) (e_var rfl h2) hv hvt hs hk fun a1 a2 H1 g1 ht => ?_
    refine nrm (σ' := [some (.ref p), some v1, some v2, some (.bl nat), some (.ref a1), some (.ref a2), none, none, none, none, none, none]) rfl ?_
    refine n_par (m := mp p) (C1 := fun d => ∃ o, Told s t nat false o ∧ d = .bl o.isNone) (C2 := fun d => ∃ o, Told (up s t) (lo s t) nat true o ∧ d = .bl o.isNone) g1.2
      (g_kw (R := R_equal K) (a_cons (e_var (i := 4) rfl (.adr a1)) (a_cons (e_var (i := 5) rfl (.adr a2)) a_nil)) (a_cons (e_var rfl (.bl nat)) a_nil) fun Hx gx => ⟨a1, a2, s, t, nat, rfl, ht.tk gx.tk, rfl⟩)
      (g_kw (R := R_never K) (a_cons (e_var (i := 4) rfl (.adr a1)) (a_cons (e_var (i := 5) rfl (.adr a2)) a_nil)) (a_cons (e_var rfl (.bl nat)) a_nil) fun Hx gx => ⟨a1, a2, s, t, nat, rfl, ht.tk gx.tk, rfl⟩) fun v6 v7 d6 d7 H2 g2 y6 y7 ⟨o, ho, e6⟩ ⟨o2, ho2, e7⟩ => ?_
    subst e6
    subst e7
    cases y6.bl_inv
    cases y7.bl_inv
    refine nrm (σ' := [some (.ref p), some v1, some v2, some (.bl nat), some (.ref a1), some (.ref a2), some (.bl o.isNone), some (.bl o2.isNone), none, none, none, none]) rfl ?_
    have g12 := g1.trans g2
    have ht2 := ht.tk g2.tk
    have hsym : TwoAt K H2 a2 a1 t s := ⟨ht2.h2, ht2.h1, hvt, hv, hs.symm, hk.symm⟩
    have eqm : TPk.E K (mp p) (tCallN 2 1 (Pn K (R_equal K)) (fun vs zs => vs ++ zs) C8.E0 (tCons (tVar 5) (tCons (tVar 4) tNil)) (tCons (tVar 3) tNil)) [some (.ref p), some v1, some v2, some (.bl nat), some (.ref a1), some (.ref a2), some (.bl o.isNone), some (.bl o2.isNone), none, none, none, none] H2 (.bl o.isNone) :=
      G.imp (g_kw (R := R_equal K) (C := fun d => ∃ o', Told t s nat false o' ∧ d = .bl o'.isNone) (a_cons (e_var (i := 5) rfl (.adr a2)) (a_cons (e_var (i := 4) rfl (.adr a1)) a_nil)) (a_cons (e_var rfl (.bl nat)) a_nil) fun Hx gx => ⟨a2, a1, t, s, nat, rfl, hsym.tk gx.tk, rfl⟩) fun d ⟨o', ho', ed⟩ => by rw [ed, told_sym hk ho ho']
    have hun := same_under hk ho ho2
    refine n_no g2.2 (TE'.cast (t_or (t_test (e_ne (e_var (d := .bl o.isNone) rfl (.bl _)) eqm rfl rfl rfl)) (fun _ => t_and (t_B (K := K) (e_var rfl (.bl o.isNone))) (fun _ => t_not (t_B (K := K) (e_var rfl (.bl o2.isNone)))))) ?_) fun H3 g3 => ?_
    · rw [decide_eq_true rfl]
      cases e : o.isNone with
      | false => rfl
      | true => rw [hun e]; rfl
    have g13 := g12.trans g3
    refine n_for (K := K) (m := mp p) g3.2 (i_range e_int (n := 4) (by decide)) (fun i σ' _ => ∃ x8 x9 x10, σ' = [some (.ref p), some v1, some v2, some (.bl nat), some (.ref a1), some (.ref a2), some (.bl o.isNone), some (.bl o2.isNone), x8, x9, x10, none]) (fun B _ => ⟨_, _, _, rfl⟩) (fun B i d x σ' H4 H5 gB hd g4 pv s45 hx => ?_) (fun B σ' H4 gB g4 pv => ?_)
    · obtain ⟨x8, x9, x10, rfl⟩ := pv
      obtain ⟨hi, rfl⟩ := range_at hd
      have g45 := g4.same s45
      have g35 := gB.trans g45
      have g25 := g3.trans g35
      have g15 := g13.trans g35
      obtain ⟨n, hn, hn60⟩ := sizes_ok i hi
      refine n_setG (m := mp p) (C := fun d => ∃ log, d = logD log ∧ log.length = n ∧ ∀ e ∈ log, e.1 ∈ s.kinds ∧ AmtOk e.2) g45.2 (g_pcall (R := R_events) rfl (ga_cons (e_var rfl (h1.go g15)) (ga_cons (C := fun d => d = .int (n : Int)) (e_ixN (ds := sizesL.map fun (n : Nat) => Dt.int (n : Int)) (j := i) (l_lst (a_cons (e_int (i := 2)) (a_cons (e_int (i := 5)) (a_cons (e_int (i := 12)) (a_cons (e_int (i := 60)) a_nil)))) (sz (by show 4 ≤ 100000; decide))) (e_var rfl hx) (by rw [List.getElem?_map, hn]; rfl))
        (ga_cons (C := fun d => ∃ wd : Int, d = .int wd ∧ 1 ≤ wd ∧ wd ≤ big) (G.imp (g_ixN (ds := [.int 1, .int 2, .int 9, .int (10 ^ (30 : Int).toNat)]) (l_lst (a_cons e_int (a_cons e_int (a_cons e_int (a_cons (e_pow (i := 10) (j := 30) e_int e_int ⟨by decide, by decide, by decide⟩) a_nil)))) (sz (by show 4 ≤ 100000; decide))) (G.imp (g_drawN (k := 4) rfl e_int (by decide) (by decide)) fun d ⟨j, e, hj⟩ => ⟨j, e, hj⟩)) fun d hd => ?_) ga_nil))) fun ds ⟨da, es, ea, ca, db, es2, eb, cb, dc, es3, ec, ⟨wd, cc, w1, w2⟩, e3⟩ => ?_) fun v9 d9 H6 g6 y9 ⟨log, e9, hlen, hlk⟩ => ?_
      · simp only [List.mem_cons, List.not_mem_nil, or_false] at hd
        rcases hd with rfl | rfl | rfl | rfl
        · exact ⟨1, rfl, by decide, by decide⟩
        · exact ⟨2, rfl, by decide, by decide⟩
        · exact ⟨9, rfl, by decide, by decide⟩
        · exact ⟨_, rfl, by decide, by decide⟩
      · subst e3
        subst cc
        subst ec
        subst cb
        subst eb
        subst ca
        subst ea
        exact ⟨s, n, wd, rfl, hv, by omega, w1, w2, rfl⟩
      subst e9
      refine nrm (σ' := [some (.ref p), some v1, some v2, some (.bl nat), some (.ref a1), some (.ref a2), some (.bl o.isNone), some (.bl o2.isNone), some x, some v9, x10, none]) rfl ?_
      have g16 := g15.trans g6
      have y9 : Is K H6 (.tup (log.map fun e => evD e.1 e.2)) v9 := y9
      refine n_iteSet (C := evC s nat) (Cb := fun b => b = nat) g6.2 (t_B (K := K) (e_var rfl (.bl nat))) (fun hb => ?_) rfl y9 (fun hb => ?_) fun v9' d9' H7 g7 y9' ⟨log', e9', hl', hk', hn'⟩ => ?_
      · refine g_of (e_tupL (l_map (f := fun d => match d with | .tup [.str k, .int a] => evD k (if a < 0 then -a else a) | _ => .non) (i_tup (e_var rfl y9)) (by rw [List.length_map]; exact sz (by omega)) fun i2 d2 x2 Hx hd2 gx hx2 => ?_)) ?_
        · obtain ⟨e, _, rfl⟩ := List.mem_map.mp (List.mem_of_getElem? hd2)
          exact e_tup (a_cons (e_ixT (e_var rfl hx2) e_int rfl) (a_cons (e_abs (e_ixT (e_var rfl hx2) e_int rfl)) a_nil)) (sz (by show 2 ≤ 100000; decide))
        · refine ⟨log.map fun e => (e.1, if e.2 < 0 then -e.2 else e.2), ?_, by rw [List.length_map]; omega, fun e he => ?_, fun _ e he => ?_⟩
          · unfold logD
            rw [List.map_map, List.map_map]
            rfl
          · obtain ⟨e', he', rfl⟩ := List.mem_map.mp he
            obtain ⟨z1, z2, z3⟩ := hlk e' he'
            refine ⟨z1, ?_⟩
            show AmtOk (if e'.2 < 0 then -e'.2 else e'.2)
            unfold AmtOk
            split <;> omega
          · obtain ⟨e', he', rfl⟩ := List.mem_map.mp he
            show 0 ≤ (if e'.2 < 0 then -e'.2 else e'.2)
            split <;> omega
      · exact ⟨log, rfl, by omega, hlk, fun z => by rw [← hb] at z; cases z⟩
      subst e9'
      refine nrm (σ' := [some (.ref p), some v1, some v2, some (.bl nat), some (.ref a1), some (.ref a2), some (.bl o.isNone), some (.bl o2.isNone), some x, some v9', x10, none]) rfl ?_
      have g27 := (g25.trans g6).trans g7
      have ht7 := ht2.tk g27.tk
      have hlog : LogOk s.kinds log' := ⟨by omega, fun e he => ⟨(hk' e he).1, hv.kinds.2.2.1 _ (hk' e he).1, (hk' e he).2⟩⟩
      have hlogt : LogOk t.kinds log' := by rw [← hk]; exact hlog
      have hkk : ∀ e ∈ log', e.1 ∈ s.kinds := fun e he => (hk' e he).1
      refine n_setGL (K := K) (m := mp p) (CL := fun x => x = [s.res log', t.res log'].map oD) g7.2 (LE.cast (l_lst (a_cons (e_scall rfl (e_var (i := 4) rfl (.adr a1)) (e_var rfl y9') ht7.h1 hv hlog) (a_cons (e_scall hs.symm (e_var (i := 5) rfl (.adr a2)) (e_var rfl y9') ht7.h2 hvt hlogt) a_nil)) (sz (by show 2 ≤ 100000; decide))) rfl) fun l10 d10 H8 n8 g8 hL8 e8 => ?_
      subst e8
      refine nrm (σ' := [some (.ref p), some v1, some v2, some (.bl nat), some (.ref a1), some (.ref a2), some (.bl o.isNone), some (.bl o2.isNone), some x, some v9', some (.ref l10), none]) rfl ?_
      obtain ⟨f1, f2, f3⟩ := oD_scal (s.res log') (t.res log')
      obtain ⟨f4, _, _⟩ := oD_scal (t.res log') (s.res log')
      refine r_ifF g8.2 (TE'.cast (t_or (t_and (t_B (K := K) (e_var rfl (.bl o.isNone))) (fun _ => t_test (e_ne (e_ixS (d := oD (s.res log')) (j := 0) rfl hL8 e_int rfl) (e_ixS (d := oD (t.res log')) (j := 1) rfl hL8 e_int rfl) f1 f4 f2))) (fun _ => t_and (t_B (K := K) (e_var rfl (.bl o2.isNone))) (fun _ => t_B (e_call (d := .bl (abv s.side (s.res log') (t.res log'))) (a_cons (e_p0 (e_var rfl (((h1.go g16).go g7).go g8))) (a_cons (e_ixS (d := oD (s.res log')) (j := 0) rfl hL8 e_int rfl) (a_cons (e_ixS (d := oD (t.res log')) (j := 1) rfl hL8 e_int rfl) a_nil))) fun Hx gx => ⟨s.side, _, _, rfl, rfl⟩)))) ?_) fun H9 g9 => ⟨(((g45.trans g6).trans g7).trans g8).trans g9, _, _, _, rfl⟩
      rw [f3]
      have e1 : o.isNone = true → s.res log' = t.res log' := fun e => by
        cases o with
        | some w => cases e
        | none => exact yes_equal hs hk (eq_of_none ho) hkk hn'
      have e2 : o2.isNone = true → abv s.side (s.res log') (t.res log') = false := fun e => by
        cases o2 with
        | some w => cases e
        | none => exact never_under hs hk ho2 hkk hn'
      cases z1 : o.isNone with
      | false =>
        cases z2 : o2.isNone with
        | false => rfl
        | true => rw [e2 z2]; rfl
      | true =>
        rw [hun z1, e2 (hun z1), e1 z1, decide_eq_true rfl]
        rfl
    · exact r_retG (C := fun d => d = .bl true) g4.2 e_bl fun v d H9 g9 hv9 ed => q v d H9 (((g13.trans gB).trans g4).trans g9) hv9 ed
/-! ### one cell -/
/-- equal(_law_of(..), _law_of(..), natural=..) -/
theorem g_eqof {s t : Stt Str} {nat : Bool} {tn : TE} {E1 E2 Er : XK} (h1 : TPk.E K m ta σ H (plainD s)) (h2 : TPk.E K m tb σ H (plainD t)) (hn : TPk.E K m tn σ H (.bl nat)) (v1 : SV s) (v2 : SV t) (hs : s.side = t.side) (hk : s.kinds = t.kinds) (he : ∀ w : Word Str, s.accW nat w = t.accW nat w) :
    TPk.E K m (tCallN 2 1 (Pn K (R_equal K)) (fun vs zs => vs ++ zs) Er (tCons (tCall (spOf K) [] E1 (tCons ta tNil)) (tCons (tCall (spOf K) [] E2 (tCons tb tNil)) tNil)) (tCons tn tNil)) σ H (.bl true) := fun H1 g Q q =>
  of_go h1 v1 g fun a1 H2 g2 s1 => of_go h2 v2 (g.trans g2) fun a2 H3 g3 s2 => by
    refine AE.go (a_nil (K := K) (m := m) (σ := σ) (H := H)) ((g.trans g2).trans g3) fun xs0 H3b g3b h0 => ?_
    cases h0
    have g3 := g3.trans g3b
    have s2 := s2.go g3b
    refine AE.go (a_cons hn a_nil : AE K m (tCons tn tNil) σ H [.bl nat]) ((g.trans g2).trans g3) fun zs H4 g4 hz => ?_
    obtain ⟨v, rfl, hv⟩ := hz.inv1
    refine ⟨rfl, rfl, [.adr a1, .adr a2, .bl nat], _, .cons (.adr a1) (.cons (.adr a2) (.cons hv .nil)), ⟨a1, a2, s, t, nat, rfl, ⟨(s1.go g3).go g4, s2.go g4, v1, v2, hs, hk⟩, rfl⟩, fun u d H5 s5 hu ⟨o, ho, ed⟩ => ?_⟩
    subst ed
    rw [told_same he ho] at hu
    exact q u _ H5 (((g2.trans g3).trans g4).same s5) hu rfl
def R_right : List Dt → (Dt → Prop) → Prop := fun ds C => ds = [] ∧ C = fun d => d = .bl true
theorem ren_same {s : Stt Str} {k : Nat} (hv : SV s) (hk : k + 1 < s.start.length) (nat : Bool) (w : Word Str) : s.accW nat w = (ren k s).accW nat w := (ren_accW hk hv.start.2 (fun r hr => ⟨(hv.rules.2 r hr).1, fun t ht c hc => codes_lt (((hv.rules.2 r hr).2 t ht).inc c hc) hv.start.2⟩) hv.ends.2.2 nat w).symm
theorem c_l_right (T : Fx K mg) : C8.Cal P w K mg base 9 "_law_right" (Pp K R_right) [] := by
  have c_l_draw := c_l_draw (P := P) (w := w) (base := base) T
  have c_l_great := c_l_great (P := P) (w := w) (base := base) T
  have c_l_no_right := c_l_no_right (P := P) (w := w) (base := base) T
  have c_l_of := c_l_of (P := P) (w := w) (base := base) T
  have c_l_renamed := c_l_renamed (P := P) (w := w) (base := base) T
  have c_l_varied := c_l_varied (P := P) (w := w) (base := base) T
  have c_l_yes_right := c_l_yes_right (P := P) (w := w) (base := base) T
  have c_equal := c_equal (P := P) (w := w) (base := base) T
  obtain ⟨fd, F⟩ := T.D.def_ 54
  refine ⟨_, fd, ["_law_pool_here"], [], ok0 F sc_l_right (fun vs H Q Er h => ?_) (fun cdv Ar outer sh H vs Q Er hr h => ?_), T.m_law_right, F.kp, F.bindsN (fun kV doc pm an cdv ct us hl => match us, hl with | [_], _ => rfl), .nil⟩
  · obtain ⟨p, us, ds, C, rfl, _, hI, ⟨rfl, _⟩, q⟩ := h
    exact congrArg Nat.succ hI.length.symm
  · obtain ⟨p, us, ds, C, rfl, hp, hI, ⟨rfl, rfl⟩, q⟩ := h
    cases hI
    refine ⟨_, (pss_cons (ps_par (i := 1) (j := 2) rfl sc_l_right.nd rfl rfl (by decide) rfl rfl (pa_cons (C8.pe_c c_l_great hr (by decide) rfl (pa_cons (pv 0) pa_nil)) (pa_cons (pe_cmpR op_eq (C8.pe_c c_l_draw hr (by decide) rfl (pa_cons (pv 0) (pa_cons pe_int pa_nil))) pe_int (nomark _)) pa_nil)) (by rfl))
    (pss_cons (ps_set (i := 3) sc_l_right.nd rfl (Or.inl rfl) (C8.pe_c c_l_varied hr (by decide) rfl (pa_cons (pv 0) (pa_cons (pv 1) pa_nil))))
    (pss_cons (ps_for PassesOwn.never rfl (pi_list (pe_lst (pa_cons (pe_tup (pa_cons (pv 1) (pa_cons (pv 3) pa_nil))) (pa_cons (pe_tup (pa_cons (pv 3) (pa_cons (pv 1) pa_nil))) pa_nil)))) (pg_name (i := 4) sc_l_right.nd rfl (Or.inl rfl)) (pss_cons (ps_if (pt_not (pt_val (C8.pe_c c_l_no_right hr (by decide) rfl (pa_cons (pe_ix ix_tup (pv 4) pe_int (fun _ _ => rfl)) (pa_cons (pe_ix ix_tup (pv 4) pe_int (fun _ _ => rfl)) (pa_cons (pv 2) pa_nil)))))) (pss_one (ps_ret pe_bl)) pss_nil)
    (pss_one (ps_if (pt_not (pt_val (C8.pe_c c_l_yes_right hr (by decide) rfl (pa_cons (pv 0) (pa_cons (pe_ix ix_tup (pv 4) pe_int (fun _ _ => rfl)) (pa_cons (pe_ix ix_tup (pv 4) pe_int (fun _ _ => rfl)) (pa_cons (pv 2) pa_nil))))))) (pss_one (ps_ret pe_bl)) pss_nil))))
    (pss_cons (ps_if (pt_cmpR op_gt (pe_callB call_len_seq rfl T.f_len PySem.boot_len (pa_cons (pe_ix ix_tup (pv 1) pe_int (fun _ _ => rfl)) pa_nil)) pe_int (nomark _)) (pss_cons (ps_set (i := 5) sc_l_right.nd rfl (Or.inl rfl) (C8.pe_c c_l_renamed hr (by decide) rfl (pa_cons (pv 1) (pa_cons (C8.pe_c c_l_draw hr (by decide) rfl (pa_cons (pv 0) (pa_cons (pe_op op_sub (pe_callB call_len_seq rfl T.f_len PySem.boot_len (pa_cons (pe_ix ix_tup (pv 1) pe_int (fun _ _ => rfl)) pa_nil)) pe_int) pa_nil))) pa_nil))))
    (pss_one (ps_if (pt_not (pt_val (pe_kw c_equal hr (by decide) rfl (pa_cons (C8.pe_c c_l_of hr (by decide) rfl (pa_cons (pv 1) pa_nil)) (pa_cons (C8.pe_c c_l_of hr (by decide) rfl (pa_cons (pv 5) pa_nil)) pa_nil)) (pk_cons (pv 2) pk_nil)))) (pss_one (ps_ret pe_bl)) pss_nil))) pss_nil)
    (pss_one (ps_ret (pe_kw c_equal hr (by decide) rfl (pa_cons (C8.pe_c c_l_of hr (by decide) rfl (pa_cons (pv 1) pa_nil)) (pa_cons (C8.pe_c c_l_of hr (by decide) rfl (pa_cons (pv 1) pa_nil)) pa_nil)) (pk_cons (pv 2) pk_nil)))))))), ?_⟩
    refine n_par (m := mp p) (C1 := fun d => ∃ s, d = plainD s ∧ SV s) (C2 := fun d => ∃ b, d = .bl b) hp (g_pcall (R := R_great) rfl ga_nil fun ds e => ⟨e, rfl⟩) (g_op (C := fun d => ∃ b, d = .bl b) (g_draw (k := 2) rfl e_int (by decide) (by decide)) e_int fun d e ⟨j, ed, _⟩ ee H4 x y g4 hx hy Q qq => ?_) fun v1 v2 d1 d2 H1 g1 y1 y2 ⟨s, e1, hv⟩ ⟨nat, e2⟩ => ?_
    · subst ed
      subst ee
      rw [hx.int_inv, hy.int_inv]
      exact ⟨rfl, qq _ (.bl _) H4 g4.again (.bl _) ⟨_, rfl⟩⟩
    subst e1
    subst e2
    refine n_setG (C := fun d => ∃ t, d = plainD t ∧ SV t ∧ t.side = s.side ∧ t.kinds = s.kinds) g1.2 (g_pcall (R := R_varied) rfl (ga_cons (e_var rfl y1) ga_nil) fun ds ⟨d, es, ea, ca, eb⟩ => ?_) fun v3 d3 H2 g2 y3 ⟨t, e3, hvt, hs, hk⟩ => ?_
    · subst eb
      subst ca
      subst ea
      exact ⟨s, rfl, hv, fun s' b1 b2 b3 => ⟨s', rfl, b1, b2, b3⟩⟩
    subst e3
    refine nrm (σ' := [some (.ref p), some v1, some v2, some v3, none, none]) rfl ?_
    have y12 := y1.go g2
    have y22 := y2.go g2
    have g12 := g1.trans g2
    refine n_for (K := K) (m := mp p) g2.2 (i_list (l_lst (a_cons (e_tup (a_cons (e_var rfl y12) (a_cons (e_var rfl y3) a_nil)) (sz (by show 2 ≤ 100000; decide))) (a_cons (e_tup (a_cons (e_var rfl y3) (a_cons (e_var rfl y12) a_nil)) (sz (by show 2 ≤ 100000; decide))) a_nil)) (sz (by show 2 ≤ 100000; decide))) (fun _ z => z.elim)) (fun i σ' _ => ∃ x4, σ' = [some (.ref p), some v1, some v2, some v3, x4, none]) (fun B _ => ⟨_, rfl⟩) (fun B i d x σ' H4 H5 gB hd g4 pv s45 hx => ?_) (fun B σ' H4 gB g4 pv => ?_)
    · obtain ⟨x4, rfl⟩ := pv
      obtain ⟨a, b, rfl, hva, hvb, hab, hkab⟩ : ∃ a b, d = .tup [plainD a, plainD b] ∧ SV a ∧ SV b ∧ a.side = b.side ∧ a.kinds = b.kinds := by
        have : d = .tup [plainD s, plainD t] ∨ d = .tup [plainD t, plainD s] := by simpa using List.mem_of_getElem? hd
        rcases this with rfl | rfl
        · exact ⟨s, t, rfl, hv, hvt, hs.symm, hk.symm⟩
        · exact ⟨t, s, rfl, hvt, hv, hs, hk⟩
      have g45 := g4.same s45
      have y25 := y22.go (gB.trans g45)
      refine n_no g45.2 (TE'.cast (t_not (t_B (e_call (d := .bl true) (a_cons (e_ixT (e_var rfl hx) e_int rfl) (a_cons (e_ixT (e_var rfl hx) e_int rfl) (a_cons (e_var rfl y25) a_nil))) fun Hx gx => ⟨a, b, nat, rfl, hva, hvb, hab, hkab, rfl⟩))) rfl) fun H6 g6 => ?_
      have hx6 := hx.go g6
      refine r_ifF g6.2 (TE'.cast (t_not (t_B (te := tCall (Pp K R_yes) [] _ _) (b := true) (g_pcall (R := R_yes) (C := fun d => d = .bl true) rfl (ga_cons (e_ixT (d := plainD a) (e_var rfl hx6) e_int rfl) (ga_cons (e_ixT (d := plainD b) (e_var rfl hx6) e_int rfl) (ga_cons (e_var rfl (y25.go g6)) ga_nil))) fun ds ⟨da, es, ea, ca, db, es2, eb, cb, dc, es3, ec, cc, e3⟩ => ?_))) rfl) fun H7 g7 => ⟨(g45.trans g6).trans g7, _, rfl⟩
      subst e3
      subst cc
      subst ec
      subst cb
      subst eb
      subst ca
      subst ea
      exact ⟨a, b, nat, rfl, hva, hvb, hab, hkab, rfl⟩
    · obtain ⟨x4, rfl⟩ := pv
      have g24 := gB.trans g4
      have g14 := g12.trans g24
      have y14 := y12.go g24
      have y24 := y22.go g24
      have hsl : (s.start.map fun b => if b = true then Dt.int 0 else .non).length = s.start.length := List.length_map ..
      have h6 := hv.start.2
      refine n_ite g4.2 (t_test (e_gt (E.cast (e_lenT (e_p2 (e_var rfl y14))) (by rw [hsl])) e_int)) (fun h0 H5 g5 => ?_) (fun h0 H5 g5 => ?_)
      · have h0 := of_decide_eq_true h0
        have y15 := y14.go g5
        refine n_setG (C := fun d => ∃ k, d = plainD (ren k s) ∧ k + 1 < s.start.length) g5.2 (g_callU (R := R_renamed) (ga_cons (e_var rfl y15) (ga_cons (g_drawN (k := s.start.length - 1) rfl (E.cast (e_sub (e_lenT (e_p2 (e_var rfl y15))) e_int) ?_) (by omega) (by omega)) ga_nil)) fun ds ⟨d, es, e1, c1, d2, es2, e2, ⟨k2, c2, hk2⟩, e3⟩ => ?_) fun v5 d5 H6 g6 y5 ⟨k, e5, hk5⟩ => ?_
        · rw [hsl]
          exact congrArg Dt.int (by omega)
        · subst e3
          subst c2
          subst e2
          subst c1
          subst e1
          have hk3 : k2 + 1 < s.start.length := by omega
          exact ⟨_, fun Hx => ⟨s, k2, rfl, hv, hk3, rfl⟩, k2, rfl, hk3⟩
        subst e5
        have y26 := (y24.go g5).go g6
        refine r_ifF g6.2 (TE'.cast (t_not (t_B (b := true) (g_eqof (e_var rfl (y15.go g6)) (e_var rfl y5) (e_var rfl y26) hv (ren_SV hv hk5).1 rfl rfl (ren_same hv hk5 nat)))) rfl) fun H7 g7 => ?_
        exact r_retG (C := fun d => d = .bl true) g7.2 (g_eqof (e_var rfl ((y15.go g6).go g7)) (e_var rfl ((y15.go g6).go g7)) (e_var rfl (y26.go g7)) hv hv rfl rfl fun _ => rfl) fun v d H8 g8 hv8 ed => q v d H8 ((((g14.trans g5).trans g6).trans g7).trans g8) hv8 ed
      · exact r_retG (C := fun d => d = .bl true) g5.2 (g_eqof (e_var rfl (y14.go g5)) (e_var rfl (y14.go g5)) (e_var rfl (y24.go g5)) hv hv rfl rfl fun _ => rfl) fun v d H8 g8 hv8 ed => q v d H8 ((g14.trans g5).trans g8) hv8 ed
end
end TPk
end F22_text

section F23_text
set_option Elab.async false
set_option linter.all false
set_option maxRecDepth 100000
set_option maxHeartbeats 1200000
/-! The law, and the end. -/
namespace TPk
open PySem PySem.Spec PyProof.Rows L2
theorem sc_law : FnScope ["_law_cells", "_law_k"] ["_law_cells"] (defScope s_law) := ⟨rfl, rfl, rfl, by decide +kernel, rfl, by decide +kernel, by decide +kernel⟩
section
variable {P : Program} {w : World} {K : PySem.W.Frag} {mg : Str → Option Value} {base : Heap} {m : Mo} {σ : L2.St} {H : Hp} {ta tb te : TE} {C C1 C2 : Dt → Prop}
theorem e_max2 {i j : Int} (ha : TPk.E K m ta σ H (.int i)) (hb : TPk.E K m tb σ H (.int j)) : TPk.E K m (tCB (fun xs H Q => ∃ i j, xs = [.int i, .int j] ∧ Q (.int (if j > i then j else i)) H) (tCons ta (tCons tb tNil))) σ H (.int (if j > i then j else i)) := fun H1 g Q q =>
  ha.go g fun v H2 g2 hv => hb.go (g.trans g2) fun u H3 g3 hu => ⟨i, j, by rw [hv.int_inv, hu.int_inv], q _ _ H3 (g2.trans g3) (.int _) rfl⟩
theorem e_min2 {i j : Int} (ha : TPk.E K m ta σ H (.int i)) (hb : TPk.E K m tb σ H (.int j)) : TPk.E K m (tCB (fun xs H Q => ∃ i j, xs = [.int i, .int j] ∧ Q (.int (if j < i then j else i)) H) (tCons ta (tCons tb tNil))) σ H (.int (if j < i then j else i)) := fun H1 g Q q =>
  ha.go g fun v H2 g2 hv => hb.go (g.trans g2) fun u H3 g3 hu => ⟨i, j, by rw [hv.int_inv, hu.int_inv], q _ _ H3 (g2.trans g3) (.int _) rfl⟩
theorem t_cell {a : Addr} {ns : List Int} {k : Nat} {E1 E2 E3 : XK} (h0 : σ[0]? = some (some (.ref a))) (h1 : σ[1]? = some (some (.int (k : Int)))) (hq : SqL K H a (ns.map V.int)) (hk : k ≤ 1000) :
    TE' m0 (tB (tCall (Pp K R_right) [] E1 (tCons (tCall spPool [] E2 (tCons (tCall (spCell K) [] E3 (tCons (tVar 0) (tCons (tVar 1) tNil))) tNil)) tNil))) σ H true := fun H1 g Q q =>
  ⟨.ref a, h0, .int (k : Int), h1, a, ns, k, rfl, Same.seq g.to0 hq, hk, fun i H2 s2 => ⟨i, rfl, fun p H3 np s3 hp => ⟨p, [], [], _, rfl, hp, .nil, ⟨rfl, rfl⟩, fun v d H4 g4 hv ed => by
    subst ed
    refine ⟨true, hv.bl_inv, q true H4 (go0 fun b o e => ?_) rfl⟩
    refine g4.1 b o (s3 b o (s2 b o e)) fun z => ?_
    have z : b = p := z
    rw [← z, s2 b o e] at np
    cases np⟩⟩⟩
def spLaw (K : PySem.W.Frag) : Sp := fun vs H Q _ => ∃ (a : Addr) (ns : List Int), vs = [.ref a] ∧ SqL K H a (ns.map V.int) ∧ ∀ H', Q (.bl true) H'
theorem ok_law (T : Fx K mg) : ∃ fd : FuncData, (∀ (s : Shared) (v : Value), BindsTo s fd ⟨[v], []⟩ [("_law_cells", v)]) ∧ ∀ base : Heap, FnOk P w K mg base C8.CX0 10 (He.ga K "law") fd ["_law_cells"] (spLaw K) := by
  obtain ⟨fd, F⟩ := T.D.def_ 55
  have b := FunD.bindsA (ps := ["_law_cells"]) F fun _ _ _ _ _ _ us hl => match us, hl with | [_], _ => rfl
  refine ⟨fd, fun s v => b s [v] rfl, fun base => ?_⟩
  have c_l_cell := c_l_cell (P := P) (w := w) (base := base) T
  have c_l_pool := c_l_pool (P := P) (w := w) (base := base) T
  have c_l_right := c_l_right (P := P) (w := w) (base := base) T
  refine ok0 F sc_law (fun vs H Q Er h => ?_) (fun cdv Ar outer sh H vs Q Er hr h => ?_)
  · obtain ⟨a, ns, rfl, _⟩ := h
    rfl
  · obtain ⟨a, ns, rfl, hq, q⟩ := h
    refine ⟨_, (pss_cons (ps_for PassesOwn.never rfl (pi_range1 rfl T.f_range (pa_cons (pe_callB (call_max2 rfl) rfl T.f_max (by decide +kernel) (pa_cons pe_int (pa_cons (pe_callB (call_min2 rfl) rfl T.f_min (by decide +kernel) (pa_cons (pe_callB call_len_seq rfl T.f_len PySem.boot_len (pa_cons (pv 0) pa_nil)) (pa_cons pe_int pa_nil))) pa_nil))) pa_nil)) (pg_name (i := 1) sc_law.nd rfl (Or.inl rfl)) (pss_one (ps_if (pt_not (pt_val (C8.pe_c c_l_right hr (by decide) rfl (pa_cons (C8.pe_c c_l_pool hr (by decide) rfl (pa_cons (C8.pe_c c_l_cell hr (by decide) rfl (pa_cons (pv 0) (pa_cons (pv 1) pa_nil))) pa_nil)) pa_nil)))) (pss_one (ps_ret pe_bl)) pss_nil)))
    (pss_one (ps_ret pe_bl))), ?_⟩
    refine k_for (K := K) (i_range (n := max 2 (min ns.length 3)) (E.cast (e_max2 e_int (e_min2 (e_lenQ rfl hq) e_int)) ?_) (by omega)) (fun i σ' _ => ∃ x, σ' = [some (.ref a), x]) (fun B _ => ⟨_, rfl⟩) (fun B i d x σ' H3 H4 hd sA sB p s34 hx => ?_) (fun B σ' H3 sA sB p => ?_)
    · rw [List.length_map]
      refine congrArg Dt.int ?_
      by_cases h1 : (3 : Int) < ((ns.length : Nat) : Int)
      · rw [if_pos h1, if_pos (by decide)]
        omega
      · rw [if_neg h1]
        split <;> omega
    · obtain ⟨y, rfl⟩ := p
      obtain ⟨hi, rfl⟩ := range_at hd
      cases hx.int_inv
      exact q_ifF (TE'.cast (t_not (t_cell rfl rfl (sA.seq hq) (by omega))) rfl) fun H5 s5 => ⟨sB.trans s5, _, rfl⟩
    · obtain ⟨y, rfl⟩ := p
      exact q_ret (K := K) e_bl fun v H5 s5 hv => by cases hv.bl_inv; exact q H5
theorem fx_of {h : Heap} (KX : K.In h) (G : h.Ns mainGlobals mg) (c : SaysX K) : Fx K mg := ⟨congrArg Prod.fst c, congrArg Prod.snd c, ⟨h, KX, G⟩⟩
end
end TPk
open PySem PySem.W PySem.Calls PyProof.Rows
theorem PySem.Challenge.cw_tallypeaks_k41_whole_great_statistics_co_holds : PySem.Challenge.rw_tallypeaks_k41_whole_great_statistics_co.Holds := by
  w_on; o_law
  refine HandSHeadRun.head_any (r := OpenLaw.row PySem.Challenge.rw_tallypeaks_k41_whole_great_statistics_co) (q := view (OpenLaw.row PySem.Challenge.rw_tallypeaks_k41_whole_great_statistics_co).prog [101]) (H := TPk.hookX) (ob := TPk.ob) (M := 8200) (loose := TPk.names) (d := HandSHeadRun.topDef (OpenLaw.row PySem.Challenge.rw_tallypeaks_k41_whole_great_statistics_co).prog 101) (kwd := []) TPk.ob_eq
    (by kernel_rfl) (fun s => by kernel_rfl) TPk.run (by kernel_rfl) (by kernel_rfl) (by kernel_rfl) (by rfl) (by first | assumption | decide +kernel) (by decide +kernel) ⟨rfl, rfl, rfl, rfl, rfl, by decide +kernel⟩ ?hw ?hc
  case hw => w_witness2
  case hc =>
    refine L2.walk_ofE (l := PySem.Challenge.rw_tallypeaks_k41_whole_great_statistics_co) (n := 63) (k := 10) (x := "_law_cells") (CX := C8.CX0) rfl (by decide) (by kernel_rfl) ⟨rfl, by decide, by decide⟩ ?F (fun _ _ _ _ z => z)
    intro w mg fa h Y G hmg0
    obtain ⟨K, KX, c⟩ := Y
    have T : TPk.Fx K mg := TPk.fx_of KX G c
    have hmg : mg ("law" : PySem.Str) = some (.ref fa) := by
      have e : (HandSHeadRun.topDef (OpenLaw.row PySem.Challenge.rw_tallypeaks_k41_whole_great_statistics_co).prog 101).name = ("law" : PySem.Str) := by kernel_rfl
      rw [← e]
      exact hmg0
    have e := hmg.symm.trans T.m_law
    cases e
    obtain ⟨fd, hb, hF⟩ := TPk.ok_law (P := (PySem.Challenge.rw_tallypeaks_k41_whole_great_statistics_co).prog) (w := w) T
    exact ⟨K, fd, TPk.spLaw K, KX, hb, fun H a ns hl _ hS => ⟨a, ns, rfl, hS, fun _ => rfl⟩, fun base _ _ => hF base⟩
end F23_text
