import PyProof.Rows.All
import Wide.All
import OpenK.AllK
import Wide.FinOn
import HandS.ForMost
import HandS.Star
import HandS.Property
import HandS.ClsMeth
import HandS.HeadNt
import PySem.Challenge.RW_passwidth_k19_whole_passes_and_backward
import KE.KStateDown
import Lean
import HandS.Exc
import HandS.WordsExc
import HandS.Defaults
import HandS.Head0
import HandS.Head1
import HandS.Head2
import HandS.HeadEnd
import HandS.HeadHook1
import HandS.HeadHook2
import HandS.GenList
import PyProof.EnumMake
import PyProof.EnumFor
import PyProof.InstNe
import HandS.Zip0
import HandS.Zip
import HandS.Iter
import HandS.SortKw
import PyProof.MinMaxWalk
import PyProof.WalkInts
import PyProof.DictUpdate
import PyProof.DictDisplay
import HandS.Strs
import HandS.Conv
import HandS.DictComp
import HandS.More
import HandS.CallRecv
import PyProof.ListStr
import HandS.IsInst
import HandS.FStr
import HandS.Dict
import HandS.DeepEq
import HandS.Style
/-! The mathematics of the law: passes, chains, moves, needs; plain lists, no program. -/
namespace K19
set_option linter.all false
section
variable {A : Type} [DecidableEq A]

def pos (rows : List A) (x : A) : Nat := rows.idxOf x
def bk (rows : List A) (x o : A) : Nat := if pos rows x < pos rows o then 1 else 0
theorem bk_le (rows : List A) (x o : A) : bk rows x o ≤ 1 := by unfold bk; split <;> omega

structure Dag (rows : List A) (need : A → List A) (rk : A → Nat) : Prop where
  nd : rows.Nodup
  sub : ∀ r, r ∈ rows → ∀ o, o ∈ need r → o ∈ rows
  lt : ∀ r, r ∈ rows → ∀ o, o ∈ need r → rk o < rk r

structure IsPass (rows : List A) (need : A → List A) (p : A → Nat) : Prop where
  one : ∀ r, r ∈ rows → 1 ≤ p r
  ge : ∀ r, r ∈ rows → ∀ o, o ∈ need r → p o + bk rows r o ≤ p r
  eq : ∀ r, r ∈ rows → p r = 1 ∨ ∃ o, o ∈ need r ∧ p r = p o + bk rows r o

/-! ### the passes are there -/
def mxN : List Nat → Nat
  | [] => 1
  | a :: r => max a (mxN r)
theorem mxN_one : ∀ l : List Nat, 1 ≤ mxN l
  | [] => Nat.le_refl _
  | _ :: r => Nat.le_trans (mxN_one r) (Nat.le_max_right _ _)
theorem mxN_ge : ∀ {l : List Nat} {a : Nat}, a ∈ l → a ≤ mxN l
  | b :: r, a, h => by
    rcases List.mem_cons.mp h with e | h
    · subst e; exact Nat.le_max_left _ _
    · exact Nat.le_trans (mxN_ge h) (Nat.le_max_right _ _)
theorem mxN_eq : ∀ l : List Nat, mxN l = 1 ∨ mxN l ∈ l
  | [] => .inl rfl
  | a :: r => by
    show max a (mxN r) = 1 ∨ max a (mxN r) ∈ a :: r
    by_cases h : a ≤ mxN r
    · rw [Nat.max_eq_right h]
      rcases mxN_eq r with e | e
      · exact .inl e
      · exact .inr (List.mem_cons_of_mem _ e)
    · rw [Nat.max_eq_left (by omega)]
      exact .inr List.mem_cons_self

theorem rk_top (rows : List A) (rk : A → Nat) : ∃ n, ∀ r, r ∈ rows → rk r < n := by
  induction rows with
  | nil => exact ⟨0, fun r h => by simp at h⟩
  | cons a l ih =>
    obtain ⟨n, h⟩ := ih
    refine ⟨max n (rk a + 1), fun r hr => ?_⟩
    rcases List.mem_cons.mp hr with e | hr
    · subst e; omega
    · have := h r hr; omega

theorem pass_ex {rows : List A} {need : A → List A} {rk : A → Nat} (D : Dag rows need rk) : ∃ p, IsPass rows need p := by
  have step : ∀ n, ∃ p : A → Nat, ∀ r, r ∈ rows → rk r < n → (1 ≤ p r ∧ (∀ o, o ∈ need r → p o + bk rows r o ≤ p r) ∧ (p r = 1 ∨ ∃ o, o ∈ need r ∧ p r = p o + bk rows r o)) := by
    intro n
    induction n with
    | zero => exact ⟨fun _ => 0, fun r _ h => absurd h (Nat.not_lt_zero _)⟩
    | succ n ih =>
      obtain ⟨p, hp⟩ := ih
      let q : A → Nat := fun r => if rk r < n then p r else mxN ((need r).map fun o => p o + bk rows r o)
      have qlt : ∀ r, rk r < n → q r = p r := fun r h => if_pos h
      refine ⟨q, fun r hr hn => ?_⟩
      by_cases h : rk r < n
      · obtain ⟨h1, h2, h3⟩ := hp r hr h
        have qo : ∀ o, o ∈ need r → q o = p o := fun o ho => qlt o (Nat.lt_trans (D.lt r hr o ho) h)
        rw [qlt r h]
        refine ⟨h1, fun o ho => by rw [qo o ho]; exact h2 o ho, ?_⟩
        rcases h3 with e | ⟨o, ho, e⟩
        · exact .inl e
        · exact .inr ⟨o, ho, by rw [qo o ho]; exact e⟩
      · have qo : ∀ o, o ∈ need r → q o = p o := fun o ho => qlt o (by have := D.lt r hr o ho; omega)
        have qr : q r = mxN ((need r).map fun o => p o + bk rows r o) := if_neg h
        rw [qr]
        refine ⟨mxN_one _, fun o ho => by rw [qo o ho]; exact mxN_ge (List.mem_map.mpr ⟨o, ho, rfl⟩), ?_⟩
        rcases mxN_eq ((need r).map fun o => p o + bk rows r o) with e | e
        · exact .inl e
        · obtain ⟨o, ho, e2⟩ := List.mem_map.mp e
          exact .inr ⟨o, ho, by rw [qo o ho]; exact e2.symm⟩
  obtain ⟨n, hn⟩ := rk_top rows rk
  obtain ⟨p, hp⟩ := step n
  exact ⟨p, fun r hr => (hp r hr (hn r hr)).1, fun r hr => (hp r hr (hn r hr)).2.1, fun r hr => (hp r hr (hn r hr)).2.2⟩

/-! ### positions -/
theorem pos_split {pre post : List A} {r o : A} (hn : (pre ++ r :: post).Nodup) (ho : o ≠ r) : bk (pre ++ r :: post) r o = 0 ↔ o ∈ pre := by
  have hr : r ∉ pre := fun h => (List.nodup_append.mp hn).2.2 r h r List.mem_cons_self rfl
  have e1 : pos (pre ++ r :: post) r = pre.length := by
    unfold pos
    rw [List.idxOf_append, if_neg hr, List.idxOf_cons_self, Nat.zero_add]
  unfold bk
  rw [e1]
  unfold pos
  rw [List.idxOf_append]
  by_cases h : o ∈ pre
  · rw [if_pos h]
    have := List.idxOf_lt_length_of_mem h
    rw [if_neg (by omega)]
    exact ⟨fun _ => h, fun _ => rfl⟩
  · rw [if_neg h]
    have : (r :: post).idxOf o ≠ 0 := by
      rw [List.idxOf_cons]
      have hb : (r == o) = false := by
        cases e : r == o with
        | false => rfl
        | true => exact absurd (eq_of_beq e).symm ho
      rw [hb]
      simp
    rw [if_pos (by omega)]
    exact ⟨fun z => absurd z (by decide), fun z => absurd z h⟩

/-! ### the reader -/
def accL (rows : List A) (p : A → Nat) : Nat → List A
  | 0 => []
  | k + 1 => accL rows p k ++ rows.filter fun r => decide (p r = k + 1)
theorem mem_accL {rows : List A} {p : A → Nat} (h1 : ∀ r, r ∈ rows → 1 ≤ p r) {r : A} : ∀ {k : Nat}, r ∈ accL rows p k ↔ r ∈ rows ∧ p r ≤ k
  | 0 => ⟨fun h => by simp [accL] at h, fun ⟨h, h2⟩ => by have := h1 r h; omega⟩
  | k + 1 => by
    have ih := mem_accL h1 (r := r) (k := k)
    show r ∈ accL rows p k ++ rows.filter (fun r => decide (p r = k + 1)) ↔ _
    rw [List.mem_append, ih, List.mem_filter]
    constructor
    · rintro (⟨h, h2⟩ | ⟨h, h2⟩)
      · exact ⟨h, by omega⟩
      · exact ⟨h, by have := of_decide_eq_true h2; omega⟩
    · rintro ⟨h, h2⟩
      by_cases e : p r = k + 1
      · exact .inr ⟨h, decide_eq_true e⟩
      · exact .inl ⟨h, by omega⟩

theorem step_iff {rows : List A} {need : A → List A} {rk p : A → Nat} (D : Dag rows need rk) (I : IsPass rows need p) {pre post : List A} {r : A} (e : rows = pre ++ r :: post) (k : Nat) :
    (r ∉ accL rows p k ++ (pre.filter fun x => decide (p x = k + 1)) ∧ ∀ o, o ∈ need r → o ∈ accL rows p k ++ pre.filter fun x => decide (p x = k + 1)) ↔ p r = k + 1 := by
  have hr : r ∈ rows := by rw [e]; simp
  have hn : (pre ++ r :: post).Nodup := e ▸ D.nd
  have hrp : r ∉ pre := fun h => (List.nodup_append.mp hn).2.2 r h r List.mem_cons_self rfl
  have hpre : ∀ o, o ∈ pre → o ∈ rows := fun o h => by rw [e]; exact List.mem_append_left _ h
  constructor
  · rintro ⟨h1, h2⟩
    have hk : ¬ p r ≤ k := fun h => h1 (List.mem_append_left _ ((mem_accL I.one).mpr ⟨hr, h⟩))
    rcases I.eq r hr with q | ⟨o, ho, q⟩
    · omega
    · have hor : o ≠ r := fun z => by have := D.lt r hr o ho; rw [z] at this; omega
      rcases List.mem_append.mp (h2 o ho) with z | z
      · have z2 := ((mem_accL I.one).mp z).2
        have := bk_le rows r o
        omega
      · obtain ⟨z1, z2⟩ := List.mem_filter.mp z
        have b0 : bk rows r o = 0 := by rw [e]; exact (pos_split hn hor).mpr z1
        have := of_decide_eq_true z2
        omega
  · intro hk
    refine ⟨fun h => ?_, fun o ho => ?_⟩
    · rcases List.mem_append.mp h with z | z
      · have := ((mem_accL I.one).mp z).2; omega
      · exact hrp (List.mem_filter.mp z).1
    · have hor : o ≠ r := fun z => by have := D.lt r hr o ho; rw [z] at this; omega
      have hg := I.ge r hr o ho
      by_cases hle : p o ≤ k
      · exact List.mem_append_left _ ((mem_accL I.one).mpr ⟨D.sub r hr o ho, hle⟩)
      · have b0 : bk rows r o = 0 := by omega
        rw [e] at b0
        have hop := (pos_split hn hor).mp b0
        exact List.mem_append_right _ (List.mem_filter.mpr ⟨hop, decide_eq_true (by omega)⟩)

theorem accL_length {rows : List A} {p : A → Nat} (h1 : ∀ r, r ∈ rows → 1 ≤ p r) : ∀ k, (accL rows p k).length = (rows.filter fun r => decide (p r ≤ k)).length
  | 0 => by
    have : rows.filter (fun r => decide (p r ≤ 0)) = [] := List.filter_eq_nil_iff.mpr fun r hr h => by
      have := h1 r hr
      have := of_decide_eq_true h
      omega
    rw [this] <;> rfl
  | k + 1 => by
    show (accL rows p k ++ rows.filter fun r => decide (p r = k + 1)).length = _
    rw [List.length_append, accL_length h1 k]
    clear h1
    induction rows with
    | nil => rfl
    | cons a l ih =>
      simp only [List.filter_cons]
      by_cases e1 : p a ≤ k
      · rw [if_pos (decide_eq_true e1), if_neg (by simp; omega), if_pos (decide_eq_true (by omega))]
        simp only [List.length_cons]
        omega
      · rw [if_neg (by simp; omega)]
        by_cases e2 : p a = k + 1
        · rw [if_pos (decide_eq_true e2), if_pos (decide_eq_true (by omega))]
          simp only [List.length_cons]
          omega
        · rw [if_neg (by simp; omega), if_neg (by simp; omega)]
          omega
theorem accL_lt {rows : List A} {p : A → Nat} (h1 : ∀ r, r ∈ rows → 1 ≤ p r) {k : Nat} : (accL rows p k).length < rows.length ↔ ∃ r, r ∈ rows ∧ k < p r := by
  rw [accL_length h1, List.length_filter_lt_length_iff_exists]
  constructor
  · rintro ⟨r, hr, h⟩
    exact ⟨r, hr, by simp at h; omega⟩
  · rintro ⟨r, hr, h⟩
    exact ⟨r, hr, by simp; omega⟩
theorem next_pass {rows : List A} {need : A → List A} {rk p : A → Nat} (D : Dag rows need rk) (I : IsPass rows need p) (k : Nat) : ∀ (n : Nat) (r : A), rk r = n → r ∈ rows → k < p r → ∃ r', r' ∈ rows ∧ p r' = k + 1 := by
  intro n
  induction n using Nat.strongRecOn with
  | ind n ih =>
    intro r hn hr hk
    by_cases e : p r = k + 1
    · exact ⟨r, hr, e⟩
    · rcases I.eq r hr with q | ⟨o, ho, q⟩
      · omega
      · have := bk_le rows r o
        exact ih (rk o) (by have := D.lt r hr o ho; omega) o rfl (D.sub r hr o ho) (by omega)
theorem accL_grow {rows : List A} {need : A → List A} {rk p : A → Nat} (D : Dag rows need rk) (I : IsPass rows need p) {k : Nat} (h : (accL rows p k).length < rows.length) : (accL rows p k).length + 1 ≤ (accL rows p (k + 1)).length := by
  obtain ⟨r, hr, hk⟩ := (accL_lt I.one).mp h
  obtain ⟨r', hr', e⟩ := next_pass D I k _ r rfl hr hk
  have hm : r' ∈ rows.filter fun x => decide (p x = k + 1) := List.mem_filter.mpr ⟨hr', decide_eq_true e⟩
  show _ ≤ (accL rows p k ++ rows.filter fun x => decide (p x = k + 1)).length
  rw [List.length_append]
  have := List.length_pos_of_mem hm
  omega
theorem accL_le {rows : List A} {p : A → Nat} (h1 : ∀ r, r ∈ rows → 1 ≤ p r) (k : Nat) : (accL rows p k).length ≤ rows.length := by
  rw [accL_length h1]
  exact List.length_filter_le _ _
theorem accL_nodup {rows : List A} {p : A → Nat} (h1 : ∀ r, r ∈ rows → 1 ≤ p r) (hn : rows.Nodup) : ∀ k, (accL rows p k).Nodup
  | 0 => List.nodup_nil
  | k + 1 => by
    show (accL rows p k ++ rows.filter fun x => decide (p x = k + 1)).Nodup
    refine List.nodup_append.mpr ⟨accL_nodup h1 hn k, hn.sublist List.filter_sublist, fun a ha b hb e => ?_⟩
    subst e
    have q1 := ((mem_accL h1).mp ha).2
    have q2 := of_decide_eq_true (List.mem_filter.mp hb).2
    omega

/-! ### chains of needs -/
def isCh (need : A → List A) : List A → Prop
  | a :: b :: r => a ∈ need b ∧ isCh need (b :: r)
  | _ => True
def backs (rows : List A) : List A → Nat
  | a :: b :: r => bk rows b a + backs rows (b :: r)
  | _ => 0
theorem isCh_snoc {need : A → List A} {x y : A} : ∀ {c : List A}, c.getLast? = some y → (isCh need (c ++ [x]) ↔ isCh need c ∧ y ∈ need x)
  | [], h => by simp at h
  | [a], h => by
    have e : a = y := by simpa using h
    subst e
    show (a ∈ need x ∧ isCh need [x]) ↔ (isCh need [a] ∧ a ∈ need x)
    simp [isCh]
  | a :: b :: r, h => by
    have h2 : (b :: r).getLast? = some y := by rw [← h, List.getLast?_cons_cons]
    have ih := isCh_snoc (need := need) (x := x) h2
    show (a ∈ need b ∧ isCh need (b :: (r ++ [x]))) ↔ ((a ∈ need b ∧ isCh need (b :: r)) ∧ y ∈ need x)
    have ih2 : isCh need (b :: (r ++ [x])) ↔ isCh need (b :: r) ∧ y ∈ need x := ih
    rw [ih2, and_assoc]
theorem backs_snoc {rows : List A} {x y : A} : ∀ {c : List A}, c.getLast? = some y → backs rows (c ++ [x]) = backs rows c + bk rows x y
  | [], h => by simp at h
  | [a], h => by
    have e : a = y := by simpa using h
    subst e
    show bk rows x a + 0 = 0 + bk rows x a
    omega
  | a :: b :: r, h => by
    have h2 : (b :: r).getLast? = some y := by rw [← h, List.getLast?_cons_cons]
    have ih : backs rows (b :: (r ++ [x])) = backs rows (b :: r) + bk rows x y := backs_snoc (rows := rows) (x := x) h2
    show bk rows b a + backs rows (b :: (r ++ [x])) = bk rows b a + backs rows (b :: r) + bk rows x y
    omega
theorem ch_le {rows : List A} {need : A → List A} {p : A → Nat} (I : IsPass rows need p) : ∀ (a : A) (c : List A) (x : A), (a :: c).getLast? = some x → isCh need (a :: c) → (∀ y, y ∈ a :: c → y ∈ rows) → p a + backs rows (a :: c) ≤ p x
  | a, [], x, h, _, _ => by
    have e : a = x := by simpa using h
    subst e
    exact Nat.le_refl _
  | a, b :: c, x, h, hc, hm => by
    have h2 : (b :: c).getLast? = some x := by rw [← h, List.getLast?_cons_cons]
    have ih := ch_le I b c x h2 hc.2 fun y hy => hm y (List.mem_cons_of_mem _ hy)
    have hg := I.ge b (hm b (by simp)) a hc.1
    show p a + (bk rows b a + backs rows (b :: c)) ≤ p x
    omega
theorem ch_top {rows : List A} {need : A → List A} {p : A → Nat} (I : IsPass rows need p) {c : List A} {x : A} (h : c.getLast? = some x) (hc : isCh need c) (hm : ∀ y, y ∈ c → y ∈ rows) : 1 + backs rows c ≤ p x := by
  cases c with
  | nil => simp at h
  | cons a r =>
    have := ch_le I a r x h hc hm
    have := I.one a (hm a List.mem_cons_self)
    omega
/-- a closed collection of chains holds for each row one that shows its pass -/
theorem ch_ex {rows : List A} {need : A → List A} {rk p : A → Nat} (D : Dag rows need rk) (I : IsPass rows need p) {F : List A → Prop} (h1 : ∀ r, r ∈ rows → F [r]) (h2 : ∀ c y r, F c → c.getLast? = some y → r ∈ rows → y ∈ need r → F (c ++ [r])) :
    ∀ (n : Nat) (r : A), rk r = n → r ∈ rows → ∃ c, F c ∧ c.getLast? = some r ∧ isCh need c ∧ (∀ y, y ∈ c → y ∈ rows) ∧ 1 + backs rows c = p r := by
  intro n
  induction n using Nat.strongRecOn with
  | ind n ih =>
    intro r hn hr
    rcases I.eq r hr with q | ⟨o, ho, q⟩
    · exact ⟨[r], h1 r hr, rfl, True.intro, fun y hy => by rw [List.mem_singleton.mp hy]; exact hr, by rw [q]; rfl⟩
    · obtain ⟨c, f, l, ch, m, e⟩ := ih (rk o) (by have := D.lt r hr o ho; omega) o rfl (D.sub r hr o ho)
      refine ⟨c ++ [r], h2 c o r f l hr ho, by simp, (isCh_snoc l).mpr ⟨ch, ho⟩, fun y hy => ?_, ?_⟩
      · rcases List.mem_append.mp hy with z | z
        · exact m y z
        · rw [List.mem_singleton.mp z]; exact hr
      · rw [backs_snoc l, q]
        omega

/-! ### a row is put elsewhere -/
theorem ch_rank {rows : List A} {need : A → List A} {rk : A → Nat} (D : Dag rows need rk) : ∀ (a : A) (c : List A), isCh need (a :: c) → (∀ y, y ∈ a :: c → y ∈ rows) → ∀ y, y ∈ c → rk a < rk y
  | a, [], _, _, y, hy => by simp at hy
  | a, b :: c, hc, hm, y, hy => by
    have h1 := D.lt b (hm b (by simp)) a hc.1
    rcases List.mem_cons.mp hy with e | hy
    · rw [e]; exact h1
    · exact Nat.lt_trans h1 (ch_rank D b c hc.2 (fun z hz => hm z (List.mem_cons_of_mem _ hz)) y hy)
theorem ch_nodup {rows : List A} {need : A → List A} {rk : A → Nat} (D : Dag rows need rk) : ∀ (c : List A), isCh need c → (∀ y, y ∈ c → y ∈ rows) → c.Nodup
  | [], _, _ => List.nodup_nil
  | [a], _, _ => by simp
  | a :: b :: c, hc, hm => by
    refine List.nodup_cons.mpr ⟨fun h => ?_, ch_nodup D (b :: c) hc.2 fun y hy => hm y (List.mem_cons_of_mem _ hy)⟩
    have := ch_rank D a (b :: c) hc hm a h
    omega
/-- two orders that differ in r alone -/
def SameBut (rows rows' : List A) (r : A) : Prop := ∀ x y, x ∈ rows → y ∈ rows → x ≠ r → y ≠ r → bk rows' x y = bk rows x y
theorem SameBut.backs_eq {rows rows' : List A} {r : A} (h : SameBut rows rows' r) : ∀ (c : List A), (∀ y, y ∈ c → y ∈ rows) → r ∉ c → backs rows' c = backs rows c
  | [], _, _ => rfl
  | [_], _, _ => rfl
  | a :: b :: c, hm, hr => by
    have e := h b a (hm b (by simp)) (hm a (by simp)) (fun z => hr (by simp [z])) (fun z => hr (by simp [z]))
    have ih := SameBut.backs_eq h (b :: c) (fun y hy => hm y (List.mem_cons_of_mem _ hy)) fun z => hr (List.mem_cons_of_mem _ z)
    show bk rows' b a + backs rows' (b :: c) = bk rows b a + backs rows (b :: c)
    rw [e, ih]
theorem triple {rows rows' : List A} {a r d : A} (h : bk rows' d a = bk rows d a) : bk rows' r a + bk rows' d r ≤ bk rows r a + bk rows d r + 1 := by
  have q : ∀ (l : List A) (x o : A), (bk l x o = 1 ∧ pos l x < pos l o) ∨ (bk l x o = 0 ∧ pos l o ≤ pos l x) := fun l x o => by
    unfold bk
    by_cases z : pos l x < pos l o
    · exact .inl ⟨if_pos z, z⟩
    · exact .inr ⟨if_neg z, by omega⟩
  rcases q rows' d a with z1 | z1 <;> rcases q rows d a with z2 | z2 <;> rcases q rows' r a with z3 | z3 <;> rcases q rows' d r with z4 | z4 <;> rcases q rows r a with z5 | z5 <;> rcases q rows d r with z6 | z6 <;> omega
theorem SameBut.backs_le {rows rows' : List A} {r : A} (h : SameBut rows rows' r) : ∀ (c : List A), (∀ y, y ∈ c → y ∈ rows) → c.Nodup → backs rows' c ≤ backs rows c + 1
  | [], _, _ => Nat.zero_le _
  | [_], _, _ => Nat.zero_le _
  | a :: b :: c, hm, hn => by
    obtain ⟨n1, n2⟩ := List.nodup_cons.mp hn
    have hm2 : ∀ y, y ∈ b :: c → y ∈ rows := fun y hy => hm y (List.mem_cons_of_mem _ hy)
    have q := bk_le rows' b a
    by_cases ea : a = r
    · subst ea
      have e := h.backs_eq (b :: c) hm2 n1
      show bk rows' b a + backs rows' (b :: c) ≤ bk rows b a + backs rows (b :: c) + 1
      omega
    · by_cases eb : b = r
      · subst eb
        obtain ⟨n3, n4⟩ := List.nodup_cons.mp n2
        cases c with
        | nil =>
          show bk rows' b a + 0 ≤ bk rows b a + 0 + 1
          omega
        | cons d c =>
          have hd : d ≠ b := fun z => n3 (by rw [z]; exact List.mem_cons_self)
          have e := h.backs_eq (d :: c) (fun y hy => hm2 y (List.mem_cons_of_mem _ hy)) n3
          have t := triple (rows := rows) (rows' := rows') (a := a) (r := b) (d := d) (h d a (hm d (by simp)) (hm a (by simp)) hd ea)
          show bk rows' b a + (bk rows' d b + backs rows' (d :: c)) ≤ bk rows b a + (bk rows d b + backs rows (d :: c)) + 1
          omega
      · have e := h b a (hm b (by simp)) (hm a (by simp)) eb ea
        have ih := SameBut.backs_le h (b :: c) hm2 n2
        show bk rows' b a + backs rows' (b :: c) ≤ bk rows b a + backs rows (b :: c) + 1
        omega
theorem move_le {rows rows' : List A} {need : A → List A} {rk p p' : A → Nat} {r : A} (D : Dag rows need rk) (D' : Dag rows' need rk) (I : IsPass rows need p) (I' : IsPass rows' need p') (hm : ∀ x, x ∈ rows' ↔ x ∈ rows) (h : SameBut rows rows' r) : ∀ x, x ∈ rows → p' x ≤ p x + 1 := fun x hx => by
  obtain ⟨c, _, l, ch, m, e⟩ := ch_ex D' I' (F := fun _ => True) (fun _ _ => True.intro) (fun _ _ _ _ _ _ _ => True.intro) _ x rfl ((hm x).mpr hx)
  have m2 : ∀ y, y ∈ c → y ∈ rows := fun y hy => (hm y).mp (m y hy)
  have h1 := ch_top I l ch m2
  have h2 := h.backs_le c m2 (ch_nodup D c ch m2)
  omega
theorem before_sub {x y : A} : ∀ {rows : List A}, rows.Nodup → x ∈ rows → y ∈ rows → x ≠ y → (pos rows x < pos rows y ↔ [x, y].Sublist rows)
  | [], _, h, _, _ => by simp at h
  | a :: l, hn, hx, hy, hxy => by
    obtain ⟨n1, n2⟩ := List.nodup_cons.mp hn
    by_cases ex : a = x
    · subst ex
      have hyl : y ∈ l := by
        rcases List.mem_cons.mp hy with e | e
        · exact absurd e.symm hxy
        · exact e
      have e0 : pos (a :: l) a = 0 := by unfold pos; rw [List.idxOf_cons_self]
      have e1 : pos (a :: l) y = pos l y + 1 := by
        unfold pos
        rw [List.idxOf_cons]
        have hb : (a == y) = false := by
          cases e : a == y with
          | false => rfl
          | true => exact absurd (eq_of_beq e) hxy
        rw [hb]
        rfl
      rw [e0, e1]
      exact ⟨fun _ => List.Sublist.cons_cons _ (List.singleton_sublist.mpr hyl), fun _ => Nat.succ_pos _⟩
    · have hxl : x ∈ l := by
        rcases List.mem_cons.mp hx with e | e
        · exact absurd e.symm ex
        · exact e
      have ex1 : pos (a :: l) x = pos l x + 1 := by
        unfold pos
        rw [List.idxOf_cons]
        have hb : (a == x) = false := by
          cases e : a == x with
          | false => rfl
          | true => exact absurd (eq_of_beq e) ex
        rw [hb]
        rfl
      by_cases ey : a = y
      · subst ey
        have e0 : pos (a :: l) a = 0 := by unfold pos; rw [List.idxOf_cons_self]
        rw [e0]
        refine ⟨fun h => absurd h (Nat.not_lt_zero _), fun h => ?_⟩
        have h2 : [x, a].Sublist l := by
          cases h with
          | cons _ h => exact h
          | cons_cons _ h => exact absurd rfl ex
        exact absurd (h2.subset (by simp)) n1
      · have hyl : y ∈ l := by
          rcases List.mem_cons.mp hy with e | e
          · exact absurd e.symm ey
          · exact e
        have ey1 : pos (a :: l) y = pos l y + 1 := by
          unfold pos
          rw [List.idxOf_cons]
          have hb : (a == y) = false := by
            cases e : a == y with
            | false => rfl
            | true => exact absurd (eq_of_beq e) ey
          rw [hb]
          rfl
        have ih := before_sub n2 hxl hyl hxy
        rw [ex1, ey1]
        refine ⟨fun h => .cons _ (ih.mp (by omega)), fun h => ?_⟩
        have h2 : [x, y].Sublist l := by
          cases h with
          | cons _ h => exact h
          | cons_cons _ h => exact absurd rfl ex
        have := ih.mpr h2
        omega
theorem sub_pos {x y : A} {l rows : List A} (hs : l.Sublist rows) (hn : rows.Nodup) (hx : x ∈ l) (hy : y ∈ l) : bk rows x y = bk l x y := by
  by_cases e : x = y
  · subst e
    unfold bk
    rw [if_neg (Nat.lt_irrefl _), if_neg (Nat.lt_irrefl _)]
  · have hl : l.Nodup := hn.sublist hs
    have h1 := before_sub hn (hs.subset hx) (hs.subset hy) e
    have h1' := before_sub hn (hs.subset hy) (hs.subset hx) (Ne.symm e)
    have h2 := before_sub hl hx hy e
    have h2' := before_sub hl hy hx (Ne.symm e)
    have d : pos l x ≠ pos l y := fun z => e (by
      have a1 := List.idxOf_lt_length_of_mem hx
      have a2 := List.idxOf_lt_length_of_mem hy
      have g1 := List.getElem_idxOf (xs := l) (x := x) a1
      have g2 := List.getElem_idxOf (xs := l) (x := y) a2
      rw [← g1, ← g2]
      congr 1)
    unfold bk
    by_cases h : pos l x < pos l y
    · rw [if_pos h, if_pos (h1.mpr ((h2.mp h).trans hs))]
    · have h' : pos l y < pos l x := by omega
      have := h1'.mpr ((h2'.mp h').trans hs)
      rw [if_neg h, if_neg (by omega)]
/-- the rows with r taken out and put back at i -/
def moved (rows : List A) (r : A) (i : Nat) : List A := (rows.filter fun x => decide (x ≠ r)).take i ++ [r] ++ (rows.filter fun x => decide (x ≠ r)).drop i
theorem moved_perm {rows : List A} {r : A} (hn : rows.Nodup) (hr : r ∈ rows) (i : Nat) : (moved rows r i).Perm rows := by
  have h1 : (moved rows r i).Perm (r :: rows.filter fun x => decide (x ≠ r)) := by
    unfold moved
    rw [List.append_assoc, List.singleton_append]
    refine List.perm_middle.trans ?_
    rw [List.take_append_drop]
  refine h1.trans ?_
  have h2 : rows.filter (fun x => decide (x ≠ r)) = rows.erase r := by
    rw [List.Nodup.erase_eq_filter hn]
    refine List.filter_congr fun x _ => ?_
    by_cases e : x = r <;> simp [e]
  rw [h2]
  exact (List.perm_cons_erase hr).symm
theorem moved_same {rows : List A} {r : A} (hn : rows.Nodup) (hr : r ∈ rows) (i : Nat) : SameBut rows (moved rows r i) r := fun x y hx hy ex ey => by
  have hn' : (moved rows r i).Nodup := (moved_perm hn hr i).nodup_iff.mpr hn
  have s1 : (rows.filter fun x => decide (x ≠ r)).Sublist rows := List.filter_sublist
  have s2 : (rows.filter fun x => decide (x ≠ r)).Sublist (moved rows r i) := by
    have e : rows.filter (fun x => decide (x ≠ r)) = (rows.filter fun x => decide (x ≠ r)).take i ++ (rows.filter fun x => decide (x ≠ r)).drop i := (List.take_append_drop _ _).symm
    unfold moved
    rw [List.append_assoc]
    conv => lhs; rw [e]
    exact List.Sublist.append (List.Sublist.refl _) (List.sublist_append_right _ _)
  have mx : x ∈ rows.filter fun x => decide (x ≠ r) := List.mem_filter.mpr ⟨hx, decide_eq_true ex⟩
  have my : y ∈ rows.filter fun x => decide (x ≠ r) := List.mem_filter.mpr ⟨hy, decide_eq_true ey⟩
  rw [sub_pos s2 hn' mx my, sub_pos s1 hn mx my]

/-! ### one pass; a need more -/
theorem one_pass {rows : List A} {need : A → List A} {rk p : A → Nat} (D : Dag rows need rk) (I : IsPass rows need p) : (∀ r, r ∈ rows → p r ≤ 1) ↔ ∀ r, r ∈ rows → ∀ o, o ∈ need r → ¬ pos rows r < pos rows o := by
  constructor
  · intro h r hr o ho hb
    have g := I.ge r hr o ho
    have e : bk rows r o = 1 := if_pos hb
    have h1 := I.one o (D.sub r hr o ho)
    have h2 := h r hr
    omega
  · intro h
    have : ∀ (n : Nat) (r : A), rk r = n → r ∈ rows → p r ≤ 1 := by
      intro n
      induction n using Nat.strongRecOn with
      | ind n ih =>
        intro r hn hr
        rcases I.eq r hr with q | ⟨o, ho, q⟩
        · omega
        · have e : bk rows r o = 0 := if_neg (h r hr o ho)
          have := ih (rk o) (by have := D.lt r hr o ho; omega) o rfl (D.sub r hr o ho)
          omega
    exact fun r hr => this _ r rfl hr
theorem more_le {rows : List A} {need need' : A → List A} {rk p p' : A → Nat} (D : Dag rows need rk) (I : IsPass rows need p) (I' : IsPass rows need' p') (h : ∀ r o, o ∈ need r → o ∈ need' r) : ∀ r, r ∈ rows → p r ≤ p' r := by
  have : ∀ (n : Nat) (r : A), rk r = n → r ∈ rows → p r ≤ p' r := by
    intro n
    induction n using Nat.strongRecOn with
    | ind n ih =>
      intro r hn hr
      rcases I.eq r hr with q | ⟨o, ho, q⟩
      · rw [q]; exact I'.one r hr
      · have h1 := ih (rk o) (by have := D.lt r hr o ho; omega) o rfl (D.sub r hr o ho)
        have h2 := I'.ge r hr o (h r o ho)
        omega
  exact fun r hr => this _ r rfl hr
/-- a need more: high needs row, and high stands outside a set that holds row and all that its members need -/
theorem dag_more {rows : List A} {need need' : A → List A} {rk : A → Nat} {row high : A} (D : Dag rows need rk) {S : A → Prop} [DecidablePred S] (hrow : row ∈ rows) (sr : S row) (sh : ¬ S high) (sc : ∀ x, x ∈ rows → S x → ∀ o, o ∈ need x → S o)
    (hn : ∀ x o, o ∈ need' x → o ∈ need x ∨ (x = high ∧ o = row)) : ∃ rk', Dag rows need' rk' := by
  obtain ⟨n, ht⟩ := rk_top rows rk
  refine ⟨fun x => if S x then rk x else rk x + n, D.nd, fun r hr o ho => ?_, fun r hr o ho => ?_⟩
  · rcases hn r o ho with h | ⟨_, e⟩
    · exact D.sub r hr o h
    · rw [e]; exact hrow
  · show (if S o then rk o else rk o + n) < (if S r then rk r else rk r + n)
    rcases hn r o ho with h | ⟨e1, e2⟩
    · have l := D.lt r hr o h
      by_cases s : S r
      · rw [if_pos s, if_pos (sc r hr s o h)]; exact l
      · rw [if_neg s]
        split <;> omega
    · subst e1 e2
      rw [if_pos sr, if_neg sh]
      have := ht o hrow
      omega

/-! ### peeling -/
def readyOf (need : A → List A) (left : List A) : List A := left.filter fun x => !(need x).any fun o => decide (o ∈ left)
theorem ready_ex {rows : List A} {need : A → List A} {rk : A → Nat} (D : Dag rows need rk) {left : List A} (hs : ∀ x, x ∈ left → x ∈ rows) : ∀ (n : Nat) (x : A), rk x = n → x ∈ left → ∃ y, y ∈ readyOf need left := by
  intro n
  induction n using Nat.strongRecOn with
  | ind n ih =>
    intro x hn hx
    by_cases h : (need x).any (fun o => decide (o ∈ left)) = true
    · obtain ⟨o, ho, e⟩ := List.any_eq_true.mp h
      exact ih (rk o) (by have := D.lt x (hs x hx) o ho; omega) o rfl (of_decide_eq_true e)
    · exact ⟨x, List.mem_filter.mpr ⟨hx, by simpa using h⟩⟩
theorem ready_nil {rows : List A} {need : A → List A} {rk : A → Nat} (D : Dag rows need rk) {left : List A} (hs : ∀ x, x ∈ left → x ∈ rows) (h : readyOf need left = []) : left = [] := by
  cases e : left with
  | nil => rfl
  | cons a l =>
    obtain ⟨y, hy⟩ := ready_ex D hs _ a rfl (by rw [e]; exact List.mem_cons_self)
    rw [h] at hy
    simp at hy
theorem peel_lt {need : A → List A} {left : List A} {y : A} (hy : y ∈ readyOf need left) : (left.filter fun x => !decide (x ∈ readyOf need left)).length < left.length := by
  refine List.length_filter_lt_length_iff_exists.mpr ⟨y, (List.mem_filter.mp hy).1, by simp [hy]⟩
end
end K19

set_option Elab.async false
set_option linter.all false
set_option maxRecDepth 100000
/-! The text by places; how a def stands behind the top. -/
namespace K19
open PySem L2
def topS (i : Nat) : Stmt := PySem.Challenge.pw_passwidth_k19_whole_passes_and_backward.main.body.getD i (.Pass ⟨0, 0, 0, 0⟩)
abbrev sIsName : Stmt := topS 15
abbrev sIsInteger : Stmt := topS 16
abbrev sIsBetween : Stmt := topS 17
abbrev sIsIndex : Stmt := topS 18
abbrev sReader : Stmt := topS 21
abbrev sRInit : Stmt := inClass sReader 1
abbrev sRSet : Stmt := inClass sReader 3
abbrev sRRowsIn : Stmt := inClass sReader 5
abbrev sRAccepted : Stmt := inClass sReader 6
abbrev sRCall : Stmt := inClass sReader 7
abbrev sPassesNeeded : Stmt := topS 23
abbrev sUnfinished : Stmt := topS 30
abbrev sRingIn : Stmt := topS 31
abbrev sRowText : Stmt := topS 33
abbrev sSheetText : Stmt := topS 34
abbrev sFirstWrong : Stmt := topS 37
abbrev sAreNeeds : Stmt := topS 38
abbrev sNeedRows : Stmt := topS 39
abbrev sNeedNeeds : Stmt := topS 40
abbrev sSheet : Stmt := topS 41
abbrev sSInit : Stmt := inClass sSheet 1
abbrev sSFill : Stmt := inClass sSheet 2
abbrev sSOf : Stmt := inClass sSheet 3
abbrev sSRows : Stmt := inClass sSheet 5
abbrev sSNeeds : Stmt := inClass sSheet 6
abbrev sSContains : Stmt := inClass sSheet 7
abbrev sSEq : Stmt := inClass sSheet 11
abbrev sSNeedRow : Stmt := inClass sSheet 14
abbrev sSPosition : Stmt := inClass sSheet 15
abbrev sSWithMove : Stmt := inClass sSheet 16
abbrev sSWithNeed : Stmt := inClass sSheet 17
abbrev sSWithoutNeed : Stmt := inClass sSheet 18
abbrev sIsBackward : Stmt := topS 43
abbrev sRowBefore : Stmt := topS 44
abbrev sSlowChain : Stmt := topS 45
abbrev sCheckSlow : Stmt := topS 46
abbrev sPen : Stmt := topS 48
abbrev sDraw : Stmt := topS 49
abbrev sShuffled : Stmt := topS 50
abbrev sNames : Stmt := topS 51
abbrev sPlan : Stmt := topS 52
abbrev sPage : Stmt := topS 53
abbrev sBelow : Stmt := topS 54
abbrev sChains : Stmt := topS 59
abbrev sMovesRight : Stmt := topS 60
abbrev sNeedsRight : Stmt := topS 61
abbrev sLaw : Stmt := topS 62
end K19

set_option Elab.async false
set_option linter.all false
set_option maxRecDepth 100000
set_option maxHeartbeats 0
/-! The head: facts by a Hook, the run of the top. -/
namespace K19
open PySem PySem.Spec PyProof.Rows L2
/-! ### addresses -/
abbrev gA (K : PySem.W.Frag) (x : Str) : Addr := He.ga K x
abbrev mA (K : PySem.W.Frag) (C m : Str) : Addr := He.ma K (He.ga K C) m
/-- the first value of a property's, a classmethod's record -/
def rA (K : PySem.W.Frag) (T : String) (C m : Str) : Addr := match PySem.W.recIn K (He.ma K (He.ga K C) m) T with
  | some (.ref g :: _) => g
  | _ => 0
/-- the setter -/
def rB (K : PySem.W.Frag) (T : String) (C m : Str) : Addr := match PySem.W.recIn K (He.ma K (He.ga K C) m) T with
  | some (_ :: .ref g :: _) => g
  | _ => 0
def gD (x : Str) (st : Stmt) : He5.DefA := ⟨fun K => gA K x, x, x, defArgs st, defBody st, defScope st, [], []⟩
def mD (C m q : Str) (st : Stmt) : He5.DefA := ⟨fun K => mA K C m, m, q, defArgs st, defBody st, defScope st, [], []⟩
def pD (C m q : Str) (st : Stmt) : He5.DefA := ⟨fun K => rA K "property" C m, m, q, defArgs st, defBody st, defScope st, [], []⟩
def sD (C m q : Str) (st : Stmt) : He5.DefA := ⟨fun K => rB K "property" C m, m, q, defArgs st, defBody st, defScope st, [], []⟩
def cD (C m q : Str) (st : Stmt) : He5.DefA := ⟨fun K => rA K "classmethod" C m, m, q, defArgs st, defBody st, defScope st, [], []⟩
def fns : List He5.DefA := [gD "is_name" sIsName, gD "is_integer" sIsInteger, gD "is_between" sIsBetween, gD "is_index" sIsIndex,
  mD "Reader" "__init__" "Reader.__init__" sRInit, sD "Reader" "passes" "Reader.passes" sRSet, mD "Reader" "rows_in" "Reader.rows_in" sRRowsIn, mD "Reader" "accepted" "Reader.accepted" sRAccepted, mD "Reader" "__call__" "Reader.__call__" sRCall,
  gD "passes_needed" sPassesNeeded, gD "unfinished" sUnfinished, gD "ring_in" sRingIn, gD "row_text" sRowText, gD "sheet_text" sSheetText,
  gD "first_wrong" sFirstWrong, gD "are_needs" sAreNeeds, gD "need_rows" sNeedRows, gD "need_needs" sNeedNeeds,
  mD "Sheet" "__init__" "Sheet.__init__" sSInit, mD "Sheet" "fill" "Sheet.fill" sSFill, cD "Sheet" "of" "Sheet.of" sSOf, pD "Sheet" "rows" "Sheet.rows" sSRows, pD "Sheet" "needs" "Sheet.needs" sSNeeds,
  mD "Sheet" "__contains__" "Sheet.__contains__" sSContains, mD "Sheet" "__eq__" "Sheet.__eq__" sSEq, mD "Sheet" "need_row" "Sheet.need_row" sSNeedRow, mD "Sheet" "position" "Sheet.position" sSPosition,
  mD "Sheet" "with_move" "Sheet.with_move" sSWithMove, mD "Sheet" "with_need" "Sheet.with_need" sSWithNeed, mD "Sheet" "without_need" "Sheet.without_need" sSWithoutNeed,
  gD "is_backward" sIsBackward, gD "row_before" sRowBefore, gD "slow_chain" sSlowChain, gD "check_slow" sCheckSlow,
  gD "_law_pen" sPen, gD "_law_draw" sDraw, gD "_law_shuffled" sShuffled, gD "_law_names" sNames, gD "_law_plan" sPlan, gD "_law_page" sPage, gD "_law_below" sBelow, gD "_law_chains" sChains, gD "_law_moves_right" sMovesRight,
  gD "_law_needs_right" sNeedsRight, gD "law" sLaw]
/-! ### facts -/
abbrev Fct : Type := PySem.W.Frag → Bool
def fcGlo : List Str := ["is_name", "is_integer", "is_between", "is_index", "Reader", "passes_needed", "unfinished", "ring_in", "row_text", "sheet_text", "first_wrong", "are_needs", "need_rows", "need_needs", "Sheet",
  "is_backward", "row_before", "slow_chain", "check_slow", "_law_pen", "_law_draw", "_law_shuffled", "_law_names", "_law_plan", "_law_page", "_law_below", "_law_chains", "_law_moves_right", "_law_needs_right", "law"]
def fcFree : List Str := ["isinstance", "len", "range", "max", "min", "abs", "int", "str", "list", "dict", "tuple", "set", "sorted", "all", "any", "enumerate", "zip", "bool"]
def fcOther : List Fct := [fun K => (He.Fa.int "LONGEST_NAME" 8).ok K, fun K => (He.Fa.int "MOST_PASSES" 60).ok K, fun K => (He.Fa.int "LIMIT" 60).ok K, fun K => (He.Fa.str "LETTERS" "abcdefghijklmnopqrstuvwxyz").ok K,
  fun K => (He.Fa.cls "Reader").ok K, fun K => (He.Fa.cls "Sheet").ok K, fun K => (He.Fa.mkr "Reader").ok K, fun K => (He.Fa.mkr "Sheet").ok K]
def isRec (K : PySem.W.Frag) (p : Addr) (T : String) : Bool := match PySem.W.recIn K p T with
  | some (.ref _ :: _) => true
  | _ => false
def isRec2 (K : PySem.W.Frag) (p : Addr) (T : String) : Bool := match PySem.W.recIn K p T with
  | some (_ :: .ref _ :: _) => true
  | _ => false
def fCallO : Fct := fun K => He.eqO (PySem.W.findIn K (.ref (gA K "Reader")) "__call__") (some (some (.ref (mA K "Reader" "__call__")))) && (PySem.W.isFn K (.ref (mA K "Reader" "__call__")) && PySem.W.fnIn K (mA K "Reader" "__call__"))
def fSetO : Fct := fun K => He.eqO (PySem.W.takerIn K (gA K "Reader") "passes") (some (some (.ref (mA K "Reader" "passes")))) && (decide (PySem.W.typeIn K (.ref (mA K "Reader" "passes")) = some (.type "property")) && isRec2 K (mA K "Reader" "passes") "property")
def fProp (m : Str) : Fct := fun K => He.eqO (PySem.W.findIn K (.ref (gA K "Sheet")) m) (some (some (.ref (mA K "Sheet" m)))) && (He.eqO (PySem.W.specialIn K (.ref (mA K "Sheet" m)) "__get__") (some (some (.builtin "property.__get__"))) && (decide (PySem.W.takesIn K (.ref (mA K "Sheet" m)) = some true) && isRec K (mA K "Sheet" m) "property"))
def fRead : Fct := fun K => PySem.W.readsIn K (gA K "Sheet") (.type "type") && He.eqO (PySem.W.specialIn K (.ref (gA K "Sheet")) "__getattribute__") (some (some (.builtin "type.__getattribute__")))
def fOf : Fct := fun K => He5.wrapB K (gA K "Sheet") "classmethod" "classmethod.__get__" "of" && PySem.W.fnIn K (He5.wf K (gA K "Sheet") "classmethod" "of")
def fDun (m : Str) : Fct := fun K => He.eqO (PySem.W.findIn K (.ref (gA K "Sheet")) m) (some (some (.ref (mA K "Sheet" m)))) && PySem.W.isFn K (.ref (mA K "Sheet" m))
def fNe : Fct := fun K => He.eqO (PySem.W.findIn K (.ref (gA K "Sheet")) "__ne__") (some (some (.builtin "object.__ne__"))) && decide (PySem.W.mroIn K (gA K "Sheet") (.type "object") = some true)
def fCl : Fct := fun K => He.eqO (PySem.W.findIn K (.ref (gA K "Sheet")) "__class__") (some (some (.builtin "object.__class__"))) && (He.eqO (PySem.W.specialIn K (.builtin "object.__class__") "__get__") (some (some (.builtin "getset_descriptor.__get__"))) && decide (PySem.W.takesIn K (.builtin "object.__class__") = some true))
def fIsi : Fct := fun K => decide (PySem.W.kitOne K (.ref (gA K "Sheet")) (.ref (gA K "Sheet")) = some true)
def fcMore : List Fct := [fun K => (He.Fa.noat "Reader" "bound").ok K, fun K => (He.Fa.noat "Sheet" "names").ok K, fun K => (He.Fa.noat "Sheet" "direct").ok K, fun K => (He.Fa.noat "Sheet" "order").ok K, fun K => (He.Fa.noat "Sheet" "shown").ok K,
  fun K => (He.Fa.meth "Reader" "rows_in").ok K, fun K => (He.Fa.meth "Reader" "accepted").ok K, fun K => (He.Fa.meth "Sheet" "fill").ok K, fun K => (He.Fa.meth "Sheet" "need_row").ok K, fun K => (He.Fa.meth "Sheet" "position").ok K, fun K => (He.Fa.meth "Sheet" "with_move").ok K, fun K => (He.Fa.meth "Sheet" "with_need").ok K, fun K => (He.Fa.meth "Sheet" "without_need").ok K,
  fCallO, fSetO, fProp "rows", fProp "needs", fRead, fOf, fDun "__contains__", fDun "__eq__", fNe, fCl, fIsi]
def fact (K : PySem.W.Frag) : Bool := (fcGlo.all fun x => (He.Fa.glo x).ok K) && ((fcFree.all fun x => (He.Fa.free x).ok K) && ((fcOther.all fun f => f K) && fcMore.all fun f => f K))
/-! ### the Hook -/
def obsA (K : PySem.W.Frag) : He.AlD := (fact K && fns.all fun d => d.ok K, fns.map fun d => He5.fnA K (d.at_ K))
def valA : He.AlD := (true, fns.map He5.DefA.val)
def SaysA (K : PySem.W.Frag) : Prop := obsA K = valA
def obsAG (n : Nat) (g : Addr → Option Obj) : He.AlD := obsA (He.frG g (He5.asA g n))
def hookA (n : Nat) : PySem.W.Hook where
  α := He.AlD
  obs := fun s => obsAG n s.heap.get?
  val := fun _ => valA
  says := fun _ h => ∃ K : PySem.W.Frag, K.In h ∧ SaysA K
  of := fun _ _ e => ⟨_, He.frG_in, e⟩
  keeps := fun _ _ _ ⟨K, hK, c⟩ k => ⟨K, PySem.W.Frag.In.keeps hK k, c⟩
abbrev RR : PySem.W.OpenRow := PySem.W.OpenLaw.row PySem.Challenge.rw_passwidth_k19_whole_passes_and_backward
abbrev hk : PySem.W.Hook := hookA 6
def ob (s : PySem.W.SharedT) : He.AlD := obsAG 6 (HandSHeadRun.getT s)
theorem ob_eq (s : PySem.W.SharedT) : ob s = hk.obs s.abs := by
  have e : HandSHeadRun.getT s = s.abs.heap.get? := funext (HandSHeadRun.getT_eq s)
  show obsAG 6 (HandSHeadRun.getT s) = obsAG 6 s.abs.heap.get?
  rw [e]
def others1 : List Str := ["_wall", "PassError", "InvalidRow", "InvalidNeeds", "HasRing", "InvalidPasses", "InvalidEvidence", "InvalidText", "NoRow", "NoNeed", "NoPosition", "LETTERS", "LONGEST_NAME", "is_name", "is_integer", "is_between", "is_index", "MOST_PASSES", "Reader", "passes_needed", "MOST_ROWS", "lines_in", "row_in", "sheet_in", "unfinished", "ring_in", "row_text", "sheet_text"]
def others2 : List Str := ["LIMIT", "first_wrong", "are_needs", "need_rows", "need_needs", "Sheet", "is_backward", "row_before", "slow_chain", "check_slow", "_law_pen", "_law_draw", "_law_shuffled", "_law_names", "_law_plan", "_law_page", "_law_below", "_law_bars", "_law_fits", "_law_is_chain", "_law_back", "_law_chains", "_law_moves_right", "_law_needs_right"]
def others : List Str := others1 ++ others2
theorem run (w : World) : HandSHeadRun.RunEq RR (PySem.W.view RR.prog [62]) hk ob 6000 others w := by
  intro os
  kernel_rfl
end K19

set_option Elab.async false
set_option linter.all false
set_option maxRecDepth 100000
set_option maxHeartbeats 4000000
/-! Quiet code: what it leaves of the objects that are not tracked, and of the generators' table. -/
namespace K19
open PySem PySem.Spec PyProof.Rows L2
/-- the untracked objects but those at ex stand as they were and are untracked still; the generators' table stands -/
structure Kp (ex : List Addr) (H : Hp) (s : Shared) (H' : Hp) (s' : Shared) : Prop where
  gens : s'.gens = s.gens
  keep : ∀ b o, b ∉ ex → H b = none → s.heap.get? b = some o → s'.heap.get? b = some o ∧ H' b = none
theorem Kp.refl {ex : List Addr} {H : Hp} {s : Shared} : Kp ex H s H s := ⟨rfl, fun _ _ _ n e => ⟨e, n⟩⟩
theorem Kp.trans {ex : List Addr} {H H1 H2 : Hp} {s s1 s2 : Shared} (a : Kp ex H s H1 s1) (b : Kp ex H1 s1 H2 s2) : Kp ex H s H2 s2 :=
  ⟨b.gens.trans a.gens, fun c o hc n e => let ⟨e1, n1⟩ := a.keep c o hc n e; b.keep c o hc n1 e1⟩
theorem Kp.mono {ex ex' : List Addr} {H H1 : Hp} {s s1 : Shared} (a : Kp ex H s H1 s1) (h : ∀ b, b ∈ ex → b ∈ ex') : Kp ex' H s H1 s1 :=
  ⟨a.gens, fun c o hc n e => a.keep c o (fun z => hc (h c z)) n e⟩
theorem Kp.any {ex : List Addr} {H H1 : Hp} {s s1 : Shared} (a : Kp [] H s H1 s1) : Kp ex H s H1 s1 := a.mono fun _ z => absurd z (by simp)
theorem Kp.kept {ex : List Addr} {H : Hp} {s : Shared} {h' : Heap} {t' : Nat} (k : ∀ b o, s.heap.get? b = some o → h'.get? b = some o) : Kp ex H s H { s with heap := h', toks := t' } :=
  ⟨rfl, fun b o _ n e => ⟨k b o e, n⟩⟩

section
variable {X : Cx} {pos : Pos}
structure PEk (X : Cx) (e : Expr) (t : TE) : Prop where
  run : ∀ (pins : List (Addr × Obj)) (s : Shared) (σ : L2.St) (H : Hp) (Q : VK), Inv X pins σ H s → t σ H Q →
    wpAny (model X.prog X.w) X.A (eval e X.env) (fun u s' => ∃ v H', Inv X pins σ H' s' ∧ RelV v u ∧ Kp [] H s H' s' ∧ Q v H') X.xe s
theorem pek_var {i : Nat} {x : Str} (hN : X.N[i]? = some x) (hv : Vis X.env.scope x) (hd : (x == ("__debug__" : Str)) = false := by decide) (hcd : (x == ("__classdict__" : Str)) = false := by decide) : PEk X (.Name x pos) (tVar i) := by
  refine ⟨fun pins s σ H Q I h => ?_⟩
  obtain ⟨v, e, h⟩ := h
  obtain ⟨m, hn, hl⟩ := I.loc
  obtain ⟨u, r, l⟩ := hl i x v hN e hv
  have fin : ∃ v H', Inv X pins σ H' s ∧ RelV v u ∧ Kp [] H s H' s ∧ Q v H' := ⟨v, H, I, r, .refl, h⟩
  rcases l with ⟨kd, hm⟩ | ⟨kd, c, hc, hcell⟩
  · exact wpAny_Name (wpAny_loadName_local I.ok.kind kd hn hm fin) hd
  · rcases kd with kd | kd
    · exact wpAny_Name (wpAny_loadName_cell I.ok.kind kd hc hcell fin) hd
    · exact wpAny_Name (wpAny_loadName_free I.ok.kind kd hc hcell fin hcd) hd
theorem pek_int {i : Int} {j : Nat} : PEk X (.Constant (.int i) j pos) (tC (.int i)) :=
  ⟨fun _ s _ H _ I h => wpAny_Constant_int ⟨.int i, H, I.tok _, ⟨_, rfl⟩, Kp.kept (h' := s.heap) fun _ _ e => e, h⟩⟩
theorem pek_add {a b : Expr} {ta tb : TE} (ha : PEk X a ta) (hb : PEk X b tb) : PEk X (.BinOp a .Add b pos) (tAdd ta tb) := by
  refine ⟨fun pins s σ H Q I h => ?_⟩
  refine wpAny_BinOp (thn (ha.run pins s σ H _ I h) fun v s1 ⟨x, H1, I1, r1, k1, q1⟩ => ?_)
  refine thn (hb.run pins s1 σ H1 _ I1 q1) fun u s2 ⟨y, H2, I2, r2, k2, q2⟩ => ?_
  obtain ⟨i, j, rfl, rfl, q⟩ := q2
  obtain ⟨t, rfl⟩ := r1
  obtain ⟨t', rfl⟩ := r2
  exact PyProof.Rows.add_int ⟨.int _, H2, I2.tok _, ⟨_, rfl⟩, (k1.trans k2).trans (Kp.kept (h' := s2.heap) fun _ _ e => e), q⟩

/-! ### targets -/
structure PGk (X : Cx) (target : Expr) (t : TG) : Prop where
  run : ∀ (pins : List (Addr × Obj)) (s : Shared) (σ : L2.St) (H : Hp) (v : V) (u : Value) (Q : L2.St → Hp → Prop), Inv X pins σ H s → RelV v u → t v σ H Q →
    wpAny (model X.prog X.w) X.A (assign target X.env u) (fun _ s' => ∃ σ' H', Inv X pins σ' H' s' ∧ Kp [X.env.locals] H s H' s' ∧ Q σ' H') X.xe s
structure PGks (X : Cx) (ts : List Expr) (t : TGs) : Prop where
  run : ∀ (pins : List (Addr × Obj)) (s : Shared) (σ : L2.St) (H : Hp) (vs : List V) (us : List Value) (Q : L2.St → Hp → Prop), Inv X pins σ H s → Vals vs us → t vs σ H Q →
    wpAny (model X.prog X.w) X.A (assignInOrder ((assignEach ts X.env).map (·.2)) us) (fun _ s' => ∃ σ' H', Inv X pins σ' H' s' ∧ Kp [X.env.locals] H s H' s' ∧ Q σ' H') X.xe s
/-- the frame's own object holds one name more -/
theorem inv_stored {pins : List (Addr × Obj)} {σ : L2.St} {H : Hp} {s : Shared} {i : Nat} {x : Str} {v : V} {u : Value} {m : Str → Option Value} {h' : Heap} {t' : Nat} (I : Inv X pins σ H s) (hN : X.N.Nodup) (hi : X.N[i]? = some x)
    (hk : X.env.scope.names.lookup x = some .local) (r : RelV v u)
    (hn : s.heap.Ns X.env.locals m) (hl : ∀ (i : Nat) (x : Str) (v : V), X.N[i]? = some x → σ[i]? = some (some v) → Vis X.env.scope x → ∃ u, RelV v u ∧ Look X.env s.heap m x u)
    (hn' : h'.Ns X.env.locals (fun y => if y = x then some u else m y)) (hs : Heap.SameBut X.env.locals s.heap h') : Inv X pins (σ.set i (some v)) H { s with heap := h', toks := t' } := by
  have hiσ : i < σ.length := by rw [I.len]; exact (List.getElem?_eq_some_iff.mp hi).1
  have cne := I.cne
  obtain ⟨oL, _, _, hoL, _⟩ := id hn
  have neL : ∀ b o, X.s_0.heap.get? b = some o → b ≠ X.env.locals := fun b o e => Nat.ne_of_lt (Nat.lt_of_lt_of_le (Heap.lt_size e) I.ok.above)
  have tracked : HOk X.prog X.w H h' := fun b ob e => by
    refine (I.hok b ob e).stay (fun c w' hc q => (hs.2 c ?_).trans q) (fun _ q => q) fun _ _ q => q
    rintro rfl
    rcases hc with z | hc
    · rw [← z, I.free] at e; cases e
    · rw [I.free] at hc; cases hc
  refine ⟨I.ok, I.os, I.bare, ⟨fun b o e n hb hx => (hs.2 b (neL b o e)).trans (I.base.keep b o e n hb hx), fun b o e n hb hx => ?_, I.base.free, fun b o e hx => ?_, I.base.tups, I.base.frzs, I.base.tbls⟩, ⟨_, hn', fun j y v' e1 e2 e3 => ?_⟩, fun y c e => ?_, I.free, I.freeC, fun p hp => ?_, tracked, by simpa using I.len⟩
  · obtain ⟨sl, e1⟩ := I.base.slot b o e n hb hx
    exact ⟨sl, (hs.2 b (neL b o e)).trans e1⟩
  · obtain ⟨o', e1⟩ := I.base.there b o e hx
    exact ⟨o', (hs.2 b (neL b o e)).trans e1⟩
  · by_cases hj : j = i
    · subst hj
      rw [hi] at e1; cases e1
      rw [List.getElem?_set_self hiσ] at e2
      cases e2
      exact ⟨u, r, .inl ⟨hk, by simp⟩⟩
    · rw [List.getElem?_set_ne (Ne.symm hj)] at e2
      obtain ⟨u', r', q⟩ := hl j y v' e1 e2 e3
      refine ⟨u', r', ?_⟩
      rcases q with ⟨k, e⟩ | ⟨k, c, e, z⟩
      · refine .inl ⟨k, ?_⟩
        have : y ≠ x := fun e => hj (nodup_ix hN e1 (e ▸ hi))
        simp [this, e]
      · exact .inr ⟨k, c, e, z.sameBut hs (cne y c e)⟩
  · obtain ⟨w', z⟩ := I.cell y c e
    exact ⟨w', z.sameBut hs (cne y c e)⟩
  · obtain ⟨e, n, ne, nf, d⟩ := I.pin p hp
    exact ⟨(hs.2 p.1 ne).trans e, n, ne, nf, d⟩
theorem pgk_name {i : Nat} {x : Str} (hN : X.N.Nodup) (hi : X.N[i]? = some x) (hk : X.env.scope.names.lookup x = some .local) : PGk X (.Name x pos) (gName i) := by
  refine ⟨fun pins s σ H v u Q I r h => ?_⟩
  obtain ⟨m, hn, hl⟩ := I.loc
  have hcls : (X.env.scope.kind == .class || (X.env.scope.kind == .module && X.env.locals != X.env.globals)) = false := by rw [I.ok.kind]; rfl
  refine wpAny_assign_Name (wpAny_storeName_local hk hn (fun h' hn' hs => ?_) hcls)
  refine ⟨_, H, inv_stored I hN hi hk r hn hl hn' hs, ⟨rfl, fun b o hb n e => ⟨(hs.2 b fun z => hb (by simp [z])).trans e, n⟩⟩, h⟩
theorem pgks_nil : PGks X [] gNil := by
  refine ⟨fun pins s σ H vs us Q I r h => ?_⟩
  obtain ⟨e, h⟩ := h
  subst e
  cases r
  exact assignInOrder_nil ⟨σ, H, I, .refl, h⟩
theorem pgks_cons {e : Expr} {es : List Expr} {t : TG} {u : TGs} (h1 : PGk X e t) (h2 : PGks X es u)
    (hs : (assignEach (e :: es) X.env).map (·.2) = assign e X.env :: (assignEach es X.env).map (·.2) := by rfl) : PGks X (e :: es) (gCons t u) := by
  refine ⟨fun pins s σ H vs us Q I r h => ?_⟩
  obtain ⟨v, vr, e1, h⟩ := h
  subst e1
  cases r with
  | cons r rr =>
    rw [hs]
    refine assignInOrder_cons (thn (h1.run pins s σ H _ _ _ I r h) fun _ s1 ⟨σ1, H1, I1, k1, q1⟩ => ?_)
    exact thn (h2.run pins s1 σ1 H1 _ _ Q I1 rr q1) fun _ s2 ⟨σ2, H2, I2, k2, q2⟩ => ⟨σ2, H2, I2, k1.trans k2, q2⟩
theorem pgk_tup {es : List Expr} {k : Nat} {t : TGs} {n : Nat} (hc : X.calm = true) (h : PGks X es t)
    (hn : (assignEach es X.env).length = n := by rfl) (hst : (assignEach es X.env).findIdx? (·.1) = none := by rfl) : PGk X (.Tuple es k pos) (gTup X.K n t) := by
  refine ⟨fun pins s σ H v u Q I r hw => ?_⟩
  obtain ⟨a, xs, e1, hq, hl, hw⟩ := hw
  subst e1
  cases r
  obtain ⟨its, rv, ht, hz⟩ := I.tuple hq
  refine assign_Tuple_tuple (I.ok.hd hc) ht (by simp [hn, ← hl, rv.length]) hst fun h' hx => ?_
  have kk : ∀ b o, s.heap.get? b = some o → h'.get? b = some o := fun b o e => hx b o (Nat.ne_of_lt (Heap.lt_size e)) e
  have I1 : Inv X pins σ H { s with heap := h' } := I.kept (t' := s.toks) kk
  have K1 : Kp [X.env.locals] H s H { s with heap := h' } := Kp.kept (t' := s.toks) kk
  exact thn (h.run pins _ σ H xs _ Q I1 (by simpa using rv) hw) fun _ s2 ⟨σ2, H2, I2, k2, q2⟩ => ⟨σ2, H2, I2, K1.trans k2, q2⟩

/-! ### statements that end by running on -/
structure PSk (X : Cx) (st : Stmt) (t : TS) : Prop where
  run : ∀ (pins : List (Addr × Obj)) (s : Shared) (σ : L2.St) (H : Hp) (D : Ends), Inv X pins σ H s → t D σ H →
    wpAny (model X.prog X.w) X.A (exec st X.env) (fun f s' => f = .next ∧ ∃ σ' H', Inv X pins σ' H' s' ∧ Kp [X.env.locals] H s H' s' ∧ D.nx σ' H') X.xe s
structure PSsk (X : Cx) (sts : List Stmt) (t : TS) : Prop where
  run : ∀ (pins : List (Addr × Obj)) (s : Shared) (σ : L2.St) (H : Hp) (D : Ends), Inv X pins σ H s → t D σ H →
    wpAny (model X.prog X.w) X.A (execs sts X.env) (fun f s' => f = .next ∧ ∃ σ' H', Inv X pins σ' H' s' ∧ Kp [X.env.locals] H s H' s' ∧ D.nx σ' H') X.xe s
theorem pssk_one {st : Stmt} {t : TS} (h : PSk X st t) : PSsk X [st] t := by
  refine ⟨fun pins s σ H D I ht => ?_⟩
  refine wpAny_execs_cons (thn (h.run pins s σ H D I ht) fun f s1 ⟨ef, q⟩ => ?_)
  subst ef
  exact wpAny_execs_nil ⟨rfl, q⟩
/-- d[k] = e, the dict and the key by names -/
theorem psk_dput {d k e : Expr} {td tk te : TE} (hu : X.A.units + 1 < cLine) (hd : PEk X d td) (hk : PEk X k tk) (he : PEk X e te)
    (ha : ∀ v, assign (.Subscript d k pos) X.env v = (do
      let ov ← holding [v] (eval d X.env)
      let iv ← holding [v, ov] (eval k X.env)
      standAt pos
      holding [v, ov, iv] (setItem ov iv v)
      release [v, ov, iv] []) := by intro _; rfl) {pos' : Pos}
    (hs : swapsWithSole [.Subscript d k pos] e pos'.line X.env = pure false := by rfl) (hw : swappedStores [.Subscript d k pos] e X.env = pure none := by rfl)
    (h1 : (assignEach [.Subscript d k pos] X.env).map (·.2) = [assign (.Subscript d k pos) X.env] := by rfl) :
    PSk X (.Assign [.Subscript d k pos] e pos') (tAsg te (gSub td tk fun o i v H Q => ∃ a kvs ky, o = .ref a ∧ H a = some (.dK kvs) ∧ i = kV ky ∧ kvs.length < sizeLine ∧ Q (upd H a (.dK (putK kvs ky v))))) := by
  refine ⟨fun pins s σ H D I h => ?_⟩
  refine wpAny_Assign_stores (thn (he.run pins s σ H _ I h) fun v s1 ⟨x, H1, I1, r1, k1, q1⟩ => ?_) hs hw
  rw [h1]
  show wpAny _ _ (assignAll v [assign (.Subscript d k pos) X.env]) _ _ _
  refine thn (Q := fun _ s' => ∃ σ' H', Inv X pins σ' H' s' ∧ Kp [X.env.locals] H s H' s' ∧ D.nx σ' H') ?_ fun _ s' q => ⟨rfl, q⟩
  show wpAny _ _ (assign (.Subscript d k pos) X.env v) _ _ _
  rw [ha]
  refine wpAny_bind (wpAny_holding (thn (hd.run pins s1 σ H1 _ I1 q1) fun ov s2 ⟨y, H2, I2, r2, k2, q2⟩ => ?_))
  refine wpAny_bind (wpAny_holding (thn (hk.run pins s2 σ H2 _ I2 q2) fun iv s3 ⟨z, H3, I3, r3, k3, a, kvs, ky, ey, ea, ez, hl, q3⟩ => ?_))
  subst ey ez
  obtain rfl : ov = Value.ref a := r2
  obtain ⟨zz, hsm, vs, rel, dd⟩ := dk_of I3.hok ea
  have hz : vs.length ≤ sizeLine := by rw [← rel.length]; exact zz
  have hl2 : (putK kvs ky x).length ≤ sizeLine := by have := length_putK kvs ky x; omega
  refine wpAny_bind (wpAny_standAt (wpAny_bind (wpAny_holding (wpAny_setItem_pairs (hsz := hz) (kV_is r3) dd fun h' dd' hs' => ?_))))
  have hex : ∃ q, h'.get? a = some q := let ⟨q, _, _, hq, _⟩ := dd'; ⟨q, hq⟩
  have I4 : Inv X pins σ (upd H3 a (.dK (putK kvs ky x))) { s3 with heap := h', toks := s3.toks + 1 } := d_write I3 (by rw [ea]; exact True.intro) hs' hex (dk_new hl2 hsm (rel.put ky r1) dd')
  have K4 : Kp [] H3 s3 (upd H3 a (.dK (putK kvs ky x))) { s3 with heap := h', toks := s3.toks + 1 } := ⟨rfl, fun b o _ n e => by
    have hb : b ≠ a := fun q => by rw [q, ea] at n; cases n
    exact ⟨(hs'.2 b hb).trans e, by rw [upd_ne hb]; exact n⟩⟩
  exact wpAny_release ⟨σ, _, I4, (((k1.trans k2).trans k3).trans K4).any, q3⟩
/-- for x in t, t a tuple by an expression -/
theorem psk_for {tg iter : Expr} {body : List Stmt} {tl : TE} {g : TG} {tb : TS} (hp : PassesOwn (model X.prog X.w) X.A X.env X.xe) (hc : X.calm = true) (hi : PEk X iter tl) (hg : PGk X tg g) (hb : PSsk X body tb)
    (hs : ∀ x, foldedSetIterable iter X.env x = pure x := by intro _; rfl) : PSk X (.For tg iter body [] pos) (tFor (iTup X.K tl) g tb) := by
  refine ⟨fun pins s σ H D I h => ?_⟩
  refine wpAny_For (thn (hi.run pins s σ H _ I h) fun v s1 ⟨x, H1, I1, r1, k1, a, ex, ⟨xs, hq⟩, W, ⟨m0, w0⟩, turn⟩ => ?_) hs
  subst ex
  obtain rfl : v = Value.ref a := r1
  obtain ⟨its, rv, p, hz⟩ := I1.tuple hq
  refine wpAny_pyIter_tuple p ?_
  have it0 : s1.heap.objs.size = s1.heap.objs.size := rfl
  generalize hit : s1.heap.objs.size = it at it0
  clear it0
  have new : (s1.heap.push ({ cls := .type "tuple_iterator", data := .fields #[.ref a, .int 0 0] } : Obj)).get? it = some { cls := .type "tuple_iterator", data := .fields #[.ref a, .int 0 0] } := by
    rw [← hit]; exact Heap.get?_push_size _ rfl
  have I2 : Inv X pins σ H1 { s1 with heap := s1.heap.push { cls := .type "tuple_iterator", data := .fields #[.ref a, .int 0 0] } } := I1.kept (t' := s1.toks) fun b o e => Heap.get?_push_of_some _ e
  have f2 : FpOk X pins H1 it := by rw [← hit]; exact I1.fpOk (Nat.le_refl _) (I1.hok.fresh (Nat.le_refl _))
  have old : ∀ b o, H b = none → s.heap.get? b = some o → b ∉ [X.env.locals] → b ≠ it := fun b o n e hb => by
    obtain ⟨e1, _⟩ := k1.keep b o (by simp) n e
    rw [← hit]
    exact Nat.ne_of_lt (Heap.lt_size e1)
  have K2 : Kp [X.env.locals] H s H1 { s1 with heap := s1.heap.push { cls := .type "tuple_iterator", data := .fields #[.ref a, .int 0 0] } } := k1.any.trans (Kp.kept (t' := s1.toks) fun b o e => Heap.get?_push_of_some _ e)
  -- turning the iterator alone
  have turned : ∀ {H3 : Hp} {s3 : Shared} {h' : Heap}, Kp [X.env.locals] H s H3 s3 → (∀ b o, b ≠ it → s3.heap.get? b = some o → h'.get? b = some o) → Kp [X.env.locals] H s H3 { s3 with heap := h' } := fun {H3 s3 h'} k hk =>
    ⟨k.gens, fun b o hb n e => let ⟨e1, n1⟩ := k.keep b o hb n e; ⟨hk b o (old b o n e hb) e1, n1⟩⟩
  refine codeAny_forLoop_any (fun n s' => ∃ i σ' H', Inv X pins σ' H' s' ∧ s'.heap.IsTupleIter it a i ∧ H' it = none ∧ Kp [X.env.locals] H s H' s' ∧ W i n σ' H') ?_ m0 ⟨0, σ, H1, I2, ⟨_, new, rfl, rfl⟩, f2.1, K2, w0⟩
  rintro n s3 ⟨i, σ3, H3, I3, st3, fr3, K3, w3⟩
  have fp3 : FpOk X pins H3 it := ⟨fr3, f2.2⟩
  obtain ⟨f0, f1, ff, f3, f4, f5⟩ := fp3
  rcases turn i n σ3 H3 w3 with ⟨⟨ys, hy, hle⟩, qn⟩ | ⟨⟨ys, y, hy, hget⟩, N, hN, step⟩
  · obtain ⟨its3, rv3, p3, hz3⟩ := I3.tuple hy
    have hl := rv3.length
    refine wpAny_passesOwn hp (wpAny_pyNext_tuple_end (I3.ok.hd hc) st3 (show s3.heap.IsTuple a its3.toArray from p3) (by simp; omega) fun h' eb => ?_)
    exact wpAny_execs_nil ⟨rfl, σ3, H3, I3.turned (t' := s3.toks) (fun b o hb e => eb b o hb e) f0 f1 f3 f4 f5, turned K3 fun b o hb e => eb b o hb e, qn⟩
  · obtain ⟨its3, rv3, p3, hz3⟩ := I3.tuple hy
    obtain ⟨u, hu, ru⟩ := rv3.get hget
    refine wpAny_passesOwn hp (wpAny_pyNext_tuple_item st3 (show s3.heap.IsTuple a its3.toArray from p3) (x := u) (by simpa using hu) fun h' st' sb => ?_)
    have I4 : Inv X pins σ3 H3 { s3 with heap := h' } := I3.turned (t' := s3.toks) (fun b o hb e => (sb.2 b hb).trans e) f0 f1 f3 f4 f5
    have K4 : Kp [X.env.locals] H s H3 { s3 with heap := h' } := turned K3 fun b o hb e => (sb.2 b hb).trans e
    obtain ⟨o, eo, co, d_o⟩ := id st'
    refine wpAny_passesOwn hp (go_of (s := { s3 with heap := h' }) eo co d_o (by decide) ?_)
    have I5 : Inv X (pins ++ pinsAt [it] h') σ3 H3 { s3 with heap := h' } := I4.pinned (fun b hb => by rw [List.mem_singleton.mp hb]; exact ⟨f0, f1, ff, f3, f4, f5⟩) fun b hb => by
      rw [List.mem_singleton.mp hb]
      exact ⟨o, eo, fun v z => by rw [d_o] at z; cases z⟩
    refine wpAny_passesOwn hp (thn (hg.run _ _ σ3 H3 y u _ I5 ru (step y H3 ⟨rfl, fun zs hzs => by rw [I3.tuple_inj hzs hy]; exact hget⟩)) fun _ s6 ⟨σ6, H6, I6, k6, q6⟩ => ?_)
    refine wpAny_passesOwn hp (thn (hb.run _ s6 σ6 H6 _ I6 q6) fun f s7 ⟨ef, σ7, H7, I7, k7, n7⟩ => ?_)
    subst ef
    obtain ⟨m', hm, w7⟩ := hN σ7 H7 n7
    obtain ⟨p1, p2, _⟩ := I7.pin (it, o) (List.mem_append_right _ (List.mem_append_right _ (mem_pinsAt (List.mem_singleton.mpr rfl) eo)))
    exact ⟨m', hm, i + 1, σ7, H7, I7.unpinned, ⟨o, p1, co, d_o⟩, p2, (K4.trans k6).trans k7, w7⟩
end
end K19

set_option Elab.async false
set_option linter.all false
set_option maxRecDepth 100000
set_option maxHeartbeats 4000000
/-! A generator that sleeps while the code that walks it runs: from the walker's state to the generator's and back. -/
namespace K19
open PySem PySem.Spec PyProof.Rows L2 GenW
theorem inv_gens {X : Cx} {pins : List (Addr × Obj)} {σ : L2.St} {H : Hp} {s : Shared} (I : Inv X pins σ H s) {G : Array GenState} (hG : AllBare G) : Inv X pins σ H { s with gens := G } :=
  ⟨I.ok, I.os, hG, I.base, I.loc, I.cell, I.free, I.freeC, I.pin, I.hok, I.len⟩

/-! ### what stands below an address -/
def cut (s : Shared) (L : Nat) : Shared := { s with heap := { s.heap with objs := s.heap.objs.extract 0 L } }
theorem cut_size {s : Shared} {L : Nat} (h : L ≤ s.heap.objs.size) : (cut s L).heap.objs.size = L := by
  show (s.heap.objs.extract 0 L).size = L
  rw [Array.size_extract]
  omega
theorem cut_get {s : Shared} {L b : Nat} {o : Obj} : (cut s L).heap.get? b = some o ↔ b < L ∧ s.heap.get? b = some o := by
  have e : (s.heap.objs.extract 0 L)[b]? = if b < L then s.heap.objs[b]? else none := by
    rw [Array.getElem?_extract]
    by_cases h : b < L
    · by_cases h2 : b < s.heap.objs.size
      · rw [if_pos (by omega), if_pos h, Nat.zero_add]
      · rw [if_neg (by omega), if_pos h]
        exact (Array.getElem?_eq_none (by omega)).symm
    · rw [if_neg (by omega), if_neg h]
  show (match (s.heap.objs.extract 0 L)[b]? with
    | some ⟨_, _, .freed, _⟩ => none
    | o => o) = some o ↔ b < L ∧ (match s.heap.objs[b]? with
    | some ⟨_, _, .freed, _⟩ => none
    | o => o) = some o
  rw [e]
  by_cases h : b < L
  · rw [if_pos h]
    exact ⟨fun q => ⟨h, q⟩, fun q => q.2⟩
  · rw [if_neg h]
    exact ⟨fun q => (nomatch q), fun q => absurd q.1 h⟩

/-! ### the generator's frame -/
structure GP where
  N : List Str
  qual : Str
  scope : Scope
  f : Addr
  cd : Value
  A : Around
  L : Addr
abbrev GP.env (g : GP) : Env := envOfC g.qual g.scope g.L g.f g.cd
/-- the generator's own context, from a state s0 on -/
def GP.cx (g : GP) (X : Cx) (s0 : Shared) (H0 : Hp) : Cx where
  prog := X.prog
  w := X.w
  K := X.K
  mg := X.mg
  base := X.base
  A := g.A.deeper g.env
  N := g.N
  s_0 := s0
  H_0 := H0
  env := g.env
  outer := X.stack
  stack := g.env :: X.stack
  ex := []
  fn := fun _ => true
  calm := true
  pn := []
  xe := fun _ _ => False
structure EnvOk (g : GP) : Prop where
  kind : g.scope.kind = .function
  inj : ∀ x y c, g.env.cells.lookup x = some c → g.env.cells.lookup y = some c → x = y
  has : ∀ x, (g.env.kindOf x = some .cell ∨ g.env.kindOf x = some .free) → ∃ c, g.env.cells.lookup x = some c
  above : ∀ x c, g.env.cells.lookup x = some c → g.L < c
/-- the frame's objects -/
def GP.own (g : GP) (b : Addr) : Prop := b = g.L ∨ ∃ x, g.env.cells.lookup x = some b
/-- the frame at rest, its names as σ says -/
structure Asleep (g : GP) (σ : L2.St) (h : Heap) : Prop where
  loc : ∃ m, h.Ns g.L m ∧ ∀ (i : Nat) (x : Str) (v : V), g.N[i]? = some x → σ[i]? = some (some v) → Vis g.scope x → ∃ u, RelV v u ∧ Look g.env h m x u
  cell : ∀ x c, g.env.cells.lookup x = some c → ∃ v, h.IsCell c v
  len : σ.length = g.N.length
theorem Asleep.keep {g : GP} {σ : L2.St} {h h' : Heap} (a : Asleep g σ h) (k : ∀ b o, g.own b → h.get? b = some o → h'.get? b = some o) : Asleep g σ h' := by
  have kc : ∀ x c v, g.env.cells.lookup x = some c → h.IsCell c v → h'.IsCell c v := fun x c v e ⟨o, ho, hd⟩ => ⟨o, k c o (.inr ⟨x, e⟩) ho, hd⟩
  refine ⟨?_, fun x c e => ?_, a.len⟩
  · obtain ⟨m, ⟨o, es, ep, ho, r⟩, hl⟩ := a.loc
    refine ⟨m, ⟨o, es, ep, k _ o (.inl rfl) ho, r⟩, fun i x v e1 e2 e3 => ?_⟩
    obtain ⟨u, r1, l⟩ := hl i x v e1 e2 e3
    refine ⟨u, r1, ?_⟩
    rcases l with l | ⟨kd, c, e, z⟩
    · exact .inl l
    · exact .inr ⟨kd, c, e, kc x c _ e z⟩
  · obtain ⟨v, z⟩ := a.cell x c e
    exact ⟨v, kc x c v e z⟩
theorem Asleep.of {g : GP} {X : Cx} {s0 : Shared} {H0 : Hp} {pins : List (Addr × Obj)} {σ : L2.St} {H : Hp} {s : Shared} (I : Inv (g.cx X s0 H0) pins σ H s) : Asleep g σ s.heap := ⟨I.loc, I.cell, I.len⟩

section
variable {X : Cx} {g : GP} {pins pins' : List (Addr × Obj)} {σ σc : L2.St} {H H' : Hp} {s s1 : Shared}
/-- the generator goes on: its context at the walker's state -/
theorem wake (O : EnvOk g) (I : Inv X pins σc H s) (hA : g.A.handled = none) (hF : g.A.frames = some X.stack) (hL : X.base.objs.size ≤ g.L) (hs : g.L < s.heap.objs.size) (hst : ∀ b, b ∈ frs X.stack → b < g.L) (hfree : ∀ b, g.own b → H b = none)
    (a : Asleep g σ s.heap) (hp : ∀ p, p ∈ pins' → s.heap.get? p.1 = some p.2 ∧ H p.1 = none ∧ p.1 ≠ g.L ∧ p.1 ∉ frs X.stack ∧ ∀ v, p.2.data ≠ .cell v) : Inv (g.cx X (cut s g.L) H) pins' σ H s := by
  have hsz := cut_size (s := s) (Nat.le_of_lt hs)
  have up : ∀ b o, (cut s g.L).heap.get? b = some o → s.heap.get? b = some o := fun b o e => (cut_get.mp e).2
  have noA : ∀ b : Addr, b ∉ (g.cx X (cut s g.L) H).ex := fun b z => absurd (show b ∈ ([] : List Addr) from z) (by simp)
  have low : ∀ b o, X.base.get? b = some o → b < g.L := fun b o e => Nat.lt_of_lt_of_le (Heap.lt_size e) hL
  refine ⟨⟨I.ok.mod, O.kind, rfl, rfl, Nat.le_of_eq hsz, O.inj, O.has, fun x c _ e => ?_, fun _ => hA, Around.frames_deeper hF, .inr ⟨rfl, rfl⟩, fun b z => absurd z (noA b), fun b o e => ?_, ?_, fun b _ _ => noA b, fun b z => absurd z (noA b), ?_, I.stkFree⟩,
    rfl, I.bare, Un.kept up, a.loc, a.cell, hfree _ (.inl rfl), fun x c e => hfree c (.inr ⟨x, e⟩), fun p q => ?_, I.hok, a.len⟩
  · show (cut s g.L).heap.objs.size ≤ c
    rw [hsz]
    exact Nat.le_of_lt (O.above x c e)
  · obtain ⟨e1, e2⟩ := I.bs b o e
    exact ⟨cut_get.mpr ⟨low b o e, e1⟩, e2⟩
  · show X.base.objs.size ≤ (cut s g.L).heap.objs.size
    rw [hsz]
    exact hL
  · have all : ∀ l : List Env, (∀ b, b ∈ frs l → b < g.L) → s.heap.FunFrames X.base l → (cut s g.L).heap.FunFrames X.base l := by
      intro l
      induction l with
      | nil => intro _ _; trivial
      | cons env r ih =>
        intro hb hl
        obtain ⟨hk, ⟨L, o, hf, hn, ho, hd⟩, hr⟩ := hl
        have mL : L ∈ frs (env :: r) := by unfold frs; rw [List.filterMap_cons, hf]; exact List.mem_cons_self
        exact ⟨hk, ⟨L, o, hf, hn, cut_get.mpr ⟨hb L mL, ho⟩, hd⟩, ih (fun b hm => hb b (by unfold frs at hm ⊢; rw [List.filterMap_cons, hf]; exact List.mem_cons_of_mem _ hm)) hr⟩
    exact all X.stack hst I.stack
  · exact hp p (by
      have q' : p ∈ ([] : List (Addr × Obj)) ++ pins' := q
      simpa using q')
/-- it sleeps again: the walker's context at the generator's state -/
theorem back {s0 : Shared} (e0 : s0.heap = s.heap) (eo : s0.os = s.os) (I : Inv X pins σc H s) (J : Inv (g.cx X (cut s0 g.L) H) pins' σ H' s1) (hin : ∀ p, p ∈ X.pn ++ pins → p ∈ pins') (hy : X.s_0.heap.objs.size ≤ g.L) (hl : X.env.locals < g.L)
    (hc : ∀ x c, X.env.cells.lookup x = some c → c < g.L) (hst : ∀ b, b ∈ frs X.stack → b < g.L) : Inv X pins σc H' s1 := by
  have pinJ : ∀ p, p ∈ X.pn ++ pins → s1.heap.get? p.1 = some p.2 ∧ H' p.1 = none := fun p hp => by
    obtain ⟨q1, q2, _⟩ := J.pin p (List.mem_append_right _ (hin p hp))
    exact ⟨q1, q2⟩
  have low : ∀ b o, s.heap.get? b = some o → b < g.L → (cut s0 g.L).heap.get? b = some o := fun b o e h => cut_get.mpr ⟨h, by rw [e0]; exact e⟩
  let ch : List Addr := (List.range s.heap.objs.size).filter fun b => decide (g.L ≤ b) && (X.pn ++ pins).all fun p => decide (p.1 ≠ b)
  have inch : ∀ b o, s.heap.get? b = some o → b ∉ ch → b < g.L ∨ ∃ p, p ∈ X.pn ++ pins ∧ p.1 = b := fun b o e h => by
    by_cases hb : b < g.L
    · exact .inl hb
    · by_cases hp : ∃ p, p ∈ X.pn ++ pins ∧ p.1 = b
      · exact .inr hp
      · refine absurd (List.mem_filter.mpr ⟨List.mem_range.mpr (Heap.lt_size e), ?_⟩) h
        rw [Bool.and_eq_true]
        refine ⟨decide_eq_true (Nat.le_of_not_lt hb), List.all_eq_true.mpr fun p q => decide_eq_true fun z => hp ⟨p, q, z⟩⟩
  have noE : ∀ b : Addr, b ∉ (g.cx X (cut s0 g.L) H).ex := fun b z => absurd (show b ∈ ([] : List Addr) from z) (by simp)
  refine I.call' (ch := ch) (show s1.os = s.os from J.os.trans eo) ⟨fun b o e n hf hx => ?_, fun b o e n hf hx => ?_, fun b o e n hx => ?_, fun b o e hx => ?_, J.base.tups, J.base.frzs, J.base.tbls⟩ J.hok J.bare fun b hb => ?_
  · rcases inch b o e hx with h | ⟨p, hp, ep⟩
    · exact J.base.keep b o (low b o e h) n hf (noE b)
    · subst ep
      have e2 := (I.pin p hp).1
      rw [e] at e2
      rw [Option.some.inj e2]
      exact (pinJ p hp).1
  · exact J.base.slot b o (low b o e (hst b hf)) n hf (noE b)
  · rcases inch b o e hx with h | ⟨p, hp, ep⟩
    · exact J.base.free b o (low b o e h) n (noE b)
    · subst ep
      exact (pinJ p hp).2
  · rcases inch b o e hx with h | ⟨p, hp, ep⟩
    · exact J.base.there b o (low b o e h) (noE b)
    · subst ep
      exact ⟨_, (pinJ p hp).1⟩
  · obtain ⟨_, h2⟩ := List.mem_filter.mp hb
    rw [Bool.and_eq_true] at h2
    have h3 := of_decide_eq_true h2.1
    refine ⟨.inr (Nat.le_trans hy h3), fun z => ?_, fun x c e z => ?_, fun p hp => of_decide_eq_true (List.all_eq_true.mp h2.2 p hp)⟩
    · rw [z] at h3; exact absurd (Nat.lt_of_lt_of_le hl h3) (Nat.lt_irrefl _)
    · have := hc x c e
      rw [z] at this
      exact absurd (Nat.lt_of_lt_of_le this h3) (Nat.lt_irrefl _)
end
end K19

set_option Elab.async false
set_option linter.all false
set_option maxRecDepth 100000
set_option maxHeartbeats 4000000
/-! enumerate over a generator: made, asked for the next. -/
namespace K19
open PySem PySem.Spec PyProof.Rows L2 GenW
open AutoSeq1 (wpAny_loadPart')
/-- the record over any iterator -/
abbrev enumObj (a : Addr) (i : Int) (old : Value) : Obj := { cls := .type "enumerate", dict := none, data := .fields #[.none, .bool false, .ref a, rawInt i, .none, old], slots := #[] }
theorem meets_enum_gen (a : Addr) (g : Nat) :
    Meets (Builtin.«enumerate.__new__» ⟨[.type "enumerate", .ref a], []⟩) (fun _ R s => s.heap.IsGen a g ∧
      R (.ok (.ret (.ref s.heap.objs.size))) { s with heap := s.heap.push { cls := .type "enumerate", data := .fields #[.none, .bool false, .ref a, rawInt 0, .none, .none] } }) :=
  .of_wp fun prog w A R s h => by
    obtain ⟨hp, gs, d, tk, os⟩ := s
    obtain ⟨hg, h⟩ := h
    have hsub := sub_enumerate
    obtain ⟨o, nm, qn, ho, hc, hd, hsl⟩ := id hg
    wp_walk using wpAny_loadPart' ho
    refine wpAny_stack_any fun st => wpAny_pure ?_
    split
    · rename_i c _ _ _ _ _
      cases (c == Value.type "enumerate")
      · wp_walk using wpAny_loadPart' ho, wpAny_pyIter_gen hg
        exact ⟨_, rfl, h⟩
      · wp_walk using wpAny_loadPart' ho, wpAny_pyIter_gen hg
        exact ⟨_, rfl, h⟩
    · wp_walk using wpAny_loadPart' ho, wpAny_pyIter_gen hg
      exact ⟨_, rfl, h⟩
section
variable {P : Program} {w : World} {A : Around} {E : Value → Shared → Prop} {s : Shared}
theorem call_enum_gen {a : Addr} {g : Nat} {Q : Value → Shared → Prop} (hg : s.heap.IsGen a g)
    (h : Q (.ref s.heap.objs.size) { s with heap := s.heap.push (enumObj a 0 .none) }) : wpAny (model P w) A (call (.type "enumerate") [.ref a]) Q E s := by
  refine callType_new F.called_enumerate (by decide) (F.typeCall_enumerate_1 _) (F.newCall_enumerate_1 _) (fun obj => F.args_object_init_2 obj _) F.entry_enumerate_new
    (meets_enum_gen a g) ⟨hg, ?_⟩
  exact ⟨⟨_, Heap.get?_push_size _ rfl, rfl⟩, h⟩
theorem nextOf_gen {a : Addr} {g n : Nat} {gs : GenState} {F : Nat → Shared → Shared → Prop} {Y : Protocol} {Q : Value → Shared → Prop} (hh : A.handled = none)
    (hl : s.heap.NoLimit) (hroom : A.depth < recursionLimit) (hg : s.heap.IsGen a g) (hgs : s.gens[g]? = some gs)
    (hgo : gs.Goes (model P w) A.in1 (fun n s₀ r s₁ => r = .ok (.ret .none) ∧ F n s₀ s₁) Y n (.send .none) (s.setGen g .running))
    (hY : ∀ v s₁ gs', gs'.bare = true → Y (n - 1) (s.setGen g .running) v s₁ (fun r' s'' => match n with
        | 0 => False
        | m + 1 => gs'.Goes (model P w) A.in1 (fun n s₀ r s₁ => r = .ok (.ret .none) ∧ F n s₀ s₁) Y m r' s'') → Q v (s₁.setGen g gs'))
    (hP : ∀ s₁, F n (s.setGen g .running) s₁ → ∀ h' e, (∀ b o, s₁.heap.get? b = some o → h'.get? b = some o) → (∃ o, h'.get? e = some o ∧ o.cls = .type "StopIteration") → E (.ref e) { s₁.setGen g .finished with heap := h' }) :
    wpAny (model P w) A (Builtin.SmallTypes.nextOf (.ref a)) Q E s := by
  unfold Builtin.SmallTypes.nextOf
  refine wpAny_bind (wpAny_callSpecial?_slot (name := Str.ofString "__next__") hg.typeIs slot_gen_next
    (wpAny_call_entry slot_gen_next hg.typeIs entry_gen_next ?_ (args_gen_next _)))
  show wpAny _ A.in1 (Builtin.Generator.genWake (.ref a) (.send .none)) _ _ s
  unfold Builtin.Generator.genWake
  refine wpAny_bind (wpAny_holding (wpAny_genNumber hg (wpAny_bind (wpAny_genState hgs ?_))))
  cases gs with
  | running => exact hgo.elim
  | finished => exact hgo.elim
  | _ =>
    refine wpAny_bind (wpAny_roomToWake hl hroom ?_)
    show wpAny _ A.in1 (.resume g (.send .none) [] _) _ _ s
    refine wpAny_resumeQ hgs hgo (fun x s₁ hx => ?_) (fun v s₁ gs' hb hv => ?_)
    · obtain ⟨rfl, hp⟩ := hx
      show wpAny _ A.in1 (newExc (.type "StopIteration") [] >>= _) _ _ _
      refine wpAny_bind ?_
      simp only [newExc, newTuple]
      refine wpAny_bind (wpAny_newObj_type ?_ (by size_fits))
      refine wpAny_bind (m := firstArgMember _ _) (wpAny_of_eq (a := Value.none) (by first | rfl | (simp only [firstArgMember]; rfl)) ?_)
      refine wpAny_newObj_type ?_ (by size_fits)
      simp only [raiseNew]
      refine wpAny_bind (wpAny_bind (wpAny_handled ?_))
      first | rw [show A.in1.handled = none from hh] | rw [hh]
      refine wpAny_throw ?_
      exact hP s₁ hp _ _ (fun b o hb => Heap.get?_push_of_some _ (Heap.get?_push_of_some _ hb)) ⟨_, Heap.get?_push_size _ rfl, rfl⟩
    · exact wpAny_pure ⟨v, rfl, wpAny_pure (hY v s₁ gs' hb hv)⟩

/-- the record's next, whatever it walks -/
theorem enum_next {e it : Addr} {i : Nat} {old : Value} {Q : Option Value → Shared → Prop} (he : IsEnum s.heap e it i old)
    (hn : wpAny (model P w) A.in1 (Builtin.SmallTypes.nextOf (.ref it)) (fun x s1 => IsEnum s1.heap e it i old ∧ e < s1.heap.objs.size ∧
        ∀ h', IsEnumOut h' e it ((i : Int) + 1) x s1.heap.objs.size → h'.get? s1.heap.objs.size = some { cls := .type "tuple", data := .seq #[.int i s1.toks, x] } → h'.objs.size = s1.heap.objs.size + 1 →
          (∀ b o, b ≠ e → s1.heap.get? b = some o → h'.get? b = some o) → Q (some (.ref s1.heap.objs.size)) { s1 with heap := h', toks := s1.toks + 1 })
      (fun x s1 => (∃ a o, x = .ref a ∧ s1.heap.get? a = some o ∧ o.cls = .type "StopIteration") ∧ Q none s1) s) : wpAny (model P w) A (pyNext (.ref e)) Q E s := by
  have hT : s.TypeIs (.ref e) "enumerate" := ⟨_, he, rfl⟩
  unfold pyNext
  refine wpAny_bind (wpAny_attempt (wpAny_callSpecial?_slot (name := Str.ofString "__next__") hT F.slot_enumerate_next
    (wpAny_call_entry F.slot_enumerate_next hT F.entry_enumerate_next ?_ (F.args_enumerate_next_1 _))))
  show wpAny _ _ (field (.ref e) 2 >>= _) _ _ _
  refine wpAny_bind (wpAny_field he rfl (x := .ref it) rfl ?_)
  refine wpAny_bind (wpAny_mono hn (fun x s1 ⟨he1, hlt, hq⟩ => ?_) fun x s1 ⟨⟨a, o, ex, ho, hc⟩, hq⟩ => ?_)
  · obtain ⟨hp, g, d, tk, os⟩ := s1
    have he₁ : IsEnum hp e it i old := he1
    show wpAny _ _ (field (.ref e) 3 >>= _) _ _ ⟨hp, g, d, tk, os⟩
    refine wpAny_bind (wpAny_field he₁ rfl (x := rawInt i) rfl ?_)
    show wpAny _ _ (field (.ref e) 4 >>= _) _ _ ⟨hp, g, d, tk, os⟩
    refine wpAny_bind (wpAny_field he₁ rfl (x := .none) rfl ?_)
    show wpAny _ _ (mkInt i >>= _) _ _ ⟨hp, g, d, tk, os⟩
    refine wpAny_bind (wpAny_mkInt ?_)
    show wpAny _ _ (setField (.ref e) 3 (rawInt ((i : Int) + 1)) >>= _) _ _ ⟨hp, g, d, tk + 1, os⟩
    refine wpAny_bind (wpAny_setField_rec he₁ (by simp) fun h₂ he₂ hs₂ => ?_)
    replace hs₂ : Heap.SameBut e hp h₂ := hs₂
    replace he₂ : IsEnum h₂ e it ((i : Int) + 1) old := he₂
    show wpAny _ _ (setField (.ref e) 4 .none >>= _) _ _ ⟨h₂, g, d, tk + 1, os⟩
    refine wpAny_bind (wpAny_setField_rec he₂ (by simp) fun h₃ he₃ hs₃ => ?_)
    replace hs₃ : Heap.SameBut e h₂ h₃ := hs₃
    replace he₃ : IsEnum h₃ e it ((i : Int) + 1) old := he₃
    show wpAny _ _ (newTuple [.int i tk, x] >>= _) _ _ ⟨h₃, g, d, tk + 1, os⟩
    refine wpAny_bind (wpAny_newTuple ?_)
    have he₄ : IsEnum (h₃.push { cls := .type "tuple", data := .seq #[.int i tk, x] }) e it ((i : Int) + 1) old := Heap.get?_push_of_some _ he₃
    generalize hh₄ : h₃.push { cls := .type "tuple", data := .seq #[.int i tk, x] } = h₄ at he₄
    have hsz : h₃.objs.size = hp.objs.size := by rw [hs₃.1, hs₂.1]
    have hel : e < hp.objs.size := hlt
    have ht₄ : h₄.get? hp.objs.size = some { cls := .type "tuple", data := .seq #[.int i tk, x] } := by rw [← hh₄, ← hsz]; exact Heap.get?_push_size _ rfl
    have hz₄ : h₄.objs.size = hp.objs.size + 1 := by rw [← hh₄, Heap.size_push, hsz]
    have hk₄ : ∀ b o, b ≠ e → hp.get? b = some o → h₄.get? b = some o := fun b o hbe hb => by
      rw [← hh₄]; exact Heap.get?_push_of_some _ (hs₃.extBut b o hbe (hs₂.extBut b o hbe hb))
    show wpAny _ _ (Builtin.SmallTypes.ownedTupleIsFree (.ref e) >>= _) _ _ ⟨h₄, g, d, tk + 1, os⟩
    rw [hsz]
    clear hh₄ he₃ hs₃ he₂ hs₂ he₁ hsz h₃ h₂
    refine wpAny_bind ?_
    unfold Builtin.SmallTypes.ownedTupleIsFree
    refine wpAny_bind (wpAny_field he₄ rfl (x := .none) rfl (wpAny_pure ?_))
    simp only [if_true]
    refine wpAny_bind (wpAny_rule ?_)
    refine wpAny_bind (wpAny_field he₄ rfl (x := old) rfl ?_)
    refine wpAny_bind (wpAny_setField_rec he₄ (by simp) fun h₅ he₅ hs₅ => ?_)
    replace hs₅ : Heap.SameBut e h₄ h₅ := hs₅
    replace he₅ : IsEnum h₅ e it ((i : Int) + 1) x := he₅
    show wpAny _ _ (Builtin.SmallTypes.ownedTupleHandOut (.ref e) (.ref hp.objs.size) >>= _) _ _ ⟨h₅, g, d, tk + 1, os⟩
    refine wpAny_bind ?_
    unfold Builtin.SmallTypes.ownedTupleHandOut
    refine wpAny_bind (wpAny_setField_rec he₅ (by simp) fun h₆ he₆ hs₆ => ?_)
    replace hs₆ : Heap.SameBut e h₅ h₆ := hs₆
    replace he₆ : IsEnumOut h₆ e it ((i : Int) + 1) x hp.objs.size := he₆
    refine wpAny_setField_rec he₆ (by simp) fun h₇ he₇ hs₇ => ?_
    replace hs₇ : Heap.SameBut e h₆ h₇ := hs₇
    replace he₇ : IsEnumOut h₇ e it ((i : Int) + 1) x hp.objs.size := he₇
    refine wpAny_bind (wpAny_letGo (wpAny_pure ⟨_, rfl, wpAny_pure (hq h₇ he₇ ?_ ?_ ?_)⟩))
    · exact hs₇.extBut _ _ (Nat.ne_of_gt hel) (hs₆.extBut _ _ (Nat.ne_of_gt hel) (hs₅.extBut _ _ (Nat.ne_of_gt hel) ht₄))
    · rw [hs₇.1, hs₆.1, hs₅.1, hz₄]
    · exact fun b o hbe hb => hs₇.extBut b o hbe (hs₆.extBut b o hbe (hs₅.extBut b o hbe (hk₄ b o hbe hb)))
  · subst ex
    refine wpAny_bind (wpAny_isInstance (T := "StopIteration") (b := true) ⟨o, ho, hc⟩ isSubtype_stop ?_)
    exact wpAny_pure hq
end
end K19

set_option Elab.async false
set_option linter.all false
set_option maxRecDepth 100000
set_option maxHeartbeats 4000000
/-! for over enumerate(generator): the generator's while and the walker's body in one reading. -/
namespace K19
open PySem PySem.Spec PyProof.Rows L2 GenW
theorem execs_app {env : Env} : ∀ (xs ys : List Stmt), execs (xs ++ ys) env = (execs xs env >>= fun f => match f with | .next => execs ys env | f => pure f)
  | [], ys => (pure_bind Flow.next (fun f : Flow => match f with | .next => execs ys env | f => pure f)).symm
  | x :: xs, ys => by
    show execs (x :: (xs ++ ys)) env = _
    rw [execs_cons, execs_cons, bind_assoc]
    refine congrArg _ (funext fun f => ?_)
    cases f with
    | next => exact execs_app xs ys
    | brk => exact (pure_bind Flow.brk (fun f : Flow => match f with | .next => execs ys env | f => pure f)).symm
    | cont => exact (pure_bind Flow.cont (fun f : Flow => match f with | .next => execs ys env | f => pure f)).symm
    | ret v => exact (pure_bind (Flow.ret v) (fun f : Flow => match f with | .next => execs ys env | f => pure f)).symm
theorem seg_app {M : Model} {A : Around} {R : GenEnd} {Y : Protocol} {n : Nat} {s0 : Shared} {c : Code} {fs : List Frame} {s : Shared} {env : Env} {xs ys : List Stmt} {K : Flow → Sem PySem.Fin} {J : Value → Sem PySem.Fin} {gd : Bool → Bool} {lv : List Value → List Value}
    (h : wpAny M (A.over c fs) (execs xs env) (fun f s' => f = .next ∧ Seg M A R Y n s0 c ((execs ys env).wrap K J gd lv) fs s') (fun _ _ => False) s) : Seg M A R Y n s0 c ((execs (xs ++ ys) env).wrap K J gd lv) fs s := by
  rw [execs_app]
  refine seg_bind_wrap (wpAny_mono h (fun f s' hs => ?_) fun _ _ z => z.elim)
  obtain ⟨rfl, hs⟩ := hs
  exact hs

/-! ### what stays as it is through the loop -/
structure Stat (X : Cx) (g : GP) (pins : List (Addr × Obj)) (a en : Addr) (gi : Nat) (go : Obj) : Prop where
  O : EnvOk g
  hA : g.A = X.A.in1.in1
  hh : X.A.handled = none
  hF : g.A.frames = some X.stack
  hd : X.A.depth < recursionLimit
  hL : X.base.objs.size ≤ g.L
  hy : X.s_0.heap.objs.size ≤ g.L
  hl : X.env.locals < g.L
  hc : ∀ x c, X.env.cells.lookup x = some c → c < g.L
  hst : ∀ b, b ∈ frs X.stack → b < g.L
  hp : ∀ p, p ∈ X.pn ++ pins → p.1 < g.L
  La : g.L < a
  ae : a < en
  own : ∀ b, g.own b → b < a
  low : ∀ b, g.own b → g.L ≤ b
  god : ∀ v, go.data ≠ .cell v
  gen : ∀ h : Heap, h.get? a = some go → h.IsGen a gi
def pinsC (X : Cx) (pins : List (Addr × Obj)) (a en : Addr) (go : Obj) (i : Nat) (old : Value) : List (Addr × Obj) := (en, enumObj a (i : Int) old) :: (a, go) :: (X.pn ++ pins)
/-- the walker's state ahead of the i-th turn -/
structure Rdy (X : Cx) (g : GP) (pins : List (Addr × Obj)) (a en : Addr) (go : Obj) (i : Nat) (σg σc : L2.St) (H : Hp) (old : Value) (s : Shared) : Prop where
  inv : Inv X pins σc H s
  asleep : Asleep g σg s.heap
  free : ∀ b, g.own b → H b = none
  gob : s.heap.get? a = some go ∧ H a = none
  enm : IsEnum s.heap en a (i : Int) old ∧ H en = none
abbrev JW := Nat → Nat → L2.St → L2.St → Hp → Prop
abbrev JY := Nat → Nat → L2.St → L2.St → Hp → V → Prop
/-- an item is handed out -/
def YG (X : Cx) (g : GP) (pins : List (Addr × Obj)) (a en : Addr) (go : Obj) (W : JW) (Yd : JY) : Protocol := fun n s0 v s kap =>
  ∃ i m σg σc H old σg' H' x, Rdy X g pins a en go i σg σc H old s0 ∧ m ≤ n + 1 ∧ Inv (g.cx X (cut s0 g.L) H) (pinsC X pins a en go i old) σg' H' s ∧ RelV x v ∧ Yd i m σg' σc H' x ∧
    ∀ s2 m' σc2 H2 old2, m' < m → Rdy X g pins a en go (i + 1) σg' σc2 H2 old2 s2 → W (i + 1) m' σg' σc2 H2 → kap (.send .none) s2
/-- the generator ends -/
def RG (X : Cx) (g : GP) (pins : List (Addr × Obj)) (a en : Addr) (go : Obj) (Fi : L2.St → Hp → Prop) : Nat → Shared → Shared → Prop := fun _ s0 s =>
  ∃ i σg σc H old σg' H', Rdy X g pins a en go i σg σc H old s0 ∧ Inv (g.cx X (cut s0 g.L) H) (pinsC X pins a en go i old) σg' H' s ∧ Fi σc H'
abbrev GE (X : Cx) (g : GP) (pins : List (Addr × Obj)) (a en : Addr) (go : Obj) (Fi : L2.St → Hp → Prop) : GenEnd := fun n s0 r s => r = .ok (.ret .none) ∧ RG X g pins a en go Fi n s0 s

section
variable {X : Cx} {g : GP} {pins : List (Addr × Obj)} {a en : Addr} {gi : Nat} {go : Obj} {W : JW} {Yd : JY} {Fi : L2.St → Hp → Prop}
theorem own_stk (S : Stat X g pins a en gi go) {b : Addr} (h : g.L ≤ b) : b ∉ frs X.stack := fun hb => absurd (Nat.lt_of_lt_of_le (S.hst b hb) h) (Nat.lt_irrefl _)
theorem Rdy.wake (S : Stat X g pins a en gi go) {i : Nat} {σg σc : L2.St} {H : Hp} {old : Value} {s : Shared} (R : Rdy X g pins a en go i σg σc H old s) : Inv (g.cx X (cut s g.L) H) (pinsC X pins a en go i old) σg H s := by
  have hgA : g.A.handled = none := by rw [S.hA]; exact S.hh
  have la : a < s.heap.objs.size := Heap.lt_size R.gob.1
  refine K19.wake S.O R.inv hgA S.hF S.hL (Nat.lt_trans S.La la) S.hst R.free R.asleep fun p hp => ?_
  rcases List.mem_cons.mp hp with e | hp
  · subst e
    exact ⟨R.enm.1, R.enm.2, Nat.ne_of_gt (Nat.lt_trans S.La S.ae), own_stk S (Nat.le_of_lt (Nat.lt_trans S.La S.ae)), fun v z => by cases z⟩
  · rcases List.mem_cons.mp hp with e | hp
    · subst e
      exact ⟨R.gob.1, R.gob.2, Nat.ne_of_gt S.La, own_stk S (Nat.le_of_lt S.La), S.god⟩
    · obtain ⟨e1, e2, e3, e4, e5⟩ := R.inv.pin p hp
      refine ⟨e1, e2, Nat.ne_of_lt (S.hp p hp), fun hb => ?_, e5⟩
      rcases List.mem_cons.mp (R.inv.stkSub p.1 hb) with z | z
      · exact e3 z
      · exact e4 z
/-- the walker's state, the item in hand -/
theorem Rdy.back (S : Stat X g pins a en gi go) {i : Nat} {σg σc σg' : L2.St} {H H' : Hp} {old : Value} {s0 s : Shared} (R : Rdy X g pins a en go i σg σc H old s0) (J : Inv (g.cx X (cut s0 g.L) H) (pinsC X pins a en go i old) σg' H' s) :
    Rdy X g pins a en go i σg' σc H' old s := by
  have pn : ∀ p, p ∈ pinsC X pins a en go i old → s.heap.get? p.1 = some p.2 ∧ H' p.1 = none := fun p hp => by
    obtain ⟨q1, q2, _⟩ := J.pin p (List.mem_append_right _ hp)
    exact ⟨q1, q2⟩
  refine ⟨K19.back rfl rfl R.inv J (fun p hp => List.mem_cons_of_mem _ (List.mem_cons_of_mem _ hp)) S.hy S.hl S.hc S.hst, Asleep.of J, fun b hb => ?_, pn (a, go) (List.mem_cons_of_mem _ List.mem_cons_self), pn (en, enumObj a (i : Int) old) List.mem_cons_self⟩
  rcases hb with e | ⟨x, e⟩
  · subst e
    exact J.free
  · exact J.freeC x b e

section
variable {test : Expr} {wb : List Stmt} {e : Expr} {yp ep : Pos} {tt : TT} {tw : TS} {te : TE} {pre : List Stmt} {tp : TS} {wpos : Pos}
/-- the generator's loop, from any turn on -/
theorem seg_loop (S : Stat X g pins a en gi go) (hco : g.scope.isCoroutine = false) (ht : ∀ s0 H0, PT (g.cx X s0 H0) test tt) (hw : ∀ s0 H0, PSs (g.cx X s0 H0) wb tw) (he : ∀ s0 H0, PE (g.cx X s0 H0) e te)
    (step : ∀ i m σg σc H, W i m σg σc H → tt σg H fun b H1 => if b = true then 0 < m ∧ tw { nx := fun σ2 H2 => te σ2 H2 fun x H3 => Yd i m σ2 σc H3 x, rt := fun _ _ => False } σg H1 else Fi σc H1)
    {fs : List Frame} (hov : g.A.over (.whileLoop test (wb ++ [.Expr (.Yield (some e) yp) ep]) [] g.env) fs = g.A.deeper g.env) (hsp : splitAtGen fs = none) (hgu : fs.any Frame.guarded = false)
    (hend : ∀ n s0 s, RG X g pins a en go Fi n s0 s → Seg (model X.prog X.w) g.A (GE X g pins a en go Fi) (YG X g pins a en go W Yd) n s0 (.whileLoop test (wb ++ [.Expr (.Yield (some e) yp) ep]) [] g.env) (.pure (.done .next)) fs s) :
    ∀ (n i m : Nat) (σ0 σc : L2.St) (H0 : Hp) (old : Value) (s0 : Shared) (σg : L2.St) (H : Hp) (s : Shared), m ≤ n → Rdy X g pins a en go i σ0 σc H0 old s0 → Inv (g.cx X (cut s0 g.L) H0) (pinsC X pins a en go i old) σg H s → W i m σg σc H →
      Seg (model X.prog X.w) g.A (GE X g pins a en go Fi) (YG X g pins a en go W Yd) n s0 (.whileLoop test (wb ++ [.Expr (.Yield (some e) yp) ep]) [] g.env)
        ((model X.prog X.w).den (.whileLoop test (wb ++ [.Expr (.Yield (some e) yp) ep]) [] g.env)) fs s := by
  intro n
  induction n with
  | zero =>
    intro i m σ0 σc H0 old s0 σg H s hm R I w
    refine seg_whileLoop ?_
    rw [hov]
    refine wpAny_mono ((ht (cut s0 g.L) H0).run _ s σg H _ I (step i m σg σc H w)) (fun b s' hb' => ?_) fun _ _ z => z.elim
    obtain ⟨H2, I2, q2⟩ := hb'
    cases b with
    | true =>
      obtain ⟨q, _⟩ := (show 0 < m ∧ _ from by simpa using q2)
      omega
    | false =>
      rw [if_neg Bool.false_ne_true]
      have q3 : Fi σc H2 := by simpa using q2
      refine seg_execs_nil ?_
      exact hend 0 s0 s' ⟨i, σ0, σc, H0, old, σg, H2, R, I2, q3⟩
  | succ n ih =>
    intro i m σ0 σc H0 old s0 σg H s hm R I w
    refine seg_whileLoop ?_
    rw [hov]
    refine wpAny_mono ((ht (cut s0 g.L) H0).run _ s σg H _ I (step i m σg σc H w)) (fun b s' hb' => ?_) fun _ _ z => z.elim
    obtain ⟨H2, I2, q2⟩ := hb'
    cases b with
    | false =>
      rw [if_neg Bool.false_ne_true]
      have q3 : Fi σc H2 := by simpa using q2
      refine seg_execs_nil ?_
      exact hend (n + 1) s0 s' ⟨i, σ0, σc, H0, old, σg, H2, R, I2, q3⟩
    | true =>
      rw [if_pos rfl]
      obtain ⟨m0, q3⟩ : 0 < m ∧ tw { nx := fun σ2 H2 => te σ2 H2 fun x H3 => Yd i m σ2 σc H3 x, rt := fun _ _ => False } σg H2 := by
        have z := q2
        rw [if_pos rfl] at z
        exact z
      refine seg_app ?_
      rw [hov]
      refine wpAny_mono ((hw (cut s0 g.L) H0).run _ s' σg H2 _ I2 q3) (fun f s3 hs3 => ?_) fun _ _ z => z.elim
      cases f with
      | brk => obtain ⟨_, _, _, q⟩ := hs3; exact q.elim
      | cont => obtain ⟨_, _, _, q⟩ := hs3; exact q.elim
      | ret u => obtain ⟨_, _, _, _, _, q⟩ := hs3; exact q.elim
      | next =>
        obtain ⟨σ3, H3, I3, q4⟩ := hs3
        refine ⟨rfl, ?_⟩
        refine seg_execs_cons ?_
        refine seg_Expr_Yield hsp rfl hgu ?_ hco (by show interactive g.env = false; simp [interactive, envOfC, S.O.kind])
        rw [hov]
        refine wpAny_mono ((he (cut s0 g.L) H0).run _ s3 σ3 H3 _ I3 q4) (fun v s4 hv => ?_) fun _ _ z => z.elim
        obtain ⟨x, H4, I4, rv, q5⟩ := hv
        intro kap hk
        refine ⟨i, m, σ0, σc, H0, old, σ3, H4, x, R, hm, I4, rv, q5, fun s5 m' σc2 H5 old2 hm' R5 w5 => hk .none s5 ?_⟩
        show Seg _ _ _ _ n s5 _ ((execs [] g.env).wrap _ _ _ _) fs s5
        refine seg_execs_nil ?_
        exact seg_again rfl (ih (i + 1) m' σ3 σc2 H5 old2 s5 σ3 H5 s5 (by omega) R5 (R5.wake S) w5)
/-- .. from its first statement on -/
theorem seg_first (S : Stat X g pins a en gi go) (hco : g.scope.isCoroutine = false) (hpre : ∀ s0 H0, PSs (g.cx X s0 H0) pre tp) (ht : ∀ s0 H0, PT (g.cx X s0 H0) test tt) (hw : ∀ s0 H0, PSs (g.cx X s0 H0) wb tw) (he : ∀ s0 H0, PE (g.cx X s0 H0) e te)
    (step : ∀ i m σg σc H, W i m σg σc H → tt σg H fun b H1 => if b = true then 0 < m ∧ tw { nx := fun σ2 H2 => te σ2 H2 fun x H3 => Yd i m σ2 σc H3 x, rt := fun _ _ => False } σg H1 else Fi σc H1)
    {n m : Nat} {σg σc : L2.St} {H : Hp} {old : Value} {s : Shared} (hm : m ≤ n) (R : Rdy X g pins a en go 0 σg σc H old s) (h0 : tp { nx := fun σ1 H1 => W 0 m σ1 σc H1, rt := fun _ _ => False } σg H) :
    Seg (model X.prog X.w) g.A (GE X g pins a en go Fi) (YG X g pins a en go W Yd) n s (.func (pre ++ [.While test (wb ++ [.Expr (.Yield (some e) yp) ep]) [] wpos]) g.env)
      ((model X.prog X.w).den (.func (pre ++ [.While test (wb ++ [.Expr (.Yield (some e) yp) ep]) [] wpos]) g.env)) [] s := by
  refine seg_func ?_
  refine seg_app ?_
  rw [over_func]
  refine wpAny_mono ((hpre (cut s g.L) H).run _ s σg H _ (R.wake S) h0) (fun f s1 hs1 => ?_) fun _ _ z => z.elim
  cases f with
  | brk => obtain ⟨_, _, _, q⟩ := hs1; exact q.elim
  | cont => obtain ⟨_, _, _, q⟩ := hs1; exact q.elim
  | ret u => obtain ⟨_, _, _, _, _, q⟩ := hs1; exact q.elim
  | next =>
    obtain ⟨σ1, H1, I1, w1⟩ := hs1
    refine ⟨rfl, ?_⟩
    refine seg_execs_cons ?_
    refine seg_While fun p => ?_
    refine seg_loop S hco ht hw he step ?_ rfl rfl (fun n s0 s hR => ?_) n 0 m σg σc H old s σ1 H1 s1 hm R I1 w1
    · refine (over_loop rfl rfl).trans over_func
    · refine seg_leaf (.ok .next) ?_
      show Seg _ _ _ _ n s0 _ ((execs [] g.env).wrap _ _ _ _) [] s
      refine seg_execs_nil ?_
      exact seg_end (.ok (.ret .none)) ⟨rfl, hR⟩
end

/-! ### the walker's loop -/
section
variable {elts : List Expr} {kk : Nat} {tpos : Pos} {body : List Stmt} {gt : TG} {tb : TS}
theorem loop_gen (S : Stat X g pins a en gi go) (hp : PassesOwn (model X.prog X.w) X.A X.env X.xe) (hg : PGk X (.Tuple elts kk tpos) gt) (hb : PSsk X body tb) {D : L2.St → Hp → Prop}
    (n : Nat) (s : Shared) (h : ∃ i σg σc H old gs, Rdy X g pins a en go i σg σc H old s ∧ s.gens[gi]? = some gs ∧
      gs.Goes (model X.prog X.w) g.A (GE X g pins a en go D) (YG X g pins a en go W (fun i m σg σc H x => ∀ T, H T = none → gt (.ref T) σc (upd H T (.tup [.int (i : Int), x])) fun σ2 H2 => tb { nx := fun σ3 H3 => ∃ m', m' < m ∧ W (i + 1) m' σg σ3 H3, rt := fun _ _ => False } σ2 H2)) n (.send .none) (s.setGen gi .running)) :
    codeAny (model X.prog X.w) X.A (.forLoop (.Tuple elts kk tpos) (.ref en) body [] X.env) (fun r s' => match r with
      | .ok f => f = .next ∧ ∃ σ' H', Inv X pins σ' H' s' ∧ D σ' H'
      | .error e => cameBackBy (model X.prog X.w) X.A X.env X.xe e s') s := by
  refine codeAny_forLoop_any (fun n s => ∃ i σg σc H old gs, Rdy X g pins a en go i σg σc H old s ∧ s.gens[gi]? = some gs ∧
      gs.Goes (model X.prog X.w) g.A (GE X g pins a en go D) (YG X g pins a en go W (fun i m σg σc H x => ∀ T, H T = none → gt (.ref T) σc (upd H T (.tup [.int (i : Int), x])) fun σ2 H2 => tb { nx := fun σ3 H3 => ∃ m', m' < m ∧ W (i + 1) m' σg σ3 H3, rt := fun _ _ => False } σ2 H2)) n (.send .none) (s.setGen gi .running)) ?_ n h
  rintro n s ⟨i, σg, σc, H, old, gs, R, hgs, hgo⟩
  have hgi : gi < s.gens.size := (Array.getElem?_eq_some_iff.mp hgs).1
  have hA1 : X.A.in1.in1 = g.A := S.hA.symm
  have lim : ∀ {s : Shared} {σ : L2.St} {H : Hp}, Inv X pins σ H s → s.heap.NoLimit := fun I => I.nolimit
  refine wpAny_passesOwn hp (enum_next R.enm.1 ?_)
  refine wpAny_gsz (n := gi + 1) hgi (nextOf_gen (A := X.A.in1) (n := n) (gs := gs) (F := RG X g pins a en go D) (Y := YG X g pins a en go W (fun i m σg σc H x => ∀ T, H T = none → gt (.ref T) σc (upd H T (.tup [.int (i : Int), x])) fun σ2 H2 => tb { nx := fun σ3 H3 => ∃ m', m' < m ∧ W (i + 1) m' σg σ3 H3, rt := fun _ _ => False } σ2 H2))
    S.hh R.inv.nolimit S.hd (S.gen _ R.gob.1) hgs (by rw [hA1]; exact hgo) (fun v s1 gs' hbare hv hsz => ?_) fun s1 hP h' ex hk hst hsz => ?_)
  · -- an item
    obtain ⟨i1, m, σg1, σc1, H1, old1, σg2, H2, x, R1, hm, J, rv, yd, hkap⟩ := hv
    have R2 := R1.back S J
    -- the record as it stands: its place is told by the state
    have e1 := R1.enm.1
    have e0 : IsEnum (s.setGen gi .running).heap en a (i : Int) old := R.enm.1
    have ei : (i1 : Int) = (i : Int) ∧ old1 = old := by
      have q : some (enumObj a (i1 : Int) old1) = some (enumObj a (i : Int) old) := e1.symm.trans e0
      have q2 := Option.some.inj q
      simp [rawInt] at q2
      exact ⟨by omega, q2.2⟩
    have hi : i1 = i := by omega
    obtain rfl := ei.2
    subst hi
    have hb1 : AllBare (s1.setGen gi gs').gens := allBare_setGen R2.inv.bare hbare
    have I2 : Inv X pins σc1 H2 (s1.setGen gi gs') := inv_gens R2.inv hb1
    refine ⟨R2.enm.1, Heap.lt_size R2.enm.1, fun h' ho hT hz hk => ?_⟩
    have hel : en < s1.heap.objs.size := Heap.lt_size R2.enm.1
    refine wpAny_letOwnedTupleGo_enum (s := { s1.setGen gi gs' with heap := h', toks := (s1.setGen gi gs').toks + 1 }) ho fun h'' he'' sb => ?_
    have hT2 : h''.get? s1.heap.objs.size = some { cls := .type "tuple", data := .seq #[.int (i1 : Int) (s1.setGen gi gs').toks, v] } := (sb.2 _ (Nat.ne_of_gt hel)).trans hT
    have new : ObjOk X.prog X.w (upd H2 s1.heap.objs.size (.tup [.int (i1 : Int), x])) h'' s1.heap.objs.size (.tup [.int (i1 : Int), x]) :=
      ⟨by show 2 ≤ sizeLine; decide, [.int (i1 : Int) (s1.setGen gi gs').toks, v], .cons ⟨_, rfl⟩ (.cons rv .nil), ⟨_, hT2, rfl, _, rfl⟩⟩
    have enL : g.L < en := Nat.lt_trans S.La S.ae
    have fp : ∀ b, b ∈ [en] → FpOk X pins H2 b := fun b hb => by
      rw [List.mem_singleton.mp hb]
      refine ⟨R2.enm.2, Nat.ne_of_gt (Nat.lt_trans S.hl enL), fun z => ?_, .inr (Nat.le_trans S.hy (Nat.le_of_lt enL)), fun y c q z => ?_, fun p hp z => ?_⟩
      · rcases R2.inv.ok.stk with q | ⟨q, hfr⟩
        · exact own_stk S (Nat.le_of_lt enL) (by rw [q]; exact z)
        · refine own_stk S (Nat.le_of_lt enL) ?_
          rw [q]
          show en ∈ List.filterMap _ _
          rw [List.filterMap_cons, hfr]
          exact List.mem_cons_of_mem _ z
      · have := S.hc y c q
        rw [z] at this
        exact absurd (Nat.lt_trans this enL) (Nat.lt_irrefl _)
      · have := S.hp p hp
        rw [z] at this
        exact absurd (Nat.lt_trans this enL) (Nat.lt_irrefl _)
    have keep : ∀ b o, b ≠ en → s1.heap.get? b = some o → h''.get? b = some o := fun b o hbe q => (sb.2 b hbe).trans (hk b o hbe q)
    have I3 : Inv X pins σc1 (upd H2 s1.heap.objs.size (.tup [.int (i1 : Int), x])) { s1.setGen gi gs' with heap := h'', toks := (s1.setGen gi gs').toks + 1 } :=
      I2.turnedNew (ch := [en]) (fun b ob hb q => keep b ob (fun z => hb (by simp [z])) q) fp (Nat.le_refl _) new
    refine wpAny_passesOwn hp (thn (hg.run pins _ σc1 _ (.ref s1.heap.objs.size) (.ref s1.heap.objs.size) _ I3 rfl (yd s1.heap.objs.size (R2.inv.hok.fresh (Nat.le_refl _)))) fun _ s6 ⟨σ6, H6, I6, k6, q6⟩ => ?_)
    refine wpAny_passesOwn hp (thn (hb.run pins s6 σ6 H6 _ I6 q6) fun f s7 ⟨ef, σ7, H7, I7, k7, m', hm', w7⟩ => ?_)
    subst ef
    have K7 := k6.trans k7
    -- the generator's own things through the body
    have big : ∀ b, g.L ≤ b → b ∉ [X.env.locals] := fun b hb z => by
      rw [List.mem_singleton.mp z] at hb
      exact absurd (Nat.lt_of_lt_of_le S.hl hb) (Nat.lt_irrefl _)
    have thru : ∀ b o, g.L ≤ b → b ≠ en → H2 b = none → s1.heap.get? b = some o → s7.heap.get? b = some o ∧ H7 b = none := fun b o hb hne n q => by
      have hbs : b ≠ s1.heap.objs.size := Nat.ne_of_lt (Heap.lt_size q)
      exact K7.keep b o (big b hb) (by rw [upd_ne hbs]; exact n) (keep b o hne q)
    have ownE : ∀ b, g.own b → b ≠ en := fun b hb => Nat.ne_of_lt (Nat.lt_trans (S.own b hb) S.ae)
    have ownAt : ∀ b, g.own b → ∃ o, s1.heap.get? b = some o := fun b hb => by
      rcases hb with z | ⟨y, z⟩
      · obtain ⟨m, ⟨o, es, ep, ho, _⟩, _⟩ := R2.asleep.loc
        exact ⟨o, by rw [z]; exact ho⟩
      · obtain ⟨v', o, ho, _⟩ := R2.asleep.cell y b z
        exact ⟨o, ho⟩
    have R7 : Rdy X g pins a en go (i1 + 1) σg2 σ7 H7 v s7 := by
      refine ⟨I7, R2.asleep.keep fun b o hb q => (thru b o (S.low b hb) (ownE b hb) (R2.free b hb) q).1, fun b hb => ?_, thru a go (Nat.le_of_lt S.La) (Nat.ne_of_lt S.ae) R2.gob.2 R2.gob.1, ?_⟩
      · obtain ⟨o, ho⟩ := ownAt b hb
        exact (thru b o (S.low b hb) (ownE b hb) (R2.free b hb) ho).2
      · have ec : ((i1 + 1 : Nat) : Int) = (i1 : Int) + 1 := by omega
        rw [ec]
        have hes : en ≠ s1.heap.objs.size := Nat.ne_of_lt hel
        exact K7.keep en _ (big en (Nat.le_of_lt enL)) (by rw [upd_ne hes]; exact R2.enm.2) he''
    cases n with
    | zero => exact (hkap s7 m' σ7 H7 v hm' R7 w7).elim
    | succ n =>
      have hg7 : s7.gens[gi]? = some gs' := by
        rw [K7.gens]
        have hsz1 : gi < s1.gens.size := by
          have q : (s1.setGen gi gs').gens.size = s1.gens.size := setGen_size _ _ _
          have hsz' : gi + 1 ≤ (s1.setGen gi gs').gens.size := hsz
          omega
        exact setGen_at hsz1
      have R8 : Rdy X g pins a en go (i1 + 1) σg2 σ7 H7 v (s7.setGen gi .running) := ⟨inv_gens R7.inv (allBare_setGen R7.inv.bare rfl), R7.asleep, R7.free, R7.gob, R7.enm⟩
      refine ⟨n, Nat.lt_succ_self n, i1 + 1, σg2, σ7, H7, v, gs', R7, hg7, ?_⟩
      have z := hkap (s7.setGen gi .running) m' σ7 H7 v hm' R8 w7
      rw [hA1] at z
      exact z
  · -- the end
    obtain ⟨i1, σg1, σc1, H1, old1, σg2, H2, R1, J, hD⟩ := hP
    have R2 := R1.back S J
    obtain ⟨o, ho, hoc⟩ := hst
    refine ⟨⟨ex, o, rfl, ho, hoc⟩, ?_⟩
    refine wpAny_execs_nil ⟨rfl, σc1, H2, ?_, hD⟩
    have I3 : Inv X pins σc1 H2 (s1.setGen gi .finished) := inv_gens R2.inv (allBare_setGen R2.inv.bare rfl)
    exact I3.kept (t' := (s1.setGen gi .finished).toks) fun b u q => hk b u q
end
end
end K19

set_option Elab.async false
set_option linter.all false
set_option maxRecDepth 100000
set_option maxHeartbeats 4000000
/-! for over enumerate(o.m(..)), m a generator method: the rule. -/
namespace K19
open PySem PySem.Spec PyProof.Rows L2 GenW
/-- what a new generator has -/
structure Born (X : Cx) (g : GP) (pins : List (Addr × Obj)) (a : Addr) (gi : Nat) (go : Obj) (σ σg : L2.St) (H : Hp) (body : List Stmt) (s : Shared) : Prop where
  inv : Inv X pins σ H s
  O : EnvOk g
  asleep : Asleep g σg s.heap
  free : ∀ b, g.own b → H b = none
  gob : s.heap.get? a = some go ∧ H a = none
  gens : s.gens[gi]? = some (.fresh (.func body g.env))
  hL : X.base.objs.size ≤ g.L
  hy : X.s_0.heap.objs.size ≤ g.L
  hl : X.env.locals < g.L
  hc : ∀ x c, X.env.cells.lookup x = some c → c < g.L
  hst : ∀ b, b ∈ frs X.stack → b < g.L
  hp : ∀ p, p ∈ X.pn ++ pins → p.1 < g.L
  La : g.L < a
  own : ∀ b, g.own b → b < a
  low : ∀ b, g.own b → g.L ≤ b
  god : ∀ v, go.data ≠ .cell v
  gen : ∀ h : Heap, h.get? a = some go → h.IsGen a gi
section
variable {X : Cx} {pins : List (Addr × Obj)} {σ : L2.St} {H : Hp} {s : Shared} {k : Nat} {f : Addr} {name qual : Str} {params : Arguments} {body : List Stmt} {scope : Scope} {dV kV doc pm cdv ct oc : Value} {an od : Option Addr}
  {osl : Array (Option Value)} {N ps : List Str} {us : List Value} {vs : List V} {Aw : Around}
theorem gen_born (lk : X.K.lookup f = some ⟨oc, od, .func (PySem.W.fnOf name qual params body scope dV kV doc pm an cdv ct), osl⟩) (hcd : PySem.W.codeIn X.K cdv qual = true) (S : GScope N ps scope) (hr : Room k X.A)
    (hb : Binds X.K (PySem.W.fnOf name qual params body scope dV kV doc pm an cdv ct) ps []) (I : Inv X pins σ H s) (r : Vals vs us) (hl : vs.length = ps.length) {Q : Value → Shared → Prop} {E : Value → Shared → Prop}
    (h : ∀ a gi go s', Born X ⟨N, qual, scope, f, cdv, Aw, s.heap.objs.size⟩ pins a gi go σ (start N vs) H body s' → Q (.ref a) s') : wpAny (model X.prog X.w) X.A (call (.ref f) us) Q E s := by
  have e0 := I.env0
  have KX : X.K.In s.heap := I.kIn
  have hl2 : (us ++ ([] : List Value)).length = ps.length := by rw [List.append_nil, ← r.length]; exact hl
  have hb2 : BindsTo s (PySem.W.fnOf name qual params body scope dV kV doc pm an cdv ct) ⟨us, []⟩ (ps.zip us) := by
    have z := hb s us KX hl2
    rw [List.append_nil] at z
    exact z
  have hkind : ∀ y ∈ ps.zip us, scope.names.lookup y.1 = some .local ∨ (scope.names.lookup y.1 = some .cell ∧ ((cellsFrom (s.heap.objs.size + 1) scope.names []).lookup y.1).isSome = true) := fun ⟨n, v⟩ hy => by
    rcases S.par n (List.of_mem_zip hy).1 with q | q
    · exact .inl q
    · exact .inr ⟨q, PySem.W.cellsFrom_some _ _ _ (.inl q)⟩
  refine wpAny_call (codeAny_call_generator hr.depth (KX _ _ lk) rfl S.co S.gen rfl (PySem.W.codeRec_of KX hcd) (hb2 _ _ _ _ ?_))
  refine wpAny_newFunctionEnv_cells S.kind hkind fun env he s1 x => ?_
  subst he
  have lim1 : s1.heap.NoLimit := I.nolimit.keeps x.toInCall.keep
  refine ⟨lim1, ?_⟩
  have I1 : Inv (gcxOf X.prog X.w X.K X.mg X.base N qual scope f cdv X.A X.stack s H (fun _ _ _ => False) []) [] (start N vs) H s1 := inv_startG S hr.hd e0 hl r x
  have lt1 : s.heap.objs.size < s1.heap.objs.size := x.toInCall.ns.lt
  obtain ⟨h1, tk, es1, hk1⟩ := x.done
  have kp1 : ∀ b o, s.heap.get? b = some o → s1.heap.get? b = some o := x.toInCall.keep
  have main : ∀ (go : Obj) (nm qn : Value) (tk2 : Nat), go.cls = .type "generator" → go.data = .fields #[.int s1.gens.size 0, nm, qn] → go.slots = #[] → (∀ h : Heap, (h.push go).get? h.objs.size = some go) →
      Q (.ref s1.heap.objs.size) { s1 with gens := s1.gens.push (.fresh (.func body (envOfC qual scope s.heap.objs.size f cdv))), toks := tk2, heap := s1.heap.push go } := by
    intro go nm qn tk2 hgc hgd0 hgs hgp
    refine h s1.heap.objs.size s1.gens.size go _ ?_
    have upw : ∀ b o, s1.heap.get? b = some o → (s1.heap.push go).get? b = some o := fun b o e => Heap.get?_push_of_some _ e
    have J : Inv X pins σ H { s1 with gens := s1.gens.push (.fresh (.func body (envOfC qual scope s.heap.objs.size f cdv))), toks := tk2, heap := s1.heap.push go } := by
      have J1 : Inv X pins σ H { s with heap := s1.heap.push go, toks := tk2 } := I.kept fun b o e => upw b o (kp1 b o e)
      have J2 := inv_gens (G := s1.gens.push (.fresh (.func body (envOfC qual scope s.heap.objs.size f cdv)))) J1 (AllBare.push (by rw [es1]; exact I.bare) rfl)
      rw [es1]
      rw [es1] at J2
      exact J2
    have cellLt : ∀ y c, (cellsFrom (s.heap.objs.size + 1) scope.names []).lookup y = some c → s.heap.objs.size < c ∧ c < s1.heap.objs.size := fun y c e => by
      refine ⟨x.above y c (PySem.mem_of_lookup e), ?_⟩
      obtain ⟨o, ho, _⟩ := x.cell y c e
      exact Heap.lt_size ho
    refine ⟨J, ⟨S.kind, I1.ok.inj, I1.ok.has, fun y c e => (cellLt y c e).1⟩, (Asleep.keep (g := ⟨N, qual, scope, f, cdv, Aw, s.heap.objs.size⟩) ⟨I1.loc, I1.cell, I1.len⟩ fun b o _ e => upw b o e), fun b hb => ?_, ⟨hgp _, I1.hok.fresh (Nat.le_refl _)⟩, Array.getElem?_push_size ..,
      Nat.le_trans I.ok.bsz I.sz, I.sz, I.lt, fun y c e => ?_, fun b hb => ?_, fun p hp => Heap.lt_size (I.pin p hp).1, lt1, fun b hb => ?_, fun b hb => ?_, fun v q => (by rw [hgd0] at q; cases q), fun hh e => ⟨go, nm, qn, e, hgc, hgd0, hgs⟩⟩
    · rcases hb with z | ⟨y, z⟩
      · rw [z]; exact I1.free
      · exact I1.freeC y b z
    · obtain ⟨v, o, ho, _⟩ := I.cell y c e
      exact Heap.lt_size ho
    · obtain ⟨_, o, ho, _⟩ := I.stack.mem hb
      exact Heap.lt_size ho
    · rcases hb with z | ⟨y, z⟩
      · rw [z]; exact lt1
      · exact (cellLt y b z).2
    · rcases hb with z | ⟨y, z⟩
      · rw [z]; exact Nat.le_refl _
      · exact Nat.le_of_lt (cellLt y b z).1
  exact main _ _ _ _ rfl rfl rfl fun h => Heap.get?_push_size _ rfl
end

/-! ### the rule -/
def tForGen (C : Addr) (m : Str) (N ps : List Str) (ta : TE) (t : TA) (tp : TS) (tt : TT) (tw : TS) (te : TE) (gt : TG) (tb : TS) : TS := fun D σ H => ta σ H fun x H1 => ∃ a dx fs, x = .ref a ∧ H1 a = some (.ins C dx fs) ∧ fs.lookup m = none ∧
  t σ H1 fun vs H2 => (x :: vs).length = ps.length ∧ ∃ (W : JW) (m0 : Nat), tp { nx := fun σ1 H3 => W 0 m0 σ1 σ H3, rt := fun _ _ => False } (start N (x :: vs)) H2 ∧
    ∀ i m σg σc H, W i m σg σc H → tt σg H fun b H3 => if b = true then 0 < m ∧ tw { nx := fun σ2 H4 => te σ2 H4 (fun y H5 => ∀ T, H5 T = none →
      gt (.ref T) σc (upd H5 T (.tup [.int (i : Int), y])) (fun σ3 H6 => tb { nx := fun σ4 H7 => ∃ m', m' < m ∧ W (i + 1) m' σ2 σ4 H7, rt := fun _ _ => False } σ3 H6)), rt := fun _ _ => False } σg H3 else D.nx σc H3
section
variable {X : Cx} {k : Nat} {C f : Addr} {name qual : Str} {params : Arguments} {scope : Scope} {dV kV doc pm cdv ct oc : Value} {an od : Option Addr} {osl : Array (Option Value)} {N ps : List Str}
  {o e1 : Expr} {es : List Expr} {m nm : Str} {p pos pos' pos2 apos tpos yp ep wpos : Pos} {elts : List Expr} {kk : Nat} {body pre wb : List Stmt} {test e : Expr} {ta te : TE} {t : TA} {tp tw tb : TS} {tt : TT} {gt : TG} {pl : Sem Bool}
theorem ps_forgen (hown : PassesOwn (model X.prog X.w) X.A X.env X.xe) (hg : Gl X nm) (hm : X.mg nm = none) (hv : bootBuiltins nm = some (.type "enumerate")) (ho : PE X o ta) (c : Cls X.K C) (hme : Meth X.K C m f) (ha : PA X (e1 :: es) t)
    (lk : X.K.lookup f = some ⟨oc, od, .func (PySem.W.fnOf name qual params (pre ++ [.While test (wb ++ [.Expr (.Yield (some e) yp) ep]) [] wpos]) scope dV kV doc pm an cdv ct), osl⟩) (hcd : PySem.W.codeIn X.K cdv qual = true) (S : GScope N ps scope) (hr : Room (k + 3) X.A)
    (hb : Binds X.K (PySem.W.fnOf name qual params (pre ++ [.While test (wb ++ [.Expr (.Yield (some e) yp) ep]) [] wpos]) scope dV kV doc pm an cdv ct) ps [])
    (hpre : ∀ (A : Around) (L : Addr) s0 H0, Room k (A.deeper (envOfC qual scope L f cdv)) → PSs (GP.cx ⟨N, qual, scope, f, cdv, A, L⟩ X s0 H0) pre tp)
    (ht : ∀ (A : Around) (L : Addr) s0 H0, Room k (A.deeper (envOfC qual scope L f cdv)) → PT (GP.cx ⟨N, qual, scope, f, cdv, A, L⟩ X s0 H0) test tt)
    (hw : ∀ (A : Around) (L : Addr) s0 H0, Room k (A.deeper (envOfC qual scope L f cdv)) → PSs (GP.cx ⟨N, qual, scope, f, cdv, A, L⟩ X s0 H0) wb tw)
    (he : ∀ (A : Around) (L : Addr) s0 H0, Room k (A.deeper (envOfC qual scope L f cdv)) → PE (GP.cx ⟨N, qual, scope, f, cdv, A, L⟩ X s0 H0) e te)
    (hgt : PGk X (.Tuple elts kk tpos) gt) (hbd : PSsk X body tb)
    (hnm : nm ≠ "__name__" := by decide) (hdb : (nm == ("__debug__" : Str)) = false := by decide)
    (hs : ∀ x, foldedSetIterable (.Call (.Name nm p) [.Call (.Attribute o m apos) (e1 :: es) [] pos'] [] pos2) X.env x = pure x := by intro _; rfl)
    (hst1 : starEach [.Call (.Attribute o m apos) (e1 :: es) [] pos'] X.env = (false, eval (.Call (.Attribute o m apos) (e1 :: es) [] pos') X.env) :: starEach [] X.env := by rfl)
    (hst : starEach (e1 :: es) X.env = (false, eval e1 X.env) :: starEach es X.env := by rfl) (hpl : (backTo pos' (starEach es X.env)).any (·.1) = false := by rfl)
    (htree : eval (.Call (.Attribute o m apos) (e1 :: es) [] pos') X.env = (do
      let ov ← eval o X.env
      standAt apos.atName
      let (f, first) ← holding [ov] (getMethod ov m pl)
      callWith pos' f first (backTo pos' (starEach (e1 :: es) X.env)) (backToKw pos' (keywordEach [] X.env))) := by rfl) :
    PS X (.For (.Tuple elts kk tpos) (.Call (.Name nm p) [.Call (.Attribute o m apos) (e1 :: es) [] pos'] [] pos2) body [] pos) (tForGen C m N ps ta t tp tt tw te gt tb) := by
  refine ⟨fun pins s σ H D I hq => ?_⟩
  refine wpAny_For ?_ hs
  refine wpAny_Call_Name_kw (ld_blt I hg hm hv ?_ hnm hdb)
  refine PyProof.Rows.callWith_type1 ?_ hst1 rfl
  rw [hst1]
  refine Calls.spliced_cons ?_
  refine PySem.W.methodCall_KW (pl := pl) (thn (ho.run pins s σ H _ I hq) fun u s1 ⟨x, H1, I1, rx, a, dx, fs, ex, ea, l, q⟩ => ?_) htree
  subst ex
  obtain rfl : u = Value.ref a := rx
  refine getmeth_ok I1 ea c hme l ?_
  refine PySem.W.callWith_K (first := [.ref a]) (h₀ := X.base) I1.ok.mod.kin hme.kp (thn (ha.run pos' pins s1 σ H1 _ I1 q) fun us s2 ⟨vs, H2, I2, r, hlen, W, m0, hstart, hstep⟩ => ⟨I2.kIn, ?_⟩) hst hpl
  refine gen_born (us := .ref a :: us) (vs := .ref a :: vs) (Aw := X.A.in1.in1) lk hcd S (hr.mono (Nat.le_add_right _ _)) hb I2 (.cons rfl r) hlen fun ag gi go s3 B => ?_
  refine Calls.spliced_nil ?_
  refine call_enum_gen (B.gen _ B.gob.1) ?_
  have en0 : (s3.heap.push (enumObj ag 0 .none)).get? s3.heap.objs.size = some (enumObj ag 0 .none) := Heap.get?_push_size _ rfl
  refine wpAny_pyIter_enum (s := { s3 with heap := s3.heap.push (enumObj ag 0 .none) }) en0 ?_
  have up : ∀ b u, s3.heap.get? b = some u → (s3.heap.push (enumObj ag 0 .none)).get? b = some u := fun b u e => Heap.get?_push_of_some _ e
  have ae : ag < s3.heap.objs.size := Heap.lt_size B.gob.1
  have hrA : Room k (X.A.in1.in1.deeper (envOfC qual scope s2.heap.objs.size f cdv)) := ((show Room (k + 2) X.A.in1 from hr.in1).in1).deeper _
  have St : Stat X ⟨N, qual, scope, f, cdv, X.A.in1.in1, s2.heap.objs.size⟩ pins ag s3.heap.objs.size gi go :=
    ⟨B.O, rfl, hr.hd, I2.ok.frames, hr.depth, B.hL, B.hy, B.hl, B.hc, B.hst, B.hp, B.La, ae, B.own, B.low, B.god, B.gen⟩
  have I4 : Inv X pins σ H2 { s3 with heap := s3.heap.push (enumObj ag 0 .none) } := B.inv.kept (t' := s3.toks) up
  have R : Rdy X ⟨N, qual, scope, f, cdv, X.A.in1.in1, s2.heap.objs.size⟩ pins ag s3.heap.objs.size go 0 (start N (.ref a :: vs)) σ H2 .none { s3 with heap := s3.heap.push (enumObj ag 0 .none) } :=
    ⟨I4, B.asleep.keep fun b o _ e => up b o e, B.free, ⟨up _ _ B.gob.1, B.gob.2⟩, en0, B.inv.hok.fresh (Nat.le_refl _)⟩
  have R2 : Rdy X ⟨N, qual, scope, f, cdv, X.A.in1.in1, s2.heap.objs.size⟩ pins ag s3.heap.objs.size go 0 (start N (.ref a :: vs)) σ H2 .none (Shared.setGen { s3 with heap := s3.heap.push (enumObj ag 0 .none) } gi .running) :=
    ⟨inv_gens R.inv (allBare_setGen R.inv.bare rfl), R.asleep, R.free, R.gob, R.enm⟩
  refine codeAny_mono (loop_gen (W := W) St hown hgt hbd (D := D.nx) m0 _ ⟨0, _, σ, H2, .none, _, R, B.gens, rfl, ?_⟩) fun r s' hr' => ?_
  · exact seg_first St S.co (fun s0 H0 => hpre _ _ s0 H0 hrA) (fun s0 H0 => ht _ _ s0 H0 hrA) (fun s0 H0 => hw _ _ s0 H0 hrA) (fun s0 H0 => he _ _ s0 H0 hrA) hstep (Nat.le_refl m0) R2 hstart
  · cases r with
    | error e => exact hr'
    | ok fl =>
      obtain ⟨rfl, σ', H', I', q'⟩ := hr'
      exact ⟨σ', H', I', q'⟩
end
end K19

set_option Elab.async false
set_option linter.all false
set_option maxRecDepth 100000
set_option maxHeartbeats 4000000
/-! Rules: a property set, a class in a local name called, in and != by own methods. -/
namespace K19
open PySem PySem.Spec PyProof.Rows L2 StX
/-! ### o.f = e, f a property with a setter -/
structure SetOf (K : PySem.W.Frag) (C : Addr) (f : Str) (p g : Addr) : Prop where
  tk : PySem.W.takerIn K C f = some (some (.ref p))
  ty : PySem.W.typeIn K (.ref p) = some (.type "property")
  rc : ∃ a rest, PySem.W.recIn K p "property" = some (a :: .ref g :: rest)
def tPropSet (C : Addr) (sp : Sp) (E : XK) (ta tv : TE) : TS := fun D σ H => tv σ H fun y H1 => ta σ H1 fun x H2 => ∃ a dx fs, x = .ref a ∧ H2 a = some (.ins C dx fs) ∧ sp [.ref a, y] H2 (fun _ H3 => D.nx σ H3) E
section
variable {X : Cx} {CX : CXT} {k : Nat} {C p g f0 : Addr} {f x : Str} {fd : FuncData} {ps : List Str} {sp : Sp} {E : XK} {o value : Expr} {pos pos' p0 : Pos} {ta tv : TE}
theorem ps_propset (ha : PE X o ta) (hv : PE X value tv) (c : Cls X.K C) (hp : SetOf X.K C f p g) (F : FnOk X.prog X.w X.K X.mg X.base CX k g fd ps sp) (hr : Room (k + 2) X.A) (hb : Binds X.K fd ps []) (hx : Passes CX X E)
    (hs : swapsWith value (some (.Attribute o f pos')) pos.line X.env = pure false) : PS X (.Assign [.Attribute o f pos'] value pos) (tPropSet C sp E ta tv) := by
  refine ⟨fun pins s σ H D I h => ?_⟩
  refine plainObj_wpAny_Assign_Attribute (thn (hv.run pins s σ H _ I h) fun u s1 ⟨y, H1, I1, ry, q⟩ => thn (ha.run pins s1 σ H1 _ I1 q) fun ov s2 ⟨x, H2, I2, rx, a, dx, fs, ex, ea, q2⟩ => ?_) hs
  subst ex
  obtain rfl : ov = Value.ref a := rx
  obtain ⟨mA, O, _, _, _, _⟩ := ins_get I2.hok ea
  obtain ⟨od, J, _⟩ := O.look
  obtain ⟨b, rest, hrec⟩ := hp.rc
  have I3 := I2.tok (s2.toks + 1)
  have hl : ([Value.ref a, u] ++ []).length = ps.length := by
    rw [← F.len _ _ _ _ q2]
    rfl
  refine PySem.W.set_plain I2.kIn J c.sa (PySem.W.osa_descr PySem.W.KF.slot_pset (s := { s2 with toks := s2.toks + 1 }) I2.kIn J c.po hp.tk hp.ty (PySem.W.prop_set (s := { s2 with toks := s2.toks + 1 }) I2.kIn hrec ?_))
  have hbb := hb { s2 with toks := s2.toks + 1 } [.ref a, u] I3.kIn hl
  rw [List.append_nil] at hbb
  refine codeAny_mono (F.run X.A.in1.in1 X.stack { s2 with toks := s2.toks + 1 } H2 ⟨[.ref a, u], []⟩ [.ref a, u] [.ref a, y] _ E ((show Room (k + 1) X.A.in1 from hr.in1).in1) I3.env0.in1.in1 hbb (.cons rfl (.cons ry .nil)) q2) fun r s' hq => ?_
  cases r with
  | error er => exact hx pins σ H2 { s2 with toks := s2.toks + 1 } er s' I3 hq
  | ok fl =>
    cases fl with
    | ret u' =>
      obtain ⟨v, H', I4, rv, q3⟩ := I3.after hq
      exact ⟨σ, H', I4, q3⟩
    | next => exact False.elim hq
    | brk => exact False.elim hq
    | cont => exact False.elim hq

/-! ### x(), x a name of the def that holds a class -/
def tMakeL0 (i : Nat) (C : Addr) (sp : Sp) (E : XK) : TE := fun σ H Q => σ[i]? = some (some (.ref C)) ∧ ∀ x dx, H x = Option.none → H dx = Option.none → dx ≠ x → sp [V.ref x] (upd (upd H dx (.own x)) x (.ins C dx [])) (fun v H2 => v = .non ∧ Q (.ref x) H2) E
theorem pe_makeL0 {i : Nat} (M : Mk X.K C f0) (F : FnR X.prog X.w X.K X.mg X.base CX k f0 sp) (hr : Room (k + 1) X.A) (hN : X.N[i]? = some x) (hv : Vis X.env.scope x) (hx : Passes CX X E)
    (hdb : (x == ("__debug__" : Str)) = false := by decide) (hcd : (x == ("__classdict__" : Str)) = false := by decide) : PE X (.Call (.Name x p0) [] [] pos) (tMakeL0 i C sp E) := by
  refine ⟨fun pins s σ H Q I h => ?_⟩
  obtain ⟨hs, ht⟩ := h
  refine wpAny_Call_Name_kw (thn ((pe_var (pos := p0) hN hv hdb hcd).run pins s σ H (fun v H1 => v = .ref C ∧ H1 = H) I ⟨.ref C, hs, rfl, rfl⟩) fun u s1 ⟨v, H1, I1, r1, q1⟩ => ?_)
  obtain ⟨rfl, rfl⟩ := q1
  cases r1
  exact PySem.W.callWith_K0 I1.kIn M.kp (run_makeR (us := []) (vs := []) M F hr hx I1 .nil ht)

/-! ### x in o, o of an own class with __contains__ -/
def rOwnIn (C : Addr) (sp : Sp) (E : XK) (neg : Bool) : R2 := fun x y H Q => ∃ a dx fs, y = .ref a ∧ H a = some (.ins C dx fs) ∧ sp [.ref a, x] H (fun v H2 => ∃ b, v = .bl b ∧ Q (.bl (if neg then !b else b)) H2) E
theorem own_contains {pins : List (Addr × Obj)} {s : Shared} {σ : L2.St} {H : Hp} {a dx : Addr} {fs : List (Str × V)} {y : V} {u : Value} {Q : Bool → Shared → Prop} (I : Inv X pins σ H s) (ea : H a = some (.ins C dx fs))
    (hc : PySem.W.findIn X.K (.ref C) "__contains__" = some (some (.ref g))) (hf : PySem.W.isFn X.K (.ref g) = true) (F : FnOk X.prog X.w X.K X.mg X.base CX k g fd ps sp) (hr : Room k X.A) (hb : Binds X.K fd ps []) (hx : Passes CX X E) (ru : RelV y u)
    {Q2 : Bool → Hp → Prop} (h : sp [.ref a, y] H (fun v H2 => ∃ b, v = .bl b ∧ Q2 b H2) E) (hQ : ∀ b H2 s2, Inv X pins σ H2 s2 → Q2 b H2 → Q b s2) : wpAny (model X.prog X.w) X.A (contains (.ref a) u) Q X.xe s := by
  obtain ⟨mA, O, _, _, _, _⟩ := ins_get I.hok ea
  obtain ⟨od, J, _⟩ := O.look
  have ht := beq_iff_eq.mp hf
  have run : wpAny (model X.prog X.w) X.A (call (.ref g) [.ref a, u]) (fun v s2 => ∃ b, v = .bool b ∧ Q b s2) X.xe s := by
    have hl : ([Value.ref a, u] ++ []).length = ps.length := by
      rw [← F.len _ _ _ _ h]
      rfl
    have hbb := hb s [.ref a, u] I.kIn hl
    rw [List.append_nil] at hbb
    refine wpAny_call (codeAny_mono (F.run X.A X.stack s H ⟨[.ref a, u], []⟩ [.ref a, u] [.ref a, y] _ E hr I.env0 hbb (.cons rfl (.cons ru .nil)) h) fun r s' hq => ?_)
    cases r with
    | error er => exact hx pins σ H s er s' I hq
    | ok fl =>
      cases fl with
      | ret u' =>
        obtain ⟨v, H', I4, rv, b, ev, q3⟩ := I.after hq
        subst ev
        cases rv
        exact ⟨b, rfl, hQ b H' s' I4 q3⟩
      | next => exact False.elim hq
      | brk => exact False.elim hq
      | cont => exact False.elim hq
  have nz : ∀ v : Value, (some (Value.ref g) == some Value.none) = false := fun _ => rfl
  unfold contains
  refine wpAny_holding ?_
  have e0 : stdlibNamesSay? (.ref a) u = none := rfl
  simp only [e0]
  refine wpAny_bind (wpAny_bind (J.type.here ((PySem.W.looks_findIn I.kIn hc).here ?_)))
  rw [if_neg (show ¬ ((some (Value.ref g) == some Value.none) = true) from fun z => nomatch z)]
  unfold callSpecialUnlessNone?
  refine wpAny_bind (wpAny_bind (wpAny_bind (J.type.here ((PySem.W.looks_findIn I.kIn hc).here ?_))))
  simp only [show (Value.ref g == Value.none) = false from rfl, Bool.false_eq_true, if_false]
  first
  | refine wpAny_holding (wpAny_bind ((PySem.W.bind_fn I.kIn _ ht).here (wpAny_bind (wpAny_mono run (fun v s2 ⟨b, ev, q⟩ => ?_) fun _ _ z => z))))
  | refine wpAny_bind (wpAny_holding (wpAny_bind ((PySem.W.bind_fn I.kIn _ ht).here (wpAny_bind (wpAny_mono run (fun v s2 ⟨b, ev, q⟩ => ?_) fun _ _ z => z)))))
  subst ev
  exact wpAny_pure (wpAny_truthy_bool q)
theorem op_ownIn (hc : PySem.W.findIn X.K (.ref C) "__contains__" = some (some (.ref g))) (hf : PySem.W.isFn X.K (.ref g) = true) (F : FnOk X.prog X.w X.K X.mg X.base CX k g fd ps sp) (hr : Room k X.A) (hb : Binds X.K fd ps []) (hx : Passes CX X E) :
    OpR X (compareOp .In) (rOwnIn C sp E false) := by
  intro pins s σ H x y v u Q I rx ry h
  obtain ⟨a, dx, fs, rfl, ea, h⟩ := h
  cases ry
  show wpAny _ _ (contains (.ref a) v >>= fun b => pure (Value.bool b)) _ _ s
  exact wpAny_bind (own_contains (Q := fun b s2 => wpAny (model X.prog X.w) X.A (pure (Value.bool b)) (EP X pins σ Q) X.xe s2) I ea hc hf F hr hb hx rx h fun b H2 s2 I2 q => wpAny_pure ⟨.bl b, H2, I2, rfl, q⟩)

/-! ### a != b by an own __eq__ -/
def rOwnNe (C : Addr) (sp : Sp) (E : XK) : R2 := fun x y H Q => ∃ a b dx dy fs gs, x = .ref a ∧ y = .ref b ∧ H a = some (.ins C dx fs) ∧ H b = some (.ins C dy gs) ∧ sp [.ref a, .ref b] H (fun v H2 => ∃ c, v = .bl c ∧ Q (.bl (!c)) H2) E
theorem op_ownNe (hne : PySem.W.findIn X.K (.ref C) "__ne__" = some (some (.builtin "object.__ne__"))) (he : PySem.W.findIn X.K (.ref C) "__eq__" = some (some (.ref g))) (hf : PySem.W.isFn X.K (.ref g) = true)
    (ho : PySem.W.mroIn X.K C (.type "object") = some true) (F : FnOk X.prog X.w X.K X.mg X.base CX k g fd ps sp) (hr : Room (k + 1) X.A) (hb : Binds X.K fd ps []) (hx : Passes CX X E) : OpR X (compareOp .NotEq) (rOwnNe C sp E) := by
  intro pins s σ H x y v u Q I rx ry h
  obtain ⟨a, b, dx, dy, fs, gs, rfl, rfl, ea, eb, h⟩ := h
  cases rx
  cases ry
  obtain ⟨mA, O, _, _, _, _⟩ := ins_get I.hok ea
  obtain ⟨od, J, _⟩ := O.look
  obtain ⟨mB, O', _, _, _, _⟩ := ins_get I.hok eb
  obtain ⟨od', J', _⟩ := O'.look
  have run : wpAny (model X.prog X.w) X.A.in1 (call (.ref g) [.ref a, .ref b]) (fun v s2 => ∃ c, v = .bool c ∧ EP X pins σ Q (.bool (!c)) s2) X.xe s := by
    have hl : ([Value.ref a, Value.ref b] ++ []).length = ps.length := by
      rw [← F.len _ _ _ _ h]
      rfl
    have hbb := hb s [.ref a, .ref b] I.kIn hl
    rw [List.append_nil] at hbb
    refine wpAny_call (codeAny_mono (F.run X.A.in1 X.stack s H ⟨[.ref a, .ref b], []⟩ [.ref a, .ref b] [.ref a, .ref b] _ E hr.in1 I.env0.in1 hbb (.cons rfl (.cons rfl .nil)) h) fun r s' hq => ?_)
    cases r with
    | error er => exact hx pins σ H s er s' I hq
    | ok fl =>
      cases fl with
      | ret u' =>
        obtain ⟨v, H', I4, rv, c, ev, q3⟩ := I.after hq
        subst ev
        cases rv
        exact ⟨c, rfl, .bl (!c), H', I4, rfl, q3⟩
      | next => exact False.elim hq
      | brk => exact False.elim hq
      | cont => exact False.elim hq
  have hu : X.A.units < cLine := hr.units0
  have hu1 : X.A.in1.units < cLine := (show Room k X.A.in1 from hr.in1).units0
  have obj : PySem.W.Looks (model X.prog X.w) s.heap (isInstance (.ref a) (.type "object")) true := J.type.andThen (PySem.W.looks_mroIn I.kIn ho)
  have entry : wpAny (model X.prog X.w) X.A.in1 (Builtin.«object.__ne__» ⟨[.ref a, .ref b], []⟩) (fun fin s' => ∃ r, fin = .done (.ret r) ∧ (∃ c, r = .bool c) ∧ EP X pins σ Q r s') X.xe s := by
    unfold Builtin.«object.__ne__»
    show wpAny _ _ (cRoomFor "comparison" [.ref a, .ref b] >>= _) _ _ s
    refine wpAny_bind (wpAny_cRoomFor hu1 ?_)
    refine wpAny_bind (m := callSpecialIfBound? (.ref a) (Str.ofString "__eq__") [.ref b]) (PySem.W.ifBound_K I.kIn J he hf (wpAny_mono run (fun v s2 ⟨c, ev, q⟩ => ?_) fun _ _ z => z))
    subst ev
    show wpAny _ _ (truthy (.bool c) >>= _) _ _ s2
    refine wpAny_bind (wpAny_truthy_bool ?_)
    exact wpAny_pure ⟨_, rfl, ⟨_, rfl⟩, q⟩
  have one : wpAny (model X.prog X.w) X.A (tryCompare (.ref a) "__ne__" (.ref b)) (fun r s' => ∃ v, r = some v ∧ EP X pins σ Q v s') X.xe s := by
    have fin : wpAny (model X.prog X.w) X.A (call (.builtin "object.__ne__") [.ref a, .ref b]) (fun v s' => ∃ c, v = .bool c ∧ EP X pins σ Q v s') X.xe s := by
      refine wpAny_call (codeAny_call_builtin (by decide +kernel) PySem.F.cmpEntry_ne (@PySem.W.check_slot (model X.prog X.w) _ _ s "object.__ne__" "object" "__ne__" (.ref a) [.ref b] [] _ PySem.F.cmpKind_ne PySem.F.cmpSplit_ne obj (PySem.F.cmpArgs_ne _ _) ?_))
      refine wpAny_mono entry (fun fin s' ⟨r, ef, ⟨c, er⟩, q⟩ => ?_) fun _ _ z => z
      subst ef er
      exact ⟨c, rfl, q⟩
    have bnd : wpAny (model X.prog X.w) X.A (callSpecialIfBound? (.ref a) "__ne__" [.ref b]) (fun r s' => ∃ c, r = some (.bool c) ∧ EP X pins σ Q (.bool c) s') X.xe s := by
      simp only [callSpecialIfBound?, bindSpecialIfBound?]
      refine wpAny_holding (wpAny_bind (wpAny_bind (wpAny_bind (J.type.here ((PySem.W.looks_findIn I.kIn hne).here ?_)))))
      simp only [PySem.F.cmp_object.ne.bind]
      refine wpAny_bind (wpAny_askSetting (wpAny_ite ?_))
      have fin2 : wpAny (model X.prog X.w) X.A (call (.builtin "object.__ne__") ([.ref a] ++ [.ref b]) >>= fun v => pure (some v)) (fun r s' => ∃ c, r = some (.bool c) ∧ EP X pins σ Q (.bool c) s') X.xe s :=
        wpAny_bind (wpAny_mono fin (fun v s' ⟨c, e, q⟩ => wpAny_pure ⟨c, by rw [e], by rw [← e]; exact q⟩) fun _ _ h' => h')
      split
      · exact wpAny_bind (wpAny_pure (wpAny_pure fin2))
      · exact wpAny_tryCatch (wpAny_bind (wpAny_pure (wpAny_pure fin2)))
    unfold tryCompare
    refine wpAny_bind (wpAny_mono bnd (fun r s' ⟨c, er, q⟩ => ?_) fun _ _ z => z)
    subst er
    exact wpAny_pure ⟨_, rfl, q⟩
  show wpAny _ _ (richCompare .NotEq (.ref a) (.ref b)) _ _ s
  unfold richCompare
  simp only [oneThing_ref]
  refine wpAny_holding (wpAny_bind (wpAny_cRoomFor hu ?_))
  rw [cmpInfo_NotEq]
  dsimp only
  refine wpAny_bind (J.type.here (wpAny_bind (J'.type.here ?_)))
  rw [show (Value.ref C != Value.ref C) = false from by simp]
  simp only [Bool.false_eq_true, if_false]
  refine wpAny_bind (wpAny_pure ?_)
  simp only [Bool.false_eq_true, if_false]
  refine wpAny_bind (wpAny_mono one (fun r s' ⟨v, er, q⟩ => ?_) fun _ _ z => z)
  subst er
  first | exact wpAny_pure q | exact wpAny_pure (wpAny_pure q)
end
end K19

set_option Elab.async false
set_option linter.all false
set_option maxRecDepth 100000
set_option maxHeartbeats 4000000
/-! Rules: two readings of one piece; enumerate over a tuple. -/
namespace K19
open PySem PySem.Spec PyProof.Rows L2 GenW
open AutoSeq1 (wpAny_loadPart')
section
variable {X : Cx}
theorem pe_alt {e : Expr} {t u : TE} (h1 : PE X e t) (h2 : PE X e u) : PE X e (fun σ H Q => t σ H Q ∨ u σ H Q) :=
  ⟨fun pins s σ H Q I h => h.elim (h1.run pins s σ H Q I) (h2.run pins s σ H Q I)⟩
theorem pi_alt {tg e : Expr} {t u : TI} (h1 : PI X tg e t) (h2 : PI X tg e u) : PI X tg e (fun σ H Q => t σ H Q ∨ u σ H Q) :=
  ⟨fun pins s σ H Q I h => h.elim (h1.run pins s σ H Q I) (h2.run pins s σ H Q I)⟩
theorem op_alt {f : Value → Value → Sem Value} {r1 r2 : R2} (h1 : OpR X f r1) (h2 : OpR X f r2) : OpR X f (fun x y H Q => r1 x y H Q ∨ r2 x y H Q) :=
  fun pins s σ H x y v u Q I rx ry h => h.elim (h1 pins s σ H x y v u Q I rx ry) (h2 pins s σ H x y v u Q I rx ry)
end
/-! ### enumerate(tuple) -/
theorem meets_enum_tup (l : Addr) (items : Array Value) (n : Nat) (dct : Option Addr) (sl : Array (Option Value)) :
    Meets (Builtin.«enumerate.__new__» ⟨[.type "enumerate", .ref l], []⟩) (fun _ R s => s.heap.get? l = some { cls := .type "tuple", dict := dct, data := .seq items n, slots := sl } ∧
      R (.ok (.ret (.ref (s.heap.push { cls := .type "tuple_iterator", data := .fields #[.ref l, .int 0 0] }).objs.size)))
        { s with heap := (s.heap.push { cls := .type "tuple_iterator", data := .fields #[.ref l, .int 0 0] }).push { cls := .type "enumerate", data := .fields #[.none, .bool false, .ref s.heap.objs.size, rawInt 0, .none, .none] } }) :=
  .of_wp fun prog w A R s h => by
    obtain ⟨hp, g, d, tk, os⟩ := s; obtain ⟨hl, h⟩ := h
    have hsub := sub_enumerate
    have hL : Heap.IsTuple (Shared.heap ⟨hp, g, d, tk, os⟩) l items := ⟨_, hl, rfl, n, rfl⟩
    wp_walk using wpAny_loadPart' hl
    refine wpAny_stack_any fun st => wpAny_pure ?_
    split
    · rename_i c _ _ _ _ _
      cases (c == Value.type "enumerate")
      · wp_walk using wpAny_loadPart' hl, wpAny_pyIter_tuple hL
        exact ⟨_, rfl, h⟩
      · wp_walk using wpAny_loadPart' hl, wpAny_pyIter_tuple hL
        exact ⟨_, rfl, h⟩
    · wp_walk using wpAny_loadPart' hl, wpAny_pyIter_tuple hL
      exact ⟨_, rfl, h⟩
section
variable {prog : Program} {w : World} {A : Around} {E : Value → Shared → Prop} {s : Shared}
theorem call_enum_tup {l : Addr} {items : Array Value} {Q : Value → Shared → Prop} (hL : s.heap.IsTuple l items)
    (h : ∀ h', IsEnum h' (s.heap.objs.size + 1) s.heap.objs.size 0 .none → h'.IsTupleIter s.heap.objs.size l 0 → h'.objs.size = s.heap.objs.size + 2 →
      (∀ b o, s.heap.get? b = some o → h'.get? b = some o) → Q (.ref (s.heap.objs.size + 1)) { s with heap := h' }) :
    wpAny (model prog w) A (call (.type "enumerate") [.ref l]) Q E s := by
  obtain ⟨⟨c, dct, dt, sl⟩, hl, hc, n, hd⟩ := hL
  replace hc : c = .type "tuple" := hc
  replace hd : dt = .seq items n := hd
  subst hc hd
  refine callType_new F.called_enumerate (by decide) (F.typeCall_enumerate_1 _) (F.newCall_enumerate_1 _) (fun obj => F.args_object_init_2 obj _) F.entry_enumerate_new
    (meets_enum_tup l items n dct sl) ⟨hl, ?_⟩
  have hz : (s.heap.push { cls := .type "tuple_iterator", data := .fields #[.ref l, .int 0 0] }).objs.size = s.heap.objs.size + 1 := Heap.size_push ..
  show _ ∧ _
  rw [hz]
  have he : IsEnum ((s.heap.push { cls := .type "tuple_iterator", data := .fields #[.ref l, .int 0 0] }).push
      { cls := .type "enumerate", data := .fields #[.none, .bool false, .ref s.heap.objs.size, rawInt 0, .none, .none] }) (s.heap.objs.size + 1) s.heap.objs.size 0 .none := by
    have := Heap.get?_push_size (s.heap.push { cls := .type "tuple_iterator", data := .fields #[.ref l, .int 0 0] })
      (o := { cls := .type "enumerate", data := .fields #[.none, .bool false, .ref s.heap.objs.size, rawInt 0, .none, .none] }) rfl
    rw [hz] at this; exact this
  refine ⟨⟨_, he, rfl⟩, h _ he ⟨_, Heap.get?_push_of_some _ (Heap.get?_push_size _ rfl), rfl, rfl⟩ (by rw [Heap.size_push, hz]) fun b o x => Heap.get?_push_of_some _ (Heap.get?_push_of_some _ x)⟩
theorem pyNext_enumT_item {e it l : Addr} {i : Nat} {items : Array Value} {old x : Value} {Q : Option Value → Shared → Prop} (he : IsEnum s.heap e it i old) (hit : s.heap.IsTupleIter it l i) (hl : s.heap.IsTuple l items) (hx : items[i]? = some x) (hne : e ≠ it)
    (hQ : ∀ h', IsEnumOut h' e it ((i : Int) + 1) x s.heap.objs.size → h'.IsTupleIter it l (i + 1) → h'.get? s.heap.objs.size = some { cls := .type "tuple", data := .seq #[.int i s.toks, x] } → h'.objs.size = s.heap.objs.size + 1 →
        (∀ b o, b ≠ e → b ≠ it → s.heap.get? b = some o → h'.get? b = some o) → Q (some (.ref s.heap.objs.size)) { s with heap := h', toks := s.toks + 1 }) :
    wpAny (model prog w) A (pyNext (.ref e)) Q E s := by
  refine enum_next he (RZ.nextOf_tuple_item hit hl hx fun h1 hit1 sb => ?_)
  have e1 : h1.get? e = s.heap.get? e := sb.2 e hne
  have z1 : h1.objs.size = s.heap.objs.size := sb.1
  refine ⟨e1.trans he, Heap.lt_size (e1.trans he), fun h' ho hT hz hk => ?_⟩
  rw [show ({ s with heap := h1 } : Shared).heap.objs.size = s.heap.objs.size from z1] at ho hT hz ⊢
  refine hQ h' ho ?_ hT hz fun b o hb hb2 q => hk b o hb ((sb.2 b hb2).trans q)
  exact hit1.at fun o q => hk it o (Ne.symm hne) q
theorem pyNext_enumT_end {e it l : Addr} {i : Nat} {items : Array Value} {old : Value} {Q : Option Value → Shared → Prop} (hh : A.handled = none) (he : IsEnum s.heap e it i old) (hit : s.heap.IsTupleIter it l i) (hl : s.heap.IsTuple l items) (hx : items[i]? = none)
    (hQ : ∀ h', Heap.ExtBut it s.heap h' → Q none { s with heap := h' }) : wpAny (model prog w) A (pyNext (.ref e)) Q E s := by
  refine enum_next he (RZ.nextOf_tuple_end hh hit hl hx fun h' x he' hx' => ?_)
  obtain ⟨o, ho, hc⟩ := hx'
  exact ⟨⟨x, o, rfl, ho, hc⟩, hQ _ he'⟩
end
def IteT (K : PySem.W.Frag) (a : Addr) : It :=
  ⟨fun i H => ∃ (xs : List V) (x : V), SqT K H a xs ∧ xs[i]? = some x, fun i H v H' => ∃ T x, v = .ref T ∧ H T = none ∧ H' = upd H T (.tup [.int (i : Nat), x]) ∧ ∀ xs, SqT K H a xs → xs[i]? = some x, fun i H => ∃ xs : List V, SqT K H a xs ∧ xs.length ≤ i⟩
theorem turn_enumT {P : Program} {w : World} {K : PySem.W.Frag} {elts : List Expr} {kk : Nat} {tpos : Pos} (a e it : Addr) :
    Turn P w K (.Tuple elts kk tpos) (IteT K a) [e, it] e (fun i h => (∃ old, IsEnum h e it ((i : Nat) : Int) old) ∧ h.IsTupleIter it a i ∧ e ≠ it) where
  mem := by simp
  obj := fun i h st b hb => by
    obtain ⟨⟨old, he⟩, ⟨o, ho, hc, hd⟩, _⟩ := st
    have e' : b = e ∨ b = it := by simpa using hb
    rcases e' with z | z
    · rw [z]; exact ⟨_, he, fun v q => nomatch q⟩
    · rw [z]; exact ⟨o, ho, fun v q => by rw [hd] at q; cases q⟩
  keep := fun i h h' st k => let ⟨⟨old, he⟩, hi, hne⟩ := st; ⟨⟨old, k e (by simp) _ he⟩, hi.at fun o q => k it (by simp) o q, hne⟩
  item := by
    intro X hP hw hK hc i pins s σ H E I hf st hg
    subst hP hw hK
    obtain ⟨⟨old, he⟩, hit, hne⟩ := st
    obtain ⟨xs, x, hq, hx⟩ := hg
    obtain ⟨its, rv, p, hz⟩ := I.tuple hq
    obtain ⟨u, hu, ru⟩ := rv.get hx
    have hel : e < s.heap.objs.size := Heap.lt_size he
    have hil : it < s.heap.objs.size := by obtain ⟨_, q, _⟩ := hit; exact Heap.lt_size q
    refine pyNext_enumT_item he hit (show s.heap.IsTuple a its.toArray from p) (x := u) (by simpa using hu) hne fun h' ho hit' hT hsz hk => ?_
    refine ⟨_, rfl, wpAny_letOwnedTupleGo_enum (s := { s with heap := h', toks := s.toks + 1 }) ho fun h'' he' sb => ?_⟩
    have hT2 : h''.get? s.heap.objs.size = some { cls := .type "tuple", data := .seq #[.int i s.toks, u] } := (sb.2 _ (Nat.ne_of_gt hel)).trans hT
    have new : ObjOk X.prog X.w (upd H s.heap.objs.size (.tup [.int (i : Nat), x])) h'' s.heap.objs.size (.tup [.int (i : Nat), x]) :=
      ⟨by show 2 ≤ sizeLine; decide, [.int i s.toks, u], .cons ⟨_, rfl⟩ (.cons ru .nil), ⟨_, hT2, rfl, _, rfl⟩⟩
    have I1 : Inv X pins σ (upd H s.heap.objs.size (.tup [.int (i : Nat), x])) { s with heap := h'', toks := s.toks + 1 } :=
      I.turnedNew (ch := [e, it]) (fun b ob hb q => (sb.2 b (fun z => hb (by simp [z]))).trans (hk b ob (fun z => hb (by simp [z])) (fun z => hb (by simp [z])) q)) hf (Nat.le_refl _) new
    refine ⟨.ref s.heap.objs.size, _, I1, rfl, ⟨_, x, rfl, I.hok.fresh (Nat.le_refl _), rfl, fun ys hy => by rw [I.tuple_inj hy hq]; exact hx⟩, ⟨⟨u, ?_⟩, hit'.at fun o q => (sb.2 it (Ne.symm hne)).trans q, hne⟩, fun b hb => ?_⟩
    · have e1 : ((i + 1 : Nat) : Int) = (i : Int) + 1 := by omega
      rw [e1]; exact he'
    · have hb' : b < s.heap.objs.size := by
        have e' : b = e ∨ b = it := by simpa using hb
        rcases e' with z | z
        · rw [z]; exact hel
        · rw [z]; exact hil
      rw [upd_ne (Nat.ne_of_lt hb')]
      exact (hf b hb).1
  done := by
    intro X hP hw hK hc i pins s σ H E I hf st hg
    subst hP hw hK
    obtain ⟨⟨old, he⟩, hit, hne⟩ := st
    obtain ⟨xs, hq, hx⟩ := hg
    obtain ⟨its, rv, p, hz⟩ := I.tuple hq
    obtain ⟨f0, f1, f2, f3, f4, f5⟩ := hf it (by simp)
    have hl := rv.length
    exact pyNext_enumT_end (I.ok.hd hc) he hit (show s.heap.IsTuple a its.toArray from p) (by simp; omega) fun h' eb => ⟨rfl, I.turned (t' := s.toks) (fun b o hb q => eb b o hb q) f0 f1 f3 f4 f5⟩
  self := fun A i s Q E st h => let ⟨⟨_, he⟩, _⟩ := st; wpAny_pyIter_enum he h
def iEnumT (K : PySem.W.Frag) (ta : TA) : TI := fun σ H R => ta σ H fun vs H1 => ∃ a xs, vs = [.ref a] ∧ SqT K H1 a xs ∧ R (IteT K a) H1
theorem pi_enumT {X : Cx} {e : Expr} {ta : TA} {p pos tpos : Pos} {elts : List Expr} {kk : Nat} (hg : Gl X "enumerate") (hm : X.mg "enumerate" = none) (ha : PA X [e] ta) (hs : starEach [e] X.env = [(false, eval e X.env)] := by rfl) :
    PI X (.Tuple elts kk tpos) (.Call (.Name "enumerate" p) [e] [] pos) (iEnumT X.K ta) := by
  refine ⟨fun pins s σ H R I h => ?_⟩
  refine Call_ (ld_blt I hg hm boot_enumerate (PyProof.Rows.callWith_type1 (thn (ha.run pos pins s σ H _ I h) fun us s1 ⟨vs, H1, I1, r1, q1⟩ => ?_) hs rfl))
  obtain ⟨a, xs, ex, hq, q⟩ := q1
  subst ex
  cases r1 with
  | cons r rr =>
    cases rr
    cases r
    obtain ⟨its, rv, p', hz⟩ := I1.tuple hq
    refine call_enum_tup (show s1.heap.IsTuple a its.toArray from p') fun h' he hit hsz hk => wpAny_pyIter_enum he ?_
    have I2 : Inv X pins σ H1 { s1 with heap := h' } := I1.kept (t' := s1.toks) hk
    refine ⟨s1.heap.objs.size + 1, [s1.heap.objs.size + 1, s1.heap.objs.size], _, _, H1, rfl, I2, turn_enumT a (s1.heap.objs.size + 1) s1.heap.objs.size, ⟨⟨.none, he⟩, hit, Nat.succ_ne_self _⟩, fun b hb => ?_, q⟩
    have e' : b = s1.heap.objs.size + 1 ∨ b = s1.heap.objs.size := by simpa using hb
    have hle : s1.heap.objs.size ≤ b := by
      rcases e' with z | z
      · rw [z]; exact Nat.le_add_right _ _
      · rw [z]; exact Nat.le_refl _
    exact I1.fpOk hle (I1.hok.fresh hle)
/-! ### sequences of either kind -/
/-- a list or a tuple of xs -/
def SqS (K : PySem.W.Frag) (H : Hp) (a : Addr) (xs : List V) : Prop := SqL K H a xs ∨ SqT K H a xs
end K19

set_option Elab.async false
set_option linter.all false
set_option maxRecDepth 100000
set_option maxHeartbeats 4000000
/-! Rules: max(xs, default=d) of a list of ints that is not empty. -/
namespace K19
open PySem PySem.Spec PyProof.Rows L2
section
variable {prog : Program} {w : World} {A : Around} {R : Result → Shared → Prop} {I : Addr} {fp wr : List Addr} {n : Nat} {P : Nat → Value → Prop} {St : Nat → Heap → Prop}
/-- the loop with one value best so far, whatever keywords go along -/
theorem max_go (W : Walks prog w A.in1 I fp wr n P St) (bt : Nat → Nat → Bool) (hcmp : CmpOf prog w A.in1 .Gt P bt) (T : Addr) (hT : T ∉ fp) (kw : List (Str × Value)) :
    ∀ (k j : Nat) (s : Shared) (u : Value) (c : Nat), n - (j + 1) = k → j + 1 ≤ n → St (j + 1) s.heap → P (argBest bt j) u → s.heap.get? T = some { cls := .type "list", dict := none, data := .seq #[u, u] c, slots := #[] } →
    (∀ v h' tk, P (argBest bt (n - 1)) v → (∀ b o, b ∉ wr → b ≠ T → s.heap.get? b = some o → h'.get? b = some o) → R (.ok (.ret v)) { s with heap := h', toks := tk }) →
    codeAny (model prog w) A (.builtin "max.loop" ⟨[.ref I, .none, .ref T], kw⟩) R s := by
  have hTw : T ∉ wr := fun h => hT (W.sub _ h)
  have nm : (toString "max" ++ toString ".loop" : String) = "max.loop" := by decide
  intro k
  induction k with
  | zero =>
    intro j s u c hk hj hst hu hS hR
    have hin : j + 1 = n := by omega
    refine codeAny_builtin F.entry_max_loop ?_
    rw [Around.under_plainId F.plain_max_loop _]
    show wpAny _ A.in1 (seqItems? (.ref T) >>= _) _ _ s
    refine wpAny_bind (wpAny_seqItems hS rfl ?_)
    show wpAny _ A.in1 (tryCatch (pyNext (.ref I)) _ >>= _) _ _ s
    refine wpAny_bind (wpAny_tryCatch (W.done s _ _ (hin ▸ hst) fun h' tk kp => ?_))
    have hS' := kp T _ hTw hS
    show wpAny _ A.in1 (updateSeq T (fun _ => #[]) >>= _) _ _ _
    refine wpAny_bind (wpAny_updateSeq hS' rfl (wpAny_bind (wpAny_letGo (wpAny_pure ?_))))
    exact hR u _ tk (by rw [← hin]; exact hu) fun b o h1 h2 e => (Heap.get?_update_other _ _ (Ne.symm h2)).trans (kp b o h1 e)
  | succ k ih =>
    intro j s u c hk hj hst hu hS hR
    have hlt : j + 1 < n := by omega
    refine codeAny_builtin F.entry_max_loop ?_
    rw [Around.under_plainId F.plain_max_loop _]
    show wpAny _ A.in1 (seqItems? (.ref T) >>= _) _ _ s
    refine wpAny_bind (wpAny_seqItems hS rfl ?_)
    show wpAny _ A.in1 (tryCatch (pyNext (.ref I)) _ >>= _) _ _ s
    refine wpAny_bind (wpAny_tryCatch (W.item (j + 1) s _ _ hlt hst fun v h' tk hv st' kp => ?_))
    have hS' := kp T _ hTw hS
    show wpAny _ A.in1 (tryCatch (holding [v, v] (richCompare .Gt v u >>= _)) _ >>= _) _ _ _
    refine wpAny_bind (wpAny_tryCatch (wpAny_holding (wpAny_bind (hcmp (j + 1) (argBest bt j) v u _ _ _ hv hu ?_))))
    refine wpAny_bind (wpAny_holding (wpAny_truthy_bool ?_))
    refine wpAny_bind (wpAny_letGo (wpAny_pure ?_))
    cases hb : bt (j + 1) (argBest bt j) with
    | true =>
      simp only [if_true]
      refine wpAny_bind (wpAny_updateSeq hS' rfl (wpAny_bind (wpAny_letGo ?_)))
      rw [nm]
      refine wpAny_pure ⟨plainId_quiet F.plain_max_loop _, ih (j + 1) _ v _ (by omega) hlt (W.frame _ _ _ st' fun b hbf o e => (Heap.get?_update_other _ _ (fun h : T = b => hT (by rw [h]; exact hbf))).trans e) (by simp only [argBest, hb, if_true]; exact hv) (Heap.get?_update_self _ hS' rfl)
        fun v' h2 tk2 hv' kp2 => hR v' h2 tk2 hv' fun b o h1 hb2 e => kp2 b o h1 hb2 ((Heap.get?_update_other _ _ (Ne.symm hb2)).trans (kp b o h1 e))⟩
    | false =>
      simp only [Bool.false_eq_true, if_false]
      refine wpAny_bind (wpAny_letGo ?_)
      rw [nm]
      exact wpAny_pure ⟨plainId_quiet F.plain_max_loop _, ih (j + 1) _ u c (by omega) hlt st' (by simp only [argBest, hb, Bool.false_eq_true, if_false]; exact hu) hS' fun v' h2 tk2 hv' kp2 => hR v' h2 tk2 hv' fun b o h1 hb2 e => kp2 b o h1 hb2 (kp b o h1 e)⟩
end
section
variable {prog : Program} {w : World} {A : Around} {E : Value → Shared → Prop} {s : Shared} {l : Addr} {its : List Value} {ns : List Int} {d : Value}
theorem args_max_dflt (a d : Value) : argsOk "max" ⟨[a], [(Str.ofString "default", d)]⟩ := by unfold argsOk; kernel_rfl
theorem bind_max_dflt (d : Value) : Builtin.Builtins.bindParams "max" ["key", "default"] 0 ⟨[], [(Str.ofString "default", d)]⟩ = pure [none, some d] := by first | rfl | kernel_rfl
theorem max_dflt_raw (hh : A.handled = none) (hl : s.heap.IsList l its.toArray) (hi : IntsAre its ns) (hne : 0 < ns.length) {Q : Value → Shared → Prop}
    (h : ∀ h' tk M t', (∀ b o, s.heap.get? b = some o → h'.get? b = some o) → M ∈ ns → (∀ a, a ∈ ns → a ≤ M) → Q (.int M t') { s with heap := h', toks := tk }) : wpAny (model prog w) A (call (.builtin "max") [.ref l] [(Str.ofString "default", d)]) Q E s := by
  obtain ⟨xs, e⟩ := hi.allInts.items
  have hn : numsOf (intItems xs).toList = ns := by rw [← e]; exact hi.numsOf
  rw [nums_intItems] at hn
  subst hn
  rw [e] at hl
  have hsz : 0 < xs.size := by simpa using hne
  have nm : (toString "max" ++ toString ".loop" : String) = "max.loop" := by decide
  refine wpAny_call (codeAny_call_builtin F.plain_max F.entry_max ?_)
  have hcheck : ∀ {Q' : Unit → Shared → Prop} {E' : Value → Shared → Prop} {M : Model} {A' : Around}, Q' () s → wpAny M A' (checkBuiltinCall "max" ⟨[.ref l], [(Str.ofString "default", d)]⟩) Q' E' s := by
    intro Q' E' M A' hq
    simp only [checkBuiltinCall, F.kind_max]
    have ha := args_max_dflt (.ref l) d
    cases hsig : Manifest.signature? "max" with
    | none => exact wpAny_pure hq
    | some sig =>
      simp only [argsOk, hsig] at ha
      show wpAny _ _ (Bind.checkArgs "max" sig ⟨[.ref l], [(Str.ofString "default", d)]⟩) _ _ s
      rw [ha]
      exact wpAny_pure hq
  refine hcheck ?_
  show wpAny _ A.in1 (Builtin.Builtins.bindParams "max" ["key", "default"] 0 ⟨[], [(Str.ofString "default", d)]⟩ >>= _) _ _ s
  rw [bind_max_dflt]
  refine wpAny_bind (wpAny_pure ?_)
  refine wpAny_bind (wpAny_pure ?_)
  refine wpAny_bind (iter_intList hl fun s₂ e st hfp hlI => ?_)
  subst e
  refine wpAny_bind (wpAny_newObj_type ?_)
  have W := Walks.list (A := A.in1) (prog := prog) (w := w) hh s.heap.objs.size l hlI (intItems xs)
  have hS : ∀ x : Addr, x ∈ [s.heap.objs.size, l] → x < (s.heap.push { cls := .type "list_iterator", data := .fields #[.ref l, .int 0 0] }).objs.size := hfp
  have hSf : (s.heap.push { cls := .type "list_iterator", data := .fields #[.ref l, .int 0 0] }).objs.size ∉ [s.heap.objs.size, l] := fun hm => Nat.lt_irrefl _ (hS _ hm)
  rw [nm]
  have hzz : (intItems xs).size = xs.size := by simp [intItems]
  refine wpAny_pure ⟨plainId_quiet F.plain_max_loop _, ?_⟩
  have hst0 := W.frame 0 _ ((s.heap.push { cls := .type "list_iterator", data := .fields #[.ref l, .int 0 0] }).push { cls := .type "list", data := .seq #[] 0 }) st fun b _ o e => Heap.get?_push_of_some _ e
  have hS0 : ((s.heap.push { cls := .type "list_iterator", data := .fields #[.ref l, .int 0 0] }).push { cls := .type "list", data := .seq #[] 0 }).get? (s.heap.push { cls := .type "list_iterator", data := .fields #[.ref l, .int 0 0] }).objs.size = some { cls := .type "list", dict := none, data := .seq #[] 0, slots := #[] } := Heap.get?_push_size _ rfl
  -- the first
  refine codeAny_builtin F.entry_max_loop ?_
  rw [Around.under_plainId F.plain_max_loop _]
  show wpAny _ A.in1 (seqItems? (.ref _) >>= _) _ _ _
  refine wpAny_bind (wpAny_seqItems hS0 rfl ?_)
  show wpAny _ A.in1 (tryCatch (pyNext (.ref s.heap.objs.size)) _ >>= _) _ _ _
  refine wpAny_bind (wpAny_tryCatch (W.item 0 _ _ _ (by rw [hzz]; exact hsz) hst0 fun v h' tk hP hst' hk' => ?_))
  have hS' := hk' _ _ (fun h => hSf (W.sub _ h)) hS0
  show wpAny _ A.in1 (updateSeq _ (fun _ => #[v, v]) >>= _) _ _ _
  refine wpAny_bind (wpAny_updateSeq hS' rfl ?_)
  rw [nm]
  refine wpAny_pure ⟨plainId_quiet F.plain_max_loop _, max_go W (fun i j => decide (numAt xs i > numAt xs j)) (CmpOf.ints_gt (numAt xs) (fun _ _ => intItems_at)) _ hSf _ _ 0 _ v _ rfl (by rw [hzz]; exact hsz)
    (W.frame _ _ _ hst' fun b hbf o e => (Heap.get?_update_other _ _ (fun h => hSf (by rw [h]; exact hbf))).trans e) hP (Heap.get?_update_self _ hS' rfl) fun v' h2 tk2 hv' kp2 => ?_⟩
  rw [hzz] at hv'
  obtain ⟨t, rfl⟩ := intItems_at hv'
  obtain ⟨h1, h2'⟩ := argBest_gt (numAt xs) (xs.size - 1)
  refine h h2 tk2 _ t (fun b o e => ?_) ?_ fun a ha => ?_
  · have e2 := Heap.get?_push_of_some { cls := .type "list_iterator", data := .fields #[.ref l, .int 0 0] } e
    have hlt := Heap.lt_size e2
    have ne1 : b ≠ s.heap.objs.size := Nat.ne_of_lt (Heap.lt_size e)
    have ne2 : b ∉ [s.heap.objs.size] := by simpa using ne1
    refine kp2 b o ne2 (Nat.ne_of_lt hlt) ((Heap.get?_update_other _ _ (Nat.ne_of_gt hlt)).trans (hk' b o ne2 (Heap.get?_push_of_some _ e2)))
  · rw [numAt_eq]; exact PySem.getD_mem (by rw [List.length_map, Array.length_toList]; omega)
  · obtain ⟨j, hj, rfl⟩ := mem_getD ha
    rw [List.length_map, Array.length_toList] at hj
    rw [← numAt_eq]; exact h2' j (by omega)
end
def rMaxD (K : PySem.W.Frag) : List V → List V → Hp → VK → Prop := fun vs _ H Q => ∃ (a : Addr) (ns : List Int), vs = [V.ref a] ∧ SqL K H a (ns.map V.int) ∧ 0 < ns.length ∧ ∀ m, m ∈ ns → (∀ y, y ∈ ns → y ≤ m) → Q (.int m) H
theorem cr_maxD {X : Cx} (hc : X.calm = true) : CallRK X (.builtin "max") [Str.ofString "default"] (rMaxD X.K) := by
  intro pins s σ H vs zs us ws Q I r rz h
  obtain ⟨a, ns, rfl, hs, hne, q⟩ := h
  obtain ⟨its, rv, hl, _⟩ := I.list hs
  rw [Vals.ref1 r]
  have fin : ∀ d : Value, wpAny (model X.prog X.w) X.A (call (.builtin "max") [.ref a] [(Str.ofString "default", d)]) (EP X pins σ Q) X.xe s := fun d =>
    max_dflt_raw (I.ok.hd hc) hl.isList rv.ints hne fun h' tk m t' hk h1 h2 => ⟨.int _, H, I.kept hk, ⟨_, rfl⟩, q m h1 h2⟩
  have fin0 : wpAny (model X.prog X.w) X.A (call (.builtin "max") [.ref a] []) (EP X pins σ Q) X.xe s :=
    max_raw (I.ok.hd hc) hl.isList rv.ints hne fun h' tk m t' hk h1 h2 => ⟨.int _, H, I.kept hk, ⟨_, rfl⟩, q m h1 h2⟩
  cases ws with
  | nil => exact fin0
  | cons d ds => exact fin d
end K19

set_option Elab.async false
set_option linter.all false
set_option maxRecDepth 100000
set_option maxHeartbeats 4000000
/-! Rules: a dict display that begins with ** of a dict. -/
namespace K19
open PySem PySem.Spec PyProof.Rows L2
section
variable {prog : Program} {w : World} {K : Type} [DecidableEq K] {knd : KeyKind prog w K} {A : Around} {E : Value → Shared → Prop} {s : Shared}
theorem dput_pairs {d : Addr} {kvs : List (K × Value)} {k : K} {key v : Value} {Q : Unit → Shared → Prop} (hkey : knd.is k key = true) (hm : s.heap.DictOf knd d kvs)
    (hQ : ∀ h', h'.DictOf knd d (stored kvs k v) → Heap.SameBut d s.heap h' → Q () { s with heap := h' }) (hsz : kvs.length ≤ sizeLine) : wpAny (model prog w) A (dictPut d (knd.hash k) key v) Q E s := by
  obtain ⟨o, es, ep, ho, hc, hd, hk, hp, hn⟩ := hm
  have hes : es.size ≤ sizeLine := by
    have e1 := hp.length
    have e2 : es.toList.length = es.size := by simp
    omega
  unfold dictPut
  refine wpAny_bind (wpAny_dictFind_of hkey ho hd hk ?_)
  have hidx : (es.findIdx? fun e => knd.is k e.key) = kvs.findIdx? fun kv => decide (kv.1 = k) := by
    rw [← hp.findIdx k]; obtain ⟨l⟩ := es; simp
  cases hi : es.findIdx? fun e => knd.is k e.key with
  | some i =>
    refine wpAny_updateDict ho hd (hQ _ ⟨_, _, ep, Heap.get?_update_self _ ho (Obj.isFreed_of_dict (Obj.data_mapDict hd _)), hc.mapDict _, Obj.data_mapDict hd _, hk.modify _ _, ?_, ?_⟩ (Heap.SameBut.update ..))
    · rw [stored, if_pos (any_of_findIdx_some (hidx ▸ hi))]
      have hl : (es.toList.findIdx? fun e => knd.is k e.key) = some i := by rw [← hi]; obtain ⟨l⟩ := es; simp
      have := hp.modify hn hl v
      obtain ⟨l⟩ := es
      simpa using this
    · rw [stored, if_pos (any_of_findIdx_some (hidx ▸ hi)), keys_map_store]; exact hn
  | none =>
    have hnot : k ∉ kvs.map (·.1) := not_mem_of_findIdx_none (hidx ▸ hi)
    have hany : ¬ (kvs.any fun kv => decide (kv.1 = k)) = true := by
      rw [List.any_eq_true]; rintro ⟨kv, hkv, he⟩
      exact hnot (List.mem_map.mpr ⟨kv, hkv, of_decide_eq_true he⟩)
    refine wpAny_updateDictKeys (hz := hes) ho hd (hQ _ ⟨_, _, ep + 1, Heap.get?_update_self _ ho (Obj.isFreed_of_dict (Obj.data_mapDictKeys hd _)), hc.mapDictKeys _, Obj.data_mapDictKeys hd _, hk.push hkey _, ?_, ?_⟩ (Heap.SameBut.update ..))
    · rw [stored, if_neg hany]
      have := hp.append hkey (knd.hash k) v
      obtain ⟨l⟩ := es
      simpa using this
    · rw [stored, if_neg hany, List.map_append, List.nodup_append]
      refine ⟨hn, by simp, ?_⟩
      intro a ha b hb
      simp only [List.map_cons, List.map_nil, List.mem_singleton] at hb
      subst hb
      exact fun e => hnot (e ▸ ha)
theorem forIn_skip {α : Type} (f : α → PUnit → Sem (ForInStep PUnit)) {Q : PUnit → Shared → Prop} : ∀ (l : List α), (∀ a ∈ l, f a PUnit.unit = pure (.yield PUnit.unit)) → Q PUnit.unit s → wpAny (model prog w) A (forIn l PUnit.unit f) Q E s
  | [], _, h => by rw [List.forIn_nil]; exact wpAny_pure h
  | a :: l, hf, h => by
    rw [List.forIn_cons, hf a (by simp)]
    exact wpAny_bind (wpAny_pure (forIn_skip f l (fun b hb => hf b (by simp [hb])) h))
theorem merge_map {d o : Addr} {kvs more : List (K × Value)} {Q : Unit → Shared → Prop} (href : ∀ k v, knd.is k v = true → ∀ a, v ≠ .ref a) (hdo : d ≠ o) (hoS : (o == sysModules) = false) (hd : s.heap.DictOf knd d kvs) (ho : s.heap.DictOf knd o more)
    (hQ : ∀ h', h'.DictOf knd d (merged kvs more) → h'.DictOf knd o more → Heap.SameBut d s.heap h' → Q () { s with heap := h' }) (hsz : kvs.length + more.length ≤ sizeLine) : wpAny (model prog w) A (mergeMapping d (.ref o) false) Q E s := by
  obtain ⟨od, esd, epd, hod, hcd, hdd, hkd, hpd, hnd⟩ := id hd
  obtain ⟨oo, eso, epo, hoo, hco, hdo', hko, hpo, hno⟩ := id ho
  have hlen : more.length = eso.size := by rw [← hpo.length]; simp
  unfold mergeMapping
  refine wpAny_bind (wpAny_isInstance (T := "dict") (b := true) ho.typeIs (by rw [isSubtype_type]; kernel_rfl) ?_)
  simp only [if_true]
  refine wpAny_bind (wpAny_specialOf ho.typeIs F.slot_dict_iter.lookup ?_)
  refine wpAny_bind (wpAny_pure ?_)
  simp only [beq_self_eq_true]
  rw [if_neg (by rw [hoS]; exact Bool.false_ne_true)]
  have skip : ∀ a ∈ eso, ∀ b, a.key ≠ .ref b := fun a ha b => by
    obtain ⟨k, hk, _⟩ := hko a ha
    exact href k _ hk b
  have loop : ∀ (f : Nat → PUnit → Sem (ForInStep PUnit)) (Q2 : PUnit → Shared → Prop),
      (∀ i u, f i u = (do
        let l' ← dictEntries o
        match l'[i]? with
          | some e => do
            holding [e.key, e.val] (dictPut d e.hash e.key e.val)
            let ep' ← dictEpoch o
            if (ep' != epo) = true then do
                unsupported "dict.changed-during-merge"
                pure (ForInStep.yield PUnit.unit)
              else pure (ForInStep.yield PUnit.unit)
          | _ => do
            unsupported "dict.changed-during-merge"
            pure (ForInStep.yield PUnit.unit))) →
      (∀ h', h'.DictOf knd d (merged kvs more) → h'.DictOf knd o more → Heap.SameBut d s.heap h' → Q2 PUnit.unit { s with heap := h' }) →
      wpAny (model prog w) A (forIn (List.range eso.size) PUnit.unit f) Q2 E s := by
    intro f Q2 hf hQ2
    rw [List.range_eq_range']
    refine wpAny_forIn_list _
      (fun rest _ s' => ∃ h' i, s' = { s with heap := h' } ∧ rest = List.range' i (eso.size - i) ∧ i ≤ eso.size ∧ h'.DictOf knd d (merged kvs (more.take i)) ∧ h'.get? o = some oo ∧ Heap.SameBut d s.heap h')
      _ ?_ ?_ _ _ ⟨s.heap, 0, rfl, by simp, Nat.zero_le _, by simpa [merged] using hd, hoo, Heap.SameBut.refl _ _⟩
    · rintro x rest b s' ⟨h', i, rfl, hr, hi, hd', hoo', hs'⟩
      have hlt : i < eso.size := by
        rcases Nat.lt_or_ge i eso.size with h | h
        · exact h
        · rw [Nat.sub_eq_zero_of_le h] at hr; simp at hr
      obtain ⟨rfl, hrest⟩ : x = i ∧ rest = List.range' (i + 1) (eso.size - (i + 1)) := by
        have e : eso.size - i = (eso.size - (i + 1)) + 1 := by omega
        rw [e, List.range'_succ] at hr
        injection hr with h1 h2
        exact ⟨h1, h2⟩
      rw [hf]
      refine wpAny_bind (wpAny_dictEntries hoo' hdo' ?_)
      rw [Array.getElem?_eq_getElem hlt]
      obtain ⟨kv, hkv⟩ : ∃ kv, more[x]? = some kv := ⟨more[x]'(by rw [hlen]; exact hlt), List.getElem?_eq_getElem _⟩
      obtain ⟨k, v⟩ := kv
      obtain ⟨hkey, hval⟩ := hpo.get? (e := eso[x]) (by simp [hlt]) hkv
      obtain ⟨k', hkey', hhash⟩ := hko eso[x] (Array.getElem_mem hlt)
      obtain rfl : k' = k := knd.inj _ _ _ hkey' hkey
      show wpAny _ _ (holding [eso[x].key, eso[x].val] (dictPut d eso[x].hash eso[x].key eso[x].val) >>= _) _ _ _
      rw [hhash, hval]
      have hmx : (merged kvs (more.take x)).length ≤ sizeLine := by
        have e1 := merged_length_le kvs (more.take x)
        have e2 : (more.take x).length ≤ more.length := by rw [List.length_take]; omega
        omega
      refine wpAny_bind (wpAny_holding (dput_pairs (hsz := hmx) hkey hd' fun h'' hd'' hs'' => ?_))
      have hoo'' : h''.get? o = some oo := (hs''.2 o (Ne.symm hdo)).trans hoo'
      refine wpAny_bind (wpAny_dictEpoch hoo'' hdo' ?_)
      rw [if_neg (by simp)]
      exact wpAny_pure ⟨h'', x + 1, rfl, hrest, hlt, by rw [merged_take_succ kvs more x (k', v) hkv]; exact hd'', hoo'', hs'.trans hs''⟩
    · rintro b s' ⟨h', i, rfl, hr, hi, hd', hoo', hs'⟩
      have hin : i = eso.size := by
        rcases Nat.lt_or_ge i eso.size with h | h
        · have e : eso.size - i = (eso.size - (i + 1)) + 1 := by omega
          rw [e, List.range'_succ] at hr; exact nomatch hr
        · exact Nat.le_antisymm hi h
      refine hQ2 h' ?_ ⟨oo, eso, epo, hoo', hco, hdo', hko, hpo, hno⟩ hs'
      rw [hin, ← hlen, List.take_length] at hd'; exact hd'
  have tail : wpAny (model prog w) A (do
      let l ← dictEntries o
      let epoch ← dictEpoch o
      forIn (List.range l.size) PUnit.unit fun i (_ : PUnit) => (do
        let l' ← dictEntries o
        match l'[i]? with
          | some e => do
            holding [e.key, e.val] (dictPut d e.hash e.key e.val)
            let ep' ← dictEpoch o
            if (ep' != epoch) = true then do
                unsupported "dict.changed-during-merge"
                pure (ForInStep.yield PUnit.unit)
              else pure (ForInStep.yield PUnit.unit)
          | _ => do
            unsupported "dict.changed-during-merge"
            pure (ForInStep.yield PUnit.unit) : Sem (ForInStep PUnit))
      pure ()) Q E s := by
    refine wpAny_bind (wpAny_dictEntries hoo hdo' ?_)
    refine wpAny_bind (wpAny_dictEpoch hoo hdo' ?_)
    exact wpAny_bind (loop _ _ (fun _ _ => rfl) fun h' a b c => wpAny_pure (hQ h' a b c))
  refine wpAny_bind (wpAny_dictEntries hod hdd ?_)
  split
  · refine wpAny_bind (wpAny_dictEntries hoo hdo' ?_)
    refine wpAny_bind ?_
    rw [← Array.forIn_toList]
    refine forIn_skip _ _ (fun a ha => ?_) tail
    have := skip a (Array.mem_toList_iff.mp ha)
    split
    · rename_i b e
      exact absurd e (this b)
    · rfl
  · exact tail
end
/-- {**d, k: v}, keys ints and texts -/
def tSpread (td tk tv : TE) : TE := fun σ H Q => ∀ p, H p = none → td σ (upd H p (.dK [])) fun x H1 => ∃ o kvs, x = .ref o ∧ H1 p = some (.dK []) ∧ o ≠ p ∧ H1 o = some (.dK kvs) ∧ kvs.length < sizeLine ∧
  ∀ q, (upd H1 p (.dK kvs)) q = none → tk σ (upd (upd H1 p (.dK kvs)) q (.dK [])) fun y H2 => tv σ H2 fun z H3 => ∃ k, y = kV k ∧ H3 p = some (.dK kvs) ∧ H3 q = some (.dK []) ∧
    Q (.ref p) (upd (upd H3 q (.dK [(k, z)])) p (.dK (putK kvs k z)))
theorem merged_nil {K : Type} [DecidableEq K] : ∀ (acc more : List (K × Value)), (acc ++ more).map (·.1) |>.Nodup → merged acc more = acc ++ more
  | acc, [], _ => by simp [merged]
  | acc, (k, v) :: r, h => by
    have hk : ¬ (acc.any fun kv => decide (kv.1 = k)) = true := by
      rw [List.any_eq_true]
      rintro ⟨kv, hkv, he⟩
      have e := of_decide_eq_true he
      rw [List.map_append, List.nodup_append] at h
      exact h.2.2 kv.1 (List.mem_map.mpr ⟨kv, hkv, rfl⟩) k (by simp) e
    have e1 : stored acc k v = acc ++ [(k, v)] := by rw [stored, if_neg hk]
    have := merged_nil (acc ++ [(k, v)]) r (by simpa using h)
    show merged (stored acc k v) r = _
    rw [e1, this]
    simp
theorem mix_noref {P : Program} {w : World} : ∀ (k : Key) (v : Value), (mixKind P w).is k v = true → ∀ a, v ≠ .ref a := fun k v h a e => by
  rcases keyIs_shape h with ⟨i, t, rfl, rfl⟩ | ⟨x, t, rfl, rfl⟩ <;> exact nomatch e
theorem kv_keys : ∀ {kvs : List (Key × V)} {vs : List (Key × Value)}, KV kvs vs → vs.map (·.1) = kvs.map (·.1)
  | [], _, h => by cases h; rfl
  | p :: kvs, _, h => by
    cases h with
    | cons a t => rw [List.map_cons, List.map_cons, kv_keys t, a.1]
section
variable {X : Cx} {pos : Pos} {d k v : Expr} {td tk tv : TE}
theorem pe_spread (hd : PE X d td) (hk : PE X k tk) (hv : PE X v tv) : PE X (.Dict [none, some k] [d, v] pos) (tSpread td tk tv) := by
  refine ⟨fun pins s σ H Q I h => ?_⟩
  rw [arm_eval_Dict]
  refine wpAny_bind (wpAny_standAt ?_)
  have hz : (evalEachOpt [none, some k] X.env).zip ((evalEach [d, v] X.env).map fun v => do let x ← v; standAt pos; pure x) = [(none, (do let x ← eval d X.env; standAt pos; pure x)), (some (eval k X.env), (do let x ← eval v X.env; standAt pos; pure x))] := rfl
  rw [hz]
  unfold dictDisplay
  simp only [List.forIn_cons, List.forIn_nil, List.isEmpty_nil, if_true]
  have hon : ∀ {α : Type} {m : Sem α} {g : Value → Sem Unit} {Q1 : α → Shared → Prop} {E1 : Value → Shared → Prop} {s1 : Shared}, wpAny (model X.prog X.w) X.A m Q1 (fun e s2 => wpAny (model X.prog X.w) X.A (g e) (fun _ s3 => E1 e s3) E1 s2) s1 → wpAny (model X.prog X.w) X.A (m.onRaise g) Q1 E1 s1 := fun h1 => wpAny_onRaise h1
  have hn := I.hok.fresh (Nat.le_refl s.heap.objs.size)
  have I1 := I.laid (a := s.heap.objs.size) (o := .dK []) (h' := s.heap.push { cls := .type "dict", data := .dict #[] }) (t' := s.toks) (fun _ _ q => Heap.get?_push_of_some _ q) (Nat.le_refl _) (dk_empty s.heap I.big)
  refine wpAny_bind (wpAny_bind (wpAny_bind ?_))
  refine wpAny_pure ?_
  refine wpAny_bind (wpAny_alloc ?_)
  refine wpAny_bind (wpAny_holding (wpAny_bind (thn (hd.run pins _ σ _ _ I1 (h _ hn)) fun u s1 ⟨x, H1, I2, rx, o, kvs, ex, hp1, hop, ho1, hlt, q⟩ => ?_)))
  subst ex
  obtain rfl : u = Value.ref o := rx
  refine wpAny_bind (wpAny_standAt (wpAny_pure ?_))
  obtain ⟨zo, hso, vo, ro, ddo⟩ := dk_of I2.hok ho1
  obtain ⟨zp, hsp, vp, rp, ddp⟩ := dk_of I2.hok hp1
  cases rp
  have hlo := ro.length
  have hnd : (vo.map (·.1)).Nodup := by
    obtain ⟨_, _, _, _, _, _, _, _, hnn⟩ := id ddo
    exact hnn
  have em : merged [] vo = vo := by rw [merged_nil [] vo (by simpa using hnd), List.nil_append]
  refine wpAny_bind (hon (wpAny_tryCatch (hon (wpAny_holding (merge_map mix_noref (Ne.symm hop) hso ddp ddo (fun h' dd' ddo' hs => ?_) (by simp; omega))))))
  rw [em] at dd'
  have hex : ∃ q, h'.get? s.heap.objs.size = some q := let ⟨q, _, _, hq, _⟩ := dd'; ⟨q, hq⟩
  have I3 : Inv X pins σ (upd H1 s.heap.objs.size (.dK kvs)) { s1 with heap := h' } := d_write (t' := s1.toks) I2 (by rw [hp1]; exact True.intro) hs hex (dk_new zo hsp ro dd')
  refine wpAny_pure ?_
  simp only [List.nil_append, List.length_singleton]
  rw [if_neg (by decide)]
  refine wpAny_bind (wpAny_pure (wpAny_pure ?_))
  simp only [List.isEmpty_cons, Bool.false_eq_true, if_false]
  have hn2 := I3.hok.fresh (Nat.le_refl h'.objs.size)
  have I4 := I3.laid (a := h'.objs.size) (o := .dK []) (h' := h'.push { cls := .type "dict", data := .dict #[] }) (t' := s1.toks) (fun _ _ q => Heap.get?_push_of_some _ q) (Nat.le_refl _) (dk_empty h' I3.big)
  refine wpAny_bind (wpAny_bind (wpAny_holding ?_))
  refine wpAny_subDict (knd := mixKind X.prog X.w) (by simp) ?_
  refine evalPairs_cons (thn (hk.run pins _ σ _ _ I4 (q _ hn2)) fun u2 s2 ⟨y, H2, I5, r2, q2⟩ => ?_)
  refine wpAny_bind (thn (hv.run pins s2 σ H2 _ I5 q2) fun u3 s3 ⟨z, H3, I6, r3, ky, ey, hp3, hq3, qq⟩ => ?_)
  subst ey
  refine wpAny_bind (wpAny_standAt (wpAny_pure (evalPairs_nil ?_)))
  obtain ⟨zq, hsq, vq, rq, ddq⟩ := dk_of I6.hok hq3
  cases rq
  obtain ⟨zp3, hsp3, vp3, rp3, ddp3⟩ := dk_of I6.hok hp3
  refine ⟨[(ky, u3)], ⟨kV_is r2, rfl, True.intro⟩, ddq, fun h2 dd2 hs2 => ?_⟩
  have hex2 : ∃ q, h2.get? h'.objs.size = some q := let ⟨q, _, _, hq, _⟩ := dd2; ⟨q, hq⟩
  have e2 : merged [] [(ky, u3)] = [(ky, u3)] := rfl
  rw [e2] at dd2
  have I7 : Inv X pins σ (upd H3 h'.objs.size (.dK [(ky, z)])) { s3 with heap := h2, toks := s3.toks + 1 } :=
    d_write (t' := s3.toks + 1) I6 (by rw [hq3]; exact True.intro) hs2 hex2 (dk_new (by rw [sizeLine_eq]; simp) hsq (.cons ⟨rfl, r3⟩ .nil) dd2)
  have hpq : s.heap.objs.size ≠ h'.objs.size := fun e => by
    have e1 := hn2
    rw [← e, upd_same] at e1
    cases e1
  have hp7 : (upd H3 h'.objs.size (.dK [(ky, z)])) s.heap.objs.size = some (.dK kvs) := by rw [upd_ne hpq]; exact hp3
  have hq7 : (upd H3 h'.objs.size (.dK [(ky, z)])) h'.objs.size = some (.dK [(ky, z)]) := upd_same
  obtain ⟨zp7, hsp7, vp7, rp7, ddp7⟩ := dk_of I7.hok hp7
  obtain ⟨zq7, hsq7, vq7, rq7, ddq7⟩ := dk_of I7.hok hq7
  refine wpAny_bind (hon (wpAny_holding (merge_map mix_noref hpq hsq7 ddp7 ddq7 (fun h8 dd8 ddq8 hs8 => ?_) (by have := rp7.length; have := rq7.length; simp at *; omega))))
  refine wpAny_pure (wpAny_pure ?_)
  cases rq7 with
  | @cons a0 b0 as bs hh t =>
    cases t
    obtain ⟨b1, b2⟩ := b0
    obtain ⟨a1, a2⟩ := hh
    obtain rfl : ky = b1 := a1
    have hex8 : ∃ q, h8.get? s.heap.objs.size = some q := let ⟨q, _, _, hq, _⟩ := dd8; ⟨q, hq⟩
    have hl : (putK kvs ky z).length ≤ sizeLine := by have := length_putK kvs ky z; omega
    exact ⟨.ref s.heap.objs.size, _, d_write (t' := s3.toks + 1) I7 (by rw [hp7]; exact True.intro) hs8 hex8 (dk_new hl hsp7 (rp7.put ky a2) dd8), rfl, qq⟩
end
end K19

set_option Elab.async false
set_option linter.all false
set_option maxRecDepth 100000
set_option maxHeartbeats 4000000
/-! Rules: len(set(t)) of a tuple of texts, no two alike; sorted(t) of a tuple of texts. -/
namespace K19
open PySem PySem.Spec PyProof.Rows L2
section
variable {P : Program} {w : World} {A : Around} {I : Addr} {fp wr : List Addr} {G : Array GenState → Array GenState → Prop} {n : Nat} {Pv : Nat → Value → Prop} {St : Nat → Shared → Prop} {R : Result → Shared → Prop}
theorem getD_nodup {xs : List Str} (hd : xs.Nodup) {i : Nat} (hi : i < xs.length) : ((xs.take i).any (· == xs.getD i Str.empty)) = false := by
  rw [Bool.eq_false_iff]
  intro h
  obtain ⟨y, hy, e⟩ := List.any_eq_true.mp h
  have e1 : y = xs[i] := by
    have := beq_iff_eq.mp e
    rw [this, List.getD_eq_getElem?_getD, List.getElem?_eq_getElem hi]
    rfl
  obtain ⟨j, hj, hjy⟩ := List.mem_iff_getElem.mp hy
  rw [List.length_take] at hj
  have hjn : j < xs.length := by omega
  have hji : j < i := by omega
  rw [List.getElem_take] at hjy
  have := (List.getElem_inj (h₀ := hjn) (h₁ := hi) hd).mp (hjy.trans e1)
  omega
/-- the loop that puts texts in, no two alike -/
theorem set_loop (W : WalksS P w A.in1 I fp wr G n Pv St) (S : Addr) (hSf : S ∉ fp) (xs : List Str) (hsz : xs.length = n) (hb : n + 1 < scanBound) (hnd : xs.Nodup) (hval : ∀ i v, Pv i v → ∃ t, v = .str (xs.getD i Str.empty) t) :
    ∀ (k i : Nat) (s : Shared), n - i = k → i ≤ n → St i s → s.heap.SetOf (PySem.strKind P w) S (fun k' => (xs.take i).any (· == k')) i →
      (∀ s', Moved (S :: wr) G s s' → s'.heap.SetOf (PySem.strKind P w) S (fun k' => (xs.take n).any (· == k')) n → R (.ok (.ret .none)) s') →
      codeAny (model P w) A (.builtin "set.update.loop" ⟨[.ref S, .ref I], []⟩) R s := by
  have hSw : S ∉ wr := fun h => hSf (W.sub _ h)
  have hsub : ∀ b ∈ wr, b ∈ S :: wr := fun b hb => List.mem_cons_of_mem _ hb
  intro k
  induction k with
  | zero =>
    intro i s hk hi hst hS hR
    obtain rfl : i = n := by omega
    refine codeAny_builtin PyProof.Rows.F.entry_set_update_loop ?_
    rw [Around.under_plainId PyProof.Rows.F.plain_set_update_loop _]
    show wpAny _ A.in1 (pyNext (.ref I) >>= _) _ _ s
    refine wpAny_bind (W.done s _ _ hst fun s' hm => ?_)
    show wpAny _ A.in1 (ret Value.none) _ _ s'
    obtain ⟨o, es, ep, t, ho, rest⟩ := hS
    exact wpAny_pure (hR s' (hm.mono hsub) ⟨o, es, ep, t, hm.heap S _ hSw ho, rest⟩)
  | succ k ih =>
    intro i s hk hi hst hS hR
    have hlt : i < n := by omega
    refine codeAny_builtin PyProof.Rows.F.entry_set_update_loop ?_
    rw [Around.under_plainId PyProof.Rows.F.plain_set_update_loop _]
    show wpAny _ A.in1 (pyNext (.ref I) >>= _) _ _ s
    refine wpAny_bind (W.item i s _ _ hlt hst fun v s' hP hst' hm => ?_)
    obtain ⟨t, rfl⟩ := hval i v hP
    have hS' : s'.heap.SetOf (PySem.strKind P w) S (fun k' => (xs.take i).any (· == k')) i := by
      obtain ⟨o, es, ep, tb, ho, rest⟩ := hS
      exact ⟨o, es, ep, tb, hm.heap S _ hSw ho, rest⟩
    show wpAny _ A.in1 (holding [Value.str (xs.getD i Str.empty) t] (setAdd S (.str (xs.getD i Str.empty) t)) >>= _) _ _ s'
    refine wpAny_bind (wpAny_holding ?_)
    unfold setAdd
    refine wpAny_holding ?_
    refine wpAny_bind ((PySem.strKind P w).pyHash (k := xs.getD i Str.empty) (strKind_is _ _ _ _) ?_)
    refine wpAny_setAddHashed_of (knd := PySem.strKind P w) (s := { s' with toks := s'.toks + 1 }) (strKind_is _ _ _ _) rfl hS' (by omega) fun h' hsb hS2 => ?_
    have hno := getD_nodup hnd (by omega : i < xs.length)
    have hSi : h'.SetOf (PySem.strKind P w) S (fun k' => (xs.take (i + 1)).any (· == k')) (i + 1) := by
      refine SetOf_congr hS2 (fun k' => ?_) (by rw [hno]; rfl)
      have hx : xs[i]? = some (xs.getD i Str.empty) := by
        rw [List.getD_eq_getElem?_getD, List.getElem?_eq_getElem (by omega)]
        rfl
      rw [List.take_add_one, hx, List.any_append]
      show _ = (_ || ((xs.getD i Str.empty == k') || false))
      rw [Bool.or_false]
      congr 1
      by_cases e : k' = xs.getD i Str.empty
      · rw [← e]; simp
      · have h1 : (xs.getD i Str.empty == k') = false := beq_eq_false_iff_ne.mpr fun z => e z.symm
        rw [h1]; simpa using e
    refine wpAny_pure ⟨plainId_quiet PyProof.Rows.F.plain_set_update_loop _, ih (i + 1) _ (by omega) hlt (W.frame _ s' _ _ hst' (Nat.le_succ _) fun b hb o e => ?_) hSi fun s'' hm'' hS'' => ?_⟩
    · rw [hsb.2 b (fun h : b = S => hSf (by rw [← h]; exact hb))]; exact e
    · refine hR s'' (Moved.trans W.gtrans ((hm.mono hsub).then_heap (Nat.le_succ _) fun b o hb e => ?_) hm'') hS''
      rw [hsb.2 b (fun h : b = S => hb (by rw [h]; exact List.mem_cons_self))]; exact e
end
section
variable {prog : Program} {w : World} {A : Around} {E : Value → Shared → Prop} {s : Shared}
/-- set(t), a tuple of texts, no two alike -/
theorem set_of_tup {l : Addr} {items : Array Value} {xs : List Str} {Q : Value → Shared → Prop} (hh : A.handled = none) (hl : s.heap.IsTuple l items) (hi : PyProof.Rows.StrsAre items.toList xs) (hb : items.size + 1 < scanBound) (hnd : xs.Nodup)
    (h : ∀ (h' : Heap) (tk : Nat), h'.SetOf (PySem.strKind prog w) s.heap.objs.size (fun k' => (xs.take items.size).any (· == k')) items.size → (∀ b o, s.heap.get? b = some o → h'.get? b = some o) → Q (.ref s.heap.objs.size) { s with heap := h', toks := tk }) :
    wpAny (model prog w) A (call (.type "set") [.ref l]) Q E s := by
  obtain ⟨c, tl, hmro⟩ := PySem.F.called_set.mro
  have hmade := PySem.F.called_set.made
  have hsub := PySem.F.called_set.sub
  refine wpAny_call (codeAny_of_tree ?_)
  show wpAny _ _ (callAny (.type "set") _) _ _ _
  refine wpAny_pure ⟨Code.quiet_builtin _ (by decide +kernel), codeAny_builtin PySem.F.entry_type_call ?_⟩
  rw [Around.under_plain (weight_type_call_type "set" [.ref l] []) rfl]
  have h1 := PySem.F.called_set.notType
  have h2 := PySem.F.called_set.canCreate
  have hct := PySem.F.typeCall_set_1 (.ref l)
  repeat (any_goals (first | assumption | wp_step))
  refine codeAny_mono (code_set_new_1 (.ref l) (E := E) (Q₁ := fun obj s₁ => ∃ b : Bool, obj = .ref s.heap.objs.size ∧ s₁ = { s with heap := s.heap.push { cls := .type "set", dict := none, data := .set #[] 0 (.fresh 0 0 b) } }) fun b => ⟨b, rfl, rfl⟩) fun r s₁ hr => ?_
  cases r with
  | error e => exact hr
  | ok fl =>
    cases fl with
    | ret obj =>
      obtain ⟨b0, rfl, rfl⟩ := hr
      have hS : (s.heap.push { cls := .type "set", dict := none, data := .set #[] 0 (.fresh 0 0 b0) }).get? s.heap.objs.size = some { cls := .type "set", dict := none, data := .set #[] 0 (.fresh 0 0 b0) } := Heap.get?_push_size _ rfl
      have hT : Shared.TypeIs { s with heap := s.heap.push { cls := .type "set", dict := none, data := .set #[] 0 (.fresh 0 0 b0) } } (.ref s.heap.objs.size) "set" := ⟨_, hS, rfl⟩
      have hli := PySem.F.called_set.init.lookup
      have hbi := PySem.F.called_set.init.bind (.ref s.heap.objs.size)
      repeat (any_goals (first | assumption | wp_step))
      refine codeAny_mono (codeAny_call_builtin (R := wants (fun r s₂ => r = .none ∧ ∃ h' tk, s₂ = { s with heap := h', toks := tk } ∧ h'.SetOf (PySem.strKind prog w) s.heap.objs.size (fun k' => (xs.take items.size).any (· == k')) items.size ∧
          (∀ b o, s.heap.get? b = some o → h'.get? b = some o)) E) PySem.F.called_set.init.plain PySem.F.entry_set_init (check_set_init_1 hT ?_)) fun r₂ s₂ hr₂ => ?_
      · obtain ⟨⟨c1, d1, dt1, sl1⟩, hol, hcl, nl, hdl⟩ := hl
        simp only at hcl hdl
        subst hcl; subst hdl
        have hol' : (s.heap.push { cls := .type "set", dict := none, data := .set #[] 0 (.fresh 0 0 b0) }).get? l = some { cls := .type "tuple", dict := d1, data := .seq items nl, slots := sl1 } := Heap.get?_push_of_some _ hol
        have hsls := PySem.F.sub_tuple_set
        have hslf := PySem.F.sub_tuple_frozenset
        have hne : (Value.type "tuple" == Value.type "dict") = false := by decide
        have hl1 : (s.heap.push { cls := .type "set", dict := none, data := .set #[] 0 (.fresh 0 0 b0) }).IsTuple l items := ⟨_, hol', rfl, nl, rfl⟩
        unfold Builtin.«set.__init__» noKeywords Builtin.Frozenset.updateFrom
        generalize hPI : pyIter = PI
        wp_walk
        subst hPI
        refine wpAny_pyIter_tuple hl1 ?_
        refine wpAny_bind (wpAny_runValue ?_)
        have hlS : l < s.heap.objs.size := Heap.lt_size hol
        have hh3 : A.in1.in1.in1.handled = none := by simp [hh]
        have zz : (s.heap.push { cls := .type "set", dict := none, data := .set #[] 0 (.fresh 0 0 b0) }).objs.size = s.heap.objs.size + 1 := Heap.size_push ..
        have hneI : l ≠ (s.heap.push { cls := .type "set", dict := none, data := .set #[] 0 (.fresh 0 0 b0) }).objs.size := by rw [zz]; exact Nat.ne_of_lt (Nat.lt_succ_of_lt hlS)
        have hSf : s.heap.objs.size ∉ [(s.heap.push { cls := .type "set", dict := none, data := .set #[] 0 (.fresh 0 0 b0) }).objs.size, l] := by
          rw [zz]
          simp only [List.mem_cons, List.not_mem_nil, or_false, not_or]
          exact ⟨Nat.ne_of_lt (Nat.lt_succ_self _), Nat.ne_of_gt hlS⟩
        have hsz : xs.length = items.size := by rw [← StrsAre.len_eq hi, Array.length_toList]
        refine set_loop ((Walks.tuple hh3 _ l hneI items).toS) s.heap.objs.size hSf xs hsz hb hnd (fun i v hv => SS.strs_at hi i v (by rw [Array.getElem?_toList]; exact hv)) (items.size - 0) 0 _ (by omega) (Nat.zero_le _) ⟨⟨_, Heap.get?_push_size _ rfl, rfl, rfl⟩, (hl1.push _)⟩ ?hS0 ?hR
        case hS0 =>
          have hget : ((s.heap.push { cls := .type "set", dict := none, data := .set #[] 0 (.fresh 0 0 b0) }).push { cls := .type "tuple_iterator", data := .fields #[.ref l, .int 0 0] }).get? s.heap.objs.size = some { cls := .type "set", dict := none, data := .set #[] 0 (.fresh 0 0 b0) } := Heap.get?_push_of_some _ hS
          exact PyProof.Rows.SetOf_congr ((PyProof.Rows.setObjOf_fresh (knd := PySem.strKind prog w) b0).setOf hget (by unfold scanBound; omega)) (fun _ => rfl) rfl
        case hR =>
          intro s' hm hS'
          obtain ⟨h', g', d', tk', os'⟩ := s'
          have eg : g' = s.gens := hm.gens
          have ed : d' = s.drawn := hm.drawn
          have eo : os' = s.os := hm.os
          subst eg; subst ed; subst eo
          show wpAny _ _ _ _ _ _
          refine wpAny_pure ?_
          show wpAny _ _ (ret Value.none) _ _ _
          refine wpAny_pure ⟨rfl, h', tk', rfl, hS', fun b o e => ?_⟩
          have hb0 := Heap.lt_size e
          refine hm.heap b o ?_ (Heap.get?_push_of_some _ (Heap.get?_push_of_some _ e))
          rw [zz]
          simp only [List.mem_cons, List.not_mem_nil, or_false, not_or]
          exact ⟨Nat.ne_of_lt hb0, Nat.ne_of_lt (Nat.lt_succ_of_lt hb0)⟩
      · cases r₂ with
        | error e => exact hr₂
        | ok fl₂ =>
          cases fl₂ with
          | ret r =>
            obtain ⟨rfl, h', tk, rfl, hS', hk'⟩ := hr₂
            repeat (any_goals (first | assumption | wp_step))
            exact h _ _ hS' hk'
          | _ => exact hr₂.elim
    | _ => exact hr.elim
end
/-- len(set(t)), t a tuple of texts, no two alike -/
def tLenSetN (K : PySem.W.Frag) (ta : TE) : TE := fun σ H Q => ta σ H fun x H1 => ∃ l, ∃ xs : List Str, x = .ref l ∧ SqT K H1 l (xs.map V.str) ∧ xs.length ≤ 1000 ∧ xs.Nodup ∧ Q (.int (xs.length : Nat)) H1
theorem pe_lenSetN {X : Cx} {a : Expr} {ta : TE} {p p2 q pos : Pos} (hc : X.calm = true) (hg : Gl X "len") (hm : X.mg "len" = none) (hg2 : Gl X "set") (hm2 : X.mg "set" = none) (ha : PE X a ta)
    (na : starEach [a] X.env = (false, eval a X.env) :: starEach [] X.env := by rfl) : PE X (.Call (.Name "len" p) [.Call (.Name "set" p2) [a] [] q] [] pos) (tLenSetN X.K ta) := by
  refine ⟨fun pins s σ H Q I h => ?_⟩
  refine Call_ (ld_blt I hg hm boot_len ?_)
  refine PyProof.Rows.callWith_builtin1 (PyProof.Rows.args_cons ?_ rfl) rfl rfl
  refine Call_ (ld_blt I hg2 hm2 boot_set ?_)
  refine PyProof.Rows.callWith_type1 (PyProof.Rows.args_cons (thn (ha.run pins s σ H _ I h) fun v s1 ⟨x, H1, I1, r1, q1⟩ => PyProof.Rows.args_nil ?_) na) na rfl
  obtain ⟨l, xs, rfl, hq, h1, hnd, q1⟩ := q1
  cases r1
  obtain ⟨its, r, pl, hz⟩ := I1.tuple hq
  have hl : its.toArray.size = xs.length := by rw [List.size_toArray, ← r.length, List.length_map]
  refine set_of_tup (I1.ok.hd hc) (show s1.heap.IsTuple l its.toArray from pl) (by simpa using strsAre_of r) (by rw [hl]; unfold scanBound; omega) hnd fun h' tk hS hk => ?_
  refine PyProof.Rows.args_nil ?_
  rw [hl] at hS
  obtain ⟨o, es, ep, t, ho, hex, hd, _, _, _, hf, hn⟩ := hS
  have I2 : Inv X pins σ H1 { s1 with heap := h', toks := tk } := I1.kept hk
  exact call_len_set ho hex hd hf (by rw [hn] <;> omega) ⟨.int xs.length, H1, I2.tok _, ⟨_, by rw [hn]⟩, q1⟩
/-! ### sorted(t), a tuple of texts -/
section
variable {prog : Program} {w : World} {A : Around} {E : Value → Shared → Prop} {s : Shared}
theorem collect_tup {l : Addr} {vs : List Value} {Q : List Value → Shared → Prop} (hl : s.heap.IsTuple l vs.toArray) (hsz : vs.length ≤ sizeLine)
    (h : Q vs { s with heap := (s.heap.push (seqObj "list" #[] 0)).update s.heap.objs.size (Obj.mapSeq (· ++ vs.toArray)) }) : wpAny (model prog w) A (collect (.ref l)) Q E s := by
  obtain ⟨o, ho, hc, n, hd⟩ := id hl
  unfold collect
  refine wpAny_bind (wpAny_runValue (codeAny_builtin entry_proto_collect' ?_))
  show wpAny _ _ (do again (.builtin "list.__iadd__" ⟨[← newList [], .ref l], []⟩)) _ _ s
  refine wpAny_bind (wpAny_newList (wpAny_pure ⟨Code.quiet_builtin _ (by decide +kernel), codeAny_builtin entry_list_iadd' ?_⟩))
  show wpAny _ _ (Builtin.List.listExtendWith (.ref s.heap.objs.size) (.ref l) (.ref s.heap.objs.size)) _ _ { s with heap := s.heap.push (seqObj "list" #[] 0) }
  unfold Builtin.List.listExtendWith
  have ho' : (s.heap.push (seqObj "list" #[] 0)).get? l = some o := Heap.get?_push_of_some _ ho
  refine wpAny_bind (wpAny_typeOf (T := "tuple") ⟨o, ho', hc⟩ ?_)
  have ht : (Value.type "tuple" == Value.type "tuple") = true := by rfl
  rw [if_pos (by rw [ht]; simp)]
  refine wpAny_bind (listItems_at ho' hd ?_)
  refine wpAny_bind (listItems_at (xs := #[]) (n := 0) (Heap.get?_push_size _ rfl) rfl ?_)
  rw [if_neg (by simp)]
  refine wpAny_bind (listUpdate_at (xs := #[]) (n := 0) (Heap.get?_push_size _ rfl) rfl ?_ (Nat.zero_le _) (by show (#[] ++ vs.toArray).size ≤ sizeLine + 1; simp only [Array.size_append, List.size_toArray, List.length_nil]; omega))
  refine wpAny_pure ?_
  show wpAny (model prog w) A (load s.heap.objs.size >>= _) Q E { s with heap := (s.heap.push (seqObj "list" #[] 0)).update s.heap.objs.size (Obj.mapSeq (· ++ vs.toArray)) }
  refine wpAny_bind (wpAny_load (get?_update_seq (Heap.get?_push_size _ rfl) _) ?_)
  show wpAny _ _ (pure ((#[] : Array Value) ++ vs.toArray).toList) Q E _
  rw [show ((#[] : Array Value) ++ vs.toArray).toList = vs by simp]
  exact wpAny_pure h
theorem sorted_tup_strs {l : Addr} {vs : List Value} {ss : List Str} {Q : Value → Shared → Prop} (hl : s.heap.IsTuple l vs.toArray) (hS : StrsAre vs ss) (h64 : vs.length < 64)
    (h : ∀ (out : List Value) (ss' : List Str) (a : Addr) (h' : Heap) (e : Nat), StrsAre out ss' → ss'.Perm ss → sortedS ss' = true → s.heap.objs.size ≤ a → h'.get? a = some (seqObj "list" out.toArray e) →
      (∀ b o, s.heap.get? b = some o → h'.get? b = some o) → Q (.ref a) { s with heap := h' }) : wpAny (model prog w) A (call (.builtin "sorted") [.ref l]) Q E s := by
  refine Calls.call_function_entry kind_sorted plain_sorted entry_sorted (args_sorted1 _) ?_
  unfold Builtin.«sorted»
  refine wpAny_bind (m := checkCount "sorted" 1 1 _) (wpAny_pure ?_)
  have hz64 : vs.length ≤ sizeLine := by rw [sizeLine_eq]; omega
  refine wpAny_bind (collect_tup hl hz64 ?_)
  refine wpAny_bind (wpAny_newList ?_ hz64)
  have hsz : ((s.heap.push (seqObj "list" #[] 0)).update s.heap.objs.size (Obj.mapSeq (· ++ vs.toArray))).objs.size = s.heap.objs.size + 1 := by rw [Heap.size_update, size_push']
  have hoL : (((s.heap.push (seqObj "list" #[] 0)).update s.heap.objs.size (Obj.mapSeq (· ++ vs.toArray))).push (seqObj "list" vs.toArray 0)).get? (s.heap.objs.size + 1) = some (seqObj "list" vs.toArray 0) := by
    rw [← hsz]; exact Heap.get?_push_size _ rfl
  show wpAny _ _ _ _ _ { s with heap := ((s.heap.push (seqObj "list" #[] 0)).update s.heap.objs.size (Obj.mapSeq (· ++ vs.toArray))).push (seqObj "list" vs.toArray 0) }
  rw [hsz]
  refine wpAny_bind (wpAny_holding (wpAny_call_entry slot_list_sort ⟨_, hoL, rfl⟩ entry_list_sort (list_sort_treeK strKind_oneLt hoL hS.keysOf (fun v₁ v₂ rest e => keyKind_strs (by rw [← e]; exact hS)) h64 fun st' a1 a2 => ⟨_, rfl, ?_⟩) (args_list_sort _)))
  refine wpAny_pure ⟨_, rfl, ?_⟩
  obtain ⟨ss', b1, b2, b3⟩ := sorted_out_str hS a1 a2
  obtain ⟨e, he⟩ := sortedAll_at s.heap vs ((arrOf st').map (·.2))
  exact h _ ss' _ _ e b1 b2 b3 (Nat.le_succ _) (by rw [Array.toArray_toList]; exact he) fun b o hb => PyProof.Rows.sortedAll_old hb
end
def rSortedT (K : PySem.W.Frag) : List V → Hp → VK → Prop := fun vs H Q => ∃ (a : Addr) (xs : List Str), vs = [V.ref a] ∧ SqT K H a (xs.map V.str) ∧ xs.length < 64 ∧
  ∀ (ys : List Str) (p : Addr), ys.Perm xs → sortedS ys = true → H p = none → Q (.ref p) (upd H p (.lst (ys.map V.str)))
theorem cr_sortedT {X : Cx} : CallR X (.builtin "sorted") (rSortedT X.K) := by
  intro pins s σ H vs us Q I r h
  obtain ⟨a, xs, rfl, hs, h64, q⟩ := h
  obtain ⟨its, rv, hl, _⟩ := I.tuple hs
  rw [Vals.ref1 r]
  have hlen0 := rv.length
  rw [List.length_map] at hlen0
  refine sorted_tup_strs (show s.heap.IsTuple a its.toArray from hl) rv.strs (by rw [← hlen0]; exact h64) fun out ys p h' ep h1 h2 h3 hle he' hk => ?_
  have hlen : (ys.map V.str).length ≤ sizeLine := by rw [List.length_map, h2.length_eq]; exact small64 h64
  exact ⟨.ref p, upd H p (.lst (ys.map V.str)), I.laid (t' := s.toks) hk hle ⟨hlen, out, ep, vals_of_strs h1, he'⟩, rfl, q ys p h2 h3 (I.hok.fresh hle)⟩
end K19

set_option Elab.async false
set_option linter.all false
set_option maxRecDepth 100000
set_option maxHeartbeats 4000000
/-! Rules: list(e.values()); readings of for, [..], {..} over any walked thing of known length. -/
namespace K19
open PySem PySem.Spec PyProof.Rows L2
/-- list(e.values()), keys ints and texts -/
def tListVals (td : TE) : TE := fun σ H Q => td σ H fun x H1 => ∃ d kvs, x = .ref d ∧ H1 d = some (.dK kvs) ∧ ∀ q, H1 q = none → Q (.ref q) (upd H1 q (.lst (kvs.map fun kv => kv.2)))
theorem kv_vals : ∀ {kvs : List (Key × V)} {vs : List (Key × Value)}, KV kvs vs → ∀ (j : Nat) (x : V) (k : Key) (u : Value), (kvs.map fun kv => kv.2)[j]? = some x → vs[j]? = some (k, u) → RelV x u
  | _, _, .nil, j, x, k, u, h1, h2 => by simp at h2
  | _, _, .cons a t, 0, x, k, u, h1, h2 => by
    simp only [List.map_cons, List.getElem?_cons_zero, Option.some.injEq] at h1 h2
    subst h1 h2
    exact a.2
  | _, _, .cons a t, j + 1, x, k, u, h1, h2 => by
    simp only [List.map_cons, List.getElem?_cons_succ] at h1 h2
    exact kv_vals t j x k u h1 h2
theorem pe_listVals {X : Cx} {e : Expr} {td : TE} {p apos cpos pos : Pos} (hc : X.calm = true) (hg : Gl X "list") (hm : X.mg "list" = none) (he : PE X e td) (hbase : attributeBase e "values" X.env (eval e X.env) = eval e X.env := by rfl) (hline : (apos.endLine == cpos.line) = true := by rfl)
    (na : starEach [.Call (.Attribute e "values" apos) [] [] cpos] X.env = (false, eval (.Call (.Attribute e "values" apos) [] [] cpos) X.env) :: starEach [] X.env := by rfl) :
    PE X (.Call (.Name "list" p) [.Call (.Attribute e "values" apos) [] [] cpos] [] pos) (tListVals td) := by
  refine ⟨fun pins s σ H Q I h => ?_⟩
  refine Call_ (ld_blt I hg hm (by decide +kernel : bootBuiltins "list" = some (.type "list")) ?_)
  refine PyProof.Rows.callWith_type1 (PyProof.Rows.args_cons ?_ na) na rfl
  refine wpAny_Call_method (T := "dict") (id := "dict.values") hbase rfl hline PySem.F.plainAttrs_dict PySem.F.slot_dict_values PySem.F.type_dict_values (thn (he.run pins s σ H _ I h) fun u s1 ⟨x, H1, I1, rx, d, kvs, ex, hd, q⟩ => ?_)
  subst ex
  obtain rfl : u = Value.ref d := rx
  obtain ⟨hz, hs, vs, rel, dd⟩ := dk_of I1.hok hd
  obtain ⟨ep, hat⟩ := dd.dictAt
  have hl : kvs.length = vs.length := Paired.length rel
  refine ⟨dd.typeIs, dd.mapOf.noDict, ?_⟩
  have I2 : Inv X pins σ H1 { s1 with heap := s1.heap.push { cls := .type "dict_values", data := .fields #[.ref d] } } := I1.kept (t' := s1.toks) fun b ob q => Heap.get?_push_of_some _ q
  show wpAny _ _ (callWith cpos (.builtin "dict.values") [.ref d] [] []) _ X.xe s1
  refine method_meetsIn PySem.F.slot_dict_values PySem.F.entry_dict_values rfl (PySem.evalArgs_none ⟨rfl, dd.typeIs, PySem.F.args_dict_values_1 _, _, meets_dict_values (mixKind X.prog X.w) d hs, ⟨vs, dd⟩, ?_⟩)
  refine PyProof.Rows.args_nil ?_
  refine PySem.W.kdl_call (s := { s1 with heap := s1.heap.push { cls := .type "dict_values", data := .fields #[.ref d] } }) (PySem.W.kdl_values (knd := mixKind X.prog X.w) (kvs := vs) (ep := ep) (d := d) (r := s1.heap.objs.size)) (I1.ok.hd hc)
    ⟨⟨_, Heap.get?_push_size _ rfl, rfl, rfl⟩, hat.push _⟩ (by rw [← hl]; exact hz) fun h' tk acc' c' hkeep hS hacc => ?_
  refine ⟨.ref _, upd H1 _ (.lst (kvs.map fun kv => kv.2)), I2.laid hkeep (Nat.le_refl _) (show ObjOk X.prog X.w _ _ _ (.lst (kvs.map fun kv => kv.2)) from ⟨?_, acc'.toList, c', ?_, ?_⟩), rfl, q _ (I2.hok.fresh (Nat.le_refl _))⟩
  · rw [List.length_map]; exact hz
  · have el : acc'.toList.length = acc'.size := by simp
    refine vals_of_at (by rw [List.length_map, el, hacc.1, hl]) fun j x w h1 h2 => ?_
    obtain ⟨k, hi⟩ := hacc.2 j w (by rw [← Array.getElem?_toList]; exact h2)
    exact kv_vals rel j x k w h1 hi
  · rw [Array.toArray_toList]; exact hS

/-! ### readings -/
/-- for over anything of n items -/
theorem for_go {J : It} {g : TG} {tb : TS} {D : Ends} {σ : L2.St} {H : Hp} (n : Nat) (Pv : Nat → L2.St → Hp → Prop) (h0 : Pv 0 σ H)
    (hs : ∀ i σ H, i < n → Pv i σ H → J.go i H ∧ ∀ x H', J.yld i H x H' → g x σ H' fun σ2 H2 => tb { D with nx := Pv (i + 1), ct := Pv (i + 1), bk := D.nx } σ2 H2) (hd : ∀ σ H, Pv n σ H → J.stop n H ∧ D.nx σ H) :
    ∃ W : Nat → Nat → L2.St → Hp → Prop, (∃ m, W 0 m σ H) ∧ ∀ i m σ H, W i m σ H →
      (J.stop i H ∧ D.nx σ H) ∨ (J.go i H ∧ ∃ N : L2.St → Hp → Prop, (∀ σ' H', N σ' H' → ∃ m', m' < m ∧ W (i + 1) m' σ' H') ∧ ∀ x H', J.yld i H x H' → g x σ H' fun σ2 H2 => tb { D with nx := N, ct := N, bk := D.nx } σ2 H2) := by
  refine ⟨fun i m σ H => m = n - i ∧ i ≤ n ∧ Pv i σ H, ⟨n, by simp, Nat.zero_le _, h0⟩, ?_⟩
  rintro i m σ H ⟨rfl, hi, p⟩
  by_cases hlt : i < n
  · obtain ⟨g1, g2⟩ := hs i σ H hlt p
    exact .inr ⟨g1, Pv (i + 1), fun σ' H' p' => ⟨n - (i + 1), by omega, rfl, hlt, p'⟩, g2⟩
  · obtain rfl : i = n := by omega
    exact .inl (hd σ H p)
/-- [..] over anything of n items -/
theorem lc_go {J : It} {g : TG} {tt : TT} {te : TE} {vs : List Nat} {σ : L2.St} {H1 : Hp} {D : Addr} {Qd : Hp → Prop} (n : Nat) (Pv : Nat → Hp → Prop) (h0 : Pv 0 (upd H1 D (.lst [])))
    (hs : ∀ i H, i < n → Pv i H → J.go i H ∧ ∀ x H', J.yld i H x H' → g x (wipe σ vs) H' fun σ2 H2 => wipe σ2 vs = wipe σ vs ∧ tt σ2 H2 fun b H3 =>
      if b = true then te σ2 H3 fun y H4 => ∃ acc, H4 D = some (.lst acc) ∧ acc.length < sizeLine ∧ Pv (i + 1) (upd H4 D (.lst (acc ++ [y]))) else Pv (i + 1) H3) (hd : ∀ H, Pv n H → J.stop n H ∧ Qd H) :
    ∃ W : Nat → Nat → Hp → Prop, (∃ m, W 0 m (upd H1 D (.lst []))) ∧ ∀ i m H, W i m H →
      (J.stop i H ∧ Qd H) ∨ (J.go i H ∧ ∃ Nx : Hp → Prop, (∀ H', Nx H' → ∃ m', m' < m ∧ W (i + 1) m' H') ∧ ∀ x H', J.yld i H x H' → g x (wipe σ vs) H' fun σ2 H2 => wipe σ2 vs = wipe σ vs ∧ tt σ2 H2 fun b H3 =>
        if b = true then te σ2 H3 fun y H4 => ∃ acc, H4 D = some (.lst acc) ∧ acc.length < sizeLine ∧ Nx (upd H4 D (.lst (acc ++ [y]))) else Nx H3) := by
  refine ⟨fun i m H => m = n - i ∧ i ≤ n ∧ Pv i H, ⟨n, by simp, Nat.zero_le _, h0⟩, ?_⟩
  rintro i m H ⟨rfl, hi, p⟩
  by_cases hlt : i < n
  · obtain ⟨g1, g2⟩ := hs i H hlt p
    exact .inr ⟨g1, Pv (i + 1), fun H' p' => ⟨n - (i + 1), by omega, rfl, hlt, p'⟩, g2⟩
  · obtain rfl : i = n := by omega
    exact .inl (hd H p)
/-- {..: ..} over anything of n items -/
theorem dc_go {J : It} {g : TG} {tt : TT} {tk tv : TE} {vs : List Nat} {σ : L2.St} {H1 : Hp} {D : Addr} {Qd : Hp → Prop} (n : Nat) (Pv : Nat → Hp → Prop) (h0 : Pv 0 (upd H1 D (.dK [])))
    (hs : ∀ i H, i < n → Pv i H → J.go i H ∧ ∀ x H', J.yld i H x H' → g x (wipe σ vs) H' fun σ2 H2 => wipe σ2 vs = wipe σ vs ∧ tt σ2 H2 fun b H3 =>
      if b = true then tk σ2 H3 fun y H4 => tv σ2 H4 fun z H5 => ∃ kvs k, y = kV k ∧ H5 D = some (.dK kvs) ∧ kvs.length < sizeLine ∧ Pv (i + 1) (upd H5 D (.dK (putK kvs k z))) else Pv (i + 1) H3) (hd : ∀ H, Pv n H → J.stop n H ∧ Qd H) :
    ∃ W : Nat → Nat → Hp → Prop, (∃ m, W 0 m (upd H1 D (.dK []))) ∧ ∀ i m H, W i m H →
      (J.stop i H ∧ Qd H) ∨ (J.go i H ∧ ∃ Nx : Hp → Prop, (∀ H', Nx H' → ∃ m', m' < m ∧ W (i + 1) m' H') ∧ ∀ x H', J.yld i H x H' → g x (wipe σ vs) H' fun σ2 H2 => wipe σ2 vs = wipe σ vs ∧ tt σ2 H2 fun b H3 =>
        if b = true then tk σ2 H3 fun y H4 => tv σ2 H4 fun z H5 => ∃ kvs k, y = kV k ∧ H5 D = some (.dK kvs) ∧ kvs.length < sizeLine ∧ Nx (upd H5 D (.dK (putK kvs k z))) else Nx H3) := by
  refine ⟨fun i m H => m = n - i ∧ i ≤ n ∧ Pv i H, ⟨n, by simp, Nat.zero_le _, h0⟩, ?_⟩
  rintro i m H ⟨rfl, hi, p⟩
  by_cases hlt : i < n
  · obtain ⟨g1, g2⟩ := hs i H hlt p
    exact .inr ⟨g1, Pv (i + 1), fun H' p' => ⟨n - (i + 1), by omega, rfl, hlt, p'⟩, g2⟩
  · obtain rfl : i = n := by omega
    exact .inl (hd H p)
/-! ### y = {..} on one line, y a local -/
section
variable {X : Cx}
theorem ps_setDc {i : Nat} {y : Str} {py : Pos} {kx vx tg iter : Expr} {ifs : List Expr} {scope : Scope} {own : List (Str × Nat)} {pos spos : Pos} {wi : TI} {g : TG} {tt : TT} {tk tv : TE} (hc : X.calm = true) (hN : X.N.Nodup) (hy : X.N[i]? = some y) (hyl : X.env.scope.names.lookup y = some .local)
    (hsw : swapsWith (.DictComp kx vx [⟨tg, iter, ifs, 0⟩] scope pos) (some (.Name y py)) spos.line X.env = pure true) (hi : PI X tg iter wi) (ok : BlkOk X.N X.env.scope scope own)
    (hg : ∀ (s : Shared) (H : Hp) (C : Addr) (cl : List (Str × Addr)) (fp : List Addr), PG (X.blk s H scope (compEnvC scope cl C X.env) fp) tg g) (ht : ∀ (s : Shared) (H : Hp) (C : Addr) (cl : List (Str × Addr)) (fp : List Addr), PTs (X.blk s H scope (compEnvC scope cl C X.env) fp) ifs tt)
    (hk : ∀ (s : Shared) (H : Hp) (C : Addr) (cl : List (Str × Addr)) (fp : List Addr), PE (X.blk s H scope (compEnvC scope cl C X.env) fp) kx tk)
    (he : ∀ (s : Shared) (H : Hp) (C : Addr) (cl : List (Str × Addr)) (fp : List Addr), PE (X.blk s H scope (compEnvC scope cl C X.env) fp) vx tv) (hs : ∀ x, foldedSetIterable iter X.env x = pure x := by intro _; rfl) :
    PS X (.Assign [.Name y py] (.DictComp kx vx [⟨tg, iter, ifs, 0⟩] scope pos) spos) (tAsg (tDc wi g tt tk tv (own.map (·.2))) (gName i)) := by
  refine ⟨fun pins s σ H D I h => ?_⟩
  rw [exec_Assign_Name_used _ _ _ _ hsw]
  refine wpAny_bind (wpAny_standAt (wpAny_bind ?_))
  show wpAny _ X.A (do let _ ← comprehension (.DictComp kx vx [⟨tg, iter, ifs, 0⟩] scope pos) scope X.env (firstIterPos [⟨tg, iter, ifs, 0⟩] pos) newDict false (eval iter X.env) (some (assign (.Name y py) X.env))) _ _ s
  have h : tDc wi g tt tk tv (own.map (·.2)) σ H (fun x H1 => gName i x σ H1 D.nx) := h
  refine wpAny_bind (thn (dc_core (Qf := fun _ s' => SP X pins D .next s') hc hN I hi ok hg ht hk he hs h fun L C s' m H' I' q hn f => ?_) fun _ s' hq => wpAny_pure (wpAny_pure hq))
  show wpAny _ _ (assign (.Name y py) X.env (.ref L)) _ _ _
  refine wpAny_assign_Name (store_ok2 (v := V.ref L) I' hN hy (.inl hyl) rfl (fun s2 I2 ⟨a, sb, ha⟩ => ?_) (.inr hyl))
  obtain ⟨f0, f1, f2, f3, f4, f5⟩ := f
  have haC : C ≠ a := by
    rcases ha with z | z
    · rw [z]; exact f1
    · exact fun e => f4 y a z e.symm
  refine ⟨m, hn.sameBut sb haC, fun h3 sb3 => ?_⟩
  exact ⟨_, H', I2.turned (t' := s2.toks) (fun b o hb e => (sb3.2 b hb).trans e) f0 f1 f3 f4 f5, q⟩
theorem sw_dict {kx vx : Expr} {gs : List Comprehension} {scope : Scope} {pos py : Pos} {y : Str} {l : Nat} {env : Env} (hk : env.scope.kind = .function) (hy : env.scope.names.lookup y = some .local) (hl : (py.line == pos.line) = true)
    (ha : (scope.names.any fun (n, k) => n == y && (k == .local || k == .cell)) = false) : swapsWith (.DictComp kx vx gs scope pos) (some (.Name y py)) l env = pure true := by
  have ky : env.kindOf y = some .local := hy
  have hb : env.blockKind = .function := by unfold Env.blockKind; rw [hk]; rfl
  unfold swapsWith
  simp only [hb, ky, ha, Expr.pos, hl]
  rfl
end
end K19

set_option Elab.async false
set_option linter.all false
set_option maxRecDepth 100000
set_option maxHeartbeats 4000000
/-! Rule: list(s) of a text. -/
namespace K19
open PySem PySem.Spec PyProof.Rows L2
def sgns (x : Str) : List Str := x.cps.toList.map fun c => ⟨#[c]⟩
def rListStr : List V → Hp → VK → Prop := fun xs H Q => ∃ x : Str, xs = [.str x] ∧ x.cps.size ≤ sizeLine ∧ ∀ q, H q = none → Q (.ref q) (upd H q (.lst ((sgns x).map V.str)))
theorem call_listStr {X : Cx} (hc : X.calm = true) : CallR X (.type "list") rListStr := by
  intro pins s σ H xs us Q I r h
  obtain ⟨x, e, hz, q⟩ := h
  subst e
  obtain ⟨u, eu, rx⟩ := vals1 r
  subst eu
  obtain ⟨t, rfl⟩ : ∃ t, u = Value.str x t := rx
  refine PySem.call_list_str (I.ok.hd hc) x t (fun h' tk acc' c' hkeep hS hacc => ?_) hz
  have hl : ((sgns x).map V.str).length = x.cps.size := by unfold sgns; simp
  refine ⟨.ref s.heap.objs.size, upd H s.heap.objs.size (.lst ((sgns x).map V.str)), I.laid hkeep (Nat.le_refl _) (show ObjOk X.prog X.w _ _ _ (.lst ((sgns x).map V.str)) from ⟨?_, acc'.toList, c', ?_, ?_⟩), rfl, q _ (I.hok.fresh (Nat.le_refl _))⟩
  · rw [hl]; exact hz
  · have el : acc'.toList.length = acc'.size := by simp
    refine vals_of_at (by rw [hl, el, hacc.1]) fun j y w h1 h2 => ?_
    obtain ⟨c, u, hc1, rfl⟩ := hacc.2 j w (by rw [← Array.getElem?_toList]; exact h2)
    unfold sgns at h1
    rw [List.map_map, List.getElem?_map, Array.getElem?_toList, hc1] at h1
    cases h1
    exact ⟨u, rfl⟩
  · rw [Array.toArray_toList]; exact hS
end K19

set_option Elab.async false
set_option linter.all false
set_option maxRecDepth 100000
set_option maxHeartbeats 4000000
/-! What the top holds, in one record (printed by gentxt.py). -/
namespace K19
open PySem PySem.Spec PyProof.Rows L2 StX ClX
structure Df (K : PySem.W.Frag) (x q : Str) (st : Stmt) where
  f : Addr
  fd : FuncData
  F : Fun K x q st f fd
structure Txt (K : PySem.W.Frag) (mg : Str → Option Value) where
  isName : Df K "is_name" "is_name" sIsName
  g_isName : mg "is_name" = some (.ref isName.f)
  isInteger : Df K "is_integer" "is_integer" sIsInteger
  g_isInteger : mg "is_integer" = some (.ref isInteger.f)
  isBetween : Df K "is_between" "is_between" sIsBetween
  g_isBetween : mg "is_between" = some (.ref isBetween.f)
  isIndex : Df K "is_index" "is_index" sIsIndex
  g_isIndex : mg "is_index" = some (.ref isIndex.f)
  passesNeeded : Df K "passes_needed" "passes_needed" sPassesNeeded
  g_passesNeeded : mg "passes_needed" = some (.ref passesNeeded.f)
  unfinished : Df K "unfinished" "unfinished" sUnfinished
  g_unfinished : mg "unfinished" = some (.ref unfinished.f)
  ringIn : Df K "ring_in" "ring_in" sRingIn
  g_ringIn : mg "ring_in" = some (.ref ringIn.f)
  rowText : Df K "row_text" "row_text" sRowText
  g_rowText : mg "row_text" = some (.ref rowText.f)
  sheetText : Df K "sheet_text" "sheet_text" sSheetText
  g_sheetText : mg "sheet_text" = some (.ref sheetText.f)
  firstWrong : Df K "first_wrong" "first_wrong" sFirstWrong
  g_firstWrong : mg "first_wrong" = some (.ref firstWrong.f)
  areNeeds : Df K "are_needs" "are_needs" sAreNeeds
  g_areNeeds : mg "are_needs" = some (.ref areNeeds.f)
  needRows : Df K "need_rows" "need_rows" sNeedRows
  g_needRows : mg "need_rows" = some (.ref needRows.f)
  needNeeds : Df K "need_needs" "need_needs" sNeedNeeds
  g_needNeeds : mg "need_needs" = some (.ref needNeeds.f)
  isBackward : Df K "is_backward" "is_backward" sIsBackward
  g_isBackward : mg "is_backward" = some (.ref isBackward.f)
  rowBefore : Df K "row_before" "row_before" sRowBefore
  g_rowBefore : mg "row_before" = some (.ref rowBefore.f)
  slowChain : Df K "slow_chain" "slow_chain" sSlowChain
  g_slowChain : mg "slow_chain" = some (.ref slowChain.f)
  checkSlow : Df K "check_slow" "check_slow" sCheckSlow
  g_checkSlow : mg "check_slow" = some (.ref checkSlow.f)
  pen : Df K "_law_pen" "_law_pen" sPen
  g_pen : mg "_law_pen" = some (.ref pen.f)
  draw : Df K "_law_draw" "_law_draw" sDraw
  g_draw : mg "_law_draw" = some (.ref draw.f)
  shuffled : Df K "_law_shuffled" "_law_shuffled" sShuffled
  g_shuffled : mg "_law_shuffled" = some (.ref shuffled.f)
  names : Df K "_law_names" "_law_names" sNames
  g_names : mg "_law_names" = some (.ref names.f)
  plan : Df K "_law_plan" "_law_plan" sPlan
  g_plan : mg "_law_plan" = some (.ref plan.f)
  page : Df K "_law_page" "_law_page" sPage
  g_page : mg "_law_page" = some (.ref page.f)
  below : Df K "_law_below" "_law_below" sBelow
  g_below : mg "_law_below" = some (.ref below.f)
  chains : Df K "_law_chains" "_law_chains" sChains
  g_chains : mg "_law_chains" = some (.ref chains.f)
  movesRight : Df K "_law_moves_right" "_law_moves_right" sMovesRight
  g_movesRight : mg "_law_moves_right" = some (.ref movesRight.f)
  needsRight : Df K "_law_needs_right" "_law_needs_right" sNeedsRight
  g_needsRight : mg "_law_needs_right" = some (.ref needsRight.f)
  rInit : Df K "__init__" "Reader.__init__" sRInit
  rSet : Df K "passes" "Reader.passes" sRSet
  rRowsIn : Df K "rows_in" "Reader.rows_in" sRRowsIn
  rAccepted : Df K "accepted" "Reader.accepted" sRAccepted
  rCall : Df K "__call__" "Reader.__call__" sRCall
  sInit : Df K "__init__" "Sheet.__init__" sSInit
  sFill : Df K "fill" "Sheet.fill" sSFill
  sOf : Df K "of" "Sheet.of" sSOf
  sRows : Df K "rows" "Sheet.rows" sSRows
  sNeeds : Df K "needs" "Sheet.needs" sSNeeds
  sContains : Df K "__contains__" "Sheet.__contains__" sSContains
  sEq : Df K "__eq__" "Sheet.__eq__" sSEq
  sNeedRow : Df K "need_row" "Sheet.need_row" sSNeedRow
  sPosition : Df K "position" "Sheet.position" sSPosition
  sWithMove : Df K "with_move" "Sheet.with_move" sSWithMove
  sWithNeed : Df K "with_need" "Sheet.with_need" sSWithNeed
  sWithoutNeed : Df K "without_need" "Sheet.without_need" sSWithoutNeed
  CR : Addr
  CS : Addr
  gR : mg "Reader" = some (.ref CR)
  gS : mg "Sheet" = some (.ref CS)
  clR : Cls K CR
  clS : Cls K CS
  mkR : Mk K CR rInit.f
  mkS : Mk K CS sInit.f
  n_bound : NoAttr K CR "bound"
  n_names : NoAttr K CS "names"
  n_direct : NoAttr K CS "direct"
  n_order : NoAttr K CS "order"
  n_shown : NoAttr K CS "shown"
  m_rRowsIn : Meth K CR "rows_in" rRowsIn.f
  m_rAccepted : Meth K CR "accepted" rAccepted.f
  m_sFill : Meth K CS "fill" sFill.f
  m_sNeedRow : Meth K CS "need_row" sNeedRow.f
  m_sPosition : Meth K CS "position" sPosition.f
  m_sWithMove : Meth K CS "with_move" sWithMove.f
  m_sWithNeed : Meth K CS "with_need" sWithNeed.f
  m_sWithoutNeed : Meth K CS "without_need" sWithoutNeed.f
  callO : CallO K CR rCall.f
  pPass : Addr
  setO : SetOf K CR "passes" pPass rSet.f
  pRows : Addr
  propR : PropOf K CS "rows" pRows sRows.f
  pNeeds : Addr
  propN : PropOf K CS "needs" pNeeds sNeeds.f
  mc : Value
  cread : CRead K CS mc
  pOf : Addr
  cmet : CMet K CS mc "of" pOf sOf.f
  conA : PySem.W.findIn K (.ref CS) "__contains__" = some (some (.ref sContains.f))
  conF : PySem.W.isFn K (.ref sContains.f) = true
  eqA : PySem.W.findIn K (.ref CS) "__eq__" = some (some (.ref sEq.f))
  eqF : PySem.W.isFn K (.ref sEq.f) = true
  neA : PySem.W.findIn K (.ref CS) "__ne__" = some (some (.builtin "object.__ne__"))
  mroS : PySem.W.mroIn K CS (.type "object") = some true
  clA : PySem.W.findIn K (.ref CS) "__class__" = some (some (.builtin "object.__class__"))
  clN : PySem.W.specialIn K (.builtin "object.__class__") "__get__" = some (some (.builtin "getset_descriptor.__get__"))
  clT : PySem.W.takesIn K (.builtin "object.__class__") = some true
  isiS : PySem.W.kitOne K (.ref CS) (.ref CS) = some true
  gLong : ∃ t, mg "LONGEST_NAME" = some (.int 8 t)
  gMost : ∃ t, mg "MOST_PASSES" = some (.int 60 t)
  gLimit : ∃ t, mg "LIMIT" = some (.int 60 t)
  gLet : ∃ t, mg "LETTERS" = some (.str "abcdefghijklmnopqrstuvwxyz" t)
  b_isinstance : mg "isinstance" = none
  b_len : mg "len" = none
  b_range : mg "range" = none
  b_max : mg "max" = none
  b_min : mg "min" = none
  b_abs : mg "abs" = none
  b_int : mg "int" = none
  b_str : mg "str" = none
  b_list : mg "list" = none
  b_dict : mg "dict" = none
  b_tuple : mg "tuple" = none
  b_set : mg "set" = none
  b_sorted : mg "sorted" = none
  b_all : mg "all" = none
  b_any : mg "any" = none
  b_enumerate : mg "enumerate" = none
  b_zip : mg "zip" = none
  b_bool : mg "bool" = none
section
variable {K : PySem.W.Frag} {mg : Str → Option Value} (T : Txt K mg)
theorem Txt.bd_isName : Binds K T.isName.fd ["value"] [] := T.isName.F.binds fun _ _ _ _ _ _ us hl => match us, hl with | [_], _ => rfl
theorem Txt.bd_isInteger : Binds K T.isInteger.fd ["value"] [] := T.isInteger.F.binds fun _ _ _ _ _ _ us hl => match us, hl with | [_], _ => rfl
theorem Txt.bd_isBetween : Binds K T.isBetween.fd ["value", "least", "most"] [] := T.isBetween.F.binds fun _ _ _ _ _ _ us hl => match us, hl with | [_, _, _], _ => rfl
theorem Txt.bd_isIndex : Binds K T.isIndex.fd ["value", "size"] [] := T.isIndex.F.binds fun _ _ _ _ _ _ us hl => match us, hl with | [_, _], _ => rfl
theorem Txt.bd_passesNeeded : Binds K T.passesNeeded.fd ["sheet"] [] := T.passesNeeded.F.binds fun _ _ _ _ _ _ us hl => match us, hl with | [_], _ => rfl
theorem Txt.bd_unfinished : Binds K T.unfinished.fd ["needs"] [] := T.unfinished.F.binds fun _ _ _ _ _ _ us hl => match us, hl with | [_], _ => rfl
theorem Txt.bd_ringIn : Binds K T.ringIn.fd ["needs"] [] := T.ringIn.F.binds fun _ _ _ _ _ _ us hl => match us, hl with | [_], _ => rfl
theorem Txt.bd_rowText : Binds K T.rowText.fd ["name", "needed"] [] := T.rowText.F.binds fun _ _ _ _ _ _ us hl => match us, hl with | [_, _], _ => rfl
theorem Txt.bd_sheetText : Binds K T.sheetText.fd ["sheet"] [] := T.sheetText.F.binds fun _ _ _ _ _ _ us hl => match us, hl with | [_], _ => rfl
theorem Txt.bd_firstWrong : Binds K T.firstWrong.fd ["rows"] [] := T.firstWrong.F.binds fun _ _ _ _ _ _ us hl => match us, hl with | [_], _ => rfl
theorem Txt.bd_areNeeds : Binds K T.areNeeds.fd ["rows", "value"] [] := T.areNeeds.F.binds fun _ _ _ _ _ _ us hl => match us, hl with | [_, _], _ => rfl
theorem Txt.bd_needRows : Binds K T.needRows.fd ["rows"] [] := T.needRows.F.binds fun _ _ _ _ _ _ us hl => match us, hl with | [_], _ => rfl
theorem Txt.bd_needNeeds : Binds K T.needNeeds.fd ["rows", "needs"] [] := T.needNeeds.F.binds fun _ _ _ _ _ _ us hl => match us, hl with | [_, _], _ => rfl
theorem Txt.bd_isBackward : Binds K T.isBackward.fd ["sheet", "name", "other"] [] := T.isBackward.F.binds fun _ _ _ _ _ _ us hl => match us, hl with | [_, _, _], _ => rfl
theorem Txt.bd_rowBefore : Binds K T.rowBefore.fd ["sheet", "passes", "name"] [] := T.rowBefore.F.binds fun _ _ _ _ _ _ us hl => match us, hl with | [_, _, _], _ => rfl
theorem Txt.bd_slowChain : Binds K T.slowChain.fd ["sheet"] [] := T.slowChain.F.binds fun _ _ _ _ _ _ us hl => match us, hl with | [_], _ => rfl
theorem Txt.bd_checkSlow : Binds K T.checkSlow.fd ["sheet", "thing"] [] := T.checkSlow.F.binds fun _ _ _ _ _ _ us hl => match us, hl with | [_, _], _ => rfl
theorem Txt.bd_pen : Binds K T.pen.fd ["_law_script"] [] := T.pen.F.binds fun _ _ _ _ _ _ us hl => match us, hl with | [_], _ => rfl
theorem Txt.bd_draw : Binds K T.draw.fd ["_law_pen_here", "_law_limit"] [] := T.draw.F.binds fun _ _ _ _ _ _ us hl => match us, hl with | [_, _], _ => rfl
theorem Txt.bd_shuffled : Binds K T.shuffled.fd ["_law_pen_here", "_law_items"] [] := T.shuffled.F.binds fun _ _ _ _ _ _ us hl => match us, hl with | [_, _], _ => rfl
theorem Txt.bd_names : Binds K T.names.fd ["_law_pen_here", "_law_many"] [] := T.names.F.binds fun _ _ _ _ _ _ us hl => match us, hl with | [_, _], _ => rfl
theorem Txt.bd_plan : Binds K T.plan.fd ["_law_pen_here", "_law_many"] [] := T.plan.F.binds fun _ _ _ _ _ _ us hl => match us, hl with | [_, _], _ => rfl
theorem Txt.bd_page : Binds K T.page.fd ["_law_plan_here"] [] := T.page.F.binds fun _ _ _ _ _ _ us hl => match us, hl with | [_], _ => rfl
theorem Txt.bd_below : Binds K T.below.fd ["_law_plan_here"] [] := T.below.F.binds fun _ _ _ _ _ _ us hl => match us, hl with | [_], _ => rfl
theorem Txt.bd_chains : Binds K T.chains.fd ["_law_plan_here"] [] := T.chains.F.binds fun _ _ _ _ _ _ us hl => match us, hl with | [_], _ => rfl
theorem Txt.bd_movesRight : Binds K T.movesRight.fd ["_law_plan_here", "_law_page_here", "_law_laps"] [] := T.movesRight.F.binds fun _ _ _ _ _ _ us hl => match us, hl with | [_, _, _], _ => rfl
theorem Txt.bd_needsRight : Binds K T.needsRight.fd ["_law_plan_here", "_law_page_here", "_law_below_here", "_law_laps"] [] := T.needsRight.F.binds fun _ _ _ _ _ _ us hl => match us, hl with | [_, _, _, _], _ => rfl
theorem Txt.bd_rInit : Binds K T.rInit.fd ["self", "passes"] [] := T.rInit.F.binds fun _ _ _ _ _ _ us hl => match us, hl with | [_, _], _ => rfl
theorem Txt.bd_rSet : Binds K T.rSet.fd ["self", "value"] [] := T.rSet.F.binds fun _ _ _ _ _ _ us hl => match us, hl with | [_, _], _ => rfl
theorem Txt.bd_rRowsIn : Binds K T.rRowsIn.fd ["self", "sheet", "number"] [] := T.rRowsIn.F.binds fun _ _ _ _ _ _ us hl => match us, hl with | [_, _, _], _ => rfl
theorem Txt.bd_rAccepted : Binds K T.rAccepted.fd ["self", "sheet"] [] := T.rAccepted.F.binds fun _ _ _ _ _ _ us hl => match us, hl with | [_, _], _ => rfl
theorem Txt.bd_rCall : Binds K T.rCall.fd ["self", "sheet"] [] := T.rCall.F.binds fun _ _ _ _ _ _ us hl => match us, hl with | [_, _], _ => rfl
theorem Txt.bd_sFill : Binds K T.sFill.fd ["self", "rows", "needs"] [] := T.sFill.F.binds fun _ _ _ _ _ _ us hl => match us, hl with | [_, _, _], _ => rfl
theorem Txt.bd_sOf : Binds K T.sOf.fd ["cls", "rows", "needs"] [] := T.sOf.F.binds fun _ _ _ _ _ _ us hl => match us, hl with | [_, _, _], _ => rfl
theorem Txt.bd_sRows : Binds K T.sRows.fd ["self"] [] := T.sRows.F.binds fun _ _ _ _ _ _ us hl => match us, hl with | [_], _ => rfl
theorem Txt.bd_sNeeds : Binds K T.sNeeds.fd ["self"] [] := T.sNeeds.F.binds fun _ _ _ _ _ _ us hl => match us, hl with | [_], _ => rfl
theorem Txt.bd_sContains : Binds K T.sContains.fd ["self", "name"] [] := T.sContains.F.binds fun _ _ _ _ _ _ us hl => match us, hl with | [_, _], _ => rfl
theorem Txt.bd_sEq : Binds K T.sEq.fd ["self", "other"] [] := T.sEq.F.binds fun _ _ _ _ _ _ us hl => match us, hl with | [_, _], _ => rfl
theorem Txt.bd_sNeedRow : Binds K T.sNeedRow.fd ["self", "name"] [] := T.sNeedRow.F.binds fun _ _ _ _ _ _ us hl => match us, hl with | [_, _], _ => rfl
theorem Txt.bd_sPosition : Binds K T.sPosition.fd ["self", "name"] [] := T.sPosition.F.binds fun _ _ _ _ _ _ us hl => match us, hl with | [_, _], _ => rfl
theorem Txt.bd_sWithMove : Binds K T.sWithMove.fd ["self", "name", "index"] [] := T.sWithMove.F.binds fun _ _ _ _ _ _ us hl => match us, hl with | [_, _, _], _ => rfl
theorem Txt.bd_sWithNeed : Binds K T.sWithNeed.fd ["self", "name", "other"] [] := T.sWithNeed.F.binds fun _ _ _ _ _ _ us hl => match us, hl with | [_, _, _], _ => rfl
theorem Txt.bd_sWithoutNeed : Binds K T.sWithoutNeed.fd ["self", "name", "other"] [] := T.sWithoutNeed.F.binds fun _ _ _ _ _ _ us hl => match us, hl with | [_, _, _], _ => rfl
end
end K19

set_option Elab.async false
set_option linter.all false
set_option maxRecDepth 100000
set_option maxHeartbeats 4000000
/-! The words of the heap, and each def's promise. -/
namespace K19
open PySem PySem.Spec PyProof.Rows L2 StX ClX
theorem bb_isinstance : bootBuiltins "isinstance" = some (.builtin "isinstance") := by decide +kernel
theorem bb_len : bootBuiltins "len" = some (.builtin "len") := by decide +kernel
theorem bb_max : bootBuiltins "max" = some (.builtin "max") := by decide +kernel
theorem bb_min : bootBuiltins "min" = some (.builtin "min") := by decide +kernel
theorem bb_abs : bootBuiltins "abs" = some (.builtin "abs") := by decide +kernel
theorem bb_sorted : bootBuiltins "sorted" = some (.builtin "sorted") := by decide +kernel
theorem bb_all : bootBuiltins "all" = some (.builtin "all") := by decide +kernel
theorem bb_any : bootBuiltins "any" = some (.builtin "any") := by decide +kernel
theorem bb_range : bootBuiltins "range" = some (.type "range") := by decide +kernel
theorem bb_int : bootBuiltins "int" = some (.type "int") := by decide +kernel
theorem bb_str : bootBuiltins "str" = some (.type "str") := by decide +kernel
theorem bb_list : bootBuiltins "list" = some (.type "list") := by decide +kernel
theorem bb_dict : bootBuiltins "dict" = some (.type "dict") := by decide +kernel
theorem bb_tuple : bootBuiltins "tuple" = some (.type "tuple") := by decide +kernel
theorem bb_set : bootBuiltins "set" = some (.type "set") := by decide +kernel
theorem bb_enumerate : bootBuiltins "enumerate" = some (.type "enumerate") := by decide +kernel
theorem bb_zip : bootBuiltins "zip" = some (.type "zip") := by decide +kernel
theorem bb_bool : bootBuiltins "bool" = some (.type "bool") := by decide +kernel
abbrev ST (xs : List Str) : List V := xs.map V.str
abbrev kS (s : Str) : Key := Sum.inr s
def LET : Str := "abcdefghijklmnopqrstuvwxyz"
structure NameOk (s : Str) : Prop where
  lo : 1 ≤ s.length
  hi : s.length ≤ 8
  ok : ∀ c ∈ s.cps.toList, c ∈ LET.cps.toList
theorem same_upd {H : Hp} {p : Addr} {o : HO} (h : H p = none) : Same H (upd H p o) := fun b x e => by
  rw [upd_ne (ne_of_none e h)]
  exact e
/-! ### the heap -/
def NeedsAt (H : Hp) (d : Addr) (ks : List Str) (nd : Str → List Str) : Prop := ∃ t : Str → Addr, H d = some (.dK (ks.map fun r => (kS r, V.ref (t r)))) ∧ ∀ r ∈ ks, H (t r) = some (.tup (ST (nd r)))
theorem NeedsAt.same {H H' : Hp} {d : Addr} {ks : List Str} {nd : Str → List Str} (h : NeedsAt H d ks nd) (s : Same H H') : NeedsAt H' d ks nd := let ⟨t, e, f⟩ := h; ⟨t, s _ _ e, fun r hr => s _ _ (f r hr)⟩
def idxD (rows : List Str) : List (Key × V) := rows.map fun r => (kS r, V.int (pos rows r : Nat))
def shF (n d o : Addr) (z : Str) : List (Str × V) := [("names", .ref n), ("direct", .ref d), ("order", .ref o), ("shown", .str z)]
def SheetAt (C : Addr) (H : Hp) (a : Addr) (rows : List Str) (nd : Str → List Str) : Prop :=
  ∃ dx n d o z, H a = some (.ins C dx (shF n d o z)) ∧ H n = some (.tup (ST rows)) ∧ NeedsAt H d rows nd ∧ H o = some (.dK (idxD rows))
theorem SheetAt.same {C : Addr} {H H' : Hp} {a : Addr} {rows : List Str} {nd : Str → List Str} (h : SheetAt C H a rows nd) (s : Same H H') : SheetAt C H' a rows nd :=
  let ⟨dx, n, d, o, z, e1, e2, e3, e4⟩ := h; ⟨dx, n, d, o, z, s _ _ e1, s _ _ e2, e3.same s, s _ _ e4⟩
theorem SheetAt.congr {C : Addr} {H : Hp} {a : Addr} {rows : List Str} {nd nd' : Str → List Str} (h : SheetAt C H a rows nd) (e : ∀ r ∈ rows, nd r = nd' r) : SheetAt C H a rows nd' :=
  let ⟨dx, n, d, o, z, e1, e2, ⟨t, e3, f⟩, e4⟩ := h; ⟨dx, n, d, o, z, e1, e2, ⟨t, e3, fun r hr => by rw [← e r hr]; exact f r hr⟩, e4⟩
structure Good (rows : List Str) (nd : Str → List Str) : Prop where
  names : ∀ r ∈ rows, NameOk r
  len : rows.length ≤ 7
  dag : ∃ rk, Dag rows nd rk
  ndn : ∀ r ∈ rows, (nd r).Nodup
/-- the sorted one among the lists that are alike but for the order -/
noncomputable def srt (xs : List Str) : List Str := by
  classical
  exact if h : ∃ ys : List Str, ys.Perm xs ∧ sortedS ys = true then Classical.choose h else xs
def PassD (rows : List Str) (p : Str → Nat) : List (Key × V) := rows.map fun r => (kS r, V.int (p r : Nat))
/-! ### promises -/
def spIsName : Sp := fun vs H Q _ => ∃ s, vs = [.str s] ∧ NameOk s ∧ ∀ H', Same H H' → Q (.bl true) H'
def spIsInt : Sp := fun vs H Q _ => ∃ n : Int, vs = [.int n] ∧ Q (.bl true) H
def spBetween : Sp := fun vs H Q _ => ∃ n a b : Int, vs = [.int n, .int a, .int b] ∧ a ≤ n ∧ n ≤ b ∧ Q (.bl true) H
def spIsIndex : Sp := fun vs H Q _ => ∃ i n : Int, vs = [.int i, .int n] ∧ 0 ≤ i ∧ i < n ∧ Q (.bl true) H
def spRSet (CR : Addr) : Sp := fun vs H Q _ => ∃ a dx, vs = [.ref a, .int 60] ∧ H a = some (.ins CR dx []) ∧ Q .non (upd H a (.ins CR dx [("bound", .int 60)]))
def spRowsIn (CS : Addr) : Sp := fun vs H Q _ => ∃ a s dx n d o z v, vs = [a, .ref s, v] ∧ H s = some (.ins CS dx (shF n d o z)) ∧ Q (.ref n) H
def spRows (CS : Addr) : Sp := fun vs H Q _ => ∃ s dx fs n, vs = [.ref s] ∧ H s = some (.ins CS dx fs) ∧ fs.lookup ("names" : Str) = some (.ref n) ∧ Q (.ref n) H
def spNeeds (CS : Addr) : Sp := fun vs H Q _ => ∃ s dx fs d kvs, vs = [.ref s] ∧ H s = some (.ins CS dx fs) ∧ fs.lookup ("direct" : Str) = some (.ref d) ∧ H d = some (.dK kvs) ∧ ∀ p, H p = none → Q (.ref p) (upd H p (.dK kvs))
def spRCall (CR CS : Addr) : Sp := fun vs H Q _ => ∃ r s dx rows nd p, vs = [.ref r, .ref s] ∧ H r = some (.ins CR dx [("bound", .int 60)]) ∧ SheetAt CS H s rows nd ∧ Good rows nd ∧ IsPass rows nd p ∧
  ∀ H' q, Same H H' → H q = none → H' q = some (.dK (PassD rows p)) → Q (.ref q) H'
def spPasses (CS : Addr) : Sp := fun vs H Q _ => ∃ s rows nd p, vs = [.ref s] ∧ SheetAt CS H s rows nd ∧ Good rows nd ∧ rows ≠ [] ∧ IsPass rows nd p ∧
  ∀ H' r, Same H H' → r ∈ rows → (∀ x ∈ rows, p x ≤ p r) → Q (.int (p r : Nat)) H'
def spUnfin : Sp := fun vs H Q _ => ∃ d rows nd, vs = [.ref d] ∧ NeedsAt H d rows nd ∧ Good rows nd ∧ ∀ H' q, Same H H' → H' q = some (.dK []) → Q (.ref q) H'
def spRing : Sp := fun vs H Q _ => ∃ d rows nd, vs = [.ref d] ∧ NeedsAt H d rows nd ∧ Good rows nd ∧ ∀ H', Same H H' → Q .non H'
def spRowText : Sp := fun vs H Q _ => ∃ s t xs, vs = [.str s, .ref t] ∧ NameOk s ∧ H t = some (.tup (ST xs)) ∧ (∀ x ∈ xs, NameOk x) ∧ xs.length ≤ 7 ∧ ∀ H' z, Same H H' → z.length ≤ 100 → Q (.str z) H'
def spSheetText (CS : Addr) : Sp := fun vs H Q _ => ∃ s dx fs n d rows nd, vs = [.ref s] ∧ H s = some (.ins CS dx fs) ∧ fs.lookup ("names" : Str) = some (.ref n) ∧ fs.lookup ("direct" : Str) = some (.ref d) ∧
  H n = some (.tup (ST rows)) ∧ NeedsAt H d rows nd ∧ Good rows nd ∧ ∀ H' z, Same H H' → Q (.str z) H'
def spFirstWrong (K : PySem.W.Frag) : Sp := fun vs H Q _ => ∃ a rows, vs = [.ref a] ∧ SqS K H a (ST rows) ∧ (∀ r ∈ rows, NameOk r) ∧ rows.length ≤ 7 ∧ rows.Nodup ∧ ∀ H', Same H H' → Q .non H'
def spAreNeeds (K : PySem.W.Frag) : Sp := fun vs H Q _ => ∃ a t rows xs, vs = [.ref a, .ref t] ∧ SqS K H a (ST rows) ∧ H t = some (.tup (ST xs)) ∧ (∀ x ∈ xs, NameOk x ∧ x ∈ rows) ∧ rows.length ≤ 7 ∧ xs.length ≤ 7 ∧ xs.Nodup ∧ ∀ H', Same H H' → Q (.bl true) H'
def spNeedNeeds (K : PySem.W.Frag) : Sp := fun vs H Q _ => ∃ a d rows ks nd, vs = [.ref a, .ref d] ∧ SqS K H a (ST rows) ∧ NeedsAt H d ks nd ∧ (∀ r ∈ ks, r ∈ rows) ∧ (∀ r ∈ rows, r ∈ ks) ∧ ks.length ≤ 7 ∧ Good rows nd ∧ ∀ H', Same H H' → Q .non H'
/-- a list or a tuple of its own -/
def Sq2 (H : Hp) (a : Addr) (xs : List V) : Prop := H a = some (.lst xs) ∨ H a = some (.tup xs)
theorem Sq2.s {K : PySem.W.Frag} {H : Hp} {a : Addr} {xs : List V} (h : Sq2 H a xs) : SqS K H a xs := h.elim (fun h => .inl (SqL.of h)) fun h => .inr (SqT.of h)
theorem Sq2.same {H H' : Hp} {a : Addr} {xs : List V} (h : Sq2 H a xs) (s : Same H H') : Sq2 H' a xs := h.elim (fun h => .inl (s _ _ h)) fun h => .inr (s _ _ h)
def spFill (K : PySem.W.Frag) (CS : Addr) : Sp := fun vs H Q _ => ∃ s dx fs a d rows ks nd, vs = [.ref s, .ref a, .ref d] ∧ H s = some (.ins CS dx fs) ∧ (fs = [] ∨ ∃ n d o z, fs = shF n d o z) ∧ Sq2 H a (ST rows) ∧ NeedsAt H d ks nd ∧
  (∀ r ∈ ks, r ∈ rows) ∧ (∀ r ∈ rows, r ∈ ks) ∧ ks.Nodup ∧ ks.length ≤ 7 ∧ Good rows nd ∧ ∀ H', (∀ b o, b ≠ s → H b = some o → H' b = some o) → SheetAt CS H' s rows (fun r => srt (nd r)) → Q .non H'
def spSInit (CS : Addr) : Sp := fun vs H Q _ => ∃ s dx, vs = [.ref s] ∧ H s = some (.ins CS dx []) ∧ ∀ H' dx' n d o z, (∀ b o, b ≠ s → H b = some o → H' b = some o) → H' s = some (.ins CS dx' (shF n d o z)) → Q .non H'
def spOf (K : PySem.W.Frag) (CS : Addr) : Sp := fun vs H Q _ => ∃ a d rows ks nd, vs = [.ref CS, .ref a, .ref d] ∧ Sq2 H a (ST rows) ∧ NeedsAt H d ks nd ∧ (∀ r ∈ ks, r ∈ rows) ∧ (∀ r ∈ rows, r ∈ ks) ∧ ks.Nodup ∧ ks.length ≤ 7 ∧ Good rows nd ∧
  ∀ H' s, Same H H' → H s = none → SheetAt CS H' s rows (fun r => srt (nd r)) → Q (.ref s) H'
def spContains (CS : Addr) : Sp := fun vs H Q _ => ∃ s rows nd r, vs = [.ref s, .str r] ∧ SheetAt CS H s rows nd ∧ rows.Nodup ∧ r ∈ rows ∧ Q (.bl true) H
def spEq (CS : Addr) : Sp := fun vs H Q _ => ∃ a b rows nd, vs = [.ref a, .ref b] ∧ SheetAt CS H a rows nd ∧ SheetAt CS H b rows nd ∧ (∀ r ∈ rows, NameOk r) ∧ (∀ r ∈ rows, ∀ x ∈ nd r, NameOk x) ∧ ∀ H', Same H H' → Q (.bl true) H'
def spNeedRow (CS : Addr) : Sp := fun vs H Q _ => ∃ s rows nd r, vs = [.ref s, .str r] ∧ SheetAt CS H s rows nd ∧ rows.Nodup ∧ r ∈ rows ∧ Q .non H
def spPos (CS : Addr) : Sp := fun vs H Q _ => ∃ s rows nd r, vs = [.ref s, .str r] ∧ SheetAt CS H s rows nd ∧ rows.Nodup ∧ r ∈ rows ∧ Q (.int (pos rows r : Nat)) H
def spMove (CS : Addr) : Sp := fun vs H Q _ => ∃ s rows nd r i, vs = [.ref s, .str r, .int (i : Nat)] ∧ SheetAt CS H s rows nd ∧ Good rows nd ∧ r ∈ rows ∧ i < rows.length ∧ ∀ H' a, Same H H' → SheetAt CS H' a (moved rows r i) (fun x => srt (nd x)) → Q (.ref a) H'
def spWithNeed (CS : Addr) : Sp := fun vs H Q _ => ∃ s rows nd hi lo, vs = [.ref s, .str hi, .str lo] ∧ SheetAt CS H s rows nd ∧ hi ∈ rows ∧ lo ∈ rows ∧ lo ∉ nd hi ∧ Good rows nd ∧ Good rows (fun x => if x = hi then nd hi ++ [lo] else nd x) ∧
  ∀ H' a, Same H H' → SheetAt CS H' a rows (fun x => srt (if x = hi then nd hi ++ [lo] else nd x)) → Q (.ref a) H'
def spWithout (CS : Addr) : Sp := fun vs H Q _ => ∃ s rows nd hi lo, vs = [.ref s, .str hi, .str lo] ∧ SheetAt CS H s rows nd ∧ hi ∈ rows ∧ lo ∈ nd hi ∧ Good rows nd ∧
  ∀ H' a, Same H H' → SheetAt CS H' a rows (fun x => srt (if x = hi then (nd hi).filter (fun y => decide (y ≠ lo)) else nd x)) → Q (.ref a) H'
def spBack (CS : Addr) : Sp := fun vs H Q _ => ∃ s rows nd r o, vs = [.ref s, .str r, .str o] ∧ SheetAt CS H s rows nd ∧ rows.Nodup ∧ r ∈ rows ∧ o ∈ rows ∧ Q (.bl (decide (pos rows r < pos rows o))) H
def spBefore (CS : Addr) : Sp := fun vs H Q _ => ∃ s q rows nd p r, vs = [.ref s, .ref q, .str r] ∧ SheetAt CS H s rows nd ∧ Good rows nd ∧ r ∈ rows ∧ H q = some (.dK (PassD rows p)) ∧
  (∀ H', Same H H' → (∀ o ∈ nd r, p o + bk rows r o ≠ p r) → Q .non H') ∧ ∀ H' o, Same H H' → o ∈ nd r → p o + bk rows r o = p r → Q (.str o) H'
def spSlow (CS : Addr) : Sp := fun vs H Q _ => ∃ s rows nd p, vs = [.ref s] ∧ SheetAt CS H s rows nd ∧ Good rows nd ∧ rows ≠ [] ∧ IsPass rows nd p ∧
  ∀ H' t ch r, Same H H' → H' t = some (.tup (ST ch)) → isCh nd ch → (∀ x ∈ ch, x ∈ rows) → ch ≠ [] → r ∈ rows → (∀ x ∈ rows, p x ≤ p r) → 1 + backs rows ch = p r → Q (.ref t) H'
def spCheck (CS : Addr) : Sp := fun vs H Q _ => ∃ s t rows nd ch, vs = [.ref s, .ref t] ∧ SheetAt CS H s rows nd ∧ Good rows nd ∧ H t = some (.tup (ST ch)) ∧ isCh nd ch ∧ (∀ x ∈ ch, x ∈ rows) ∧ ch ≠ [] ∧ ch.length ≤ 1000 ∧ ∀ H', Same H H' → Q (.int (1 + backs rows ch : Nat)) H'
end K19

set_option Elab.async false
set_option linter.all false
set_option maxRecDepth 100000
set_option maxHeartbeats 4000000
/-! Small lemmas of dicts, lists of texts, comparisons. -/
namespace K19
open PySem PySem.Spec PyProof.Rows L2 StX ClX
theorem kV_S (s : Str) : kV (kS s) = V.str s := rfl
/-! ### dicts keyed by names -/
theorem valV_mapf (f : Str → V) (r : Str) : ∀ ks : List Str, valV (ks.map fun x => (kS x, f x)) (kS r) = if r ∈ ks then some (f r) else none
  | [] => by simp [valV]
  | x :: ks => by
    rw [List.map_cons]
    by_cases e : x = r
    · subst e
      rw [valV_pos rfl, if_pos (by simp)]
    · rw [valV_neg (fun h => e (Sum.inr.inj h)), valV_mapf f r ks]
      have : (r ∈ x :: ks) ↔ r ∈ ks := by simp [Ne.symm e]
      simp only [this]
theorem valV_in_mapf {f : Str → V} {r : Str} {ks : List Str} (h : r ∈ ks) : valV (ks.map fun x => (kS x, f x)) (kS r) = some (f r) := by rw [valV_mapf, if_pos h]
theorem valV_notin_mapf {f : Str → V} {r : Str} {ks : List Str} (h : r ∉ ks) : valV (ks.map fun x => (kS x, f x)) (kS r) = none := by rw [valV_mapf, if_neg h]
theorem putK_new_mapf {f : Str → V} {r : Str} {ks : List Str} (h : r ∉ ks) : putK (ks.map fun x => (kS x, f x)) (kS r) (f r) = (ks ++ [r]).map fun x => (kS x, f x) := by
  rw [putK_new _ (valV_notin_mapf h), List.map_append]
  rfl
theorem putK_old_mapf {f : Str → V} {r : Str} {v : V} {ks : List Str} (h : r ∈ ks) : putK (ks.map fun x => (kS x, f x)) (kS r) v = ks.map fun x => (kS x, if x = r then v else f x) := by
  unfold putK
  rw [if_pos (by rw [valV_any, valV_in_mapf h]; rfl), List.map_map]
  refine List.map_congr_left fun x _ => ?_
  show (if kS x = kS r then (kS x, v) else (kS x, f x)) = _
  by_cases e : x = r
  · subst e; simp
  · rw [if_neg fun z => e (Sum.inr.inj z), if_neg e]
/-! ### texts in a list -/
theorem inV_ST (s : Str) : ∀ xs : List Str, inV (.str s) (ST xs) = decide (s ∈ xs)
  | [] => rfl
  | x :: xs => by
    have ih := inV_ST s xs
    show (eqV (.str x) (.str s) || inV (.str s) (ST xs)) = _
    rw [ih]
    have e : eqV (.str x) (.str s) = decide (x = s) := by
      show (x == s) = decide (x = s)
      by_cases h : x = s
      · subst h; simp
      · rw [decide_eq_false h]; exact beq_eq_false_iff_ne.mpr h
    rw [e]
    by_cases h : x = s
    · subst h; simp
    · simp [h, Ne.symm h]
theorem flat_ST (xs : List Str) : (ST xs).all flatV = true := by
  rw [List.all_eq_true]
  intro v hv
  obtain ⟨x, _, rfl⟩ := List.mem_map.mp hv
  rfl
/-! ### comparisons with data -/
theorem let_lt : ∀ c ∈ LET.cps.toList, c < 1000 := by decide +kernel
theorem NameOk.cps {s : Str} (h : NameOk s) : s.cps.all (· < 0x110000) = true := by
  rw [Array.all_eq_true']
  intro c hc
  have := let_lt c (h.ok c (Array.mem_toList_iff.mpr hc))
  exact decide_eq_true (by omega)
theorem canLayAll_ST : ∀ xs : List Str, (∀ x ∈ xs, NameOk x) → PyData.canLayAll0 (xs.map PyData.str) = true
  | [], _ => rfl
  | x :: xs, h => by
    show (PyData.canLay0 (.str x) && PyData.canLayAll0 (xs.map PyData.str)) = true
    rw [canLayAll_ST xs fun y hy => h y (by simp [hy])]
    have : PyData.canLay0 (.str x) = true := (h x (by simp)).cps
    rw [this]
    rfl
theorem depthAll_ST : ∀ xs : List Str, PyData.depthAll (xs.map PyData.str) = 0
  | [] => rfl
  | x :: xs => by
    show max (PyData.depth (.str x)) (PyData.depthAll (xs.map PyData.str)) = 0
    rw [depthAll_ST xs]
    rfl
theorem shaped_tup {xs : List Str} (h : ∀ x ∈ xs, NameOk x) : SeqAt.shaped (.tuple (xs.map PyData.str)) = true := by
  show (PyData.canLayAll0 (xs.map PyData.str) && decide (PyData.depthAll (xs.map PyData.str) + 1 ≤ 64)) = true
  rw [canLayAll_ST xs h, depthAll_ST]
  rfl
theorem shaped_lst {xs : List Str} (h : ∀ x ∈ xs, NameOk x) : SeqAt.shaped (.list (xs.map PyData.str)) = true := by
  show (PyData.canLayAll0 (xs.map PyData.str) && decide (PyData.depthAll (xs.map PyData.str) + 1 ≤ 64)) = true
  rw [canLayAll_ST xs h, depthAll_ST]
  rfl
theorem dpAll_ST {K : PySem.W.Frag} {H : Hp} : ∀ xs : List Str, DpAll K H (ST xs) (xs.map PyData.str)
  | [] => .nil
  | x :: xs => .cons (.str x) (dpAll_ST xs)
theorem eqv_nil_t (xs : List Str) : PyData.eqv (.tuple (xs.map PyData.str)) (.tuple []) = decide (xs = []) := by
  cases xs <;> rfl
theorem eqv_nil_l (xs : List Str) : PyData.eqv (.list (xs.map PyData.str)) (.list []) = decide (xs = []) := by
  cases xs <;> rfl
/-! ### heaps -/
theorem same_lst {H H' : Hp} {a : Addr} {o : HO} (s : Same H H') (h : H a = some o) : H' a = some o := s _ _ h
/-- a change at an object that was not there -/
theorem same_at {H H' : Hp} {D : Addr} {o : HO} (s : Same H H') (hD : H D = none) : Same H (upd H' D o) := fun b x e => by
  rw [upd_ne (ne_of_none e hD)]
  exact s _ _ e
theorem SqS.same {K : PySem.W.Frag} {H H' : Hp} {a : Addr} {xs : List V} (h : SqS K H a xs) (s : Same H H') : SqS K H' a xs := by
  rcases h with h | h
  · exact .inl (s.seq h)
  · refine .inr ?_
    rcases h with h | h
    · rcases h with h | ⟨o, h⟩
      · exact .inl (.inl (s _ _ h))
      · exact .inl (.inr ⟨o, s _ _ h⟩)
    · exact .inr h
/-- all but d stands -/
def SameX (d : Addr) (H H' : Hp) : Prop := ∀ b o, b ≠ d → H b = some o → H' b = some o
theorem sx_of {d : Addr} {H H' : Hp} (s : Same H H') : SameX d H H' := fun b o _ e => s b o e
theorem SameX.trans {d : Addr} {H H1 H2 : Hp} (a : SameX d H H1) (b : SameX d H1 H2) : SameX d H H2 := fun c o hc e => b c o hc (a c o hc e)
theorem SameX.at_ {d : Addr} {H H' : Hp} {D : Addr} {o : HO} (s : SameX d H H') (hD : H D = none) : SameX d H (upd H' D o) := fun b x hb e => by
  rw [upd_ne (ne_of_none e hD)]
  exact s _ _ hb e
theorem SameX.self {d : Addr} {H H' : Hp} {o : HO} (s : SameX d H H') : SameX d H (upd H' d o) := fun b x hb e => by
  rw [upd_ne hb]
  exact s _ _ hb e
theorem SameX.of_upd {d : Addr} {H H' : Hp} {o : HO} (s : SameX d (upd H d o) H') : SameX d H H' := fun b x hb e => s b x hb (by rw [upd_ne hb]; exact e)
/-- at the end of a lock -/
theorem SameX.back {d : Addr} {H H' : Hp} {u : HO} (k : SameX d H H') (h : H d = some u) : Same H (upd H' d u) := fun b o e => by
  by_cases hb : b = d
  · subst hb
    rw [h] at e
    cases e
    exact upd_same
  · rw [upd_ne hb]
    exact k b o hb e
theorem free_upd {H : Hp} {a D : Addr} {o : HO} (h : upd H a o D = none) : H D = none ∧ D ≠ a := by
  have h1 : D ≠ a := fun e => by
    rw [e, upd_same] at h
    cases h
  rw [upd_ne h1] at h
  exact ⟨h, h1⟩
theorem kv_at {f : Str → V} {L : List Str} {i : Nat} (hi : i < L.length) : i < (L.map fun r => (kS r, f r)).length := by rw [List.length_map]; exact hi
theorem small7 {n : Nat} (h : n ≤ 7) : n < sizeLine := small1000 (by omega)
theorem ST_snoc (xs : List Str) (x : Str) : ST (xs ++ [x]) = ST xs ++ [.str x] := by
  show (xs ++ [x]).map V.str = _
  rw [List.map_append]
  rfl
theorem ST_len (xs : List Str) : (ST xs).length = xs.length := List.length_map _
theorem SameX.self' {D : Addr} {H : Hp} {o : HO} : SameX D H (upd H D o) := fun b x hb e => by
  rw [upd_ne hb]
  exact e
/-- [..]: the turns grow the heap, Acc says which list stands so far -/
theorem lc_genD {J : It} {g : TG} {tt : TT} {te : TE} {vs : List Nat} {σ : L2.St} {H1 : Hp} {D : Addr} {Qd : Hp → Prop} (n : Nat) (Acc : Nat → List V → Hp → Prop) (gr : ∀ i l H H', Acc i l H → SameX D H H' → Acc i l H') (h0 : Acc 0 [] H1) (nD : H1 D = none) (hl : ∀ i l H, i < n → Acc i l H → l.length < sizeLine)
    (turn : ∀ i l H, i < n → Acc i l H → H D = some (.lst l) → ∀ (R1 : VK) (R2 : Hp → Prop), (∀ y H4, Same H H4 → Acc (i + 1) (l ++ [y]) H4 → R1 y H4) → (∀ H3, Same H H3 → Acc (i + 1) l H3 → R2 H3) →
      J.go i H ∧ ∀ x H', J.yld i H x H' → g x (wipe σ vs) H' fun σ2 H2 => wipe σ2 vs = wipe σ vs ∧ tt σ2 H2 fun b H3 => if b = true then te σ2 H3 R1 else R2 H3)
    (hd : ∀ l H, Acc n l H → H D = some (.lst l) → J.stop n H ∧ Qd H) :
    ∃ W : Nat → Nat → Hp → Prop, (∃ m, W 0 m (upd H1 D (.lst []))) ∧ ∀ i m H, W i m H →
      (J.stop i H ∧ Qd H) ∨ (J.go i H ∧ ∃ Nx : Hp → Prop, (∀ H', Nx H' → ∃ m', m' < m ∧ W (i + 1) m' H') ∧ ∀ x H', J.yld i H x H' → g x (wipe σ vs) H' fun σ2 H2 => wipe σ2 vs = wipe σ vs ∧ tt σ2 H2 fun b H3 =>
        if b = true then te σ2 H3 fun y H4 => ∃ acc, H4 D = some (.lst acc) ∧ acc.length < sizeLine ∧ Nx (upd H4 D (.lst (acc ++ [y]))) else Nx H3) := by
  refine lc_go n (fun i H => ∃ l, Acc i l H ∧ H D = some (.lst l)) ⟨[], gr _ _ _ _ h0 (fun b o _ e => by rw [upd_ne (ne_of_none e nD)]; exact e), upd_same⟩ (fun i H hi ⟨l, a, e⟩ => ?_) fun H ⟨l, a, e⟩ => hd l H a e
  exact turn i l H hi a e _ _ (fun y H4 s a4 => ⟨l, s _ _ e, hl i l H hi a, l ++ [y], gr _ _ _ _ a4 SameX.self', upd_same⟩) fun H3 s a3 => ⟨l, a3, s _ _ e⟩
/-- [..]: the turns grow the heap, Acc says which list stands so far -/
theorem lc_gen {J : It} {g : TG} {tt : TT} {te : TE} {vs : List Nat} {σ : L2.St} {H1 : Hp} {D : Addr} {Qd : Hp → Prop} (n : Nat) (Acc : Nat → List V → Hp → Prop) (gr : ∀ i l H H', Acc i l H → SameX D H H' → Acc i l H') (h0 : Acc 0 [] H1) (nD : H1 D = none) (hl : ∀ i l H, i < n → Acc i l H → l.length < sizeLine)
    (turn : ∀ i l H, i < n → Acc i l H → ∀ (R1 : VK) (R2 : Hp → Prop), (∀ y H4, Same H H4 → Acc (i + 1) (l ++ [y]) H4 → R1 y H4) → (∀ H3, Same H H3 → Acc (i + 1) l H3 → R2 H3) →
      J.go i H ∧ ∀ x H', J.yld i H x H' → g x (wipe σ vs) H' fun σ2 H2 => wipe σ2 vs = wipe σ vs ∧ tt σ2 H2 fun b H3 => if b = true then te σ2 H3 R1 else R2 H3)
    (hd : ∀ l H, Acc n l H → H D = some (.lst l) → J.stop n H ∧ Qd H) :
    ∃ W : Nat → Nat → Hp → Prop, (∃ m, W 0 m (upd H1 D (.lst []))) ∧ ∀ i m H, W i m H →
      (J.stop i H ∧ Qd H) ∨ (J.go i H ∧ ∃ Nx : Hp → Prop, (∀ H', Nx H' → ∃ m', m' < m ∧ W (i + 1) m' H') ∧ ∀ x H', J.yld i H x H' → g x (wipe σ vs) H' fun σ2 H2 => wipe σ2 vs = wipe σ vs ∧ tt σ2 H2 fun b H3 =>
        if b = true then te σ2 H3 fun y H4 => ∃ acc, H4 D = some (.lst acc) ∧ acc.length < sizeLine ∧ Nx (upd H4 D (.lst (acc ++ [y]))) else Nx H3) := by
  refine lc_go n (fun i H => ∃ l, Acc i l H ∧ H D = some (.lst l)) ⟨[], gr _ _ _ _ h0 (fun b o _ e => by rw [upd_ne (ne_of_none e nD)]; exact e), upd_same⟩ (fun i H hi ⟨l, a, e⟩ => ?_) fun H ⟨l, a, e⟩ => hd l H a e
  exact turn i l H hi a _ _ (fun y H4 s a4 => ⟨l, s _ _ e, hl i l H hi a, l ++ [y], gr _ _ _ _ a4 SameX.self', upd_same⟩) fun H3 s a3 => ⟨l, a3, s _ _ e⟩
/-- {..: ..} likewise -/
theorem dc_genD {J : It} {g : TG} {tt : TT} {tk tv : TE} {vs : List Nat} {σ : L2.St} {H1 : Hp} {D : Addr} {Qd : Hp → Prop} (n : Nat) (Acc : Nat → List (Key × V) → Hp → Prop) (gr : ∀ i l H H', Acc i l H → SameX D H H' → Acc i l H') (h0 : Acc 0 [] H1) (nD : H1 D = none) (hl : ∀ i l H, i < n → Acc i l H → l.length < sizeLine)
    (turn : ∀ i l H, i < n → Acc i l H → H D = some (.dK l) → ∀ (R1 : V → VK) (R2 : Hp → Prop), (∀ k z H4, Same H H4 → Acc (i + 1) (putK l k z) H4 → R1 (kV k) z H4) → (∀ H3, Same H H3 → Acc (i + 1) l H3 → R2 H3) →
      J.go i H ∧ ∀ x H', J.yld i H x H' → g x (wipe σ vs) H' fun σ2 H2 => wipe σ2 vs = wipe σ vs ∧ tt σ2 H2 fun b H3 => if b = true then tk σ2 H3 fun y H4 => tv σ2 H4 (R1 y) else R2 H3)
    (hd : ∀ l H, Acc n l H → H D = some (.dK l) → J.stop n H ∧ Qd H) :
    ∃ W : Nat → Nat → Hp → Prop, (∃ m, W 0 m (upd H1 D (.dK []))) ∧ ∀ i m H, W i m H →
      (J.stop i H ∧ Qd H) ∨ (J.go i H ∧ ∃ Nx : Hp → Prop, (∀ H', Nx H' → ∃ m', m' < m ∧ W (i + 1) m' H') ∧ ∀ x H', J.yld i H x H' → g x (wipe σ vs) H' fun σ2 H2 => wipe σ2 vs = wipe σ vs ∧ tt σ2 H2 fun b H3 =>
        if b = true then tk σ2 H3 fun y H4 => tv σ2 H4 fun z H5 => ∃ kvs k, y = kV k ∧ H5 D = some (.dK kvs) ∧ kvs.length < sizeLine ∧ Nx (upd H5 D (.dK (putK kvs k z))) else Nx H3) := by
  refine dc_go n (fun i H => ∃ l, Acc i l H ∧ H D = some (.dK l)) ⟨[], gr _ _ _ _ h0 (fun b o _ e => by rw [upd_ne (ne_of_none e nD)]; exact e), upd_same⟩ (fun i H hi ⟨l, a, e⟩ => ?_) fun H ⟨l, a, e⟩ => hd l H a e
  exact turn i l H hi a e (fun y z H5 => ∃ kvs k, y = kV k ∧ H5 D = some (.dK kvs) ∧ kvs.length < sizeLine ∧ ∃ l, Acc (i + 1) l (upd H5 D (.dK (putK kvs k z))) ∧ (upd H5 D (.dK (putK kvs k z))) D = some (.dK l)) _
    (fun k z H4 s a4 => ⟨l, k, rfl, s _ _ e, hl i l H hi a, putK l k z, gr _ _ _ _ a4 SameX.self', upd_same⟩) fun H3 s a3 => ⟨l, a3, s _ _ e⟩
/-- {..: ..} likewise -/
theorem dc_gen {J : It} {g : TG} {tt : TT} {tk tv : TE} {vs : List Nat} {σ : L2.St} {H1 : Hp} {D : Addr} {Qd : Hp → Prop} (n : Nat) (Acc : Nat → List (Key × V) → Hp → Prop) (gr : ∀ i l H H', Acc i l H → SameX D H H' → Acc i l H') (h0 : Acc 0 [] H1) (nD : H1 D = none) (hl : ∀ i l H, i < n → Acc i l H → l.length < sizeLine)
    (turn : ∀ i l H, i < n → Acc i l H → ∀ (R1 : V → VK) (R2 : Hp → Prop), (∀ k z H4, Same H H4 → Acc (i + 1) (putK l k z) H4 → R1 (kV k) z H4) → (∀ H3, Same H H3 → Acc (i + 1) l H3 → R2 H3) →
      J.go i H ∧ ∀ x H', J.yld i H x H' → g x (wipe σ vs) H' fun σ2 H2 => wipe σ2 vs = wipe σ vs ∧ tt σ2 H2 fun b H3 => if b = true then tk σ2 H3 fun y H4 => tv σ2 H4 (R1 y) else R2 H3)
    (hd : ∀ l H, Acc n l H → H D = some (.dK l) → J.stop n H ∧ Qd H) :
    ∃ W : Nat → Nat → Hp → Prop, (∃ m, W 0 m (upd H1 D (.dK []))) ∧ ∀ i m H, W i m H →
      (J.stop i H ∧ Qd H) ∨ (J.go i H ∧ ∃ Nx : Hp → Prop, (∀ H', Nx H' → ∃ m', m' < m ∧ W (i + 1) m' H') ∧ ∀ x H', J.yld i H x H' → g x (wipe σ vs) H' fun σ2 H2 => wipe σ2 vs = wipe σ vs ∧ tt σ2 H2 fun b H3 =>
        if b = true then tk σ2 H3 fun y H4 => tv σ2 H4 fun z H5 => ∃ kvs k, y = kV k ∧ H5 D = some (.dK kvs) ∧ kvs.length < sizeLine ∧ Nx (upd H5 D (.dK (putK kvs k z))) else Nx H3) := by
  refine dc_go n (fun i H => ∃ l, Acc i l H ∧ H D = some (.dK l)) ⟨[], gr _ _ _ _ h0 (fun b o _ e => by rw [upd_ne (ne_of_none e nD)]; exact e), upd_same⟩ (fun i H hi ⟨l, a, e⟩ => ?_) fun H ⟨l, a, e⟩ => hd l H a e
  exact turn i l H hi a (fun y z H5 => ∃ kvs k, y = kV k ∧ H5 D = some (.dK kvs) ∧ kvs.length < sizeLine ∧ ∃ l, Acc (i + 1) l (upd H5 D (.dK (putK kvs k z))) ∧ (upd H5 D (.dK (putK kvs k z))) D = some (.dK l)) _
    (fun k z H4 s a4 => ⟨l, k, rfl, s _ _ e, hl i l H hi a, putK l k z, gr _ _ _ _ a4 SameX.self', upd_same⟩) fun H3 s a3 => ⟨l, a3, s _ _ e⟩
theorem SqT.sx {K : PySem.W.Frag} {D a : Addr} {H H' : Hp} {xs : List V} (h : SqT K H a xs) (s : SameX D H H') (nD : H D = none) : SqT K H' a xs := by
  rcases h with h | h
  · rcases h with h | ⟨o, h⟩
    · exact .inl (.inl (s _ _ (ne_of_none h nD) h))
    · exact .inl (.inr ⟨o, s _ _ (ne_of_none h nD) h⟩)
  · exact .inr h
theorem SqL.sx {K : PySem.W.Frag} {D a : Addr} {H H' : Hp} {xs : List V} (h : SqL K H a xs) (s : SameX D H H') (nD : H D = none) : SqL K H' a xs := by
  rcases h with h | h
  · rcases h with h | ⟨o, h⟩
    · exact .inl (.inl (s _ _ (ne_of_none h nD) h))
    · exact .inl (.inr ⟨o, s _ _ (ne_of_none h nD) h⟩)
  · exact .inr h
theorem take_filter {α : Type} {p : α → Bool} {L : List α} {i : Nat} {r : α} (h : L[i]? = some r) : (L.take (i + 1)).filter p = if p r = true then (L.take i).filter p ++ [r] else (L.take i).filter p := by
  rw [List.take_add_one, h, List.filter_append]
  show _ ++ List.filter p [r] = _
  by_cases hp : p r = true
  · rw [if_pos hp, List.filter_cons_of_pos hp, List.filter_nil]
  · rw [if_neg hp, List.filter_cons_of_neg hp, List.filter_nil, List.append_nil]
/-- a walk over the items ys, at D the list that is made -/
structure Wlk {α : Type} (J : It) (D : Addr) (H1 : Hp) (it : α → V) (ys : List α) : Prop where
  go : ∀ i H', i < ys.length → SameX D H1 H' → J.go i H'
  yld : ∀ i H' x H2, SameX D H1 H' → J.yld i H' x H2 → H2 = H' ∧ ∀ r, ys[i]? = some r → x = it r
  stop : ∀ H', SameX D H1 H' → J.stop ys.length H'
theorem wlk_tup {α : Type} {K : PySem.W.Frag} {p D : Addr} {H1 : Hp} {it : α → V} {ys : List α} (h : SqT K H1 p (ys.map it)) (nD : H1 D = none) : Wlk (Itt K p) D H1 it ys where
  go := fun i H' hi s => ⟨_, it ys[i], SqT.sx h s nD, by rw [List.getElem?_map, List.getElem?_eq_getElem hi]; rfl⟩
  yld := fun i H' x H2 s ⟨e, f⟩ => ⟨e, fun r hr => by
    have := f _ (SqT.sx h s nD)
    rw [List.getElem?_map, hr] at this
    exact (Option.some.inj this).symm⟩
  stop := fun H' s => ⟨_, SqT.sx h s nD, by rw [List.length_map]; exact Nat.le_refl _⟩
theorem wlk_lst {α : Type} {K : PySem.W.Frag} {p D : Addr} {H1 : Hp} {it : α → V} {ys : List α} (h : SqL K H1 p (ys.map it)) (nD : H1 D = none) : Wlk (Itl K p) D H1 it ys where
  go := fun i H' hi s => ⟨_, it ys[i], SqL.sx h s nD, by rw [List.getElem?_map, List.getElem?_eq_getElem hi]; rfl⟩
  yld := fun i H' x H2 s ⟨e, f⟩ => ⟨e, fun r hr => by
    have := f _ (SqL.sx h s nD)
    rw [List.getElem?_map, hr] at this
    exact (Option.some.inj this).symm⟩
  stop := fun H' s => ⟨_, SqL.sx h s nD, by rw [List.length_map]; exact Nat.le_refl _⟩
/-- [f x for x in ys if p x], the values not new -/
theorem lc_map {α : Type} {J : It} {tt : TT} {te : TE} {a : Nat} {σ : L2.St} {H1 : Hp} {D : Addr} {Qd : Hp → Prop} {it : α → V} {ys : List α} (p : α → Bool) (fv : α → V) (W : Wlk J D H1 it ys) (nD : H1 D = none) (hl : ys.length ≤ 100000) (hw : ∀ x, wipe ((wipe σ [a]).set a x) [a] = wipe σ [a])
    (tst : ∀ x H', x ∈ ys → SameX D H1 H' → ∀ Qc : Bool → Hp → Prop, (∀ H3, Same H' H3 → Qc (p x) H3) → tt ((wipe σ [a]).set a (some (it x))) H' Qc)
    (el : ∀ x H', x ∈ ys → SameX D H1 H' → ∀ Qv : VK, (∀ H3, Same H' H3 → Qv (fv x) H3) → te ((wipe σ [a]).set a (some (it x))) H' Qv)
    (hd : ∀ H', SameX D H1 H' → H' D = some (.lst ((ys.filter p).map fv)) → Qd H') :
    ∃ W : Nat → Nat → Hp → Prop, (∃ m, W 0 m (upd H1 D (.lst []))) ∧ ∀ i m H, W i m H →
      (J.stop i H ∧ Qd H) ∨ (J.go i H ∧ ∃ Nx : Hp → Prop, (∀ H', Nx H' → ∃ m', m' < m ∧ W (i + 1) m' H') ∧ ∀ x H', J.yld i H x H' → (gName a) x (wipe σ [a]) H' fun σ2 H2 => wipe σ2 [a] = wipe σ [a] ∧ tt σ2 H2 fun b H3 =>
        if b = true then te σ2 H3 fun y H4 => ∃ acc, H4 D = some (.lst acc) ∧ acc.length < sizeLine ∧ Nx (upd H4 D (.lst (acc ++ [y]))) else Nx H3) := by
  refine lc_gen ys.length (fun i l H' => l = ((ys.take i).filter p).map fv ∧ SameX D H1 H') (fun i l H2 H3 ⟨e, k⟩ s => ⟨e, k.trans s⟩) ⟨rfl, sx_of (Same.refl H1)⟩ nD (fun i l H2 hi ⟨e, k⟩ => ?_) (fun i l H2 hi ⟨e, k⟩ R1 R2 h1 h2 => ⟨W.go i H2 hi k, fun x H3 y => ?_⟩) fun l H2 ⟨e, k⟩ eD => ⟨W.stop _ k, hd _ k (by rw [eD, e, List.take_length])⟩
  · rw [e, List.length_map]
    have h1 := List.length_filter_le p (ys.take i)
    have h2 := List.length_take_le i ys
    rw [sizeLine_eq]
    omega
  · obtain ⟨e3, ex⟩ := W.yld i H2 x H3 k y
    subst e3
    have ex := ex ys[i] (List.getElem?_eq_getElem hi)
    subst ex
    refine ⟨hw _, tst ys[i] _ (List.getElem_mem hi) k _ fun H4 s4 => ?_⟩
    have tf := take_filter (p := p) (List.getElem?_eq_getElem hi)
    refine ite2 (fun c => ?_) (fun c => ?_)
    · rw [if_pos c] at tf
      refine el ys[i] _ (List.getElem_mem hi) (k.trans (sx_of s4)) _ fun H5 s5 => h1 _ _ (s4.trans s5) ⟨?_, k.trans ((sx_of s4).trans (sx_of s5))⟩
      rw [tf, List.map_append, e]
      rfl
    · rw [if_neg c] at tf
      exact h2 _ s4 ⟨by rw [tf]; exact e, k.trans (sx_of s4)⟩
theorem filt_true {α : Type} (ys : List α) : ys.filter (fun _ => true) = ys := List.filter_eq_self.mpr fun _ _ => rfl
theorem nodup_len {α : Type} [DecidableEq α] : ∀ (l m : List α), l.Nodup → (∀ x ∈ l, x ∈ m) → l.length ≤ m.length
  | [], _, _, _ => Nat.zero_le _
  | x :: l, m, hn, hs => by
    obtain ⟨n1, n2⟩ := List.nodup_cons.mp hn
    have hx : x ∈ m := hs x (by simp)
    have h1 := nodup_len l (m.erase x) n2 fun y hy => (List.mem_erase_of_ne (fun e : y = x => n1 (by rw [← e]; exact hy))).mpr (hs y (by simp [hy]))
    rw [List.length_erase_of_mem hx] at h1
    have : 0 < m.length := List.length_pos_of_mem hx
    rw [List.length_cons]
    omega
theorem Good.nlen {rows : List Str} {nd : Str → List Str} (G : Good rows nd) {r : Str} (hr : r ∈ rows) : (nd r).length ≤ 7 := by
  obtain ⟨rk, D⟩ := G.dag
  exact Nat.le_trans (nodup_len _ _ (G.ndn r hr) (D.sub r hr)) G.len
def rTupOf (K : PySem.W.Frag) : List V → Hp → VK → Prop := fun xs H Q => ∃ p ys, xs = [.ref p] ∧ ((SqL K H p ys ∧ ∀ l, H l = none → Q (.ref l) (upd H l (.tup ys))) ∨ (SqT K H p ys ∧ Q (.ref p) H))
def rLenSeq (K : PySem.W.Frag) : List V → Hp → VK → Prop := fun xs H Q => ∃ p ys, xs = [.ref p] ∧ (SqL K H p ys ∨ SqT K H p ys) ∧ Q (.int ys.length) H
def rListOf (K : PySem.W.Frag) : List V → Hp → VK → Prop := fun xs H Q => ∃ p ys, xs = [.ref p] ∧ (SqL K H p ys ∨ SqT K H p ys) ∧ ∀ l, H l = none → Q (.ref l) (upd H l (.lst ys))
end K19

set_option Elab.async false
set_option linter.all false
set_option maxRecDepth 100000
set_option maxHeartbeats 4000000
/-! Names and numbers. -/
namespace K19
open PySem PySem.Spec PyProof.Rows L2 StX ClX
theorem sc_isName : FnScope ["value", "letter"] ["value"] (defScope sIsName) := ⟨rfl, rfl, rfl, by decide +kernel, rfl, by decide +kernel, by decide +kernel⟩
theorem sc_isInt : FnScope ["value"] ["value"] (defScope sIsInteger) := ⟨rfl, rfl, rfl, by decide +kernel, rfl, by decide +kernel, by decide +kernel⟩
theorem sc_between : FnScope ["value", "least", "most"] ["value", "least", "most"] (defScope sIsBetween) := ⟨rfl, rfl, rfl, by decide +kernel, rfl, by decide +kernel, by decide +kernel⟩
theorem sc_isIndex : FnScope ["value", "size"] ["value", "size"] (defScope sIsIndex) := ⟨rfl, rfl, rfl, by decide +kernel, rfl, by decide +kernel, by decide +kernel⟩
section
variable {P : Program} {w : World} {K : PySem.W.Frag} {mg : Str → Option Value} {base : Heap}
theorem ok_isInt (T : Txt K mg) : FnOk P w K mg base CX0 1 T.isInteger.f T.isInteger.fd ["value"] spIsInt := by
  refine T.isInteger.F.ok sc_isInt (fun vs H Q E h => ?_) (fun cdv A outer s H vs Q E hr h => ?_)
  · obtain ⟨n, rfl, _⟩ := h
    rfl
  · obtain ⟨n, rfl, q⟩ := h
    refine ⟨_, pss_one (ps_ret (pe_and (pe_callB call_isi (by rfl) T.b_isinstance (by decide +kernel) (pa_cons (pv 0) (pa_cons (pe_bltn (v := .ty "int") (by rfl) T.b_int (by decide +kernel) rfl) pa_nil)))
      (pe_one (pe_not (pe_callB call_isi (by rfl) T.b_isinstance (by decide +kernel) (pa_cons (pv 0) (pa_cons (pe_bltn (v := .ty "bool") (by rfl) T.b_bool (by decide +kernel) rfl) pa_nil))))))), ?_⟩
    refine ⟨_, rfl, _, _, _, _, true, rfl, .ty "int", .base (.int n), kit_ty (by decide +kernel), true, rfl, iteT ?_⟩
    exact ⟨_, rfl, _, _, _, _, false, rfl, .ty "bool", .base (.int n), kit_ty (by decide +kernel), _, rfl, q⟩
theorem ok_between (T : Txt K mg) : FnOk P w K mg base CX0 2 T.isBetween.f T.isBetween.fd ["value", "least", "most"] spBetween := by
  have G : FnOk P w K mg base CX0 1 T.isInteger.f T.isInteger.fd ["value"] spIsInt := ok_isInt T
  refine T.isBetween.F.ok sc_between (fun vs H Q E h => ?_) (fun cdv A outer s H vs Q E hr h => ?_)
  · obtain ⟨n, a, b, rfl, _⟩ := h
    rfl
  · obtain ⟨n, a, b, rfl, h1, h2, q⟩ := h
    refine ⟨_, pss_one (ps_ret (pe_and (pe_call G hr (by rfl) T.g_isInteger T.isInteger.F.kp T.bd_isInteger .nil pass0 (pa_cons (pv 0) pa_nil)) (pe_one (pe_chain op_le op_le (pv 1) (pv 0) (pv 2))))), ?_⟩
    refine ⟨_, rfl, n, rfl, true, rfl, iteT ?_⟩
    refine ⟨_, rfl, _, rfl, _, _, rfl, rfl, _, rfl, ?_⟩
    rw [decide_eq_true h1]
    refine iteT ⟨_, rfl, _, _, rfl, rfl, ?_⟩
    show Q (.bl (decide (n ≤ b))) H
    rw [decide_eq_true h2]
    exact q
theorem ok_isIndex (T : Txt K mg) : FnOk P w K mg base CX0 3 T.isIndex.f T.isIndex.fd ["value", "size"] spIsIndex := by
  have G : FnOk P w K mg base CX0 2 T.isBetween.f T.isBetween.fd ["value", "least", "most"] spBetween := ok_between T
  refine T.isIndex.F.ok sc_isIndex (fun vs H Q E h => ?_) (fun cdv A outer s H vs Q E hr h => ?_)
  · obtain ⟨i, n, rfl, _⟩ := h
    rfl
  · obtain ⟨i, n, rfl, h1, h2, q⟩ := h
    refine ⟨_, pss_one (ps_ret (pe_call G hr (by rfl) T.g_isBetween T.isBetween.F.kp T.bd_isBetween .nil pass0 (pa_cons (pv 0) (pa_cons pe_int (pa_cons (pe_op op_sub (pv 1) pe_int) pa_nil))))), ?_⟩
    exact ⟨_, rfl, _, rfl, _, _, rfl, rfl, i, 0, n - 1, rfl, h1, by omega, q⟩
theorem ok_isName (T : Txt K mg) : FnOk P w K mg base CX0 1 T.isName.f T.isName.fd ["value"] spIsName := by
  obtain ⟨tl, gl⟩ := T.gLong
  obtain ⟨tt, gt⟩ := T.gLet
  refine T.isName.F.ok sc_isName (fun vs H Q E h => ?_) (fun cdv A outer s H vs Q E hr h => ?_)
  · obtain ⟨n, rfl, _⟩ := h
    rfl
  · obtain ⟨z, rfl, hn, q⟩ := h
    refine ⟨_, pss_cons (ps_if (PW.pt (pw_or (pt_not (pt_val (pe_callB call_isi (by rfl) T.b_isinstance (by decide +kernel) (pa_cons (pv 0) (pa_cons (pe_bltn (v := .ty "str") (by rfl) T.b_str (by decide +kernel) rfl) pa_nil)))))
        (pw_or1 (pt_not (pt_chain op_le op_le pe_int (pe_callB call_len_str (by rfl) T.b_len PySem.boot_len (pa_cons (pv 0) pa_nil)) (pe_glob (v := .int 8) (by rfl) gl ⟨_, rfl⟩))))))
        (pss_one (ps_ret pe_bl)) pss_nil)
      (pss_one (ps_ret (pe_callB (cr_all rfl) (by rfl) T.b_all (by decide +kernel) (pa_cons
        (pe_lc (own := [("letter", 1)]) (g := gName 1) (by rfl) sc_isName.nd (pi_str (pv 0)) (blkOk_by (own := [("letter", 1)]) (N := ["value", "letter"]) (sc := defScope sIsName) (by decide +kernel))
          (fun _ _ _ _ _ => pg_name (i := 1) sc_isName.nd rfl (Or.inl rfl)) (fun _ _ _ _ _ => pts_nil) (fun _ _ _ _ _ => pe_cmpR op_in_sign (pv 1) (pe_glob (v := .str LET) (by rfl) gt ⟨_, rfl⟩) rfl)) pa_nil)))), ?_⟩
    refine ⟨_, rfl, _, _, _, _, true, rfl, .ty "str", .base (.str z), kit_ty (by decide +kernel), true, rfl, ?_⟩
    refine iteF ⟨_, rfl, z, rfl, Nat.le_of_lt (small1000 (by have := hn.hi; omega)), _, _, rfl, rfl, _, rfl, ?_⟩
    rw [decide_eq_true (show (1 : Int) ≤ (z.length : Nat) by have := hn.lo; omega)]
    refine iteT ⟨_, _, rfl, rfl, _, rfl, ?_⟩
    rw [decide_eq_true (show ((z.length : Nat) : Int) ≤ 8 by have := hn.hi; omega)]
    refine iteF ?_
    refine ⟨_, rfl, z, rfl, fun D nD => lc_go z.cps.size (fun i H' => Same H H' ∧ H' D = some (.lst ((List.replicate i true).map V.bl))) ⟨same_upd nD, upd_same⟩ (fun i H' hi ⟨sm, e⟩ => ⟨hi, fun x H2 ⟨e2, c, hc, ex⟩ => ?_⟩) fun H' ⟨sm, e⟩ => ⟨Nat.le_refl _, ?_⟩⟩
    · subst e2 ex
      refine ⟨rfl, _, rfl, c, LET, rfl, rfl, ?_⟩
      have hm : c ∈ LET.cps.toList := hn.ok c (by
        rw [Array.mem_toList_iff]
        exact Array.mem_of_getElem? hc)
      rw [decide_eq_true hm]
      have hz : z.cps.size ≤ 8 := hn.hi
      refine ⟨_, e, by rw [List.length_map, List.length_replicate]; exact small1000 (by omega), fun b o hb => ?_, ?_⟩
      · rw [upd_ne (ne_of_none hb nD)]
        exact sm _ _ hb
      · rw [upd_same, List.replicate_succ', List.map_append]
        rfl
    · refine ⟨D, _, rfl, SqL.of e, ?_⟩
      have : (List.replicate z.cps.size true).all id = true := by simp
      rw [this]
      exact q _ sm
end
end K19

set_option Elab.async false
set_option linter.all false
set_option maxRecDepth 100000
set_option maxHeartbeats 4000000
/-! The sorted one. -/
namespace K19
open PySem PySem.Spec PyProof.Rows L2 StX ClX
def leS (a b : Str) : Prop := a.cps.toList ≤ b.cps.toList
theorem leS_anti {a b : Str} (h : leS a b) (h2 : leS b a) : a = b := by
  have e : a.cps.toList = b.cps.toList := List.le_antisymm h h2
  have e2 : a.cps = b.cps := by
    have := congrArg List.toArray e
    simpa using this
  cases a; cases b
  simp at e2
  rw [e2]
theorem rising_pw : ∀ (l : List Str) (p : Str), risingS p l = true → (p :: l).Pairwise leS
  | [], p, _ => by simp
  | x :: r, p, h => by
    have h1 : ltCps x.cps.toList p.cps.toList = false ∧ risingS x r = true := by
      have : (!ltCps x.cps.toList p.cps.toList && risingS x r) = true := h
      simpa using this
    have ih := rising_pw r x h1.2
    have hpx : leS p x := by
      have e := h1.1
      rw [ltCps_eq] at e
      exact of_decide_eq_false e
    refine List.pairwise_cons.mpr ⟨fun y hy => ?_, ih⟩
    rcases List.mem_cons.mp hy with e | hy
    · subst e; exact hpx
    · exact List.le_trans hpx ((List.pairwise_cons.mp ih).1 y hy)
theorem sortedS_pw (l : List Str) (h : sortedS l = true) : l.Pairwise leS := by
  cases l with
  | nil => simp
  | cons x r => exact rising_pw r x h
theorem sorted_uniq : ∀ (l m : List Str), l.Perm m → l.Pairwise leS → m.Pairwise leS → l = m
  | [], m, h, _, _ => by rw [List.nil_perm.mp h]
  | x :: l, [], h, _, _ => by simp at h
  | x :: l, y :: m, h, hl, hm => by
    have e : x = y := by
      obtain ⟨h1, _⟩ := List.pairwise_cons.mp hl
      obtain ⟨h2, _⟩ := List.pairwise_cons.mp hm
      have hy : y ∈ x :: l := h.mem_iff.mpr (by simp)
      have hx : x ∈ y :: m := h.mem_iff.mp (by simp)
      rcases List.mem_cons.mp hy with e | hy
      · exact e.symm
      · rcases List.mem_cons.mp hx with e | hx
        · exact e
        · exact leS_anti (h1 y hy) (h2 x hx)
    subst e
    rw [sorted_uniq l m (List.perm_cons x |>.mp h) (List.pairwise_cons.mp hl).2 (List.pairwise_cons.mp hm).2]
theorem srt_eq {xs ys : List Str} (h : ys.Perm xs) (hs : sortedS ys = true) : srt xs = ys := by
  have ex : ∃ ys : List Str, ys.Perm xs ∧ sortedS ys = true := ⟨ys, h, hs⟩
  unfold srt
  rw [dif_pos ex]
  obtain ⟨h1, h2⟩ := Classical.choose_spec ex
  exact sorted_uniq _ _ (h1.trans h.symm) (sortedS_pw _ h2) (sortedS_pw _ hs)
theorem srt_ex (xs : List Str) : ∃ ys : List Str, ys.Perm xs ∧ sortedS ys = true := by
  refine ⟨xs.mergeSort (fun a b => decide (a.cps.toList ≤ b.cps.toList)), List.mergeSort_perm _ _, ?_⟩
  refine sortedS_of_pairwise _ ?_
  have h := List.pairwise_mergeSort (le := fun a b : Str => decide (a.cps.toList ≤ b.cps.toList)) (fun a b c h1 h2 => decide_eq_true (List.le_trans (of_decide_eq_true h1) (of_decide_eq_true h2)))
    (fun a b => by
      rcases List.le_total a.cps.toList b.cps.toList with h | h
      · simp [h]
      · simp [h]) xs
  refine h.imp fun {a b} hab => ?_
  rw [ltCps_eq]
  exact decide_eq_false (of_decide_eq_true hab)
theorem srt_perm (xs : List Str) : (srt xs).Perm xs := by
  obtain ⟨ys, h1, h2⟩ := srt_ex xs
  rw [srt_eq h1 h2]
  exact h1
theorem srt_sorted (xs : List Str) : sortedS (srt xs) = true := by
  obtain ⟨ys, h1, h2⟩ := srt_ex xs
  rw [srt_eq h1 h2]
  exact h2
theorem srt_of_perm {xs ys : List Str} (h : xs.Perm ys) : srt xs = srt ys := (srt_eq ((srt_perm ys).trans h.symm) (srt_sorted ys))
theorem srt_srt (xs : List Str) : srt (srt xs) = srt xs := srt_of_perm (srt_perm xs)
theorem mem_srt {x : Str} {xs : List Str} : x ∈ srt xs ↔ x ∈ xs := (srt_perm xs).mem_iff
end K19

set_option Elab.async false
set_option linter.all false
set_option maxRecDepth 100000
set_option maxHeartbeats 4000000
/-! Rings. -/
namespace K19
open PySem PySem.Spec PyProof.Rows L2 StX ClX
theorem yld_items {d : Addr} {o : Obj} {f : Str → V} {L : List Str} {i : Nat} {H H' : Hp} {x : V} {r : Str} (h : (Iti d o (L.map fun r => (kS r, f r))).yld i H x H') (hr : L[i]? = some r) : ∃ T, x = .ref T ∧ H T = none ∧ H' = upd H T (.tup [.str r, f r]) := by
  obtain ⟨T, k, v, e, ex, n, eH⟩ := h
  rw [List.getElem?_map, hr] at e
  have e2 := Option.some.inj e
  have e3 : kS r = k := congrArg Prod.fst e2
  have e4 : f r = v := congrArg Prod.snd e2
  subst e3 e4
  exact ⟨T, ex, n, eH⟩
/-- d stands locked, all else grows -/
structure Lk (d : Addr) (od : Obj) (u : HO) (H H' : Hp) : Prop where
  sx : SameX d H H'
  at_ : H' d = some (.frz od u)
theorem Lk.gr {d D : Addr} {od : Obj} {u : HO} {H H1 H2 : Hp} (h : Lk d od u H H1) (nD : (upd H d (.frz od u)) D = none) (s : SameX D H1 H2) : Lk d od u H H2 := by
  obtain ⟨f1, f2⟩ := free_upd nD
  exact ⟨fun b o hb e => s _ _ (ne_of_none e f1) (h.sx b o hb e), s _ _ f2.symm h.at_⟩
theorem Lk.same {d : Addr} {od : Obj} {u : HO} {H H1 H2 : Hp} (h : Lk d od u H H1) (s : Same H1 H2) : Lk d od u H H2 := ⟨fun b o hb e => s _ _ (h.sx b o hb e), s _ _ h.at_⟩
theorem Lk.new {d : Addr} {od : Obj} {u : HO} {H : Hp} : Lk d od u H (upd H d (.frz od u)) := ⟨(sx_of (Same.refl H)).self, upd_same⟩
section
variable {K : PySem.W.Frag} {σ : L2.St} {H : Hp} {Q : VK} {sl a b : Nat} {d : Addr} {L : List Str} {f : Str → V} {p : Str → Bool} {tt : TT}
/-- [name for name, v in d.items() if ..] -/
theorem rd_items (hs : σ[sl]? = some (some (.ref d))) (hd : H d = some (.dK (L.map fun r => (kS r, f r)))) (hl : L.length ≤ 7)
    (hw : ∀ x y, wipe (((wipe σ [a, b]).set a x).set b y) [a, b] = wipe σ [a, b]) (ga : ∀ x y, (((wipe σ [a, b]).set a x).set b y)[a]? = some x)
    (tst : ∀ (r : Str) (H' : Hp) (od : Obj), r ∈ L → Lk d od (.dK (L.map fun r => (kS r, f r))) H H' → ∀ Qc : Bool → Hp → Prop, (∀ H3, Same H' H3 → Qc (p r) H3) → tt (((wipe σ [a, b]).set a (some (.str r))).set b (some (f r))) H' Qc)
    (q : ∀ H' D, Same H H' → H D = none → H' D = some (.lst (ST (L.filter p))) → Q (.ref D) H') :
    tLockE (tLc (iItems (tVar sl)) (gTup K 2 (gCons (gName a) (gCons (gName b) gNil))) tt (tVar a) [a, b]) σ H Q := by
  refine ⟨d, _, hd, True.intro, fun od => ⟨_, hs, d, od, _, rfl, upd_same, fun D nD => ?_⟩⟩
  refine lc_gen L.length (fun i l H' => l = ST ((L.take i).filter p) ∧ Lk d od (.dK (L.map fun r => (kS r, f r))) H H') (fun i l H1 H2 ⟨e, k⟩ s => ⟨e, k.gr nD s⟩) ⟨rfl, Lk.new⟩ nD (fun i l H1 hi ⟨e, k⟩ => ?_) (fun i l H1 hi ⟨e, k⟩ R1 R2 h1 h2 => ⟨⟨k.at_, kv_at hi⟩, fun x H2 y => ?_⟩) fun l H1 ⟨e, k⟩ eD => ⟨⟨k.at_, by rw [List.length_map]; exact Nat.le_refl _⟩, ?_⟩
  · rw [e, ST_len]
    exact small7 (Nat.le_trans (List.length_filter_le _ _) (Nat.le_trans (List.length_take_le _ _) (by omega)))
  · obtain ⟨T0, ex, nT, eH⟩ := yld_items y (List.getElem?_eq_getElem hi)
    subst ex eH
    have sT : Same H1 (upd H1 T0 (.tup [.str L[i], f L[i]])) := same_upd nT
    refine ⟨T0, _, rfl, SqT.of upd_same, rfl, _, _, rfl, _, _, rfl, rfl, hw _ _, ?_⟩
    refine tst L[i] _ od (List.getElem_mem hi) (k.same sT) _ fun H3 s3 => ?_
    have tf := take_filter (p := p) (List.getElem?_eq_getElem hi)
    refine ite2 (fun c => ?_) (fun c => ?_)
    · rw [if_pos c] at tf
      refine ⟨_, ga _ _, h1 _ _ (sT.trans s3) ⟨?_, k.same (sT.trans s3)⟩⟩
      rw [tf, ST_snoc, e]
    · rw [if_neg c] at tf
      exact h2 _ (sT.trans s3) ⟨by rw [tf]; exact e, k.same (sT.trans s3)⟩
  · obtain ⟨f1, f2⟩ := free_upd nD
    refine ⟨k.at_, q _ D (k.sx.back hd) f1 ?_⟩
    rw [upd_ne f2, eD, e, List.take_length]
/-- {name: v for name, v in d.items() if ..} -/
theorem rd_itemsD (hs : σ[sl]? = some (some (.ref d))) (hd : H d = some (.dK (L.map fun r => (kS r, f r)))) (hl : L.length ≤ 7) (hn : L.Nodup)
    (hw : ∀ x y, wipe (((wipe σ [a, b]).set a x).set b y) [a, b] = wipe σ [a, b]) (ga : ∀ x y, (((wipe σ [a, b]).set a x).set b y)[a]? = some x) (gb : ∀ x y, (((wipe σ [a, b]).set a x).set b y)[b]? = some y)
    (tst : ∀ (r : Str) (H' : Hp) (od : Obj), r ∈ L → Lk d od (.dK (L.map fun r => (kS r, f r))) H H' → ∀ Qc : Bool → Hp → Prop, (∀ H3, Same H' H3 → Qc (p r) H3) → tt (((wipe σ [a, b]).set a (some (.str r))).set b (some (f r))) H' Qc)
    (q : ∀ H' D, Same H H' → H D = none → H' D = some (.dK ((L.filter p).map fun r => (kS r, f r))) → Q (.ref D) H') :
    tLockE (tDc (iItems (tVar sl)) (gTup K 2 (gCons (gName a) (gCons (gName b) gNil))) tt (tVar a) (tVar b) [a, b]) σ H Q := by
  refine ⟨d, _, hd, True.intro, fun od => ⟨_, hs, d, od, _, rfl, upd_same, fun D nD => ?_⟩⟩
  refine dc_gen L.length (fun i l H' => l = ((L.take i).filter p).map (fun r => (kS r, f r)) ∧ Lk d od (.dK (L.map fun r => (kS r, f r))) H H') (fun i l H1 H2 ⟨e, k⟩ s => ⟨e, k.gr nD s⟩) ⟨rfl, Lk.new⟩ nD (fun i l H1 hi ⟨e, k⟩ => ?_) (fun i l H1 hi ⟨e, k⟩ R1 R2 h1 h2 => ⟨⟨k.at_, kv_at hi⟩, fun x H2 y => ?_⟩) fun l H1 ⟨e, k⟩ eD => ⟨⟨k.at_, by rw [List.length_map]; exact Nat.le_refl _⟩, ?_⟩
  · rw [e, List.length_map]
    exact small7 (Nat.le_trans (List.length_filter_le _ _) (Nat.le_trans (List.length_take_le _ _) (by omega)))
  · obtain ⟨T0, ex, nT, eH⟩ := yld_items y (List.getElem?_eq_getElem hi)
    subst ex eH
    have sT : Same H1 (upd H1 T0 (.tup [.str L[i], f L[i]])) := same_upd nT
    refine ⟨T0, _, rfl, SqT.of upd_same, rfl, _, _, rfl, _, _, rfl, rfl, hw _ _, ?_⟩
    refine tst L[i] _ od (List.getElem_mem hi) (k.same sT) _ fun H3 s3 => ?_
    have tf := take_filter (p := p) (List.getElem?_eq_getElem hi)
    refine ite2 (fun c => ?_) (fun c => ?_)
    · rw [if_pos c] at tf
      refine ⟨_, ga _ _, _, gb _ _, h1 (kS L[i]) _ _ (sT.trans s3) ⟨?_, k.same (sT.trans s3)⟩⟩
      have hnot : L[i] ∉ (L.take i).filter p := fun hm => by
        obtain ⟨j, hj, ej⟩ := List.mem_iff_getElem.mp (List.mem_filter.mp hm).1
        rw [List.length_take] at hj
        rw [List.getElem_take] at ej
        have := (List.getElem_inj (h₀ := by omega) (h₁ := hi) hn).mp ej
        omega
      rw [tf, e, putK_new_mapf hnot]
    · rw [if_neg c] at tf
      exact h2 _ (sT.trans s3) ⟨by rw [tf]; exact e, k.same (sT.trans s3)⟩
  · obtain ⟨f1, f2⟩ := free_upd nD
    refine ⟨k.at_, q _ D (k.sx.back hd) f1 ?_⟩
    rw [upd_ne f2, eD, e, List.take_length]
end
theorem sc_unfin : FnScope ["needs", "left", "ready", "name", "others", "other"] ["needs"] (defScope sUnfinished) := ⟨rfl, rfl, rfl, by decide +kernel, rfl, by decide +kernel, by decide +kernel⟩
theorem sc_ring : FnScope ["needs", "left", "walk", "following", "other"] ["needs"] (defScope sRingIn) := ⟨rfl, rfl, rfl, by decide +kernel, rfl, by decide +kernel, by decide +kernel⟩
section
variable {P : Program} {w : World} {K : PySem.W.Frag} {mg : Str → Option Value} {base : Heap}
theorem ok_unfin (T : Txt K mg) : FnOk P w K mg base CX0 1 T.unfinished.f T.unfinished.fd ["needs"] spUnfin := by
  refine T.unfinished.F.ok sc_unfin (fun vs H Q E h => ?_) (fun cdv A outer s H vs Q E hr h => ?_)
  · obtain ⟨d, rows, nd, rfl, _⟩ := h
    rfl
  · obtain ⟨d, rows, nd, rfl, ⟨t, hd, ht⟩, G, q⟩ := h
    refine ⟨_, (pss_cons (ps_set (i := 1) sc_unfin.nd rfl (.inr rfl) (pe_callTy call_dictD (by rfl) T.b_dict bb_dict (pa_cons (pv 0) pa_nil)))
      (pss_cons (ps_set (i := 2) sc_unfin.nd rfl (.inr rfl) (pe_lock (pe_lc (own := [("name", 3), ("others", 4)]) (g := (gTup K 2 (gCons (gName 3) (gCons (gName 4) gNil)))) (by rfl) sc_unfin.nd (pi_items (pv 1)) (blkOk_by (own := [("name", 3), ("others", 4)]) (N := ["needs", "left", "ready", "name", "others", "other"]) (sc := defScope sUnfinished) (by decide +kernel)) (fun _ _ _ _ _ => (pg_tup rfl (pgs_cons (pg_name (i := 3) sc_unfin.nd rfl (.inl rfl)) (pgs_cons (pg_name (i := 4) sc_unfin.nd rfl (.inl rfl)) pgs_nil)))) (fun _ _ _ _ _ => (pts_one (pt_cmpR (show OpR _ _ (rEqD K) from (op_eqD hr.units)) (pv 4) (pe_tup pa_nil) (nomark _)))) (fun _ _ _ _ _ => (pv 3)))))
      (pss_cons (ps_while PassesOwn.never (pt_cmpR (op_neD hr.units) (pv 2) (pe_lst pa_nil) (nomark _))
        (pss_cons (ps_set (i := 1) sc_unfin.nd rfl (.inr rfl) (pe_lock (pe_dc (own := [("name", 3), ("others", 4)]) (g := (gTup K 2 (gCons (gName 3) (gCons (gName 4) gNil)))) (by rfl) sc_unfin.nd (pi_items (pv 1)) (blkOk_by (own := [("name", 3), ("others", 4)]) (N := ["needs", "left", "ready", "name", "others", "other"]) (sc := defScope sUnfinished) (by decide +kernel)) (fun _ _ _ _ _ => (pg_tup rfl (pgs_cons (pg_name (i := 3) sc_unfin.nd rfl (.inl rfl)) (pgs_cons (pg_name (i := 4) sc_unfin.nd rfl (.inl rfl)) pgs_nil)))) (fun _ _ _ _ _ => (pts_one (pt_cmpR (show OpR _ _ (rIn K true) from op_notIn_seq) (pv 3) (pv 2) (by rfl)))) (fun _ _ _ _ _ => (pv 3)) (fun _ _ _ _ _ => (pv 4)))))
      (pss_one (ps_set (i := 2) sc_unfin.nd rfl (.inr rfl) (pe_lock (pe_lc (own := [("name", 3), ("others", 4)]) (g := (gTup K 2 (gCons (gName 3) (gCons (gName 4) gNil)))) (by rfl) sc_unfin.nd (pi_items (pv 1)) (blkOk_by (own := [("name", 3), ("others", 4)]) (N := ["needs", "left", "ready", "name", "others", "other"]) (sc := defScope sUnfinished) (by decide +kernel)) (fun _ _ _ _ _ => (pg_tup rfl (pgs_cons (pg_name (i := 3) sc_unfin.nd rfl (.inl rfl)) (pgs_cons (pg_name (i := 4) sc_unfin.nd rfl (.inl rfl)) pgs_nil)))) (fun _ _ _ _ _ => (pts_one (pt_not (pt_val (pe_callB (show CallR _ _ (rAny K) from (cr_any rfl)) (by rfl) T.b_any bb_any (pa_cons (pe_lc (wi := iTup K (tVar 4)) (own := [("other", 5)]) (g := (gName 5)) (by rfl) sc_unfin.nd (pi_tup (pv 4)) (blkOk_by (own := [("other", 5)]) (N := ["needs", "left", "ready", "name", "others", "other"]) (by kernel_rfl)) (fun _ _ _ _ _ => (pg_name (i := 5) sc_unfin.nd rfl (.inl rfl))) (fun _ _ _ _ _ => pts_nil) (fun _ _ _ _ _ => (pe_cmp (pc_din (hu_of hr) (pv 5) (pv 1)) rfl))) pa_nil)))))) (fun _ _ _ _ _ => (pv 3))))))))
      (pss_one (ps_ret (pv 1)))))), ?_⟩
    obtain ⟨rk, D0⟩ := G.dag
    refine ⟨_, rfl, d, _, rfl, .inl hd, fun dl nl => ?_⟩
    have s1 : Same H (upd H dl (.dK (rows.map fun r => (kS r, V.ref (t r))))) := same_upd nl
    have e1 : (upd H dl (.dK (rows.map fun r => (kS r, V.ref (t r))))) dl = some (.dK (rows.map fun r => (kS r, V.ref (t r)))) := upd_same
    generalize upd H dl (.dK (rows.map fun r => (kS r, V.ref (t r)))) = H1 at s1 e1
    have neq : ∀ {Hx : Hp} {dx : Addr} {kv}, Same H Hx → Hx dx = some (.dK kv) → ∀ r ∈ rows, t r ≠ dx := fun {Hx dx kv} sx ex r hr => ne_of (sx _ _ (ht r hr)) ex (by intro z; cases z)
    -- ready = [..]
    refine rd_items (p := fun x => decide (nd x = [])) rfl e1 G.len (fun _ _ => rfl) (fun _ _ => rfl) (fun r H' od hr0 k Qc hq => ?_) fun H2 rl s2 nrl e2 => ?_
    · refine ⟨_, rfl, Nat.zero_le _, fun e ne => ?_⟩
      have ett := k.sx _ _ (neq s1 e1 r hr0) (s1 _ _ (ht r hr0))
      have se := same_upd (o := .tup []) ne
      refine ⟨_, _, .tup (SqT.of (se _ _ ett)) (dpAll_ST _), .tup (SqT.of upd_same) .nil, shaped_tup fun z hz => G.names z (D0.sub _ hr0 z hz), rfl, _, rfl, ?_⟩
      rw [eqv_nil_t]
      exact hq _ se
    -- while
    have hr0 : rows.filter (fun x => decide (nd x = [])) = readyOf nd rows := by
      unfold readyOf
      refine List.filter_congr fun x hx => ?_
      by_cases c : nd x = []
      · simp [c]
      · obtain ⟨o, r, e⟩ := List.exists_cons_of_ne_nil c
        have : o ∈ rows := D0.sub x hx o (by rw [e]; simp)
        simp [e, this]
    refine ⟨fun m σ H' => ∃ L dl rl, σ = [some (.ref d), some (.ref dl), some (.ref rl), none, none, none] ∧ Same H H' ∧ H' dl = some (.dK (L.map fun r => (kS r, V.ref (t r)))) ∧ H' rl = some (.lst (ST (readyOf nd L))) ∧ (∀ x ∈ L, x ∈ rows) ∧ L.Nodup ∧ L.length ≤ 7 ∧ m = L.length,
      ⟨rows.length, rows, dl, rl, rfl, s1.trans s2, s2 _ _ e1, by rw [← hr0]; exact e2, fun x hx => hx, D0.nd, G.len, rfl⟩, ?_⟩
    clear e2 s2 nrl e1 s1 neq hr0 H1 H2 rl dl nl
    rintro m σ H1 ⟨L, dl, rl, rfl, s1, e1, e2, hsub, hnd, hlen, rfl⟩
    refine ⟨_, rfl, Nat.zero_le _, fun e ne => ?_⟩
    have se := same_upd (o := .lst []) ne
    refine ⟨_, _, .lst (SqL.of (se _ _ e2)) (dpAll_ST _), .lst (SqL.of upd_same) .nil, shaped_lst fun z hz => G.names z (hsub _ (List.mem_filter.mp hz).1), rfl, _, rfl, ?_⟩
    rw [eqv_nil_l]
    have s3 := s1.trans se
    have e13 := se _ _ e1
    have e23 := se _ _ e2
    generalize upd H1 e (.lst []) = H3 at s3 e13 e23
    by_cases c : readyOf nd L = []
    · rw [decide_eq_true c]
      have hL := ready_nil D0 hsub c
      subst hL
      exact iteF ⟨_, rfl, q H3 dl s3 e13⟩
    · rw [decide_eq_false c]
      refine iteT ⟨fun σ' H' => ∃ m', m' < L.length ∧ ∃ L dl rl, σ' = [some (.ref d), some (.ref dl), some (.ref rl), none, none, none] ∧ Same H H' ∧ H' dl = some (.dK (L.map fun r => (kS r, V.ref (t r)))) ∧ H' rl = some (.lst (ST (readyOf nd L))) ∧ (∀ x ∈ L, x ∈ rows) ∧ L.Nodup ∧ L.length ≤ 7 ∧ m' = L.length, fun σ' H' h => h, ?_⟩
      refine rd_itemsD (p := fun x => !decide (x ∈ readyOf nd L)) rfl e13 hlen hnd (fun _ _ => rfl) (fun _ _ => rfl) (fun _ _ => rfl) (fun r H' od hr0 k Qc hq => ?_) fun H4 dl2 s4 nd2 e4 => ?_
      · have er := k.sx _ _ (ne_of e13 e23 (by intro z; cases z)).symm e23
        refine ⟨_, rfl, _, rfl, rl, _, rfl, .inl (SqL.of er), rfl, flat_ST _, _, rfl, ?_⟩
        show Qc (!inV (.str r) (ST (readyOf nd L))) H'
        rw [inV_ST]
        exact hq _ (Same.refl _)
      have hsub4 : ∀ x ∈ L.filter (fun x => !decide (x ∈ readyOf nd L)), x ∈ rows := fun x hx => hsub x (List.mem_filter.mp hx).1
      have hlt : (L.filter (fun x => !decide (x ∈ readyOf nd L))).length < L.length := by
        obtain ⟨y, r, e⟩ := List.exists_cons_of_ne_nil c
        exact peel_lt (y := y) (by rw [e]; simp)
      have hnd4 : (L.filter (fun x => !decide (x ∈ readyOf nd L))).Nodup := hnd.filter _
      generalize L.filter (fun x => !decide (x ∈ readyOf nd L)) = L2 at e4 hsub4 hlt hnd4
      refine rd_items (p := fun x => !(nd x).any fun o => decide (o ∈ L2)) rfl e4 (by omega) (fun _ _ => rfl) (fun _ _ => rfl) (fun r H' od hr0 k Qc hq => ?_) fun H5 rl2 s5 nr2 e5 => ?_
      · have hrr := hsub4 r hr0
        have s14 := s3.trans s4
        have ett := k.sx _ _ (ne_of (s14 _ _ (ht r hrr)) e4 (by intro z; cases z)) (s14 _ _ (ht r hrr))
        refine ⟨_, rfl, t r, rfl, ⟨_, SqT.of ett⟩, fun D nD => lc_map (it := V.str) (ys := nd r) (fun _ => true) (fun o => .bl (decide (o ∈ L2))) (wlk_tup (SqT.of ett) nD) nD ?_ (fun _ => rfl) (fun x H6 hx sx Qc hq => hq _ (Same.refl _)) (fun x H6 hx sx Qv hq => ?_) fun H6 sx eD => ?_⟩
        · have := G.nlen hrr
          omega
        · have el := sx _ _ (ne_of_none k.at_ nD) k.at_
          refine ⟨_, rfl, _, rfl, dl2, _, rfl, .inl ⟨_, kS x, .inr ⟨_, el⟩, rfl, rfl⟩, ?_⟩
          rw [valV_mapf]
          have : (if x ∈ L2 then some (V.ref (t x)) else none).isSome = decide (x ∈ L2) := by
            by_cases c : x ∈ L2 <;> simp [c]
          rw [this]
          exact hq _ (Same.refl _)
        · refine ⟨D, (nd r).map (fun o => decide (o ∈ L2)), rfl, SqL.of (by rw [eD, filt_true, List.map_map]; rfl), _, rfl, ?_⟩
          rw [List.any_map]
          exact hq _ fun b o e => sx _ _ (ne_of_none e nD) e
      · exact ⟨L2.length, hlt, L2, dl2, rl2, rfl, s3.trans (s4.trans s5), s5 _ _ e4, e5, hsub4, hnd4, by omega, rfl⟩
theorem ok_ring (T : Txt K mg) : FnOk P w K mg base CX0 2 T.ringIn.f T.ringIn.fd ["needs"] spRing := by
  have G_unfinished : FnOk P w K mg base CX0 1 T.unfinished.f T.unfinished.fd ["needs"] spUnfin := ok_unfin T
  refine T.ringIn.F.ok sc_ring (fun vs H Q E h => ?_) (fun cdv A outer s H vs Q E hr h => ?_)
  · obtain ⟨d, rows, nd, rfl, _⟩ := h
    rfl
  · obtain ⟨d, rows, nd, rfl, hd, G, q⟩ := h
    refine ⟨_, (pss_cons (ps_set (i := 1) sc_ring.nd rfl (.inr rfl) (pe_call G_unfinished (hr.mono (by decide)) (by rfl) T.g_unfinished T.unfinished.F.kp T.bd_unfinished .nil pass0 (pa_cons (pv 0) pa_nil)))
      (pss_cons (ps_set (i := 2) sc_ring.nd rfl (.inl rfl) (pe_slice sl_list (pe_callTy (call_list_dK rfl) (by rfl) T.b_list bb_list (pa_cons (pv 1) pa_nil)) po_none (po_some pe_int)))
      (pss_cons (ps_while PassesOwn.never (pt_cmpR (op_neD hr.units) (pv 2) (pe_lst pa_nil) (nomark _)) (pss_cons ps_never (pss_cons ps_never (pss_one ps_never))))
      (pss_one (ps_ret pe_non))))), ?_⟩
    refine ⟨_, rfl, d, rows, nd, rfl, hd, G, fun H1 dl s1 e1 => ?_⟩
    refine ⟨_, rfl, dl, _, rfl, e1, fun l nl => ?_⟩
    have s2 := same_upd (o := .lst ([].map fun kv : Key × V => kV kv.1)) nl
    refine ⟨_, rfl, l, _, rfl, SqL.of upd_same, fun l2 nl2 => ?_⟩
    have s3 := same_upd (o := .lst (cutV ([].map fun kv : Key × V => kV kv.1) none (some 1))) nl2
    refine ⟨fun m σ H' => ∃ l2, σ = [some (.ref d), some (.ref dl), some (.ref l2), none, none] ∧ Same H H' ∧ H' l2 = some (.lst []), ⟨0, l2, rfl, s1.trans (s2.trans s3), upd_same⟩, ?_⟩
    rintro m σ H3 ⟨l3, rfl, s4, e4⟩
    refine ⟨_, rfl, Nat.zero_le _, fun e ne => ?_⟩
    have se := same_upd (o := .lst []) ne
    refine ⟨_, _, .lst (SqL.of (se _ _ e4)) .nil, .lst (SqL.of upd_same) .nil, rfl, rfl, _, rfl, ?_⟩
    exact iteF (q _ (s4.trans se))
end
end K19

set_option Elab.async false
set_option linter.all false
set_option maxRecDepth 100000
set_option maxHeartbeats 4000000
/-! A sheet's texts, its properties. -/
namespace K19
open PySem PySem.Spec PyProof.Rows L2 StX ClX
theorem sc_srows : FnScope ["self"] ["self"] (defScope sSRows) := ⟨rfl, rfl, rfl, by decide +kernel, rfl, by decide +kernel, by decide +kernel⟩
theorem sc_sneeds : FnScope ["self"] ["self"] (defScope sSNeeds) := ⟨rfl, rfl, rfl, by decide +kernel, rfl, by decide +kernel, by decide +kernel⟩
theorem sc_rowtext : FnScope ["name", "needed"] ["name", "needed"] (defScope sRowText) := ⟨rfl, rfl, rfl, by decide +kernel, rfl, by decide +kernel, by decide +kernel⟩
theorem sc_shtext : FnScope ["sheet", "needs", "name"] ["sheet"] (defScope sSheetText) := ⟨rfl, rfl, rfl, by decide +kernel, rfl, by decide +kernel, by decide +kernel⟩
theorem lk_names {n d o : Addr} {z : Str} : (shF n d o z).lookup ("names" : Str) = some (.ref n) := rfl
section
variable {P : Program} {w : World} {K : PySem.W.Frag} {mg : Str → Option Value} {base : Heap}
theorem ok_srows (T : Txt K mg) : FnOk P w K mg base CX0 1 T.sRows.f T.sRows.fd ["self"] (spRows T.CS) := by
  refine T.sRows.F.ok sc_srows (fun vs H Q E h => ?_) (fun cdv A outer s H vs Q E hr h => ?_)
  · obtain ⟨s, dx, fs, n, rfl, _⟩ := h
    rfl
  · obtain ⟨s, dx, fs, n, rfl, hs, hl, q⟩ := h
    exact ⟨_, (pss_one (ps_ret (pe_fld (pv 0) rfl))), _, rfl, s, T.CS, dx, fs, _, rfl, hs, T.clS, T.n_names, hl, q⟩
theorem ok_sneeds (T : Txt K mg) : FnOk P w K mg base CX0 1 T.sNeeds.f T.sNeeds.fd ["self"] (spNeeds T.CS) := by
  refine T.sNeeds.F.ok sc_sneeds (fun vs H Q E h => ?_) (fun cdv A outer s H vs Q E hr h => ?_)
  · obtain ⟨s, dx, fs, d, kvs, rfl, _⟩ := h
    rfl
  · obtain ⟨s, dx, fs, d, kvs, rfl, hs, hl, hd, q⟩ := h
    exact ⟨_, (pss_one (ps_ret (pe_callTy call_dictD (by rfl) T.b_dict bb_dict (pa_cons (pe_fld (pv 0) rfl) pa_nil)))), _, rfl, s, T.CS, dx, fs, _, rfl, hs, T.clS, T.n_direct, hl, d, kvs, rfl, .inl hd, q⟩
theorem sum_le {b : Nat} : ∀ xs : List Str, (∀ x ∈ xs, x.length ≤ b) → (xs.map (·.length)).sum ≤ b * xs.length
  | [], _ => Nat.zero_le _
  | x :: xs, h => by
    have h1 := sum_le xs fun y hy => h y (by simp [hy])
    have h2 := h x (by simp)
    rw [List.map_cons, List.sum_cons, List.length_cons, Nat.mul_succ]
    show x.length + _ ≤ _
    omega
theorem app_len (a b : Str) : (a ++ b).length = a.length + b.length := by
  show (a.cps ++ b.cps).size = _
  rw [Array.size_append]
  rfl
theorem ok_rowtext (T : Txt K mg) : FnOk P w K mg base CX0 1 T.rowText.f T.rowText.fd ["name", "needed"] spRowText := by
  refine T.rowText.F.ok sc_rowtext (fun vs H Q E h => ?_) (fun cdv A outer s H vs Q E hr h => ?_)
  · obtain ⟨s, t, xs, rfl, _⟩ := h
    rfl
  · obtain ⟨z, t, xs, rfl, hz, ht, hx, hl, q⟩ := h
    refine ⟨_, (pss_one (ps_ret (pe_ifExp (pt_cmpR (op_neD hr.units) (pv 1) (pe_tup pa_nil) (nomark _)) (pe_join pe_str (pe_lst (pa_cons (pe_joined (.cons (pe_fmt (pv 0)) (.cons pe_str .nil))) (pa_star (pv 1) pa_nil)))) (pv 0)))), ?_⟩
    refine ⟨_, rfl, Nat.zero_le _, fun e ne => ?_⟩
    have se := same_upd (o := .tup []) ne
    refine ⟨_, _, .tup (SqT.of (se _ _ ht)) (dpAll_ST _), .tup (SqT.of upd_same) .nil, shaped_tup hx, rfl, _, rfl, ?_⟩
    rw [eqv_nil_t]
    by_cases c : xs = []
    · rw [decide_eq_true c]
      exact iteF ⟨_, rfl, q _ _ se (by have := hz.hi; omega)⟩
    · rw [decide_eq_false c]
      have h8 := hz.hi
      have e0 : (Str.empty ++ z).length = z.length := by rw [app_len]; exact Nat.zero_add _
      have e1 : ((Str.empty ++ z) ++ Str.ofString ":").length = z.length + 1 := by rw [app_len, e0]; rfl
      have hsum := sum_le (b := 8) xs fun x h => (hx x h).hi
      refine iteT ⟨⟨_, rfl⟩, _, rfl, .inl ⟨z, rfl, Nat.le_of_lt (small1000 (by omega)), z, rfl, Nat.le_of_lt (small1000 (by omega)), ?_⟩⟩
      refine ⟨Str.ofString ":", rfl, Nat.le_of_lt (small1000 (by omega)), _, rfl, t, ST xs, rfl, .inl (SqT.of (se _ _ ht)), ?_⟩
      refine ⟨?_, fun l nl => ⟨_, l, ((Str.empty ++ z) ++ Str.ofString ":") :: xs, rfl, rfl, .inl (SqL.of ?_), ?_, ?_⟩⟩
      · have : (V.str ((Str.empty ++ z) ++ Str.ofString ":") :: (ST xs ++ [])).length = xs.length + 1 := by simp
        rw [this]
        exact Nat.le_of_lt (small1000 (by omega))
      · rw [upd_same, List.append_nil]
        rfl
      · rw [List.map_cons, List.sum_cons, e1, List.length_cons]
        show _ + (xs.length + 1) * 1 ≤ _
        omega
      · refine q _ _ (se.trans (same_upd nl)) ?_
        unfold Txt.join
        rw [size_glued, List.map_cons, List.sum_cons, e1]
        show _ + (xs.length + 1 - 1) * 1 ≤ _
        omega
theorem ok_shtext (T : Txt K mg) : FnOk P w K mg base CX0 3 T.sheetText.f T.sheetText.fd ["sheet"] (spSheetText T.CS) := by
  have G_sRows : FnOk P w K mg base CX0 1 T.sRows.f T.sRows.fd ["self"] (spRows T.CS) := ok_srows T
  have G_sNeeds : FnOk P w K mg base CX0 1 T.sNeeds.f T.sNeeds.fd ["self"] (spNeeds T.CS) := ok_sneeds T
  have G_rowText : FnOk P w K mg base CX0 1 T.rowText.f T.rowText.fd ["name", "needed"] spRowText := ok_rowtext T
  refine T.sheetText.F.ok sc_shtext (fun vs H Q E h => ?_) (fun cdv A outer s H vs Q E hr h => ?_)
  · obtain ⟨s, dx, fs, n, d, rows, nd, rfl, _⟩ := h
    rfl
  · obtain ⟨s, dx, fs, n, d, rows, nd, rfl, hs, hn, hdd, eN, ⟨t, eD, hT⟩, G, q⟩ := h
    refine ⟨_, (pss_cons (ps_set (i := 1) sc_shtext.nd rfl (.inr rfl) (pe_prop (pv 0) T.clS T.propN G_sNeeds (hr.mono (by decide)) T.bd_sNeeds .nil pass0 rfl))
      (pss_one (ps_ret (pe_join pe_str (pe_lc (own := [("name", 2)]) (g := (gName 2)) (by rfl) sc_shtext.nd (pi_tup (pe_prop (pv 0) T.clS T.propR G_sRows (hr.mono (by decide)) T.bd_sRows .nil pass0 rfl)) (blkOk_by (own := [("name", 2)]) (N := ["sheet", "needs", "name"]) (sc := defScope sSheetText) (by decide +kernel)) (fun _ _ _ _ _ => (pg_name (i := 2) sc_shtext.nd rfl (.inl rfl))) (fun _ _ _ _ _ => pts_nil) (fun _ _ _ _ _ => (pe_call G_rowText (hr.mono (by decide)) (by rfl) T.g_rowText T.rowText.F.kp T.bd_rowText .nil pass0 (pa_cons (pv 2) (pa_cons (pe_dget (hu_of hr) (pv 1) (pv 2) (fun _ _ => rfl)) pa_nil))))))))), ?_⟩
    refine ⟨_, rfl, s, dx, fs, rfl, hs, s, dx, fs, d, _, rfl, hs, hdd, eD, fun p np => ?_⟩
    have s1 := same_upd (o := .dK (rows.map fun r => (kS r, V.ref (t r)))) np
    have ep : (upd H p (.dK (rows.map fun r => (kS r, V.ref (t r))))) p = _ := upd_same
    generalize upd H p (.dK (rows.map fun r => (kS r, V.ref (t r)))) = H1 at s1 ep
    refine ⟨⟨_, rfl⟩, _, rfl, s, dx, fs, rfl, s1 _ _ hs, s, dx, fs, n, rfl, s1 _ _ hs, hn, n, rfl, ⟨_, SqT.of (s1 _ _ eN)⟩, fun D nD => ?_⟩
    refine lc_gen rows.length (fun i l H' => SameX D H1 H' ∧ ∃ zs : List Str, l = ST zs ∧ zs.length = i ∧ ∀ z ∈ zs, z.length ≤ 100) (fun i l H2 H3 ⟨k, e⟩ s => ⟨k.trans s, e⟩) ⟨sx_of (Same.refl H1), [], rfl, rfl, fun z hz => by cases hz⟩ nD (fun i l H2 hi ⟨k, zs, e, e2, e3⟩ => ?_) (fun i l H2 hi ⟨k, zs, e, e2, e3⟩ R1 R2 h1 h2 => ?_) fun l H2 ⟨k, zs, e, e2, e3⟩ eL => ?_
    · rw [e, ST_len, e2]
      have := G.len
      exact small1000 (by omega)
    · have W := wlk_tup (K := K) (it := V.str) (ys := rows) (SqT.of (s1 _ _ eN)) nD
      refine ⟨W.go i H2 hi k, fun x H3 y => ?_⟩
      obtain ⟨e4, ex⟩ := W.yld i H2 x H3 k y
      subst e4
      have ex := ex rows[i] (List.getElem?_eq_getElem hi)
      subst ex
      have hr0 : rows[i] ∈ rows := List.getElem_mem hi
      refine ⟨rfl, _, rfl, _, rfl, _, rfl, p, _, rfl, by rw [← valV_in_mapf (f := fun r => V.ref (t r)) hr0]; exact DGet.k (k := kS rows[i]) (k _ _ (ne_of_none ep nD) ep), ?_⟩
      refine ⟨rows[i], t rows[i], nd rows[i], rfl, G.names _ hr0, k _ _ (ne_of_none (s1 _ _ (hT _ hr0)) nD) (s1 _ _ (hT _ hr0)), fun z hz => ?_, G.nlen hr0, fun H4 z s4 hz => ?_⟩
      · obtain ⟨rk, D0⟩ := G.dag
        exact G.names z (D0.sub _ hr0 z hz)
      · refine h1 _ _ s4 ⟨k.trans (sx_of s4), zs ++ [z], by rw [e, ST_snoc], by simp [e2], fun y hy => ?_⟩
        rcases List.mem_append.mp hy with h | h
        · exact e3 y h
        · simp at h; subst h; exact hz
    · have W := wlk_tup (K := K) (it := V.str) (ys := rows) (SqT.of (s1 _ _ eN)) nD
      refine ⟨W.stop _ k, _, D, zs, rfl, rfl, .inl (SqL.of (by rw [eL, e])), ?_, q _ _ (s1.trans fun b o eb => k _ _ (ne_of_none eb nD) eb)⟩
      have := sum_le (b := 100) zs e3
      have h7 := G.len
      rw [e2] at this ⊢
      show _ + rows.length * 1 ≤ _
      omega
end
end K19

set_option Elab.async false
set_option linter.all false
set_option maxRecDepth 100000
set_option maxHeartbeats 4000000
/-! Rows and needs looked at. -/
namespace K19
open PySem PySem.Spec PyProof.Rows L2 StX ClX
theorem sc_first : FnScope ["rows", "index", "name"] ["rows"] (defScope sFirstWrong) := ⟨rfl, rfl, rfl, by decide +kernel, rfl, by decide +kernel, by decide +kernel⟩
theorem sc_areneeds : FnScope ["rows", "value", "name"] ["rows", "value"] (defScope sAreNeeds) := ⟨rfl, rfl, rfl, by decide +kernel, rfl, by decide +kernel, by decide +kernel⟩
theorem sc_needrows : FnScope ["rows", "wrong"] ["rows"] (defScope sNeedRows) := ⟨rfl, rfl, rfl, by decide +kernel, rfl, by decide +kernel, by decide +kernel⟩
theorem sc_needneeds : FnScope ["rows", "needs", "name", "others"] ["rows", "needs"] (defScope sNeedNeeds) := ⟨rfl, rfl, rfl, by decide +kernel, rfl, by decide +kernel, by decide +kernel⟩
theorem cut_to {xs : List V} {i : Nat} (h : i ≤ xs.length) : cutV xs none (some (i : Int)) = xs.take i := by
  unfold cutV
  rw [HT.sIx_nat, HT.sIx_none, Nat.min_eq_left h]
  show (xs.drop 0).take (i - 0) = _
  rw [List.drop_zero, Nat.sub_zero]
theorem cut_from {xs : List V} {i : Nat} (h : i ≤ xs.length) : cutV xs (some (i : Int)) none = xs.drop i := by
  unfold cutV
  rw [HT.sIx_nat, HT.sIx_none, Nat.min_eq_left h]
  show (xs.drop i).take (xs.length - i) = _
  exact List.take_of_length_le (by rw [List.length_drop]; exact Nat.le_refl _)
theorem not_in_take {rows : List Str} (hn : rows.Nodup) {i : Nat} (hi : i < rows.length) : rows[i] ∉ rows.take i := fun hm => by
  obtain ⟨j, hj, ej⟩ := List.mem_iff_getElem.mp hm
  rw [List.length_take] at hj
  rw [List.getElem_take] at ej
  have := (List.getElem_inj (h₀ := by omega) (h₁ := hi) hn).mp ej
  omega
/-- enumerate over a sequence of texts -/
structure Enm (J : It) (S : Hp → Prop) (ys : List Str) : Prop where
  go : ∀ i H', i < ys.length → S H' → J.go i H'
  yld : ∀ i H' x H2, S H' → J.yld i H' x H2 → ∀ r, ys[i]? = some r → ∃ T, x = .ref T ∧ H' T = none ∧ H2 = upd H' T (.tup [.int (i : Nat), .str r])
  stop : ∀ H', S H' → J.stop ys.length H'
theorem enm_lst {K : PySem.W.Frag} {a : Addr} {ys : List Str} : Enm (Ite K a) (fun H => SqL K H a (ST ys)) ys where
  go := fun i H' hi h => ⟨_, .str ys[i], h, by rw [List.getElem?_map, List.getElem?_eq_getElem hi]; rfl⟩
  yld := fun i H' x H2 h ⟨T, z, e, n, eH, f⟩ r hr => by
    have := f _ h
    rw [List.getElem?_map, hr] at this
    have := Option.some.inj this
    subst this
    exact ⟨T, e, n, eH⟩
  stop := fun H' h => ⟨_, h, by rw [ST_len]; exact Nat.le_refl _⟩
theorem enm_tup {K : PySem.W.Frag} {a : Addr} {ys : List Str} : Enm (IteT K a) (fun H => SqT K H a (ST ys)) ys where
  go := fun i H' hi h => ⟨_, .str ys[i], h, by rw [List.getElem?_map, List.getElem?_eq_getElem hi]; rfl⟩
  yld := fun i H' x H2 h ⟨T, z, e, n, eH, f⟩ r hr => by
    have := f _ h
    rw [List.getElem?_map, hr] at this
    have := Option.some.inj this
    subst this
    exact ⟨T, e, n, eH⟩
  stop := fun H' h => ⟨_, h, by rw [ST_len]; exact Nat.le_refl _⟩
theorem same_T {K : PySem.W.Frag} {H H' : Hp} {a : Addr} {xs : List V} (h : SqT K H a xs) (s : Same H H') : SqT K H' a xs := by
  rcases h with h | h
  · rcases h with h | ⟨o, h⟩
    · exact .inl (.inl (s _ _ h))
    · exact .inl (.inr ⟨o, s _ _ h⟩)
  · exact .inr h
section
variable {K : PySem.W.Frag} {σ : L2.St} {H : Hp} {a : Addr} {ys : List Str} {sl : Nat}
theorem rd_forEn {g : TG} {tb : TS} {D : Ends} (hs : σ[sl]? = some (some (.ref a))) (hS : SqS K H a (ST ys)) (Pv : Nat → L2.St → Hp → Prop) (h0 : Pv 0 σ H) (keep : ∀ i σ' H', Pv i σ' H' → Same H H')
    (turn : ∀ i σ1 H1 T (hi : i < ys.length), Pv i σ1 H1 → H1 T = none → g (.ref T) σ1 (upd H1 T (.tup [.int (i : Nat), .str ys[i]])) fun σ2 H2 => tb { D with nx := Pv (i + 1), ct := Pv (i + 1), bk := D.nx } σ2 H2) (hd : ∀ σ1 H1, Pv ys.length σ1 H1 → D.nx σ1 H1) :
    tFor (fun σ H R => iEnum K (tCons (tVar sl) tNil) σ H R ∨ iEnumT K (tCons (tVar sl) tNil) σ H R) g tb D σ H := by
  rcases hS with h | h
  · refine .inl ⟨_, hs, a, _, rfl, h, for_go ys.length Pv h0 (fun i σ1 H1 hi p => ⟨enm_lst.go i H1 hi ((keep _ _ _ p).seq h), fun x H2 y => ?_⟩) fun σ1 H1 p => ⟨enm_lst.stop H1 ((keep _ _ _ p).seq h), hd σ1 H1 p⟩⟩
    obtain ⟨T, ex, n, eH⟩ := enm_lst.yld i H1 x H2 ((keep _ _ _ p).seq h) y ys[i] (List.getElem?_eq_getElem hi)
    subst ex eH
    exact turn i σ1 H1 T hi p n
  · refine .inr ⟨_, hs, a, _, rfl, h, for_go ys.length Pv h0 (fun i σ1 H1 hi p => ⟨enm_tup.go i H1 hi (same_T h (keep _ _ _ p)), fun x H2 y => ?_⟩) fun σ1 H1 p => ⟨enm_tup.stop H1 (same_T h (keep _ _ _ p)), hd σ1 H1 p⟩⟩
    obtain ⟨T, ex, n, eH⟩ := enm_tup.yld i H1 x H2 (same_T h (keep _ _ _ p)) y ys[i] (List.getElem?_eq_getElem hi)
    subst ex eH
    exact turn i σ1 H1 T hi p n
/-- {name: .. for name in rows}, rows of either kind -/
theorem rd_dcS {Q : VK} {b : Nat} {tv : TE} (hs : σ[sl]? = some (some (.ref a))) (hS : SqS K H a (ST ys)) (hl : ys.length ≤ 7) (hw : ∀ x, wipe ((wipe σ [b]).set b x) [b] = wipe σ [b]) (gb : ∀ x, ((wipe σ [b]).set b x)[b]? = some x)
    (Acc : Addr → Nat → List (Key × V) → Hp → Prop) (gr : ∀ D i l H1 H2, Acc D i l H1 → SameX D H1 H2 → Acc D i l H2) (h0 : ∀ D, H D = none → Acc D 0 [] H) (hn : ∀ D i l H1, Acc D i l H1 → l.length ≤ i) (sx : ∀ D i l H1, Acc D i l H1 → SameX D H H1)
    (turn : ∀ D i l H1 (hi : i < ys.length), H D = none → Acc D i l H1 → H1 D = some (.dK l) → ∀ R : VK, (∀ z H4, Same H1 H4 → Acc D (i + 1) (putK l (kS ys[i]) z) H4 → R z H4) → tv ((wipe σ [b]).set b (some (.str ys[i]))) H1 R)
    (hd : ∀ D l H1, H D = none → Acc D ys.length l H1 → H1 D = some (.dK l) → Q (.ref D) H1) :
    tDc (fun σ H R => iList K (tVar sl) σ H R ∨ iTup K (tVar sl) σ H R) (gName b) tYes (tVar b) tv [b] σ H Q := by
  have main : ∀ (J : It) (D : Addr), H D = none → Wlk J D H V.str ys → ∃ W : Nat → Nat → Hp → Prop, (∃ m, W 0 m (upd H D (.dK []))) ∧ ∀ i m H, W i m H →
      (J.stop i H ∧ Q (.ref D) H) ∨ (J.go i H ∧ ∃ Nx : Hp → Prop, (∀ H', Nx H' → ∃ m', m' < m ∧ W (i + 1) m' H') ∧ ∀ x H', J.yld i H x H' → (gName b) x (wipe σ [b]) H' fun σ2 H2 => wipe σ2 [b] = wipe σ [b] ∧ tYes σ2 H2 fun c H3 =>
        if c = true then (tVar b) σ2 H3 fun y H4 => tv σ2 H4 fun z H5 => ∃ kvs k, y = kV k ∧ H5 D = some (.dK kvs) ∧ kvs.length < sizeLine ∧ Nx (upd H5 D (.dK (putK kvs k z))) else Nx H3) := fun J D nD W =>
    dc_genD ys.length (Acc D) (gr D) (h0 D nD) nD (fun i l H1 hi e => small7 (Nat.le_trans (hn _ _ _ _ e) (by omega))) (fun i l H1 hi e eD R1 R2 h1 h2 => ⟨W.go i H1 hi (sx _ _ _ _ e), fun x H2 y => by
      obtain ⟨e2, ex⟩ := W.yld i H1 x H2 (sx _ _ _ _ e) y
      subst e2
      have ex := ex ys[i] (List.getElem?_eq_getElem hi)
      subst ex
      exact ⟨hw _, _, gb _, turn D i l _ hi nD e eD _ fun z H4 s4 e4 => h1 _ z H4 s4 e4⟩⟩) fun l H1 e eD => ⟨W.stop _ (sx _ _ _ _ e), hd D l H1 nD e eD⟩
  rcases hS with h | h
  · exact .inl ⟨_, hs, a, rfl, ⟨_, h⟩, fun D nD => main _ D nD (wlk_lst h nD)⟩
  · exact .inr ⟨_, hs, a, rfl, ⟨_, h⟩, fun D nD => main _ D nD (wlk_tup h nD)⟩
/-- {name: .. for index, name in enumerate(rows)}, the values not new -/
theorem rd_dcEn {Q : VK} {b c : Nat} (hs : σ[sl]? = some (some (.ref a))) (hS : SqS K H a (ST ys)) (hl : ys.length ≤ 7) (hnd : ys.Nodup) (hw : ∀ x y, wipe (((wipe σ [b, c]).set b x).set c y) [b, c] = wipe σ [b, c]) (gb : ∀ x y, (((wipe σ [b, c]).set b x).set c y)[b]? = some x) (gc : ∀ x y, (((wipe σ [b, c]).set b x).set c y)[c]? = some y)
    (hd : ∀ D H1, H D = none → Same H H1 → H1 D = some (.dK (idxD ys)) → Q (.ref D) H1) :
    tDc (fun σ H R => iEnum K (tCons (tVar sl) tNil) σ H R ∨ iEnumT K (tCons (tVar sl) tNil) σ H R) (gTup K 2 (gCons (gName b) (gCons (gName c) gNil))) tYes (tVar c) (tVar b) [b, c] σ H Q := by
  have main : ∀ (J : It) (S : Hp → Prop) (D : Addr), H D = none → Enm J S ys → (∀ H', SameX D H H' → S H') → ∃ W : Nat → Nat → Hp → Prop, (∃ m, W 0 m (upd H D (.dK []))) ∧ ∀ i m H, W i m H →
      (J.stop i H ∧ Q (.ref D) H) ∨ (J.go i H ∧ ∃ Nx : Hp → Prop, (∀ H', Nx H' → ∃ m', m' < m ∧ W (i + 1) m' H') ∧ ∀ x H', J.yld i H x H' → (gTup K 2 (gCons (gName b) (gCons (gName c) gNil))) x (wipe σ [b, c]) H' fun σ2 H2 => wipe σ2 [b, c] = wipe σ [b, c] ∧ tYes σ2 H2 fun q H3 =>
        if q = true then (tVar c) σ2 H3 fun y H4 => (tVar b) σ2 H4 fun z H5 => ∃ kvs k, y = kV k ∧ H5 D = some (.dK kvs) ∧ kvs.length < sizeLine ∧ Nx (upd H5 D (.dK (putK kvs k z))) else Nx H3) := fun J S D nD W hSx =>
    dc_gen ys.length (fun i l H' => SameX D H H' ∧ l = (ys.take i).map fun r => (kS r, V.int (pos ys r : Nat))) (fun i l H1 H2 ⟨k, e⟩ s => ⟨k.trans s, e⟩) ⟨sx_of (Same.refl H), rfl⟩ nD (fun i l H1 hi ⟨k, e⟩ => by
      rw [e, List.length_map]
      exact small7 (Nat.le_trans (List.length_take_le _ _) (by omega))) (fun i l H1 hi ⟨k, e⟩ R1 R2 h1 h2 => ⟨W.go i H1 hi (hSx _ k), fun x H2 y => by
      obtain ⟨T0, ex, nT, eH⟩ := W.yld i H1 x H2 (hSx _ k) y ys[i] (List.getElem?_eq_getElem hi)
      subst ex eH
      have sT := same_upd (o := .tup [.int (i : Nat), .str ys[i]]) nT
      refine ⟨T0, _, rfl, SqT.of upd_same, rfl, _, _, rfl, _, _, rfl, rfl, hw _ _, _, gc _ _, _, gb _ _, h1 (kS ys[i]) _ _ sT ⟨k.trans (sx_of sT), ?_⟩⟩
      have ep : pos ys ys[i] = i := hnd.idxOf_getElem i hi
      have hno := not_in_take hnd hi
      have := putK_new_mapf (f := fun r => V.int (pos ys r : Nat)) hno
      simp only [ep] at this
      rw [e, this, List.take_add_one, List.getElem?_eq_getElem hi]
      rfl⟩) fun l H1 ⟨k, e⟩ eD => ⟨W.stop _ (hSx _ k), hd D H1 nD (fun b o eb => k _ _ (ne_of_none eb nD) eb) (by rw [eD, e, List.take_length]; rfl)⟩
  rcases hS with h | h
  · exact .inl ⟨_, hs, a, _, rfl, h, fun D nD => main _ _ D nD enm_lst fun H' s => SqL.sx h s nD⟩
  · exact .inr ⟨_, hs, a, _, rfl, h, fun D nD => main _ _ D nD enm_tup fun H' s => SqT.sx h s nD⟩
/-- xs[:i] of either kind -/
theorem rd_cutTo {Q : VK} {sj i : Nat} (hs : σ[sl]? = some (some (.ref a))) (hj : σ[sj]? = some (some (.int (i : Nat)))) (hS : SqS K H a (ST ys)) (hi : i < ys.length) (q : ∀ H2 p, Same H H2 → SqS K H2 p (ST (ys.take i)) → Q (.ref p) H2) :
    tSl (rSlL K) (tVar sl) tNoPart (tPart (tVar sj)) σ H Q ∨ tSl (rSlT K) (tVar sl) tNoPart (tPart (tVar sj)) σ H Q := by
  have e : cutV (ST ys) none (some (i : Int)) = ST (ys.take i) := by
    rw [cut_to (by rw [ST_len]; omega)]
    exact (List.map_take ..).symm
  rcases hS with h | h
  · refine .inl ⟨_, hs, _, hj, _, rfl, a, _, rfl, h, fun p np => q _ p (same_upd np) (.inl (SqL.of (by rw [upd_same, e])))⟩
  · refine .inr ⟨_, hs, _, hj, _, rfl, a, _, rfl, h, ?_, fun p np => q _ p (same_upd np) (.inr (SqT.of (by rw [upd_same, e])))⟩
    rintro ⟨_, h2⟩
    rw [HT.sIx_nat, ST_len] at h2
    omega
end
section
variable {P : Program} {w : World} {K : PySem.W.Frag} {mg : Str → Option Value} {base : Heap}
theorem ok_first (T : Txt K mg) : FnOk P w K mg base CX0 2 T.firstWrong.f T.firstWrong.fd ["rows"] (spFirstWrong K) := by
  have G_isName : FnOk P w K mg base CX0 1 T.isName.f T.isName.fd ["value"] spIsName := ok_isName T
  obtain ⟨tl, gLim⟩ := T.gLimit
  refine T.firstWrong.F.ok sc_first (fun vs H Q E h => ?_) (fun cdv A outer s H vs Q E hr h => ?_)
  · obtain ⟨a, rows, rfl, _⟩ := h
    rfl
  · obtain ⟨a, rows, rfl, hS, hN, hl, hnd, q⟩ := h
    refine ⟨_, (pss_cons (ps_for PassesOwn.never rfl (pi_alt (pi_enum (by rfl) T.b_enumerate (pa_cons (pv 0) pa_nil)) (pi_enumT (by rfl) T.b_enumerate (pa_cons (pv 0) pa_nil))) (pg_tup rfl (pgs_cons (pg_name (i := 1) sc_first.nd rfl (.inl rfl)) (pgs_cons (pg_name (i := 2) sc_first.nd rfl (.inl rfl)) pgs_nil)))
        (pss_one (ps_if (PW.pt (pw_or (pt_cmpR op_eq (pv 1) (pe_glob (v := .int 60) (by rfl) gLim ⟨_, rfl⟩) (nomark _)) (pw_or (pt_not (pt_val (pe_call G_isName (hr.mono (by decide)) (by rfl) T.g_isName T.isName.F.kp T.bd_isName .nil pass0 (pa_cons (pv 2) pa_nil)))) (pw_or1 (pt_cmpR op_in_seq (pv 2) (pe_alt (pe_slice sl_list (pv 0) po_none (po_some (pv 1))) (pe_slice sl_tup (pv 0) po_none (po_some (pv 1)))) (by rfl))))))
        (pss_one (ps_ret (pv 1)))
        pss_nil)))
      (pss_one (ps_ret pe_non))), ?_⟩
    refine rd_forEn rfl hS (fun i σ' H' => ∃ y z, σ' = [some (.ref a), y, z] ∧ Same H H') ⟨none, none, rfl, Same.refl H⟩ (fun i σ' H' ⟨y, z, _, s⟩ => s) (fun i σ1 H1 T0 hi ⟨y, z, eσ, s1⟩ nT => ?_) fun σ1 H1 ⟨y, z, eσ, s1⟩ => q H1 s1
    subst eσ
    have hr0 : rows[i] ∈ rows := List.getElem_mem hi
    have sT := same_upd (o := .tup [.int (i : Nat), .str rows[i]]) nT
    refine ⟨T0, _, rfl, SqT.of upd_same, rfl, _, _, rfl, _, _, rfl, rfl, ?_⟩
    refine ⟨_, rfl, rfl, _, rfl, ?_⟩
    have hne : decide (V.int (i : Nat) = V.int 60) = false := decide_eq_false fun z => by
      have := V.int.inj z
      omega
    rw [hne]
    refine iteF ⟨_, rfl, rows[i], rfl, hN _ hr0, fun H2 s2 => ⟨true, rfl, ?_⟩⟩
    refine iteF ⟨_, rfl, rd_cutTo (i := i) rfl rfl (SqS.same (SqS.same hS (s1.trans sT)) s2) hi fun H3 p s3 h3 => ⟨p, _, rfl, h3, rfl, flat_ST _, _, rfl, ?_⟩⟩
    show (if inV (.str rows[i]) (ST (rows.take i)) = true then _ else _)
    rw [inV_ST, decide_eq_false (not_in_take hnd hi)]
    exact iteF ⟨_, _, rfl, s1.trans (sT.trans (s2.trans s3))⟩
theorem ok_areneeds (T : Txt K mg) : FnOk P w K mg base CX0 2 T.areNeeds.f T.areNeeds.fd ["rows", "value"] (spAreNeeds K) := by
  have G_isName : FnOk P w K mg base CX0 1 T.isName.f T.isName.fd ["value"] spIsName := ok_isName T
  refine T.areNeeds.F.ok sc_areneeds (fun vs H Q E h => ?_) (fun cdv A outer s H vs Q E hr h => ?_)
  · obtain ⟨a, t, rows, xs, rfl, _⟩ := h
    rfl
  · obtain ⟨a, t, rows, xs, rfl, hS, ht, hx, hl, hl2, hnd, q⟩ := h
    refine ⟨_, (pss_cons (ps_if (PW.pt (pw_or (pt_not (pt_val (pe_callB call_isi (by rfl) T.b_isinstance bb_isinstance (pa_cons (pv 1) (pa_cons (pe_bltn (v := .ty "tuple") (by rfl) T.b_tuple bb_tuple rfl) pa_nil))))) (pw_or1 (pt_not (pt_val (pe_callB (cr_all rfl) (by rfl) T.b_all bb_all (pa_cons (pe_lc (own := [("name", 2)]) (g := (gName 2)) (by rfl) sc_areneeds.nd (pi_tup (pv 1)) (blkOk_by (own := [("name", 2)]) (N := ["rows", "value", "name"]) (sc := defScope sAreNeeds) (by decide +kernel)) (fun _ _ _ _ _ => (pg_name (i := 2) sc_areneeds.nd rfl (.inl rfl))) (fun _ _ _ _ _ => pts_nil) (fun _ _ _ _ _ => (pe_and (pe_call G_isName (hr.mono (by decide)) (by rfl) T.g_isName T.isName.F.kp T.bd_isName .nil pass0 (pa_cons (pv 2) pa_nil)) (pe_one (pe_cmpR (show OpR _ _ (rIn K false) from op_in_seq) (pv 2) (pv 0) (by rfl)))))) pa_nil)))))))
        (pss_one (ps_ret pe_bl))
        pss_nil)
      (pss_one (ps_ret (pe_cmpR op_eq (pe_lenSetN rfl (by rfl) T.b_len (by rfl) T.b_set (pv 1)) (pe_callB call_len_seq (by rfl) T.b_len PySem.boot_len (pa_cons (pv 1) pa_nil)) (nomark _))))), ?_⟩
    refine ⟨_, rfl, _, _, _, _, true, rfl, .ty "tuple", .base (.tup ht), kit_ty (by decide +kernel), true, rfl, ?_⟩
    refine iteF ⟨_, rfl, t, rfl, ⟨_, SqT.of ht⟩, fun D nD => lc_map (it := V.str) (ys := xs) (fun _ => true) (fun _ => .bl true) (wlk_tup (SqT.of ht) nD) nD (by omega) (fun _ => rfl) (fun x H6 hx sx Qc hq => hq _ (Same.refl _)) (fun x H6 hx2 sx Qv hq => ?_) fun H6 sx eD => ?_⟩
    · refine ⟨_, rfl, x, rfl, (hx x hx2).1, fun H7 s7 => ⟨true, rfl, iteT ?_⟩⟩
      have hS6 : SqS K H6 a (ST rows) := hS.elim (fun h => .inl (SqL.sx h sx nD)) (fun h => .inr (SqT.sx h sx nD))
      refine ⟨_, rfl, _, rfl, a, _, rfl, SqS.same hS6 s7, rfl, flat_ST _, ?_⟩
      show Qv (.bl (inV (.str x) (ST rows))) H7
      rw [inV_ST, decide_eq_true (hx x hx2).2]
      exact hq _ s7
    · have s6 : Same H H6 := fun b o e => sx _ _ (ne_of_none e nD) e
      refine ⟨D, xs.map (fun _ => true), rfl, SqL.of (by rw [eD, filt_true, List.map_map]; rfl), true, ?_, ?_⟩
      · rw [List.all_map]
        simp
      · refine iteF ⟨_, rfl, t, xs, rfl, SqT.of (s6 _ _ ht), by omega, hnd, _, rfl, t, _, rfl, .inr (SqT.of (s6 _ _ ht)), rfl, ?_⟩
        rw [ST_len, decide_eq_true rfl]
        exact q _ s6
theorem tyx_S {H : Hp} {a : Addr} {xs : List V} (h : SqS K H a xs) : ∃ t, TyX K H (.ref a) t ∧ PySem.W.kitAny K t [.type "tuple", .type "list"] = some true := by
  have hl : PySem.W.kitAny K (.type "list") [.type "tuple", .type "list"] = some true := kitAny_cons (b := false) (kit_ty (by decide +kernel)) (fun _ => kitAny_cons (b := true) (kit_ty (by decide +kernel)) (fun z => nomatch z) fun _ => rfl) fun z => nomatch z
  have ht : PySem.W.kitAny K (.type "tuple") [.type "tuple", .type "list"] = some true := kitAny_cons (b := true) (kit_ty (by decide +kernel)) (fun z => nomatch z) fun _ => rfl
  rcases h with h | h
  · refine ⟨_, ?_, hl⟩
    rcases h with h | ⟨o, its, n, e, c, _⟩
    · rcases h with h | ⟨o, h⟩
      · exact .base (.lst h)
      · exact .base (.frz h)
    · exact .kList e c
  · refine ⟨_, ?_, ht⟩
    rcases h with h | ⟨o, its, n, e, c, _⟩
    · rcases h with h | ⟨o, h⟩
      · exact .base (.tup h)
      · exact .fTuple h
    · exact .kTuple e c
theorem ok_needrows (T : Txt K mg) : FnOk P w K mg base CX0 3 T.needRows.f T.needRows.fd ["rows"] (spFirstWrong K) := by
  have G_firstWrong : FnOk P w K mg base CX0 2 T.firstWrong.f T.firstWrong.fd ["rows"] (spFirstWrong K) := ok_first T
  refine T.needRows.F.ok sc_needrows (fun vs H Q E h => ?_) (fun cdv A outer s H vs Q E hr h => ?_)
  · obtain ⟨a, rows, rfl, _⟩ := h
    rfl
  · obtain ⟨a, rows, rfl, hS, hN, hl, hnd, q⟩ := h
    refine ⟨_, (pss_cons (ps_if (pt_not (pt_val (pe_callB call_isiT (by rfl) T.b_isinstance bb_isinstance (pa_cons (pv 0) (pa_cons (pe_tup (pa_cons (pe_bltn (v := .ty "tuple") (by rfl) T.b_tuple bb_tuple rfl) (pa_cons (pe_bltn (v := .ty "list") (by rfl) T.b_list bb_list rfl) pa_nil))) pa_nil)))))
        (pss_one ps_never)
        pss_nil)
      (pss_cons (ps_set (i := 1) sc_needrows.nd rfl (.inl rfl) (pe_call G_firstWrong (hr.mono (by decide)) (by rfl) T.g_firstWrong T.firstWrong.F.kp T.bd_firstWrong .nil pass0 (pa_cons (pv 0) pa_nil)))
      (pss_one (ps_if (pt_cmpR op_notN (pv 1) pe_non (nomark _))
        (pss_one ps_never)
        pss_nil)))), ?_⟩
    refine ⟨_, rfl, by show 2 ≤ sizeLine; decide, fun t nt => ?_⟩
    have st := same_upd (o := .tup [.ty "tuple", .ty "list"]) nt
    obtain ⟨ty, h1, h2⟩ := tyx_S (SqS.same hS st)
    refine ⟨_, t, _, ty, _, true, rfl, upd_same, .cons (.ty _) (.cons (.ty _) .nil), h1, h2, true, rfl, ?_⟩
    refine iteF ⟨_, rfl, a, rows, rfl, SqS.same hS st, hN, hl, hnd, fun H2 s2 => ?_⟩
    refine ⟨_, rfl, rfl, _, rfl, ?_⟩
    exact iteF (q _ (st.trans s2))
theorem ok_needneeds (T : Txt K mg) : FnOk P w K mg base CX0 3 T.needNeeds.f T.needNeeds.fd ["rows", "needs"] (spNeedNeeds K) := by
  have G_areNeeds : FnOk P w K mg base CX0 2 T.areNeeds.f T.areNeeds.fd ["rows", "value"] (spAreNeeds K) := ok_areneeds T
  refine T.needNeeds.F.ok sc_needneeds (fun vs H Q E h => ?_) (fun cdv A outer s H vs Q E hr h => ?_)
  · obtain ⟨a, d, rows, ks, nd, rfl, _⟩ := h
    rfl
  · obtain ⟨a, d, rows, ks, nd, rfl, hS, ⟨t, eD, hT⟩, hk, hk2, hl, G, q⟩ := h
    obtain ⟨rk, D0⟩ := G.dag
    refine ⟨_, (pss_cons (ps_if (pt_not (pt_val (pe_callB call_isi (by rfl) T.b_isinstance bb_isinstance (pa_cons (pv 1) (pa_cons (pe_bltn (v := .ty "dict") (by rfl) T.b_dict bb_dict rfl) pa_nil)))))
        (pss_one ps_never)
        pss_nil)
      (pss_one (ps_lock (ps_for PassesOwn.never rfl (pi_items (pv 1)) (pg_tup rfl (pgs_cons (pg_name (i := 2) sc_needneeds.nd rfl (.inl rfl)) (pgs_cons (pg_name (i := 3) sc_needneeds.nd rfl (.inl rfl)) pgs_nil)))
        (pss_one (ps_if (PW.pt (pw_or (pt_cmpR op_notIn_seq (pv 2) (pv 0) (by rfl)) (pw_or1 (pt_not (pt_val (pe_call G_areNeeds (hr.mono (by decide)) (by rfl) T.g_areNeeds T.areNeeds.F.kp T.bd_areNeeds .nil pass0 (pa_cons (pv 0) (pa_cons (pv 3) pa_nil))))))))
        (pss_one ps_never)
        pss_nil)))))), ?_⟩
    refine ⟨_, rfl, _, _, _, _, true, rfl, .ty "dict", .base (.dK eD), kit_ty (by decide +kernel), true, rfl, ?_⟩
    refine iteF ?_
    refine ⟨d, _, eD, True.intro, fun od => ?_⟩
    refine ⟨_, rfl, d, od, _, rfl, upd_same, for_go ks.length (fun i σ' H' => ∃ y z, σ' = [some (.ref a), some (.ref d), y, z] ∧ Lk d od (.dK (ks.map fun r => (kS r, V.ref (t r)))) H H') ⟨none, none, rfl, Lk.new⟩ (fun i σ1 H1 hi ⟨y, z, eσ, k⟩ => ⟨⟨k.at_, kv_at hi⟩, fun x H2 yy => ?_⟩) fun σ1 H1 ⟨y, z, eσ, k⟩ => ⟨⟨k.at_, by rw [List.length_map]; exact Nat.le_refl _⟩, k.at_, ?_⟩⟩
    · subst eσ
      obtain ⟨T0, ex, nT, eH⟩ := yld_items yy (List.getElem?_eq_getElem hi)
      subst ex eH
      have sT := same_upd (o := .tup [.str ks[i], .ref (t ks[i])]) nT
      have hr0 : ks[i] ∈ ks := List.getElem_mem hi
      have hrr := hk _ hr0
      have k2 := k.same sT
      have ntd : t ks[i] ≠ d := ne_of (hT _ hr0) eD (by intro z; cases z)
      have hS1 : SqS K (upd H1 T0 (.tup [.str ks[i], .ref (t ks[i])])) a (ST rows) := by
        have had : ∀ o, H a = some o → (∀ kv, o ≠ .dK kv) → (upd H1 T0 (.tup [.str ks[i], .ref (t ks[i])])) a = some o := fun o e ne => k2.sx _ _ (fun z => by rw [z, eD] at e; cases e; exact ne _ rfl) e
        rcases hS with h | h
        · rcases h with h | h
          · rcases h with h | ⟨o, h⟩
            · exact .inl (.inl (.inl (had _ h fun kv z => by cases z)))
            · exact .inl (.inl (.inr ⟨o, had _ h fun kv z => by cases z⟩))
          · exact .inl (.inr h)
        · rcases h with h | h
          · rcases h with h | ⟨o, h⟩
            · exact .inr (.inl (.inl (had _ h fun kv z => by cases z)))
            · exact .inr (.inl (.inr ⟨o, had _ h fun kv z => by cases z⟩))
          · exact .inr (.inr h)
      refine ⟨T0, _, rfl, SqT.of upd_same, rfl, _, _, rfl, _, _, rfl, rfl, ?_⟩
      refine ⟨_, rfl, _, rfl, a, _, rfl, hS1, rfl, flat_ST _, _, rfl, ?_⟩
      show (if (!inV (.str ks[i]) (ST rows)) = true then _ else _)
      rw [inV_ST, decide_eq_true hrr]
      refine iteF ⟨_, rfl, _, rfl, a, t ks[i], rows, nd ks[i], rfl, hS1, k2.sx _ _ ntd (hT _ hr0), fun x hx => ⟨G.names x (D0.sub _ hrr x hx), D0.sub _ hrr x hx⟩, G.len, G.nlen hrr, G.ndn _ hrr, fun H5 s5 => ⟨true, rfl, ?_⟩⟩
      exact iteF ⟨_, _, rfl, k2.same s5⟩
    · exact q _ (k.sx.back eD)
end
end K19

set_option Elab.async false
set_option linter.all false
set_option maxRecDepth 100000
set_option maxHeartbeats 4000000
/-! A sheet is filled, made. -/
namespace K19
open PySem PySem.Spec PyProof.Rows L2 StX ClX
theorem sc_fill : FnScope ["self", "rows", "needs", "direct", "ring", "name", "index"] ["self", "rows", "needs"] (defScope sSFill) := ⟨rfl, rfl, rfl, by decide +kernel, rfl, by decide +kernel, by decide +kernel⟩
theorem sc_sof : FnScope ["cls", "rows", "needs", "found"] ["cls", "rows", "needs"] (defScope sSOf) := ⟨rfl, rfl, rfl, by decide +kernel, rfl, by decide +kernel, by decide +kernel⟩
theorem Good.srt {rows : List Str} {nd : Str → List Str} (G : Good rows nd) : Good rows (fun r => srt (nd r)) where
  names := G.names
  len := G.len
  dag := let ⟨rk, D⟩ := G.dag; ⟨rk, D.nd, fun r hr o ho => D.sub r hr o (mem_srt.mp ho), fun r hr o ho => D.lt r hr o (mem_srt.mp ho)⟩
  ndn := fun r hr => (srt_perm _).nodup_iff.mpr (G.ndn r hr)
theorem seq_set {te : TE} {i : Nat} {u : TS} {D : Ends} {σ : L2.St} {H : Hp} (h : te σ H fun x H1 => u D (σ.set i (some x)) H1) : tSeq (tAsg te (gName i)) u D σ H := h
/-- the fields while they are set -/
theorem flds {fs : List (Str × V)} (h : fs = [] ∨ ∃ n d o z, fs = shF n d o z) (n d o : Addr) (z : Str) : fs.length < 900 ∧ (putF "names" (.ref n) fs).length < 900 ∧ (putF "direct" (.ref d) (putF "names" (.ref n) fs)).length < 900 ∧ (putF "order" (.ref o) (putF "direct" (.ref d) (putF "names" (.ref n) fs))).length < 900 ∧
    (putF "order" (.ref o) (putF "direct" (.ref d) (putF "names" (.ref n) fs))).lookup ("names" : Str) = some (.ref n) ∧ (putF "order" (.ref o) (putF "direct" (.ref d) (putF "names" (.ref n) fs))).lookup ("direct" : Str) = some (.ref d) ∧
    putF "shown" (.str z) (putF "order" (.ref o) (putF "direct" (.ref d) (putF "names" (.ref n) fs))) = shF n d o z := by
  rcases h with rfl | ⟨n0, d0, o0, z0, rfl⟩
  · exact ⟨by decide, (by show 1 < 900; decide), (by show 2 < 900; decide), (by show 3 < 900; decide), rfl, rfl, rfl⟩
  · exact ⟨(by show 4 < 900; decide), (by show 4 < 900; decide), (by show 4 < 900; decide), (by show 4 < 900; decide), rfl, rfl, rfl⟩
section
variable {P : Program} {w : World} {K : PySem.W.Frag} {mg : Str → Option Value} {base : Heap}
theorem ok_fill (T : Txt K mg) : FnOk P w K mg base CX0 4 T.sFill.f T.sFill.fd ["self", "rows", "needs"] (spFill K T.CS) := by
  have G_needRows : FnOk P w K mg base CX0 3 T.needRows.f T.needRows.fd ["rows"] (spFirstWrong K) := ok_needrows T
  have G_needNeeds : FnOk P w K mg base CX0 3 T.needNeeds.f T.needNeeds.fd ["rows", "needs"] (spNeedNeeds K) := ok_needneeds T
  have G_ringIn : FnOk P w K mg base CX0 2 T.ringIn.f T.ringIn.fd ["needs"] spRing := ok_ring T
  have G_sheetText : FnOk P w K mg base CX0 3 T.sheetText.f T.sheetText.fd ["sheet"] (spSheetText T.CS) := ok_shtext T
  refine T.sFill.F.ok sc_fill (fun vs H Q E h => ?_) (fun cdv A outer s H vs Q E hr h => ?_)
  · obtain ⟨s, dx, fs, a, d, rows, ks, nd, rfl, _⟩ := h
    rfl
  · obtain ⟨s, dx, fs, a, d, rows, ks, nd, rfl, hs, hfs, hS, ⟨t, eD, hT⟩, hk, hk2, hknd, hl, G, q⟩ := h
    refine ⟨_, (pss_cons (ps_expr (pe_call G_needRows (hr.mono (by decide)) (by rfl) T.g_needRows T.needRows.F.kp T.bd_needRows .nil pass0 (pa_cons (pv 1) pa_nil)))
      (pss_cons (ps_expr (pe_call G_needNeeds (hr.mono (by decide)) (by rfl) T.g_needNeeds T.needNeeds.F.kp T.bd_needNeeds .nil pass0 (pa_cons (pv 1) (pa_cons (pv 2) pa_nil))))
      (pss_cons (ps_setDc (i := 3) (own := [("name", 5)]) (g := (gName 5)) (by rfl) sc_fill.nd rfl rfl (sw_dict rfl rfl rfl (by decide +kernel)) (pi_alt (pi_list (pv 1)) (pi_tup (pv 1))) (blkOk_by (own := [("name", 5)]) (N := ["self", "rows", "needs", "direct", "ring", "name", "index"]) (sc := defScope sSFill) (by decide +kernel)) (fun _ _ _ _ _ => (pg_name (i := 5) sc_fill.nd rfl (.inl rfl))) (fun _ _ _ _ _ => pts_nil) (fun _ _ _ _ _ => (pv 5)) (fun _ _ _ _ _ => (pe_callTy (show CallR _ _ (rTupOf K) from call_tuple_of) (by rfl) T.b_tuple bb_tuple (pa_cons (pe_callB (show CallR _ _ (rSortedT K) from cr_sortedT) (by rfl) T.b_sorted bb_sorted (pa_cons (pe_dget2 (hu_of hr) (pv 2) (pv 5) (pe_tup pa_nil) ⟨rfl, rfl, rfl, rfl⟩) pa_nil)) pa_nil))))
      (pss_cons (ps_set (i := 4) sc_fill.nd rfl (.inl rfl) (pe_call G_ringIn (hr.mono (by decide)) (by rfl) T.g_ringIn T.ringIn.F.kp T.bd_ringIn .nil pass0 (pa_cons (pv 3) pa_nil)))
      (pss_cons (ps_if (pt_cmpR op_notN (pv 4) pe_non (nomark _))
        (pss_one ps_never)
        pss_nil)
      (pss_cons (ps_fld (pv 0) (pe_callTy (show CallR _ _ (rTupOf K) from call_tuple_of) (by rfl) T.b_tuple bb_tuple (pa_cons (pv 1) pa_nil)) rfl)
      (pss_cons (ps_fld (pv 0) (pv 3) rfl)
      (pss_cons (ps_fld (pv 0) (pe_dc (own := [("index", 6), ("name", 5)]) (g := (gTup K 2 (gCons (gName 6) (gCons (gName 5) gNil)))) (by rfl) sc_fill.nd (pi_alt (pi_enum (by rfl) T.b_enumerate (pa_cons (pv 1) pa_nil)) (pi_enumT (by rfl) T.b_enumerate (pa_cons (pv 1) pa_nil))) (blkOk_by (own := [("index", 6), ("name", 5)]) (N := ["self", "rows", "needs", "direct", "ring", "name", "index"]) (sc := defScope sSFill) (by decide +kernel)) (fun _ _ _ _ _ => (pg_tup rfl (pgs_cons (pg_name (i := 6) sc_fill.nd rfl (.inl rfl)) (pgs_cons (pg_name (i := 5) sc_fill.nd rfl (.inl rfl)) pgs_nil)))) (fun _ _ _ _ _ => pts_nil) (fun _ _ _ _ _ => (pv 5)) (fun _ _ _ _ _ => (pv 6))) rfl)
      (pss_one (ps_fld (pv 0) (pe_call G_sheetText (hr.mono (by decide)) (by rfl) T.g_sheetText T.sheetText.F.kp T.bd_sheetText .nil pass0 (pa_cons (pv 0) pa_nil)) rfl)))))))))), ?_⟩
    have hnd : rows.Nodup := let ⟨_, D⟩ := G.dag; D.nd
    refine ⟨_, rfl, a, rows, rfl, hS.s, G.names, G.len, hnd, fun H1 s1 => ?_⟩
    refine ⟨_, rfl, _, rfl, a, d, rows, ks, nd, rfl, (hS.same s1).s, ⟨t, s1 _ _ eD, fun r hr => s1 _ _ (hT r hr)⟩, hk, hk2, hl, G, fun H2 s2 => ?_⟩
    have s12 := s1.trans s2
    -- direct = {..}
    dsimp only
    refine seq_set ?_
    refine rd_dcS (K := K) (ys := rows) rfl (hS.same s12).s G.len (fun _ => by rfl) (fun _ => by rfl) (fun D i l H' => SameX D H2 H' ∧ ∃ t' : Str → Addr, l = (rows.take i).map (fun r => (kS r, V.ref (t' r))) ∧ ∀ r ∈ rows.take i, H' (t' r) = some (.tup (ST (srt (nd r)))) ∧ t' r ≠ D)
      (fun D i l H3 H4 ⟨k, t', e, f⟩ s => ⟨k.trans s, t', e, fun r hr => ⟨s _ _ (f r hr).2 (f r hr).1, (f r hr).2⟩⟩) (fun D _ => ⟨sx_of (Same.refl _), fun _ => 0, rfl, fun r hr => by simp at hr⟩) (fun D i l H3 ⟨_, t', e, _⟩ => by rw [e, List.length_map]; exact List.length_take_le _ _) (fun D i l H3 h => h.1)
      (fun D i l H3 hi nD ⟨k, t', e, f⟩ eD3 R hR => ?_) fun D l H3 nD ⟨k, t', e, f⟩ eDD => ?_
    · have hr0 : rows[i] ∈ rows := List.getElem_mem hi
      have hrk := hk2 _ hr0
      have kd := k _ _ (ne_of_none (s12 _ _ eD) nD) (s12 _ _ eD)
      have kt := k _ _ (ne_of_none (s12 _ _ (hT _ hrk)) nD) (s12 _ _ (hT _ hrk))
      refine ⟨_, rfl, d, rfl, .inl ⟨_, .inl kd⟩, _, rfl, Nat.zero_le _, fun e1 ne1 => ?_⟩
      have se := same_upd (o := .tup []) ne1
      refine ⟨some (.ref (t rows[i])), by rw [← valV_in_mapf (f := fun r => V.ref (t r)) hrk]; exact DGet.k (k := kS rows[i]) (se _ _ kd), ?_⟩
      refine ⟨t rows[i], nd rows[i], rfl, SqT.of (se _ _ kt), by have := G.nlen hr0; omega, fun ys p perm hsort np => ?_⟩
      have sp := same_upd (o := .lst (ys.map V.str)) np
      refine ⟨p, _, rfl, .inl ⟨SqL.of upd_same, fun l2 nl2 => ?_⟩⟩
      have sl := same_upd (o := .tup (ys.map V.str)) nl2
      have s34 := se.trans (sp.trans sl)
      have ey : srt (nd rows[i]) = ys := srt_eq perm hsort
      have hno := not_in_take hnd hi
      refine hR _ _ s34 ⟨k.trans (sx_of s34), fun r => if r = rows[i] then l2 else t' r, ?_, fun r hr => ?_⟩
      · have := putK_new_mapf (f := fun r => V.ref (if r = rows[i] then l2 else t' r)) hno
        simp only [if_true] at this
        rw [List.take_add_one, List.getElem?_eq_getElem hi]
        show _ = ((rows.take i) ++ [rows[i]]).map _
        rw [← this, e]
        congr 1
        refine List.map_congr_left fun x hx => ?_
        rw [if_neg fun z => hno (by rw [← z]; exact hx)]
      · rw [List.take_add_one, List.getElem?_eq_getElem hi] at hr
        have hr2 : r ∈ rows.take i ∨ r = rows[i] := (List.mem_append.mp hr).imp id fun h => by simpa using h
        dsimp only
        by_cases c : r = rows[i]
        · subst c
          simp only [if_true]
          exact ⟨by rw [upd_same, ey], (ne_of_none (sp _ _ (se _ _ eD3)) nl2).symm⟩
        · rw [if_neg c]
          rcases hr2 with h | h
          · exact ⟨s34 _ _ (f r h).1, (f r h).2⟩
          · exact absurd h c
    have s3 : Same H2 H3 := fun b o e => k _ _ (ne_of_none e nD) e
    rw [e, List.take_length] at eDD
    rw [List.take_length] at f
    have s13 := s12.trans s3
    have eN : NeedsAt H3 D rows (fun r => srt (nd r)) := ⟨t', eDD, fun r hr => (f r hr).1⟩
    clear k f e eDD t'
    -- ring
    refine ⟨_, rfl, D, rows, _, rfl, eN, G.srt, fun H4 s4 => ?_⟩
    have s14 := s13.trans s4
    have eN4 := eN.same s4
    refine ⟨_, rfl, rfl, _, rfl, iteF ?_⟩
    -- self.names = tuple(rows)
    have hnames : ∀ R : VK, (∀ H5 n, Same H4 H5 → H5 n = some (.tup (ST rows)) → R (.ref n) H5) → rTupOf K [.ref a] H4 R := fun R hR => by
      rcases hS.same s14 with h | h
      · exact ⟨a, _, rfl, .inl ⟨SqL.of h, fun l2 nl2 => hR _ l2 (same_upd nl2) upd_same⟩⟩
      · exact ⟨a, _, rfl, .inr ⟨SqT.of h, hR _ a (Same.refl _) h⟩⟩
    refine ⟨_, rfl, ?_⟩
    dsimp only [tNil]
    refine hnames _ fun H5 n s5 en => ?_
    have s15 := s14.trans s5
    have hs5 := s15 _ _ hs
    obtain ⟨l1, l2, l3, l4, k1, k2, k3⟩ := flds hfs n D 0 Str.empty
    refine ⟨_, rfl, s, T.CS, dx, fs, rfl, hs5, T.clS, T.n_names, by omega, ?_⟩
    refine ⟨_, rfl, _, rfl, s, T.CS, dx, _, rfl, upd_same, T.clS, T.n_direct, by omega, ?_⟩
    have x7 : SameX s H5 (upd (upd H5 s (.ins T.CS dx (putF "names" (.ref n) fs))) s (.ins T.CS dx (putF "direct" (.ref D) (putF "names" (.ref n) fs)))) := ((sx_of (Same.refl H5)).self).self
    have e7 : (upd (upd H5 s (.ins T.CS dx (putF "names" (.ref n) fs))) s (.ins T.CS dx (putF "direct" (.ref D) (putF "names" (.ref n) fs)))) s = _ := upd_same
    generalize upd (upd H5 s (.ins T.CS dx (putF "names" (.ref n) fs))) s (.ins T.CS dx (putF "direct" (.ref D) (putF "names" (.ref n) fs))) = H7 at x7 e7
    have nea : ∀ {b : Addr} {o : HO}, H5 b = some o → (∀ C dx fs, o ≠ .ins C dx fs) → H7 b = some o := fun {b o} e ne => x7 _ _ (fun z => by rw [z, hs5] at e; cases e; exact ne _ _ _ rfl) e
    have hS7 : Sq2 H7 a (ST rows) := (hS.same s15).elim (fun h => .inl (nea h fun _ _ _ z => by cases z)) fun h => .inr (nea h fun _ _ _ z => by cases z)
    have en7 := nea en fun _ _ _ z => by cases z
    have eN7 : NeedsAt H7 D rows (fun r => srt (nd r)) := let ⟨t', h1, h2⟩ := eN4.same s5; ⟨t', nea h1 (fun _ _ _ z => by cases z), fun r hr => nea (h2 r hr) (fun _ _ _ z => by cases z)⟩
    -- self.order = {..}
    dsimp only [tSeq, sFld]
    refine rd_dcEn (K := K) (ys := rows) rfl hS7.s G.len hnd (fun _ _ => rfl) (fun _ _ => rfl) (fun _ _ => rfl) fun o H8 no s8 eo => ?_
    refine ⟨_, rfl, s, T.CS, dx, _, rfl, s8 _ _ e7, T.clS, T.n_order, by omega, ?_⟩
    obtain ⟨_, _, _, l4, k1, k2, _⟩ := flds hfs n D o Str.empty
    have x9 : SameX s H8 (upd H8 s (.ins T.CS dx (putF "order" (.ref o) (putF "direct" (.ref D) (putF "names" (.ref n) fs))))) := (sx_of (Same.refl H8)).self
    have e9 : (upd H8 s (.ins T.CS dx (putF "order" (.ref o) (putF "direct" (.ref D) (putF "names" (.ref n) fs))))) s = _ := upd_same
    generalize upd H8 s (.ins T.CS dx (putF "order" (.ref o) (putF "direct" (.ref D) (putF "names" (.ref n) fs)))) = H9 at x9 e9
    have neb : ∀ {b : Addr} {q : HO}, H8 b = some q → (∀ C dx fs, q ≠ .ins C dx fs) → H9 b = some q := fun {b q} e ne => x9 _ _ (fun z => by rw [z, s8 _ _ e7] at e; cases e; exact ne _ _ _ rfl) e
    have en9 := neb (s8 _ _ en7) fun _ _ _ z => by cases z
    have eo9 := neb eo fun _ _ _ z => by cases z
    have eN9 : NeedsAt H9 D rows (fun r => srt (nd r)) := let ⟨t', h1, h2⟩ := eN7.same s8; ⟨t', neb h1 (fun _ _ _ z => by cases z), fun r hr => neb (h2 r hr) (fun _ _ _ z => by cases z)⟩
    -- self.shown = ..
    refine ⟨_, rfl, s, dx, _, n, D, rows, _, rfl, e9, k1, k2, en9, eN9, G.srt, fun H10 z s10 => ?_⟩
    refine ⟨_, rfl, s, T.CS, dx, _, rfl, s10 _ _ e9, T.clS, T.n_shown, by omega, ?_⟩
    obtain ⟨_, _, _, _, _, _, k3⟩ := flds hfs n D o z
    rw [k3]
    refine q _ (fun b u hb eb => ?_) ?_
    · rw [upd_ne hb]
      exact s10 _ _ (x9 _ _ hb (s8 _ _ (x7 _ _ hb (s15 _ _ eb))))
    · have nec : ∀ {b : Addr} {q : HO}, H9 b = some q → (∀ C dx fs, q ≠ .ins C dx fs) → (upd H10 s (.ins T.CS dx (shF n D o z))) b = some q := fun {b q} e ne => by
        rw [upd_ne fun z => by rw [z, e9] at e; cases e; exact ne _ _ _ rfl]
        exact s10 _ _ e
      obtain ⟨t', h1, h2⟩ := eN9
      exact ⟨dx, n, D, o, z, upd_same, nec en9 (fun _ _ _ z => by cases z), ⟨t', nec h1 (fun _ _ _ z => by cases z), fun r hr => nec (h2 r hr) (fun _ _ _ z => by cases z)⟩, nec eo9 (fun _ _ _ z => by cases z)⟩
end
end K19

set_option Elab.async false
set_option linter.all false
set_option maxRecDepth 100000
set_option maxHeartbeats 4000000
/-! A sheet is made. -/
namespace K19
open PySem PySem.Spec PyProof.Rows L2 StX ClX
theorem sc_sinit : FnScope ["self", "rows", "needs"] ["self", "rows", "needs"] (defScope sSInit) := ⟨rfl, rfl, rfl, by decide +kernel, rfl, by decide +kernel, by decide +kernel⟩
theorem good_nil (nd : Str → List Str) : Good [] nd := ⟨fun r h => by simp at h, by decide, ⟨fun _ => 0, List.nodup_nil, fun r h => by simp at h, fun r h => by simp at h⟩, fun r h => by simp at h⟩
section
variable {P : Program} {w : World} {K : PySem.W.Frag} {mg : Str → Option Value} {base : Heap}
def spInitB (CS : Addr) : Sp := fun vs H Q _ => ∃ s dx p d, vs = [.ref s, .ref p, .ref d] ∧ H s = some (.ins CS dx []) ∧ H p = some (.tup []) ∧ H d = some (.dK []) ∧ ∀ H' dx' n d o z, SameX s H H' → H' s = some (.ins CS dx' (shF n d o z)) → Q .non H'
theorem ok_sinit (T : Txt K mg) : FnR P w K mg base CX0 5 T.sInit.f (spSInit T.CS) := by
  have G_sFill : FnOk P w K mg base CX0 4 T.sFill.f T.sFill.fd ["self", "rows", "needs"] (spFill K T.CS) := ok_fill T
  obtain ⟨oc, od, kV, doc, pm, an, cdv, ct, osl, e, lk, hcd⟩ := T.sInit.F.ex
  rw [e] at lk
  refine (fn_starkw (ps := ["self"]) (pv := "rows") (pd := "needs") (k := 4) (sp := spInitB T.CS) lk hcd sc_sinit cxUp_none (fun us rest hl => match us, hl with | [u], _ => by cases rest <;> rfl) (fun A outer s H vs Q E hr h => ?_)).imp fun vs H Q E h => ?_
  · obtain ⟨x, dx, p, d, rfl, hs, hp, hd, q⟩ := h
    refine ⟨_, (pss_one (ps_expr (pe_meth (pv 0) T.clS T.m_sFill G_sFill (hr.mono (by decide)) T.bd_sFill .nil pass0 (pa_cons (pv 1) (pa_cons (pv 2) pa_nil))))), ?_⟩
    refine ⟨_, rfl, x, dx, [], rfl, hs, rfl, _, rfl, _, rfl, x, dx, [], p, d, [], [], fun _ => [], rfl, hs, .inl rfl, .inr hp, ⟨fun _ => 0, hd, fun r hr => by simp at hr⟩, fun r hr => hr, fun r hr => hr, List.nodup_nil, by decide, good_nil _, fun H1 sx hS => ?_⟩
    obtain ⟨dx2, n, d2, o, z, e1, _⟩ := hS
    exact q H1 dx2 n d2 o z sx e1
  · obtain ⟨s, dx, rfl, hs, q⟩ := h
    refine ⟨[.ref s], [], rfl, rfl, Nat.zero_le _, fun p d np nd nep => ?_⟩
    have s1 := same_upd (o := .tup []) np
    have nd1 : (upd H p (.tup [])) d = none := by rw [upd_ne nep]; exact nd
    have s2 := same_upd (o := .dK []) nd1
    refine ⟨s, dx, p, d, rfl, s2 _ _ (s1 _ _ hs), s2 _ _ upd_same, upd_same, fun H' dx' n d2 o z sx e => q H' dx' n d2 o z (fun b u hb eb => sx _ _ hb (s2 _ _ (s1 _ _ eb))) e⟩
theorem ok_sof (T : Txt K mg) : FnOk P w K mg base CX0 7 T.sOf.f T.sOf.fd ["cls", "rows", "needs"] (spOf K T.CS) := by
  have G_sFill : FnOk P w K mg base CX0 4 T.sFill.f T.sFill.fd ["self", "rows", "needs"] (spFill K T.CS) := ok_fill T
  have G_sInit : FnR P w K mg base CX0 5 T.sInit.f (spSInit T.CS) := ok_sinit T
  refine T.sOf.F.ok sc_sof (fun vs H Q E h => ?_) (fun cdv A outer s H vs Q E hr h => ?_)
  · obtain ⟨a, d, rows, ks, nd, rfl, _⟩ := h
    rfl
  · obtain ⟨a, d, rows, ks, nd, rfl, hS, hN, hk, hk2, hknd, hl, G, q⟩ := h
    refine ⟨_, (pss_cons (ps_set (i := 3) sc_sof.nd rfl (.inl rfl) (pe_makeL0 (i := 0) T.mkS G_sInit (hr.mono (by decide)) rfl (.inl rfl) pass0))
      (pss_cons (ps_expr (pe_meth (pv 3) T.clS T.m_sFill G_sFill (hr.mono (by decide)) T.bd_sFill .nil pass0 (pa_cons (pv 1) (pa_cons (pv 2) pa_nil))))
      (pss_one (ps_ret (pv 3))))), ?_⟩
    refine ⟨rfl, fun x dx nx ndx nex => ?_⟩
    have s1 := same_upd (o := .own x) ndx
    have nx1 : (upd H dx (.own x)) x = none := by rw [upd_ne nex.symm]; exact nx
    have s2 := same_upd (o := .ins T.CS dx []) nx1
    refine ⟨x, dx, rfl, upd_same, fun H1 dx1 n0 d0 o0 z0 sx e1 => ⟨rfl, ?_⟩⟩
    have s01 : Same H H1 := fun b o e => sx _ _ (ne_of_none e nx) (s2 _ _ (s1 _ _ e))
    refine ⟨_, rfl, x, dx1, _, rfl, e1, rfl, _, rfl, _, rfl, x, dx1, _, a, d, rows, ks, nd, rfl, e1, .inr ⟨n0, d0, o0, z0, rfl⟩, hS.same s01, hN.same s01, hk, hk2, hknd, hl, G, fun H2 sx2 hS2 => ?_⟩
    exact ⟨_, rfl, q H2 x (fun b o e => sx2 _ _ (ne_of_none e nx) (s01 _ _ e)) nx hS2⟩
end
end K19

set_option Elab.async false
set_option linter.all false
set_option maxRecDepth 100000
set_option maxHeartbeats 4000000
/-! A sheet is asked. -/
namespace K19
open PySem PySem.Spec PyProof.Rows L2 StX ClX
theorem room65 {k : Nat} {A : Around} (r : Room k A) : A.units + 64 + 1 < cLine := by have := r.un; omega
/-! ### dicts of tuples of texts compared -/
def rEqDD (K : PySem.W.Frag) : R2 := fun x y H Q => ∃ a b ks ls, x = .ref a ∧ y = .ref b ∧ H a = some (.dK ks) ∧ H b = some (.dK ls) ∧ ks.length = ls.length ∧ (∀ p ∈ ks, ∃ u d, valV ls p.1 = some u ∧ Dp K H p.2 d ∧ Dp K H u d ∧ SeqAt.shaped d = true) ∧ Q (.bl true) H
theorem op_eqDD {X : Cx} (hu : X.A.units + 64 + 1 < cLine) : OpR X (compareOp .Eq) (rEqDD X.K) := by
  intro pins s σ H x y v u Q I rx ry h
  obtain ⟨a, b, ks, ls, rfl, rfl, ha, hb, hl, hp, q⟩ := h
  cases (show v = Value.ref a from rx)
  cases (show u = Value.ref b from ry)
  obtain ⟨_, ya, va, ra, da⟩ := (show ObjOk X.prog X.w H s.heap a (.dK ks) from I.hok a _ ha)
  obtain ⟨_, yb, vb, rb, db⟩ := (show ObjOk X.prog X.w H s.heap b (.dK ls) from I.hok b _ hb)
  refine PySem.W.rcP_dicts (knd := mixKind X.prog X.w) (r := true) ya yb da db (by omega) (fun _ => hits_run (F := fun x y => ∃ d, Dp X.K H x d ∧ Dp X.K H y d ∧ SeqAt.shaped d = true) (fun x y v u ⟨d, h1, h2, h3⟩ r1 r2 => ?_) rb ra fun p hm => ?_) _ _ ?_
  · obtain ⟨as, k1⟩ := Dp.reads I d x v h1 r1
    obtain ⟨bs, k2⟩ := Dp.reads I d y u h2 r2
    have := PySem.W.keq_at (A := X.A) k1 k2 h3 h3 (by show X.A.units + 1 + 64 < cLine; omega)
    rw [SeqAt.eqv_refl d (SeqAt.canLay_of_shaped h3)] at this
    exact this.eqP
  · obtain ⟨u, d, e, h1, h2, h3⟩ := hp p hm
    exact ⟨u, e, d, h1, h2, h3⟩
  · have e : va.length = vb.length := by rw [← ra.length, ← rb.length]; exact hl
    rw [show (va.length == vb.length && true) = true from by rw [e]; simp]
    exact ⟨.bl true, H, I, rfl, q⟩
theorem sc_scon : FnScope ["self", "name"] ["self", "name"] (defScope sSContains) := ⟨rfl, rfl, rfl, by decide +kernel, rfl, by decide +kernel, by decide +kernel⟩
theorem sc_seq : FnScope ["self", "other"] ["self", "other"] (defScope sSEq) := ⟨rfl, rfl, rfl, by decide +kernel, rfl, by decide +kernel, by decide +kernel⟩
theorem sc_sneedrow : FnScope ["self", "name"] ["self", "name"] (defScope sSNeedRow) := ⟨rfl, rfl, rfl, by decide +kernel, rfl, by decide +kernel, by decide +kernel⟩
theorem sc_spos : FnScope ["self", "name"] ["self", "name"] (defScope sSPosition) := ⟨rfl, rfl, rfl, by decide +kernel, rfl, by decide +kernel, by decide +kernel⟩
section
variable {P : Program} {w : World} {K : PySem.W.Frag} {mg : Str → Option Value} {base : Heap}
theorem lk_order {n d o : Addr} {z : Str} : (shF n d o z).lookup ("order" : Str) = some (.ref o) := rfl
theorem lk_direct {n d o : Addr} {z : Str} : (shF n d o z).lookup ("direct" : Str) = some (.ref d) := rfl
theorem idx_get {H : Hp} {o : Addr} {rows : List Str} {r : Str} (e : H o = some (.dK (idxD rows))) (h : r ∈ rows) : DGet H o (.str r) (some (.int (pos rows r : Nat))) := by
  rw [← valV_in_mapf (f := fun r => V.int (pos rows r : Nat)) h]
  exact DGet.k (k := kS r) e
theorem ok_scon (T : Txt K mg) : FnOk P w K mg base CX0 1 T.sContains.f T.sContains.fd ["self", "name"] (spContains T.CS) := by
  refine T.sContains.F.ok sc_scon (fun vs H Q E h => ?_) (fun cdv A outer s H vs Q E hr h => ?_)
  · obtain ⟨s, rows, nd, r, rfl, _⟩ := h
    rfl
  · obtain ⟨s, rows, nd, r, rfl, ⟨dx, n, d, o, z, e1, e2, e3, e4⟩, hnd, hr0, q⟩ := h
    refine ⟨_, (pss_one (ps_ret (pe_and (pe_callB call_isi (by rfl) T.b_isinstance bb_isinstance (pa_cons (pv 1) (pa_cons (pe_bltn (v := .ty "str") (by rfl) T.b_str bb_str rfl) pa_nil))) (pe_one (pe_cmp (pc_din (hu_of hr) (pv 1) (pe_fld (pv 0) rfl)) rfl))))), ?_⟩
    refine ⟨_, rfl, _, _, _, _, true, rfl, .ty "str", .base (.str r), kit_ty (by decide +kernel), true, rfl, iteT ?_⟩
    exact ⟨_, rfl, _, rfl, s, T.CS, dx, _, _, rfl, e1, T.clS, T.n_order, lk_order, o, _, rfl, idx_get e4 hr0, q⟩
theorem ok_sneedrow (T : Txt K mg) : FnOk P w K mg base CX0 1 T.sNeedRow.f T.sNeedRow.fd ["self", "name"] (spNeedRow T.CS) := by
  refine T.sNeedRow.F.ok sc_sneedrow (fun vs H Q E h => ?_) (fun cdv A outer s H vs Q E hr h => ?_)
  · obtain ⟨s, rows, nd, r, rfl, _⟩ := h
    rfl
  · obtain ⟨s, rows, nd, r, rfl, ⟨dx, n, d, o, z, e1, e2, e3, e4⟩, hnd, hr0, q⟩ := h
    refine ⟨_, (pss_one (ps_if (PW.pt (pw_or (pt_not (pt_val (pe_callB call_isi (by rfl) T.b_isinstance bb_isinstance (pa_cons (pv 1) (pa_cons (pe_bltn (v := .ty "str") (by rfl) T.b_str bb_str rfl) pa_nil))))) (pw_or1 (pt_cmp (pc_dnotin (hu_of hr) (pv 1) (pe_fld (pv 0) rfl))))))
        (pss_one ps_never)
        pss_nil)), ?_⟩
    refine ⟨_, rfl, _, _, _, _, true, rfl, .ty "str", .base (.str r), kit_ty (by decide +kernel), true, rfl, ?_⟩
    refine iteF ⟨_, rfl, _, rfl, s, T.CS, dx, _, _, rfl, e1, T.clS, T.n_order, lk_order, o, _, rfl, idx_get e4 hr0, false, rfl, ?_⟩
    exact iteF q
theorem ok_spos (T : Txt K mg) : FnOk P w K mg base CX0 2 T.sPosition.f T.sPosition.fd ["self", "name"] (spPos T.CS) := by
  have G_sNeedRow : FnOk P w K mg base CX0 1 T.sNeedRow.f T.sNeedRow.fd ["self", "name"] (spNeedRow T.CS) := ok_sneedrow T
  refine T.sPosition.F.ok sc_spos (fun vs H Q E h => ?_) (fun cdv A outer s H vs Q E hr h => ?_)
  · obtain ⟨s, rows, nd, r, rfl, _⟩ := h
    rfl
  · obtain ⟨s, rows, nd, r, rfl, hS, hnd, hr0, q⟩ := h
    obtain ⟨dx, n, d, o, z, e1, e2, e3, e4⟩ := id hS
    refine ⟨_, (pss_cons (ps_expr (pe_meth (pv 0) T.clS T.m_sNeedRow G_sNeedRow (hr.mono (by decide)) T.bd_sNeedRow .nil pass0 (pa_cons (pv 1) pa_nil)))
      (pss_one (ps_ret (pe_dget (hu_of hr) (pe_fld (pv 0) rfl) (pv 1) (fun _ _ => rfl))))), ?_⟩
    refine ⟨_, rfl, s, dx, _, rfl, e1, rfl, _, rfl, s, rows, nd, r, rfl, hS, hnd, hr0, ?_⟩
    exact ⟨_, rfl, s, T.CS, dx, _, _, rfl, e1, T.clS, T.n_order, lk_order, _, rfl, o, _, rfl, idx_get e4 hr0, q⟩
theorem ok_seq (T : Txt K mg) : FnOk P w K mg base CX0 1 T.sEq.f T.sEq.fd ["self", "other"] (spEq T.CS) := by
  refine T.sEq.F.ok sc_seq (fun vs H Q E h => ?_) (fun cdv A outer s H vs Q E hr h => ?_)
  · obtain ⟨a, b, rows, nd, rfl, _⟩ := h
    rfl
  · obtain ⟨a, b, rows, nd, rfl, ⟨dx, n, d, o, z, e1, e2, e3, e4⟩, ⟨dx', n', d', o', z', e1', e2', e3', e4'⟩, hnm, hnn, q⟩ := h
    refine ⟨_, (pss_one (ps_ret (pe_and (pe_callB call_isi (by rfl) T.b_isinstance bb_isinstance (pa_cons (pv 1) (pa_cons (pe_glob (v := .ref T.CS) (by rfl) T.gS rfl) pa_nil))) (pe_and (pe_cmpR (op_eqD hr.units) (pe_fld (pv 0) rfl) (pe_fld (pv 1) rfl) (nomark _)) (pe_one (pe_cmpR (op_eqDD (room65 hr)) (pe_fld (pv 0) rfl) (pe_fld (pv 1) rfl) (nomark _))))))), ?_⟩
    refine ⟨_, rfl, _, _, _, _, true, rfl, .own T.CS, .base (.ins e1' T.clS T.clA T.clN T.clT T.mroS), T.isiS, true, rfl, iteT ?_⟩
    refine ⟨_, rfl, a, T.CS, dx, _, _, rfl, e1, T.clS, T.n_names, lk_names, _, rfl, b, T.CS, dx', _, _, rfl, e1', T.clS, T.n_names, lk_names, _, _, .tup (SqT.of e2) (dpAll_ST _), .tup (SqT.of e2') (dpAll_ST _), shaped_tup hnm, shaped_tup hnm, ?_⟩
    rw [SeqAt.eqv_refl _ (SeqAt.canLay_of_shaped (shaped_tup hnm))]
    refine ⟨true, rfl, iteT ?_⟩
    obtain ⟨t, e3, f3⟩ := e3
    obtain ⟨t', e3', f3'⟩ := e3'
    refine ⟨_, rfl, a, T.CS, dx, _, _, rfl, e1, T.clS, T.n_direct, lk_direct, _, rfl, b, T.CS, dx', _, _, rfl, e1', T.clS, T.n_direct, lk_direct, d, d', _, _, rfl, rfl, e3, e3', by rw [List.length_map, List.length_map], fun p hp => ?_, q _ (Same.refl H)⟩
    obtain ⟨r, hr0, rfl⟩ := List.mem_map.mp hp
    exact ⟨_, _, valV_in_mapf hr0, .tup (SqT.of (f3 r hr0)) (dpAll_ST _), .tup (SqT.of (f3' r hr0)) (dpAll_ST _), shaped_tup (hnn r hr0)⟩
end
end K19

set_option Elab.async false
set_option linter.all false
set_option maxRecDepth 100000
set_option maxHeartbeats 4000000
/-! A sheet with one row moved, one need more, one less. -/
namespace K19
open PySem PySem.Spec PyProof.Rows L2 StX ClX
theorem sc_smove : FnScope ["self", "name", "index", "left", "other"] ["self", "name", "index"] (defScope sSWithMove) := ⟨rfl, rfl, rfl, by decide +kernel, rfl, by decide +kernel, by decide +kernel⟩
theorem sc_swneed : FnScope ["self", "name", "other", "others", "one"] ["self", "name", "other"] (defScope sSWithNeed) := ⟨rfl, rfl, rfl, by decide +kernel, rfl, by decide +kernel, by decide +kernel⟩
theorem sc_swout : FnScope ["self", "name", "other", "others", "one"] ["self", "name", "other"] (defScope sSWithoutNeed) := ⟨rfl, rfl, rfl, by decide +kernel, rfl, by decide +kernel, by decide +kernel⟩
theorem Good.perm {rows rows' : List Str} {nd : Str → List Str} (G : Good rows nd) (h : rows'.Perm rows) : Good rows' nd where
  names := fun r hr => G.names r (h.mem_iff.mp hr)
  len := by rw [h.length_eq]; exact G.len
  dag := let ⟨rk, D⟩ := G.dag; ⟨rk, h.nodup_iff.mpr D.nd, fun r hr o ho => h.mem_iff.mpr (D.sub r (h.mem_iff.mp hr) o ho), fun r hr o ho => D.lt r (h.mem_iff.mp hr) o ho⟩
  ndn := fun r hr => G.ndn r (h.mem_iff.mp hr)
theorem Good.nodup {rows : List Str} {nd : Str → List Str} (G : Good rows nd) : rows.Nodup := let ⟨_, D⟩ := G.dag; D.nd
section
variable {P : Program} {w : World} {K : PySem.W.Frag} {mg : Str → Option Value} {base : Heap}
theorem ok_smove (T : Txt K mg) : FnOk P w K mg base CX0 8 T.sWithMove.f T.sWithMove.fd ["self", "name", "index"] (spMove T.CS) := by
  have G_sNeedRow : FnOk P w K mg base CX0 1 T.sNeedRow.f T.sNeedRow.fd ["self", "name"] (spNeedRow T.CS) := ok_sneedrow T
  have G_isIndex : FnOk P w K mg base CX0 3 T.isIndex.f T.isIndex.fd ["value", "size"] spIsIndex := ok_isIndex T
  have G_sOf : FnOk P w K mg base CX0 7 T.sOf.f T.sOf.fd ["cls", "rows", "needs"] (spOf K T.CS) := ok_sof T
  refine T.sWithMove.F.ok sc_smove (fun vs H Q E h => ?_) (fun cdv A outer s H vs Q E hr h => ?_)
  · obtain ⟨s, rows, nd, r, i, rfl, _⟩ := h
    rfl
  · obtain ⟨s, rows, nd, r, i, rfl, hS, G, hr0, hi, q⟩ := h
    obtain ⟨dx, n, d, o, z, e1, e2, e3, e4⟩ := id hS
    refine ⟨_, (pss_cons (ps_expr (pe_meth (pv 0) T.clS T.m_sNeedRow G_sNeedRow (hr.mono (by decide)) T.bd_sNeedRow .nil pass0 (pa_cons (pv 1) pa_nil)))
      (pss_cons (ps_if (pt_not (pt_val (pe_call G_isIndex (hr.mono (by decide)) (by rfl) T.g_isIndex T.isIndex.F.kp T.bd_isIndex .nil pass0 (pa_cons (pv 2) (pa_cons (pe_callB call_len_seq (by rfl) T.b_len PySem.boot_len (pa_cons (pe_fld (pv 0) rfl) pa_nil)) pa_nil)))))
        (pss_one ps_never)
        pss_nil)
      (pss_cons (ps_setLc (i := 3) (own := [("other", 4)]) (g := (gName 4)) (by rfl) sc_smove.nd rfl rfl (sw_true rfl rfl rfl (by decide +kernel)) (pi_tup (pe_fld (pv 0) rfl)) (blkOk_by (own := [("other", 4)]) (N := ["self", "name", "index", "left", "other"]) (sc := defScope sSWithMove) (by decide +kernel)) (fun _ _ _ _ _ => (pg_name (i := 4) sc_smove.nd rfl (.inl rfl))) (fun _ _ _ _ _ => (pts_one (pt_cmpR op_ne (pv 4) (pv 1) (nomark _)))) (fun _ _ _ _ _ => (pv 4)))
      (pss_one (ps_ret (pe_cmeth (pe_glob (v := .ref T.CS) (by rfl) T.gS rfl) T.cread T.cmet (G_sOf.raw T.bd_sOf .nil) (hr.mono (by decide)) pass0 (pa_cons (pe_lst (pa_star (pe_slice sl_list (pv 3) po_none (po_some (pv 2))) (pa_cons (pv 1) (pa_star (pe_slice sl_list (pv 3) (po_some (pv 2)) po_none) pa_nil)))) (pa_cons (pe_fld (pv 0) rfl) pa_nil)))))))), ?_⟩
    refine ⟨_, rfl, s, dx, _, rfl, e1, rfl, _, rfl, s, rows, nd, r, rfl, hS, G.nodup, hr0, ?_⟩
    refine ⟨_, rfl, _, rfl, s, T.CS, dx, _, _, rfl, e1, T.clS, T.n_names, lk_names, n, _, rfl, .inr (SqT.of e2), (i : Int), _, rfl, by omega, by rw [ST_len]; omega, true, rfl, iteF ?_⟩
    dsimp only
    refine ⟨_, rfl, s, T.CS, dx, _, _, rfl, e1, T.clS, T.n_names, lk_names, n, rfl, ⟨_, SqT.of e2⟩, fun D nD => lc_map (it := V.str) (ys := rows) (fun x => decide (x ≠ r)) V.str (wlk_tup (SqT.of e2) nD) nD (by have := G.len; omega) (fun _ => rfl) (fun x H6 hx sx Qc hq => ?_) (fun x H6 hx sx Qv hq => ⟨_, rfl, hq _ (Same.refl _)⟩) fun H6 sx eD => ?_⟩
    · refine ⟨_, rfl, _, rfl, rfl, _, rfl, ?_⟩
      have : (!decide (V.str x = V.str r)) = decide (x ≠ r) := by
        by_cases c : x = r
        · subst c; simp
        · rw [decide_eq_true c, decide_eq_false fun z => c (V.str.inj z)]; rfl
      rw [this]
      exact hq _ (Same.refl _)
    · have s6 : Same H H6 := fun b u e => sx _ _ (ne_of_none e nD) e
      replace eD : H6 D = some (.lst (ST (rows.filter fun x => decide (x ≠ r)))) := eD
      have hlen : (rows.filter fun x => decide (x ≠ r)).length ≤ 7 := Nat.le_trans (List.length_filter_le _ _) G.len
      have hil : i ≤ (rows.filter fun x => decide (x ≠ r)).length := by
        have := (moved_perm G.nodup hr0 0).length_eq
        unfold moved at this
        simp only [List.length_append, List.length_take, List.length_drop, List.length_singleton] at this
        omega
      refine ⟨rfl, _, rfl, _, rfl, _, rfl, D, _, rfl, SqL.of eD, fun p1 np1 => ?_⟩
      have sp1 := same_upd (o := .lst (cutV (ST (rows.filter fun x => decide (x ≠ r))) none (some (i : Int)))) np1
      refine ⟨p1, _, rfl, .inr (SqL.of upd_same), _, rfl, _, rfl, _, rfl, _, rfl, D, _, rfl, SqL.of (sp1 _ _ eD), fun p2 np2 => ?_⟩
      have sp2 := same_upd (o := .lst (cutV (ST (rows.filter fun x => decide (x ≠ r))) (some (i : Int)) none)) np2
      refine ⟨p2, _, rfl, .inr (SqL.of upd_same), ?_⟩
      have el : cutV (ST (rows.filter fun x => decide (x ≠ r))) none (some (i : Int)) ++ (V.str r :: (cutV (ST (rows.filter fun x => decide (x ≠ r))) (some (i : Int)) none ++ [])) = ST (moved rows r i) := by
        rw [cut_to (by rw [ST_len]; exact hil), cut_from (by rw [ST_len]; exact hil), List.append_nil]
        unfold moved
        show _ = List.map V.str _
        rw [List.map_append, List.map_append, List.map_take, List.map_drop, List.append_assoc]
        rfl
      have mp := moved_perm G.nodup hr0 i
      dsimp only [tNil]
      rw [el]
      refine ⟨by rw [ST_len, mp.length_eq]; exact Nat.le_of_lt (small7 G.len), fun l nl => ?_⟩
      have sl := same_upd (o := .lst (ST (moved rows r i))) nl
      have sall := s6.trans (sp1.trans (sp2.trans sl))
      refine ⟨_, rfl, s, T.CS, dx, _, _, rfl, sall _ _ e1, T.clS, T.n_direct, lk_direct, ?_⟩
      refine ⟨l, d, moved rows r i, rows, nd, rfl, .inl upd_same, e3.same sall, fun x hx => mp.mem_iff.mpr hx, fun x hx => mp.mem_iff.mp hx, G.nodup, G.len, G.perm mp, fun H' a s' na hS' => ?_⟩
      exact q H' a (sall.trans s') hS'
theorem ok_swneed (T : Txt K mg) : FnOk P w K mg base CX0 8 T.sWithNeed.f T.sWithNeed.fd ["self", "name", "other"] (spWithNeed T.CS) := by
  have G_sNeedRow : FnOk P w K mg base CX0 1 T.sNeedRow.f T.sNeedRow.fd ["self", "name"] (spNeedRow T.CS) := ok_sneedrow T
  have G_sOf : FnOk P w K mg base CX0 7 T.sOf.f T.sOf.fd ["cls", "rows", "needs"] (spOf K T.CS) := ok_sof T
  refine T.sWithNeed.F.ok sc_swneed (fun vs H Q E h => ?_) (fun cdv A outer s H vs Q E hr h => ?_)
  · obtain ⟨s, rows, nd, hi, lo, rfl, _⟩ := h
    rfl
  · obtain ⟨s, rows, nd, hi, lo, rfl, hS, hhi, hlo, hno, G, G2, q⟩ := h
    obtain ⟨dx, n, d, o, z, e1, e2, ⟨t, e3, f3⟩, e4⟩ := id hS
    refine ⟨_, (pss_cons (ps_expr (pe_meth (pv 0) T.clS T.m_sNeedRow G_sNeedRow (hr.mono (by decide)) T.bd_sNeedRow .nil pass0 (pa_cons (pv 1) pa_nil)))
      (pss_cons (ps_expr (pe_meth (pv 0) T.clS T.m_sNeedRow G_sNeedRow (hr.mono (by decide)) T.bd_sNeedRow .nil pass0 (pa_cons (pv 2) pa_nil)))
      (pss_cons (ps_set (i := 3) sc_swneed.nd rfl (.inl rfl) (pe_callTy call_tuple_of (by rfl) T.b_tuple bb_tuple (pa_cons (pe_lc (own := [("one", 4)]) (g := (gName 4)) (by rfl) sc_swneed.nd (pi_tup (pe_dget (hu_of hr) (pe_fld (pv 0) rfl) (pv 1) (fun _ _ => rfl))) (blkOk_by (own := [("one", 4)]) (N := ["self", "name", "other", "others", "one"]) (sc := defScope sSWithNeed) (by decide +kernel)) (fun _ _ _ _ _ => (pg_name (i := 4) sc_swneed.nd rfl (.inl rfl))) (fun _ _ _ _ _ => (pts_one (pt_cmpR op_ne (pv 4) (pv 2) (nomark _)))) (fun _ _ _ _ _ => (pv 4))) pa_nil)))
      (pss_one (ps_ret (pe_cmeth (pe_glob (v := .ref T.CS) (by rfl) T.gS rfl) T.cread T.cmet (G_sOf.raw T.bd_sOf .nil) (hr.mono (by decide)) pass0 (pa_cons (pe_fld (pv 0) rfl) (pa_cons (pe_spread (pe_fld (pv 0) rfl) (pv 1) (pe_tup (pa_star (pv 3) (pa_cons (pv 2) pa_nil)))) pa_nil)))))))), ?_⟩
    refine ⟨_, rfl, s, dx, _, rfl, e1, rfl, _, rfl, s, rows, nd, hi, rfl, hS, G.nodup, hhi, ?_⟩
    refine ⟨_, rfl, s, dx, _, rfl, e1, rfl, _, rfl, s, rows, nd, lo, rfl, hS, G.nodup, hlo, ?_⟩
    dsimp only
    refine ⟨_, rfl, s, T.CS, dx, _, _, rfl, e1, T.clS, T.n_direct, lk_direct, _, rfl, d, _, rfl, by rw [← valV_in_mapf (f := fun r => V.ref (t r)) hhi]; exact DGet.k (k := kS hi) e3, t hi, rfl, ⟨_, SqT.of (f3 hi hhi)⟩, fun D nD => lc_map (it := V.str) (ys := nd hi) (fun _ => true) V.str (wlk_tup (SqT.of (f3 hi hhi)) nD) nD (by have := G.nlen hhi; omega) (fun _ => rfl) (fun x H6 hx sx Qc hq => ?_) (fun x H6 hx sx Qv hq => ⟨_, rfl, hq _ (Same.refl _)⟩) fun H6 sx eD => ?_⟩
    · refine ⟨_, rfl, _, rfl, rfl, _, rfl, ?_⟩
      rw [decide_eq_false fun z => hno (by rw [← V.str.inj z]; exact hx)]
      exact hq _ (Same.refl _)
    · have s6 : Same H H6 := fun b u e => sx _ _ (ne_of_none e nD) e
      rw [filt_true] at eD
      replace eD : H6 D = some (.lst (ST (nd hi))) := eD
      refine ⟨D, _, rfl, .inl ⟨SqL.of eD, fun t1 nt1 => ?_⟩⟩
      have s7 := same_upd (o := .tup (ST (nd hi))) nt1
      have et1 : (upd H6 t1 (.tup (ST (nd hi)))) t1 = some (.tup (ST (nd hi))) := upd_same
      generalize upd H6 t1 (.tup (ST (nd hi))) = H7 at s7 et1
      have s07 := s6.trans s7
      refine ⟨rfl, _, rfl, s, T.CS, dx, _, _, rfl, s07 _ _ e1, T.clS, T.n_names, lk_names, ?_⟩
      intro p np
      have sp := same_upd (o := .dK []) np
      have ndp : d ≠ p := ne_of_none (s07 _ _ e3) np
      refine ⟨_, rfl, s, T.CS, dx, _, _, rfl, sp _ _ (s07 _ _ e1), T.clS, T.n_direct, lk_direct, d, _, rfl, upd_same, ndp, sp _ _ (s07 _ _ e3), by rw [List.length_map]; exact small7 G.len, fun q1 nq => ?_⟩
      obtain ⟨nq1, nqp⟩ := free_upd nq
      obtain ⟨nq2, _⟩ := free_upd nq1
      have hbase : ∀ (b : Addr) (u : HO), H7 b = some u → (upd (upd (upd H7 p (.dK [])) p (.dK (rows.map fun r => (kS r, V.ref (t r))))) q1 (.dK [])) b = some u := fun b u e => by
        rw [upd_ne (ne_of_none e nq2), upd_ne (ne_of_none e np), upd_ne (ne_of_none e np)]
        exact e
      have hp8 : (upd (upd (upd H7 p (.dK [])) p (.dK (rows.map fun r => (kS r, V.ref (t r))))) q1 (.dK [])) p = some (.dK (rows.map fun r => (kS r, V.ref (t r)))) := by rw [upd_ne nqp.symm, upd_same]
      have hq8 : (upd (upd (upd H7 p (.dK [])) p (.dK (rows.map fun r => (kS r, V.ref (t r))))) q1 (.dK [])) q1 = some (.dK []) := upd_same
      generalize upd (upd (upd H7 p (.dK [])) p (.dK (rows.map fun r => (kS r, V.ref (t r))))) q1 (.dK []) = H8 at hbase hp8 hq8
      refine ⟨_, rfl, _, rfl, t1, _, rfl, .inl (SqT.of (hbase _ _ et1)), _, rfl, ?_⟩
      dsimp only [tNil]
      have el : ST (nd hi) ++ [V.str lo] = ST (nd hi ++ [lo]) := (ST_snoc _ _).symm
      rw [el]
      refine ⟨by rw [ST_len, List.length_append]; have := G.nlen hhi; exact Nat.le_of_lt (small1000 (by show (nd hi).length + 1 ≤ 1000; omega)), fun t2 nt2 => ?_⟩
      have s9 := same_upd (o := .tup (ST (nd hi ++ [lo]))) nt2
      refine ⟨kS hi, rfl, s9 _ _ hp8, s9 _ _ hq8, ?_⟩
      have ht2p : t2 ≠ p := (ne_of_none hp8 nt2).symm
      have ht2q : t2 ≠ q1 := (ne_of_none hq8 nt2).symm
      have hfin : ∀ (b : Addr) (u : HO), H7 b = some u → (upd (upd (upd H8 t2 (.tup (ST (nd hi ++ [lo])))) q1 (.dK [(kS hi, .ref t2)])) p (.dK (putK (rows.map fun r => (kS r, V.ref (t r))) (kS hi) (.ref t2)))) b = some u := fun b u e => by
        rw [upd_ne (ne_of_none e np), upd_ne (ne_of_none e nq2)]
        exact s9 _ _ (hbase _ _ e)
      have hft2 : (upd (upd (upd H8 t2 (.tup (ST (nd hi ++ [lo])))) q1 (.dK [(kS hi, .ref t2)])) p (.dK (putK (rows.map fun r => (kS r, V.ref (t r))) (kS hi) (.ref t2)))) t2 = some (.tup (ST (nd hi ++ [lo]))) := by
        rw [upd_ne ht2p, upd_ne ht2q, upd_same]
      have hfp : (upd (upd (upd H8 t2 (.tup (ST (nd hi ++ [lo])))) q1 (.dK [(kS hi, .ref t2)])) p (.dK (putK (rows.map fun r => (kS r, V.ref (t r))) (kS hi) (.ref t2)))) p = some (.dK (rows.map fun r => (kS r, if r = hi then V.ref t2 else V.ref (t r)))) := by
        rw [upd_same, putK_old_mapf hhi]
      generalize upd (upd (upd H8 t2 (.tup (ST (nd hi ++ [lo])))) q1 (.dK [(kS hi, .ref t2)])) p (.dK (putK (rows.map fun r => (kS r, V.ref (t r))) (kS hi) (.ref t2))) = H10 at hfin hft2 hfp
      have sf : Same H H10 := fun b u e => hfin _ _ (s07 _ _ e)
      refine ⟨n, p, rows, rows, _, rfl, .inr (sf _ _ e2), ⟨fun r => if r = hi then t2 else t r, ?_, fun r hr0 => ?_⟩, fun x hx => hx, fun x hx => hx, G.nodup, G.len, G2, fun H' a s' na hS' => q H' a (sf.trans s') hS'⟩
      · rw [hfp]
        congr 2
        refine List.map_congr_left fun r _ => ?_
        dsimp only
        by_cases c : r = hi
        · rw [if_pos c, if_pos c]
        · rw [if_neg c, if_neg c]
      · dsimp only
        by_cases c : r = hi
        · rw [if_pos c, if_pos c]
          exact hft2
        · rw [if_neg c, if_neg c]
          exact sf _ _ (f3 r hr0)
theorem Good.less {rows : List Str} {nd : Str → List Str} (G : Good rows nd) (hi lo : Str) : Good rows (fun x => if x = hi then (nd hi).filter (fun y => decide (y ≠ lo)) else nd x) := by
  have hs : ∀ x o, o ∈ (if x = hi then (nd hi).filter (fun y => decide (y ≠ lo)) else nd x) → o ∈ nd x := fun x o ho => by
    by_cases c : x = hi
    · rw [if_pos c] at ho
      rw [c]
      exact (List.mem_filter.mp ho).1
    · rw [if_neg c] at ho
      exact ho
  obtain ⟨rk, D⟩ := G.dag
  refine ⟨G.names, G.len, ⟨rk, D.nd, fun r hr o ho => D.sub r hr o (hs r o ho), fun r hr o ho => D.lt r hr o (hs r o ho)⟩, fun r hr => ?_⟩
  by_cases c : r = hi
  · rw [if_pos c]
    rw [c] at hr
    exact (G.ndn _ hr).filter _
  · rw [if_neg c]
    exact G.ndn r hr
theorem ok_swout (T : Txt K mg) : FnOk P w K mg base CX0 8 T.sWithoutNeed.f T.sWithoutNeed.fd ["self", "name", "other"] (spWithout T.CS) := by
  have G_sNeedRow : FnOk P w K mg base CX0 1 T.sNeedRow.f T.sNeedRow.fd ["self", "name"] (spNeedRow T.CS) := ok_sneedrow T
  have G_sOf : FnOk P w K mg base CX0 7 T.sOf.f T.sOf.fd ["cls", "rows", "needs"] (spOf K T.CS) := ok_sof T
  refine T.sWithoutNeed.F.ok sc_swout (fun vs H Q E h => ?_) (fun cdv A outer s H vs Q E hr h => ?_)
  · obtain ⟨s, rows, nd, hi, lo, rfl, _⟩ := h
    rfl
  · obtain ⟨s, rows, nd, hi, lo, rfl, hS, hhi, hin, G, q⟩ := h
    obtain ⟨dx, n, d, o, z, e1, e2, ⟨t, e3, f3⟩, e4⟩ := id hS
    have hlo : lo ∈ rows := let ⟨_, D0⟩ := G.dag; D0.sub _ hhi _ hin
    have hdg : DGet H d (.str hi) (some (.ref (t hi))) := by rw [← valV_in_mapf (f := fun r => V.ref (t r)) hhi]; exact DGet.k (k := kS hi) e3
    refine ⟨_, (pss_cons (ps_expr (pe_meth (pv 0) T.clS T.m_sNeedRow G_sNeedRow (hr.mono (by decide)) T.bd_sNeedRow .nil pass0 (pa_cons (pv 1) pa_nil)))
      (pss_cons (ps_expr (pe_meth (pv 0) T.clS T.m_sNeedRow G_sNeedRow (hr.mono (by decide)) T.bd_sNeedRow .nil pass0 (pa_cons (pv 2) pa_nil)))
      (pss_cons (ps_if (pt_cmpR op_notIn_seq (pv 2) (pe_dget (hu_of hr) (pe_fld (pv 0) rfl) (pv 1) (fun _ _ => rfl)) (by rfl))
        (pss_one ps_never)
        pss_nil)
      (pss_cons (ps_set (i := 3) sc_swout.nd rfl (.inl rfl) (pe_callTy call_tuple_of (by rfl) T.b_tuple bb_tuple (pa_cons (pe_lc (own := [("one", 4)]) (g := (gName 4)) (by rfl) sc_swout.nd (pi_tup (pe_dget (hu_of hr) (pe_fld (pv 0) rfl) (pv 1) (fun _ _ => rfl))) (blkOk_by (own := [("one", 4)]) (N := ["self", "name", "other", "others", "one"]) (sc := defScope sSWithoutNeed) (by decide +kernel)) (fun _ _ _ _ _ => (pg_name (i := 4) sc_swout.nd rfl (.inl rfl))) (fun _ _ _ _ _ => (pts_one (pt_cmpR op_ne (pv 4) (pv 2) (nomark _)))) (fun _ _ _ _ _ => (pv 4))) pa_nil)))
      (pss_one (ps_ret (pe_cmeth (pe_glob (v := .ref T.CS) (by rfl) T.gS rfl) T.cread T.cmet (G_sOf.raw T.bd_sOf .nil) (hr.mono (by decide)) pass0 (pa_cons (pe_fld (pv 0) rfl) (pa_cons (pe_spread (pe_fld (pv 0) rfl) (pv 1) (pv 3)) pa_nil))))))))), ?_⟩
    refine ⟨_, rfl, s, dx, _, rfl, e1, rfl, _, rfl, s, rows, nd, hi, rfl, hS, G.nodup, hhi, ?_⟩
    refine ⟨_, rfl, s, dx, _, rfl, e1, rfl, _, rfl, s, rows, nd, lo, rfl, hS, G.nodup, hlo, ?_⟩
    refine ⟨_, rfl, _, rfl, s, T.CS, dx, _, _, rfl, e1, T.clS, T.n_direct, lk_direct, _, rfl, d, _, rfl, hdg, t hi, _, rfl, .inr (SqT.of (f3 hi hhi)), rfl, flat_ST _, _, rfl, ?_⟩
    show (if (!inV (.str lo) (ST (nd hi))) = true then _ else _)
    rw [inV_ST, decide_eq_true hin]
    refine iteF ?_
    dsimp only
    refine ⟨_, rfl, s, T.CS, dx, _, _, rfl, e1, T.clS, T.n_direct, lk_direct, _, rfl, d, _, rfl, hdg, t hi, rfl, ⟨_, SqT.of (f3 hi hhi)⟩, fun D nD => lc_map (it := V.str) (ys := nd hi) (fun x => decide (x ≠ lo)) V.str (wlk_tup (SqT.of (f3 hi hhi)) nD) nD (by have := G.nlen hhi; omega) (fun _ => rfl) (fun x H6 hx sx Qc hq => ?_) (fun x H6 hx sx Qv hq => ⟨_, rfl, hq _ (Same.refl _)⟩) fun H6 sx eD => ?_⟩
    · refine ⟨_, rfl, _, rfl, rfl, _, rfl, ?_⟩
      have : (!decide (V.str x = V.str lo)) = decide (x ≠ lo) := by
        by_cases c : x = lo
        · subst c; simp
        · rw [decide_eq_true c, decide_eq_false fun z => c (V.str.inj z)]; rfl
      rw [this]
      exact hq _ (Same.refl _)
    · have s6 : Same H H6 := fun b u e => sx _ _ (ne_of_none e nD) e
      replace eD : H6 D = some (.lst (ST ((nd hi).filter fun x => decide (x ≠ lo)))) := eD
      refine ⟨D, _, rfl, .inl ⟨SqL.of eD, fun t1 nt1 => ?_⟩⟩
      have s7 := same_upd (o := .tup (ST ((nd hi).filter fun x => decide (x ≠ lo)))) nt1
      have et1 : (upd H6 t1 (.tup (ST ((nd hi).filter fun x => decide (x ≠ lo))))) t1 = some (.tup (ST ((nd hi).filter fun x => decide (x ≠ lo)))) := upd_same
      generalize upd H6 t1 (.tup (ST ((nd hi).filter fun x => decide (x ≠ lo)))) = H7 at s7 et1
      have s07 := s6.trans s7
      refine ⟨rfl, _, rfl, s, T.CS, dx, _, _, rfl, s07 _ _ e1, T.clS, T.n_names, lk_names, ?_⟩
      intro p np
      have sp := same_upd (o := .dK []) np
      have ndp : d ≠ p := ne_of_none (s07 _ _ e3) np
      refine ⟨_, rfl, s, T.CS, dx, _, _, rfl, sp _ _ (s07 _ _ e1), T.clS, T.n_direct, lk_direct, d, _, rfl, upd_same, ndp, sp _ _ (s07 _ _ e3), by rw [List.length_map]; exact small7 G.len, fun q1 nq => ?_⟩
      obtain ⟨nq1, nqp⟩ := free_upd nq
      obtain ⟨nq2, _⟩ := free_upd nq1
      have hp8 : (upd (upd (upd H7 p (.dK [])) p (.dK (rows.map fun r => (kS r, V.ref (t r))))) q1 (.dK [])) p = some (.dK (rows.map fun r => (kS r, V.ref (t r)))) := by rw [upd_ne nqp.symm, upd_same]
      refine ⟨_, rfl, _, rfl, kS hi, rfl, hp8, upd_same, ?_⟩
      have hfin : ∀ (b : Addr) (u : HO), H7 b = some u → (upd (upd (upd (upd (upd H7 p (.dK [])) p (.dK (rows.map fun r => (kS r, V.ref (t r))))) q1 (.dK [])) q1 (.dK [(kS hi, .ref t1)])) p (.dK (putK (rows.map fun r => (kS r, V.ref (t r))) (kS hi) (.ref t1)))) b = some u := fun b u e => by
        rw [upd_ne (ne_of_none e np), upd_ne (ne_of_none e nq2), upd_ne (ne_of_none e nq2), upd_ne (ne_of_none e np), upd_ne (ne_of_none e np)]
        exact e
      have hfp : (upd (upd (upd (upd (upd H7 p (.dK [])) p (.dK (rows.map fun r => (kS r, V.ref (t r))))) q1 (.dK [])) q1 (.dK [(kS hi, .ref t1)])) p (.dK (putK (rows.map fun r => (kS r, V.ref (t r))) (kS hi) (.ref t1)))) p = some (.dK (rows.map fun r => (kS r, if r = hi then V.ref t1 else V.ref (t r)))) := by
        rw [upd_same, putK_old_mapf hhi]
      generalize upd (upd (upd (upd (upd H7 p (.dK [])) p (.dK (rows.map fun r => (kS r, V.ref (t r))))) q1 (.dK [])) q1 (.dK [(kS hi, .ref t1)])) p (.dK (putK (rows.map fun r => (kS r, V.ref (t r))) (kS hi) (.ref t1))) = H10 at hfin hfp
      have sf : Same H H10 := fun b u e => hfin _ _ (s07 _ _ e)
      refine ⟨n, p, rows, rows, _, rfl, .inr (sf _ _ e2), ⟨fun r => if r = hi then t1 else t r, ?_, fun r hr0 => ?_⟩, fun x hx => hx, fun x hx => hx, G.nodup, G.len, G.less hi lo, fun H' a s' na hS' => q H' a (sf.trans s') hS'⟩
      · rw [hfp]
        congr 2
        refine List.map_congr_left fun r _ => ?_
        dsimp only
        by_cases c : r = hi
        · rw [if_pos c, if_pos c]
        · rw [if_neg c, if_neg c]
      · dsimp only
        by_cases c : r = hi
        · rw [if_pos c, if_pos c]
          exact hfin _ _ et1
        · rw [if_neg c, if_neg c]
          exact sf _ _ (f3 r hr0)
end
end K19

set_option Elab.async false
set_option linter.all false
set_option maxRecDepth 100000
set_option maxHeartbeats 4000000
/-! The reader. -/
namespace K19
open PySem PySem.Spec PyProof.Rows L2 StX ClX GenW
theorem sc_rset : FnScope ["self", "value"] ["self", "value"] (defScope sRSet) := ⟨rfl, rfl, rfl, by decide +kernel, rfl, by decide +kernel, by decide +kernel⟩
theorem sc_rinit : FnScope ["self", "passes"] ["self", "passes"] (defScope sRInit) := ⟨rfl, rfl, rfl, by decide +kernel, rfl, by decide +kernel, by decide +kernel⟩
theorem sc_rrows : FnScope ["self", "sheet", "number"] ["self", "sheet", "number"] (defScope sRRowsIn) := ⟨rfl, rfl, rfl, by decide +kernel, rfl, by decide +kernel, by decide +kernel⟩
theorem sc_rcall : FnScope ["self", "sheet", "found", "number", "rows", "name"] ["self", "sheet"] (defScope sRCall) := ⟨rfl, rfl, rfl, by decide +kernel, rfl, by decide +kernel, by decide +kernel⟩
abbrev accN : List Str := ["self", "sheet", "needs", "done", "number", "found", "name", "other"]
theorem sc_acc : GScope accN ["self", "sheet"] (defScope sRAccepted) := ⟨rfl, rfl, rfl, by decide +kernel, rfl, by decide +kernel, by decide +kernel⟩
def wTest : Stmt → Expr
  | .While t _ _ _ => t
  | _ => .Constant .none 0 ⟨0, 0, 0, 0⟩
def wBody : Stmt → List Stmt
  | .While _ b _ _ => b
  | _ => []
def wPos : Stmt → Pos
  | .While _ _ _ p => p
  | _ => ⟨0, 0, 0, 0⟩
def yE : Stmt → Expr
  | .Expr (.Yield (some e) _) _ => e
  | _ => .Constant .none 0 ⟨0, 0, 0, 0⟩
def yP : Stmt → Pos
  | .Expr (.Yield _ p) _ => p
  | _ => ⟨0, 0, 0, 0⟩
def eP : Stmt → Pos
  | .Expr _ p => p
  | _ => ⟨0, 0, 0, 0⟩
abbrev accPre : List Stmt := (defBody sRAccepted).take 3
abbrev accW : Stmt := (defBody sRAccepted).getD 3 (.Pass ⟨0, 0, 0, 0⟩)
abbrev accWb : List Stmt := (wBody accW).take 3
abbrev accY : Stmt := (wBody accW).getD 3 (.Pass ⟨0, 0, 0, 0⟩)
theorem acc_body : defBody sRAccepted = accPre ++ [.While (wTest accW) (accWb ++ [.Expr (.Yield (some (yE accY)) (yP accY)) (eP accY)]) [] (wPos accW)] := by rfl
section
variable {P : Program} {w : World} {K : PySem.W.Frag} {mg : Str → Option Value} {base : Heap}
theorem ok_rset (T : Txt K mg) : FnOk P w K mg base CX0 3 T.rSet.f T.rSet.fd ["self", "value"] (spRSet T.CR) := by
  have G_isBetween : FnOk P w K mg base CX0 2 T.isBetween.f T.isBetween.fd ["value", "least", "most"] spBetween := ok_between T
  obtain ⟨tm, gM⟩ := T.gMost
  refine T.rSet.F.ok sc_rset (fun vs H Q E h => ?_) (fun cdv A outer s H vs Q E hr h => ?_)
  · obtain ⟨a, dx, rfl, _⟩ := h
    rfl
  · obtain ⟨a, dx, rfl, e, q⟩ := h
    refine ⟨_, (pss_cons (ps_if (pt_not (pt_val (pe_call G_isBetween (hr.mono (by decide)) (by rfl) T.g_isBetween T.isBetween.F.kp T.bd_isBetween .nil pass0 (pa_cons (pv 1) (pa_cons pe_int (pa_cons (pe_glob (v := .int 60) (by rfl) gM ⟨_, rfl⟩) pa_nil))))))
        (pss_one ps_never)
        pss_nil)
      (pss_one (ps_fld (pv 0) (pv 1) rfl))), ?_⟩
    refine ⟨_, rfl, 60, 0, 60, rfl, by decide, by decide, true, rfl, iteF ?_⟩
    exact ⟨_, rfl, _, rfl, a, T.CR, dx, _, rfl, e, T.clR, T.n_bound, (by show 0 < 1000; decide), q⟩
theorem ok_rinit (T : Txt K mg) : FnOk P w K mg base CX0 6 T.rInit.f T.rInit.fd ["self", "passes"] (spRSet T.CR) := by
  have G_rSet : FnOk P w K mg base CX0 3 T.rSet.f T.rSet.fd ["self", "value"] (spRSet T.CR) := ok_rset T
  refine T.rInit.F.ok sc_rinit (fun vs H Q E h => ?_) (fun cdv A outer s H vs Q E hr h => ?_)
  · obtain ⟨a, dx, rfl, _⟩ := h
    rfl
  · obtain ⟨a, dx, rfl, e, q⟩ := h
    refine ⟨_, (pss_one (ps_propset (pv 0) (pv 1) T.clR T.setO G_rSet (hr.mono (by decide)) T.bd_rSet pass0 rfl)), ?_⟩
    exact ⟨_, rfl, _, rfl, a, dx, _, rfl, e, a, dx, rfl, e, q⟩
theorem ok_rrows (T : Txt K mg) : FnOk P w K mg base CX0 3 T.rRowsIn.f T.rRowsIn.fd ["self", "sheet", "number"] (spRowsIn T.CS) := by
  have G_sRows : FnOk P w K mg base CX0 1 T.sRows.f T.sRows.fd ["self"] (spRows T.CS) := ok_srows T
  refine T.rRowsIn.F.ok sc_rrows (fun vs H Q E h => ?_) (fun cdv A outer s H vs Q E hr h => ?_)
  · obtain ⟨a, s, dx, n, d, o, z, v, rfl, _⟩ := h
    rfl
  · obtain ⟨a, s, dx, n, d, o, z, v, rfl, e, q⟩ := h
    exact ⟨_, (pss_one (ps_ret (pe_prop (pv 1) T.clS T.propR G_sRows (hr.mono (by decide)) T.bd_sRows .nil pass0 rfl))), _, rfl, s, dx, _, rfl, e, s, dx, _, n, rfl, e, lk_names, q⟩
end
/-! ### what the generator's parts ask -/
def rLenD : List V → Hp → VK → Prop := fun xs H Q => ∃ a kvs, xs = [V.ref a] ∧ H a = some (HO.dK kvs) ∧ Q (V.int (kvs.length : Nat)) H
def tAccPre (CS : Addr) : TS := tSeq (tAsg (tProp CS (spNeeds CS) [] E0 (tVar 1)) (gName 2)) (tSeq (tAsg tDNewK (gName 3)) (tAsg (tC (V.int 0)) (gName 4)))
def tAccT (K : PySem.W.Frag) : TT := tAnd (tTest (tOp (rI0 fun i j => V.bl (decide (i < j))) (tVar 4) (tFld K (tVar 0) "bound"))) (tTest (tOp (rI0 fun i j => V.bl (decide (i < j))) (tCB rLenD (tCons (tVar 3) tNil)) (tCB rLenD (tCons (tVar 2) tNil))))
def tAccB (K : PySem.W.Frag) : TS := tIfS (tAnd (tB (tDNotIn (tVar 6) (tVar 3))) (tB (tCB (rAll K) (tCons (tLc (iTup K (tDGet (tVar 2) (tVar 6))) (gName 7) tYes (tDIn (tVar 7) (tVar 3)) [7]) tNil))))
  (tSeq (sDPut (tVar 3) (tVar 6) (tVar 4)) (tDrop (tBM K "list" rAppend (tVar 5) (tCons (tVar 6) tNil)))) tNext
def tAccW (K : PySem.W.Frag) (CR CS : Addr) : TS := tSeq (tAug 4 (tC (V.int 1)) (ipI fun i j => i + j)) (tSeq (tAsg (tLst tNil) (gName 5)) (tFor (iTup K (tMeth CR "rows_in" (spRowsIn CS) [] E0 (tVar 0) (tCons (tVar 1) (tCons (tVar 4) tNil)))) (gName 6) (tAccB K)))
def tAccE (K : PySem.W.Frag) : TE := tCB (rTupOf K) (tCons (tVar 5) tNil)
abbrev gPair (K : PySem.W.Frag) : TG := gTup K 2 (gCons (gName 3) (gCons (gName 4) gNil))
abbrev tPut (K : PySem.W.Frag) : TS := tFor (iTup K (tVar 4)) (gName 5) (tAsg (tAdd (tVar 3) (tC (.int 1))) (gSub (tVar 2) (tVar 5) fun o i v H Q => ∃ a kvs ky, o = .ref a ∧ H a = some (.dK kvs) ∧ i = kV ky ∧ kvs.length < sizeLine ∧ Q (upd H a (.dK (putK kvs ky v)))))
section
variable {P : Program} {w : World} {K : PySem.W.Frag} {mg : Str → Option Value} {base : Heap}
theorem PassD_len (L : List Str) (p : Str → Nat) : (PassD L p).length = L.length := List.length_map _
abbrev rcN : List Str := ["self", "sheet", "found", "number", "rows", "name"]
abbrev rcX (P : Program) (w : World) (K : PySem.W.Frag) (mg : Str → Option Value) (base : Heap) (f : Addr) (cd : Value) (A : Around) (outer : List Env) (s : Shared) (H : Hp) (E : XK) : Cx := (cxOf CX0 P w K mg base rcN "Reader.__call__" (defScope sRCall) f cd A outer s H E).nox
section
variable (T : Txt K mg) {f f2 : Addr} {cd cdv : Value} {A A1 : Around} {L : Addr} {s s0 : Shared} {H H0 : Hp} {E : XK} {outer : List Env} (hr : Room 3 (A.deeper (envOfC "Reader.accepted" (defScope sRAccepted) L f cdv)))
include T hr
theorem d_pre : PSs (GP.cx ⟨accN, "Reader.accepted", defScope sRAccepted, f, cdv, A, L⟩ (rcX P w K mg base f2 cd A1 outer s H E) s0 H0) accPre (tAccPre T.CS) := by
  have G_sNeeds : FnOk P w K mg base CX0 1 T.sNeeds.f T.sNeeds.fd ["self"] (spNeeds T.CS) := ok_sneeds T
  exact (pss_cons (ps_set (i := 2) sc_acc.nd rfl (.inl rfl) (pe_prop (pv 1) T.clS T.propN G_sNeeds (hr.mono (by decide)) T.bd_sNeeds .nil pass0 rfl))
      (pss_cons (ps_set (i := 3) sc_acc.nd rfl (.inr rfl) pe_dnewK)
      (pss_one (ps_set (i := 4) sc_acc.nd rfl (.inl rfl) pe_int))))
theorem d_test : PT (GP.cx ⟨accN, "Reader.accepted", defScope sRAccepted, f, cdv, A, L⟩ (rcX P w K mg base f2 cd A1 outer s H E) s0 H0) (wTest accW) (tAccT K) := by
  exact (PW.pt (pw_and (pt_cmpR op_lt (pv 4) (pe_fld (pv 0) rfl) (nomark _)) (pw_and1 (pt_cmpR op_lt (pe_callB call_lenD (by rfl) T.b_len PySem.boot_len (pa_cons (pv 3) pa_nil)) (pe_callB call_lenD (by rfl) T.b_len PySem.boot_len (pa_cons (pv 2) pa_nil)) (nomark _)))))
theorem d_wb : PSs (GP.cx ⟨accN, "Reader.accepted", defScope sRAccepted, f, cdv, A, L⟩ (rcX P w K mg base f2 cd A1 outer s H E) s0 H0) accWb (tAccW K T.CR T.CS) := by
  have G_rRowsIn : FnOk P w K mg base CX0 3 T.rRowsIn.f T.rRowsIn.fd ["self", "sheet", "number"] (spRowsIn T.CS) := ok_rrows T
  exact (pss_cons (ps_aug (i := 4) sc_acc.nd rfl (.inl rfl) pe_int ip_add)
      (pss_cons (ps_set (i := 5) sc_acc.nd rfl (.inl rfl) (pe_lst pa_nil))
      (pss_one (ps_for PassesOwn.never rfl (pi_tup (pe_meth (pv 0) T.clR T.m_rRowsIn G_rRowsIn (hr.mono (by decide)) T.bd_rRowsIn .nil pass0 (pa_cons (pv 1) (pa_cons (pv 4) pa_nil)))) (pg_name (i := 6) sc_acc.nd rfl (.inl rfl))
        (pss_one (ps_if (PW.pt (pw_and (pt_cmp (pc_dnotin (hu_of hr) (pv 6) (pv 3))) (pw_and1 (pt_val (pe_callB (cr_all rfl) (by rfl) T.b_all bb_all (pa_cons (pe_lc (own := [("other", 7)]) (g := (gName 7)) (by rfl) sc_acc.nd (pi_tup (pe_dget (hu_of hr) (pv 2) (pv 6) (fun _ _ => rfl))) (blkOk_by (own := [("other", 7)]) (N := ["self", "sheet", "needs", "done", "number", "found", "name", "other"]) (sc := defScope sRAccepted) (by decide +kernel)) (fun _ _ _ _ _ => (pg_name (i := 7) sc_acc.nd rfl (.inl rfl))) (fun _ _ _ _ _ => pts_nil) (fun _ _ _ _ _ => (pe_cmp (pc_din (hu_of hr) (pv 7) (pv 3)) rfl))) pa_nil))))))
        (pss_cons (ps_dput (hu_of hr) (pv 3) (pv 6) (pv 4) rfl)
      (pss_one (ps_expr (pe_bm PySem.F.plainAttrs_list PySem.F.slot_list_append PySem.F.type_list_append mt_append (pv 5) (pa_cons (pv 6) pa_nil)))))
        pss_nil))))))
theorem d_e : PE (GP.cx ⟨accN, "Reader.accepted", defScope sRAccepted, f, cdv, A, L⟩ (rcX P w K mg base f2 cd A1 outer s H E) s0 H0) (yE accY) (tAccE K) := by
  exact (pe_callTy call_tuple_of (by rfl) T.b_tuple bb_tuple (pa_cons (pv 5) pa_nil))
end
theorem ok_rcall (T : Txt K mg) : FnOk P w K mg base CX0 7 T.rCall.f T.rCall.fd ["self", "sheet"] (spRCall T.CR T.CS) := by
  have G_sRows : FnOk P w K mg base CX0 1 T.sRows.f T.sRows.fd ["self"] (spRows T.CS) := ok_srows T
  obtain ⟨oc, od, kV, doc, pm, an, gcd, ct, osl, ee, lk, hcd⟩ := T.rAccepted.F.ex
  have hbd := T.bd_rAccepted
  rw [ee] at lk hbd
  rw [acc_body] at lk hbd
  refine T.rCall.F.ok sc_rcall (fun vs H Q E h => ?_) (fun cdv A outer s H vs Q E hr h => ?_)
  · obtain ⟨r, s, dx, rows, nd, p, rfl, _⟩ := h
    rfl
  · obtain ⟨r, s, dx, rows, nd, p, rfl, er, hS, G, I, q⟩ := h
    refine ⟨_, pss_cons (ps_set (i := 2) sc_rcall.nd rfl (.inr rfl) pe_dnewK) (pss_cons (ps_forgen (k := 3) PassesOwn.never (by rfl) T.b_enumerate bb_enumerate (pv 0) T.clR T.m_rAccepted (pa_cons (pv 1) pa_nil) lk hcd sc_acc (hr.mono (by decide)) hbd
      (fun A L s0 H0 h => d_pre T h) (fun A L s0 H0 h => d_test T h) (fun A L s0 H0 h => d_wb T h) (fun A L s0 H0 h => d_e T h)
      (gt := gPair K) (pgk_tup rfl (pgks_cons (pgk_name (i := 3) sc_rcall.nd rfl rfl) (pgks_cons (pgk_name (i := 4) sc_rcall.nd rfl rfl) pgks_nil)))
      (tb := tPut K) (pssk_one (psk_for PassesOwn.never rfl (pek_var (i := 4) rfl (.inl rfl)) (pgk_name (i := 5) sc_rcall.nd rfl rfl) (pssk_one (psk_dput (hu_of hr) (pek_var (i := 2) rfl (.inr (.inl rfl))) (pek_var (i := 5) rfl (.inl rfl)) (pek_add (pek_var (i := 3) rfl (.inl rfl)) pek_int)))))) (pss_one (ps_ret (pe_dc (own := [("name", 5)]) (g := (gName 5)) (by rfl) sc_rcall.nd (pi_tup (pe_prop (pv 1) T.clS T.propR G_sRows (hr.mono (by decide)) T.bd_sRows .nil pass0 rfl)) (blkOk_by (own := [("name", 5)]) (N := ["self", "sheet", "found", "number", "rows", "name"]) (sc := defScope sRCall) (by decide +kernel)) (fun _ _ _ _ _ => (pg_name (i := 5) sc_rcall.nd rfl (.inl rfl))) (fun _ _ _ _ _ => (pts_one (pt_cmp (pc_din (hu_of hr) (pv 5) (pv 2))))) (fun _ _ _ _ _ => (pv 5)) (fun _ _ _ _ _ => (pe_dget (hu_of hr) (pv 2) (pv 5) (fun _ _ => rfl))))))), ?_⟩
    obtain ⟨rk, D0⟩ := G.dag
    obtain ⟨dxs, n, d, o, z, e1, e2, ⟨t, e3, f3⟩, e4⟩ := id hS
    have h7 := G.len
    -- found = {}
    intro fd nfd
    have sA := same_upd (o := .dK []) nfd
    have efA : (upd H fd (.dK [])) fd = some (.dK []) := upd_same
    generalize upd H fd (.dK []) = HA at sA efA
    refine ⟨_, rfl, r, dx, _, rfl, sA _ _ er, rfl, _, rfl, rfl, ?_⟩
    refine ⟨fun i m σg σc H' => ∃ nn dn v5 v6 v7 u3 u4 u5, σg = [some (.ref r), some (.ref s), some (.ref nn), some (.ref dn), some (.int (i : Nat)), v5, v6, v7] ∧ σc = [some (.ref r), some (.ref s), some (.ref fd), u3, u4, u5] ∧ m = rows.length - i ∧ i ≤ (accL rows p i).length ∧ Same H H' ∧
      H nn = none ∧ H dn = none ∧ nn ≠ dn ∧ nn ≠ fd ∧ dn ≠ fd ∧ H' nn = some (.dK (rows.map fun r => (kS r, V.ref (t r)))) ∧ H' dn = some (.dK (PassD (accL rows p i) p)) ∧ H' fd = some (.dK (PassD (accL rows p i) p)), rows.length, ?_, ?_⟩
    · -- needs, done, number
      refine ⟨_, rfl, s, dxs, _, rfl, sA _ _ e1, s, dxs, _, d, _, rfl, sA _ _ e1, lk_direct, sA _ _ e3, fun nn nnn => ?_⟩
      intro dn ndn
      obtain ⟨ndn1, ndn2⟩ := free_upd ndn
      have sN := same_upd (o := .dK (rows.map fun r => (kS r, V.ref (t r)))) nnn
      have sD := same_upd (o := .dK []) ndn
      exact ⟨nn, dn, _, _, _, _, _, _, rfl, rfl, rfl, Nat.zero_le _, sA.trans (sN.trans sD), sA.free nnn, sA.free ndn1, ndn2.symm, (ne_of_none efA nnn).symm, (ne_of_none efA ndn1).symm, sD _ _ upd_same, upd_same, sD _ _ (sN _ _ efA)⟩
    · rintro i m σg σc H1 ⟨nn, dn, v5, v6, v7, u3, u4, u5, rfl, rfl, rfl, hi, s1, nnn, ndn, x1, x2, x3, en, ed, ef⟩
      -- the test
      have hacc := accL_le (rows := rows) I.one i
      refine ⟨_, rfl, _, rfl, r, T.CR, dx, _, _, rfl, s1 _ _ er, T.clR, T.n_bound, rfl, _, _, rfl, rfl, _, rfl, ?_⟩
      rw [decide_eq_true (show ((i : Nat) : Int) < 60 by omega)]
      refine iteT ⟨_, rfl, dn, _, rfl, ed, _, rfl, nn, _, rfl, en, _, _, rfl, rfl, _, rfl, ?_⟩
      have hlen : decide (((PassD (accL rows p i) p).length : Int) < ((rows.map fun r => (kS r, V.ref (t r))).length : Int)) = decide ((accL rows p i).length < rows.length) := by
        rw [List.length_map, PassD_len]
        exact decide_eq_decide.mpr (by omega)
      rw [hlen]
      refine ite2 (fun c => ?_) (fun c => ?_)
      · have c := of_decide_eq_true c
        -- number += 1; found = []
        refine ⟨by omega, _, rfl, _, _, rfl, rfl, Nat.zero_le _, fun l nl => ?_⟩
        have ei : (i : Int) + ((1 : Nat) : Int) = ((i + 1 : Nat) : Int) := by omega
        have sl := same_upd (o := .lst []) nl
        have nlH : H l = none := s1.free nl
        have y1 : l ≠ nn := (ne_of_none en nl).symm
        have y2 : l ≠ dn := (ne_of_none ed nl).symm
        have y3 : l ≠ fd := (ne_of_none ef nl).symm
        have s2 := s1.trans sl
        have en2 := sl _ _ en
        have ed2 := sl _ _ ed
        have ef2 := sl _ _ ef
        have el2 : (upd H1 l (.lst [])) l = some (.lst []) := upd_same
        generalize upd H1 l (.lst []) = H2 at s2 en2 ed2 ef2 el2
        refine ⟨_, rfl, r, dx, _, rfl, s2 _ _ er, rfl, _, rfl, _, rfl, .ref r, s, dxs, n, d, o, z, _, rfl, s2 _ _ e1, n, rfl, ⟨_, SqT.of (s2 _ _ e2)⟩, ?_⟩
        refine for_go rows.length (fun j σ' H' => ∃ v6 v7, σ' = [some (.ref r), some (.ref s), some (.ref nn), some (.ref dn), some (.int ((i : Int) + 1)), some (.ref l), v6, v7] ∧ Same H H' ∧ H' nn = some (.dK (rows.map fun r => (kS r, V.ref (t r)))) ∧
          H' dn = some (.dK (PassD (accL rows p i ++ (rows.take j).filter fun x => decide (p x = i + 1)) p)) ∧ H' fd = some (.dK (PassD (accL rows p i) p)) ∧ H' l = some (.lst (ST ((rows.take j).filter fun x => decide (p x = i + 1))))) ?_ ?_ ?_
        · exact ⟨v6, v7, rfl, s2, en2, by rw [List.take_zero, List.filter_nil, List.append_nil]; exact ed2, ef2, el2⟩
        · rintro j σ' H3 hj ⟨w6, w7, rfl, s3, en3, ed3, ef3, el3⟩
          refine ⟨⟨_, .str rows[j], SqT.of (s3 _ _ e2), by rw [List.getElem?_map, List.getElem?_eq_getElem hj]; rfl⟩, fun x H4 ⟨eH, fx⟩ => ?_⟩
          subst H4
          have ex := fx _ (SqT.of (s3 _ _ e2))
          rw [List.getElem?_map, List.getElem?_eq_getElem hj] at ex
          have ex : V.str rows[j] = x := Option.some.inj ex
          subst ex
          have hr0 : rows[j] ∈ rows := List.getElem_mem hj
          have tf := take_filter (p := fun x => decide (p x = i + 1)) (List.getElem?_eq_getElem hj)
          have hsplit : rows = rows.take j ++ rows[j] :: rows.drop (j + 1) := by
            rw [← List.drop_eq_getElem_cons hj, List.take_append_drop]
          have stp := step_iff D0 I hsplit i
          have hlD : (accL rows p i ++ (rows.take j).filter fun x => decide (p x = i + 1)).length < 1000 := by
            rw [List.length_append]
            have h1 := List.length_filter_le (fun x => decide (p x = i + 1)) (rows.take j)
            have h2 := List.length_take_le j rows
            omega
          generalize hL : (accL rows p i ++ (rows.take j).filter fun x => decide (p x = i + 1)) = L at ed3 stp hlD
          refine ⟨_, rfl, _, rfl, dn, _, rfl, DGet.k (k := kS rows[j]) ed3, _, rfl, ?_⟩
          have hv : (valV (PassD L p) (kS rows[j])).isSome = decide (rows[j] ∈ L) := by
            show (valV (L.map fun r => (kS r, V.int (p r : Nat))) (kS rows[j])).isSome = _
            rw [valV_mapf]
            by_cases c : rows[j] ∈ L <;> simp [c]
          rw [hv]
          by_cases c1 : rows[j] ∈ L
          · rw [decide_eq_true c1]
            refine iteF (iteF ?_)
            have hne : p rows[j] ≠ i + 1 := fun e => (stp.mpr e).1 c1
            rw [if_neg (by simpa using hne)] at tf
            exact ⟨_, _, rfl, s3, en3, by rw [tf, hL]; exact ed3, ef3, by rw [tf]; exact el3⟩
          · rw [decide_eq_false c1]
            refine iteT ?_
            have hneed : DGet H3 nn (.str rows[j]) (some (.ref (t rows[j]))) := by rw [← valV_in_mapf (f := fun r => V.ref (t r)) hr0]; exact DGet.k (k := kS rows[j]) en3
            refine ⟨_, rfl, _, rfl, nn, _, rfl, hneed, t rows[j], rfl, ⟨_, SqT.of (s3 _ _ (f3 _ hr0))⟩, fun D nD => lc_map (it := V.str) (ys := nd rows[j]) (fun _ => true) (fun o => .bl (decide (o ∈ L))) (wlk_tup (SqT.of (s3 _ _ (f3 _ hr0))) nD) nD (by have := G.nlen hr0; omega) (fun _ => rfl) (fun x H6 hx sx Qc hq => hq _ (Same.refl _)) (fun x H6 hx sx Qv hq => ?_) fun H6 sx eD => ?_⟩
            · have ed6 := sx _ _ (ne_of_none ed3 nD) ed3
              refine ⟨_, rfl, _, rfl, dn, _, rfl, DGet.k (k := kS x) ed6, ?_⟩
              have hvx : (valV (PassD L p) (kS x)).isSome = decide (x ∈ L) := by
                show (valV (L.map fun r => (kS r, V.int (p r : Nat))) (kS x)).isSome = _
                rw [valV_mapf]
                by_cases c : x ∈ L <;> simp [c]
              rw [hvx]
              exact hq _ (Same.refl _)
            · have s6 : Same H3 H6 := fun b u e => sx _ _ (ne_of_none e nD) e
              refine ⟨D, (nd rows[j]).map (fun o => decide (o ∈ L)), rfl, SqL.of (by rw [eD, filt_true, List.map_map]; rfl), _, rfl, ?_⟩
              rw [List.all_map]
              have hall : ((nd rows[j]).all (id ∘ fun o => decide (o ∈ L)) = true) ↔ ∀ o ∈ nd rows[j], o ∈ L := by
                rw [List.all_eq_true]
                exact ⟨fun h o ho => of_decide_eq_true (h o ho), fun h o ho => decide_eq_true (h o ho)⟩
              have s36 := s3.trans s6
              have en6 := s6 _ _ en3
              have ed6 := s6 _ _ ed3
              have ef6 := s6 _ _ ef3
              have el6 := s6 _ _ el3
              refine ite2 (fun c2 => ?_) (fun c2 => ?_)
              · have hp := stp.mp ⟨c1, hall.mp c2⟩
                rw [if_pos (by simpa using hp)] at tf
                refine ⟨_, rfl, _, rfl, _, rfl, dn, _, rfl, DPut.k (k := kS rows[j]) ed6 (by rw [PassD_len]; exact small1000 (by omega)), ?_⟩
                have epp : putK (PassD L p) (kS rows[j]) (.int ((i : Int) + 1)) = PassD (L ++ [rows[j]]) p := by
                  have h1 := putK_new_mapf (f := fun r => V.int (p r : Nat)) c1
                  have h2 : ((p rows[j] : Nat) : Int) = (i : Int) + 1 := by rw [hp]; omega
                  rw [h2] at h1
                  exact h1
                have yl := upd_ne (H := H6) (o := .dK (putK (PassD L p) (kS rows[j]) (.int ((i : Int) + 1)))) y2
                refine ⟨_, rfl, .inl ⟨rfl, _, SqL.of (yl.trans el6)⟩, _, rfl, l, _, _, rfl, rfl, yl.trans el6, ?_, ?_⟩
                · rw [ST_len]
                  have h1 := List.length_filter_le (fun x => decide (p x = i + 1)) (rows.take j)
                  have h2 := List.length_take_le j rows
                  exact small7 (by omega)
                · refine ⟨_, _, rfl, same_at (same_at s36 ndn) nlH, ?_, ?_, ?_, ?_⟩
                  · rw [upd_ne y1.symm, upd_ne x1]
                    exact en6
                  · rw [upd_ne y2.symm, upd_same, epp, tf, ← List.append_assoc, hL]
                  · rw [upd_ne y3.symm, upd_ne x3.symm]
                    exact ef6
                  · rw [upd_same, tf, ST_snoc]
              · have hne : p rows[j] ≠ i + 1 := fun e => c2 (hall.mpr (stp.mpr e).2)
                rw [if_neg (by simpa using hne)] at tf
                exact ⟨_, _, rfl, s36, en6, by rw [tf, hL]; exact ed6, ef6, by rw [tf]; exact el6⟩
        · rintro σ' H3 ⟨w6, w7, rfl, s3, en3, ed3, ef3, el3⟩
          rw [List.take_length] at ed3 el3
          have hBl : (rows.filter fun x => decide (p x = i + 1)).length ≤ 7 := Nat.le_trans (List.length_filter_le _ _) h7
          have hgrow := accL_grow D0 I c
          have hnd := accL_nodup I.one D0.nd (i + 1)
          have eacc : accL rows p (i + 1) = accL rows p i ++ rows.filter fun x => decide (p x = i + 1) := rfl
          rw [eacc] at hnd
          refine ⟨⟨_, SqT.of (s3 _ _ e2), by rw [ST_len]; exact Nat.le_refl _⟩, _, rfl, l, _, rfl, .inl ⟨SqL.of el3, fun t0 nt0 T0 nT => ?_⟩⟩
          have st0 := same_upd (o := .tup (ST (rows.filter fun x => decide (p x = i + 1)))) nt0
          have sT0 := same_upd (o := .tup [.int (i : Nat), .ref t0]) nT
          have sB := st0.trans sT0
          have et0 : (upd (upd H3 t0 (.tup (ST (rows.filter fun x => decide (p x = i + 1))))) T0 (.tup [.int (i : Nat), .ref t0])) t0 = some (.tup (ST (rows.filter fun x => decide (p x = i + 1)))) := sT0 _ _ upd_same
          have eT0 : (upd (upd H3 t0 (.tup (ST (rows.filter fun x => decide (p x = i + 1))))) T0 (.tup [.int (i : Nat), .ref t0])) T0 = some (.tup [.int (i : Nat), .ref t0]) := upd_same
          refine ⟨T0, _, rfl, SqT.of eT0, rfl, _, _, rfl, _, _, rfl, rfl, ?_⟩
          generalize upd (upd H3 t0 (.tup (ST (rows.filter fun x => decide (p x = i + 1))))) T0 (.tup [.int (i : Nat), .ref t0]) = H4 at sB et0
          have s4 := s3.trans sB
          have en4 := sB _ _ en3
          have ed4 := sB _ _ ed3
          have ef4 := sB _ _ ef3
          generalize hB : (rows.filter fun x => decide (p x = i + 1)) = B at et0 ed4 hBl eacc hnd
          refine ⟨_, rfl, t0, rfl, ⟨_, SqT.of et0⟩, for_go B.length (fun j σ' H' => ∃ v5, σ' = [some (.ref r), some (.ref s), some (.ref fd), some (.int (i : Nat)), some (.ref t0), v5] ∧ Same H H' ∧ H' nn = some (.dK (rows.map fun r => (kS r, V.ref (t r)))) ∧
            H' dn = some (.dK (PassD (accL rows p i ++ B) p)) ∧ H' fd = some (.dK (PassD (accL rows p i ++ B.take j) p)) ∧ H' t0 = some (.tup (ST B))) ?_ ?_ ?_⟩
          · exact ⟨u5, rfl, s4, en4, ed4, by rw [List.take_zero, List.append_nil]; exact ef4, et0⟩
          · rintro j σ' H5 hj ⟨w5, rfl, s5, en5, ed5, ef5, et5⟩
            refine ⟨⟨_, .str B[j], SqT.of et5, by rw [List.getElem?_map, List.getElem?_eq_getElem hj]; rfl⟩, fun x H6 ⟨eH, fx⟩ => ?_⟩
            subst H6
            have ex := fx _ (SqT.of et5)
            rw [List.getElem?_map, List.getElem?_eq_getElem hj] at ex
            have ex : V.str B[j] = x := Option.some.inj ex
            subst ex
            have hpB : p B[j] = i + 1 := by
              have : B[j] ∈ rows.filter fun x => decide (p x = i + 1) := by rw [hB]; exact List.getElem_mem hj
              exact of_decide_eq_true (List.mem_filter.mp this).2
            have hlD : (accL rows p i ++ B.take j).length < 1000 := by
              rw [List.length_append]
              have h2 := List.length_take_le j B
              omega
            have hno : B[j] ∉ accL rows p i ++ B.take j := fun hm => by
              rcases List.mem_append.mp hm with h | h
              · exact (List.nodup_append.mp hnd).2.2 _ h _ (List.getElem_mem hj) rfl
              · exact not_in_take (List.nodup_append.mp hnd).2.1 hj h
            refine ⟨_, rfl, _, _, rfl, rfl, _, rfl, _, rfl, fd, _, kS B[j], rfl, ef5, rfl, by rw [PassD_len]; exact small1000 (by omega), ?_⟩
            have epp : putK (PassD (accL rows p i ++ B.take j) p) (kS B[j]) (.int ((i : Int) + 1)) = PassD (accL rows p i ++ B.take (j + 1)) p := by
              have h1 := putK_new_mapf (f := fun r => V.int (p r : Nat)) hno
              have h2 : ((p B[j] : Nat) : Int) = (i : Int) + 1 := by rw [hpB]; omega
              rw [h2] at h1
              rw [List.take_add_one, List.getElem?_eq_getElem hj, ← List.append_assoc]
              exact h1
            refine ⟨_, rfl, same_at s5 nfd, ?_, ?_, ?_, ?_⟩
            · rw [upd_ne x2]
              exact en5
            · rw [upd_ne x3]
              exact ed5
            · rw [upd_same]
              exact congrArg (fun q => some (HO.dK q)) epp
            · rw [upd_ne (ne_of et5 ef5 (by intro z; cases z))]
              exact et5
          · rintro σ' H5 ⟨w5, rfl, s5, en5, ed5, ef5, et5⟩
            rw [List.take_length, ← eacc] at ef5
            rw [← eacc] at ed5
            exact ⟨⟨_, SqT.of et5, by rw [ST_len]; exact Nat.le_refl _⟩, rows.length - (i + 1), by omega, nn, dn, _, _, _, _, _, _, rfl, rfl, rfl, by omega, s5, nnn, ndn, x1, x2, x3, en5, ed5, ef5⟩
      · -- the end: all rows are in
        have hall : ∀ x ∈ rows, x ∈ accL rows p i := fun x hx => (mem_accL I.one).mpr ⟨hx, Nat.le_of_not_lt fun hlt => c (decide_eq_true ((accL_lt I.one).mpr ⟨x, hx, hlt⟩))⟩
        refine ⟨_, rfl, s, dxs, _, rfl, s1 _ _ e1, s, dxs, _, n, rfl, s1 _ _ e1, lk_names, n, rfl, ⟨_, SqT.of (s1 _ _ e2)⟩, fun D nD => ?_⟩
        have W := wlk_tup (K := K) (it := V.str) (ys := rows) (SqT.of (s1 _ _ e2)) nD
        refine dc_gen rows.length (fun j l H' => SameX D H1 H' ∧ l = PassD (rows.take j) p) (fun j l H2 H3 ⟨k, e⟩ sx => ⟨k.trans sx, e⟩) ⟨sx_of (Same.refl H1), rfl⟩ nD (fun j l H2 hj ⟨k, e⟩ => ?_) (fun j l H2 hj ⟨k, e⟩ R1 R2 h1 h2 => ⟨W.go j H2 hj k, fun x H3 y => ?_⟩) fun l H2 ⟨k, e⟩ eD => ⟨W.stop _ k, ?_⟩
        · rw [e, PassD_len]
          exact small7 (Nat.le_trans (List.length_take_le _ _) (by omega))
        · obtain ⟨eH, ex⟩ := W.yld j H2 x H3 k y
          subst H3
          have ex := ex rows[j] (List.getElem?_eq_getElem hj)
          subst ex
          have hr0 : rows[j] ∈ rows := List.getElem_mem hj
          have ef2 := k _ _ (ne_of_none ef nD) ef
          have hget : DGet H2 fd (.str rows[j]) (some (.int (p rows[j] : Nat))) := by rw [← valV_in_mapf (f := fun r => V.int (p r : Nat)) (hall _ hr0)]; exact DGet.k (k := kS rows[j]) ef2
          refine ⟨rfl, _, rfl, _, rfl, fd, _, rfl, hget, true, rfl, iteT ?_⟩
          refine ⟨_, rfl, _, rfl, _, rfl, fd, _, rfl, hget, h1 (kS rows[j]) _ _ (Same.refl _) ⟨k, ?_⟩⟩
          have h3 := putK_new_mapf (f := fun r => V.int (p r : Nat)) (not_in_take D0.nd hj)
          rw [e, List.take_add_one, List.getElem?_eq_getElem hj]
          exact h3
        · exact q _ D (s1.trans fun b u eb => k _ _ (ne_of_none eb nD) eb) (s1.free nD) (by rw [eD, e, List.take_length])
end
end K19

set_option Elab.async false
set_option linter.all false
set_option maxRecDepth 100000
set_option maxHeartbeats 4000000
/-! Passes, the slow chain, its check. -/
namespace K19
open PySem PySem.Spec PyProof.Rows L2 StX ClX GenW
theorem sc_pneed : FnScope ["sheet"] ["sheet"] (defScope sPassesNeeded) := ⟨rfl, rfl, rfl, by decide +kernel, rfl, by decide +kernel, by decide +kernel⟩
theorem sc_isback : FnScope ["sheet", "name", "other"] ["sheet", "name", "other"] (defScope sIsBackward) := ⟨rfl, rfl, rfl, by decide +kernel, rfl, by decide +kernel, by decide +kernel⟩
theorem sc_before : FnScope ["sheet", "passes", "name", "other"] ["sheet", "passes", "name"] (defScope sRowBefore) := ⟨rfl, rfl, rfl, by decide +kernel, rfl, by decide +kernel, by decide +kernel⟩
theorem sc_slow : FnScope ["sheet", "passes", "most", "name", "chain"] ["sheet"] (defScope sSlowChain) := ⟨rfl, rfl, rfl, by decide +kernel, rfl, by decide +kernel, by decide +kernel⟩

section
variable {P : Program} {w : World} {K : PySem.W.Frag} {mg : Str → Option Value} {base : Heap}
theorem pass_max {rows : List Str} {p : Str → Nat} {m : Int} (hm : m ∈ rows.map fun r => ((p r : Nat) : Int)) (hx : ∀ y ∈ rows.map fun r => ((p r : Nat) : Int), y ≤ m) : ∃ r ∈ rows, m = (p r : Nat) ∧ ∀ x ∈ rows, p x ≤ p r := by
  obtain ⟨r, hr, rfl⟩ := List.mem_map.mp hm
  refine ⟨r, hr, rfl, fun x hxx => ?_⟩
  have := hx _ (List.mem_map.mpr ⟨x, hxx, rfl⟩)
  omega
theorem ok_pneed (T : Txt K mg) : FnOk P w K mg base CX0 8 T.passesNeeded.f T.passesNeeded.fd ["sheet"] (spPasses T.CS) := by
  have G_rInit : FnOk P w K mg base CX0 6 T.rInit.f T.rInit.fd ["self", "passes"] (spRSet T.CR) := ok_rinit T
  have G_rCall : FnOk P w K mg base CX0 7 T.rCall.f T.rCall.fd ["self", "sheet"] (spRCall T.CR T.CS) := ok_rcall T
  obtain ⟨tm, gM⟩ := T.gMost
  refine T.passesNeeded.F.ok sc_pneed (fun vs H Q E h => ?_) (fun cdv A outer s H vs Q E hr h => ?_)
  · obtain ⟨s, rows, nd, p, rfl, _⟩ := h
    rfl
  · obtain ⟨s, rows, nd, p, rfl, hS, G, hne, I, q⟩ := h
    refine ⟨_, pss_one (ps_ret (pe_callBK (cr_maxD rfl) (by rfl) T.b_max bb_max (pa_cons (pe_listVals rfl (by rfl) T.b_list (pe_callO (pe_make T.mkR G_rInit (hr.mono (by decide)) (by rfl) T.gR T.bd_rInit .nil pass0 (pa_cons (pe_glob (v := .int 60) (by rfl) gM ⟨_, rfl⟩) pa_nil)) T.callO (G_rCall.raw T.bd_rCall .nil) (hr.mono (by decide)) pass0 (pa_cons (pv 0) pa_nil))) pa_nil) (pk_cons pe_int pk_nil))), ?_⟩
    intro x dx nx ndx nex
    have s1 := same_upd (o := .own x) ndx
    have nx1 : (upd H dx (.own x)) x = none := by rw [upd_ne nex.symm]; exact nx
    have s2 := same_upd (o := .ins T.CR dx []) nx1
    refine ⟨x, dx, rfl, upd_same, rfl, ?_⟩
    have e3 : (upd (upd (upd H dx (.own x)) x (.ins T.CR dx [])) x (.ins T.CR dx [("bound", .int 60)])) x = some (.ins T.CR dx [("bound", .int 60)]) := upd_same
    have s3 : Same H (upd (upd (upd H dx (.own x)) x (.ins T.CR dx [])) x (.ins T.CR dx [("bound", .int 60)])) := same_at (s1.trans s2) nx
    generalize upd (upd (upd H dx (.own x)) x (.ins T.CR dx [])) x (.ins T.CR dx [("bound", .int 60)]) = H3 at e3 s3
    refine ⟨x, rfl, _, rfl, .inr ⟨_, _, e3⟩, x, s, dx, rows, nd, p, rfl, e3, hS.same s3, G, I, fun H4 d s4 nd4 e4 => ?_⟩
    refine ⟨d, _, rfl, e4, fun l nl => ?_⟩
    have s5 := same_upd (o := .lst ((PassD rows p).map fun kv => kv.2)) nl
    have el : (PassD rows p).map (fun kv => kv.2) = (rows.map fun r => ((p r : Nat) : Int)).map V.int := by
      unfold PassD
      rw [List.map_map, List.map_map]
      rfl
    refine ⟨l, _, rfl, SqL.of (by rw [upd_same, el]), ?_, fun m hm hx => ?_⟩
    · rw [List.length_map]
      exact List.length_pos_iff.mpr hne
    · obtain ⟨r, hr0, rfl, hmax⟩ := pass_max hm hx
      exact q _ r (s3.trans (s4.trans s5)) hr0 hmax
theorem ok_isback (T : Txt K mg) : FnOk P w K mg base CX0 3 T.isBackward.f T.isBackward.fd ["sheet", "name", "other"] (spBack T.CS) := by
  have G_sPosition : FnOk P w K mg base CX0 2 T.sPosition.f T.sPosition.fd ["self", "name"] (spPos T.CS) := ok_spos T
  refine T.isBackward.F.ok sc_isback (fun vs H Q E h => ?_) (fun cdv A outer s H vs Q E hr h => ?_)
  · obtain ⟨s, rows, nd, r, o, rfl, _⟩ := h
    rfl
  · obtain ⟨s, rows, nd, r, o, rfl, hS, hnd, hr0, ho, q⟩ := h
    obtain ⟨dx, n, d, od, z, e1, e2, e3, e4⟩ := id hS
    refine ⟨_, (pss_one (ps_ret (pe_cmpR op_lt (pe_meth (pv 0) T.clS T.m_sPosition G_sPosition (hr.mono (by decide)) T.bd_sPosition .nil pass0 (pa_cons (pv 1) pa_nil)) (pe_meth (pv 0) T.clS T.m_sPosition G_sPosition (hr.mono (by decide)) T.bd_sPosition .nil pass0 (pa_cons (pv 2) pa_nil)) (nomark _)))), ?_⟩
    refine ⟨_, rfl, s, dx, _, rfl, e1, rfl, _, rfl, s, rows, nd, r, rfl, hS, hnd, hr0, ?_⟩
    refine ⟨_, rfl, s, dx, _, rfl, e1, rfl, _, rfl, s, rows, nd, o, rfl, hS, hnd, ho, _, _, rfl, rfl, ?_⟩
    have : decide (((pos rows r : Nat) : Int) < ((pos rows o : Nat) : Int)) = decide (pos rows r < pos rows o) := decide_eq_decide.mpr (by omega)
    show Q (.bl (decide (((pos rows r : Nat) : Int) < ((pos rows o : Nat) : Int)))) H
    rw [this]
    exact q
theorem b2i_bk (rows : List Str) (r o : Str) : b2i (decide (pos rows r < pos rows o)) = ((bk rows r o : Nat) : Int) := by
  unfold bk
  by_cases c : pos rows r < pos rows o
  · rw [if_pos c, decide_eq_true c]; rfl
  · rw [if_neg c, decide_eq_false c]; rfl
theorem ok_before (T : Txt K mg) : FnOk P w K mg base CX0 4 T.rowBefore.f T.rowBefore.fd ["sheet", "passes", "name"] (spBefore T.CS) := by
  have G_isBackward : FnOk P w K mg base CX0 3 T.isBackward.f T.isBackward.fd ["sheet", "name", "other"] (spBack T.CS) := ok_isback T
  have G_sNeeds : FnOk P w K mg base CX0 1 T.sNeeds.f T.sNeeds.fd ["self"] (spNeeds T.CS) := ok_sneeds T
  refine T.rowBefore.F.ok sc_before (fun vs H Q E h => ?_) (fun cdv A outer s H vs Q E hr h => ?_)
  · obtain ⟨s, q, rows, nd, p, r, rfl, _⟩ := h
    rfl
  · obtain ⟨s, qd, rows, nd, p, r, rfl, hS, G, hr0, eq, q1, q2⟩ := h
    obtain ⟨dx, n, d, od, z, e1, e2, ⟨t, e3, f3⟩, e4⟩ := id hS
    refine ⟨_, (pss_cons (ps_for PassesOwn.never rfl (pi_tup (pe_dget (hu_of hr) (pe_prop (pv 0) T.clS T.propN G_sNeeds (hr.mono (by decide)) T.bd_sNeeds .nil pass0 rfl) (pv 2) (fun _ _ => rfl))) (pg_name (i := 3) sc_before.nd rfl (.inl rfl))
        (pss_one (ps_if (pt_cmpR op_eq (pe_op op_add (pe_dget (hu_of hr) (pv 1) (pv 3) (fun _ _ => rfl)) (pe_callTy call_int1 (by rfl) T.b_int bb_int (pa_cons (pe_call G_isBackward (hr.mono (by decide)) (by rfl) T.g_isBackward T.isBackward.F.kp T.bd_isBackward .nil pass0 (pa_cons (pv 0) (pa_cons (pv 2) (pa_cons (pv 3) pa_nil)))) pa_nil))) (pe_dget (hu_of hr) (pv 1) (pv 2) (fun _ _ => rfl)) (nomark _))
        (pss_one (ps_ret (pv 3)))
        pss_nil)))
      (pss_one (ps_ret pe_non))), ?_⟩
    refine ⟨_, rfl, s, dx, _, rfl, e1, s, dx, _, d, _, rfl, e1, lk_direct, e3, fun nn nnn => ?_⟩
    have s1 := same_upd (o := .dK (rows.map fun r => (kS r, V.ref (t r)))) nnn
    have en : (upd H nn (.dK (rows.map fun r => (kS r, V.ref (t r))))) nn = some (.dK (rows.map fun r => (kS r, V.ref (t r)))) := upd_same
    generalize upd H nn (.dK (rows.map fun r => (kS r, V.ref (t r)))) = H1 at s1 en
    refine ⟨_, rfl, nn, _, rfl, by rw [← valV_in_mapf (f := fun r => V.ref (t r)) hr0]; exact DGet.k (k := kS r) en, t r, rfl, ⟨_, SqT.of (s1 _ _ (f3 _ hr0))⟩, ?_⟩
    refine for_go (nd r).length (fun j σ' H' => ∃ v, σ' = [some (.ref s), some (.ref qd), some (.str r), v] ∧ Same H H' ∧ ∀ o ∈ (nd r).take j, p o + bk rows r o ≠ p r) ⟨none, rfl, s1, fun o ho => by simp at ho⟩ ?_ ?_
    · rintro j σ' H2 hj ⟨v, rfl, s2, hno⟩
      refine ⟨⟨_, .str (nd r)[j], SqT.of (s2 _ _ (f3 _ hr0)), by rw [List.getElem?_map, List.getElem?_eq_getElem hj]; rfl⟩, fun x H3 ⟨eH, fx⟩ => ?_⟩
      subst H3
      have ex := fx _ (SqT.of (s2 _ _ (f3 _ hr0)))
      rw [List.getElem?_map, List.getElem?_eq_getElem hj] at ex
      have ex : V.str (nd r)[j] = x := Option.some.inj ex
      subst ex
      have hin : (nd r)[j] ∈ nd r := List.getElem_mem hj
      obtain ⟨rk, D0⟩ := G.dag
      have ho := D0.sub _ hr0 _ hin
      have hg : ∀ x ∈ rows, DGet H2 qd (.str x) (some (.int (p x : Nat))) := fun x hx => by rw [← valV_in_mapf (f := fun r => V.int (p r : Nat)) hx]; exact DGet.k (k := kS x) (s2 _ _ eq)
      refine ⟨_, rfl, _, rfl, qd, _, rfl, hg _ ho, _, rfl, _, rfl, _, rfl, s, rows, nd, r, (nd r)[j], rfl, hS.same s2, D0.nd, hr0, ho, .inr ⟨_, rfl, _, _, rfl, rfl, _, rfl, _, rfl, qd, _, rfl, hg _ hr0, rfl, _, rfl, ?_⟩⟩
      have hb : (if decide (pos rows r < pos rows (nd r)[j]) = true then (1 : Int) else 0) = ((bk rows r (nd r)[j] : Nat) : Int) := b2i_bk rows r _
      rw [hb]
      have hd : decide (V.int (((p (nd r)[j] : Nat) : Int) + ((bk rows r (nd r)[j] : Nat) : Int)) = V.int (p r : Nat)) = decide (p (nd r)[j] + bk rows r (nd r)[j] = p r) := decide_eq_decide.mpr ⟨fun h => by have := V.int.inj h; omega, fun h => congrArg V.int (by omega)⟩
      rw [hd]
      refine ite2 (fun c => ?_) (fun c => ?_)
      · exact ⟨_, rfl, q2 H2 _ s2 hin (of_decide_eq_true c)⟩
      · refine ⟨_, rfl, s2, fun o ho2 => ?_⟩
        rw [List.take_add_one, List.getElem?_eq_getElem hj] at ho2
        rcases List.mem_append.mp ho2 with h | h
        · exact hno o h
        · have : o = (nd r)[j] := by simpa using h
          rw [this]
          exact fun e => c (decide_eq_true e)
    · rintro σ' H2 ⟨v, rfl, s2, hno⟩
      rw [List.take_length] at hno
      exact ⟨⟨_, SqT.of (s2 _ _ (f3 _ hr0)), by rw [ST_len]; exact Nat.le_refl _⟩, q1 H2 s2 hno⟩
theorem ok_slow (T : Txt K mg) : FnOk P w K mg base CX0 8 T.slowChain.f T.slowChain.fd ["sheet"] (spSlow T.CS) := by
  have G_rInit : FnOk P w K mg base CX0 6 T.rInit.f T.rInit.fd ["self", "passes"] (spRSet T.CR) := ok_rinit T
  have G_rCall : FnOk P w K mg base CX0 7 T.rCall.f T.rCall.fd ["self", "sheet"] (spRCall T.CR T.CS) := ok_rcall T
  have G_rowBefore : FnOk P w K mg base CX0 4 T.rowBefore.f T.rowBefore.fd ["sheet", "passes", "name"] (spBefore T.CS) := ok_before T
  have G_sRows : FnOk P w K mg base CX0 1 T.sRows.f T.sRows.fd ["self"] (spRows T.CS) := ok_srows T
  obtain ⟨tm, gM⟩ := T.gMost
  refine T.slowChain.F.ok sc_slow (fun vs H Q E h => ?_) (fun cdv A outer s H vs Q E hr h => ?_)
  · obtain ⟨s, rows, nd, p, rfl, _⟩ := h
    rfl
  · obtain ⟨s, rows, nd, p, rfl, hS, G, hne, I, q⟩ := h
    obtain ⟨dxs, n, d, od, z, e1, e2, ⟨t, e3, f3⟩, e4⟩ := id hS
    refine ⟨_, (pss_cons (ps_set (i := 1) sc_slow.nd rfl (.inr rfl) (pe_callO (pe_make T.mkR G_rInit (hr.mono (by decide)) (by rfl) T.gR T.bd_rInit .nil pass0 (pa_cons (pe_glob (v := .int 60) (by rfl) gM ⟨_, rfl⟩) pa_nil)) T.callO (G_rCall.raw T.bd_rCall .nil) (hr.mono (by decide)) pass0 (pa_cons (pv 0) pa_nil)))
      (pss_cons (ps_set (i := 2) sc_slow.nd rfl (.inr rfl) (pe_callBK (cr_maxD rfl) (by rfl) T.b_max bb_max (pa_cons (pe_listVals rfl (by rfl) T.b_list (pv 1)) pa_nil) (pk_cons pe_int pk_nil)))
      (pss_cons (ps_set (i := 4) sc_slow.nd rfl (.inl rfl) (pe_slice sl_list (pe_lc (own := [("name", 3)]) (g := (gName 3)) (by rfl) sc_slow.nd (pi_tup (pe_prop (pv 0) T.clS T.propR G_sRows (hr.mono (by decide)) T.bd_sRows .nil pass0 rfl)) (blkOk_by (own := [("name", 3)]) (N := ["sheet", "passes", "most", "name", "chain"]) (sc := defScope sSlowChain) (by decide +kernel)) (fun _ _ _ _ _ => (pg_name (i := 3) sc_slow.nd rfl (.inl rfl))) (fun _ _ _ _ _ => (pts_one (pt_cmpR op_eq (pe_dget (hu_of hr) (pv 1) (pv 3) (fun _ _ => rfl)) (pv 2) (nomark _)))) (fun _ _ _ _ _ => (pv 3))) po_none (po_some pe_int)))
      (pss_cons (ps_set (i := 3) sc_slow.nd rfl (.inl rfl) (pe_ifExp (pt_cmpR (op_neD hr.units) (pv 4) (pe_lst pa_nil) (nomark _)) (pe_ix ix_list (pv 4) pe_int (fun _ _ => rfl)) pe_non))
      (pss_cons (ps_while PassesOwn.never (pt_cmpR op_notN (pv 3) pe_non (nomark _))
        (pss_cons (ps_set (i := 3) sc_slow.nd rfl (.inl rfl) (pe_call G_rowBefore (hr.mono (by decide)) (by rfl) T.g_rowBefore T.rowBefore.F.kp T.bd_rowBefore .nil pass0 (pa_cons (pv 0) (pa_cons (pv 1) (pa_cons (pv 3) pa_nil)))))
      (pss_one (ps_if (pt_cmpR op_notN (pv 3) pe_non (nomark _))
        (pss_one (ps_expr (pe_bm PySem.F.plainAttrs_list PySem.F.slot_list_append PySem.F.type_list_append mt_append (pv 4) (pa_cons (pv 3) pa_nil))))
        pss_nil))))
      (pss_one (ps_ret (pe_callTy call_tuple_of (by rfl) T.b_tuple bb_tuple (pa_cons (pe_revL (pv 4)) pa_nil))))))))), ?_⟩
    -- passes
    intro x dx nx ndx nex
    have s1 := same_upd (o := .own x) ndx
    have nx1 : (upd H dx (.own x)) x = none := by rw [upd_ne nex.symm]; exact nx
    have s2 := same_upd (o := .ins T.CR dx []) nx1
    refine ⟨x, dx, rfl, upd_same, rfl, ?_⟩
    have e3' : (upd (upd (upd H dx (.own x)) x (.ins T.CR dx [])) x (.ins T.CR dx [("bound", .int 60)])) x = some (.ins T.CR dx [("bound", .int 60)]) := upd_same
    have s3 : Same H (upd (upd (upd H dx (.own x)) x (.ins T.CR dx [])) x (.ins T.CR dx [("bound", .int 60)])) := same_at (s1.trans s2) nx
    generalize upd (upd (upd H dx (.own x)) x (.ins T.CR dx [])) x (.ins T.CR dx [("bound", .int 60)]) = H3 at e3' s3
    refine ⟨x, rfl, _, rfl, .inr ⟨_, _, e3'⟩, x, s, dx, rows, nd, p, rfl, e3', hS.same s3, G, I, fun H4 pd s4 npd e5 => ?_⟩
    -- most
    refine ⟨_, rfl, pd, _, rfl, e5, fun l nl => ?_⟩
    have s5 := same_upd (o := .lst ((PassD rows p).map fun kv => kv.2)) nl
    have el : (PassD rows p).map (fun kv => kv.2) = (rows.map fun r => ((p r : Nat) : Int)).map V.int := by
      unfold PassD
      rw [List.map_map, List.map_map]
      rfl
    refine ⟨l, _, rfl, SqL.of (by rw [upd_same, el]), (by rw [List.length_map]; exact List.length_pos_iff.mpr hne), fun m hm hx => ?_⟩
    obtain ⟨r0, hr0, rfl, hmax⟩ := pass_max hm hx
    have s05 := s3.trans (s4.trans s5)
    have e6 := s5 _ _ e5
    generalize upd H4 l (.lst ((PassD rows p).map fun kv => kv.2)) = H5 at s05 e6
    -- chain
    refine ⟨_, rfl, s, dxs, _, rfl, s05 _ _ e1, s, dxs, _, n, rfl, s05 _ _ e1, lk_names, n, rfl, ⟨_, SqT.of (s05 _ _ e2)⟩, fun D nD => lc_map (it := V.str) (ys := rows) (fun x => decide (p x = p r0)) V.str (wlk_tup (SqT.of (s05 _ _ e2)) nD) nD (by have := G.len; omega) (fun _ => rfl) (fun y H6 hy sx Qc hq => ?_) (fun y H6 hy sx Qv hq => ⟨_, rfl, hq _ (Same.refl _)⟩) fun H6 sx eD => ?_⟩
    · have e7 := sx _ _ (ne_of_none e6 nD) e6
      refine ⟨_, rfl, _, rfl, pd, _, rfl, by rw [← valV_in_mapf (f := fun r => V.int (p r : Nat)) hy]; exact DGet.k (k := kS y) e7, _, rfl, rfl, _, rfl, ?_⟩
      have : decide (V.int ((p y : Nat) : Int) = V.int ((p r0 : Nat) : Int)) = decide (p y = p r0) := decide_eq_decide.mpr ⟨fun h => by have := V.int.inj h; omega, fun h => by rw [h]⟩
      rw [this]
      exact hq _ (Same.refl _)
    · have s6 : Same H H6 := fun b u e => sx _ _ (ne_of_none (s05 _ _ e) nD) (s05 _ _ e)
      have e7 := sx _ _ (ne_of_none e6 nD) e6
      replace eD : H6 D = some (.lst (ST (rows.filter fun x => decide (p x = p r0)))) := eD
      obtain ⟨c0, cr, hc⟩ : ∃ c0 cr, (rows.filter fun x => decide (p x = p r0)) = c0 :: cr := List.exists_cons_of_ne_nil (List.ne_nil_of_mem (List.mem_filter.mpr ⟨hr0, decide_eq_true rfl⟩))
      have hc0 : c0 ∈ rows ∧ p c0 = p r0 := by
        have : c0 ∈ rows.filter fun x => decide (p x = p r0) := by rw [hc]; simp
        exact ⟨(List.mem_filter.mp this).1, of_decide_eq_true (List.mem_filter.mp this).2⟩
      rw [hc] at eD
      refine ⟨1, rfl, D, _, rfl, SqL.of eD, fun cl ncl => ?_⟩
      have ecut : cutV (ST (c0 :: cr)) none (some ((1 : Nat) : Int)) = ST [c0] := by
        rw [cut_to (by rw [ST_len]; simp)]
        rfl
      rw [show (some (1 : Int)) = some ((1 : Nat) : Int) from rfl, ecut]
      have s7 := same_upd (o := .lst (ST [c0])) ncl
      have ncl0 : H cl = none := s6.free ncl
      have ecl : (upd H6 cl (.lst (ST [c0]))) cl = some (.lst (ST [c0])) := upd_same
      have e8 := s7 _ _ e7
      have s07 := s6.trans s7
      generalize upd H6 cl (.lst (ST [c0])) = H7 at ecl e8 s07
      -- name
      refine ⟨_, rfl, Nat.zero_le _, fun e ne => ?_⟩
      have se := same_upd (o := .lst []) ne
      refine ⟨_, _, .lst (SqL.of (se _ _ ecl)) (dpAll_ST _), .lst (SqL.of upd_same) .nil, shaped_lst fun z hz => by simp at hz; subst hz; exact G.names _ hc0.1, rfl, _, rfl, ?_⟩
      rw [eqv_nil_l, decide_eq_false (by simp)]
      refine iteT ⟨_, rfl, cl, _, 0, .str c0, rfl, rfl, SqL.of (se _ _ ecl), rfl, ?_⟩
      have s8 := s07.trans se
      have ecl8 := se _ _ ecl
      have e9 := se _ _ e8
      generalize upd H7 e (.lst []) = H8 at s8 ecl8 e9
      obtain ⟨rk, D0⟩ := G.dag
      refine ⟨fun m σ H' => ∃ y rest nm, σ = [some (.ref s), some (.ref pd), some (.int (p r0 : Nat)), some nm, some (.ref cl)] ∧ Same H H' ∧ H' pd = some (.dK (PassD rows p)) ∧ H' cl = some (.lst (ST (y :: rest).reverse)) ∧ isCh nd (y :: rest) ∧ (∀ z ∈ y :: rest, z ∈ rows) ∧ backs rows (y :: rest) + p y = p r0 ∧
        ((nm = .str y ∧ m = rk y + 1) ∨ (nm = .non ∧ p y = 1 ∧ m = 0)), ⟨rk c0 + 1, c0, [], .str c0, rfl, s8, e9, ecl8, True.intro, fun z hz => by simp at hz; subst hz; exact hc0.1, (by show 0 + p c0 = p r0; rw [hc0.2, Nat.zero_add]), .inl ⟨rfl, rfl⟩⟩, ?_⟩
      rintro m σ H9 ⟨y, rest, nm, rfl, s9, epd, ecl9, hch, hmem, hb, hcase⟩
      have hy := hmem y (by simp)
      refine ⟨_, rfl, rfl, _, rfl, ?_⟩
      rcases hcase with ⟨rfl, rfl⟩ | ⟨rfl, hp1, rfl⟩
      · refine iteT ⟨fun σ' H' => ∃ m', m' < rk y + 1 ∧ ∃ y rest nm, σ' = [some (.ref s), some (.ref pd), some (.int (p r0 : Nat)), some nm, some (.ref cl)] ∧ Same H H' ∧ H' pd = some (.dK (PassD rows p)) ∧ H' cl = some (.lst (ST (y :: rest).reverse)) ∧ isCh nd (y :: rest) ∧ (∀ z ∈ y :: rest, z ∈ rows) ∧ backs rows (y :: rest) + p y = p r0 ∧
          ((nm = .str y ∧ m' = rk y + 1) ∨ (nm = .non ∧ p y = 1 ∧ m' = 0)), fun σ' H' h => h, ?_⟩
        refine ⟨_, rfl, _, rfl, _, rfl, s, pd, rows, nd, p, y, rfl, hS.same s9, G, hy, epd, fun H' s' hno => ?_, fun H' o s' ho e => ?_⟩
        · refine ⟨_, rfl, rfl, _, rfl, iteF ?_⟩
          refine ⟨0, by omega, y, rest, .non, rfl, s9.trans s', s' _ _ epd, s' _ _ ecl9, hch, hmem, hb, .inr ⟨rfl, ?_, rfl⟩⟩
          rcases I.eq y hy with h | ⟨o, ho, e⟩
          · exact h
          · exact absurd e.symm (hno o ho)
        · have hor := D0.sub y hy o ho
          have hch2 : isCh nd (o :: y :: rest) := ⟨ho, hch⟩
          have hmem2 : ∀ z ∈ o :: y :: rest, z ∈ rows := fun z hz => by
            rcases List.mem_cons.mp hz with h | h
            · rw [h]; exact hor
            · exact hmem z h
          have hlen : (y :: rest).length ≤ 7 := Nat.le_trans (nodup_len _ _ (ch_nodup D0 _ hch hmem) hmem) G.len
          refine ⟨_, rfl, rfl, _, rfl, iteT ?_⟩
          refine ⟨_, rfl, .inl ⟨rfl, _, SqL.of (s' _ _ ecl9)⟩, _, rfl, cl, _, _, rfl, rfl, s' _ _ ecl9, by rw [ST_len, List.length_reverse]; exact small7 hlen, ?_⟩
          refine ⟨rk o + 1, by have := D0.lt y hy o ho; omega, o, y :: rest, .str o, rfl, same_at (s9.trans s') ncl0, ?_, ?_, hch2, hmem2, ?_, .inl ⟨rfl, rfl⟩⟩
          · rw [upd_ne (ne_of epd ecl9 (by intro z; cases z))]
            exact s' _ _ epd
          · rw [upd_same, List.reverse_cons (a := o), ST_snoc]
          · show bk rows y o + backs rows (y :: rest) + p o = p r0
            omega
      · refine iteF ⟨_, rfl, cl, _, rfl, SqL.of ecl9, fun l2 nl2 => ⟨l2, _, rfl, .inl ⟨SqL.of upd_same, fun t nt => ?_⟩⟩⟩
        have s10 := same_upd (o := .lst (ST (y :: rest).reverse).reverse) nl2
        have s11 := same_upd (o := .tup (ST (y :: rest).reverse).reverse) nt
        refine q _ t (y :: rest) r0 (s9.trans (s10.trans s11)) ?_ hch hmem (by simp) hr0 hmax (by omega)
        rw [upd_same]
        show some (HO.tup (List.map V.str (y :: rest).reverse).reverse) = _
        rw [← List.map_reverse, List.reverse_reverse]
end
end K19

set_option Elab.async false
set_option linter.all false
set_option maxRecDepth 100000
set_option maxHeartbeats 4000000
/-! The check of a chain. -/
namespace K19
open PySem PySem.Spec PyProof.Rows L2 StX ClX GenW RZ
theorem sc_check : FnScope ["sheet", "thing", "needs", "steps", "name", "other", "step"] ["sheet", "thing"] (defScope sCheckSlow) := ⟨rfl, rfl, rfl, by decide +kernel, rfl, by decide +kernel, by decide +kernel⟩
theorem isCh_get {nd : Str → List Str} : ∀ {ch : List Str}, isCh nd ch → ∀ j, j + 1 < ch.length → ch.getD j Str.empty ∈ nd (ch.getD (j + 1) Str.empty)
  | [], _, j, h => by simp at h
  | [a], _, j, h => by simp at h
  | a :: b :: r, hc, 0, _ => hc.1
  | a :: b :: r, hc, j + 1, h => by
    have := isCh_get (ch := b :: r) hc.2 j (by simpa using h)
    simpa using this
def bkAt (rows ch : List Str) (j : Nat) : Bool := decide (pos rows (ch.getD (j + 1) Str.empty) < pos rows (ch.getD j Str.empty))
theorem backs_cnt (rows : List Str) : ∀ ch : List Str, ((List.range (ch.length - 1)).filter (bkAt rows ch)).length = backs rows ch
  | [] => rfl
  | [a] => rfl
  | a :: b :: r => by
    have ih := backs_cnt rows (b :: r)
    have e : (a :: b :: r).length - 1 = ((b :: r).length - 1) + 1 := by simp
    rw [e, List.range_succ_eq_map, List.filter_cons]
    have h0 : bkAt rows (a :: b :: r) 0 = decide (pos rows b < pos rows a) := rfl
    have h1 : ((List.range ((b :: r).length - 1)).map Nat.succ).filter (bkAt rows (a :: b :: r)) = ((List.range ((b :: r).length - 1)).filter (bkAt rows (b :: r))).map Nat.succ := by
      rw [List.filter_map]
      rfl
    show _ = bk rows b a + backs rows (b :: r)
    rw [← ih, h0]
    unfold bk
    by_cases c : pos rows b < pos rows a
    · rw [if_pos (decide_eq_true c), if_pos c, List.length_cons, h1, List.length_map]; omega
    · rw [if_neg (by simpa using c), if_neg c, h1, List.length_map]; omega
/-- [f x for .. in ys if p x], any target, the values not new -/
theorem lc_mapG {α : Type} {J : It} {g : TG} {tt : TT} {te : TE} {vs : List Nat} {σ : L2.St} {H1 : Hp} {D : Addr} {Qd : Hp → Prop} {it : α → V} {ys : List α} (p : α → Bool) (fv : α → V) (σx : α → L2.St) (W : Wlk J D H1 it ys) (nD : H1 D = none) (hl : ys.length ≤ 100000)
    (hg : ∀ x H' (C : L2.St → Hp → Prop), x ∈ ys → SameX D H1 H' → C (σx x) H' → g (it x) (wipe σ vs) H' C) (hw : ∀ x, wipe (σx x) vs = wipe σ vs)
    (tst : ∀ x H', x ∈ ys → SameX D H1 H' → ∀ Qc : Bool → Hp → Prop, (∀ H3, Same H' H3 → Qc (p x) H3) → tt (σx x) H' Qc)
    (el : ∀ x H', x ∈ ys → SameX D H1 H' → ∀ Qv : VK, (∀ H3, Same H' H3 → Qv (fv x) H3) → te (σx x) H' Qv)
    (hd : ∀ H', SameX D H1 H' → H' D = some (.lst ((ys.filter p).map fv)) → Qd H') :
    ∃ W : Nat → Nat → Hp → Prop, (∃ m, W 0 m (upd H1 D (.lst []))) ∧ ∀ i m H, W i m H →
      (J.stop i H ∧ Qd H) ∨ (J.go i H ∧ ∃ Nx : Hp → Prop, (∀ H', Nx H' → ∃ m', m' < m ∧ W (i + 1) m' H') ∧ ∀ x H', J.yld i H x H' → g x (wipe σ vs) H' fun σ2 H2 => wipe σ2 vs = wipe σ vs ∧ tt σ2 H2 fun b H3 =>
        if b = true then te σ2 H3 fun y H4 => ∃ acc, H4 D = some (.lst acc) ∧ acc.length < sizeLine ∧ Nx (upd H4 D (.lst (acc ++ [y]))) else Nx H3) := by
  refine lc_gen ys.length (fun i l H' => l = ((ys.take i).filter p).map fv ∧ SameX D H1 H') (fun i l H2 H3 ⟨e, k⟩ s => ⟨e, k.trans s⟩) ⟨rfl, sx_of (Same.refl H1)⟩ nD (fun i l H2 hi ⟨e, k⟩ => ?_) (fun i l H2 hi ⟨e, k⟩ R1 R2 h1 h2 => ⟨W.go i H2 hi k, fun x H3 y => ?_⟩) fun l H2 ⟨e, k⟩ eD => ⟨W.stop _ k, hd _ k (by rw [eD, e, List.take_length])⟩
  · rw [e, List.length_map]
    have h1 := List.length_filter_le p (ys.take i)
    have h2 := List.length_take_le i ys
    rw [sizeLine_eq]
    omega
  · obtain ⟨e3, ex⟩ := W.yld i H2 x H3 k y
    subst e3
    have ex := ex ys[i] (List.getElem?_eq_getElem hi)
    subst ex
    refine hg _ _ _ (List.getElem_mem hi) k ⟨hw _, tst ys[i] _ (List.getElem_mem hi) k _ fun H4 s4 => ?_⟩
    have tf := take_filter (p := p) (List.getElem?_eq_getElem hi)
    refine ite2 (fun c => ?_) (fun c => ?_)
    · rw [if_pos c] at tf
      refine el ys[i] _ (List.getElem_mem hi) (k.trans (sx_of s4)) _ fun H5 s5 => h1 _ _ (s4.trans s5) ⟨?_, k.trans ((sx_of s4).trans (sx_of s5))⟩
      rw [tf, List.map_append, e]
      rfl
    · rw [if_neg c] at tf
      exact h2 _ s4 ⟨by rw [tf]; exact e, k.trans (sx_of s4)⟩
section
variable {P : Program} {w : World} {K : PySem.W.Frag} {mg : Str → Option Value} {base : Heap}
theorem ok_check (T : Txt K mg) : FnOk P w K mg base CX0 6 T.checkSlow.f T.checkSlow.fd ["sheet", "thing"] (spCheck T.CS) := by
  have G_isBackward : FnOk P w K mg base CX0 3 T.isBackward.f T.isBackward.fd ["sheet", "name", "other"] (spBack T.CS) := ok_isback T
  have G_sNeeds : FnOk P w K mg base CX0 1 T.sNeeds.f T.sNeeds.fd ["self"] (spNeeds T.CS) := ok_sneeds T
  have G_sContains : FnOk P w K mg base CX0 1 T.sContains.f T.sContains.fd ["self", "name"] (spContains T.CS) := ok_scon T
  refine T.checkSlow.F.ok sc_check (fun vs H Q E h => ?_) (fun cdv A outer s H vs Q E hr h => ?_)
  · obtain ⟨s, t, rows, nd, ch, rfl, _⟩ := h
    rfl
  · obtain ⟨s, tt, rows, nd, ch, rfl, hS, G, et, hch, hmem, hne, hlen, q⟩ := h
    obtain ⟨dxs, n, d, od, z, e1, e2, ⟨t, e3, f3⟩, e4⟩ := id hS
    refine ⟨_, (pss_cons (ps_if (pt_not (pt_val (pe_callB call_isi (by rfl) T.b_isinstance bb_isinstance (pa_cons (pv 1) (pa_cons (pe_bltn (v := .ty "tuple") (by rfl) T.b_tuple bb_tuple rfl) pa_nil)))))
        (pss_one ps_never)
        pss_nil)
      (pss_cons (ps_if (pt_not (pt_val (pe_callB (cr_all rfl) (by rfl) T.b_all bb_all (pa_cons (pe_lc (own := [("name", 4)]) (g := (gName 4)) (by rfl) sc_check.nd (pi_tup (pv 1)) (blkOk_by (own := [("name", 4)]) (N := ["sheet", "thing", "needs", "steps", "name", "other", "step"]) (sc := defScope sCheckSlow) (by decide +kernel)) (fun _ _ _ _ _ => (pg_name (i := 4) sc_check.nd rfl (.inl rfl))) (fun _ _ _ _ _ => pts_nil) (fun _ _ _ _ _ => (pe_cmpR (op_ownIn T.conA T.conF G_sContains (hr.mono (by decide)) T.bd_sContains pass0) (pv 4) (pv 0) (by rfl)))) pa_nil))))
        (pss_one ps_never)
        pss_nil)
      (pss_cons (ps_set (i := 2) sc_check.nd rfl (.inr rfl) (pe_prop (pv 0) T.clS T.propN G_sNeeds (hr.mono (by decide)) T.bd_sNeeds .nil pass0 rfl))
      (pss_cons (ps_setLc (i := 3) (own := [("other", 5), ("name", 4)]) (g := (gTup K 2 (gCons (gName 5) (gCons (gName 4) gNil)))) (by rfl) sc_check.nd rfl rfl (sw_true rfl rfl rfl (by decide +kernel)) (pi_zipA (by rfl) T.b_zip (pa_cons (pv 1) (pa_cons (pe_slice sl_tup (pv 1) (po_some pe_int) po_none) pa_nil))) (blkOk_by (own := [("other", 5), ("name", 4)]) (N := ["sheet", "thing", "needs", "steps", "name", "other", "step"]) (sc := defScope sCheckSlow) (by decide +kernel)) (fun _ _ _ _ _ => (pg_tup rfl (pgs_cons (pg_name (i := 5) sc_check.nd rfl (.inl rfl)) (pgs_cons (pg_name (i := 4) sc_check.nd rfl (.inl rfl)) pgs_nil)))) (fun _ _ _ _ _ => pts_nil) (fun _ _ _ _ _ => (pe_tup (pa_cons (pv 4) (pa_cons (pv 5) pa_nil)))))
      (pss_cons (ps_if (pt_not (pt_val (pe_callB (cr_all rfl) (by rfl) T.b_all bb_all (pa_cons (pe_lc (own := [("name", 4), ("other", 5)]) (g := (gTup K 2 (gCons (gName 4) (gCons (gName 5) gNil)))) (by rfl) sc_check.nd (pi_list (pv 3)) (blkOk_by (own := [("name", 4), ("other", 5)]) (N := ["sheet", "thing", "needs", "steps", "name", "other", "step"]) (sc := defScope sCheckSlow) (by decide +kernel)) (fun _ _ _ _ _ => (pg_tup rfl (pgs_cons (pg_name (i := 4) sc_check.nd rfl (.inl rfl)) (pgs_cons (pg_name (i := 5) sc_check.nd rfl (.inl rfl)) pgs_nil)))) (fun _ _ _ _ _ => pts_nil) (fun _ _ _ _ _ => (pe_cmpR (show OpR _ _ (rIn K false) from op_in_seq) (pv 5) (pe_dget (hu_of hr) (pv 2) (pv 4) (fun _ _ => rfl)) (by rfl)))) pa_nil))))
        (pss_one ps_never)
        pss_nil)
      (pss_one (ps_ret (pe_op op_add (pe_callTy call_int1 (by rfl) T.b_int bb_int (pa_cons (pe_cmpR (op_neD hr.units) (pv 1) (pe_tup pa_nil) (nomark _)) pa_nil)) (pe_callB call_len_seq (by rfl) T.b_len PySem.boot_len (pa_cons (pe_lc (own := [("step", 6)]) (g := (gName 6)) (by rfl) sc_check.nd (pi_list (pv 3)) (blkOk_by (own := [("step", 6)]) (N := ["sheet", "thing", "needs", "steps", "name", "other", "step"]) (sc := defScope sCheckSlow) (by decide +kernel)) (fun _ _ _ _ _ => (pg_name (i := 6) sc_check.nd rfl (.inl rfl))) (fun _ _ _ _ _ => (pts_one (pt_val (pe_callS2 (G_isBackward.raw T.bd_isBackward .nil) (hr.mono (by decide)) T.isBackward.F.kp (by rfl) T.g_isBackward pass0 (pa_cons (pv 0) (show PA _ _ (tStar K (tVar 6) tNil) from pa_star (pv 6) pa_nil)))))) (fun _ _ _ _ _ => (pv 6))) pa_nil)))))))))), ?_⟩
    refine ⟨_, rfl, _, _, _, _, true, rfl, .ty "tuple", .base (.tup et), kit_ty (by decide +kernel), true, rfl, iteF ?_⟩
    -- all known
    refine ⟨_, rfl, tt, rfl, ⟨_, SqT.of et⟩, fun D nD => lc_map (it := V.str) (ys := ch) (fun _ => true) (fun _ => .bl true) (wlk_tup (SqT.of et) nD) nD (by omega) (fun _ => rfl) (fun x H6 hx sx Qc hq => hq _ (Same.refl _)) (fun x H6 hx sx Qv hq => ?_) fun H6 sx eD => ?_⟩
    · have s6 : Same H H6 := fun b u e => sx _ _ (ne_of_none e nD) e
      exact ⟨_, rfl, _, rfl, s, dxs, _, rfl, s6 _ _ e1, s, rows, nd, x, rfl, hS.same s6, G.nodup, hmem x hx, true, rfl, hq _ (Same.refl _)⟩
    have s1 : Same H H6 := fun b u e => sx _ _ (ne_of_none e nD) e
    refine ⟨D, ch.map (fun _ => true), rfl, SqL.of (by rw [eD, filt_true, List.map_map]; rfl), true, by rw [List.all_map]; simp, iteF ?_⟩
    clear eD sx nD D
    -- needs
    refine ⟨_, rfl, s, dxs, _, rfl, s1 _ _ e1, s, dxs, _, d, _, rfl, s1 _ _ e1, lk_direct, s1 _ _ e3, fun nn nnn => ?_⟩
    have s2 := same_upd (o := .dK (rows.map fun r => (kS r, V.ref (t r)))) nnn
    have en : (upd H6 nn (.dK (rows.map fun r => (kS r, V.ref (t r))))) nn = some (.dK (rows.map fun r => (kS r, V.ref (t r)))) := upd_same
    generalize upd H6 nn (.dK (rows.map fun r => (kS r, V.ref (t r)))) = H7 at s2 en
    have s12 := s1.trans s2
    -- steps
    have hl1 : 1 ≤ ch.length := List.length_pos_iff.mpr hne
    refine ⟨_, rfl, _, rfl, 1, rfl, tt, _, rfl, SqT.of (s12 _ _ et), ?_, fun c nc => ?_⟩
    · rintro ⟨h1, _⟩
      rw [show (some (1 : Int)) = some ((1 : Nat) : Int) from rfl, HT.sIx_nat, ST_len] at h1
      omega
    have ecut : cutV (ST ch) (some 1) none = ST (ch.drop 1) := by
      rw [show (some (1 : Int)) = some ((1 : Nat) : Int) from rfl, cut_from (by rw [ST_len]; exact hl1)]
      exact List.map_drop.symm
    rw [ecut]
    have s3 := same_upd (o := .tup (ST (ch.drop 1))) nc
    have ec : (upd H7 c (.tup (ST (ch.drop 1)))) c = some (.tup (ST (ch.drop 1))) := upd_same
    generalize upd H7 c (.tup (ST (ch.drop 1))) = H8 at s3 ec
    have s13 := s12.trans s3
    have en8 := s3 _ _ en
    have et8 := s13 _ _ et
    have hk : (ch.drop 1).length = ch.length - 1 := List.length_drop
    refine ⟨tt, c, _, _, rfl, .inr ⟨SqT.of et8, SqT.of ec, fun D nD => ?_⟩⟩
    refine lc_genD (ch.length - 1) (fun i l H' => SameX D H8 H' ∧ ∃ ts : Nat → Addr, l = (List.range i).map (fun j => V.ref (ts j)) ∧ ∀ j, j < i → H' (ts j) = some (.tup [.str (ch.getD (j + 1) Str.empty), .str (ch.getD j Str.empty)]) ∧ ts j ≠ D)
      (fun i l H2 H3 ⟨k, ts, e, f⟩ sx => ⟨k.trans sx, ts, e, fun j hj => ⟨sx _ _ (f j hj).2 (f j hj).1, (f j hj).2⟩⟩) ⟨sx_of (Same.refl H8), fun _ => 0, rfl, fun j hj => absurd hj (Nat.not_lt_zero j)⟩ nD (fun i l H2 hi ⟨k, ts, e, f⟩ => ?_) (fun i l H2 hi ⟨k, ts, e, f⟩ eDl R1 R2 h1 h2 => ?_) fun l H2 ⟨k, ts, e, f⟩ eD => ?_
    · rw [e, List.length_map, List.length_range]
      exact small1000 (by omega)
    · have et2 := k _ _ (ne_of_none et8 nD) et8
      have ec2 := k _ _ (ne_of_none ec nD) ec
      have g1 : (ST ch)[i]? = some (.str (ch.getD i Str.empty)) := by
        rw [List.getElem?_map, List.getD_eq_getElem?_getD, List.getElem?_eq_getElem (show i < ch.length by omega)]
        rfl
      have g2 : (ST (ch.drop 1))[i]? = some (.str (ch.getD (i + 1) Str.empty)) := by
        rw [List.getElem?_map, List.getElem?_drop, Nat.add_comm 1 i, List.getD_eq_getElem?_getD, List.getElem?_eq_getElem (show i + 1 < ch.length by omega)]
        rfl
      refine ⟨⟨_, _, _, _, SqT.of et2, SqT.of ec2, g1, g2⟩, fun x H3 hy => ?_⟩
      obtain ⟨T0, x1, x2, rfl, nT, rfl, q1, q2⟩ := hy
      have ex1 : x1 = _ := Option.some.inj ((q1 _ (SqT.of et2)).symm.trans g1)
      have ex2 : x2 = _ := Option.some.inj ((q2 _ (SqT.of ec2)).symm.trans g2)
      subst ex1 ex2
      have sT := same_upd (o := .tup [.str (ch.getD i Str.empty), .str (ch.getD (i + 1) Str.empty)]) nT
      refine ⟨T0, _, rfl, SqT.of upd_same, rfl, _, _, rfl, _, _, rfl, rfl, rfl, _, rfl, _, rfl, (by show 2 ≤ sizeLine; decide), fun e0 ne0 => ?_⟩
      have s0 := same_upd (o := .tup [.str (ch.getD (i + 1) Str.empty), .str (ch.getD i Str.empty)]) ne0
      have sall := sT.trans s0
      refine h1 _ _ sall ⟨k.trans (sx_of sall), fun j => if j = i then e0 else ts j, ?_, fun j hj => ?_⟩
      · rw [e, List.range_succ, List.map_append]
        congr 1
        · refine List.map_congr_left fun j hj => ?_
          dsimp only
          rw [if_neg (Nat.ne_of_lt (List.mem_range.mp hj))]
        · show _ = [V.ref (if i = i then e0 else ts i)]
          rw [if_pos rfl]
      · dsimp only
        by_cases c1 : j = i
        · rw [if_pos c1]
          subst c1
          exact ⟨upd_same, (ne_of_none (sT _ _ eDl) ne0).symm⟩
        · rw [if_neg c1]
          obtain ⟨h3, h4⟩ := f j (by omega)
          exact ⟨sall _ _ h3, h4⟩
    · refine ⟨⟨_, _, SqT.of (k _ _ (ne_of_none et8 nD) et8), SqT.of (k _ _ (ne_of_none ec nD) ec), .inr (by rw [ST_len, hk]; exact Nat.le_refl _)⟩, ?_⟩
      have s4 : Same H8 H2 := fun b u eb => k _ _ (ne_of_none eb nD) eb
      have s14 := s13.trans s4
      have en2 := s4 _ _ en8
      rw [e] at eD
      have hbd : (List.range (ch.length - 1)).length ≤ 100000 := by rw [List.length_range]; omega
      -- all steps are needs
      refine ⟨_, rfl, D, rfl, ⟨_, SqL.of eD⟩, fun D2 nD2 => lc_mapG (it := fun j => V.ref (ts j)) (ys := List.range (ch.length - 1)) (fun _ => true) (fun _ => .bl true) (fun j => [some (.ref s), some (.ref tt), some (.ref nn), some (.ref D), some (.str (ch.getD (j + 1) Str.empty)), some (.str (ch.getD j Str.empty)), none]) (wlk_lst (SqL.of eD) nD2) nD2 hbd (fun j H' C hj sx hC => ?_) (fun _ => rfl) (fun j H' hj sx Qc hq => hq _ (Same.refl _)) (fun j H' hj sx Qv hq => ?_) fun H' sx eD2 => ?_⟩
      · have ej := sx _ _ (ne_of_none (f j (List.mem_range.mp hj)).1 nD2) (f j (List.mem_range.mp hj)).1
        exact ⟨ts j, _, rfl, SqT.of ej, rfl, _, _, rfl, _, _, rfl, rfl, hC⟩
      · have hj1 := List.mem_range.mp hj
        have hm1 : ch.getD (j + 1) Str.empty ∈ rows := hmem _ (by rw [List.getD_eq_getElem?_getD, List.getElem?_eq_getElem (show j + 1 < ch.length by omega)]; exact List.getElem_mem _)
        have en3 := sx _ _ (ne_of_none en2 nD2) en2
        have ef3 := sx _ _ (ne_of_none (s14 _ _ (f3 _ hm1)) nD2) (s14 _ _ (f3 _ hm1))
        refine ⟨_, rfl, _, rfl, _, rfl, nn, _, rfl, by rw [← valV_in_mapf (f := fun r => V.ref (t r)) hm1]; exact DGet.k (k := kS _) en3, _, _, rfl, .inr (SqT.of ef3), rfl, flat_ST _, ?_⟩
        show Qv (.bl (inV (.str (ch.getD j Str.empty)) (ST (nd (ch.getD (j + 1) Str.empty))))) H'
        rw [inV_ST, decide_eq_true (isCh_get hch j (by omega))]
        exact hq _ (Same.refl _)
      · have s5 : Same H2 H' := fun b u eb => sx _ _ (ne_of_none eb nD2) eb
        refine ⟨D2, (List.range (ch.length - 1)).map (fun _ => true), rfl, SqL.of (by rw [eD2, filt_true, List.map_map]; rfl), true, by rw [List.all_map]; simp, iteF ?_⟩
        have s15 := s14.trans s5
        have eD5 := s5 _ _ eD
        have f5 : ∀ j, j < ch.length - 1 → H' (ts j) = some (.tup [.str (ch.getD (j + 1) Str.empty), .str (ch.getD j Str.empty)]) := fun j hj => s5 _ _ (f j hj).1
        -- the answer
        refine ⟨_, rfl, Nat.zero_le _, fun e0 ne0 => ?_⟩
        have s0 := same_upd (o := .tup []) ne0
        have hnm : ∀ x ∈ ch, NameOk x := fun x hx => G.names x (hmem x hx)
        refine ⟨_, _, .tup (SqT.of (s0 _ _ (s15 _ _ et))) (dpAll_ST _), .tup (SqT.of upd_same) .nil, shaped_tup hnm, rfl, .inr ⟨_, rfl, ?_⟩⟩
        rw [eqv_nil_t, decide_eq_false hne]
        have s16 := s15.trans s0
        have eD6 := s0 _ _ eD5
        have f6 : ∀ j, j < ch.length - 1 → (upd H' e0 (.tup [])) (ts j) = some (.tup [.str (ch.getD (j + 1) Str.empty), .str (ch.getD j Str.empty)]) := fun j hj => s0 _ _ (f5 j hj)
        generalize upd H' e0 (.tup []) = H9 at s16 eD6 f6
        refine ⟨_, rfl, D, rfl, ⟨_, SqL.of eD6⟩, fun D3 nD3 => lc_map (it := fun j => V.ref (ts j)) (ys := List.range (ch.length - 1)) (bkAt rows ch) (fun j => V.ref (ts j)) (wlk_lst (SqL.of eD6) nD3) nD3 hbd (fun _ => rfl) (fun j H10 hj sx Qc hq => ?_) (fun j H10 hj sx Qv hq => ⟨_, rfl, hq _ (Same.refl _)⟩) fun H10 sx eD3 => ?_⟩
        · have hj1 := List.mem_range.mp hj
          have hm1 : ch.getD (j + 1) Str.empty ∈ rows := hmem _ (by rw [List.getD_eq_getElem?_getD, List.getElem?_eq_getElem (show j + 1 < ch.length by omega)]; exact List.getElem_mem _)
          have hm0 : ch.getD j Str.empty ∈ rows := hmem _ (by rw [List.getD_eq_getElem?_getD, List.getElem?_eq_getElem (show j < ch.length by omega)]; exact List.getElem_mem _)
          have sx10 : Same H H10 := fun b u eb => sx _ _ (ne_of_none (s16 _ _ eb) nD3) (s16 _ _ eb)
          have ej := sx _ _ (ne_of_none (f6 j hj1) nD3) (f6 j hj1)
          refine ⟨_, rfl, _, rfl, ts j, _, rfl, .inl (SqT.of ej), s, rows, nd, _, _, rfl, hS.same sx10, G.nodup, hm1, hm0, _, rfl, hq _ (Same.refl _)⟩
        · have sx10 : Same H H10 := fun b u eb => sx _ _ (ne_of_none (s16 _ _ eb) nD3) (s16 _ _ eb)
          refine ⟨D3, _, rfl, .inl (SqL.of eD3), _, _, rfl, rfl, ?_⟩
          have hc := backs_cnt rows ch
          have : (if (!false) = true then (1 : Int) else 0) + ((((List.range (ch.length - 1)).filter (bkAt rows ch)).map fun j => V.ref (ts j)).length : Nat) = ((1 + backs rows ch : Nat) : Int) := by
            rw [List.length_map, hc]
            simp
          show Q (.int ((if (!false) = true then (1 : Int) else 0) + ((((List.range (ch.length - 1)).filter (bkAt rows ch)).map fun j => V.ref (ts j)).length : Nat))) H10
          rw [this]
          exact q _ sx10
end
end K19

set_option Elab.async false
set_option linter.all false
set_option maxRecDepth 100000
set_option maxHeartbeats 4000000
/-! The law's pen. -/
namespace K19
open PySem PySem.Spec PyProof.Rows L2 StX ClX GenW RZ
theorem sc_pen : FnScope ["_law_script"] ["_law_script"] (defScope sPen) := ⟨rfl, rfl, rfl, by decide +kernel, rfl, by decide +kernel, by decide +kernel⟩
theorem sc_draw : FnScope ["_law_pen_here", "_law_limit", "_law_digit", "_law_turn", "_law_cell", "_law_whole", "_law_first", "_law_second"] ["_law_pen_here", "_law_limit"] (defScope sDraw) := ⟨rfl, rfl, rfl, by decide +kernel, rfl, by decide +kernel, by decide +kernel⟩
theorem sc_shuf : FnScope ["_law_pen_here", "_law_items", "_law_left", "_law_item"] ["_law_pen_here", "_law_items"] (defScope sShuffled) := ⟨rfl, rfl, rfl, by decide +kernel, rfl, by decide +kernel, by decide +kernel⟩
def penD (c : Addr) (n r : Int) : List (Key × V) := [(kS "cells", .ref c), (kS "next", .int n), (kS "rest", .int r)]
/-- the pen at q with its list of cells, at most b cells drawn -/
def PenB (cn : Addr × List Int) (H : Hp) (q : Addr) (b : Nat) : Prop := ∃ (n : Nat) (r : Int), H q = some (.dK (penD cn.1 n r)) ∧ H cn.1 = some (.lst (cn.2.map V.int)) ∧ cn.2.length ≤ 63 ∧ n ≤ b ∧ 0 ≤ r
theorem PenB.same {cn : Addr × List Int} {H H' : Hp} {q : Addr} {b : Nat} (h : PenB cn H q b) (s : Same H H') : PenB cn H' q b := let ⟨n, r, e1, e2, h1⟩ := h; ⟨n, r, s _ _ e1, s _ _ e2, h1⟩
theorem PenB.mono {cn : Addr × List Int} {H : Hp} {q : Addr} {b b' : Nat} (h : PenB cn H q b) (l : b ≤ b') : PenB cn H q b' := let ⟨n, r, e1, e2, h1, h2, h3⟩ := h; ⟨n, r, e1, e2, h1, Nat.le_trans h2 l, h3⟩
theorem PenB.put {cn : Addr × List Int} {H : Hp} {q a : Addr} {b : Nat} {o : HO} (h : PenB cn H q b) (h1 : a ≠ q) (h2 : a ≠ cn.1) : PenB cn (upd H a o) q b := let ⟨n, r, e1, e2, h3⟩ := h; ⟨n, r, by rw [upd_ne (Ne.symm h1)]; exact e1, by rw [upd_ne (Ne.symm h2)]; exact e2, h3⟩
theorem PenB.ne {cn : Addr × List Int} {H : Hp} {q a : Addr} {b : Nat} (h : PenB cn H q b) (n : H a = none) : a ≠ q ∧ a ≠ cn.1 := let ⟨_, _, e1, e2, _⟩ := h; ⟨Ne.symm (ne_of_none e1 n), Ne.symm (ne_of_none e2 n)⟩
def spPen (K : PySem.W.Frag) : Sp := fun vs H Q _ => ∃ (a : Addr) (ns : List Int), vs = [.ref a] ∧ SqL K H a (ns.map V.int) ∧ ns.length ≤ 63 ∧ ∀ H' q cn, Same H H' → H q = none → PenB cn H' q 0 → Q (.ref q) H'
def spDraw : Sp := fun vs H Q _ => ∃ (q : Addr) (lim b : Nat) (cn : Addr × List Int), vs = [.ref q, .int (lim : Nat)] ∧ PenB cn H q b ∧ b ≤ 100000 ∧ 1 ≤ lim ∧ lim ≤ 100 ∧ ∀ H' (d : Nat), SameX q H H' → PenB cn H' q (b + 1) → d < lim → Q (.int (d : Nat)) H'
def spShuf (K : PySem.W.Frag) : Sp := fun vs H Q _ => ∃ (q a : Addr) (b : Nat) (xs : List Str) (cn : Addr × List Int), vs = [.ref q, .ref a] ∧ PenB cn H q b ∧ b ≤ 90000 ∧ H a = some (.lst (ST xs)) ∧ xs.length ≤ 7 ∧
  ∀ H' l ys, SameX q H H' → PenB cn H' q (b + 7) → ys.Perm xs → H l = none → H' l = some (.lst (ST ys)) → Q (.ref l) H'
section
variable {P : Program} {w : World} {K : PySem.W.Frag} {mg : Str → Option Value} {base : Heap}
theorem ok_pen (T : Txt K mg) : FnOk P w K mg base CX0 1 T.pen.f T.pen.fd ["_law_script"] (spPen K) := by
  refine T.pen.F.ok sc_pen (fun vs H Q E h => ?_) (fun cdv A outer s H vs Q E hr h => ?_)
  · obtain ⟨a, ns, rfl, _⟩ := h
    rfl
  · obtain ⟨a, ns, rfl, hS, hl, q⟩ := h
    refine ⟨_, (pss_one (ps_ret (pe_disp (pps_cons pe_str (pe_callTy call_list_of (by rfl) T.b_list bb_list (pa_cons (pe_slice sl_list (pv 0) po_none (po_some pe_int)) pa_nil)) (pps_cons pe_str pe_int (pps_cons pe_str pe_int pps_nil))) (by rfl) (by rfl) (fun z => by cases z) (by decide)))), ?_⟩
    intro p np
    have s1 := same_upd (o := .dK []) np
    have ep : (upd H p (.dK [])) p = some (.dK []) := upd_same
    generalize upd H p (.dK []) = H1 at s1 ep
    refine ⟨_, rfl, 63, rfl, a, _, rfl, s1.seq hS, fun c1 nc1 => ?_⟩
    have s2 := same_upd (o := .lst (cutV (ns.map V.int) none (some 63))) nc1
    refine ⟨c1, _, rfl, .inl (SqL.of upd_same), fun c2 nc2 => ?_⟩
    have s3 := same_upd (o := .lst (cutV (ns.map V.int) none (some 63))) nc2
    have ecut : cutV (ns.map V.int) none (some 63) = ns.map V.int := by
      unfold cutV
      rw [show (some (63 : Int)) = some ((63 : Nat) : Int) from rfl, HT.sIx_nat, HT.sIx_none, List.length_map, Nat.min_eq_right hl]
      show (List.drop 0 _).take (ns.length - 0) = _
      rw [List.drop_zero, Nat.sub_zero]
      exact List.take_of_length_le (by rw [List.length_map]; exact Nat.le_refl _)
    have e2 : (upd (upd H1 c1 (.lst (cutV (ns.map V.int) none (some 63)))) c2 (.lst (cutV (ns.map V.int) none (some 63)))) p = some (.dK []) := s3 _ _ (s2 _ _ ep)
    have e3 : (upd (upd H1 c1 (.lst (cutV (ns.map V.int) none (some 63)))) c2 (.lst (cutV (ns.map V.int) none (some 63)))) c2 = some (.lst (ns.map V.int)) := by rw [upd_same, ecut]
    have sA : Same H (upd (upd H1 c1 (.lst (cutV (ns.map V.int) none (some 63)))) c2 (.lst (cutV (ns.map V.int) none (some 63)))) := (s1.trans s2).trans s3
    generalize upd (upd H1 c1 (.lst (cutV (ns.map V.int) none (some 63)))) c2 (.lst (cutV (ns.map V.int) none (some 63))) = H2 at e2 e3 sA
    have hne : p ≠ c2 := fun h => by rw [h, e3] at e2; simp at e2
    refine ⟨e2, penD c2 0 0, rfl, (by show 3 ≤ 15; decide), ?_⟩
    refine q _ _ (c2, ns) ?_ np ⟨0, 0, upd_same, ?_, hl, Nat.le_refl _, Int.le_refl _⟩
    · exact fun b x hx => by
        have : b ≠ p := fun h => by rw [h, np] at hx; simp at hx
        rw [upd_ne this]; exact sA b x hx
    · rw [upd_ne (Ne.symm hne)]; exact e3
theorem pn_cells {H : Hp} {q c : Addr} {n r : Int} (h : H q = some (.dK (penD c n r))) : DGet H q (.str "cells") (some (.ref c)) := DGet.k (k := kS "cells") h
theorem pn_next {H : Hp} {q c : Addr} {n r : Int} (h : H q = some (.dK (penD c n r))) : DGet H q (.str "next") (some (.int n)) := DGet.k (k := kS "next") h
theorem pn_rest {H : Hp} {q c : Addr} {n r : Int} (h : H q = some (.dK (penD c n r))) : DGet H q (.str "rest") (some (.int r)) := DGet.k (k := kS "rest") h
theorem pn_setN {H : Hp} {q c : Addr} {n r : Int} (m : Int) (h : H q = some (.dK (penD c n r))) : DPut H q (.str "next") (.int m) (upd H q (.dK (penD c m r))) := DPut.k (k := kS "next") h (show 3 < sizeLine by decide)
theorem pn_setR {H : Hp} {q c : Addr} {n r : Int} (m : Int) (h : H q = some (.dK (penD c n r))) : DPut H q (.str "rest") (.int m) (upd H q (.dK (penD c n m))) := DPut.k (k := kS "rest") h (show 3 < sizeLine by decide)
theorem canLayAll_I : ∀ ns : List Int, PyData.canLayAll0 (ns.map PyData.int) = true
  | [] => rfl
  | n :: ns => by
    show (PyData.canLay0 (.int n) && PyData.canLayAll0 (ns.map PyData.int)) = true
    rw [canLayAll_I ns]
    rfl
theorem depthAll_I : ∀ ns : List Int, PyData.depthAll (ns.map PyData.int) = 0
  | [] => rfl
  | n :: ns => by
    show max (PyData.depth (.int n)) (PyData.depthAll (ns.map PyData.int)) = 0
    rw [depthAll_I ns]
    rfl
theorem shaped_I (ns : List Int) : SeqAt.shaped (.list (ns.map PyData.int)) = true := by
  show (PyData.canLayAll0 (ns.map PyData.int) && decide (PyData.depthAll (ns.map PyData.int) + 1 ≤ 64)) = true
  rw [canLayAll_I ns, depthAll_I]
  rfl
theorem dpAll_I {K : PySem.W.Frag} {H : Hp} : ∀ ns : List Int, DpAll K H (ns.map V.int) (ns.map PyData.int)
  | [] => .nil
  | n :: ns => .cons (.int n) (dpAll_I ns)
theorem eqv_nil_I (ns : List Int) : PyData.eqv (.list (ns.map PyData.int)) (.list []) = decide (ns = []) := by
  cases ns <;> rfl
theorem rd_cell {K : PySem.W.Frag} {H : Hp} {q c : Addr} {ns : List Int} {n : Nat} {m r : Int} {l c0 : Int} {v2 v5 v6 v7 : Option V} {D : Ends}
    (h1 : H q = some (.dK (penD c m r))) (h2 : H c = some (.lst (ns.map V.int)))
    (h : ∀ cell H', Same H H' → D.nx [some (.ref q), some (.int l), v2, some (.int (n : Nat)), some (.int cell), v5, v6, v7] H') :
    tIfS (tTest (tOp (rNeD K) (tDGet (tVar 0) (tC (.str "cells"))) (tLst tNil)))
      (tAsg (tOp (rIxL K) (tDGet (tVar 0) (tC (.str "cells"))) (tOp (rI (fun x j => j ≠ 0) fun i j => .int (i.fmod j)) (tVar 3) (tCB (rLenSeq K) (tCons (tDGet (tVar 0) (tC (.str "cells"))) tNil)))) (gName 4)) tNext D
      [some (.ref q), some (.int l), v2, some (.int (n : Nat)), some (.int c0), v5, v6, v7] H := by
  refine ⟨_, rfl, q, _, rfl, pn_cells h1, ?_⟩
  refine ⟨Nat.zero_le _, fun e ne => ?_⟩
  have s1 := same_upd (o := .lst []) ne
  have ee : (upd H e (.lst [])) e = some (.lst []) := upd_same
  generalize upd H e (.lst []) = H1 at s1 ee
  have hc := s1 _ _ h2
  have hq := s1 _ _ h1
  refine ⟨_, _, .lst (SqL.of hc) (dpAll_I ns), .lst (SqL.of ee) .nil, shaped_I ns, rfl, ?_⟩
  rw [eqv_nil_I]
  refine ⟨_, rfl, ?_⟩
  dsimp only
  by_cases hn : ns = []
  · rw [hn]
    exact h c0 H1 s1
  · rw [decide_eq_false hn]
    have hp : 0 < ns.length := List.length_pos_iff.mpr hn
    refine ⟨_, rfl, q, _, rfl, pn_cells hq, ?_⟩
    refine ⟨_, rfl, _, rfl, q, _, rfl, pn_cells hq, c, _, rfl, .inl (SqL.of hc), ?_⟩
    have hm : Int.fmod ((n : Nat) : Int) (((ns.map V.int).length : Nat) : Int) = ((n % ns.length : Nat) : Int) := by
      rw [List.length_map, Int.fmod_eq_emod_of_nonneg _ (by omega)]
      exact (Int.natCast_emod n ns.length).symm
    have hlt : n % ns.length < ns.length := Nat.mod_lt _ hp
    refine ⟨_, _, rfl, rfl, by rw [List.length_map]; omega, c, _, _, _, rfl, rfl, SqL.of hc, by rw [hm]; exact atI_nat (by rw [List.getElem?_map, List.getElem?_eq_getElem hlt]; rfl), ?_⟩
    exact h _ H1 s1
theorem mod_lim {lim : Nat} (l1 : 1 ≤ lim) (i : Int) : ∃ d : Nat, i.fmod ((lim : Nat) : Int) = ((d : Nat) : Int) ∧ d < lim := by
  have hlim : ((lim : Nat) : Int) ≠ 0 := by omega
  rw [Int.fmod_eq_emod_of_nonneg _ (by omega)]
  have h1 := Int.emod_nonneg i hlim
  have h2 := Int.emod_lt_of_pos i (show (0 : Int) < ((lim : Nat) : Int) by omega)
  exact ⟨(i % ((lim : Nat) : Int)).toNat, by omega, by omega⟩
theorem rd_tail {D : Ends} {lim n : Nat} {cell : Int} {v0 v2 v5 v6 v7 : Option V} {H : Hp} (l1 : 1 ≤ lim) (l2 : lim ≤ 100) (ln : n ≤ 100000) (h : ∀ d : Nat, d < lim → D.rt (.int (d : Nat)) H) :
    tSeq
      (tAsg (tOp (rI (fun x j => j ≠ 0) fun i j => .int (i.fmod j)) (tOp (rI CPow fun i j => .int (i ^ j.toNat))
          (tOp (rI0 fun i j => .int (i + j)) (tOp (rI0 fun i j => .int (i + j)) (tOp (rI (fun x j => j ≠ 0) fun i j => .int (i.fmod j)) (tVar 4) (tC (.int 2147483579))) (tOp (rI CMul fun i j => .int (i * j)) (tC (.int 53077)) (tVar 3))) (tC (.int 41)))
          (tC (.int 5))) (tC (.int 2147483647))) (gName 6))
      (tSeq
        (tAsg (tOp (rI (fun x j => j ≠ 0) fun i j => .int (i.fmod j)) (tOp (rI CPow fun i j => .int (i ^ j.toNat))
            (tOp (rI0 fun i j => .int (i + j)) (tOp (rI0 fun i j => .int (i + j))
              (tOp (rI CMul fun i j => .int (i * j)) (tVar 6) (tOp (rI0 fun i j => .int (i + j)) (tOp (rI CMul fun i j => .int (i * j)) (tC (.int 2)) (tVar 3)) (tC (.int 7))))
              (tOp (rI CMul fun i j => .int (i * j)) (tOp (rI CMul fun i j => .int (i * j)) (tC (.int 64091)) (tVar 3)) (tVar 3))) (tC (.int 19)))
            (tC (.int 3))) (tC (.int 2147483549))) (gName 7))
        (tRet (tOp (rI (fun x j => j ≠ 0) fun i j => .int (i.fmod j)) (tOp (rI CDivN fun i j => .int (i.fdiv j)) (tVar 7) (tC (.int 32))) (tVar 1)))) D
      [v0, some (.int (lim : Nat)), v2, some (.int (n : Nat)), some (.int cell), v5, v6, v7] H := by
  have hlim : ((lim : Nat) : Int) ≠ 0 := by omega
  obtain ⟨m, hm, hml⟩ := mod_lim (lim := 2147483579) (by decide) cell
  replace hm : cell.fmod 2147483579 = ((m : Nat) : Int) := hm
  refine ⟨_, rfl, _, _, rfl, rfl, (show (2147483579 : Int) ≠ 0 by decide), _, rfl, _, _, rfl, rfl, .inl ⟨by decide, by decide⟩, _, _, rfl, rfl, _, _, rfl, rfl, _, _, rfl, rfl, ⟨by decide, by decide, ?_⟩, _, _, rfl, rfl, (show (2147483647 : Int) ≠ 0 by decide), ?_⟩
  · rw [hm]
    have : ((m : Nat) : Int) + 53077 * ((n : Nat) : Int) + 41 = ((m + 53077 * n + 41 : Nat) : Int) := by omega
    rw [this, Int.natAbs_natCast]
    omega
  obtain ⟨f, hf, hfl⟩ := mod_lim (lim := 2147483647) (by decide) ((cell.fmod 2147483579 + 53077 * ((n : Nat) : Int) + 41) ^ (5 : Int).toNat)
  show gName 6 (.int (Int.fmod ((cell.fmod 2147483579 + 53077 * ((n : Nat) : Int) + 41) ^ (5 : Int).toNat) ((2147483647 : Nat) : Int))) _ H _
  rw [hf]
  have hf1 : -2 ^ 64 < ((f : Nat) : Int) ∧ ((f : Nat) : Int) < 2 ^ 64 := by omega
  have hn1 : -2 ^ 64 < ((n : Nat) : Int) ∧ ((n : Nat) : Int) < 2 ^ 64 := by omega
  refine ⟨_, rfl, _, rfl, _, _, rfl, rfl, .inl ⟨by decide, by decide⟩, _, _, rfl, rfl, _, _, rfl, rfl, .inl hf1, _, rfl, _, _, rfl, rfl, .inl ⟨by decide, by decide⟩, _, rfl, _, _, rfl, rfl, .inr hn1, _, _, rfl, rfl, _, _, rfl, rfl, _, _, rfl, rfl, ⟨by decide, by decide, ?_⟩, _, _, rfl, rfl, (show (2147483549 : Int) ≠ 0 by decide), ?_⟩
  · have h1 : f * (2 * n + 7) ≤ 2147483647 * 200007 := Nat.mul_le_mul (by omega) (by omega)
    have h2 : 64091 * n * n ≤ 64091 * 100000 * 100000 := Nat.mul_le_mul (Nat.mul_le_mul_left _ ln) ln
    have : ((f : Nat) : Int) * (2 * ((n : Nat) : Int) + 7) + 64091 * ((n : Nat) : Int) * ((n : Nat) : Int) + 19 = ((f * (2 * n + 7) + 64091 * n * n + 19 : Nat) : Int) := by
      rw [Int.natCast_add, Int.natCast_add, Int.natCast_mul, Int.natCast_add, Int.natCast_mul, Int.natCast_mul, Int.natCast_mul]
      rfl
    show Int.natAbs (((f : Nat) : Int) * (2 * ((n : Nat) : Int) + 7) + 64091 * ((n : Nat) : Int) * ((n : Nat) : Int) + 19) < 2 ^ 64
    rw [this, Int.natAbs_natCast]
    omega
  obtain ⟨d, hd, hdl⟩ := mod_lim l1 (Int.fdiv (((((f : Nat) : Int) * (2 * ((n : Nat) : Int) + 7) + 64091 * ((n : Nat) : Int) * ((n : Nat) : Int) + 19) ^ (3 : Int).toNat).fmod 2147483549) 32)
  refine ⟨_, rfl, _, _, rfl, rfl, ⟨by decide, by decide⟩, _, rfl, _, _, rfl, rfl, hlim, ?_⟩
  show D.rt (.int ((Int.fdiv (((((f : Nat) : Int) * (2 * ((n : Nat) : Int) + 7) + 64091 * ((n : Nat) : Int) * ((n : Nat) : Int) + 19) ^ (3 : Int).toNat).fmod 2147483549) 32).fmod ((lim : Nat) : Int))) H
  rw [hd]
  exact h d hdl
theorem ok_draw (T : Txt K mg) : FnOk P w K mg base CX0 1 T.draw.f T.draw.fd ["_law_pen_here", "_law_limit"] spDraw := by
  refine T.draw.F.ok sc_draw (fun vs H Q E h => ?_) (fun cdv A outer s H vs Q E hr h => ?_)
  · obtain ⟨q, lim, b, cn, rfl, _⟩ := h
    rfl
  · obtain ⟨q, lim, b, ⟨c, ns⟩, rfl, hP, hb, l1, l2, k⟩ := h
    obtain ⟨n, r, e1, e2, hl, hn, hr0⟩ := hP
    replace e1 : H q = some (.dK (penD c n r)) := e1
    replace e2 : H c = some (.lst (ns.map V.int)) := e2
    replace hl : ns.length ≤ 63 := hl
    have hcq : c ≠ q := fun h => by rw [h, e1] at e2; simp at e2
    have hlim : ((lim : Nat) : Int) ≠ 0 := by omega
    have hmod : ∀ i : Int, ∃ d : Nat, i.fmod ((lim : Nat) : Int) = ((d : Nat) : Int) ∧ d < lim := fun i => by
      rw [Int.fmod_eq_emod_of_nonneg _ (by omega)]
      have h1 := Int.emod_nonneg i hlim
      have h2 := Int.emod_lt_of_pos i (show (0 : Int) < ((lim : Nat) : Int) by omega)
      exact ⟨(i % ((lim : Nat) : Int)).toNat, by omega, by omega⟩
    have hdiv : ∀ i : Int, 0 ≤ i → 0 ≤ i.fdiv ((lim : Nat) : Int) := fun i hi => Int.fdiv_nonneg hi (by omega)
    have hlimC : CDivN 0 ((lim : Nat) : Int) := ⟨hlim, by omega⟩
    refine ⟨_, (pss_cons (ps_if (pt_cmpR op_gt (pe_dget (hu_of hr) (pv 0) pe_str (fun _ _ => rfl)) pe_int (nomark _))
        (pss_cons (ps_set (i := 2) sc_draw.nd rfl (.inl rfl) (pe_op op_modN (pe_dget (hu_of hr) (pv 0) pe_str (fun _ _ => rfl)) (pv 1)))
      (pss_cons (ps_dput (hu_of hr) (pv 0) pe_str (pe_op op_fdivN (pe_dget (hu_of hr) (pv 0) pe_str (fun _ _ => rfl)) (pv 1)) rfl)
      (pss_one (ps_ret (pv 2)))))
        pss_nil)
      (pss_cons (ps_set (i := 3) sc_draw.nd rfl (.inl rfl) (pe_dget (hu_of hr) (pv 0) pe_str (fun _ _ => rfl)))
      (pss_cons (ps_dput (hu_of hr) (pv 0) pe_str (pe_op op_add (pv 3) pe_int) rfl)
      (pss_cons (ps_set (i := 4) sc_draw.nd rfl (.inl rfl) (pe_op op_add (pe_op op_mul pe_int (pv 3)) pe_int))
      (pss_cons (ps_if (pt_cmpR (op_neD hr.units) (pe_dget (hu_of hr) (pv 0) pe_str (fun _ _ => rfl)) (pe_lst pa_nil) (nomark _))
        (pss_one (ps_set (i := 4) sc_draw.nd rfl (.inl rfl) (pe_ix ix_list (pe_dget (hu_of hr) (pv 0) pe_str (fun _ _ => rfl)) (pe_op op_modN (pv 3) (pe_callB call_len_seq (by rfl) T.b_len PySem.boot_len (pa_cons (pe_dget (hu_of hr) (pv 0) pe_str (fun _ _ => rfl)) pa_nil))) (fun _ _ => rfl))))
        pss_nil)
      (pss_cons (ps_if (PW.pt (pw_and (pt_cmpR op_lt (pv 3) (pe_callB call_len_seq (by rfl) T.b_len PySem.boot_len (pa_cons (pe_dget (hu_of hr) (pv 0) pe_str (fun _ _ => rfl)) pa_nil)) (nomark _)) (pw_and1 (pt_cmpR op_ge (pe_callB call_abs (by rfl) T.b_abs bb_abs (pa_cons (pv 4) pa_nil)) (pe_op op_pow pe_int pe_int) (nomark _)))))
        (pss_cons (ps_set (i := 5) sc_draw.nd rfl (.inl rfl) (pe_op op_add (pe_op op_mul pe_int (pe_callB call_abs (by rfl) T.b_abs bb_abs (pa_cons (pv 4) pa_nil))) (pe_callTy call_int1 (by rfl) T.b_int bb_int (pa_cons (pe_cmpR op_lt (pv 4) pe_int (nomark _)) pa_nil))))
      (pss_cons (ps_dput (hu_of hr) (pv 0) pe_str (pe_op op_fdivN (pv 5) (pv 1)) rfl)
      (pss_one (ps_ret (pe_op op_modN (pv 5) (pv 1))))))
        pss_nil)
      (pss_cons (ps_set (i := 6) sc_draw.nd rfl (.inl rfl) (pe_op op_modN (pe_op op_pow (pe_op op_add (pe_op op_add (pe_op op_modN (pv 4) pe_int) (pe_op op_mul pe_int (pv 3))) pe_int) pe_int) pe_int))
      (pss_cons (ps_set (i := 7) sc_draw.nd rfl (.inl rfl) (pe_op op_modN (pe_op op_pow (pe_op op_add (pe_op op_add (pe_op op_mul (pv 6) (pe_op op_add (pe_op op_mul pe_int (pv 3)) pe_int)) (pe_op op_mul (pe_op op_mul pe_int (pv 3)) (pv 3))) pe_int) pe_int) pe_int))
      (pss_one (ps_ret (pe_op op_modN (pe_op op_fdivN (pv 7) pe_int) (pv 1)))))))))))), ?_⟩
    refine ⟨_, rfl, q, _, rfl, pn_rest e1, _, _, rfl, rfl, _, rfl, ?_⟩
    refine ite2 (fun hc => ?_) (fun hc => ?_)
    · obtain ⟨d, hd, hdl⟩ := hmod r
      refine ⟨_, rfl, q, _, rfl, pn_rest e1, _, rfl, _, _, rfl, rfl, hlim, _, rfl, ?_⟩
      refine ⟨q, _, rfl, pn_rest e1, _, rfl, _, _, rfl, rfl, hlimC, _, rfl, q, _, rfl, pn_setR _ e1, _, rfl, ?_⟩
      show Q (.int (r.fmod ((lim : Nat) : Int))) _
      rw [hd]
      exact k _ d SameX.self' ⟨n, _, upd_same, by rw [upd_ne hcq]; exact e2, hl, by omega, hdiv _ hr0⟩ hdl
    · have hr00 : r = 0 := by
        have : ¬ (0 < r) := fun h => hc (decide_eq_true h)
        omega
      subst hr00
      refine ⟨_, rfl, q, _, rfl, pn_next e1, ?_⟩
      refine ⟨_, rfl, _, _, rfl, rfl, _, rfl, q, _, rfl, pn_setN _ e1, ?_⟩
      have sx : SameX q H (upd H q (.dK (penD c (((n : Nat) : Int) + 1) 0))) := SameX.self'
      have f1 : (upd H q (.dK (penD c (((n : Nat) : Int) + 1) 0))) q = some (.dK (penD c (((n : Nat) : Int) + 1) 0)) := upd_same
      have f2 : (upd H q (.dK (penD c (((n : Nat) : Int) + 1) 0))) c = some (.lst (ns.map V.int)) := by rw [upd_ne hcq]; exact e2
      generalize upd H q (.dK (penD c (((n : Nat) : Int) + 1) 0)) = H1 at sx f1 f2
      have hn1 : (((n : Nat) : Int) + 1) = (((n + 1 : Nat)) : Int) := by omega
      rw [hn1] at f1
      refine ⟨_, rfl, _, _, rfl, rfl, .inl ⟨by decide, by decide⟩, _, _, rfl, rfl, ?_⟩
      dsimp only
      refine rd_cell f1 f2 fun cell H2 s2 => ?_
      have g1 := s2 _ _ f1
      have g2 := s2 _ _ f2
      have sy : SameX q H H2 := fun b o hb e => s2 _ _ (sx b o hb e)
      refine ⟨_, rfl, _, rfl, q, _, rfl, pn_cells g1, c, _, rfl, .inl (SqL.of g2), _, _, rfl, rfl, _, rfl, ?_⟩
      cases hb1 : decide (((n : Nat) : Int) < (((ns.map V.int).length : Nat) : Int)) with
      | false =>
        dsimp only
        exact rd_tail l1 l2 (by omega) fun d hd => k _ d sy ⟨n + 1, 0, g1, g2, hl, by omega, Int.le_refl _⟩ hd
      | true =>
        dsimp only
        refine ⟨_, rfl, _, rfl, _, _, rfl, rfl, ⟨by decide, by decide, by decide⟩, _, _, rfl, rfl, _, rfl, ?_⟩
        refine ite2 (fun hb2 => ?_) (fun hb2 => ?_)
        · have hab : (0 : Int) ≤ (if cell < 0 then -cell else cell) := by split <;> omega
          have hb0 : (0 : Int) ≤ (if decide (cell < 0) = true then 1 else 0) := by split <;> omega
          refine ⟨_, rfl, _, rfl, _, _, rfl, rfl, .inl ⟨by decide, by decide⟩, _, rfl, _, _, rfl, rfl, .inr ⟨_, rfl, ?_⟩⟩
          refine ⟨_, _, rfl, rfl, ?_⟩
          have hw : (0 : Int) ≤ 2 * (if cell < 0 then -cell else cell) + (if decide (cell < 0) = true then 1 else 0) := by omega
          show gName 5 (.int (2 * (if cell < 0 then -cell else cell) + (if decide (cell < 0) = true then 1 else 0))) _ H2 _
          generalize 2 * (if cell < 0 then -cell else cell) + (if decide (cell < 0) = true then 1 else 0) = wh at hw
          obtain ⟨d, hd, hdl⟩ := hmod wh
          refine ⟨_, rfl, _, rfl, _, _, rfl, rfl, hlimC, _, rfl, q, _, rfl, pn_setR _ g1, _, rfl, _, rfl, _, _, rfl, rfl, hlim, ?_⟩
          show Q (.int (wh.fmod ((lim : Nat) : Int))) _
          rw [hd]
          exact k _ d (fun b o hb e => by rw [upd_ne hb]; exact sy b o hb e) ⟨n + 1, _, upd_same, by rw [upd_ne hcq]; exact g2, hl, by omega, hdiv _ hw⟩ hdl
        · exact rd_tail l1 l2 (by omega) fun d hd => k _ d sy ⟨n + 1, 0, g1, g2, hl, by omega, Int.le_refl _⟩ hd
end
end K19

set_option Elab.async false
set_option linter.all false
set_option maxRecDepth 100000
set_option maxHeartbeats 4000000
/-! The law's shuffle and names. -/
namespace K19
open PySem PySem.Spec PyProof.Rows L2 StX ClX GenW RZ
section
variable {P : Program} {w : World} {K : PySem.W.Frag} {mg : Str → Option Value} {base : Heap}
theorem perm_pop {ac lf xs : List Str} {d : Nat} {y : Str} (h : (ac ++ lf).Perm xs) (hd : lf[d]? = some y) : ((ac ++ [y]) ++ lf.eraseIdx d).Perm xs := by
  refine .trans ?_ h
  rw [List.append_assoc]
  refine .append_left ac ?_
  obtain ⟨hl, rfl⟩ := List.getElem?_eq_some_iff.mp hd
  rw [List.eraseIdx_eq_take_drop_succ]
  have e : lf = lf.take d ++ lf[d] :: lf.drop (d + 1) := by rw [← List.drop_eq_getElem_cons hl, List.take_append_drop]
  conv => rhs; rw [e]
  exact (show (lf[d] :: (lf.take d ++ lf.drop (d + 1))).Perm _ from List.perm_middle.symm)
theorem ST_erase (xs : List Str) (d : Nat) : (ST xs).eraseIdx d = ST (xs.eraseIdx d) := by
  rw [List.eraseIdx_eq_take_drop_succ, List.eraseIdx_eq_take_drop_succ]
  unfold ST
  rw [List.map_append, List.map_take, List.map_drop]
theorem ok_shuf (T : Txt K mg) : FnOk P w K mg base CX0 2 T.shuffled.f T.shuffled.fd ["_law_pen_here", "_law_items"] (spShuf K) := by
  have G_draw : FnOk P w K mg base CX0 1 T.draw.f T.draw.fd ["_law_pen_here", "_law_limit"] spDraw := ok_draw T
  refine T.shuffled.F.ok sc_shuf (fun vs H Q E h => ?_) (fun cdv A outer s H vs Q E hr h => ?_)
  · obtain ⟨q, a, b, xs, cn, rfl, _⟩ := h
    rfl
  · obtain ⟨q, a, b, xs, cn, rfl, hP, hb, ha, hx, k⟩ := h
    refine ⟨_, (pss_cons (ps_set (i := 2) sc_shuf.nd rfl (.inr rfl) (pe_callTy call_list_of (by rfl) T.b_list bb_list (pa_cons (pv 1) pa_nil)))
      (pss_one (ps_ret (pe_lc (own := [("_law_item", 3)]) (g := (gName 3)) (by rfl) sc_shuf.nd (pi_list (pv 1)) (blkOk_by (own := [("_law_item", 3)]) (N := ["_law_pen_here", "_law_items", "_law_left", "_law_item"]) (sc := defScope sShuffled) (by decide +kernel)) (fun _ _ _ _ _ => (pg_name (i := 3) sc_shuf.nd rfl (.inl rfl))) (fun _ _ _ _ _ => pts_nil) (fun _ _ _ _ _ => (show PE _ _ (tBM K "list" rPopAt (tVar 2) (tCons (tCall spDraw [] _ (tCons (tVar 0) (tCons (tCB (rLenSeq K) (tCons (tVar 2) tNil)) tNil))) tNil)) from pe_bm PySem.F.plainAttrs_list PySem.F.slot_list_pop PySem.F.type_list_pop mt_popAt (pv 2) (pa_cons (pe_call G_draw (hr.mono (by decide)) (by rfl) T.g_draw T.draw.F.kp T.bd_draw .nil pass0 (pa_cons (pv 0) (pa_cons (pe_callB (show CallR _ _ (rLenSeq K) from call_len_seq) (by rfl) T.b_len PySem.boot_len (pa_cons (pv 2) pa_nil)) pa_nil))) pa_nil))))))), ?_⟩
    refine ⟨_, rfl, a, _, rfl, .inl (SqL.of ha), fun l nl => ?_⟩
    have s1 := same_upd (o := .lst (ST xs)) nl
    have el : (upd H l (.lst (ST xs))) l = some (.lst (ST xs)) := upd_same
    have hP1 := hP.same s1
    have ha1 := s1 _ _ ha
    obtain ⟨hlq, hlc⟩ := hP.ne nl
    have hla : a ≠ l := ne_of_none ha nl
    generalize upd H l (.lst (ST xs)) = H1 at s1 el hP1 ha1
    refine ⟨_, rfl, a, rfl, ⟨_, SqL.of ha1⟩, fun D nD => ?_⟩
    obtain ⟨hDq, hDc⟩ := hP1.ne nD
    have nD0 := s1.free nD
    have hDl : l ≠ D := ne_of_none el nD
    have hDa : a ≠ D := ne_of_none ha1 nD
    refine lc_go xs.length (fun i H' => ∃ lf ac, H' l = some (.lst (ST lf)) ∧ H' D = some (.lst (ST ac)) ∧ (ac ++ lf).Perm xs ∧ lf.length + i = xs.length ∧ PenB cn H' q (b + i) ∧ SameX q H H' ∧ H' a = some (.lst (ST xs)))
      ⟨xs, [], by rw [upd_ne hDl]; exact el, upd_same, .refl _, rfl, hP1.put hDq hDc, (sx_of s1).at_ nD0, by rw [upd_ne hDa]; exact ha1⟩ ?_ ?_
    · rintro i H' hi ⟨lf, ac, f1, f2, f3, f4, f5, f6, f7⟩
      refine ⟨⟨_, .str xs[i], SqL.of f7, by rw [List.getElem?_map, List.getElem?_eq_getElem hi]; rfl⟩, fun x H3 ⟨eH, fx⟩ => ?_⟩
      subst H3
      refine ⟨rfl, ?_⟩
      refine ⟨_, rfl, .inl ⟨rfl, _, SqL.of f1⟩, ?_⟩
      refine ⟨_, rfl, _, rfl, l, _, rfl, .inl (SqL.of f1), q, lf.length, b + i, cn, by rw [ST_len]; rfl, f5, by omega, by omega, by omega, fun H4 d s4 p4 hd => ?_⟩
      have g1 := s4 _ _ hlq f1
      have g2 := s4 _ _ hDq f2
      have hdy : lf[d]? = some lf[d] := List.getElem?_eq_getElem hd
      refine ⟨l, _, _, d, _, rfl, rfl, g1, by omega, by omega, ?_, by rw [List.getElem?_map, hdy]; rfl, _, by rw [upd_ne hDl.symm]; exact g2, by rw [ST_len]; have := f3.length_eq; rw [List.length_append] at this; exact small7 (by omega), lf.eraseIdx d, ac ++ [lf[d]], ?_, ?_, perm_pop f3 hdy, ?_, ?_, ?_, ?_⟩
      · unfold seqIndex?
        rw [ST_len]
        have h1 : ¬ (((d : Nat) : Int) < 0) := by omega
        simp only [h1, if_false]
        rw [if_pos (by rw [decide_eq_true (by omega), decide_eq_true (by omega)]; rfl)]
        rfl
      · rw [upd_ne hDl, upd_same, ST_erase]
      · rw [upd_same, ST_snoc]
      · rw [List.length_eraseIdx_of_lt hd]
        omega
      · exact (p4.put hlq hlc).put hDq hDc
      · exact (fun bb o hb e => by
          rw [upd_ne (ne_of_none e nD0), upd_ne (ne_of_none e nl)]
          exact s4 _ _ hb (f6 _ _ hb e))
      · rw [upd_ne hDa, upd_ne hla]
        by_cases haq : a = q
        · obtain ⟨_, _, e1, _⟩ := f5
          rw [haq, e1] at f7
          cases f7
        · exact s4 _ _ haq f7
    · rintro H' ⟨lf, ac, f1, f2, f3, f4, f5, f6, f7⟩
      have : lf = [] := List.length_eq_zero_iff.mp (by omega)
      subst this
      rw [List.append_nil] at f3
      exact ⟨⟨_, SqL.of f7, by rw [ST_len]; exact Nat.le_refl _⟩, k H' D ac f6 (f5.mono (by omega)) f3 nD0 f2⟩
end
end K19

set_option Elab.async false
set_option linter.all false
set_option maxRecDepth 100000
set_option maxHeartbeats 4000000
/-! The law's names. -/
namespace K19
open PySem PySem.Spec PyProof.Rows L2 StX ClX GenW RZ
theorem sc_names : FnScope ["_law_pen_here", "_law_many", "_law_letters", "_law_pool", "_law_start", "_law_stride", "_law_sign", "_law_k"] ["_law_pen_here", "_law_many"] (defScope sNames) := ⟨rfl, rfl, rfl, by decide +kernel, rfl, by decide +kernel, by decide +kernel⟩
def spNames : Sp := fun vs H Q _ => ∃ (q : Addr) (m b : Nat) (cn : Addr × List Int), vs = [.ref q, .int (m : Nat)] ∧ PenB cn H q b ∧ b ≤ 90000 ∧ m ≤ 7 ∧
  ∀ H' l ys, SameX q H H' → PenB cn H' q (b + 2) → ys.length = m → ys.Nodup → (∀ y ∈ ys, NameOk y) → H l = none → H' l = some (.lst (ST ys)) → Q (.ref l) H'
theorem SameX.free {q D : Addr} {H H' : Hp} (s : SameX q H H') (h : H' D = none) (hq : D ≠ q) : H D = none := by
  cases e : H D with
  | none => rfl
  | some o => rw [s _ _ hq e] at h; cases h
theorem SameX.new {q t : Addr} {H H' : Hp} {o : HO} (s : SameX q H H') (h : H' t = none) : SameX q H (upd H' t o) := fun b x hb e => by
  have e2 := s _ _ hb e
  rw [upd_ne (ne_of_none e2 h)]
  exact e2
theorem PenB.fresh {cn : Addr × List Int} {H : Hp} {q t : Addr} {b : Nat} {o : HO} (h : PenB cn H q b) (n : H t = none) : PenB cn (upd H t o) q b := h.put (h.ne n).1 (h.ne n).2
def PA : List Str := sgns "abcdefghijklmnopqrstuvwxyz"
def PB : List Str := PA.map fun x => x ++ "q"
def PC : List Str := ["move", "need", "drop", "allow", "if"]
def PD : List Str := ["self", "rows", "aaaaaaaa", "zzzzzzzz"]
def POOL : List Str := PA ++ PB ++ PC ++ PD
def nameB (s : Str) : Bool := decide (1 ≤ s.length) && decide (s.length ≤ 8) && s.cps.toList.all fun c => decide (c ∈ LET.cps.toList)
theorem nameB_ok {s : Str} (h : nameB s = true) : NameOk s := by
  unfold nameB at h
  rw [Bool.and_eq_true, Bool.and_eq_true] at h
  exact ⟨of_decide_eq_true h.1.1, of_decide_eq_true h.1.2, fun c hc => of_decide_eq_true (List.all_eq_true.mp h.2 c hc)⟩
theorem pool_len : POOL.length = 61 := by decide +kernel
theorem pool_nodup : POOL.Nodup := by decide +kernel
theorem pool_ok : ∀ y ∈ POOL, NameOk y := fun y hy => nameB_ok (by
  have : POOL.all nameB = true := by decide +kernel
  exact List.all_eq_true.mp this y hy)
theorem pa_one : ∀ x ∈ PA, x.length = 1 := by decide +kernel
theorem pa_len : PA.length = 26 := by decide +kernel
theorem mod61 : ∀ s < 61, ∀ k < 7, 0 < s → 0 < k → (s * k) % 61 ≠ 0 := by decide +kernel
def nmAt (a s j : Nat) : Str := POOL.getD ((a + s * j) % 61) Str.empty
theorem nmAt_get (a s j : Nat) : POOL[(a + s * j) % 61]? = some (nmAt a s j) := by
  have h : (a + s * j) % 61 < POOL.length := by rw [pool_len]; exact Nat.mod_lt _ (by decide)
  unfold nmAt
  rw [List.getD_eq_getElem?_getD, List.getElem?_eq_getElem h]
  rfl
theorem nmAt_ok (a s j : Nat) : NameOk (nmAt a s j) := pool_ok _ (List.mem_of_getElem? (nmAt_get a s j))
theorem nmAt_lt {a s i j : Nat} (h0 : 0 < s) (h1 : s < 61) (hij : i < j) (hj : j < 7) : nmAt a s i ≠ nmAt a s j := fun h => by
  have h1' := nmAt_get a s i
  have h2' := nmAt_get a s j
  rw [h] at h1'
  obtain ⟨l1, e1⟩ := List.getElem?_eq_some_iff.mp h1'
  obtain ⟨l2, e2⟩ := List.getElem?_eq_some_iff.mp h2'
  have e := (List.getElem_inj (h₀ := l1) (h₁ := l2) pool_nodup).mp (e1.trans e2.symm)
  have hm := mod61 s h1 (j - i) (by omega) h0 (by omega)
  have : s * j = s * i + s * (j - i) := by rw [← Nat.mul_add]; congr 1; omega
  rw [this] at e
  omega
theorem nm_nodup {a s m : Nat} (h0 : 0 < s) (h1 : s < 61) (hm : m ≤ 7) : ((List.range m).map (nmAt a s)).Nodup := by
  rw [List.Nodup, List.pairwise_map]
  refine List.Pairwise.imp_of_mem ?_ List.pairwise_lt_range
  intro i j hi hj hij
  exact nmAt_lt h0 h1 hij (by have := List.mem_range.mp hj; omega)
theorem wlk_rng {D : Addr} {H : Hp} (n : Nat) : Wlk (Itr 0 n) D H (fun j : Nat => V.int (j : Nat)) (List.range n) where
  go i H' h _ := by rw [List.length_range] at h; exact h
  yld i H' x H2 _ y := ⟨y.1, fun r hr => by
    obtain ⟨hl, rfl⟩ := List.getElem?_eq_some_iff.mp hr
    rw [List.getElem_range, y.2, Int.zero_add]⟩
  stop H' _ := by rw [List.length_range]; exact Nat.le_refl _
section
variable {P : Program} {w : World} {K : PySem.W.Frag} {mg : Str → Option Value} {base : Heap}
theorem ok_names (T : Txt K mg) : FnOk P w K mg base CX0 2 T.names.f T.names.fd ["_law_pen_here", "_law_many"] spNames := by
  have G_draw : FnOk P w K mg base CX0 1 T.draw.f T.draw.fd ["_law_pen_here", "_law_limit"] spDraw := ok_draw T
  refine T.names.F.ok sc_names (fun vs H Q E h => ?_) (fun cdv A outer s H vs Q E hr h => ?_)
  · obtain ⟨q, m, b, cn, rfl, _⟩ := h
    rfl
  · obtain ⟨q, m, b, cn, rfl, hP, hb, hm, k⟩ := h
    refine ⟨_, (pss_cons (ps_set (i := 2) sc_names.nd rfl (.inl rfl) (pe_callTy (call_listStr rfl) (by rfl) T.b_list bb_list (pa_cons pe_str pa_nil)))
      (pss_cons (ps_set (i := 3) sc_names.nd rfl (.inr rfl) (pe_op op_cat (pe_op op_cat (pv 2) (pe_lc (own := [("_law_sign", 6)]) (g := (gName 6)) (by rfl) sc_names.nd (pi_list (pv 2)) (blkOk_by (own := [("_law_sign", 6)]) (N := ["_law_pen_here", "_law_many", "_law_letters", "_law_pool", "_law_start", "_law_stride", "_law_sign", "_law_k"]) (sc := defScope sNames) (by decide +kernel)) (fun _ _ _ _ _ => (pg_name (i := 6) sc_names.nd rfl (.inl rfl))) (fun _ _ _ _ _ => pts_nil) (fun _ _ _ _ _ => (pe_op op_add_str (pv 6) pe_str)))) (pe_lst (pa_cons pe_str (pa_cons pe_str (pa_cons pe_str (pa_cons pe_str (pa_cons pe_str pa_nil))))))))
      (pss_cons (ps_set (i := 3) sc_names.nd rfl (.inr rfl) (pe_op op_cat (pv 3) (pe_lst (pa_cons pe_str (pa_cons pe_str (pa_cons pe_str (pa_cons pe_str pa_nil)))))))
      (pss_cons (ps_asg (pe_tup (pa_cons (pe_call G_draw (hr.mono (by decide)) (by rfl) T.g_draw T.draw.F.kp T.bd_draw .nil pass0 (pa_cons (pv 0) (pa_cons pe_int pa_nil))) (pa_cons (pe_op op_add pe_int (pe_call G_draw (hr.mono (by decide)) (by rfl) T.g_draw T.draw.F.kp T.bd_draw .nil pass0 (pa_cons (pv 0) (pa_cons pe_int pa_nil)))) pa_nil))) (pg_tup rfl (pgs_cons (pg_name (i := 4) sc_names.nd rfl (.inr rfl)) (pgs_cons (pg_name (i := 5) sc_names.nd rfl (.inr rfl)) pgs_nil))))
      (pss_one (ps_ret (pe_lc (own := [("_law_k", 7)]) (g := (gName 7)) (by rfl) sc_names.nd (pi_range1 (by rfl) T.b_range (pa_cons (pv 1) pa_nil)) (blkOk_by (own := [("_law_k", 7)]) (N := ["_law_pen_here", "_law_many", "_law_letters", "_law_pool", "_law_start", "_law_stride", "_law_sign", "_law_k"]) (sc := defScope sNames) (by decide +kernel)) (fun _ _ _ _ _ => (pg_name (i := 7) sc_names.nd rfl (.inl rfl))) (fun _ _ _ _ _ => pts_nil) (fun _ _ _ _ _ => (pe_ix (show IxR _ (rIxL K) from ix_list) (pv 3) (pe_op op_modN (pe_op op_add (pv 4) (pe_op op_mul (pv 5) (pv 7))) pe_int) (fun _ _ => rfl)))))))))), ?_⟩
    refine ⟨_, rfl, (by decide), fun a1 n1 => ?_⟩
    have s1 := same_upd (o := .lst (PA.map V.str)) n1
    have e1 : (upd H a1 (.lst (PA.map V.str))) a1 = some (.lst (PA.map V.str)) := upd_same
    have hP1 := hP.same s1
    show tSeq _ _ _ _ (upd H a1 (.lst (PA.map V.str)))
    generalize upd H a1 (.lst (PA.map V.str)) = H1 at s1 e1 hP1
    refine ⟨_, rfl, _, rfl, a1, rfl, ⟨_, SqL.of e1⟩, fun D nD => lc_map (it := V.str) (ys := PA) (fun _ => true) (fun x => V.str (x ++ "q")) (wlk_lst (SqL.of e1) nD) nD (by rw [pa_len]; decide) (fun _ => rfl) (fun x H' hx sx Qc hq => hq _ (Same.refl _)) (fun x H' hx sx Qv hq => ⟨_, rfl, _, _, rfl, rfl, (by rw [pa_one x hx]; decide), hq _ (Same.refl _)⟩) fun H2 sx eD => ?_⟩
    have s2 : Same H H2 := fun b o e => sx b o (ne_of_none (s1 _ _ e) nD) (s1 _ _ e)
    have f1 : H2 a1 = some (.lst (PA.map V.str)) := sx _ _ (ne_of_none e1 nD) e1
    have f2 : H2 D = some (.lst (PB.map V.str)) := by
      rw [eD, List.filter_eq_self.mpr fun _ _ => rfl]
      unfold PB
      rw [List.map_map]
      rfl
    refine ⟨a1, D, _, _, rfl, rfl, f1, f2, (by decide +kernel), fun p1 np1 => ?_⟩
    have s3 := s2.trans (same_upd (o := .lst (PA.map V.str ++ PB.map V.str)) np1)
    have f3 : (upd H2 p1 (.lst (PA.map V.str ++ PB.map V.str))) p1 = some (.lst (PA.map V.str ++ PB.map V.str)) := upd_same
    generalize upd H2 p1 (.lst (PA.map V.str ++ PB.map V.str)) = H3 at s3 f3
    refine ⟨(by decide), fun c1 nc1 => ?_⟩
    have s4 := s3.trans (same_upd (o := .lst (PC.map V.str)) nc1)
    have f4 : (upd H3 c1 (.lst (PC.map V.str))) c1 = some (.lst (PC.map V.str)) := upd_same
    have f5 : (upd H3 c1 (.lst (PC.map V.str))) p1 = some (.lst (PA.map V.str ++ PB.map V.str)) := same_upd nc1 _ _ f3
    show rCat (.ref p1) (.ref c1) (upd H3 c1 (.lst (PC.map V.str))) _
    generalize upd H3 c1 (.lst (PC.map V.str)) = H4 at s4 f4 f5
    refine ⟨p1, c1, _, _, rfl, rfl, f5, f4, (by decide +kernel), fun p2 np2 => ?_⟩
    have s5 := s4.trans (same_upd (o := .lst (PA.map V.str ++ PB.map V.str ++ PC.map V.str)) np2)
    have f6 : (upd H4 p2 (.lst (PA.map V.str ++ PB.map V.str ++ PC.map V.str))) p2 = some (.lst (PA.map V.str ++ PB.map V.str ++ PC.map V.str)) := upd_same
    generalize upd H4 p2 (.lst (PA.map V.str ++ PB.map V.str ++ PC.map V.str)) = H5 at s5 f6
    refine ⟨_, rfl, (by decide), fun c2 nc2 => ?_⟩
    have s6 := s5.trans (same_upd (o := .lst (PD.map V.str)) nc2)
    have f7 : (upd H5 c2 (.lst (PD.map V.str))) c2 = some (.lst (PD.map V.str)) := upd_same
    have f8 : (upd H5 c2 (.lst (PD.map V.str))) p2 = some (.lst (PA.map V.str ++ PB.map V.str ++ PC.map V.str)) := same_upd nc2 _ _ f6
    show rCat (.ref p2) (.ref c2) (upd H5 c2 (.lst (PD.map V.str))) _
    generalize upd H5 c2 (.lst (PD.map V.str)) = H6 at s6 f7 f8
    refine ⟨p2, c2, _, _, rfl, rfl, f8, f7, (by decide +kernel), fun p3 np3 => ?_⟩
    have epool : PA.map V.str ++ PB.map V.str ++ PC.map V.str ++ PD.map V.str = POOL.map V.str := by
      unfold POOL
      rw [List.map_append, List.map_append, List.map_append]
    have s7 := s6.trans (same_upd (o := .lst (PA.map V.str ++ PB.map V.str ++ PC.map V.str ++ PD.map V.str)) np3)
    have f9 : (upd H6 p3 (.lst (PA.map V.str ++ PB.map V.str ++ PC.map V.str ++ PD.map V.str))) p3 = some (.lst (POOL.map V.str)) := by rw [upd_same, epool]
    generalize upd H6 p3 (.lst (PA.map V.str ++ PB.map V.str ++ PC.map V.str ++ PD.map V.str)) = H7 at s7 f9
    have np30 : H p3 = none := s6.free np3
    have hpq : p3 ≠ q := (hP.ne np30).1
    refine ⟨_, rfl, q, 61, b, cn, rfl, hP.same s7, by omega, by decide, by decide, fun H8 d1 sx8 p8 hd1 => ?_⟩
    refine ⟨_, rfl, q, 60, b + 1, cn, rfl, p8, by omega, by decide, by decide, fun H9 d2 sx9 p9 hd2 => ?_⟩
    refine ⟨_, _, rfl, rfl, (show 2 ≤ sizeLine by decide), fun t nt => ?_⟩
    have f10 := sx9 _ _ hpq (sx8 _ _ hpq f9)
    have sA : SameX q H H9 := fun b o hb e => sx9 _ _ hb (sx8 _ _ hb (s7 _ _ e))
    show gTup _ _ _ (.ref t) _ (upd H9 t (.tup [.int (d1 : Nat), .int (1 + (d2 : Nat))])) _
    have sB : SameX q H (upd H9 t (.tup [.int (d1 : Nat), .int (1 + (d2 : Nat))])) := sA.new nt
    have pB : PenB cn (upd H9 t (.tup [.int (d1 : Nat), .int (1 + (d2 : Nat))])) q (b + 2) := p9.fresh nt
    have f11 : (upd H9 t (.tup [.int (d1 : Nat), .int (1 + (d2 : Nat))])) p3 = some (.lst (POOL.map V.str)) := same_upd nt _ _ f10
    have ft : (upd H9 t (.tup [.int (d1 : Nat), .int (1 + (d2 : Nat))])) t = some (.tup [.int (d1 : Nat), .int (1 + (d2 : Nat))]) := upd_same
    generalize upd H9 t (.tup [.int (d1 : Nat), .int (1 + (d2 : Nat))]) = HA at sB pB f11 ft
    refine ⟨t, _, rfl, SqT.of ft, rfl, _, _, rfl, _, _, rfl, rfl, ?_⟩
    have hst : (1 : Int) + (d2 : Nat) = ((1 + d2 : Nat) : Int) := by omega
    rw [hst]
    refine ⟨_, rfl, _, rfl, by omega, by omega, fun R nR => lc_map (it := fun j : Nat => V.int (j : Nat)) (ys := List.range m) (fun _ => true) (fun j => V.str (nmAt d1 (1 + d2) j)) (by rw [show ((m : Nat) : Int).toNat = m from rfl]; exact wlk_rng m) nR (by rw [List.length_range]; omega) (fun _ => rfl) (fun x H' hx sx Qc hq => hq _ (Same.refl _)) (fun x H' hx sx Qv hq => ?_) fun HB sx eR => ?_⟩
    · have hx7 := List.mem_range.mp hx
      have g1 := sx _ _ (ne_of_none f11 nR) f11
      refine ⟨_, rfl, _, rfl, _, rfl, _, rfl, _, _, rfl, rfl, .inl ⟨by omega, by omega⟩, _, _, rfl, rfl, _, _, rfl, rfl, (show (61 : Int) ≠ 0 by decide), p3, _, _, _, rfl, rfl, SqL.of g1, ?_, hq _ (Same.refl _)⟩
      have hi : Int.fmod (((d1 : Nat) : Int) + ((1 + d2 : Nat) : Int) * ((x : Nat) : Int)) 61 = (((d1 + (1 + d2) * x) % 61 : Nat) : Int) := by
        rw [Int.fmod_eq_emod_of_nonneg _ (by decide), Int.natCast_emod]
        congr 1
      show atI _ (Int.fmod (((d1 : Nat) : Int) + ((1 + d2 : Nat) : Int) * ((x : Nat) : Int)) 61) = _
      rw [hi]
      exact atI_nat (by rw [List.getElem?_map, nmAt_get]; rfl)
    · obtain ⟨hRq, hRc⟩ := pB.ne nR
      have eR' : HB R = some (.lst (ST ((List.range m).map (nmAt d1 (1 + d2))))) := by
        rw [eR, List.filter_eq_self.mpr fun _ _ => rfl]
        unfold ST
        rw [List.map_map]
        rfl
      refine k HB R _ (fun bb o hb e => sx _ _ (ne_of_none (sB _ _ hb e) nR) (sB _ _ hb e)) ?_ (by rw [List.length_map, List.length_range]) (nm_nodup (by omega) (by omega) hm) (fun y hy => ?_) (sB.free nR hRq) eR'
      · obtain ⟨n, r, e1, e2, h3⟩ := pB
        exact ⟨n, r, sx _ _ (Ne.symm hRq) e1, sx _ _ (Ne.symm hRc) e2, h3⟩
      · obtain ⟨j, _, rfl⟩ := List.mem_map.mp hy
        exact nmAt_ok _ _ _
end
end K19

set_option Elab.async false
set_option linter.all false
set_option maxRecDepth 100000
set_option maxHeartbeats 4000000
/-! The law's plan. -/
namespace K19
open PySem PySem.Spec PyProof.Rows L2 StX ClX GenW RZ
theorem sc_plan : FnScope ["_law_pen_here", "_law_many", "_law_names_here", "_law_way", "_law_needs", "_law_k", "_law_row", "_law_some", "_law_rows", "_law_other"] ["_law_pen_here", "_law_many"] (defScope sPlan) := ⟨rfl, rfl, rfl, by decide +kernel, rfl, by decide +kernel, by decide +kernel⟩
def planD (a d : Addr) : List (Key × V) := [(kS "rows", .ref a), (kS "needs", .ref d)]
/-- a plan: the rows in order, and what each needs -/
def PlanAt (H : Hp) (p : Addr) (rows : List Str) (nd : Str → List Str) : Prop := ∃ a d ks, H p = some (.dK (planD a d)) ∧ H a = some (.lst (ST rows)) ∧ NeedsAt H d ks nd ∧ ks.Perm rows
theorem PlanAt.same {H H' : Hp} {p : Addr} {rows : List Str} {nd : Str → List Str} (h : PlanAt H p rows nd) (s : Same H H') : PlanAt H' p rows nd := let ⟨a, d, ks, e1, e2, e3, e4⟩ := h; ⟨a, d, ks, s _ _ e1, s _ _ e2, e3.same s, e4⟩
def spPlan : Sp := fun vs H Q _ => ∃ (q : Addr) (m b : Nat) (cn : Addr × List Int), vs = [.ref q, .int (m : Nat)] ∧ PenB cn H q b ∧ b ≤ 80000 ∧ m ≤ 7 ∧ 1 ≤ m ∧
  ∀ H' p rows nd, SameX q H H' → PenB cn H' q (b + 200) → PlanAt H' p rows nd → Good rows nd → rows.length = m → Q (.ref p) H'
theorem cut_sub {ns : List Str} (lo : Option Int) {i : Nat} (hi : i ≤ ns.length) : ∃ xs : List Str, cutV (ST ns) lo (some ((i : Nat) : Int)) = ST xs ∧ xs.Sublist (ns.take i) := by
  refine ⟨(ns.take i).drop (HT.sIx (ST ns).length 0 lo), ?_, List.drop_sublist _ _⟩
  unfold cutV
  rw [HT.sIx_nat, ST_len, Nat.min_eq_left hi, ← List.drop_take]
  unfold ST
  rw [List.map_drop, List.map_take]
/-- the rows of which a row's needs are drawn -/
theorem rd_some {K : PySem.W.Frag} {D : Ends} {n : Addr} {ns : List Str} {i way : Nat} {v0 v1 v4 v6 v7 v8 v9 : Option V} {H : Hp} (hn : H n = some (.lst (ST ns))) (hi : i ≤ ns.length)
    (h : ∀ H' a xs, Same H H' → H' a = some (.lst (ST xs)) → xs.Sublist (ns.take i) → D.nx [v0, v1, some (.ref n), some (.int (way : Nat)), v4, some (.int (i : Nat)), v6, some (.ref a), v8, v9] H') :
    tAsg (tOp (rIxL K) (tLst (tCons (tLst tNil) (tCons (tSl (rSlL K) (tVar 2) (tPart (tCB (fun xs H Q => ∃ i j, xs = [V.int i, V.int j] ∧ Q (V.int (if j > i then j else i)) H) (tCons (tC (.int 0)) (tCons (tOp (rI0 fun i j => .int (i - j)) (tVar 5) (tC (.int 1))) tNil)))) (tPart (tVar 5)))
        (tCons (tSl (rSlL K) (tVar 2) tNoPart (tPart (tVar 5))) tNil))))
      (tCB (fun xs H Q => ∃ i j, xs = [V.int i, V.int j] ∧ Q (V.int (if j < i then j else i)) H) (tCons (tVar 3) (tCons (tC (.int 2)) tNil)))) (gName 7) D
      [v0, v1, some (.ref n), some (.int (way : Nat)), v4, some (.int (i : Nat)), v6, v7, v8, v9] H := by
  refine ⟨Nat.zero_le _, fun a0 n0 => ?_⟩
  have s1 := same_upd (o := .lst []) n0
  have e0 : (upd H a0 (.lst [])) a0 = some (.lst (ST [])) := upd_same
  generalize upd H a0 (.lst []) = H1 at s1 e0
  refine ⟨_, rfl, _, rfl, _, _, rfl, rfl, _, _, rfl, _, rfl, _, rfl, _, rfl, n, _, rfl, SqL.of (s1 _ _ hn), fun a1 n1 => ?_⟩
  obtain ⟨x1, ex1, sb1⟩ := cut_sub (some (if ((i : Nat) : Int) - 1 > 0 then ((i : Nat) : Int) - 1 else 0)) hi
  show tCons _ _ _ (upd H1 a1 (.lst (cutV (ST ns) (some (if ((i : Nat) : Int) - 1 > 0 then ((i : Nat) : Int) - 1 else 0)) (some ((i : Nat) : Int))))) _
  rw [ex1]
  have s2 := s1.trans (same_upd (o := .lst (ST x1)) n1)
  have e1 : (upd H1 a1 (.lst (ST x1))) a1 = some (.lst (ST x1)) := upd_same
  have e02 := same_upd (o := .lst (ST x1)) n1 _ _ e0
  generalize upd H1 a1 (.lst (ST x1)) = H2 at s2 e1 e02
  refine ⟨_, rfl, _, rfl, _, rfl, n, _, rfl, SqL.of (s2 _ _ hn), fun a2 n2 => ?_⟩
  have ecut : cutV (ST ns) none (some ((i : Nat) : Int)) = ST (ns.take i) := by
    rw [cut_to (by rw [ST_len]; exact hi)]
    exact (List.map_take).symm
  show tNil _ (upd H2 a2 (.lst (cutV (ST ns) none (some ((i : Nat) : Int))))) _
  rw [ecut]
  have s3 := s2.trans (same_upd (o := .lst (ST (ns.take i))) n2)
  have e2 : (upd H2 a2 (.lst (ST (ns.take i)))) a2 = some (.lst (ST (ns.take i))) := upd_same
  have e03 := same_upd (o := .lst (ST (ns.take i))) n2 _ _ e02
  have e13 := same_upd (o := .lst (ST (ns.take i))) n2 _ _ e1
  generalize upd H2 a2 (.lst (ST (ns.take i))) = H3 at s3 e2 e03 e13
  refine ⟨(show 3 ≤ sizeLine by decide), fun a3 n3 => ?_⟩
  have s4 := s3.trans (same_upd (o := .lst [.ref a0, .ref a1, .ref a2]) n3)
  have s34 := same_upd (o := .lst [.ref a0, .ref a1, .ref a2]) n3
  have e3 : (upd H3 a3 (.lst [.ref a0, .ref a1, .ref a2])) a3 = some (.lst [.ref a0, .ref a1, .ref a2]) := upd_same
  show tCB _ _ _ (upd H3 a3 (.lst [.ref a0, .ref a1, .ref a2])) _
  generalize upd H3 a3 (.lst [.ref a0, .ref a1, .ref a2]) = H4 at s4 e3 s34
  have e04 := s34 _ _ e03
  have e14 := s34 _ _ e13
  have e24 := s34 _ _ e2
  rcases (show way = 0 ∨ way = 1 ∨ 2 ≤ way by omega) with hw | hw | hw
  · subst hw
    exact ⟨_, rfl, _, _, rfl, a3, _, _, .ref a0, rfl, rfl, SqL.of e3, rfl, h H4 a0 [] s4 e04 (List.nil_sublist _)⟩
  · subst hw
    exact ⟨_, rfl, _, _, rfl, a3, _, _, .ref a1, rfl, rfl, SqL.of e3, rfl, h H4 a1 x1 s4 e14 sb1⟩
  · refine ⟨_, rfl, _, _, rfl, a3, _, _, .ref a2, rfl, rfl, SqL.of e3, ?_, h H4 a2 _ s4 e24 (List.Sublist.refl _)⟩
    have : (if (2 : Int) < ((way : Nat) : Int) then (2 : Int) else ((way : Nat) : Int)) = 2 := by split <;> omega
    rw [this]
    rfl

/-- .. of some ways each row before it is drawn or not -/
theorem rd_pick {K : PySem.W.Frag} {D : Ends} {q n : Addr} {ns : List Str} {i way b : Nat} {cn : Addr × List Int} {v1 v4 v6 v7 v8 v9 : Option V} {H : Hp} (hn : H n = some (.lst (ST ns))) (hi : i ≤ ns.length) (hl : ns.length ≤ 7) (hP : PenB cn H q b) (hb : b ≤ 90000) (hw : 1 ≤ way) (hw2 : way ≤ 6)
    (h : ∀ H' a xs, SameX q H H' → PenB cn H' q (b + 7) → H' a = some (.lst (ST xs)) → xs.Sublist (ns.take i) → D.nx [some (.ref q), v1, some (.ref n), some (.int (way : Nat)), v4, some (.int (i : Nat)), v6, some (.ref a), v8, v9] H') :
    tAsg (tLc (iList K (tSl (rSlL K) (tVar 2) tNoPart (tPart (tVar 5)))) (gName 9) (tTest (tOp rEq (tCall spDraw [] E0 (tCons (tVar 0) (tCons (tVar 3) tNil))) (tC (.int 0)))) (tVar 9) [9]) (gName 7) D
      [some (.ref q), v1, some (.ref n), some (.int (way : Nat)), v4, some (.int (i : Nat)), v6, v7, v8, v9] H := by
  refine ⟨_, rfl, _, rfl, _, rfl, n, _, rfl, SqL.of hn, fun a2 n2 => ?_⟩
  have ecut : cutV (ST ns) none (some ((i : Nat) : Int)) = ST (ns.take i) := by
    rw [cut_to (by rw [ST_len]; exact hi)]
    exact (List.map_take).symm
  have s1 := same_upd (o := .lst (ST (ns.take i))) n2
  have e2 : (upd H a2 (.lst (cutV (ST ns) none (some ((i : Nat) : Int))))) a2 = some (.lst (ST (ns.take i))) := by rw [upd_same, ecut]
  have s2 : Same H (upd H a2 (.lst (cutV (ST ns) none (some ((i : Nat) : Int))))) := same_upd n2
  show ∃ a, _ = _ ∧ _
  generalize upd H a2 (.lst (cutV (ST ns) none (some ((i : Nat) : Int)))) = H1 at e2 s2
  have hy : (ns.take i).length ≤ 7 := Nat.le_trans (List.length_take_le' _ _) hl
  generalize ns.take i = ys at e2 hy h
  have hP1 := hP.same s2
  refine ⟨a2, rfl, ⟨_, SqL.of e2⟩, fun D nD => ?_⟩
  obtain ⟨hDq, hDc⟩ := hP1.ne nD
  have haD : a2 ≠ D := ne_of_none e2 nD
  have haq : a2 ≠ q := (hP.ne n2).1
  have nD0 := s2.free nD
  refine lc_go ys.length (fun j H' => ∃ ac, H' D = some (.lst (ST ac)) ∧ ac.Sublist (ys.take j) ∧ PenB cn H' q (b + j) ∧ SameX q H H' ∧ H' a2 = some (.lst (ST ys)))
    ⟨[], upd_same, List.nil_sublist _, hP1.fresh nD, (sx_of s2).new nD, by rw [upd_ne haD]; exact e2⟩ ?_ ?_
  · rintro j H2 hj ⟨ac, f1, f2, f3, f4, f5⟩
    refine ⟨⟨_, .str ys[j], SqL.of f5, by rw [List.getElem?_map, List.getElem?_eq_getElem hj]; rfl⟩, fun x H3 ⟨eH, fx⟩ => ?_⟩
    subst H3
    have ex := fx _ (SqL.of f5)
    rw [List.getElem?_map, List.getElem?_eq_getElem hj] at ex
    have ex : V.str ys[j] = x := Option.some.inj ex
    subst x
    refine ⟨rfl, _, rfl, _, rfl, q, way, b + j, cn, rfl, f3, by omega, hw, by omega, fun H4 d s4 p4 hd => ⟨rfl, _, rfl, ?_⟩⟩
    have g1 := s4 _ _ hDq f1
    have g5 := s4 _ _ haq f5
    have g4 := f4.trans s4
    have tk : ys.take (j + 1) = ys.take j ++ [ys[j]] := by rw [List.take_add_one, List.getElem?_eq_getElem hj]; rfl
    refine ite2 (fun c => ?_) (fun c => ?_)
    · refine ⟨_, rfl, _, g1, ?_, ac ++ [ys[j]], ?_, ?_, p4.put hDq hDc, ?_, ?_⟩
      · rw [ST_len]
        have := f2.length_le
        have := List.length_take_le j ys
        exact small7 (by omega)
      · rw [upd_same, ST_snoc]
      · rw [tk]; exact f2.append (List.Sublist.refl _)
      · exact fun bb o hb e => by rw [upd_ne (ne_of_none e nD0)]; exact g4 _ _ hb e
      · rw [upd_ne haD]; exact g5
    · refine ⟨ac, g1, ?_, p4, g4, g5⟩
      rw [tk]
      exact f2.trans (List.sublist_append_left _ _)
  · rintro H2 ⟨ac, f1, f2, f3, f4, f5⟩
    rw [List.take_length] at f2
    exact ⟨⟨_, SqL.of f5, by rw [ST_len]; exact Nat.le_refl _⟩, h H2 D ac f4 (f3.mono (by omega)) f1 f2⟩
/-- for i, x in enumerate(L), the list standing -/
theorem rd_forEnL {K : PySem.W.Frag} {a : Addr} {ys : List Str} {σ : L2.St} {H : Hp} {sl : Nat} {g : TG} {tb : TS} {D : Ends} (hs : σ[sl]? = some (some (.ref a))) (Pv : Nat → L2.St → Hp → Prop) (h0 : Pv 0 σ H) (e : H a = some (.lst (ST ys))) (keep : ∀ i σ' H', Pv i σ' H' → H' a = some (.lst (ST ys)))
    (turn : ∀ i σ1 H1 T (hi : i < ys.length), Pv i σ1 H1 → H1 T = none → g (.ref T) σ1 (upd H1 T (.tup [.int (i : Nat), .str ys[i]])) fun σ2 H2 => tb { D with nx := Pv (i + 1), ct := Pv (i + 1), bk := D.nx } σ2 H2) (hd : ∀ σ1 H1, Pv ys.length σ1 H1 → D.nx σ1 H1) :
    tFor (iEnum K (tCons (tVar sl) tNil)) g tb D σ H := by
  refine ⟨_, hs, a, _, rfl, SqL.of e, for_go ys.length Pv h0 (fun i σ1 H1 hi p => ⟨enm_lst.go i H1 hi (SqL.of (keep _ _ _ p)), fun x H2 y => ?_⟩) fun σ1 H1 p => ⟨enm_lst.stop H1 (SqL.of (keep _ _ _ p)), hd σ1 H1 p⟩⟩
  obtain ⟨T, ex, n, eH⟩ := enm_lst.yld i H1 x H2 (SqL.of (keep _ _ _ p)) y ys[i] (List.getElem?_eq_getElem hi)
  subst ex eH
  exact turn i σ1 H1 T hi p n
/-- needs[row] = tuple(shuffled(pen, some)) -/
theorem rd_putn {K : PySem.W.Frag} {D : Ends} {q d a : Addr} {xs : List Str} {b : Nat} {cn : Addr × List Int} {r : Str} {kvs : List (Key × V)} {v1 v2 v3 v5 v8 v9 : Option V} {H : Hp} (hP : PenB cn H q b) (hb : b ≤ 90000) (ha : H a = some (.lst (ST xs))) (hx : xs.length ≤ 7)
    (hd : H d = some (.dK kvs)) (hdq : d ≠ q) (hdc : d ≠ cn.1) (hk : kvs.length ≤ 7)
    (h : ∀ H' t ys, (∀ b o, b ≠ q → b ≠ d → H b = some o → H' b = some o) → H t = none → PenB cn H' q (b + 7) → ys.Perm xs → H' t = some (.tup (ST ys)) → H' d = some (.dK (putK kvs (kS r) (.ref t))) → D.nx [some (.ref q), v1, v2, v3, some (.ref d), v5, some (.str r), some (.ref a), v8, v9] H') :
    sDPut (tVar 4) (tVar 6) (tCB (rTupOf K) (tCons (tCall (spShuf K) [] E0 (tCons (tVar 0) (tCons (tVar 7) tNil))) tNil)) D [some (.ref q), v1, v2, v3, some (.ref d), v5, some (.str r), some (.ref a), v8, v9] H := by
  refine ⟨_, rfl, _, rfl, q, a, b, xs, cn, rfl, hP, hb, ha, hx, fun H1 l ys s1 p1 pm nl el => ⟨l, _, rfl, .inl ⟨SqL.of el, fun t nt => ?_⟩⟩⟩
  have g1 := same_upd (o := .tup (ST ys)) nt _ _ (s1 _ _ hdq hd)
  refine ⟨_, rfl, _, rfl, d, _, rfl, DPut.k (k := kS r) g1 (small7 hk), ?_⟩
  have ht : t ≠ d := ne_of g1 upd_same (by intro z; cases z) |>.symm
  have tq := (p1.ne nt).1
  refine h _ t ys (fun bb o h1 h2 e => by rw [upd_ne h2]; exact same_upd nt _ _ (s1 _ _ h1 e)) (SameX.free s1 nt tq) ((p1.fresh nt).put hdq hdc) pm ?_ upd_same
  rw [upd_ne ht, upd_same]
def PlanInv (H : Hp) (cn : Addr × List Int) (q n d : Addr) (m way b : Nat) (ns : List Str) (i : Nat) (σ' : L2.St) (H' : Hp) : Prop :=
  ∃ (v5 v6 v7 v8 v9 : Option V) (t : Str → Addr) (f : Str → List Str), σ' = [some (.ref q), some (.int (m : Nat)), some (.ref n), some (.int (way : Nat)), some (.ref d), v5, v6, v7, v8, v9] ∧ SameX q H H' ∧ PenB cn H' q (b + 14 * i) ∧ H' n = some (.lst (ST ns)) ∧
      H' d = some (.dK ((ns.take i).map fun r => (kS r, V.ref (t r)))) ∧ (∀ r ∈ ns.take i, H' (t r) = some (.tup (ST (f r)))) ∧ ∀ j (hj : j < ns.length), j < i → (∀ x ∈ f ns[j], x ∈ ns.take j) ∧ (f ns[j]).Nodup
theorem plan_put {K : PySem.W.Frag} {D : Ends} {H0 H5 H' : Hp} {cn : Addr × List Int} {q n d a : Addr} {m way b i : Nat} {ns xs : List Str} {w8 w9 : Option V} {t : Str → Addr} {f : Str → List Str} (hi : i < ns.length) (hnd : ns.Nodup) (hl : ns.length ≤ 7) (hb : b + 14 * i + 7 ≤ 90000) (nd0 : H0 d = none) (hnq : n ≠ q) (hndd : n ≠ d) (hdq : d ≠ q) (hdc : d ≠ cn.1)
    (sB : SameX q H0 H5) (eB : H5 n = some (.lst (ST ns))) (dB : H5 d = some (.dK ((ns.take i).map fun r => (kS r, V.ref (t r))))) (fB : ∀ r ∈ ns.take i, H5 (t r) = some (.tup (ST (f r)))) (tq : ∀ r ∈ ns.take i, t r ≠ q) (gA : ∀ j (hj : j < ns.length), j < i → (∀ x ∈ f ns[j], x ∈ ns.take j) ∧ (f ns[j]).Nodup)
    (s6 : SameX q H5 H') (p6 : PenB cn H' q (b + 14 * i + 7)) (ea : H' a = some (.lst (ST xs))) (sub : xs.Sublist (ns.take i)) (hD : D.nx = PlanInv H0 cn q n d m way b ns (i + 1)) :
    sDPut (tVar 4) (tVar 6) (tCB (rTupOf K) (tCons (tCall (spShuf K) [] E0 (tCons (tVar 0) (tCons (tVar 7) tNil))) tNil)) D [some (.ref q), some (.int (m : Nat)), some (.ref n), some (.int (way : Nat)), some (.ref d), some (.int (i : Nat)), some (.str ns[i]), some (.ref a), w8, w9] H' := by
  have hx : xs.length ≤ 7 := by
    have := sub.length_le
    have := List.length_take_le' i ns
    omega
  have hkl : ((ns.take i).map fun r => (kS r, V.ref (t r))).length ≤ 7 := by
    rw [List.length_map]
    have := List.length_take_le' i ns
    omega
  refine rd_putn p6 (by omega) ea hx (s6 _ _ hdq dB) hdq hdc hkl fun H7 t7 ys s7 nt7 p7 pm et ed => ?_
  rw [hD]
  have hno := not_in_take hnd hi
  have tk : ns.take (i + 1) = ns.take i ++ [ns[i]] := by rw [List.take_add_one, List.getElem?_eq_getElem hi]; rfl
  refine ⟨_, _, _, _, _, fun r => if r = ns[i] then t7 else t r, fun r => if r = ns[i] then ys else f r, rfl, ?_, ?_, ?_, ?_, ?_, ?_⟩
  · intro bb o h1 e
    exact s7 _ _ h1 (ne_of_none e nd0) (s6 _ _ h1 (sB _ _ h1 e))
  · exact p7.mono (by omega)
  · exact s7 _ _ hnq hndd (s6 _ _ hnq eB)
  · have e1 : (ns.take i).map (fun r => (kS r, V.ref (t r))) = (ns.take i).map fun r => (kS r, V.ref (if r = ns[i] then t7 else t r)) := List.map_congr_left fun r hr => by
      have : r ≠ ns[i] := fun h => hno (by rw [← h]; exact hr)
      rw [if_neg this]
    have e2 : V.ref t7 = V.ref (if ns[i] = ns[i] then t7 else t ns[i]) := by rw [if_pos rfl]
    rw [ed, e1, e2, putK_new_mapf (f := fun r => V.ref (if r = ns[i] then t7 else t r)) hno, tk]
  · intro r hr
    rw [tk] at hr
    by_cases e : r = ns[i]
    · dsimp only
      rw [if_pos e, if_pos e]
      exact et
    · have hr' : r ∈ ns.take i := by
        rcases List.mem_append.mp hr with h | h
        · exact h
        · exact absurd (by simpa using h) e
      dsimp only
      rw [if_neg e, if_neg e]
      have hd1 : t r ≠ d := ne_of (fB r hr') dB (by intro z; cases z)
      exact s7 _ _ (tq r hr') hd1 (s6 _ _ (tq r hr') (fB r hr'))
  · intro j hj hji
    dsimp only
    by_cases e : j = i
    · subst e
      rw [if_pos rfl]
      refine ⟨fun x hx => sub.subset (pm.mem_iff.mp hx), pm.nodup_iff.mpr (sub.nodup ((List.take_sublist _ _).nodup hnd))⟩
    · have : ns[j] ≠ ns[i] := fun h => e ((List.getElem_inj hnd).mp h)
      rw [if_neg this]
      exact gA j hj (by omega)
theorem pos_get {ns : List Str} (hnd : ns.Nodup) {j : Nat} (hj : j < ns.length) : pos ns ns[j] = j := by
  unfold pos
  exact hnd.idxOf_getElem j hj
theorem pos_lt_take {ns : List Str} (hnd : ns.Nodup) {x : Str} {j : Nat} (hj : j < ns.length) (h : x ∈ ns.take j) : pos ns x < j := by
  obtain ⟨i, hi, rfl⟩ := List.mem_iff_getElem.mp h
  rw [List.length_take] at hi
  rw [List.getElem_take, pos_get hnd (by omega)]
  omega
theorem plan_good {ns : List Str} {f : Str → List Str} (hnd : ns.Nodup) (hl : ns.length ≤ 7) (hok : ∀ y ∈ ns, NameOk y) (g : ∀ j (hj : j < ns.length), (∀ x ∈ f ns[j], x ∈ ns.take j) ∧ (f ns[j]).Nodup) : Good ns f where
  names := hok
  len := hl
  dag := ⟨pos ns, hnd, fun r hr o ho => by
    obtain ⟨j, hj, rfl⟩ := List.mem_iff_getElem.mp hr
    exact List.mem_of_mem_take ((g j hj).1 o ho), fun r hr o ho => by
    obtain ⟨j, hj, rfl⟩ := List.mem_iff_getElem.mp hr
    rw [pos_get hnd hj]
    exact pos_lt_take hnd hj ((g j hj).1 o ho)⟩
  ndn := fun r hr => by
    obtain ⟨j, hj, rfl⟩ := List.mem_iff_getElem.mp hr
    exact (g j hj).2
end K19

set_option Elab.async false
set_option linter.all false
set_option maxRecDepth 100000
set_option maxHeartbeats 4000000
/-! The law's plan. -/
namespace K19
open PySem PySem.Spec PyProof.Rows L2 StX ClX GenW RZ
section
variable {P : Program} {w : World} {K : PySem.W.Frag} {mg : Str → Option Value} {base : Heap}
theorem ok_plan (T : Txt K mg) : FnOk P w K mg base CX0 3 T.plan.f T.plan.fd ["_law_pen_here", "_law_many"] spPlan := by
  have G_draw : FnOk P w K mg base CX0 1 T.draw.f T.draw.fd ["_law_pen_here", "_law_limit"] spDraw := ok_draw T
  have G_shuffled : FnOk P w K mg base CX0 2 T.shuffled.f T.shuffled.fd ["_law_pen_here", "_law_items"] (spShuf K) := ok_shuf T
  have G_names : FnOk P w K mg base CX0 2 T.names.f T.names.fd ["_law_pen_here", "_law_many"] spNames := ok_names T
  refine T.plan.F.ok sc_plan (fun vs H Q E h => ?_) (fun cdv A outer s H vs Q E hr h => ?_)
  · obtain ⟨q, m, b, cn, rfl, _⟩ := h
    rfl
  · obtain ⟨q, m, b, cn, rfl, hP, hb, hm, hm1, k⟩ := h
    refine ⟨_, (pss_cons (ps_set (i := 2) sc_plan.nd rfl (.inl rfl) (pe_call G_names (hr.mono (by decide)) (by rfl) T.g_names T.names.F.kp T.bd_names .nil pass0 (pa_cons (pv 0) (pa_cons (pv 1) pa_nil))))
      (pss_cons (ps_set (i := 3) sc_plan.nd rfl (.inr rfl) (pe_call G_draw (hr.mono (by decide)) (by rfl) T.g_draw T.draw.F.kp T.bd_draw .nil pass0 (pa_cons (pv 0) (pa_cons pe_int pa_nil))))
      (pss_cons (ps_set (i := 4) sc_plan.nd rfl (.inl rfl) pe_dnewK)
      (pss_cons (ps_for PassesOwn.never rfl (pi_enum (by rfl) T.b_enumerate (pa_cons (pv 2) pa_nil)) (pg_tup rfl (pgs_cons (pg_name (i := 5) sc_plan.nd rfl (.inl rfl)) (pgs_cons (pg_name (i := 6) sc_plan.nd rfl (.inl rfl)) pgs_nil)))
        (pss_cons (ps_set (i := 7) sc_plan.nd rfl (.inl rfl) (pe_ix ix_list (pe_lst (pa_cons (pe_lst pa_nil) (pa_cons (pe_slice sl_list (pv 2) (po_some (pe_callB (call_max2 rfl) (by rfl) T.b_max bb_max (pa_cons pe_int (pa_cons (pe_op op_sub (pv 5) pe_int) pa_nil)))) (po_some (pv 5))) (pa_cons (pe_slice sl_list (pv 2) po_none (po_some (pv 5))) pa_nil)))) (pe_callB (call_min2 rfl) (by rfl) T.b_min bb_min (pa_cons (pv 3) (pa_cons pe_int pa_nil))) (fun _ _ => rfl)))
      (pss_cons (ps_if (pt_cmpR op_gt (pv 3) pe_int (nomark _))
        (pss_one (ps_setLc (i := 7) (own := [("_law_other", 9)]) (g := (gName 9)) (by rfl) sc_plan.nd rfl rfl (sw_true rfl rfl rfl (by decide +kernel)) (pi_list (pe_slice sl_list (pv 2) po_none (po_some (pv 5)))) (blkOk_by (own := [("_law_other", 9)]) (N := ["_law_pen_here", "_law_many", "_law_names_here", "_law_way", "_law_needs", "_law_k", "_law_row", "_law_some", "_law_rows", "_law_other"]) (sc := defScope sPlan) (by decide +kernel)) (fun _ _ _ _ _ => (pg_name (i := 9) sc_plan.nd rfl (.inl rfl))) (fun _ _ _ _ _ => (pts_one (pt_cmpR op_eq (pe_call G_draw (hr.mono (by decide)) (by rfl) T.g_draw T.draw.F.kp T.bd_draw .nil pass0 (pa_cons (pv 0) (pa_cons (pv 3) pa_nil))) pe_int (nomark _)))) (fun _ _ _ _ _ => (pv 9))))
        pss_nil)
      (pss_one (ps_dput (hu_of hr) (pv 4) (pv 6) (pe_callTy call_tuple_of (by rfl) T.b_tuple bb_tuple (pa_cons (pe_call G_shuffled (hr.mono (by decide)) (by rfl) T.g_shuffled T.shuffled.F.kp T.bd_shuffled .nil pass0 (pa_cons (pv 0) (pa_cons (pv 7) pa_nil))) pa_nil)) rfl)))))
      (pss_cons (ps_set (i := 8) sc_plan.nd rfl (.inl rfl) (pe_ix ix_list (pe_lst (pa_cons (pv 2) (pa_cons (pe_revL (pv 2)) (pa_cons (pe_call G_shuffled (hr.mono (by decide)) (by rfl) T.g_shuffled T.shuffled.F.kp T.bd_shuffled .nil pass0 (pa_cons (pv 0) (pa_cons (pv 2) pa_nil))) (pa_cons (pe_call G_shuffled (hr.mono (by decide)) (by rfl) T.g_shuffled T.shuffled.F.kp T.bd_shuffled .nil pass0 (pa_cons (pv 0) (pa_cons (pv 2) pa_nil))) pa_nil))))) (pe_call G_draw (hr.mono (by decide)) (by rfl) T.g_draw T.draw.F.kp T.bd_draw .nil pass0 (pa_cons (pv 0) (pa_cons pe_int pa_nil))) (fun _ _ => rfl)))
      (pss_one (ps_ret (pe_disp (pps_cons pe_str (pv 8) (pps_cons pe_str (pv 4) pps_nil)) (by rfl) (by rfl) (fun z => by cases z) (by decide))))))))), ?_⟩
    refine ⟨_, rfl, _, rfl, q, m, b, cn, rfl, hP, by omega, hm, fun H1 n ns s1 p1 hnl hnd hok nn e1 => ?_⟩
    have hnq : n ≠ q := (hP.ne nn).1
    refine ⟨_, rfl, q, 6, b + 2, cn, rfl, p1, by omega, by decide, by decide, fun H2 way s2 p2 hway => ?_⟩
    have e2 := s2 _ _ hnq e1
    have s02 := s1.trans s2
    refine fun d nd => ?_
    have s03 : SameX q H (upd H2 d (.dK [])) := s02.new nd
    have p3 : PenB cn (upd H2 d (.dK [])) q (b + 3) := p2.fresh nd
    have e3 : (upd H2 d (.dK [])) n = some (.lst (ST ns)) := same_upd nd _ _ e2
    have d3 : (upd H2 d (.dK [])) d = some (.dK []) := upd_same
    have hdq := (p2.ne nd).1
    have hdc := (p2.ne nd).2
    have hnd' : n ≠ d := ne_of_none e2 nd
    have nd0 : H d = none := s02.free nd hdq
    show tSeq _ _ _ _ (upd H2 d (.dK []))
    generalize upd H2 d (.dK []) = H3 at s03 p3 e3 d3
    refine rd_forEnL (ys := ns) (a := n) rfl (PlanInv H cn q n d m way (b + 3) ns)
      ⟨none, none, none, none, none, fun _ => 0, fun _ => [], rfl, s03, p3, e3, d3, fun r hr => by simp at hr, fun j hj h => absurd h (Nat.not_lt_zero j)⟩ e3 (fun i σ' H' ⟨_, _, _, _, _, _, _, _, _, _, h, _⟩ => h) ?_ ?_
    · rintro i σ1 H4 T hi ⟨v5, v6, v7, v8, v9, t, f, rfl, sA, pA, eA, dA, fA, gA⟩ nT
      refine ⟨T, _, rfl, SqT.of upd_same, rfl, _, _, rfl, _, _, rfl, rfl, ?_⟩
      have sB := sA.new (o := .tup [.int (i : Nat), .str ns[i]]) nT
      have pB := pA.fresh (o := .tup [.int (i : Nat), .str ns[i]]) nT
      have eB := same_upd (o := .tup [.int (i : Nat), .str ns[i]]) nT _ _ eA
      have dB := same_upd (o := .tup [.int (i : Nat), .str ns[i]]) nT _ _ dA
      have fB := fun r hr => same_upd (o := .tup [.int (i : Nat), .str ns[i]]) nT _ _ (fA r hr)
      generalize upd H4 T (.tup [.int (i : Nat), .str ns[i]]) = H5 at sB pB eB dB fB
      refine rd_some eB (by omega) fun H6 a xs s6 ea sub => ?_
      have tq : ∀ r ∈ ns.take i, t r ≠ q := fun r hr => by
        obtain ⟨_, _, z, _⟩ := pB
        exact ne_of (fB r hr) z (by intro z; cases z)
      have pl := List.length_take_le' i ns
      refine ⟨_, rfl, _, _, rfl, rfl, _, rfl, ite2 (fun c => ?_) (fun c => ?_)⟩
      · have hw2 : 2 < way := by have := of_decide_eq_true c; omega
        refine rd_pick (s6 _ _ eB) (by omega) (by omega) (pB.same s6) (by omega) (by omega) (by omega) fun H7 a7 xs7 s7 p7 ea7 sub7 => ?_
        exact plan_put hi hnd (by omega) (by omega) nd0 hnq hnd' hdq hdc sB eB dB fB tq gA (fun bb o h e => s7 _ _ h (s6 _ _ e)) p7 ea7 sub7 rfl
      · exact plan_put hi hnd (by omega) (by omega) nd0 hnq hnd' hdq hdc sB eB dB fB tq gA (sx_of s6) ((pB.same s6).mono (by omega)) ea sub rfl
    · rintro σ1 H4 ⟨v5, v6, v7, v8, v9, t, f, rfl, sA, pA, eA, dA, fA, gA⟩
      rw [List.take_length] at dA fA
      have tq : ∀ r ∈ ns, t r ≠ q := fun r hr => by
        obtain ⟨_, _, z, _⟩ := pA
        exact ne_of (fA r hr) z (by intro z; cases z)
      have G0 : Good ns f := plan_good hnd (by omega) hok fun j hj => gA j hj hj
      refine ⟨_, rfl, _, rfl, n, _, rfl, SqL.of eA, fun r1 nr1 => ?_⟩
      show tCons _ _ _ (upd H4 r1 (.lst (ST ns).reverse)) _
      have er : (ST ns).reverse = ST ns.reverse := (List.map_reverse).symm
      rw [er]
      have sB := sA.new (o := .lst (ST ns.reverse)) nr1
      have pB := pA.fresh (o := .lst (ST ns.reverse)) nr1
      have s45 := same_upd (o := .lst (ST ns.reverse)) nr1
      have e1r : (upd H4 r1 (.lst (ST ns.reverse))) r1 = some (.lst (ST ns.reverse)) := upd_same
      have hr1q := (pA.ne nr1).1
      generalize upd H4 r1 (.lst (ST ns.reverse)) = H5 at sB pB s45 e1r
      refine ⟨_, rfl, _, rfl, q, n, _, ns, cn, rfl, pB, by omega, s45 _ _ eA, by omega, fun H6 l1 y1 s6 p6 pm1 nl1 el1 => ?_⟩
      have hl1 := (pB.ne nl1).1
      refine ⟨_, rfl, _, rfl, q, n, _, ns, cn, rfl, p6, by omega, s6 _ _ hnq (s45 _ _ eA), by omega, fun H7 l2 y2 s7 p7 pm2 nl2 el2 => ?_⟩
      have hl2 := (p6.ne nl2).1
      refine ⟨(show 4 ≤ sizeLine by decide), fun L nL => ?_⟩
      have s8 := same_upd (o := .lst [.ref n, .ref r1, .ref l1, .ref l2]) nL
      have eL : (upd H7 L (.lst [.ref n, .ref r1, .ref l1, .ref l2])) L = some (.lst [.ref n, .ref r1, .ref l1, .ref l2]) := upd_same
      have p8 := p7.fresh (o := .lst [.ref n, .ref r1, .ref l1, .ref l2]) nL
      have hLq := (p7.ne nL).1
      show tCall _ _ _ _ _ (upd H7 L (.lst [.ref n, .ref r1, .ref l1, .ref l2])) _
      generalize upd H7 L (.lst [.ref n, .ref r1, .ref l1, .ref l2]) = H8 at s8 eL p8
      refine ⟨_, rfl, q, 4, _, cn, rfl, p8, by omega, by decide, by decide, fun H9 c s9 p9 hc => ?_⟩
      have s49 : SameX q H4 H9 := fun bb o h e => s9 _ _ h (s8 _ _ (s7 _ _ h (s6 _ _ h (s45 _ _ e))))
      have en9 := s49 _ _ hnq eA
      have er9 := s9 _ _ hr1q (s8 _ _ (s7 _ _ hr1q (s6 _ _ hr1q e1r)))
      have e19 := s9 _ _ hl1 (s8 _ _ (s7 _ _ hl1 el1))
      have e29 := s9 _ _ hl2 (s8 _ _ el2)
      have eL9 := s9 _ _ hLq eL
      obtain ⟨a, rows, hat, ha, hpm⟩ : ∃ (a : Addr) (rows : List Str), [V.ref n, V.ref r1, V.ref l1, V.ref l2][c]? = some (.ref a) ∧ H9 a = some (.lst (ST rows)) ∧ rows.Perm ns := by
        rcases (show c = 0 ∨ c = 1 ∨ c = 2 ∨ c = 3 by omega) with h | h | h | h
        · subst h; exact ⟨n, ns, rfl, en9, .refl _⟩
        · subst h; exact ⟨r1, ns.reverse, rfl, er9, List.reverse_perm _⟩
        · subst h; exact ⟨l1, y1, rfl, e19, pm1⟩
        · subst h; exact ⟨l2, y2, rfl, e29, pm2⟩
      refine ⟨L, _, _, _, rfl, rfl, SqL.of eL9, atI_nat hat, ?_⟩
      refine fun p np => ?_
      have s10 := same_upd (o := .dK []) np
      have p10 := p9.fresh (o := .dK []) np
      have e10 : (upd H9 p (.dK [])) p = some (.dK []) := upd_same
      have nn9 : ∀ z o, H9 z = some o → z ≠ p := fun z o h => ne_of_none h np
      refine ⟨_, rfl, _, rfl, e10, planD a d, rfl, (by show 2 ≤ 15; decide), ?_⟩
      have hpq := (p9.ne np)
      have sF : ∀ z o, H9 z = some o → (upd (upd H9 p (.dK [])) p (.dK (mergeK [] (planD a d)))) z = some o := fun z o h => by rw [upd_ne (nn9 z o h), upd_ne (nn9 z o h)]; exact h
      refine k _ p rows f (fun bb o h e => sF _ _ (s49 _ _ h (sA _ _ h e))) ((p10.put hpq.1 hpq.2).mono (by omega)) ⟨a, d, ns, upd_same, sF _ _ ha, ⟨t, sF _ _ (s49 _ _ hdq dA), fun r hr => sF _ _ (s49 _ _ (tq r hr) (fA r hr))⟩, hpm.symm⟩ (G0.perm hpm) (by rw [hpm.length_eq]; exact hnl)
end
end K19

set_option Elab.async false
set_option linter.all false
set_option maxRecDepth 100000
set_option maxHeartbeats 4000000
/-! The law's page, the rows below each row, the chains. -/
namespace K19
open PySem PySem.Spec PyProof.Rows L2 StX ClX GenW RZ
theorem sc_page : FnScope ["_law_plan_here"] ["_law_plan_here"] (defScope sPage) := ⟨rfl, rfl, rfl, by decide +kernel, rfl, by decide +kernel, by decide +kernel⟩
theorem pl_rows {H : Hp} {p a d : Addr} (h : H p = some (.dK (planD a d))) : DGet H p (.str "rows") (some (.ref a)) := DGet.k (k := kS "rows") h
theorem pl_needs {H : Hp} {p a d : Addr} (h : H p = some (.dK (planD a d))) : DGet H p (.str "needs") (some (.ref d)) := DGet.k (k := kS "needs") h
def spPage (CS : Addr) : Sp := fun vs H Q _ => ∃ (p : Addr) (rows : List Str) (nd : Str → List Str), vs = [.ref p] ∧ PlanAt H p rows nd ∧ Good rows nd ∧ ∀ H' s, Same H H' → SheetAt CS H' s rows (fun r => srt (nd r)) → Q (.ref s) H'
section
variable {P : Program} {w : World} {K : PySem.W.Frag} {mg : Str → Option Value} {base : Heap}
theorem ok_page (T : Txt K mg) : FnOk P w K mg base CX0 8 T.page.f T.page.fd ["_law_plan_here"] (spPage T.CS) := by
  have G_sOf : FnOk P w K mg base CX0 7 T.sOf.f T.sOf.fd ["cls", "rows", "needs"] (spOf K T.CS) := ok_sof T
  refine T.page.F.ok sc_page (fun vs H Q E h => ?_) (fun cdv A outer s H vs Q E hr h => ?_)
  · obtain ⟨p, rows, nd, rfl, _⟩ := h
    rfl
  · obtain ⟨p, rows, nd, rfl, ⟨a, d, ks, ep, ea, hN, pm⟩, G, k⟩ := h
    refine ⟨_, (pss_one (ps_ret (pe_cmeth (pe_glob (v := .ref T.CS) (by rfl) T.gS rfl) T.cread T.cmet (G_sOf.raw T.bd_sOf .nil) (hr.mono (by decide)) pass0 (pa_cons (pe_callTy call_tuple_of (by rfl) T.b_tuple bb_tuple (pa_cons (pe_dget (hu_of hr) (pv 0) pe_str (fun _ _ => rfl)) pa_nil)) (pa_cons (pe_dget (hu_of hr) (pv 0) pe_str (fun _ _ => rfl)) pa_nil))))), ?_⟩
    refine ⟨rfl, _, rfl, p, _, rfl, pl_rows ep, a, _, rfl, .inl ⟨SqL.of ea, fun t nt => ?_⟩⟩
    have s1 := same_upd (o := .tup (ST rows)) nt
    have et : (upd H t (.tup (ST rows))) t = some (.tup (ST rows)) := upd_same
    show tCons _ _ _ (upd H t (.tup (ST rows))) _
    generalize upd H t (.tup (ST rows)) = H1 at s1 et
    refine ⟨_, rfl, p, _, rfl, pl_needs (s1 _ _ ep), t, d, rows, ks, nd, rfl, .inr et, hN.same s1, fun r hr => pm.mem_iff.mp hr, fun r hr => pm.mem_iff.mpr hr, pm.nodup_iff.mpr G.nodup, by rw [pm.length_eq]; exact G.len, G, fun H2 sh s2 _ hS => k H2 sh (s1.trans s2) hS⟩
end
end K19

set_option Elab.async false
set_option linter.all false
set_option maxRecDepth 100000
set_option maxHeartbeats 4000000
/-! The law's lists of the rows below each row. -/
namespace K19
open PySem PySem.Spec PyProof.Rows L2 StX ClX GenW RZ
theorem sc_below : FnScope ["_law_plan_here", "_law_found", "_law_row", "_law_seen", "_law_waiting", "_law_one"] ["_law_plan_here"] (defScope sBelow) := ⟨rfl, rfl, rfl, by decide +kernel, rfl, by decide +kernel, by decide +kernel⟩
structure Closed (rows : List Str) (nd : Str → List Str) (r : Str) (bl : List Str) : Prop where
  sub : ∀ x ∈ bl, x ∈ rows
  top : ∀ x ∈ nd r, x ∈ bl
  cl : ∀ x ∈ bl, ∀ y ∈ nd x, y ∈ bl
def BelowAt (H : Hp) (q : Addr) (rows : List Str) (bf : Str → List Str) : Prop := ∃ t : Str → Addr, H q = some (.dK (rows.map fun r => (kS r, V.ref (t r)))) ∧ ∀ r ∈ rows, H (t r) = some (.lst (ST (bf r)))
theorem BelowAt.same {H H' : Hp} {q : Addr} {rows : List Str} {bf : Str → List Str} (h : BelowAt H q rows bf) (s : Same H H') : BelowAt H' q rows bf := let ⟨t, e, f⟩ := h; ⟨t, s _ _ e, fun r hr => s _ _ (f r hr)⟩
def spBelow : Sp := fun vs H Q _ => ∃ (p : Addr) (rows : List Str) (nd : Str → List Str), vs = [.ref p] ∧ PlanAt H p rows nd ∧ Good rows nd ∧ ∀ H' q bf, Same H H' → BelowAt H' q rows bf → (∀ r ∈ rows, Closed rows nd r (bf r)) → Q (.ref q) H'
theorem pl_need {H : Hp} {d : Addr} {ks rows : List Str} {nd : Str → List Str} (h : NeedsAt H d ks nd) (pm : ks.Perm rows) {r : Str} (hr : r ∈ rows) : ∃ t, DGet H d (.str r) (some (.ref t)) ∧ H t = some (.tup (ST (nd r))) := by
  obtain ⟨t, e, f⟩ := h
  have hk := pm.mem_iff.mpr hr
  exact ⟨t r, by rw [← valV_in_mapf (f := fun r => V.ref (t r)) hk]; exact DGet.k (k := kS r) e, f r hk⟩
def SameY (a b : Addr) (H H' : Hp) : Prop := ∀ z o, z ≠ a → z ≠ b → H z = some o → H' z = some o
theorem NeedsAt.y {H H' : Hp} {d sA wA : Addr} {ks : List Str} {nd : Str → List Str} {x y : List V} (h : NeedsAt H d ks nd) (es : H sA = some (.lst x)) (ew : H wA = some (.lst y)) (s : SameY sA wA H H') : NeedsAt H' d ks nd :=
  let ⟨t, e, f⟩ := h
  ⟨t, s _ _ (ne_of e es (by intro z; cases z)) (ne_of e ew (by intro z; cases z)) e, fun r hr => s _ _ (ne_of (f r hr) es (by intro z; cases z)) (ne_of (f r hr) ew (by intro z; cases z)) (f r hr)⟩
/-- the walk from a row down -/
theorem rd_close {K : PySem.W.Frag} {D : Ends} {H : Hp} {p a d sA wA : Addr} {rows ks : List Str} {nd : Str → List Str} {r : Str} {v1 v2 v5 : Option V} (ep : H p = some (.dK (planD a d))) (hN : NeedsAt H d ks nd) (pm : ks.Perm rows) (G : Good rows nd) (hr : r ∈ rows)
    (es : H sA = some (.lst [])) (ew : H wA = some (.lst (ST (nd r)))) (hsw : sA ≠ wA)
    (h : ∀ H' bl v5, SameY sA wA H H' → H' sA = some (.lst (ST bl)) → Closed rows nd r bl → D.nx [some (.ref p), v1, v2, some (.ref sA), some (.ref wA), v5] H') :
    tWhile (tTest (tOp (rNeD K) (tVar 4) (tLst tNil)))
      (tSeq (tAsg (tBM0 K "list" rPop (tVar 4)) (gName 5))
        (tIfS (tTest (tOp (rIn K true) (tVar 5) (tVar 3)))
          (tSeq (tDrop (tBM K "list" rAppend (tVar 3) (tCons (tVar 5) tNil)))
            (tDrop (tBM K "list" rExtend (tVar 4) (tCons (tCB (rListOf K) (tCons (tDGet (tDGet (tVar 0) (tC (.str "needs"))) (tVar 5)) tNil)) tNil)))) tNext)) D
      [some (.ref p), v1, v2, some (.ref sA), some (.ref wA), v5] H := by
  obtain ⟨rk, D0⟩ := G.dag
  refine ⟨fun m σ' H' => ∃ (seen wait : List Str) (v5 : Option V), σ' = [some (.ref p), v1, v2, some (.ref sA), some (.ref wA), v5] ∧ SameY sA wA H H' ∧ H' sA = some (.lst (ST seen)) ∧ H' wA = some (.lst (ST wait)) ∧ seen.Nodup ∧ (∀ x ∈ seen, x ∈ rows) ∧ (∀ x ∈ wait, x ∈ rows) ∧
      (∀ x ∈ nd r, x ∈ seen ∨ x ∈ wait) ∧ (∀ x ∈ seen, ∀ y ∈ nd x, y ∈ seen ∨ y ∈ wait) ∧ m = 8 * (7 - seen.length) + wait.length ∧ m ≤ 100,
    ⟨_, [], nd r, v5, rfl, fun _ _ _ _ h => h, es, ew, List.nodup_nil, fun x hx => (by simp at hx), fun x hx => D0.sub r hr x hx, fun x hx => .inr hx, fun x hx => (by simp at hx), rfl, (by have := G.nlen hr; simp; omega)⟩, ?_⟩
  rintro m σ1 H1 ⟨seen, wait, v5, rfl, s1, f1, f2, hnd, hs, hw, ht, hc, rfl, hm⟩
  refine ⟨_, rfl, Nat.zero_le _, fun e ne => ?_⟩
  have s2 := same_upd (o := .lst []) ne
  refine ⟨_, _, .lst (SqL.of (s2 _ _ f2)) (dpAll_ST _), .lst (SqL.of upd_same) .nil, shaped_lst fun z hz => G.names _ (hw z hz), rfl, _, rfl, ?_⟩
  rw [eqv_nil_l]
  have g1 := s2 _ _ f1
  have g2 := s2 _ _ f2
  have s3 : SameY sA wA H (upd H1 e (.lst [])) := fun z o h1 h2 h3 => s2 _ _ (s1 z o h1 h2 h3)
  generalize upd H1 e (.lst []) = H2 at g1 g2 s3
  by_cases hwe : wait = []
  · subst hwe
    refine iteF ?_
    refine h H2 seen v5 s3 g1 ⟨hs, fun x hx => ?_, fun x hx y hy => ?_⟩
    · rcases ht x hx with h | h
      · exact h
      · simp at h
    · rcases hc x hx y hy with h | h
      · exact h
      · simp at h
  · rw [decide_eq_false hwe]
    refine iteT ⟨_, fun σ' H' h => h, ?_⟩
    obtain ⟨ws, one, rfl⟩ : ∃ ws one, wait = ws ++ [one] := ⟨wait.dropLast, wait.getLast hwe, (List.dropLast_concat_getLast hwe).symm⟩
    have hone : one ∈ rows := hw one (by simp)
    refine ⟨_, rfl, .inl ⟨rfl, _, SqL.of g2⟩, wA, _, .str one, rfl, rfl, g2, by rw [ST_snoc]; simp, ?_⟩
    rw [show (ST (ws ++ [one])).dropLast = ST ws by rw [ST_snoc, List.dropLast_concat]]
    have s4 : SameY sA wA H (upd H2 wA (.lst (ST ws))) := fun z o h1 h2 h3 => by rw [upd_ne h2]; exact s3 z o h1 h2 h3
    have k1 : (upd H2 wA (.lst (ST ws))) sA = some (.lst (ST seen)) := by rw [upd_ne hsw]; exact g1
    have k2 : (upd H2 wA (.lst (ST ws))) wA = some (.lst (ST ws)) := upd_same
    generalize upd H2 wA (.lst (ST ws)) = H3 at s4 k1 k2
    refine ⟨_, rfl, _, rfl, sA, _, rfl, .inl (SqL.of k1), rfl, flat_ST _, _, rfl, ?_⟩
    rw [if_pos rfl, inV_ST]
    by_cases hin : one ∈ seen
    · rw [decide_eq_true hin]
      refine iteF ⟨_, ?_, seen, ws, _, rfl, s4, k1, k2, hnd, hs, fun x hx => hw x (by simp [hx]), fun x hx => ?_, fun x hx y hy => ?_, rfl, ?_⟩
      · simp
      · rcases ht x hx with h | h
        · exact .inl h
        · rcases List.mem_append.mp h with h | h
          · exact .inr h
          · have : x = one := by simpa using h
            rw [this]; exact .inl hin
      · rcases hc x hx y hy with h | h
        · exact .inl h
        · rcases List.mem_append.mp h with h | h
          · exact .inr h
          · have : y = one := by simpa using h
            rw [this]; exact .inl hin
      · simp at hm; omega
    · rw [decide_eq_false hin]
      have hnd2 : (seen ++ [one]).Nodup := List.nodup_append.mpr ⟨hnd, by simp, fun x hx y hy e => hin (by
        have h1 : y = one := by simpa using hy
        rw [← h1, ← e]
        exact hx)⟩
      have hs2 : ∀ x ∈ seen ++ [one], x ∈ rows := fun x hx => by
        rcases List.mem_append.mp hx with h | h
        · exact hs x h
        · have : x = one := by simpa using h
          rw [this]; exact hone
      have hl2 : (seen ++ [one]).length ≤ 7 := Nat.le_trans (nodup_len _ _ hnd2 hs2) G.len
      rw [List.length_append, List.length_singleton] at hl2
      refine iteT ⟨_, rfl, .inl ⟨rfl, _, SqL.of k1⟩, _, rfl, sA, _, _, rfl, rfl, k1, by rw [ST_len]; exact small7 (by omega), ?_⟩
      rw [← ST_snoc seen one]
      have s5 : SameY sA wA H (upd H3 sA (.lst (ST (seen ++ [one])))) := fun z o h1 h2 h3 => by rw [upd_ne h1]; exact s4 z o h1 h2 h3
      have m1 : (upd H3 sA (.lst (ST (seen ++ [one])))) sA = some (.lst (ST (seen ++ [one]))) := upd_same
      have m2 : (upd H3 sA (.lst (ST (seen ++ [one])))) wA = some (.lst (ST ws)) := by rw [upd_ne hsw.symm]; exact k2
      generalize upd H3 sA (.lst (ST (seen ++ [one]))) = H4 at s5 m1 m2
      have ep4 : H4 p = some (.dK (planD a d)) := s5 _ _ (ne_of ep es (by intro z; cases z)) (ne_of ep ew (by intro z; cases z)) ep
      obtain ⟨tt, dg, et⟩ := pl_need (hN.y es ew s5) pm hone
      refine ⟨_, rfl, .inl ⟨rfl, _, SqL.of m2⟩, _, rfl, p, _, rfl, pl_needs ep4, _, rfl, d, _, rfl, dg, tt, _, rfl, .inr (SqT.of et), fun l nl => ?_⟩
      have s6 := same_upd (o := .lst (ST (nd one))) nl
      have el : (upd H4 l (.lst (ST (nd one)))) l = some (.lst (ST (nd one))) := upd_same
      have m1' := s6 _ _ m1
      have m2' := s6 _ _ m2
      have s7 : SameY sA wA H (upd H4 l (.lst (ST (nd one)))) := fun z o h1 h2 h3 => s6 _ _ (s5 z o h1 h2 h3)
      generalize upd H4 l (.lst (ST (nd one))) = H5 at s7 el m1' m2'
      have hn7 := G.nlen hone
      refine ⟨wA, l, _, _, rfl, rfl, m2', el, ?_, ?_⟩
      · rw [ST_len, ST_len]
        simp at hm
        exact Nat.le_of_lt (small1000 (by omega))
      refine ⟨_, ?_, seen ++ [one], ws ++ nd one, _, rfl, fun z o h1 h2 h3 => by rw [upd_ne h2]; exact s7 z o h1 h2 h3, by rw [upd_ne hsw]; exact m1', by rw [upd_same]; exact congrArg (fun z => some (HO.lst z)) (List.map_append).symm, hnd2, hs2, fun x hx => ?_, fun x hx => ?_, fun x hx y hy => ?_, rfl, ?_⟩
      · simp only [List.length_append, List.length_singleton] at *
        omega
      · rcases List.mem_append.mp hx with h | h
        · exact hw x (by simp [h])
        · exact D0.sub one hone x h
      · rcases ht x hx with h | h
        · exact .inl (by simp [h])
        · rcases List.mem_append.mp h with h | h
          · exact .inr (by simp [h])
          · exact .inl (by simp at h; simp [h])
      · rcases List.mem_append.mp hx with h | h
        · rcases hc x h y hy with h | h
          · exact .inl (by simp [h])
          · rcases List.mem_append.mp h with h | h
            · exact .inr (by simp [h])
            · exact .inl (by simp at h; simp [h])
        · have : x = one := by simpa using h
          rw [this] at hy
          exact .inr (by simp [hy])
      · simp only [List.length_append, List.length_singleton] at *
        omega
theorem seq_mid {A B : TS} {D : Ends} {σ : L2.St} {H : Hp} (h : A { D with nx := B D } σ H) : tSeq A B D σ H := h
section
variable {P : Program} {w : World} {K : PySem.W.Frag} {mg : Str → Option Value} {base : Heap}
theorem ok_below (T : Txt K mg) : FnOk P w K mg base CX0 1 T.below.f T.below.fd ["_law_plan_here"] spBelow := by
  refine T.below.F.ok sc_below (fun vs H Q E h => ?_) (fun cdv A outer s H vs Q E hr h => ?_)
  · obtain ⟨p, rows, nd, rfl, _⟩ := h
    rfl
  · obtain ⟨p, rows, nd, rfl, ⟨a, d, ks, ep, ea, hN, pm⟩, G, k⟩ := h
    obtain ⟨rk, D0⟩ := G.dag
    refine ⟨_, (pss_cons (ps_set (i := 1) sc_below.nd rfl (.inl rfl) pe_dnewK)
      (pss_cons (ps_for PassesOwn.never rfl (pi_list (pe_dget (hu_of hr) (pv 0) pe_str (fun _ _ => rfl))) (pg_name (i := 2) sc_below.nd rfl (.inl rfl))
        (pss_cons (ps_set (i := 3) sc_below.nd rfl (.inl rfl) (pe_lst pa_nil))
      (pss_cons (ps_set (i := 4) sc_below.nd rfl (.inl rfl) (pe_callTy call_list_of (by rfl) T.b_list bb_list (pa_cons (pe_dget (hu_of hr) (pe_dget (hu_of hr) (pv 0) pe_str (fun _ _ => rfl)) (pv 2) (fun _ _ => rfl)) pa_nil)))
      (pss_cons (ps_while PassesOwn.never (pt_cmpR (op_neD hr.units) (pv 4) (pe_lst pa_nil) (nomark _))
        (pss_cons (ps_set (i := 5) sc_below.nd rfl (.inl rfl) (pe_bm0 PySem.F.plainAttrs_list PySem.F.slot_list_pop PySem.F.type_list_pop mt_pop (pv 4)))
      (pss_one (ps_if (pt_cmpR op_notIn_seq (pv 5) (pv 3) (by rfl))
        (pss_cons (ps_expr (pe_bm PySem.F.plainAttrs_list PySem.F.slot_list_append PySem.F.type_list_append mt_append (pv 3) (pa_cons (pv 5) pa_nil)))
      (pss_one (ps_expr (pe_bm PySem.F.plainAttrs_list PySem.F.slot_list_extend PySem.F.type_list_extend mt_extend (pv 4) (pa_cons (pe_callTy call_list_of (by rfl) T.b_list bb_list (pa_cons (pe_dget (hu_of hr) (pe_dget (hu_of hr) (pv 0) pe_str (fun _ _ => rfl)) (pv 5) (fun _ _ => rfl)) pa_nil)) pa_nil)))))
        pss_nil))))
      (pss_one (ps_dput (hu_of hr) (pv 1) (pv 2) (pv 3) rfl))))))
      (pss_one (ps_ret (pv 1))))), ?_⟩
    refine fun f nf => ?_
    have s1 := same_upd (o := .dK []) nf
    have ef : (upd H f (.dK [])) f = some (.dK []) := upd_same
    show tSeq _ _ _ _ (upd H f (.dK []))
    generalize upd H f (.dK []) = H1 at s1 ef
    refine ⟨_, rfl, p, _, rfl, pl_rows (s1 _ _ ep), a, rfl, ⟨_, SqL.of (s1 _ _ ea)⟩, for_go rows.length (fun i σ' H' => ∃ (v2 v3 v4 v5 : Option V) (t : Str → Addr) (bf : Str → List Str), σ' = [some (.ref p), some (.ref f), v2, v3, v4, v5] ∧ Same H H' ∧
      H' f = some (.dK ((rows.take i).map fun r => (kS r, V.ref (t r)))) ∧ ∀ r ∈ rows.take i, H' (t r) = some (.lst (ST (bf r))) ∧ Closed rows nd r (bf r)) ⟨none, none, none, none, fun _ => 0, fun _ => [], rfl, s1, ef, fun r hr => by simp at hr⟩ ?_ ?_⟩
    · rintro i σ1 H2 hi ⟨v2, v3, v4, v5, t, bf, rfl, s2, ef2, ft⟩
      refine ⟨⟨_, .str rows[i], SqL.of (s2 _ _ ea), by rw [List.getElem?_map, List.getElem?_eq_getElem hi]; rfl⟩, fun x H3 ⟨eH, fx⟩ => ?_⟩
      subst H3
      have ex := fx _ (SqL.of (s2 _ _ ea))
      rw [List.getElem?_map, List.getElem?_eq_getElem hi] at ex
      have ex : V.str rows[i] = x := Option.some.inj ex
      subst x
      have hr0 : rows[i] ∈ rows := List.getElem_mem hi
      refine ⟨Nat.zero_le _, fun sA nsA => ?_⟩
      have s3 := same_upd (o := .lst []) nsA
      have es : (upd H2 sA (.lst [])) sA = some (.lst []) := upd_same
      show tSeq _ _ _ _ (upd H2 sA (.lst []))
      generalize upd H2 sA (.lst []) = H3 at s3 es
      have s03 := s2.trans s3
      obtain ⟨tt, dg, et⟩ := pl_need (hN.same s03) pm hr0
      refine ⟨_, rfl, p, _, rfl, pl_needs (s03 _ _ ep), _, rfl, d, _, rfl, dg, tt, _, rfl, .inr (SqT.of et), fun wA nwA => ?_⟩
      have s4 := same_upd (o := .lst (ST (nd rows[i]))) nwA
      have ew : (upd H3 wA (.lst (ST (nd rows[i])))) wA = some (.lst (ST (nd rows[i]))) := upd_same
      have hsw : sA ≠ wA := ne_of_none es nwA
      have es4 := s4 _ _ es
      have s04 := s03.trans s4
      have s24 := s3.trans s4
      have nwA2 : H2 wA = none := s3.free nwA
      show tSeq _ _ _ _ (upd H3 wA (.lst (ST (nd rows[i]))))
      generalize upd H3 wA (.lst (ST (nd rows[i]))) = H4 at s04 s24 es4 ew
      refine rd_close (s04 _ _ ep) (hN.same s04) pm G hr0 es4 ew hsw fun H5 bl v5' s5 es5 hC => ?_
      have s25 : Same H2 H5 := fun z o e => s5 _ _ (ne_of_none e nsA) (ne_of_none e nwA2) (s24 _ _ e)
      have ef5 := s25 _ _ ef2
      have hno := not_in_take D0.nd hi
      have tk : rows.take (i + 1) = rows.take i ++ [rows[i]] := by rw [List.take_add_one, List.getElem?_eq_getElem hi]; rfl
      have hlen : ((rows.take i).map fun r => (kS r, V.ref (t r))).length ≤ 7 := by
        rw [List.length_map]
        have := List.length_take_le' i rows
        have := G.len
        omega
      refine ⟨_, rfl, _, rfl, _, rfl, f, _, rfl, DPut.k (k := kS rows[i]) ef5 (small7 hlen), ?_⟩
      have hfs : ∀ z o, H z = some o → z ≠ f := fun z o e => ne_of_none e nf
      have hsf : sA ≠ f := ne_of es5 ef5 (by intro z; cases z)
      refine ⟨_, _, _, _, fun r => if r = rows[i] then sA else t r, fun r => if r = rows[i] then bl else bf r, rfl, fun z o e => by rw [upd_ne (hfs z o e)]; exact s25 _ _ (s2 _ _ e), ?_, ?_⟩
      · have e1 : (rows.take i).map (fun r => (kS r, V.ref (t r))) = (rows.take i).map fun r => (kS r, V.ref (if r = rows[i] then sA else t r)) := List.map_congr_left fun r hr => by
          have : r ≠ rows[i] := fun h => hno (by rw [← h]; exact hr)
          rw [if_neg this]
        have e2 : V.ref sA = V.ref (if rows[i] = rows[i] then sA else t rows[i]) := by rw [if_pos rfl]
        rw [upd_same, e1, e2, putK_new_mapf (f := fun r => V.ref (if r = rows[i] then sA else t r)) hno, tk]
      · intro r hr
        rw [tk] at hr
        dsimp only
        by_cases e : r = rows[i]
        · rw [if_pos e, if_pos e, upd_ne hsf, e]
          exact ⟨es5, hC⟩
        · have hr' : r ∈ rows.take i := by
            rcases List.mem_append.mp hr with h | h
            · exact h
            · exact absurd (by simpa using h) e
          obtain ⟨q1, q2⟩ := ft r hr'
          rw [if_neg e, if_neg e]
          have g := s25 _ _ q1
          exact ⟨by rw [upd_ne (ne_of g ef5 (by intro z; cases z))]; exact g, q2⟩
    · rintro σ1 H2 ⟨v2, v3, v4, v5, t, bf, rfl, s2, ef2, ft⟩
      rw [List.take_length] at ef2 ft
      exact ⟨⟨_, SqL.of (s2 _ _ ea), by rw [ST_len]; exact Nat.le_refl _⟩, _, rfl, k H2 f bf s2 ⟨t, ef2, fun r hr => (ft r hr).1⟩ fun r hr => (ft r hr).2⟩
end
end K19

set_option Elab.async false
set_option linter.all false
set_option maxRecDepth 100000
set_option maxHeartbeats 4000000
/-! The law's chains. -/
namespace K19
open PySem PySem.Spec PyProof.Rows L2 StX ClX GenW RZ
theorem sc_chains : FnScope ["_law_plan_here", "_law_found", "_law_at", "_law_some", "_law_row"] ["_law_plan_here"] (defScope sChains) := ⟨rfl, rfl, rfl, by decide +kernel, rfl, by decide +kernel, by decide +kernel⟩
def Tups (H : Hp) (ps : List (Addr × List Str)) : Prop := ∀ x ∈ ps, H x.1 = some (.tup (ST x.2))
/-- the list at q of the tuples of L -/
def ChAt (H : Hp) (q : Addr) (L : List (List Str)) : Prop := ∃ ps : List (Addr × List Str), H q = some (.lst (ps.map fun x => V.ref x.1)) ∧ Tups H ps ∧ ps.map (·.2) = L
structure Chains (rows : List Str) (nd : Str → List Str) (L : List (List Str)) : Prop where
  ok : ∀ c ∈ L, isCh nd c ∧ c ≠ [] ∧ ∀ x ∈ c, x ∈ rows
  one : ∀ r ∈ rows, [r] ∈ L
  len : L.length ≤ 2007
  all : L.length < 2000 → ∀ c ∈ L, ∀ y r, c.getLast? = some y → r ∈ rows → y ∈ nd r → c ++ [r] ∈ L
def spChains : Sp := fun vs H Q _ => ∃ (p : Addr) (rows : List Str) (nd : Str → List Str), vs = [.ref p] ∧ PlanAt H p rows nd ∧ Good rows nd ∧ ∀ H' q L, Same H H' → ChAt H' q L → Chains rows nd L → Q (.ref q) H'
theorem atI_last {c : List Str} {y : Str} (h : c.getLast? = some y) : atI (ST c) (-1) = some (.str y) := by
  have hne : c ≠ [] := fun e => by rw [e] at h; simp at h
  have hp : 0 < c.length := List.length_pos_iff.mpr hne
  unfold atI ixN
  rw [ST_len, if_neg (by omega), if_pos (by omega)]
  show (ST c)[(-1 + (c.length : Int)).toNat]? = _
  rw [show (-1 + (c.length : Int)).toNat = c.length - 1 by omega, List.getElem?_map, ← List.getLast?_eq_getElem?, h]
  rfl
/-- [.. for x in ys], a new tuple of texts at each turn -/
theorem lc_tups {J : It} {te : TE} {a : Nat} {σ : L2.St} {H1 : Hp} {D : Addr} {Qd : Hp → Prop} {ys : List Str} (fc : Str → List Str) (W : Wlk J D H1 V.str ys) (nD : H1 D = none) (hl : ys.length ≤ 1000) (hw : ∀ x, wipe ((wipe σ [a]).set a x) [a] = wipe σ [a])
    (el : ∀ x H', x ∈ ys → SameX D H1 H' → H' D ≠ none → ∀ Qv : VK, (∀ H3 t, Same H' H3 → H' t = none → H3 t = some (.tup (ST (fc x))) → Qv (.ref t) H3) → te ((wipe σ [a]).set a (some (V.str x))) H' Qv)
    (hd : ∀ H' ps, SameX D H1 H' → ps.map (·.2) = ys.map fc → H' D = some (.lst (ps.map fun x => V.ref x.1)) → Tups H' ps → Qd H') :
    ∃ W : Nat → Nat → Hp → Prop, (∃ m, W 0 m (upd H1 D (.lst []))) ∧ ∀ i m H, W i m H →
      (J.stop i H ∧ Qd H) ∨ (J.go i H ∧ ∃ Nx : Hp → Prop, (∀ H', Nx H' → ∃ m', m' < m ∧ W (i + 1) m' H') ∧ ∀ x H', J.yld i H x H' → (gName a) x (wipe σ [a]) H' fun σ2 H2 => wipe σ2 [a] = wipe σ [a] ∧ tYes σ2 H2 fun b H3 =>
        if b = true then te σ2 H3 fun y H4 => ∃ acc, H4 D = some (.lst acc) ∧ acc.length < sizeLine ∧ Nx (upd H4 D (.lst (acc ++ [y]))) else Nx H3) := by
  refine lc_genD ys.length (fun i l H' => ∃ ps : List (Addr × List Str), l = ps.map (fun x => V.ref x.1) ∧ ps.map (·.2) = (ys.take i).map fc ∧ (∀ x ∈ ps, H' x.1 = some (.tup (ST x.2)) ∧ x.1 ≠ D) ∧ SameX D H1 H')
    (fun i l H2 H3 ⟨ps, e, e2, f, k⟩ s => ⟨ps, e, e2, fun x hx => ⟨s _ _ (f x hx).2 (f x hx).1, (f x hx).2⟩, k.trans s⟩) ⟨[], rfl, rfl, fun x hx => by simp at hx, sx_of (Same.refl H1)⟩ nD (fun i l H2 hi ⟨ps, e, e2, f, k⟩ => ?_) (fun i l H2 hi ⟨ps, e, e2, f, k⟩ eD R1 R2 h1 h2 => ⟨W.go i H2 hi k, fun x H3 y => ?_⟩) fun l H2 ⟨ps, e, e2, f, k⟩ eD => ⟨W.stop _ k, ?_⟩
  · have : ps.length = (ys.take i).length := by rw [← List.length_map (f := (·.2)), e2, List.length_map]
    rw [e, List.length_map, this]
    have h2 := List.length_take_le i ys
    rw [sizeLine_eq]
    omega
  · obtain ⟨e3, ex⟩ := W.yld i H2 x H3 k y
    subst e3
    have ex := ex ys[i] (List.getElem?_eq_getElem hi)
    subst ex
    refine ⟨hw _, ?_⟩
    show if true = true then te ((wipe σ [a]).set a (some (V.str ys[i]))) H3 R1 else R2 H3
    rw [if_pos rfl]
    have tk : ys.take (i + 1) = ys.take i ++ [ys[i]] := by rw [List.take_add_one, List.getElem?_eq_getElem hi]; rfl
    refine el ys[i] _ (List.getElem_mem hi) k (by rw [eD]; simp) _ fun H5 t s5 nt et => h1 _ _ s5 ⟨ps ++ [(t, fc ys[i])], ?_, ?_, ?_, k.trans (sx_of s5)⟩
    · rw [e, List.map_append]; rfl
    · rw [List.map_append, e2, tk, List.map_append]; rfl
    · intro x hx
      rcases List.mem_append.mp hx with h | h
      · exact ⟨s5 _ _ (f x h).1, (f x h).2⟩
      · have : x = (t, fc ys[i]) := by simpa using h
        subst this
        refine ⟨et, fun h => ?_⟩
        replace h : t = D := h
        rw [h, eD] at nt
        cases nt
  · refine hd _ ps k (by rw [e2, List.take_length]) (by rw [eD, e]) fun x hx => (f x hx).1
section
variable {P : Program} {w : World} {K : PySem.W.Frag} {mg : Str → Option Value} {base : Heap}
theorem ok_chains (T : Txt K mg) : FnOk P w K mg base CX0 1 T.chains.f T.chains.fd ["_law_plan_here"] spChains := by
  refine T.chains.F.ok sc_chains (fun vs H Q E h => ?_) (fun cdv A outer s H vs Q E hr h => ?_)
  · obtain ⟨p, rows, nd, rfl, _⟩ := h
    rfl
  · obtain ⟨p, rows, nd, rfl, ⟨a, d, ks, ep, ea, hN, pm⟩, G, k⟩ := h
    obtain ⟨rk, D0⟩ := G.dag
    have hl7 := G.len
    refine ⟨_, (pss_cons (ps_set (i := 1) sc_chains.nd rfl (.inr rfl) (pe_lc (own := [("_law_row", 4)]) (g := (gName 4)) (by rfl) sc_chains.nd (pi_list (pe_dget (hu_of hr) (pv 0) pe_str (fun _ _ => rfl))) (blkOk_by (own := [("_law_row", 4)]) (N := ["_law_plan_here", "_law_found", "_law_at", "_law_some", "_law_row"]) (sc := defScope sChains) (by decide +kernel)) (fun _ _ _ _ _ => (pg_name (i := 4) sc_chains.nd rfl (.inl rfl))) (fun _ _ _ _ _ => pts_nil) (fun _ _ _ _ _ => (pe_tup (pa_cons (pv 4) pa_nil)))))
      (pss_cons (ps_set (i := 2) sc_chains.nd rfl (.inr rfl) pe_int)
      (pss_cons (ps_while PassesOwn.never (PW.pt (pw_and (pt_cmpR op_lt (pv 2) (pe_callB call_len_seq (by rfl) T.b_len PySem.boot_len (pa_cons (pv 1) pa_nil)) (nomark _)) (pw_and1 (pt_cmpR op_lt (pe_callB call_len_seq (by rfl) T.b_len PySem.boot_len (pa_cons (pv 1) pa_nil)) pe_int (nomark _)))))
        (pss_cons (ps_setLc (i := 3) (own := [("_law_row", 4)]) (g := (gName 4)) (by rfl) sc_chains.nd rfl rfl (sw_true rfl rfl rfl (by decide +kernel)) (pi_list (pe_dget (hu_of hr) (pv 0) pe_str (fun _ _ => rfl))) (blkOk_by (own := [("_law_row", 4)]) (N := ["_law_plan_here", "_law_found", "_law_at", "_law_some", "_law_row"]) (sc := defScope sChains) (by decide +kernel)) (fun _ _ _ _ _ => (pg_name (i := 4) sc_chains.nd rfl (.inl rfl))) (fun _ _ _ _ _ => (pts_one (pt_cmpR (show OpR _ _ (rIn K false) from op_in_seq) (pe_ix (show IxR _ (rIxT K) from ix_tup) (pe_ix (show IxR _ (rIxL K) from ix_list) (pv 1) (pv 2) (fun _ _ => rfl)) (pe_un un_neg pe_int) (fun _ _ => rfl)) (pe_dget (hu_of hr) (pe_dget (hu_of hr) (pv 0) pe_str (fun _ _ => rfl)) (pv 4) (fun _ _ => rfl)) (by rfl)))) (fun _ _ _ _ _ => (pv 4)))
      (pss_cons (ps_expr (pe_bm PySem.F.plainAttrs_list PySem.F.slot_list_extend PySem.F.type_list_extend mt_extend (pv 1) (pa_cons (pe_lc (own := [("_law_row", 4)]) (g := (gName 4)) (by rfl) sc_chains.nd (pi_list (pv 3)) (blkOk_by (own := [("_law_row", 4)]) (N := ["_law_plan_here", "_law_found", "_law_at", "_law_some", "_law_row"]) (sc := defScope sChains) (by decide +kernel)) (fun _ _ _ _ _ => (pg_name (i := 4) sc_chains.nd rfl (.inl rfl))) (fun _ _ _ _ _ => pts_nil) (fun _ _ _ _ _ => (pe_op (show OpR _ _ (rCatT K) from op_catT) (pe_ix (show IxR _ (rIxL K) from ix_list) (pv 1) (pv 2) (fun _ _ => rfl)) (pe_tup (pa_cons (pv 4) pa_nil))))) pa_nil)))
      (pss_one (ps_set (i := 2) sc_chains.nd rfl (.inr rfl) (pe_op op_add (pv 2) pe_int))))))
      (pss_one (ps_ret (pv 1)))))), ?_⟩
    refine ⟨_, rfl, p, _, rfl, pl_rows ep, a, rfl, ⟨_, SqL.of ea⟩, fun D nD => lc_tups (ys := rows) (fun x => [x]) (wlk_lst (SqL.of ea) nD) nD (by omega) (fun _ => rfl) (fun x H' hx sx nn Qv hq => ?_) fun H1 ps sx e2 eD tp => ?_⟩
    · refine ⟨_, rfl, (show 1 ≤ sizeLine by decide), fun t nt => hq _ t (same_upd nt) nt upd_same⟩
    · have s1 : Same H H1 := fun z o e => sx _ _ (ne_of_none e nD) e
      have nD0 := nD
      have es0 : ps.map (·.2) = rows.map fun x => [x] := e2
      have hps : ∀ c ∈ ps.map (·.2), isCh nd c ∧ c ≠ [] ∧ ∀ x ∈ c, x ∈ rows := fun c hc => by
        rw [es0] at hc
        obtain ⟨r, hr, rfl⟩ := List.mem_map.mp hc
        exact ⟨True.intro, by simp, fun x hx => by simp at hx; rw [hx]; exact hr⟩
      have hlen0 : ps.length = rows.length := by rw [← List.length_map (f := (·.2)), es0, List.length_map]
      refine ⟨fun m σ' H' => ∃ (i : Nat) (ps : List (Addr × List Str)) (v3 v4 : Option V), σ' = [some (.ref p), some (.ref D), some (.int (i : Nat)), v3, v4] ∧ Same H H' ∧ H' D = some (.lst (ps.map fun x => V.ref x.1)) ∧ Tups H' ps ∧ m = 5000 - i ∧ i ≤ 2000 ∧
        (∀ c ∈ ps.map (·.2), isCh nd c ∧ c ≠ [] ∧ ∀ x ∈ c, x ∈ rows) ∧ (∀ r ∈ rows, [r] ∈ ps.map (·.2)) ∧ ps.length ≤ 2007 ∧
        ∀ j c, j < i → (ps.map (·.2))[j]? = some c → ∀ y r, c.getLast? = some y → r ∈ rows → y ∈ nd r → c ++ [r] ∈ ps.map (·.2),
        ⟨5000, 0, ps, none, none, rfl, s1, eD, tp, rfl, by omega, hps, fun r hr => by rw [es0]; exact List.mem_map.mpr ⟨r, hr, rfl⟩, by omega, fun j c hj => by omega⟩, ?_⟩
      rintro m σ1 H2 ⟨i, ps, v3, v4, rfl, s2, eD2, tp2, rfl, hi, hok, hone, hl, hall⟩
      have hlL : (ps.map fun x => V.ref x.1).length = ps.length := List.length_map _
      refine ⟨_, rfl, _, rfl, D, _, rfl, .inl (SqL.of eD2), _, _, rfl, rfl, _, rfl, ?_⟩
      rw [hlL]
      by_cases h1 : i < ps.length
      · rw [decide_eq_true (by omega)]
        refine iteT ⟨_, rfl, D, _, rfl, .inl (SqL.of eD2), _, _, rfl, rfl, _, rfl, ?_⟩
        rw [hlL]
        by_cases h2 : ps.length < 2000
        · rw [decide_eq_true (by omega)]
          refine iteT ⟨_, fun σ' H' h => h, ?_⟩
          obtain ⟨tc, c, hx0⟩ : ∃ tc c, ps[i] = (tc, c) := ⟨_, _, rfl⟩
          have hmem : (tc, c) ∈ ps := by rw [← hx0]; exact List.getElem_mem h1
          have etc : H2 tc = some (.tup (ST c)) := tp2 _ hmem
          have hcm : c ∈ ps.map (·.2) := List.mem_map.mpr ⟨_, hmem, rfl⟩
          obtain ⟨hch, hcne, hcs⟩ := hok c hcm
          obtain ⟨y, hy⟩ : ∃ y, c.getLast? = some y := ⟨c.getLast hcne, List.getLast?_eq_some_getLast hcne⟩
          have hyr : y ∈ rows := hcs y (List.mem_of_getLast? hy)
          have hcl : c.length ≤ 7 := Nat.le_trans (nodup_len _ _ (ch_nodup D0 _ hch hcs) hcs) hl7
          have hgi : (ps.map fun x => V.ref x.1)[i]? = some (.ref tc) := by rw [List.getElem?_map, List.getElem?_eq_getElem h1, hx0]; rfl
          have hgi2 : (ps.map (·.2))[i]? = some c := by rw [List.getElem?_map, List.getElem?_eq_getElem h1, hx0]; rfl
          refine ⟨_, rfl, p, _, rfl, pl_rows (s2 _ _ ep), a, rfl, ⟨_, SqL.of (s2 _ _ ea)⟩, fun S nS => lc_map (it := V.str) (ys := rows) (fun r => decide (y ∈ nd r)) V.str (wlk_lst (SqL.of (s2 _ _ ea)) nS) nS (by omega) (fun _ => rfl) (fun x H' hx sx Qc hq => ?_) (fun x H' hx sx Qv hq => ⟨_, rfl, hq _ (Same.refl _)⟩) fun H3 sx3 eS => ?_⟩
          · have g0 : Same H H' := fun z o e => sx _ _ (ne_of_none (s2 _ _ e) nS) (s2 _ _ e)
            have gD := sx _ _ (ne_of_none eD2 nS) eD2
            have gt := sx _ _ (ne_of_none etc nS) etc
            obtain ⟨tt, dg, ett⟩ := pl_need (hN.same g0) pm hx
            refine ⟨_, rfl, _, rfl, D, _, _, _, rfl, rfl, SqL.of gD, atI_nat hgi, _, rfl, tc, _, _, _, rfl, rfl, SqT.of gt, atI_last hy, _, rfl, p, _, rfl, pl_needs (g0 _ _ ep), _, rfl, d, _, rfl, dg, tt, _, rfl, .inr (SqT.of ett), rfl, flat_ST _, _, rfl, ?_⟩
            show Qc (if false = true then !inV (.str y) (ST (nd x)) else inV (.str y) (ST (nd x))) H'
            rw [if_neg (by simp), inV_ST]
            exact hq _ (Same.refl _)
          · have s3 : Same H2 H3 := fun z o e => sx3 _ _ (ne_of_none e nS) e
            replace eS : H3 S = some (.lst (ST (rows.filter fun r => decide (y ∈ nd r)))) := eS
            have hsl : (rows.filter fun r => decide (y ∈ nd r)).length ≤ 7 := Nat.le_trans (List.length_filter_le _ _) hl7
            have gD3 := s3 _ _ eD2
            refine ⟨_, rfl, .inl ⟨rfl, _, SqL.of gD3⟩, _, rfl, S, rfl, ⟨_, SqL.of eS⟩, fun R nR => lc_tups (ys := rows.filter fun r => decide (y ∈ nd r)) (fun r => c ++ [r]) (wlk_lst (SqL.of eS) nR) nR (by omega) (fun _ => rfl) (fun x H' hx sx nn Qv hq => ?_) fun H4 ps2 sx4 e4 eR tp4 => ?_⟩
            · have gD := sx _ _ (ne_of_none gD3 nR) gD3
              have gt := sx _ _ (ne_of_none (s3 _ _ etc) nR) (s3 _ _ etc)
              refine ⟨_, rfl, _, rfl, D, _, _, _, rfl, rfl, SqL.of gD, atI_nat hgi, _, rfl, (show 1 ≤ sizeLine by decide), fun t nt => ?_⟩
              have s5 := same_upd (o := .tup [.str x]) nt
              refine ⟨tc, t, _, _, rfl, rfl, SqT.of (s5 _ _ gt), SqT.of upd_same, (fun h => by have := congrArg List.length h; rw [ST_len] at this; simp at this; exact hcne this), ?_, fun h => by simp at h, fun _ t2 nt2 => hq _ t2 (s5.trans (same_upd nt2)) (s5.free nt2) ?_⟩
              · rw [ST_len]
                exact Nat.le_of_lt (small1000 (by simp; omega))
              · rw [upd_same, ST_snoc]
            · have s4 : Same H3 H4 := fun z o e => sx4 _ _ (ne_of_none e nR) e
              have gD4 := s4 _ _ gD3
              have hl2 : ps2.length ≤ 7 := by rw [← List.length_map (f := (·.2)), e4, List.length_map]; exact hsl
              refine ⟨D, R, _, _, rfl, rfl, gD4, eR, ?_, ?_⟩
              · rw [List.length_map, List.length_map]
                rw [sizeLine_eq]
                omega
              have hmap : (ps ++ ps2).map (·.2) = ps.map (·.2) ++ (rows.filter fun r => decide (y ∈ nd r)).map fun r => c ++ [r] := by rw [List.map_append, e4]
              refine ⟨_, rfl, _, _, rfl, rfl, 5000 - (i + 1), by omega, i + 1, ps ++ ps2, _, _, rfl, fun z o e => ?_, ?_, ?_, rfl, by omega, ?_, ?_, ?_, ?_⟩
              · rw [upd_ne (ne_of_none e nD)]
                exact s4 _ _ (s3 _ _ (s2 _ _ e))
              · rw [upd_same, List.map_append]
              · intro x hx
                have hx2 : H4 x.1 = some (.tup (ST x.2)) := by
                  rcases List.mem_append.mp hx with h | h
                  · exact s4 _ _ (s3 _ _ (tp2 x h))
                  · exact tp4 x h
                rw [upd_ne (ne_of hx2 gD4 (by intro z; cases z))]
                exact hx2
              · intro c' hc'
                rw [hmap] at hc'
                rcases List.mem_append.mp hc' with h | h
                · exact hok c' h
                · obtain ⟨r, hr, rfl⟩ := List.mem_map.mp h
                  obtain ⟨hr1, hr2⟩ := List.mem_filter.mp hr
                  refine ⟨(isCh_snoc hy).mpr ⟨hch, of_decide_eq_true hr2⟩, by simp, fun x hx => ?_⟩
                  rcases List.mem_append.mp hx with h | h
                  · exact hcs x h
                  · have : x = r := by simpa using h
                    rw [this]; exact hr1
              · intro r hr
                rw [hmap]
                exact List.mem_append_left _ (hone r hr)
              · rw [List.length_append]
                omega
              · intro j c' hj hc' y' r hy' hr hyr'
                rw [hmap]
                by_cases hji : j < i
                · rw [hmap, List.getElem?_append_left (by rw [List.length_map]; omega)] at hc'
                  exact List.mem_append_left _ (hall j c' hji hc' y' r hy' hr hyr')
                · have : j = i := by omega
                  subst this
                  rw [hmap, List.getElem?_append_left (by rw [List.length_map]; omega), hgi2] at hc'
                  have : c = c' := Option.some.inj hc'
                  subst this
                  rw [hy] at hy'
                  have : y = y' := Option.some.inj hy'
                  subst this
                  exact List.mem_append_right _ (List.mem_map.mpr ⟨r, List.mem_filter.mpr ⟨hr, decide_eq_true hyr'⟩, rfl⟩)
        · rw [decide_eq_false (by omega)]
          refine iteF ?_
          exact ⟨_, rfl, k H2 D _ s2 ⟨ps, eD2, tp2, rfl⟩ ⟨hok, hone, by rw [List.length_map]; exact hl, fun h => absurd (by rw [List.length_map] at h; exact h) h2⟩⟩
      · rw [decide_eq_false (by omega)]
        refine iteF (iteF ?_)
        refine ⟨_, rfl, k H2 D _ s2 ⟨ps, eD2, tp2, rfl⟩ ⟨hok, hone, by rw [List.length_map]; exact hl, fun _ c hc y r hy hr hyr => ?_⟩⟩
        obtain ⟨j, hj, rfl⟩ := List.mem_iff_getElem.mp hc
        exact hall j _ (by rw [List.length_map] at hj; omega) (List.getElem?_eq_getElem hj) y r hy hr hyr
end
end K19

set_option Elab.async false
set_option linter.all false
set_option maxRecDepth 100000
set_option maxHeartbeats 4000000
/-! The law's moves. -/
namespace K19
open PySem PySem.Spec PyProof.Rows L2 StX ClX GenW RZ
theorem sc_moves : FnScope ["_law_plan_here", "_law_page_here", "_law_laps", "_law_row", "_law_place", "_law_other"] ["_law_plan_here", "_law_page_here", "_law_laps"] (defScope sMovesRight) := ⟨rfl, rfl, rfl, by decide +kernel, rfl, by decide +kernel, by decide +kernel⟩
def spMoves (CS : Addr) : Sp := fun vs H Q _ => ∃ (p s : Addr) (rows : List Str) (nd : Str → List Str) (pp : Str → Nat) (top : Str), vs = [.ref p, .ref s, .int (pp top : Nat)] ∧ PlanAt H p rows nd ∧ SheetAt CS H s rows (fun r => srt (nd r)) ∧ Good rows (fun r => srt (nd r)) ∧ IsPass rows (fun r => srt (nd r)) pp ∧ top ∈ rows ∧ (∀ x ∈ rows, pp x ≤ pp top) ∧ ∀ H', Same H H' → Q (.bl true) H'
theorem isPass_congr {rows : List Str} {f g : Str → List Str} {p : Str → Nat} (I : IsPass rows f p) (e : ∀ r ∈ rows, ∀ o, o ∈ f r ↔ o ∈ g r) : IsPass rows g p where
  one := I.one
  ge := fun r hr o ho => I.ge r hr o ((e r hr o).mpr ho)
  eq := fun r hr => (I.eq r hr).imp id fun ⟨o, ho, h⟩ => ⟨o, (e r hr o).mp ho, h⟩
theorem move_tops {rows : List Str} {f : Str → List Str} {p p' : Str → Nat} {r top top' : Str} {i : Nat} (G : Good rows f) (I : IsPass rows f p) (I' : IsPass (moved rows r i) f p') (hr : r ∈ rows) (h1 : top ∈ rows) (h2 : ∀ x ∈ rows, p x ≤ p top) (h3 : top' ∈ moved rows r i) (h4 : ∀ x ∈ moved rows r i, p' x ≤ p' top') :
    p' top' ≤ p top + 1 ∧ p top ≤ p' top' + 1 := by
  have mp := moved_perm G.nodup hr i
  have G' := G.perm mp
  obtain ⟨rk, D⟩ := G.dag
  have D' : Dag (moved rows r i) f rk := ⟨mp.nodup_iff.mpr D.nd, fun r hr o ho => mp.mem_iff.mpr (D.sub r (mp.mem_iff.mp hr) o ho), fun r hr o ho => D.lt r (mp.mem_iff.mp hr) o ho⟩
  have sb := moved_same G.nodup hr i
  have a1 := move_le D D' I I' (fun x => mp.mem_iff) sb top' (mp.mem_iff.mp h3)
  have a2 := move_le D' D I' I (fun x => mp.mem_iff.symm) (r := r) (fun x y hx hy ex ey => (sb x y (mp.mem_iff.mp hx) (mp.mem_iff.mp hy) ex ey).symm) top (mp.mem_iff.mpr h1)
  have a3 := h2 top' (mp.mem_iff.mp h3)
  have a4 := h4 top (mp.mem_iff.mpr h1)
  omega
section
variable {P : Program} {w : World} {K : PySem.W.Frag} {mg : Str → Option Value} {base : Heap}
theorem ok_moves (T : Txt K mg) : FnOk P w K mg base CX0 9 T.movesRight.f T.movesRight.fd ["_law_plan_here", "_law_page_here", "_law_laps"] (spMoves T.CS) := by
  have G_passesNeeded : FnOk P w K mg base CX0 8 T.passesNeeded.f T.passesNeeded.fd ["sheet"] (spPasses T.CS) := ok_pneed T
  have G_sWithMove : FnOk P w K mg base CX0 8 T.sWithMove.f T.sWithMove.fd ["self", "name", "index"] (spMove T.CS) := ok_smove T
  have G_sNeeds : FnOk P w K mg base CX0 1 T.sNeeds.f T.sNeeds.fd ["self"] (spNeeds T.CS) := ok_sneeds T
  refine T.movesRight.F.ok sc_moves (fun vs H Q E h => ?_) (fun cdv A outer s H vs Q E hr h => ?_)
  · obtain ⟨p, s, rows, nd, pp, top, rfl, _⟩ := h
    rfl
  · obtain ⟨p, s, rows, nd, pp, top, rfl, ⟨a, d, ks, ep, ea, hN, pm⟩, hS, G, I, htop, hmax, k⟩ := h
    refine ⟨_, (pss_cons (ps_for PassesOwn.never rfl (pi_list (pe_dget (hu_of hr) (pv 0) pe_str (fun _ _ => rfl))) (pg_name (i := 3) sc_moves.nd rfl (.inl rfl))
        (pss_one (ps_for PassesOwn.never rfl (pi_range1 (by rfl) T.b_range (pa_cons (pe_callB call_len_seq (by rfl) T.b_len PySem.boot_len (pa_cons (pe_dget (hu_of hr) (pv 0) pe_str (fun _ _ => rfl)) pa_nil)) pa_nil)) (pg_name (i := 4) sc_moves.nd rfl (.inl rfl))
        (pss_cons (ps_set (i := 5) sc_moves.nd rfl (.inl rfl) (pe_meth (pv 1) T.clS T.m_sWithMove G_sWithMove (hr.mono (by decide)) T.bd_sWithMove .nil pass0 (pa_cons (pv 3) (pa_cons (pv 4) pa_nil))))
      (pss_one (ps_if (PW.pt (pw_or (pt_not (pt_chain op_le op_le (pe_op op_sub (pv 2) pe_int) (pe_call G_passesNeeded (hr.mono (by decide)) (by rfl) T.g_passesNeeded T.passesNeeded.F.kp T.bd_passesNeeded .nil pass0 (pa_cons (pv 5) pa_nil)) (pe_op op_add (pv 2) pe_int))) (pw_or1 (pt_cmpR (op_neD hr.units) (pe_dget (hu_of hr) (pe_prop (pv 5) T.clS T.propN G_sNeeds (hr.mono (by decide)) T.bd_sNeeds .nil pass0 rfl) (pv 3) (fun _ _ => rfl)) (pe_dget (hu_of hr) (pe_prop (pv 1) T.clS T.propN G_sNeeds (hr.mono (by decide)) T.bd_sNeeds .nil pass0 rfl) (pv 3) (fun _ _ => rfl)) (nomark _)))))
        (pss_one (ps_ret pe_bl))
        pss_nil))))))
      (pss_one (ps_ret pe_bl))), ?_⟩
    refine ⟨_, rfl, p, _, rfl, pl_rows ep, a, rfl, ⟨_, SqL.of ea⟩, for_go rows.length (fun i σ' H' => ∃ (v3 v4 v5 : Option V), σ' = [some (.ref p), some (.ref s), some (.int (pp top : Nat)), v3, v4, v5] ∧ Same H H') ⟨none, none, none, rfl, Same.refl H⟩ ?_ ?_⟩
    · rintro j σ1 H1 hj ⟨v3, v4, v5, rfl, s1⟩
      refine ⟨⟨_, .str rows[j], SqL.of (s1 _ _ ea), by rw [List.getElem?_map, List.getElem?_eq_getElem hj]; rfl⟩, fun x H3 ⟨eH, fx⟩ => ?_⟩
      subst H3
      have ex := fx _ (SqL.of (s1 _ _ ea))
      rw [List.getElem?_map, List.getElem?_eq_getElem hj] at ex
      have ex : V.str rows[j] = x := Option.some.inj ex
      subst x
      have hr0 : rows[j] ∈ rows := List.getElem_mem hj
      generalize rows[j] = r at hr0
      have h7 := G.len
      refine ⟨_, rfl, p, _, rfl, pl_rows (s1 _ _ ep), a, _, rfl, .inl (SqL.of (s1 _ _ ea)), _, rfl, by rw [ST_len]; omega, by rw [ST_len]; omega, for_go rows.length (fun i σ' H' => ∃ (v4 v5 : Option V), σ' = [some (.ref p), some (.ref s), some (.int (pp top : Nat)), some (.str r), v4, v5] ∧ Same H H') ⟨_, _, rfl, s1⟩ ?_ ?_⟩
      · rintro i σ2 H2 hi ⟨w4, w5, rfl, s2⟩
        refine ⟨(by show i < ((ST rows).length : Int).toNat; rw [ST_len]; exact hi), fun x H3 ⟨eH, ex⟩ => ?_⟩
        subst H3
        subst ex
        have hz : (0 : Int) + (i : Nat) = ((i : Nat) : Int) := by omega
        rw [hz]
        obtain ⟨dx, n, ds, o, z, e1, e2, ⟨t, e3, f3⟩, e4⟩ := id hS
        have hS2 := hS.same s2
        refine ⟨_, rfl, s, dx, _, rfl, s2 _ _ e1, rfl, _, rfl, _, rfl, s, rows, _, r, i, rfl, hS2, G, hr0, hi, fun H3 ot s3 hO => ?_⟩
        have mp := moved_perm G.nodup hr0 i
        have hO2 : SheetAt T.CS H3 ot (moved rows r i) (fun r => srt (nd r)) := hO.congr fun x _ => srt_srt _
        have G2 := G.perm mp
        obtain ⟨rk2, D2⟩ := G2.dag
        obtain ⟨p2, I2⟩ := pass_ex D2
        have hne : moved rows r i ≠ [] := List.ne_nil_of_mem (mp.mem_iff.mpr hr0)
        refine ⟨_, rfl, _, _, rfl, rfl, _, rfl, ot, _, _, p2, rfl, hO2, G2, hne, I2, fun H4 top2 s4 ht2 hm2 => ?_⟩
        obtain ⟨b1, b2⟩ := move_tops G I I2 hr0 htop hmax ht2 hm2
        refine ⟨_, _, rfl, rfl, _, rfl, ?_⟩
        rw [decide_eq_true (by omega)]
        refine iteT ⟨_, rfl, _, _, rfl, rfl, _, _, rfl, rfl, _, rfl, ?_⟩
        rw [decide_eq_true (by omega)]
        refine iteF ?_
        obtain ⟨dx2, n2, d2, o2, z2, g1, g2, ⟨t2, g3, gf⟩, g4⟩ := hO2.same s4
        have hr2 : r ∈ moved rows r i := mp.mem_iff.mpr hr0
        have s24 := s2.trans (s3.trans s4)
        refine ⟨_, rfl, ot, dx2, _, rfl, g1, ot, dx2, _, d2, _, rfl, g1, lk_direct, g3, fun nn nnn => ?_⟩
        have s5 := same_upd (o := .dK ((moved rows r i).map fun r => (kS r, V.ref (t2 r)))) nnn
        have en : (upd H4 nn (.dK ((moved rows r i).map fun r => (kS r, V.ref (t2 r))))) nn = some (.dK ((moved rows r i).map fun r => (kS r, V.ref (t2 r)))) := upd_same
        generalize upd H4 nn (.dK ((moved rows r i).map fun r => (kS r, V.ref (t2 r)))) = H5 at s5 en
        have s25 := s24.trans s5
        refine ⟨_, rfl, nn, _, rfl, by rw [← valV_in_mapf (f := fun r => V.ref (t2 r)) hr2]; exact DGet.k (k := kS r) en, ?_⟩
        refine ⟨_, rfl, s, dx, _, rfl, s25 _ _ e1, s, dx, _, ds, _, rfl, s25 _ _ e1, lk_direct, s25 _ _ e3, fun n3 nn3 => ?_⟩
        have s6 := same_upd (o := .dK (rows.map fun r => (kS r, V.ref (t r)))) nn3
        have en3 : (upd H5 n3 (.dK (rows.map fun r => (kS r, V.ref (t r))))) n3 = some (.dK (rows.map fun r => (kS r, V.ref (t r)))) := upd_same
        generalize upd H5 n3 (.dK (rows.map fun r => (kS r, V.ref (t r)))) = H6 at s6 en3
        have s26 := s25.trans s6
        refine ⟨_, rfl, n3, _, rfl, by rw [← valV_in_mapf (f := fun r => V.ref (t r)) hr0]; exact DGet.k (k := kS r) en3, ?_⟩
        have hok : ∀ x ∈ srt (nd r), NameOk x := fun x hx => G.names x (let ⟨rk, D⟩ := G.dag; D.sub r hr0 x hx)
        refine ⟨_, _, .tup (SqT.of (s6 _ _ (s5 _ _ (gf r hr2)))) (dpAll_ST _), .tup (SqT.of (s26 _ _ (f3 r hr0))) (dpAll_ST _), shaped_tup hok, shaped_tup hok, _, rfl, ?_⟩
        rw [SeqAt.eqv_refl _ (SeqAt.canLay_of_shaped (shaped_tup hok))]
        exact iteF ⟨_, _, rfl, s26⟩
      · rintro σ2 H2 ⟨w4, w5, rfl, s2⟩
        exact ⟨(by show ((ST rows).length : Int).toNat ≤ rows.length; rw [ST_len]; exact Nat.le_refl _), _, _, _, rfl, s2⟩
    · rintro σ1 H1 ⟨v3, v4, v5, rfl, s1⟩
      exact ⟨⟨_, SqL.of (s1 _ _ ea), by rw [ST_len]; exact Nat.le_refl _⟩, k H1 s1⟩
end
end K19

set_option Elab.async false
set_option linter.all false
set_option maxRecDepth 100000
set_option maxHeartbeats 4000000
/-! The law's new needs. -/
namespace K19
open PySem PySem.Spec PyProof.Rows L2 StX ClX GenW RZ
theorem sc_needsr : FnScope ["_law_plan_here", "_law_page_here", "_law_below_here", "_law_laps", "_law_row", "_law_high", "_law_more"] ["_law_plan_here", "_law_page_here", "_law_below_here", "_law_laps"] (defScope sNeedsRight) := ⟨rfl, rfl, rfl, by decide +kernel, rfl, by decide +kernel, by decide +kernel⟩
def spNeedsR (CS : Addr) : Sp := fun vs H Q _ => ∃ (p s bq : Addr) (rows : List Str) (nd bf : Str → List Str) (pp : Str → Nat) (top : Str), vs = [.ref p, .ref s, .ref bq, .int (pp top : Nat)] ∧ PlanAt H p rows nd ∧ SheetAt CS H s rows (fun r => srt (nd r)) ∧ Good rows nd ∧ BelowAt H bq rows bf ∧ (∀ r ∈ rows, Closed rows nd r (bf r)) ∧ IsPass rows (fun r => srt (nd r)) pp ∧ top ∈ rows ∧ (∀ x ∈ rows, pp x ≤ pp top) ∧ ∀ H', Same H H' → Q (.bl true) H'
theorem more_good {rows : List Str} {f : Str → List Str} {bl : List Str} {hi lo : Str} (G : Good rows f) (C : Closed rows f lo bl) (hlo : lo ∈ rows) (hne : lo ≠ hi) (hb : hi ∉ bl) (hno : lo ∉ f hi) : Good rows (fun x => if x = hi then f hi ++ [lo] else f x) where
  names := G.names
  len := G.len
  dag := by
    obtain ⟨rk, D⟩ := G.dag
    refine dag_more D (S := fun x => x = lo ∨ x ∈ bl) (row := lo) (high := hi) hlo (.inl rfl) (fun h => h.elim (fun e => hne e.symm) hb) (fun x hx hs o ho => ?_) fun x o ho => ?_
    · rcases hs with h | h
      · rw [h] at ho; exact .inr (C.top o ho)
      · exact .inr (C.cl x h o ho)
    · by_cases e : x = hi
      · rw [if_pos e] at ho
        rcases List.mem_append.mp ho with h | h
        · exact .inl (e ▸ h)
        · exact .inr ⟨e, by simpa using h⟩
      · rw [if_neg e] at ho
        exact .inl ho
  ndn := fun r hr => by
    by_cases e : r = hi
    · rw [if_pos e]
      exact List.nodup_append.mpr ⟨by rw [← e]; exact G.ndn r hr, by simp, fun x hx y hy exy => hno (by
        have h1 : y = lo := by simpa using hy
        rw [← h1, ← exy]
        exact hx)⟩
    · rw [if_neg e]
      exact G.ndn r hr
/-- the need taken away again -/
theorem less_eq {f : Str → List Str} (hf : ∀ x, srt (f x) = f x) {hi lo : Str} (hno : lo ∉ f hi) (x : Str) :
    srt (if x = hi then (srt (if hi = hi then f hi ++ [lo] else f hi)).filter (fun y => decide (y ≠ lo)) else srt (if x = hi then f hi ++ [lo] else f x)) = f x := by
  by_cases e : x = hi
  · subst e
    rw [if_pos rfl, if_pos rfl]
    have h1 := (srt_perm (f x ++ [lo])).filter (fun y => decide (y ≠ lo))
    rw [srt_of_perm h1, List.filter_append]
    have h2 : (f x).filter (fun y => decide (y ≠ lo)) = f x := List.filter_eq_self.mpr fun y hy => decide_eq_true fun e => hno (e ▸ hy)
    have h3 : [lo].filter (fun y => decide (y ≠ lo)) = [] := by simp
    rw [h2, h3, List.append_nil, hf]
  · rw [if_neg e, if_neg e, srt_srt, hf]
section
variable {P : Program} {w : World} {K : PySem.W.Frag} {mg : Str → Option Value} {base : Heap}
theorem ok_needsr (T : Txt K mg) : FnOk P w K mg base CX0 9 T.needsRight.f T.needsRight.fd ["_law_plan_here", "_law_page_here", "_law_below_here", "_law_laps"] (spNeedsR T.CS) := by
  have G_passesNeeded : FnOk P w K mg base CX0 8 T.passesNeeded.f T.passesNeeded.fd ["sheet"] (spPasses T.CS) := ok_pneed T
  have G_sWithNeed : FnOk P w K mg base CX0 8 T.sWithNeed.f T.sWithNeed.fd ["self", "name", "other"] (spWithNeed T.CS) := ok_swneed T
  have G_sWithoutNeed : FnOk P w K mg base CX0 8 T.sWithoutNeed.f T.sWithoutNeed.fd ["self", "name", "other"] (spWithout T.CS) := ok_swout T
  have G_sEq : FnOk P w K mg base CX0 1 T.sEq.f T.sEq.fd ["self", "other"] (spEq T.CS) := ok_seq T
  refine T.needsRight.F.ok sc_needsr (fun vs H Q E h => ?_) (fun cdv A outer s H vs Q E hr h => ?_)
  · obtain ⟨p, s, bq, rows, nd, bf, pp, top, rfl, _⟩ := h
    rfl
  · obtain ⟨p, s, bq, rows, nd, bf, pp, top, rfl, ⟨a, d, ks, ep, ea, hN, pm⟩, hS, G0, hB, hC, I, htop, hmax, k⟩ := h
    refine ⟨_, (pss_cons (ps_for PassesOwn.never rfl (pi_list (pe_dget (hu_of hr) (pv 0) pe_str (fun _ _ => rfl))) (pg_name (i := 4) sc_needsr.nd rfl (.inl rfl))
        (pss_one (ps_for PassesOwn.never rfl (pi_list (pe_dget (hu_of hr) (pv 0) pe_str (fun _ _ => rfl))) (pg_name (i := 5) sc_needsr.nd rfl (.inl rfl))
        (pss_one (ps_if (PW.pt (pw_and (pt_cmpR op_ne (pv 4) (pv 5) (nomark _)) (pw_and (pt_cmpR op_notIn_seq (pv 5) (pe_dget (hu_of hr) (pv 2) (pv 4) (fun _ _ => rfl)) (by rfl)) (pw_and1 (pt_cmpR op_notIn_seq (pv 4) (pe_dget (hu_of hr) (pe_dget (hu_of hr) (pv 0) pe_str (fun _ _ => rfl)) (pv 5) (fun _ _ => rfl)) (by rfl))))))
        (pss_cons (ps_set (i := 6) sc_needsr.nd rfl (.inl rfl) (pe_meth (pv 1) T.clS T.m_sWithNeed G_sWithNeed (hr.mono (by decide)) T.bd_sWithNeed .nil pass0 (pa_cons (pv 5) (pa_cons (pv 4) pa_nil))))
      (pss_one (ps_if (PW.pt (pw_or (pt_cmpR op_lt (pe_call G_passesNeeded (hr.mono (by decide)) (by rfl) T.g_passesNeeded T.passesNeeded.F.kp T.bd_passesNeeded .nil pass0 (pa_cons (pv 6) pa_nil)) (pv 3) (nomark _)) (pw_or1 (pt_cmpR (op_ownNe T.neA T.eqA T.eqF T.mroS G_sEq (hr.mono (by decide)) T.bd_sEq pass0) (pe_meth (pv 6) T.clS T.m_sWithoutNeed G_sWithoutNeed (hr.mono (by decide)) T.bd_sWithoutNeed .nil pass0 (pa_cons (pv 5) (pa_cons (pv 4) pa_nil))) (pv 1) (nomark _)))))
        (pss_one (ps_ret pe_bl))
        pss_nil)))
        pss_nil)))))
      (pss_one (ps_ret pe_bl))), ?_⟩
    have G : Good rows (fun r => srt (nd r)) := G0.srt
    have hC2 : ∀ r ∈ rows, Closed rows (fun r => srt (nd r)) r (bf r) := fun r hr => ⟨(hC r hr).sub, fun x hx => (hC r hr).top x (mem_srt.mp hx), fun x hx y hy => (hC r hr).cl x hx y (mem_srt.mp hy)⟩
    obtain ⟨bt, eb, fb⟩ := hB
    have hff : ∀ x, srt ((fun r => srt (nd r)) x) = (fun r => srt (nd r)) x := fun x => srt_srt _
    have hmf : ∀ x y, y ∈ (fun r => srt (nd r)) x ↔ y ∈ nd x := fun x y => mem_srt
    generalize (fun r => srt (nd r)) = f at hS G hC2 I hff hmf
    obtain ⟨rk, D⟩ := G.dag
    refine ⟨_, rfl, p, _, rfl, pl_rows ep, a, rfl, ⟨_, SqL.of ea⟩, for_go rows.length (fun i σ' H' => ∃ (v3 v4 v5 : Option V), σ' = [some (.ref p), some (.ref s), some (.ref bq), some (.int (pp top : Nat)), v3, v4, v5] ∧ Same H H') ⟨none, none, none, rfl, Same.refl H⟩ ?_ ?_⟩
    · rintro j σ1 H1 hj ⟨v3, v4, v5, rfl, s1⟩
      refine ⟨⟨_, .str rows[j], SqL.of (s1 _ _ ea), by rw [List.getElem?_map, List.getElem?_eq_getElem hj]; rfl⟩, fun x H3 ⟨eH, fx⟩ => ?_⟩
      subst H3
      have ex := fx _ (SqL.of (s1 _ _ ea))
      rw [List.getElem?_map, List.getElem?_eq_getElem hj] at ex
      have ex : V.str rows[j] = x := Option.some.inj ex
      subst x
      have hlo : rows[j] ∈ rows := List.getElem_mem hj
      clear ex fx
      generalize rows[j] = lo at hlo
      have h7 := G.len
      refine ⟨_, rfl, p, _, rfl, pl_rows (s1 _ _ ep), a, rfl, ⟨_, SqL.of (s1 _ _ ea)⟩, for_go rows.length (fun i σ' H' => ∃ (v4 v5 : Option V), σ' = [some (.ref p), some (.ref s), some (.ref bq), some (.int (pp top : Nat)), some (.str lo), v4, v5] ∧ Same H H') ⟨_, _, rfl, s1⟩ ?_ ?_⟩
      · rintro i σ2 H2 hi' ⟨w4, w5, rfl, s2⟩
        refine ⟨⟨_, .str rows[i], SqL.of (s2 _ _ ea), by rw [List.getElem?_map, List.getElem?_eq_getElem hi']; rfl⟩, fun x H3 ⟨eH, fx⟩ => ?_⟩
        subst H3
        have ex := fx _ (SqL.of (s2 _ _ ea))
        rw [List.getElem?_map, List.getElem?_eq_getElem hi'] at ex
        have ex : V.str rows[i] = x := Option.some.inj ex
        subst x
        have hhi : rows[i] ∈ rows := List.getElem_mem hi'
        clear ex fx
        generalize rows[i] = hi at hhi
        refine ⟨_, rfl, _, rfl, rfl, _, rfl, ?_⟩
        by_cases c1 : lo = hi
        · rw [decide_eq_true (by rw [c1])]
          exact iteF (iteF ⟨_, _, rfl, s2⟩)
        rw [decide_eq_false (fun z => c1 (V.str.inj z))]
        refine iteT ⟨_, rfl, _, rfl, _, rfl, bq, _, rfl, by rw [← valV_in_mapf (f := fun r => V.ref (bt r)) hlo]; exact DGet.k (k := kS lo) (s2 _ _ eb), bt lo, _, rfl, .inl (SqL.of (s2 _ _ (fb lo hlo))), rfl, flat_ST _, _, rfl, ?_⟩
        rw [if_pos rfl, inV_ST]
        by_cases c2 : hi ∈ bf lo
        · rw [decide_eq_true c2]
          exact iteF (iteF ⟨_, _, rfl, s2⟩)
        rw [decide_eq_false c2]
        obtain ⟨tt, dg, ett⟩ := pl_need (hN.same s2) pm hhi
        refine iteT ⟨_, rfl, _, rfl, p, _, rfl, pl_needs (s2 _ _ ep), _, rfl, d, _, rfl, dg, tt, _, rfl, .inr (SqT.of ett), rfl, flat_ST _, _, rfl, ?_⟩
        rw [if_pos rfl, inV_ST]
        by_cases c3 : lo ∈ nd hi
        · rw [decide_eq_true c3]
          exact iteF ⟨_, _, rfl, s2⟩
        rw [decide_eq_false c3]
        have hno : lo ∉ f hi := fun h => c3 ((hmf _ _).mp h)
        have GM := more_good G (hC2 lo hlo) hlo c1 c2 hno
        obtain ⟨dx, n, ds, o, z, e1, e2, ⟨t, e3, f3⟩, e4⟩ := id hS
        have hS2 := hS.same s2
        refine iteT ⟨_, rfl, s, dx, _, rfl, s2 _ _ e1, rfl, _, rfl, _, rfl, s, rows, f, hi, lo, rfl, hS2, hhi, hlo, hno, G, GM, fun H3 ot s3 hO => ?_⟩
        have GS := GM.srt
        obtain ⟨rk2, D2⟩ := GS.dag
        obtain ⟨p2, I2⟩ := pass_ex D2
        have hne : rows ≠ [] := List.ne_nil_of_mem hlo
        refine ⟨_, rfl, ot, rows, _, p2, rfl, hO, GS, hne, I2, fun H4 top2 s4 ht2 hm2 => ?_⟩
        have hle := more_le D I I2 (fun r o ho => mem_srt.mpr (by
          by_cases e : r = hi
          · rw [if_pos e]; subst e; simp [ho]
          · rw [if_neg e]; exact ho)) top htop
        have hm3 := hm2 top htop
        refine ⟨_, rfl, _, _, rfl, rfl, _, rfl, ?_⟩
        rw [decide_eq_false (by omega)]
        refine iteF ?_
        have hO4 := hO.same s4
        obtain ⟨dx2, n2, d2, o2, z2, g1, _⟩ := id hO4
        have hlog : lo ∈ srt (if hi = hi then f hi ++ [lo] else f hi) := mem_srt.mpr (by rw [if_pos rfl]; simp)
        refine ⟨_, rfl, ot, dx2, _, rfl, g1, rfl, _, rfl, _, rfl, ot, rows, _, hi, lo, rfl, hO4, hhi, hlog, GS, fun H5 a5 s5 hW => ?_⟩
        have hW2 : SheetAt T.CS H5 a5 rows f := hW.congr fun x _ => less_eq hff hno x
        have hS5 := hS2.same (s3.trans (s4.trans s5))
        obtain ⟨dx5, n5, d5, o5, z5, k1, _⟩ := id hW2
        obtain ⟨dx6, n6, d6, o6, z6, k2, _⟩ := id hS5
        refine ⟨_, rfl, a5, s, dx5, dx6, _, _, rfl, rfl, k1, k2, a5, s, rows, f, rfl, hW2, hS5, G.names, fun r hr x hx => G.names x (D.sub r hr x hx), fun H6 s6 => ⟨true, rfl, _, rfl, ?_⟩⟩
        exact iteF ⟨_, _, rfl, s2.trans (s3.trans (s4.trans (s5.trans s6)))⟩
      · rintro σ2 H2 ⟨w4, w5, rfl, s2⟩
        exact ⟨⟨_, SqL.of (s2 _ _ ea), by rw [ST_len]; exact Nat.le_refl _⟩, _, _, _, rfl, s2⟩
    · rintro σ1 H1 ⟨v3, v4, v5, rfl, s1⟩
      exact ⟨⟨_, SqL.of (s1 _ _ ea), by rw [ST_len]; exact Nat.le_refl _⟩, k H1 s1⟩
end
end K19

set_option Elab.async false
set_option linter.all false
set_option maxRecDepth 100000
set_option maxHeartbeats 4000000
/-! Readings of the law's parts. -/
namespace K19
open PySem PySem.Spec PyProof.Rows L2 StX ClX GenW RZ
theorem merge_new {f : Str → V} : ∀ (post pre : List Str), (pre ++ post).Nodup → mergeK (pre.map fun r => (kS r, f r)) (post.map fun r => (kS r, f r)) = (pre ++ post).map fun r => (kS r, f r)
  | [], pre, _ => by rw [List.append_nil]; rfl
  | x :: post, pre, h => by
    have hx : x ∉ pre := fun hm => (List.nodup_append.mp h).2.2 x hm x (by simp) rfl
    show mergeK (putK (pre.map fun r => (kS r, f r)) (kS x) (f x)) (post.map fun r => (kS r, f r)) = _
    rw [putK_new_mapf hx]
    have e : pre ++ x :: post = (pre ++ [x]) ++ post := by rw [List.append_assoc]; rfl
    rw [e] at h ⊢
    exact merge_new post (pre ++ [x]) h
theorem paired_of {K : PySem.W.Frag} {H : Hp} {f : Str → V} : ∀ ps : List (Addr × Str), (∀ x ∈ ps, H x.1 = some (.tup [.str x.2, f x.2])) → Paired (fun q (kv : Key × V) => SqT K H q [kV kv.1, kv.2]) (ps.map (·.1)) ((ps.map (·.2)).map fun r => (kS r, f r))
  | [], _ => .nil
  | x :: ps, h => .cons (SqT.of (h x (by simp))) (paired_of ps fun y hy => h y (by simp [hy]))
theorem rd_places {K : PySem.W.Frag} {D : Ends} {H : Hp} {p a d : Addr} {rows : List Str} {v0 v1 v2 v4 v5 v6 v7 v8 v9 v10 v11 v12 v13 : Option V} (ep : H p = some (.dK (planD a d))) (ea : H a = some (.lst (ST rows))) (hn : rows.Nodup) (hl : rows.length ≤ 7)
    (h : ∀ H' q, Same H H' → H' q = some (.dK (idxD rows)) → D.nx [v0, v1, v2, some (.ref p), v4, v5, v6, v7, some (.ref q), v9, v10, v11, v12, v13] H') :
    tAsg (tCB (fun xs H Q => ∃ (a : Addr) (ps : List Addr) (kvs : List (Key × V)), xs = [.ref a] ∧ SqL K H a (ps.map V.ref) ∧ Paired (fun p kv => SqT K H p [kV kv.1, kv.2]) ps kvs ∧ ∀ p, H p = none → Q (.ref p) (upd H p (.dK (mergeK [] kvs))))
      (tCons (tLc (iEnum K (tCons (tDGet (tVar 3) (tC (.str "rows"))) tNil)) (gTup K 2 (gCons (gName 12) (gCons (gName 11) gNil))) tYes (tTup (tCons (tVar 11) (tCons (tVar 12) tNil))) [12, 11]) tNil)) (gName 8) D
      [v0, v1, v2, some (.ref p), v4, v5, v6, v7, v8, v9, v10, v11, v12, v13] H := by
  refine ⟨_, rfl, p, _, rfl, pl_rows ep, a, _, rfl, SqL.of ea, fun D0 nD => ?_⟩
  refine lc_genD rows.length (fun i l H' => SameX D0 H H' ∧ ∃ ps : List (Addr × Str), l = ps.map (fun x => V.ref x.1) ∧ ps.map (·.2) = rows.take i ∧ ∀ x ∈ ps, H' x.1 = some (.tup [.str x.2, .int (pos rows x.2 : Nat)]) ∧ x.1 ≠ D0)
      (fun i l H2 H3 ⟨k, ps, e, e2, f⟩ sx => ⟨k.trans sx, ps, e, e2, fun x hx => ⟨sx _ _ (f x hx).2 (f x hx).1, (f x hx).2⟩⟩) ⟨sx_of (Same.refl H), [], rfl, rfl, fun x hx => by simp at hx⟩ nD (fun i l H2 hi ⟨k, ps, e, e2, f⟩ => ?_) (fun i l H2 hi ⟨k, ps, e, e2, f⟩ eDl R1 R2 h1 h2 => ?_) fun l H2 ⟨k, ps, e, e2, f⟩ eD => ?_
  · have : ps.length = (rows.take i).length := by rw [← e2, List.length_map]
    rw [e, List.length_map, this]
    have := List.length_take_le' i rows
    exact small7 (by omega)
  · have ea2 := k _ _ (ne_of_none ea nD) ea
    refine ⟨enm_lst.go i H2 hi (SqL.of ea2), fun x H3 y => ?_⟩
    obtain ⟨T, ex, n, eH⟩ := enm_lst.yld i H2 x H3 (SqL.of ea2) y rows[i] (List.getElem?_eq_getElem hi)
    subst ex eH
    have sT := same_upd (o := .tup [.int (i : Nat), .str rows[i]]) n
    refine ⟨T, _, rfl, SqT.of upd_same, rfl, _, _, rfl, _, _, rfl, rfl, rfl, _, rfl, _, rfl, (by show 2 ≤ sizeLine; decide), fun t nt => ?_⟩
    have st := same_upd (o := .tup [.str rows[i], .int (i : Nat)]) nt
    have sall := sT.trans st
    refine h1 _ _ sall ⟨k.trans (sx_of sall), ps ++ [(t, rows[i])], ?_, ?_, fun x hx => ?_⟩
    · rw [e, List.map_append]; rfl
    · rw [List.map_append, e2, List.take_add_one, List.getElem?_eq_getElem hi]; rfl
    · rcases List.mem_append.mp hx with h | h
      · exact ⟨sall _ _ (f x h).1, (f x h).2⟩
      · have : x = (t, rows[i]) := by simpa using h
        subst this
        refine ⟨?_, (ne_of_none (sT _ _ eDl) nt).symm⟩
        rw [upd_same, pos_get hn hi]
  · have ea2 := k _ _ (ne_of_none ea nD) ea
    refine ⟨enm_lst.stop H2 (SqL.of ea2), ?_⟩
    rw [List.take_length] at e2
    have s2 : Same H H2 := fun z o e => k _ _ (ne_of_none e nD) e
    have el : l = (ps.map (·.1)).map V.ref := by rw [e, List.map_map]; rfl
    rw [el] at eD
    refine ⟨D0, _, _, rfl, SqL.of eD, paired_of (f := fun r => V.int (pos rows r : Nat)) ps fun x hx => (f x hx).1, fun q nq => h _ q (s2.trans (same_upd nq)) ?_⟩
    rw [upd_same, e2]
    exact congrArg (fun z => some (HO.dK z)) (merge_new rows [] hn)
def hasBack (rows : List Str) (nd : Str → List Str) (r : Str) : Bool := !decide ((nd r).filter (fun o => decide (pos rows r < pos rows o)) = [])
theorem rd_back {K : PySem.W.Frag} {D : Ends} {H : Hp} {p a d q : Addr} {rows ks : List Str} {nd : Str → List Str} {v0 v1 v2 v4 v5 v6 v7 v9 v10 v11 v12 v13 : Option V} (ep : H p = some (.dK (planD a d))) (ea : H a = some (.lst (ST rows))) (hN : NeedsAt H d ks nd) (pm : ks.Perm rows) (G : Good rows nd) (eq : H q = some (.dK (idxD rows)))
    (h : ∀ H' b, Same H H' → H' b = some (.lst (ST (rows.filter (hasBack rows nd)))) → D.nx [v0, v1, v2, some (.ref p), v4, v5, v6, v7, some (.ref q), some (.ref b), v10, v11, v12, v13] H') :
    tAsg (tLc (iList K (tDGet (tVar 3) (tC (.str "rows")))) (gName 11)
      (tTest (tOp (rNeD K) (tLc (iTup K (tDGet (tDGet (tVar 3) (tC (.str "needs"))) (tVar 11))) (gName 13) (tTest (tOp (rI0 fun i j => .bl (decide (j < i))) (tDGet (tVar 8) (tVar 13)) (tDGet (tVar 8) (tVar 11)))) (tVar 13) [13]) (tLst tNil))) (tVar 11) [11]) (gName 9) D
      [v0, v1, v2, some (.ref p), v4, v5, v6, v7, some (.ref q), v9, v10, v11, v12, v13] H := by
  obtain ⟨rk, D1⟩ := G.dag
  have h7 := G.len
  refine ⟨_, rfl, p, _, rfl, pl_rows ep, a, rfl, ⟨_, SqL.of ea⟩, fun D0 nD => lc_map (it := V.str) (ys := rows) (hasBack rows nd) V.str (wlk_lst (SqL.of ea) nD) nD (by omega) (fun _ => rfl) (fun r H' hr sx Qc hq => ?_) (fun x H' hx sx Qv hq => ⟨_, rfl, hq _ (Same.refl _)⟩) fun H1 sx eS => ?_⟩
  · have s0 : Same H H' := fun z o e => sx _ _ (ne_of_none e nD) e
    obtain ⟨tt, dg, ett⟩ := pl_need (hN.same s0) pm hr
    refine ⟨_, rfl, p, _, rfl, pl_needs (s0 _ _ ep), _, rfl, d, _, rfl, dg, tt, rfl, ⟨_, SqT.of ett⟩, fun D2 nD2 => lc_map (it := V.str) (ys := nd r) (fun o => decide (pos rows r < pos rows o)) V.str (wlk_tup (SqT.of ett) nD2) nD2 (by have := G.nlen hr; omega) (fun _ => rfl) (fun o H2 ho sx2 Qc2 hq2 => ?_) (fun x H' hx sx Qv hq => ⟨_, rfl, hq _ (Same.refl _)⟩) fun H2 sx2 eS2 => ?_⟩
    · have s02 : Same H H2 := fun z o e => sx2 _ _ (ne_of_none (s0 _ _ e) nD2) (s0 _ _ e)
      have hor := D1.sub r hr o ho
      refine ⟨_, rfl, _, rfl, q, _, rfl, idx_get (s02 _ _ eq) hor, _, rfl, _, rfl, q, _, rfl, idx_get (s02 _ _ eq) hr, _, _, rfl, rfl, _, rfl, ?_⟩
      have : decide (((pos rows r : Nat) : Int) < ((pos rows o : Nat) : Int)) = decide (pos rows r < pos rows o) := decide_eq_decide.mpr (by omega)
      rw [this]
      exact hq2 _ (Same.refl _)
    · have s2 : Same H' H2 := fun z o e => sx2 _ _ (ne_of_none e nD2) e
      replace eS2 : H2 D2 = some (.lst (ST ((nd r).filter fun o => decide (pos rows r < pos rows o)))) := eS2
      refine ⟨Nat.zero_le _, fun e ne => ?_⟩
      have s3 := same_upd (o := .lst []) ne
      refine ⟨_, _, .lst (SqL.of (s3 _ _ eS2)) (dpAll_ST _), .lst (SqL.of upd_same) .nil, shaped_lst fun z hz => G.names _ (D1.sub r hr z (List.mem_filter.mp hz).1), rfl, _, rfl, ?_⟩
      rw [eqv_nil_l]
      exact hq _ (s2.trans s3)
  · exact h H1 D0 (fun z o e => sx _ _ (ne_of_none e nD) e) eS
theorem hasBack_nil {rows : List Str} {nd f : Str → List Str} {rk p : Str → Nat} {top : Str} (D : Dag rows f rk) (I : IsPass rows f p) (hm : ∀ x y, y ∈ f x ↔ y ∈ nd x) (ht : top ∈ rows) (hx : ∀ x ∈ rows, p x ≤ p top) : (rows.filter (hasBack rows nd) = []) ↔ p top = 1 := by
  have h1 := one_pass D I
  have h2 : p top = 1 ↔ ∀ r ∈ rows, p r ≤ 1 := ⟨fun e r hr => by have := hx r hr; omega, fun h => by have := h top ht; have := I.one top ht; omega⟩
  rw [h2, h1, List.filter_eq_nil_iff]
  refine ⟨fun h r hr o ho hlt => h r hr ?_, fun h r hr hb => ?_⟩
  · unfold hasBack
    rw [decide_eq_false fun e => ?_]
    · rfl
    · have : o ∈ (nd r).filter (fun o => decide (pos rows r < pos rows o)) := List.mem_filter.mpr ⟨(hm _ _).mp ho, decide_eq_true hlt⟩
      rw [e] at this
      simp at this
  · unfold hasBack at hb
    by_cases e : (nd r).filter (fun o => decide (pos rows r < pos rows o)) = []
    · rw [decide_eq_true e] at hb
      simp at hb
    · obtain ⟨o, ho⟩ := List.exists_mem_of_ne_nil _ e
      obtain ⟨ho1, ho2⟩ := List.mem_filter.mp ho
      exact h r hr o ((hm _ _).mpr ho1) (of_decide_eq_true ho2)
theorem isCh_congr {f g : Str → List Str} (hm : ∀ x y, y ∈ f x ↔ y ∈ g x) : ∀ c : List Str, isCh f c ↔ isCh g c
  | [] => Iff.rfl
  | [_] => Iff.rfl
  | a :: b :: c => by
    show (a ∈ f b ∧ isCh f (b :: c)) ↔ (a ∈ g b ∧ isCh g (b :: c))
    rw [hm, isCh_congr hm (b :: c)]
/-- the three checks of what check_slow tells -/
theorem rd_told {K : PySem.W.Frag} {CS : Addr} {D : Ends} {H : Hp} {s cq tq : Addr} {rows : List Str} {nd f : Str → List Str} {pp : Str → Nat} {top : Str} {ps : List (Addr × List Str)} {v0 v1 v2 v3 v8 v9 v10 v11 v12 v13 : Option V}
    (hSh : SheetAt CS H s rows f) (GS : Good rows f) (I : IsPass rows f pp) (hm : ∀ x y, y ∈ f x ↔ y ∈ nd x) (ht : top ∈ rows) (hx : ∀ x ∈ rows, pp x ≤ pp top) (ec : H cq = some (.lst (ps.map fun x => V.ref x.1))) (CH : Chains rows nd (ps.map (·.2))) (et : H tq = some (.lst ((ps.map fun x => ((1 + backs rows x.2 : Nat) : Int)).map V.int)))
    (h : ∀ H', Same H H' → D.nx [v0, v1, v2, v3, some (.ref s), some (.int (pp top : Nat)), some (.ref cq), some (.ref tq), v8, v9, v10, v11, v12, v13] H') :
    tIfS (tOr (tTest (tOp (rI0 fun i j => .bl (decide (j < i))) (tCB (rMax K) (tCons (tVar 7) tNil)) (tVar 5)))
      (tOr (tAnd (tTest (tOp (rI0 fun i j => .bl (decide (i < j))) (tCB (rLenSeq K) (tCons (tVar 6) tNil)) (tC (.int 2000)))) (tTest (tOp rNe (tCB (rMax K) (tCons (tVar 7) tNil)) (tVar 5))))
        (tTest (tOp rNe (tCall (spCheck CS) [] E0 (tCons (tVar 4) (tCons (tCall (spSlow CS) [] E0 (tCons (tVar 4) tNil)) tNil))) (tVar 5))))) (tRet (tC (.bl false))) tNext D
      [v0, v1, v2, v3, some (.ref s), some (.int (pp top : Nat)), some (.ref cq), some (.ref tq), v8, v9, v10, v11, v12, v13] H := by
  obtain ⟨rk, D1⟩ := GS.dag
  have hne : rows ≠ [] := List.ne_nil_of_mem ht
  have hps : 0 < (ps.map fun x => ((1 + backs rows x.2 : Nat) : Int)).length := by
    obtain ⟨x, hxm, _⟩ := List.mem_map.mp (CH.one top ht)
    rw [List.length_map]
    exact List.length_pos_of_mem hxm
  have hle : ∀ y ∈ ps.map (fun x => ((1 + backs rows x.2 : Nat) : Int)), y ≤ ((pp top : Nat) : Int) := fun y hy => by
    obtain ⟨x, hxm, rfl⟩ := List.mem_map.mp hy
    obtain ⟨c1, c2, c3⟩ := CH.ok x.2 (List.mem_map.mpr ⟨x, hxm, rfl⟩)
    have hgl := List.getLast?_eq_some_getLast c2
    have h1 := ch_top I hgl ((isCh_congr hm _).mpr c1) c3
    have h2 := hx _ (c3 _ (List.getLast_mem c2))
    omega
  have hmax : ps.length < 2000 → ∀ m ∈ ps.map (fun x => ((1 + backs rows x.2 : Nat) : Int)), (∀ y ∈ ps.map (fun x => ((1 + backs rows x.2 : Nat) : Int)), y ≤ m) → m = ((pp top : Nat) : Int) := fun hlt m hm1 hm2 => by
    obtain ⟨c, c1, c2, c3, c4, c5⟩ := ch_ex D1 I (F := fun c => c ∈ ps.map (·.2)) (fun r hr => CH.one r hr) (fun c y r hc hy hr hyr => CH.all (by rw [List.length_map]; exact hlt) c hc y r hy hr ((hm _ _).mp hyr)) _ top rfl ht
    obtain ⟨x, hxm, rfl⟩ := List.mem_map.mp c1
    have h1 := hm2 _ (List.mem_map.mpr ⟨x, hxm, rfl⟩)
    have h2 := hle m hm1
    omega
  have t3 : ∀ Q : Bool → Hp → Prop, (∀ H', Same H H' → Q false H') → tTest (tOp rNe (tCall (spCheck CS) [] E0 (tCons (tVar 4) (tCons (tCall (spSlow CS) [] E0 (tCons (tVar 4) tNil)) tNil))) (tVar 5)) [v0, v1, v2, v3, some (.ref s), some (.int (pp top : Nat)), some (.ref cq), some (.ref tq), v8, v9, v10, v11, v12, v13] H Q := fun Q hq => by
    refine ⟨_, rfl, _, rfl, s, rows, f, pp, rfl, hSh, GS, hne, I, fun H7 t ch r s7 et7 hch hsub hcn hr hmr he => ⟨s, t, rows, f, ch, rfl, hSh.same s7, GS, et7, hch, hsub, hcn, ?_, fun H8 s8 => ⟨_, rfl, rfl, _, rfl, ?_⟩⟩⟩
    · have := nodup_len _ _ (ch_nodup D1 _ hch hsub) hsub
      have := GS.len
      omega
    · have e1 : pp r = pp top := Nat.le_antisymm (hx r hr) (hmr top ht)
      have e2 : V.int ((1 + backs rows ch : Nat) : Int) = V.int ((pp top : Nat) : Int) := by rw [he, e1]
      rw [decide_eq_true e2]
      exact hq _ (s7.trans s8)
  refine ⟨_, rfl, tq, _, rfl, SqL.of et, hps, fun m1 hm1 hx1 => ⟨_, rfl, _, _, rfl, rfl, _, rfl, ?_⟩⟩
  have := hle m1 hm1
  rw [decide_eq_false (by omega)]
  refine iteF ⟨_, rfl, cq, _, rfl, .inl (SqL.of ec), _, _, rfl, rfl, _, rfl, ?_⟩
  rw [List.length_map]
  by_cases hL : ps.length < 2000
  · rw [decide_eq_true (by omega)]
    refine iteT ⟨_, rfl, tq, _, rfl, SqL.of et, hps, fun m2 hm2 hx2 => ⟨_, rfl, rfl, _, rfl, ?_⟩⟩
    have e := hmax hL m2 hm2 hx2
    rw [decide_eq_true (by rw [e])]
    exact iteF (t3 _ fun H' s' => iteF (h H' s'))
  · rw [decide_eq_false (by omega)]
    exact iteF (iteF (t3 _ fun H' s' => iteF (h H' s')))
end K19

set_option Elab.async false
set_option linter.all false
set_option maxRecDepth 100000
set_option maxHeartbeats 4000000
/-! The law. -/
namespace K19
open PySem PySem.Spec PyProof.Rows L2 StX ClX GenW RZ
theorem sc_law : FnScope ["_law_script", "_law_pen_here", "_law_turn", "_law_plan_here", "_law_page_here", "_law_laps", "_law_chains_here", "_law_told", "_law_places", "_law_back_here", "_law_chain", "_law_row", "_law_k", "_law_one"] ["_law_script"] (defScope sLaw) := ⟨rfl, rfl, rfl, by decide +kernel, rfl, by decide +kernel, by decide +kernel⟩
def spLaw (K : PySem.W.Frag) : Sp := fun vs H Q _ => ∃ (a : Addr) (ns : List Int), vs = [.ref a] ∧ SqL K H a (ns.map V.int) ∧ ns.length ≤ 63 ∧ ∀ H', Q (.bl true) H'
section
variable {P : Program} {w : World} {K : PySem.W.Frag} {mg : Str → Option Value} {base : Heap}
theorem ok_law (T : Txt K mg) {f : Addr} {fd : FuncData} (F : Fun K "law" "law" sLaw f fd) : FnOk P w K mg base CX0 10 f fd ["_law_script"] (spLaw K) := by
  have G_pen : FnOk P w K mg base CX0 1 T.pen.f T.pen.fd ["_law_script"] (spPen K) := ok_pen T
  have G_draw : FnOk P w K mg base CX0 1 T.draw.f T.draw.fd ["_law_pen_here", "_law_limit"] spDraw := ok_draw T
  have G_plan : FnOk P w K mg base CX0 3 T.plan.f T.plan.fd ["_law_pen_here", "_law_many"] spPlan := ok_plan T
  have G_page : FnOk P w K mg base CX0 8 T.page.f T.page.fd ["_law_plan_here"] (spPage T.CS) := ok_page T
  have G_passesNeeded : FnOk P w K mg base CX0 8 T.passesNeeded.f T.passesNeeded.fd ["sheet"] (spPasses T.CS) := ok_pneed T
  have G_chains : FnOk P w K mg base CX0 1 T.chains.f T.chains.fd ["_law_plan_here"] spChains := ok_chains T
  have G_checkSlow : FnOk P w K mg base CX0 6 T.checkSlow.f T.checkSlow.fd ["sheet", "thing"] (spCheck T.CS) := ok_check T
  have G_slowChain : FnOk P w K mg base CX0 8 T.slowChain.f T.slowChain.fd ["sheet"] (spSlow T.CS) := ok_slow T
  have G_movesRight : FnOk P w K mg base CX0 9 T.movesRight.f T.movesRight.fd ["_law_plan_here", "_law_page_here", "_law_laps"] (spMoves T.CS) := ok_moves T
  have G_needsRight : FnOk P w K mg base CX0 9 T.needsRight.f T.needsRight.fd ["_law_plan_here", "_law_page_here", "_law_below_here", "_law_laps"] (spNeedsR T.CS) := ok_needsr T
  have G_below : FnOk P w K mg base CX0 1 T.below.f T.below.fd ["_law_plan_here"] spBelow := ok_below T
  refine F.ok sc_law (fun vs H Q E h => ?_) (fun cdv A outer s H vs Q E hr h => ?_)
  · obtain ⟨a, ns, rfl, _⟩ := h
    rfl
  · obtain ⟨a, ns, rfl, hS, hl, k⟩ := h
    refine ⟨_, (pss_cons (ps_set (i := 1) sc_law.nd rfl (.inl rfl) (pe_call G_pen (hr.mono (by decide)) (by rfl) T.g_pen T.pen.F.kp T.bd_pen .nil pass0 (pa_cons (pv 0) pa_nil)))
      (pss_cons (ps_for PassesOwn.never rfl (pi_range1 (by rfl) T.b_range (pa_cons pe_int pa_nil)) (pg_name (i := 2) sc_law.nd rfl (.inl rfl))
        (pss_cons (ps_set (i := 3) sc_law.nd rfl (.inr rfl) (pe_call G_plan (hr.mono (by decide)) (by rfl) T.g_plan T.plan.F.kp T.bd_plan .nil pass0 (pa_cons (pv 1) (pa_cons (pe_op op_add pe_int (pe_call G_draw (hr.mono (by decide)) (by rfl) T.g_draw T.draw.F.kp T.bd_draw .nil pass0 (pa_cons (pv 1) (pa_cons pe_int pa_nil)))) pa_nil))))
      (pss_cons (ps_set (i := 4) sc_law.nd rfl (.inr rfl) (pe_call G_page (hr.mono (by decide)) (by rfl) T.g_page T.page.F.kp T.bd_page .nil pass0 (pa_cons (pv 3) pa_nil)))
      (pss_cons (ps_set (i := 5) sc_law.nd rfl (.inl rfl) (pe_call G_passesNeeded (hr.mono (by decide)) (by rfl) T.g_passesNeeded T.passesNeeded.F.kp T.bd_passesNeeded .nil pass0 (pa_cons (pv 4) pa_nil)))
      (pss_cons (ps_set (i := 6) sc_law.nd rfl (.inl rfl) (pe_call G_chains (hr.mono (by decide)) (by rfl) T.g_chains T.chains.F.kp T.bd_chains .nil pass0 (pa_cons (pv 3) pa_nil)))
      (pss_cons (ps_setLc (i := 7) (own := [("_law_chain", 10)]) (g := (gName 10)) (by rfl) sc_law.nd rfl rfl (sw_true rfl rfl rfl (by decide +kernel)) (pi_list (pv 6)) (blkOk_by (own := [("_law_chain", 10)]) (N := ["_law_script", "_law_pen_here", "_law_turn", "_law_plan_here", "_law_page_here", "_law_laps", "_law_chains_here", "_law_told", "_law_places", "_law_back_here", "_law_chain", "_law_row", "_law_k", "_law_one"]) (sc := defScope sLaw) (by decide +kernel)) (fun _ _ _ _ _ => (pg_name (i := 10) sc_law.nd rfl (.inl rfl))) (fun _ _ _ _ _ => pts_nil) (fun _ _ _ _ _ => (pe_call G_checkSlow (hr.mono (by decide)) (by rfl) T.g_checkSlow T.checkSlow.F.kp T.bd_checkSlow .nil pass0 (pa_cons (pv 4) (pa_cons (pv 10) pa_nil)))))
      (pss_cons (ps_if (PW.pt (pw_or (pt_cmpR op_gt (pe_callB (cr_max rfl) (by rfl) T.b_max bb_max (pa_cons (pv 7) pa_nil)) (pv 5) (nomark _)) (pw_or (PW.pt (pw_and (pt_cmpR op_lt (pe_callB call_len_seq (by rfl) T.b_len PySem.boot_len (pa_cons (pv 6) pa_nil)) pe_int (nomark _)) (pw_and1 (pt_cmpR op_ne (pe_callB (cr_max rfl) (by rfl) T.b_max bb_max (pa_cons (pv 7) pa_nil)) (pv 5) (nomark _))))) (pw_or1 (pt_cmpR op_ne (pe_call G_checkSlow (hr.mono (by decide)) (by rfl) T.g_checkSlow T.checkSlow.F.kp T.bd_checkSlow .nil pass0 (pa_cons (pv 4) (pa_cons (pe_call G_slowChain (hr.mono (by decide)) (by rfl) T.g_slowChain T.slowChain.F.kp T.bd_slowChain .nil pass0 (pa_cons (pv 4) pa_nil)) pa_nil))) (pv 5) (nomark _))))))
        (pss_one (ps_ret pe_bl))
        pss_nil)
      (pss_cons (ps_set (i := 8) sc_law.nd rfl (.inr rfl) (pe_callTy (call_dictP rfl) (by rfl) T.b_dict bb_dict (pa_cons (pe_lc (own := [("_law_k", 12), ("_law_row", 11)]) (g := (gTup K 2 (gCons (gName 12) (gCons (gName 11) gNil)))) (by rfl) sc_law.nd (pi_enum (by rfl) T.b_enumerate (pa_cons (pe_dget (hu_of hr) (pv 3) pe_str (fun _ _ => rfl)) pa_nil)) (blkOk_by (own := [("_law_k", 12), ("_law_row", 11)]) (N := ["_law_script", "_law_pen_here", "_law_turn", "_law_plan_here", "_law_page_here", "_law_laps", "_law_chains_here", "_law_told", "_law_places", "_law_back_here", "_law_chain", "_law_row", "_law_k", "_law_one"]) (sc := defScope sLaw) (by decide +kernel)) (fun _ _ _ _ _ => (pg_tup rfl (pgs_cons (pg_name (i := 12) sc_law.nd rfl (.inl rfl)) (pgs_cons (pg_name (i := 11) sc_law.nd rfl (.inl rfl)) pgs_nil)))) (fun _ _ _ _ _ => pts_nil) (fun _ _ _ _ _ => (pe_tup (pa_cons (pv 11) (pa_cons (pv 12) pa_nil))))) pa_nil)))
      (pss_cons (ps_setLc (i := 9) (own := [("_law_row", 11)]) (g := (gName 11)) (by rfl) sc_law.nd rfl rfl (sw_true rfl rfl rfl (by decide +kernel)) (pi_list (pe_dget (hu_of hr) (pv 3) pe_str (fun _ _ => rfl))) (blkOk_by (own := [("_law_row", 11)]) (N := ["_law_script", "_law_pen_here", "_law_turn", "_law_plan_here", "_law_page_here", "_law_laps", "_law_chains_here", "_law_told", "_law_places", "_law_back_here", "_law_chain", "_law_row", "_law_k", "_law_one"]) (sc := defScope sLaw) (by decide +kernel)) (fun _ _ _ _ _ => (pg_name (i := 11) sc_law.nd rfl (.inr rfl))) (fun _ _ _ _ _ => (pts_one (pt_cmpR (show OpR _ _ (rNeD K) from (op_neD hr.units)) (pe_lc (wi := iTup K (tDGet (tDGet (tVar 3) (tC (.str "needs"))) (tVar 11))) (own := [("_law_one", 13)]) (g := (gName 13)) (by rfl) sc_law.nd (pi_tup (pe_dget (hu_of hr) (pe_dget (hu_of hr) (pv 3) pe_str (fun _ _ => rfl)) (pv 11) (fun _ _ => rfl))) (blkOk_by (own := [("_law_one", 13)]) (N := ["_law_script", "_law_pen_here", "_law_turn", "_law_plan_here", "_law_page_here", "_law_laps", "_law_chains_here", "_law_told", "_law_places", "_law_back_here", "_law_chain", "_law_row", "_law_k", "_law_one"]) (by kernel_rfl)) (fun _ _ _ _ _ => (pg_name (i := 13) sc_law.nd rfl (.inl rfl))) (fun _ _ _ _ _ => (pts_one (pt_cmpR op_gt (pe_dget (hu_of hr) (pv 8) (pv 13) (fun _ _ => rfl)) (pe_dget (hu_of hr) (pv 8) (pv 11) (fun _ _ => rfl)) (nomark _)))) (fun _ _ _ _ _ => (pv 13))) (pe_lst pa_nil) (nomark _)))) (fun _ _ _ _ _ => (pv 11)))
      (pss_cons (ps_if (PW.pt (pw_or (pt_cmpR op_ne (pe_cmpR op_eq (pv 5) pe_int (nomark _)) (pe_cmpR (op_eqD hr.units) (pv 9) (pe_lst pa_nil) (nomark _)) (nomark _)) (pw_or1 (pt_not (pt_val (pe_call G_movesRight (hr.mono (by decide)) (by rfl) T.g_movesRight T.movesRight.F.kp T.bd_movesRight .nil pass0 (pa_cons (pv 3) (pa_cons (pv 4) (pa_cons (pv 5) pa_nil)))))))))
        (pss_one (ps_ret pe_bl))
        pss_nil)
      (pss_one (ps_if (pt_not (pt_val (pe_call G_needsRight (hr.mono (by decide)) (by rfl) T.g_needsRight T.needsRight.F.kp T.bd_needsRight .nil pass0 (pa_cons (pv 3) (pa_cons (pv 4) (pa_cons (pe_call G_below (hr.mono (by decide)) (by rfl) T.g_below T.below.F.kp T.bd_below .nil pass0 (pa_cons (pv 3) pa_nil)) (pa_cons (pv 5) pa_nil)))))))
        (pss_one (ps_ret pe_bl))
        pss_nil))))))))))))
      (pss_one (ps_ret pe_bl)))), ?_⟩
    refine ⟨_, rfl, a, ns, rfl, hS, hl, fun H0 q cn s0 nq hP0 => ?_⟩
    refine ⟨2, rfl, by decide, by decide, for_go 2 (fun i σ' H' => ∃ v2 v3 v4 v5 v6 v7 v8 v9 v10 v11 v12 v13 : Option V, σ' = [some (.ref a), some (.ref q), v2, v3, v4, v5, v6, v7, v8, v9, v10, v11, v12, v13] ∧ PenB cn H' q (300 * i)) ⟨_, _, _, _, _, _, _, _, _, _, _, _, rfl, hP0⟩ ?_ ?_⟩
    · rintro i σ1 H1' hi ⟨v2, v3, v4, v5, v6, v7, v8, v9, v10, v11, v12, v13, rfl, hP⟩
      refine ⟨hi, fun x H3 ⟨eH, ex⟩ => ?_⟩
      subst H3
      subst ex
      refine ⟨_, rfl, _, rfl, q, 7, 300 * i, cn, rfl, hP, by omega, by decide, by decide, fun H1 d s1 p1 hd => ⟨_, _, rfl, rfl, q, 1 + d, 300 * i + 1, cn, by rw [Int.natCast_add]; rfl, p1, by omega, by omega, by omega, fun H2 p rows nd s2 p2 hPl G hlen => ?_⟩⟩
      refine ⟨_, rfl, p, rows, nd, rfl, hPl, G, fun H3 s s3 hSh => ?_⟩
      have GS : Good rows (fun r => srt (nd r)) := G.srt
      have hmf : ∀ x y, y ∈ (fun r => srt (nd r)) x ↔ y ∈ nd x := fun x y => mem_srt
      obtain ⟨rk, D1⟩ := GS.dag
      obtain ⟨pp, I⟩ := pass_ex D1
      have hne : rows ≠ [] := fun e => by rw [e] at hlen; simp at hlen; omega
      refine ⟨_, rfl, s, rows, _, pp, rfl, hSh, GS, hne, I, fun H4 top s4 htop hmax => ?_⟩
      refine ⟨_, rfl, p, rows, nd, rfl, hPl.same (s3.trans s4), G, fun H5 cq L s5 hCh CH => ?_⟩
      obtain ⟨ps, ecq, tps, rfl⟩ := hCh
      have s25 : Same H2 H5 := s3.trans (s4.trans s5)
      have hSh5 := hSh.same (s4.trans s5)
      have hpl : ps.length ≤ 2007 := by have := CH.len; rw [List.length_map] at this; exact this
      refine ⟨_, rfl, cq, rfl, ⟨_, SqL.of ecq⟩, fun D nD => lc_map (it := fun x : Addr × List Str => V.ref x.1) (ys := ps) (fun _ => true) (fun x => V.int ((1 + backs rows x.2 : Nat) : Int)) (wlk_lst (SqL.of ecq) nD) nD (by omega) (fun _ => rfl) (fun x H' hx sx Qc hq => hq _ (Same.refl _)) (fun x H' hx sx Qv hq => ?_) fun H6 sx eT => ?_⟩
      · have s0' : Same H5 H' := fun z o e => sx _ _ (ne_of_none e nD) e
        obtain ⟨c1, c2, c3⟩ := CH.ok x.2 (List.mem_map.mpr ⟨x, hx, rfl⟩)
        have c1' := (isCh_congr hmf _).mpr c1
        refine ⟨_, rfl, _, rfl, s, x.1, rows, _, x.2, rfl, hSh5.same s0', GS, s0' _ _ (tps x hx), c1', c3, c2, ?_, fun H3 s => hq _ s⟩
        have := nodup_len _ _ (ch_nodup D1 _ c1' c3) c3
        have := GS.len
        omega
      · have s6 : Same H5 H6 := fun z o e => sx _ _ (ne_of_none e nD) e
        rw [filt_true] at eT
        have eT2 : H6 D = some (.lst ((ps.map fun x => ((1 + backs rows x.2 : Nat) : Int)).map V.int)) := by
          rw [eT, List.map_map]
          rfl
        refine rd_told (hSh5.same s6) GS I hmf htop hmax (s6 _ _ ecq) CH eT2 fun H7 s7 => ?_
        have s27 := s25.trans (s6.trans s7)
        have hSh7 := hSh5.same (s6.trans s7)
        have hPl7 := hPl.same s27
        obtain ⟨la, ld, ks, ep, ea, hN, pm⟩ := id hPl7
        refine rd_places ep ea G.nodup G.len fun H8 pq s8 epq => ?_
        refine rd_back (s8 _ _ ep) (s8 _ _ ea) (hN.same s8) pm G epq fun H9 bb s9 ebb => ?_
        have s29 := s27.trans (s8.trans s9)
        have hSh9 := hSh7.same (s8.trans s9)
        have hb := hasBack_nil D1 I hmf htop hmax
        refine ⟨_, rfl, rfl, _, rfl, Nat.zero_le _, fun e ne => ?_⟩
        have se := same_upd (o := .lst []) ne
        refine ⟨_, _, .lst (SqL.of (se _ _ ebb)) (dpAll_ST _), .lst (SqL.of upd_same) .nil, shaped_lst fun z hz => G.names _ (List.mem_filter.mp hz).1, rfl, rfl, _, rfl, ?_⟩
        rw [eqv_nil_l]
        have s2e := s29.trans se
        have hShe := hSh9.same se
        generalize upd H9 e (.lst []) = HA at s2e hShe
        have eb : decide (V.int ((pp top : Nat) : Int) = V.int 1) = decide (rows.filter (hasBack rows nd) = []) := decide_eq_decide.mpr ⟨fun h => hb.mpr (by have := V.int.inj h; omega), fun h => by rw [hb.mp h]; rfl⟩
        rw [decide_eq_true (congrArg V.bl eb)]
        refine iteF ⟨_, rfl, _, rfl, _, rfl, p, s, rows, nd, pp, top, rfl, hPl.same s2e, hShe, GS, I, htop, hmax, fun HB sB => ⟨true, rfl, iteF ?_⟩⟩
        refine ⟨_, rfl, _, rfl, _, rfl, p, rows, nd, rfl, hPl.same (s2e.trans sB), G, fun HC bq bf sC hB hC => ⟨_, rfl, p, s, bq, rows, nd, bf, pp, top, rfl, hPl.same (s2e.trans (sB.trans sC)), hShe.same (sB.trans sC), G, hB, hC, I, htop, hmax, fun HD sD => ⟨true, rfl, iteF ?_⟩⟩⟩
        exact ⟨_, _, _, _, _, _, _, _, _, _, _, _, rfl, (p2.same (s2e.trans (sB.trans (sC.trans sD)))).mono (by omega)⟩
    · rintro σ1 H1 ⟨v2, v3, v4, v5, v6, v7, v8, v9, v10, v11, v12, v13, rfl, hP⟩
      exact ⟨(Nat.le_refl 2), k H1⟩
end
end K19

set_option Elab.async false
set_option linter.all false
set_option maxRecDepth 100000
set_option maxHeartbeats 4000000
/-! The record of the top, out of the head's facts (printed by endgen.py). -/
namespace K19
open PySem PySem.Spec PyProof.Rows L2 StX ClX
theorem rA_ok {K : PySem.W.Frag} {T : String} {C m : Str} (h : isRec K (mA K C m) T = true) : ∃ rest, PySem.W.recIn K (mA K C m) T = some (.ref (rA K T C m) :: rest) := by
  unfold rA
  unfold isRec at h
  split at h
  · rename_i g r e
    exact ⟨r, by rw [e]⟩
  · cases h
theorem rB_ok {K : PySem.W.Frag} {T : String} {C m : Str} (h : isRec2 K (mA K C m) T = true) : ∃ a rest, PySem.W.recIn K (mA K C m) T = some (a :: .ref (rB K T C m) :: rest) := by
  unfold rB
  unfold isRec2 at h
  split at h
  · rename_i a g r e
    exact ⟨a, r, by rw [e]⟩
  · cases h
section
variable {K : PySem.W.Frag}
theorem says_fact (c : SaysA K) : fact K = true := (Bool.and_eq_true_iff.mp (show (fact K && fns.all fun d => d.ok K) = true from congrArg (fun z : He.AlD => z.1) c)).1
theorem says_all (c : SaysA K) : (fns.all fun d => d.ok K) = true := (Bool.and_eq_true_iff.mp (show (fact K && fns.all fun d => d.ok K) = true from congrArg (fun z : He.AlD => z.1) c)).2
theorem says_fns (c : SaysA K) : (fns.map fun d => He5.fnA K (d.at_ K)) = fns.map He5.DefA.val := congrArg (fun z : He.AlD => z.2) c
theorem says_def (c : SaysA K) (i : Nat) {d : He5.DefA} (h : fns[i]? = some d) : ∃ fd, FunD K d.name d.qual d.params d.body d.scope (d.dvs K) (d.kws K) (d.at_ K) fd := by
  have e := congrArg (fun l : List He.FnW => l[i]?) (says_fns c)
  rw [List.getElem?_map, List.getElem?_map, h] at e
  exact He5.DefA.funD (Option.some.inj e) (List.all_eq_true.mp (says_all c) d (List.mem_of_getElem? h))
theorem says_glo (c : SaysA K) (i : Nat) {x : Str} (h : fcGlo[i]? = some x) : (He.Fa.glo x).ok K = true := List.all_eq_true.mp (Bool.and_eq_true_iff.mp (says_fact c)).1 x (List.mem_of_getElem? h)
theorem says_free (c : SaysA K) (i : Nat) {x : Str} (h : fcFree[i]? = some x) : (He.Fa.free x).ok K = true := List.all_eq_true.mp (Bool.and_eq_true_iff.mp (Bool.and_eq_true_iff.mp (says_fact c)).2).1 x (List.mem_of_getElem? h)
theorem says_other (c : SaysA K) (i : Nat) {f : Fct} (h : fcOther[i]? = some f) : f K = true := List.all_eq_true.mp (Bool.and_eq_true_iff.mp (Bool.and_eq_true_iff.mp (Bool.and_eq_true_iff.mp (says_fact c)).2).2).1 f (List.mem_of_getElem? h)
theorem says_more (c : SaysA K) (i : Nat) {f : Fct} (h : fcMore[i]? = some f) : f K = true := List.all_eq_true.mp (Bool.and_eq_true_iff.mp (Bool.and_eq_true_iff.mp (Bool.and_eq_true_iff.mp (says_fact c)).2).2).2 f (List.mem_of_getElem? h)
theorem b2 {a b : Bool} (h : (a && b) = true) : a = true ∧ b = true := Bool.and_eq_true_iff.mp h
theorem d_isName (c : SaysA K) : ∃ fd, Fun K "is_name" "is_name" sIsName (gA K "is_name") fd := by
  obtain ⟨fd, F⟩ := says_def c 0 rfl
  exact ⟨fd, He5.fun_of F⟩
theorem d_isInteger (c : SaysA K) : ∃ fd, Fun K "is_integer" "is_integer" sIsInteger (gA K "is_integer") fd := by
  obtain ⟨fd, F⟩ := says_def c 1 rfl
  exact ⟨fd, He5.fun_of F⟩
theorem d_isBetween (c : SaysA K) : ∃ fd, Fun K "is_between" "is_between" sIsBetween (gA K "is_between") fd := by
  obtain ⟨fd, F⟩ := says_def c 2 rfl
  exact ⟨fd, He5.fun_of F⟩
theorem d_isIndex (c : SaysA K) : ∃ fd, Fun K "is_index" "is_index" sIsIndex (gA K "is_index") fd := by
  obtain ⟨fd, F⟩ := says_def c 3 rfl
  exact ⟨fd, He5.fun_of F⟩
theorem d_rInit (c : SaysA K) : ∃ fd, Fun K "__init__" "Reader.__init__" sRInit (mA K "Reader" "__init__") fd := by
  obtain ⟨fd, F⟩ := says_def c 4 rfl
  exact ⟨fd, He5.fun_of F⟩
theorem d_rSet (c : SaysA K) : ∃ fd, Fun K "passes" "Reader.passes" sRSet (rB K "property" "Reader" "passes") fd := by
  obtain ⟨fd, F⟩ := says_def c 5 rfl
  exact ⟨fd, He5.fun_of F⟩
theorem d_rRowsIn (c : SaysA K) : ∃ fd, Fun K "rows_in" "Reader.rows_in" sRRowsIn (mA K "Reader" "rows_in") fd := by
  obtain ⟨fd, F⟩ := says_def c 6 rfl
  exact ⟨fd, He5.fun_of F⟩
theorem d_rAccepted (c : SaysA K) : ∃ fd, Fun K "accepted" "Reader.accepted" sRAccepted (mA K "Reader" "accepted") fd := by
  obtain ⟨fd, F⟩ := says_def c 7 rfl
  exact ⟨fd, He5.fun_of F⟩
theorem d_rCall (c : SaysA K) : ∃ fd, Fun K "__call__" "Reader.__call__" sRCall (mA K "Reader" "__call__") fd := by
  obtain ⟨fd, F⟩ := says_def c 8 rfl
  exact ⟨fd, He5.fun_of F⟩
theorem d_passesNeeded (c : SaysA K) : ∃ fd, Fun K "passes_needed" "passes_needed" sPassesNeeded (gA K "passes_needed") fd := by
  obtain ⟨fd, F⟩ := says_def c 9 rfl
  exact ⟨fd, He5.fun_of F⟩
theorem d_unfinished (c : SaysA K) : ∃ fd, Fun K "unfinished" "unfinished" sUnfinished (gA K "unfinished") fd := by
  obtain ⟨fd, F⟩ := says_def c 10 rfl
  exact ⟨fd, He5.fun_of F⟩
theorem d_ringIn (c : SaysA K) : ∃ fd, Fun K "ring_in" "ring_in" sRingIn (gA K "ring_in") fd := by
  obtain ⟨fd, F⟩ := says_def c 11 rfl
  exact ⟨fd, He5.fun_of F⟩
theorem d_rowText (c : SaysA K) : ∃ fd, Fun K "row_text" "row_text" sRowText (gA K "row_text") fd := by
  obtain ⟨fd, F⟩ := says_def c 12 rfl
  exact ⟨fd, He5.fun_of F⟩
theorem d_sheetText (c : SaysA K) : ∃ fd, Fun K "sheet_text" "sheet_text" sSheetText (gA K "sheet_text") fd := by
  obtain ⟨fd, F⟩ := says_def c 13 rfl
  exact ⟨fd, He5.fun_of F⟩
theorem d_firstWrong (c : SaysA K) : ∃ fd, Fun K "first_wrong" "first_wrong" sFirstWrong (gA K "first_wrong") fd := by
  obtain ⟨fd, F⟩ := says_def c 14 rfl
  exact ⟨fd, He5.fun_of F⟩
theorem d_areNeeds (c : SaysA K) : ∃ fd, Fun K "are_needs" "are_needs" sAreNeeds (gA K "are_needs") fd := by
  obtain ⟨fd, F⟩ := says_def c 15 rfl
  exact ⟨fd, He5.fun_of F⟩
theorem d_needRows (c : SaysA K) : ∃ fd, Fun K "need_rows" "need_rows" sNeedRows (gA K "need_rows") fd := by
  obtain ⟨fd, F⟩ := says_def c 16 rfl
  exact ⟨fd, He5.fun_of F⟩
theorem d_needNeeds (c : SaysA K) : ∃ fd, Fun K "need_needs" "need_needs" sNeedNeeds (gA K "need_needs") fd := by
  obtain ⟨fd, F⟩ := says_def c 17 rfl
  exact ⟨fd, He5.fun_of F⟩
theorem d_sInit (c : SaysA K) : ∃ fd, Fun K "__init__" "Sheet.__init__" sSInit (mA K "Sheet" "__init__") fd := by
  obtain ⟨fd, F⟩ := says_def c 18 rfl
  exact ⟨fd, He5.fun_of F⟩
theorem d_sFill (c : SaysA K) : ∃ fd, Fun K "fill" "Sheet.fill" sSFill (mA K "Sheet" "fill") fd := by
  obtain ⟨fd, F⟩ := says_def c 19 rfl
  exact ⟨fd, He5.fun_of F⟩
theorem d_sOf (c : SaysA K) : ∃ fd, Fun K "of" "Sheet.of" sSOf (rA K "classmethod" "Sheet" "of") fd := by
  obtain ⟨fd, F⟩ := says_def c 20 rfl
  exact ⟨fd, He5.fun_of F⟩
theorem d_sRows (c : SaysA K) : ∃ fd, Fun K "rows" "Sheet.rows" sSRows (rA K "property" "Sheet" "rows") fd := by
  obtain ⟨fd, F⟩ := says_def c 21 rfl
  exact ⟨fd, He5.fun_of F⟩
theorem d_sNeeds (c : SaysA K) : ∃ fd, Fun K "needs" "Sheet.needs" sSNeeds (rA K "property" "Sheet" "needs") fd := by
  obtain ⟨fd, F⟩ := says_def c 22 rfl
  exact ⟨fd, He5.fun_of F⟩
theorem d_sContains (c : SaysA K) : ∃ fd, Fun K "__contains__" "Sheet.__contains__" sSContains (mA K "Sheet" "__contains__") fd := by
  obtain ⟨fd, F⟩ := says_def c 23 rfl
  exact ⟨fd, He5.fun_of F⟩
theorem d_sEq (c : SaysA K) : ∃ fd, Fun K "__eq__" "Sheet.__eq__" sSEq (mA K "Sheet" "__eq__") fd := by
  obtain ⟨fd, F⟩ := says_def c 24 rfl
  exact ⟨fd, He5.fun_of F⟩
theorem d_sNeedRow (c : SaysA K) : ∃ fd, Fun K "need_row" "Sheet.need_row" sSNeedRow (mA K "Sheet" "need_row") fd := by
  obtain ⟨fd, F⟩ := says_def c 25 rfl
  exact ⟨fd, He5.fun_of F⟩
theorem d_sPosition (c : SaysA K) : ∃ fd, Fun K "position" "Sheet.position" sSPosition (mA K "Sheet" "position") fd := by
  obtain ⟨fd, F⟩ := says_def c 26 rfl
  exact ⟨fd, He5.fun_of F⟩
theorem d_sWithMove (c : SaysA K) : ∃ fd, Fun K "with_move" "Sheet.with_move" sSWithMove (mA K "Sheet" "with_move") fd := by
  obtain ⟨fd, F⟩ := says_def c 27 rfl
  exact ⟨fd, He5.fun_of F⟩
theorem d_sWithNeed (c : SaysA K) : ∃ fd, Fun K "with_need" "Sheet.with_need" sSWithNeed (mA K "Sheet" "with_need") fd := by
  obtain ⟨fd, F⟩ := says_def c 28 rfl
  exact ⟨fd, He5.fun_of F⟩
theorem d_sWithoutNeed (c : SaysA K) : ∃ fd, Fun K "without_need" "Sheet.without_need" sSWithoutNeed (mA K "Sheet" "without_need") fd := by
  obtain ⟨fd, F⟩ := says_def c 29 rfl
  exact ⟨fd, He5.fun_of F⟩
theorem d_isBackward (c : SaysA K) : ∃ fd, Fun K "is_backward" "is_backward" sIsBackward (gA K "is_backward") fd := by
  obtain ⟨fd, F⟩ := says_def c 30 rfl
  exact ⟨fd, He5.fun_of F⟩
theorem d_rowBefore (c : SaysA K) : ∃ fd, Fun K "row_before" "row_before" sRowBefore (gA K "row_before") fd := by
  obtain ⟨fd, F⟩ := says_def c 31 rfl
  exact ⟨fd, He5.fun_of F⟩
theorem d_slowChain (c : SaysA K) : ∃ fd, Fun K "slow_chain" "slow_chain" sSlowChain (gA K "slow_chain") fd := by
  obtain ⟨fd, F⟩ := says_def c 32 rfl
  exact ⟨fd, He5.fun_of F⟩
theorem d_checkSlow (c : SaysA K) : ∃ fd, Fun K "check_slow" "check_slow" sCheckSlow (gA K "check_slow") fd := by
  obtain ⟨fd, F⟩ := says_def c 33 rfl
  exact ⟨fd, He5.fun_of F⟩
theorem d_pen (c : SaysA K) : ∃ fd, Fun K "_law_pen" "_law_pen" sPen (gA K "_law_pen") fd := by
  obtain ⟨fd, F⟩ := says_def c 34 rfl
  exact ⟨fd, He5.fun_of F⟩
theorem d_draw (c : SaysA K) : ∃ fd, Fun K "_law_draw" "_law_draw" sDraw (gA K "_law_draw") fd := by
  obtain ⟨fd, F⟩ := says_def c 35 rfl
  exact ⟨fd, He5.fun_of F⟩
theorem d_shuffled (c : SaysA K) : ∃ fd, Fun K "_law_shuffled" "_law_shuffled" sShuffled (gA K "_law_shuffled") fd := by
  obtain ⟨fd, F⟩ := says_def c 36 rfl
  exact ⟨fd, He5.fun_of F⟩
theorem d_names (c : SaysA K) : ∃ fd, Fun K "_law_names" "_law_names" sNames (gA K "_law_names") fd := by
  obtain ⟨fd, F⟩ := says_def c 37 rfl
  exact ⟨fd, He5.fun_of F⟩
theorem d_plan (c : SaysA K) : ∃ fd, Fun K "_law_plan" "_law_plan" sPlan (gA K "_law_plan") fd := by
  obtain ⟨fd, F⟩ := says_def c 38 rfl
  exact ⟨fd, He5.fun_of F⟩
theorem d_page (c : SaysA K) : ∃ fd, Fun K "_law_page" "_law_page" sPage (gA K "_law_page") fd := by
  obtain ⟨fd, F⟩ := says_def c 39 rfl
  exact ⟨fd, He5.fun_of F⟩
theorem d_below (c : SaysA K) : ∃ fd, Fun K "_law_below" "_law_below" sBelow (gA K "_law_below") fd := by
  obtain ⟨fd, F⟩ := says_def c 40 rfl
  exact ⟨fd, He5.fun_of F⟩
theorem d_chains (c : SaysA K) : ∃ fd, Fun K "_law_chains" "_law_chains" sChains (gA K "_law_chains") fd := by
  obtain ⟨fd, F⟩ := says_def c 41 rfl
  exact ⟨fd, He5.fun_of F⟩
theorem d_movesRight (c : SaysA K) : ∃ fd, Fun K "_law_moves_right" "_law_moves_right" sMovesRight (gA K "_law_moves_right") fd := by
  obtain ⟨fd, F⟩ := says_def c 42 rfl
  exact ⟨fd, He5.fun_of F⟩
theorem d_needsRight (c : SaysA K) : ∃ fd, Fun K "_law_needs_right" "_law_needs_right" sNeedsRight (gA K "_law_needs_right") fd := by
  obtain ⟨fd, F⟩ := says_def c 43 rfl
  exact ⟨fd, He5.fun_of F⟩
theorem d_law (c : SaysA K) : ∃ fd, Fun K "law" "law" sLaw (gA K "law") fd := by
  obtain ⟨fd, F⟩ := says_def c 44 rfl
  exact ⟨fd, He5.fun_of F⟩
theorem prop_ok {m : Str} (h : fProp m K = true) : PropOf K (gA K "Sheet") m (mA K "Sheet" m) (rA K "property" "Sheet" m) := by
  obtain ⟨h1, h⟩ := b2 h
  obtain ⟨h2, h⟩ := b2 h
  obtain ⟨h3, h4⟩ := b2 h
  exact ⟨He.eqO_ok h1, He.eqO_ok h2, of_decide_eq_true h3, rA_ok h4⟩
theorem set_ok (h : fSetO K = true) : SetOf K (gA K "Reader") "passes" (mA K "Reader" "passes") (rB K "property" "Reader" "passes") := by
  obtain ⟨h1, h⟩ := b2 h
  obtain ⟨h2, h3⟩ := b2 h
  exact ⟨He.eqO_ok h1, of_decide_eq_true h2, rB_ok h3⟩
theorem callO_ok (h : fCallO K = true) : CallO K (gA K "Reader") (mA K "Reader" "__call__") := by
  obtain ⟨h1, h⟩ := b2 h
  obtain ⟨h2, h3⟩ := b2 h
  exact ⟨He.eqO_ok h1, h2, h3⟩
theorem cread_ok (h : fRead K = true) : CRead K (gA K "Sheet") (.type "type") := by
  obtain ⟨h1, h2⟩ := b2 h
  exact ⟨h1, He.eqO_ok h2⟩
theorem cmet_ok (h : fOf K = true) : CMet K (gA K "Sheet") (.type "type") "of" (mA K "Sheet" "of") (rA K "classmethod" "Sheet" "of") := by
  obtain ⟨h1, h2⟩ := b2 h
  exact He5.cmet_of h1 h2
theorem txt {h : Heap} {mg : Str → Option Value} (X : K.In h) (N : h.Ns mainGlobals mg) (c : SaysA K) : Nonempty (Txt K mg) := by
  obtain ⟨fd_isName, F_isName⟩ := d_isName c
  obtain ⟨fd_isInteger, F_isInteger⟩ := d_isInteger c
  obtain ⟨fd_isBetween, F_isBetween⟩ := d_isBetween c
  obtain ⟨fd_isIndex, F_isIndex⟩ := d_isIndex c
  obtain ⟨fd_rInit, F_rInit⟩ := d_rInit c
  obtain ⟨fd_rSet, F_rSet⟩ := d_rSet c
  obtain ⟨fd_rRowsIn, F_rRowsIn⟩ := d_rRowsIn c
  obtain ⟨fd_rAccepted, F_rAccepted⟩ := d_rAccepted c
  obtain ⟨fd_rCall, F_rCall⟩ := d_rCall c
  obtain ⟨fd_passesNeeded, F_passesNeeded⟩ := d_passesNeeded c
  obtain ⟨fd_unfinished, F_unfinished⟩ := d_unfinished c
  obtain ⟨fd_ringIn, F_ringIn⟩ := d_ringIn c
  obtain ⟨fd_rowText, F_rowText⟩ := d_rowText c
  obtain ⟨fd_sheetText, F_sheetText⟩ := d_sheetText c
  obtain ⟨fd_firstWrong, F_firstWrong⟩ := d_firstWrong c
  obtain ⟨fd_areNeeds, F_areNeeds⟩ := d_areNeeds c
  obtain ⟨fd_needRows, F_needRows⟩ := d_needRows c
  obtain ⟨fd_needNeeds, F_needNeeds⟩ := d_needNeeds c
  obtain ⟨fd_sInit, F_sInit⟩ := d_sInit c
  obtain ⟨fd_sFill, F_sFill⟩ := d_sFill c
  obtain ⟨fd_sOf, F_sOf⟩ := d_sOf c
  obtain ⟨fd_sRows, F_sRows⟩ := d_sRows c
  obtain ⟨fd_sNeeds, F_sNeeds⟩ := d_sNeeds c
  obtain ⟨fd_sContains, F_sContains⟩ := d_sContains c
  obtain ⟨fd_sEq, F_sEq⟩ := d_sEq c
  obtain ⟨fd_sNeedRow, F_sNeedRow⟩ := d_sNeedRow c
  obtain ⟨fd_sPosition, F_sPosition⟩ := d_sPosition c
  obtain ⟨fd_sWithMove, F_sWithMove⟩ := d_sWithMove c
  obtain ⟨fd_sWithNeed, F_sWithNeed⟩ := d_sWithNeed c
  obtain ⟨fd_sWithoutNeed, F_sWithoutNeed⟩ := d_sWithoutNeed c
  obtain ⟨fd_isBackward, F_isBackward⟩ := d_isBackward c
  obtain ⟨fd_rowBefore, F_rowBefore⟩ := d_rowBefore c
  obtain ⟨fd_slowChain, F_slowChain⟩ := d_slowChain c
  obtain ⟨fd_checkSlow, F_checkSlow⟩ := d_checkSlow c
  obtain ⟨fd_pen, F_pen⟩ := d_pen c
  obtain ⟨fd_draw, F_draw⟩ := d_draw c
  obtain ⟨fd_shuffled, F_shuffled⟩ := d_shuffled c
  obtain ⟨fd_names, F_names⟩ := d_names c
  obtain ⟨fd_plan, F_plan⟩ := d_plan c
  obtain ⟨fd_page, F_page⟩ := d_page c
  obtain ⟨fd_below, F_below⟩ := d_below c
  obtain ⟨fd_chains, F_chains⟩ := d_chains c
  obtain ⟨fd_movesRight, F_movesRight⟩ := d_movesRight c
  obtain ⟨fd_needsRight, F_needsRight⟩ := d_needsRight c
  obtain ⟨ne1, ne2⟩ := b2 (says_more c 21 rfl)
  obtain ⟨cl1, cl⟩ := b2 (says_more c 22 rfl)
  obtain ⟨cl2, cl3⟩ := b2 cl
  obtain ⟨co1, co2⟩ := b2 (says_more c 19 rfl)
  obtain ⟨eq1, eq2⟩ := b2 (says_more c 20 rfl)
  exact ⟨{
    isName := ⟨_, fd_isName, F_isName⟩
    g_isName := He.glo_ok X N (says_glo c 0 rfl)
    isInteger := ⟨_, fd_isInteger, F_isInteger⟩
    g_isInteger := He.glo_ok X N (says_glo c 1 rfl)
    isBetween := ⟨_, fd_isBetween, F_isBetween⟩
    g_isBetween := He.glo_ok X N (says_glo c 2 rfl)
    isIndex := ⟨_, fd_isIndex, F_isIndex⟩
    g_isIndex := He.glo_ok X N (says_glo c 3 rfl)
    rInit := ⟨_, fd_rInit, F_rInit⟩
    rSet := ⟨_, fd_rSet, F_rSet⟩
    rRowsIn := ⟨_, fd_rRowsIn, F_rRowsIn⟩
    rAccepted := ⟨_, fd_rAccepted, F_rAccepted⟩
    rCall := ⟨_, fd_rCall, F_rCall⟩
    passesNeeded := ⟨_, fd_passesNeeded, F_passesNeeded⟩
    g_passesNeeded := He.glo_ok X N (says_glo c 5 rfl)
    unfinished := ⟨_, fd_unfinished, F_unfinished⟩
    g_unfinished := He.glo_ok X N (says_glo c 6 rfl)
    ringIn := ⟨_, fd_ringIn, F_ringIn⟩
    g_ringIn := He.glo_ok X N (says_glo c 7 rfl)
    rowText := ⟨_, fd_rowText, F_rowText⟩
    g_rowText := He.glo_ok X N (says_glo c 8 rfl)
    sheetText := ⟨_, fd_sheetText, F_sheetText⟩
    g_sheetText := He.glo_ok X N (says_glo c 9 rfl)
    firstWrong := ⟨_, fd_firstWrong, F_firstWrong⟩
    g_firstWrong := He.glo_ok X N (says_glo c 10 rfl)
    areNeeds := ⟨_, fd_areNeeds, F_areNeeds⟩
    g_areNeeds := He.glo_ok X N (says_glo c 11 rfl)
    needRows := ⟨_, fd_needRows, F_needRows⟩
    g_needRows := He.glo_ok X N (says_glo c 12 rfl)
    needNeeds := ⟨_, fd_needNeeds, F_needNeeds⟩
    g_needNeeds := He.glo_ok X N (says_glo c 13 rfl)
    sInit := ⟨_, fd_sInit, F_sInit⟩
    sFill := ⟨_, fd_sFill, F_sFill⟩
    sOf := ⟨_, fd_sOf, F_sOf⟩
    sRows := ⟨_, fd_sRows, F_sRows⟩
    sNeeds := ⟨_, fd_sNeeds, F_sNeeds⟩
    sContains := ⟨_, fd_sContains, F_sContains⟩
    sEq := ⟨_, fd_sEq, F_sEq⟩
    sNeedRow := ⟨_, fd_sNeedRow, F_sNeedRow⟩
    sPosition := ⟨_, fd_sPosition, F_sPosition⟩
    sWithMove := ⟨_, fd_sWithMove, F_sWithMove⟩
    sWithNeed := ⟨_, fd_sWithNeed, F_sWithNeed⟩
    sWithoutNeed := ⟨_, fd_sWithoutNeed, F_sWithoutNeed⟩
    isBackward := ⟨_, fd_isBackward, F_isBackward⟩
    g_isBackward := He.glo_ok X N (says_glo c 15 rfl)
    rowBefore := ⟨_, fd_rowBefore, F_rowBefore⟩
    g_rowBefore := He.glo_ok X N (says_glo c 16 rfl)
    slowChain := ⟨_, fd_slowChain, F_slowChain⟩
    g_slowChain := He.glo_ok X N (says_glo c 17 rfl)
    checkSlow := ⟨_, fd_checkSlow, F_checkSlow⟩
    g_checkSlow := He.glo_ok X N (says_glo c 18 rfl)
    pen := ⟨_, fd_pen, F_pen⟩
    g_pen := He.glo_ok X N (says_glo c 19 rfl)
    draw := ⟨_, fd_draw, F_draw⟩
    g_draw := He.glo_ok X N (says_glo c 20 rfl)
    shuffled := ⟨_, fd_shuffled, F_shuffled⟩
    g_shuffled := He.glo_ok X N (says_glo c 21 rfl)
    names := ⟨_, fd_names, F_names⟩
    g_names := He.glo_ok X N (says_glo c 22 rfl)
    plan := ⟨_, fd_plan, F_plan⟩
    g_plan := He.glo_ok X N (says_glo c 23 rfl)
    page := ⟨_, fd_page, F_page⟩
    g_page := He.glo_ok X N (says_glo c 24 rfl)
    below := ⟨_, fd_below, F_below⟩
    g_below := He.glo_ok X N (says_glo c 25 rfl)
    chains := ⟨_, fd_chains, F_chains⟩
    g_chains := He.glo_ok X N (says_glo c 26 rfl)
    movesRight := ⟨_, fd_movesRight, F_movesRight⟩
    g_movesRight := He.glo_ok X N (says_glo c 27 rfl)
    needsRight := ⟨_, fd_needsRight, F_needsRight⟩
    g_needsRight := He.glo_ok X N (says_glo c 28 rfl)
    CR := gA K "Reader"
    CS := gA K "Sheet"
    gR := He.glo_ok X N (says_glo c 4 rfl)
    gS := He.glo_ok X N (says_glo c 14 rfl)
    clR := He.cls_ok (says_other c 4 rfl)
    clS := He.cls_ok (says_other c 5 rfl)
    mkR := He.mkr_ok (says_other c 6 rfl)
    mkS := He.mkr_ok (says_other c 7 rfl)
    n_bound := He.noat_ok (says_more c 0 rfl)
    n_names := He.noat_ok (says_more c 1 rfl)
    n_direct := He.noat_ok (says_more c 2 rfl)
    n_order := He.noat_ok (says_more c 3 rfl)
    n_shown := He.noat_ok (says_more c 4 rfl)
    m_rRowsIn := He.meth_ok (says_more c 5 rfl)
    m_rAccepted := He.meth_ok (says_more c 6 rfl)
    m_sFill := He.meth_ok (says_more c 7 rfl)
    m_sNeedRow := He.meth_ok (says_more c 8 rfl)
    m_sPosition := He.meth_ok (says_more c 9 rfl)
    m_sWithMove := He.meth_ok (says_more c 10 rfl)
    m_sWithNeed := He.meth_ok (says_more c 11 rfl)
    m_sWithoutNeed := He.meth_ok (says_more c 12 rfl)
    callO := callO_ok (says_more c 13 rfl)
    pPass := mA K "Reader" "passes"
    setO := set_ok (says_more c 14 rfl)
    pRows := mA K "Sheet" "rows"
    propR := prop_ok (says_more c 15 rfl)
    pNeeds := mA K "Sheet" "needs"
    propN := prop_ok (says_more c 16 rfl)
    mc := .type "type"
    cread := cread_ok (says_more c 17 rfl)
    pOf := mA K "Sheet" "of"
    cmet := cmet_ok (says_more c 18 rfl)
    conA := He.eqO_ok co1
    conF := co2
    eqA := He.eqO_ok eq1
    eqF := eq2
    neA := He.eqO_ok ne1
    mroS := of_decide_eq_true ne2
    clA := He.eqO_ok cl1
    clN := He.eqO_ok cl2
    clT := of_decide_eq_true cl3
    isiS := of_decide_eq_true (says_more c 23 rfl)
    gLong := He.int_ok X N (says_other c 0 rfl)
    gMost := He.int_ok X N (says_other c 1 rfl)
    gLimit := He.int_ok X N (says_other c 2 rfl)
    gLet := He.str_ok X N (says_other c 3 rfl)
    b_isinstance := He.free_ok X N (says_free c 0 rfl)
    b_len := He.free_ok X N (says_free c 1 rfl)
    b_range := He.free_ok X N (says_free c 2 rfl)
    b_max := He.free_ok X N (says_free c 3 rfl)
    b_min := He.free_ok X N (says_free c 4 rfl)
    b_abs := He.free_ok X N (says_free c 5 rfl)
    b_int := He.free_ok X N (says_free c 6 rfl)
    b_str := He.free_ok X N (says_free c 7 rfl)
    b_list := He.free_ok X N (says_free c 8 rfl)
    b_dict := He.free_ok X N (says_free c 9 rfl)
    b_tuple := He.free_ok X N (says_free c 10 rfl)
    b_set := He.free_ok X N (says_free c 11 rfl)
    b_sorted := He.free_ok X N (says_free c 12 rfl)
    b_all := He.free_ok X N (says_free c 13 rfl)
    b_any := He.free_ok X N (says_free c 14 rfl)
    b_enumerate := He.free_ok X N (says_free c 15 rfl)
    b_zip := He.free_ok X N (says_free c 16 rfl)
    b_bool := He.free_ok X N (says_free c 17 rfl) }⟩
theorem facts {P : Program} {w : World} {h : Heap} {mg : Str → Option Value} {f : Addr} (X : K.In h) (N : h.Ns mainGlobals mg) (hfa : mg ("law" : Str) = some (.ref f)) (c : SaysA K) :
    ∃ fd : FuncData, (∀ (s : Shared) (v : Value), BindsTo s fd ⟨[v], []⟩ [("_law_script", v)]) ∧ ∀ base : Heap, K.In base → base.Ns mainGlobals mg → FnOk P w K mg base CX0 10 f fd ["_law_script"] (spLaw K) := by
  obtain ⟨T⟩ := txt X N c
  obtain ⟨fd, F⟩ := says_def c 44 rfl
  have e := hfa.symm.trans (He.glo_ok X N (says_glo c 29 (x := "law") rfl))
  cases e
  have b := FunD.bindsA (ps := ["_law_script"]) F fun _ _ _ _ _ _ us hl => match us, hl with | [_], _ => rfl
  exact ⟨fd, fun s v => b s [v] rfl, fun base _ _ => ok_law T (He5.fun_of F)⟩
end
end K19
open PySem PySem.W PySem.Calls PyProof.Rows
theorem PySem.Challenge.cw_passwidth_k19_whole_passes_and_backward_holds : PySem.Challenge.rw_passwidth_k19_whole_passes_and_backward.Holds := by
  w_on; o_law
  refine HandSHeadRun.head_any (r := OpenLaw.row PySem.Challenge.rw_passwidth_k19_whole_passes_and_backward) (q := view (OpenLaw.row PySem.Challenge.rw_passwidth_k19_whole_passes_and_backward).prog [62]) (H := K19.hk) (ob := K19.ob) (M := 6000) (loose := K19.others) (d := HandSHeadRun.topDef (OpenLaw.row PySem.Challenge.rw_passwidth_k19_whole_passes_and_backward).prog 62) (kwd := []) K19.ob_eq
    (by kernel_rfl) (fun s => by kernel_rfl) K19.run (by kernel_rfl) (by kernel_rfl) (by kernel_rfl) (by rfl) (by first | assumption | decide +kernel) (by decide +kernel) ⟨rfl, rfl, rfl, rfl, rfl, by decide +kernel⟩ ?hw ?hc
  case hw => w_witness2
  case hc =>
    refine L2.walk_ofE (l := PySem.Challenge.rw_passwidth_k19_whole_passes_and_backward) (n := 63) (k := 10) (x := "_law_script") (CX := L2.CX0) rfl (by decide) (by kernel_rfl) ⟨rfl, by decide, by decide⟩ ?F (fun _ _ _ _ z => z)
    intro w mg fa h Y G hmg0
    obtain ⟨K, KX, c⟩ := Y
    have hmg : mg ("law" : PySem.Str) = some (.ref fa) := by
      have e : (HandSHeadRun.topDef (OpenLaw.row PySem.Challenge.rw_passwidth_k19_whole_passes_and_backward).prog 62).name = ("law" : PySem.Str) := by kernel_rfl
      rw [← e]
      exact hmg0
    obtain ⟨fd, hb, hF⟩ := K19.facts (P := (PySem.Challenge.rw_passwidth_k19_whole_passes_and_backward).prog) (w := w) KX G hmg c
    exact ⟨K, fd, K19.spLaw K, KX, hb, fun H a ns hl _ hS => ⟨a, ns, rfl, hS, hl, fun _ => rfl⟩, hF⟩
