import HandS.ForMost
import HandS.Walk
import HandS.Exc
import HandS.ExcOwn
import HandS.ExcIs
import HandS.ExcValue
import HandS.TryOnly
import HandS.Lambda
import HandS.EndTab
import HandS.IsInst
import HandS.StrMore
import KE.GoesEnum
import PyProof.EnumMake
import PyProof.StrOps2
import PyProof.Rows.StrStep
import HandS.Replace
import PySem.Challenge.RW_lentandback_k94_sums_notice_each_change
import HandS.WordsExc
import KE.KNestM
namespace K94
/-- the weighted sum of signs, the first place weighing i -/
def W (i : Nat) : List Nat → Nat
  | [] => 0
  | c :: r => i * c + W (i + 1) r
def P : Nat := 1000000007
theorem W_app (l r : List Nat) : ∀ i, W i (l ++ r) = W i l + W (i + l.length) r := by
  induction l with
  | nil => intro i; simp [W]
  | cons c l ih =>
    intro i
    simp only [List.cons_append, W, ih, List.length_cons]
    have : i + 1 + l.length = i + (l.length + 1) := by omega
    rw [this]; omega
theorem W_succ (r : List Nat) : ∀ i, W i r ≤ W (i + 1) r := by
  induction r with
  | nil => intro i; exact Nat.le_refl _
  | cons c r ih =>
    intro i
    simp only [W]
    have h1 := ih (i + 1)
    have h2 : i * c ≤ (i + 1) * c := Nat.mul_le_mul_right _ (Nat.le_succ _)
    omega
theorem W_bound (r : List Nat) (h : ∀ c ∈ r, c ≤ 126) : ∀ i n, i + r.length ≤ n → W i r ≤ r.length * (n * 126) := by
  induction r with
  | nil => intro i n _; simp [W]
  | cons c r ih =>
    intro i n hn
    simp only [List.length_cons] at hn
    have h1 := ih (fun x hx => h x (List.mem_cons_of_mem _ hx)) (i + 1) n (by omega)
    have h2 : i * c ≤ n * 126 := Nat.mul_le_mul (by omega) (h c List.mem_cons_self)
    simp only [W, List.length_cons, Nat.succ_mul]
    omega
/-- the signs of "sum " -/
def head4 : List Nat := [115, 117, 109, 32]
/-- what the proof asks of the figures of a number -/
structure Digits (D : Nat → List Nat) : Prop where
  fig : ∀ n, ∀ c ∈ D n, 48 ≤ c ∧ c ≤ 57
  inj : ∀ m n, D m = D n → m = n
section
variable {D : Nat → List Nat}
/-- the last row of a sealed text -/
def row (D : Nat → List Nat) (t : List Nat) : List Nat := head4 ++ D (W 1 t % P)
def sealL (D : Nat → List Nat) (t : List Nat) : List Nat := t ++ 10 :: row D t
/-- small texts -/
structure Small (t : List Nat) : Prop where
  len : t.length ≤ 1000
  lo : ∀ c ∈ t, 1 ≤ c
  hi : ∀ c ∈ t, c ≤ 126
theorem Small.lt {t : List Nat} (h : Small t) : W 1 t < P := by
  have h1 := W_bound t h.hi 1 1001 (by have := h.len; omega)
  have h2 : t.length * (1001 * 126) ≤ 1000 * (1001 * 126) := Nat.mul_le_mul_right _ h.len
  have h3 : 1000 * (1001 * 126) < P := by decide
  omega
theorem Small.mod {t : List Nat} (h : Small t) : W 1 t % P = W 1 t := Nat.mod_eq_of_lt h.lt
theorem row_eq {D : Nat → List Nat} (hD : Digits D) {t b : List Nat} (ht : Small t) (hb : Small b) (e : row D b = row D t) : W 1 b = W 1 t := by
  have h1 := hD.inj _ _ (List.append_cancel_left e)
  rw [ht.mod, hb.mod] at h1
  exact h1
/-- the row behind its first sign -/
def tail (D : Nat → List Nat) (t : List Nat) : List Nat := [117, 109, 32] ++ D (W 1 t % P)
theorem row_cons (t : List Nat) : row D t = 115 :: tail D t := rfl
theorem tail_no {D : Nat → List Nat} (hD : Digits D) (t : List Nat) : 115 ∉ tail D t ∧ 10 ∉ tail D t := by
  unfold tail
  refine ⟨fun h => ?_, fun h => ?_⟩ <;> rcases List.mem_append.mp h with h | h
  · simp at h
  · have := hD.fig _ _ h; omega
  · simp at h
  · have := hD.fig _ _ h; omega
theorem row_no {D : Nat → List Nat} (hD : Digits D) (t : List Nat) : 10 ∉ row D t := by
  rw [row_cons]
  intro h
  rcases List.mem_cons.mp h with h | h
  · cases h
  · exact (tail_no hD t).2 h
/-- the last line feed parts a text in one way -/
theorem part {p q b s : List Nat} (hq : 10 ∉ q) (hs : 10 ∉ s) (e : p ++ 10 :: q = b ++ 10 :: s) : p = b ∧ q = s := by
  rcases List.append_eq_append_iff.mp e with ⟨m, e1, e2⟩ | ⟨m, e1, e2⟩
  · cases m with
    | nil => simp at e1 e2; exact ⟨e1.symm, e2⟩
    | cons x m =>
      simp only [List.cons_append, List.cons.injEq] at e2
      exact absurd (by rw [e2.2]; simp) hq
  · cases m with
    | nil => simp at e1 e2; exact ⟨e1, e2.symm⟩
    | cons x m =>
      simp only [List.cons_append, List.cons.injEq] at e2
      exact absurd (by rw [e2.2]; simp) hs
/-- 115 stands in the row at its first place alone -/
theorem no_deep {D : Nat → List Nat} (hD : Digits D) {t b x : List Nat} (hx : x ≠ []) (e : x ++ row D t = row D b) : False := by
  cases x with
  | nil => exact hx rfl
  | cons y x =>
    rw [row_cons b, List.cons_append, List.cons.injEq] at e
    refine (tail_no hD b).1 ?_
    rw [← e.2, row_cons]
    simp
theorem no_short {D : Nat → List Nat} (hD : Digits D) {t b x y : List Nat} (e : x ++ y = tail D t) (e2 : y = row D b) : False := by
  refine (tail_no hD t).1 ?_
  rw [← e, e2, row_cons]
  simp
/-- where a line feed stands in the text ahead of a row without one -/
theorem inside {p q b s : List Nat} (hq : 10 ∉ q) (hs : 10 ∉ s) (e : p ++ q = b ++ 10 :: s) : ∃ p2, p = b ++ 10 :: p2 ∧ s = p2 ++ q := by
  rcases List.append_eq_append_iff.mp e with ⟨m, e1, e2⟩ | ⟨m, e1, e2⟩
  · exact absurd (by rw [e2]; simp) hq
  · cases m with
    | nil => simp at e2; exact absurd (by rw [← e2]; simp) hq
    | cons x m =>
      simp only [List.cons_append, List.cons.injEq] at e2
      exact ⟨m, by rw [e1, e2.1], e2.2⟩
/-- one sign left out -/
theorem left_out {D : Nat → List Nat} (hD : Digits D) {t b u v : List Nat} {x : Nat} (ht : Small t) (hb : Small b) (e1 : sealL D t = u ++ x :: v) (e2 : sealL D b = u ++ v) : False := by
  have r1 := row_no hD t
  have r2 := row_no hD b
  unfold sealL at e1 e2
  rcases List.append_eq_append_iff.mp e1 with ⟨m, h1, h2⟩ | ⟨m, h1, h2⟩
  · -- u = t ++ m: behind the text
    cases m with
    | nil =>
      simp only [List.nil_append, List.cons.injEq, List.append_nil] at h1 h2
      rw [h1, ← h2.2] at e2
      obtain ⟨p2, a1, a2⟩ := inside r1 r2 e2.symm
      cases p2 with
      | nil =>
        have hw := row_eq hD ht hb a2
        rw [a1, W_app] at hw
        simp only [W] at hw
        omega
      | cons y p2 => exact no_deep hD (by simp) a2.symm
    | cons y m =>
      simp only [List.cons_append, List.cons.injEq] at h2
      obtain ⟨h3, h4⟩ := h2
      rw [h1, ← h3, List.append_assoc, List.cons_append] at e2
      have hm : 10 ∉ m ++ v := fun z => r1 (by rw [h4]; rcases List.mem_append.mp z with z | z <;> simp [z])
      obtain ⟨a1, a2⟩ := part hm r2 e2.symm
      rw [← a1, h4] at a2
      have := congrArg List.length a2
      simp at this
  · -- t = u ++ m
    cases m with
    | nil =>
      simp only [List.nil_append, List.cons.injEq, List.append_nil] at h1 h2
      rw [← h1, h2.2] at e2
      obtain ⟨p2, a1, a2⟩ := inside r1 r2 e2.symm
      cases p2 with
      | nil =>
        have hw := row_eq hD ht hb a2
        rw [a1, W_app] at hw
        simp only [W] at hw
        omega
      | cons y p2 => exact no_deep hD (by simp) a2.symm
    | cons y m =>
      simp only [List.cons_append, List.cons.injEq] at h2
      obtain ⟨h3, h4⟩ := h2
      rw [h4, ← List.append_assoc] at e2
      obtain ⟨a1, a2⟩ := part r1 r2 e2.symm
      have hw := row_eq hD ht hb a2.symm
      rw [← a1, h1, W_app, W_app] at hw
      simp only [W] at hw
      have hx : 1 ≤ y := ht.lo y (by rw [h1]; simp)
      have h5 := W_succ m (1 + u.length)
      have h6 : 1 ≤ (1 + u.length) * y := Nat.mul_pos (by omega) hx
      omega
/-- one sign exchanged -/
theorem exchanged {D : Nat → List Nat} (hD : Digits D) {t b u v : List Nat} {x y : Nat} (ht : Small t) (hb : Small b) (e1 : sealL D t = u ++ x :: v) (e2 : sealL D b = u ++ y :: v) : x = y := by
  have r1 := row_no hD t
  have r2 := row_no hD b
  unfold sealL at e1 e2
  by_cases hy : x = y
  · exact hy
  exfalso
  rcases List.append_eq_append_iff.mp e1 with ⟨m, h1, h2⟩ | ⟨m, h1, h2⟩
  · cases m with
    | nil =>
      simp only [List.nil_append, List.cons.injEq, List.append_nil] at h1 h2
      rw [h1, ← h2.2] at e2
      have hn : 10 ∉ y :: row D t := fun z => by
        rcases List.mem_cons.mp z with z | z
        · exact hy (by rw [← h2.1, z])
        · exact r1 z
      obtain ⟨p2, a1, a2⟩ := inside hn r2 e2.symm
      exact no_deep hD (x := p2 ++ [y]) (by simp) (t := t) (b := b) (by rw [a2]; simp)
    | cons z m =>
      simp only [List.cons_append, List.cons.injEq] at h2
      obtain ⟨h3, h4⟩ := h2
      rw [h1, ← h3, List.append_assoc, List.cons_append] at e2
      by_cases h10 : y = 10
      · subst h10
        have e3 : (t ++ 10 :: m) ++ 10 :: v = b ++ 10 :: row D b := by rw [e2]; simp
        have hv : 10 ∉ v := fun z => r1 (by rw [h4]; simp [z])
        obtain ⟨a1, a2⟩ := part hv r2 e3
        rw [row_cons] at h4
        cases m with
        | nil =>
          simp only [List.nil_append, List.cons.injEq] at h4
          exact no_short hD (x := []) (y := v) (t := t) (b := b) (by rw [h4.2]; rfl) a2
        | cons q m =>
          simp only [List.cons_append, List.cons.injEq] at h4
          exact no_short hD (x := m ++ [x]) (y := v) (t := t) (b := b) (by rw [h4.2]; simp) a2
      · have hm : 10 ∉ m ++ y :: v := fun z => by
          rcases List.mem_append.mp z with z | z
          · exact r1 (by rw [h4]; simp [z])
          · rcases List.mem_cons.mp z with z | z
            · exact h10 z.symm
            · exact r1 (by rw [h4]; simp [z])
        obtain ⟨a1, a2⟩ := part hm r2 e2.symm
        rw [← a1, h4] at a2
        have := List.append_cancel_left a2
        simp only [List.cons.injEq, and_true] at this
        exact hy this.symm
  · cases m with
    | nil =>
      simp only [List.nil_append, List.cons.injEq, List.append_nil] at h1 h2
      rw [← h1, h2.2] at e2
      have hn : 10 ∉ y :: row D t := fun z => by
        rcases List.mem_cons.mp z with z | z
        · exact hy (by rw [h2.1, z])
        · exact r1 z
      obtain ⟨p2, a1, a2⟩ := inside hn r2 e2.symm
      exact no_deep hD (x := p2 ++ [y]) (by simp) (t := t) (b := b) (by rw [a2]; simp)
    | cons z m =>
      simp only [List.cons_append, List.cons.injEq] at h2
      obtain ⟨h3, h4⟩ := h2
      rw [h4] at e2
      have e3 : (u ++ y :: m) ++ 10 :: row D t = b ++ 10 :: row D b := by rw [e2]; simp
      obtain ⟨a1, a2⟩ := part r1 r2 e3
      have hw := row_eq hD ht hb a2.symm
      rw [← a1, h1, W_app, W_app] at hw
      simp only [W] at hw
      have : (1 + u.length) * y = (1 + u.length) * z := by omega
      have := Nat.eq_of_mul_eq_mul_left (by omega) this
      exact hy (by rw [h3, this])
/-- two neighbours exchanged -/
theorem swapped {D : Nat → List Nat} (hD : Digits D) {t b u v : List Nat} {x y : Nat} (ht : Small t) (hb : Small b) (e1 : sealL D t = u ++ x :: y :: v) (e2 : sealL D b = u ++ y :: x :: v) : x = y := by
  have r1 := row_no hD t
  have r2 := row_no hD b
  unfold sealL at e1 e2
  by_cases hy : x = y
  · exact hy
  exfalso
  rcases List.append_eq_append_iff.mp e1 with ⟨m, h1, h2⟩ | ⟨m, h1, h2⟩
  · cases m with
    | nil =>
      simp only [List.nil_append, List.cons.injEq, List.append_nil] at h1 h2
      obtain ⟨h3, h4⟩ := h2
      rw [row_cons, List.cons.injEq] at h4
      rw [h1, ← h3, ← h4.1, ← h4.2] at e2
      have e3 : (t ++ [115]) ++ 10 :: tail D t = b ++ 10 :: row D b := by rw [e2]; simp
      obtain ⟨a1, a2⟩ := part (tail_no hD t).2 r2 e3
      exact no_short hD (x := []) (t := t) (b := b) rfl a2
    | cons z m =>
      simp only [List.cons_append, List.cons.injEq] at h2
      obtain ⟨h3, h4⟩ := h2
      rw [h1, ← h3, List.append_assoc, List.cons_append] at e2
      have hm : 10 ∉ m ++ y :: x :: v := fun z => r1 (by rw [h4]; simp at z ⊢; rcases z with z | z | z | z <;> simp [z])
      obtain ⟨a1, a2⟩ := part hm r2 e2.symm
      rw [← a1, h4] at a2
      have := List.append_cancel_left a2
      simp only [List.cons.injEq] at this
      exact hy this.2.1
  · cases m with
    | nil =>
      simp only [List.nil_append, List.cons.injEq, List.append_nil] at h1 h2
      obtain ⟨h3, h4⟩ := h2
      rw [row_cons, List.cons.injEq] at h4
      rw [← h1, h3, h4.1, h4.2] at e2
      have e3 : (t ++ [115]) ++ 10 :: tail D t = b ++ 10 :: row D b := by rw [e2]; simp
      obtain ⟨a1, a2⟩ := part (tail_no hD t).2 r2 e3
      exact no_short hD (x := []) (t := t) (b := b) rfl a2
    | cons z m =>
      simp only [List.cons_append, List.cons.injEq] at h2
      obtain ⟨h3, h4⟩ := h2
      cases m with
      | nil =>
        simp only [List.nil_append, List.cons.injEq] at h4
        rw [h4.1, h4.2] at e2
        have hn : 10 ∉ x :: row D t := fun q => by
          rcases List.mem_cons.mp q with q | q
          · exact hy (by rw [← q, h4.1])
          · exact r1 q
        obtain ⟨a1, a2⟩ := part hn r2 e2.symm
        exact no_deep hD (x := [x]) (by simp) (t := t) (b := b) (by rw [← a2]; rfl)
      | cons q m =>
        simp only [List.cons_append, List.cons.injEq] at h4
        obtain ⟨h5, h6⟩ := h4
        rw [h6] at e2
        have e3 : (u ++ y :: x :: m) ++ 10 :: row D t = b ++ 10 :: row D b := by rw [e2]; simp
        obtain ⟨a1, a2⟩ := part r1 r2 e3
        have hw := row_eq hD ht hb a2.symm
        rw [← a1, h1, W_app, W_app] at hw
        simp only [W] at hw
        rw [← h3, ← h5] at hw
        generalize hk : 1 + u.length = k at hw
        rw [Nat.add_mul, Nat.add_mul] at hw
        omega
end
end K94

set_option Elab.async false
set_option linter.all false
set_option maxRecDepth 100000
set_option maxHeartbeats 4000000
namespace K94
open PySem PySem.Spec PyProof.Rows L2
/-! ### enumerate of a text -/
/-- new pairs of a place and the sign that stands there -/
def ItE (z : Str) : It :=
  ⟨fun i _ => i < z.cps.size, fun i H v H' => ∃ T c, v = .ref T ∧ H T = none ∧ H' = upd H T (.tup [.int (i : Nat), .str ⟨#[c]⟩]) ∧ z.cps[i]? = some c, fun i _ => z.cps.size ≤ i⟩
def AtE (z : Str) (t : Tok) (e it : Addr) (i : Nat) (h : Heap) : Prop :=
  (∃ old, IsEnum h e it ((i : Nat) : Int) old) ∧ h.IsStrIter it (strIterType z) z t i ∧ e ≠ it ∧ i ≤ z.cps.size
theorem turn_text {P : Program} {w : World} {K : PySem.W.Frag} {elts : List Expr} {kk : Nat} {tpos : Pos} (z : Str) (t : Tok) (e it : Addr) :
    Turn P w K (.Tuple elts kk tpos) (ItE z) [e, it] e (AtE z t e it) where
  mem := by simp
  obj := fun i h st b hb => by
    obtain ⟨⟨old, h1⟩, ⟨o, h2, _, h3⟩, _⟩ := st
    rcases List.mem_cons.mp hb with q | q
    · subst q; exact ⟨_, h1, fun v q => nomatch q⟩
    · rw [List.mem_singleton.mp q]; exact ⟨o, h2, fun v y => by rw [h3] at y; cases y⟩
  keep := fun i h h' ⟨⟨old, h1⟩, ⟨o, h2, h4⟩, h3⟩ k => ⟨⟨old, k e (by simp) _ h1⟩, ⟨o, k it (by simp) _ h2, h4⟩, h3⟩
  item := by
    intro X hP hw hK hc i pins s σ H E I hf st hg
    subst hP hw hK
    obtain ⟨⟨old, he⟩, hit, hne, hle⟩ := st
    have Dr := Draws.text (prog := X.prog) (w := X.w) (A := X.A.in1) (show X.A.in1.handled = none from I.ok.hd hc) it z t
    have le : e < s.heap.objs.size := Heap.lt_size he
    have li : it < s.heap.objs.size := by obtain ⟨_, q, _⟩ := hit; exact Heap.lt_size q
    refine wpAny_pyNext_enum_itemC Dr he hit hg hne (by simpa using hne) fun y h' tk hy ho hit' hT hsz hk => ?_
    obtain ⟨c, u, hc1, rfl⟩ := hy
    refine ⟨_, rfl, wpAny_letOwnedTupleGo_enum (s := { s with heap := h', toks := tk + 1 }) ho fun h2 he2 sb => ?_⟩
    have fT : H s.heap.objs.size = none := I.hok.fresh (Nat.le_refl _)
    have hT2 := (sb.2 _ (Nat.ne_of_gt le)).trans hT
    have I1 : Inv X pins σ (upd H s.heap.objs.size (.tup [.int (i : Nat), .str ⟨#[c]⟩])) { s with heap := h2, toks := tk + 1 } :=
      I.turnedNew (ch := [e, it]) (fun b ob hb q => (sb.2 b fun y => hb (by simp [y])).trans (hk b ob (fun y => hb (by simp [y])) (fun y => hb (by simp [y])) q)) hf (Nat.le_refl _)
        ⟨by show 2 ≤ sizeLine; decide, _, .cons ⟨_, rfl⟩ (.cons ⟨_, rfl⟩ .nil), ⟨_, hT2, rfl, _, rfl⟩⟩
    refine ⟨.ref s.heap.objs.size, _, I1, rfl, ⟨_, c, rfl, fT, rfl, hc1⟩, ⟨⟨.str ⟨#[c]⟩ u, ?_⟩, (by obtain ⟨o, q, q2⟩ := hit'; exact ⟨o, (sb.2 it (Ne.symm hne)).trans q, q2⟩), hne, hg⟩, fun b hb => ?_⟩
    · rw [show ((i + 1 : Nat) : Int) = (i : Int) + 1 by omega]; exact he2
    · have lb : b < s.heap.objs.size := by
        rcases List.mem_cons.mp hb with q | q
        · rw [q]; exact le
        · rw [List.mem_singleton.mp q]; exact li
      rw [upd_ne (Nat.ne_of_lt lb)]
      exact (hf b hb).1
  done := by
    intro X hP hw hK hc i pins s σ H E I hf st hg
    subst hP hw hK
    obtain ⟨⟨old, he⟩, hit, hne, hle⟩ := st
    have Dr := Draws.text (prog := X.prog) (w := X.w) (A := X.A.in1) (show X.A.in1.handled = none from I.ok.hd hc) it z t
    obtain ⟨f0, f1, f2, f3, f4, f5⟩ := hf it (by simp)
    have ei : i = z.cps.size := Nat.le_antisymm hle hg
    subst ei
    exact wpAny_pyNext_enum_endD Dr he hit fun h' eb => ⟨rfl, I.turned (t' := s.toks) (fun b o hb q => eb b o hb q) f0 f1 f3 f4 f5⟩
  self := fun A i s Q E st h => by obtain ⟨⟨_, he⟩, _⟩ := st; exact wpAny_pyIter_enum he h
/-- enumerate(e), e a text -/
def iEnumS (ta : TA) : TI := fun σ H R => ta σ H fun vs H1 => ∃ z, vs = [.str z] ∧ R (ItE z) H1
theorem pi_enumS {X : Cx} {e : Expr} {ta : TA} {p pos tpos : Pos} {elts : List Expr} {kk : Nat} (hg : Gl X "enumerate") (hm : X.mg "enumerate" = none) (ha : PA X [e] ta)
    (hs : starEach [e] X.env = [(false, eval e X.env)] := by rfl) : PI X (.Tuple elts kk tpos) (.Call (.Name "enumerate" p) [e] [] pos) (iEnumS ta) := by
  refine ⟨fun pins s σ H R I h => ?_⟩
  refine Call_ (ld_blt I hg hm boot_enumerate (PyProof.Rows.callWith_type1 (thn (ha.run pos pins s σ H _ I h) fun us s1 ⟨vs, H1, I1, r1, z, ez, q⟩ => ?_) hs rfl))
  subst ez
  cases r1 with
  | cons r rr =>
    cases rr
    obtain ⟨t, rfl⟩ := r
    refine call_enumerate_str fun h' he hit hsz hk => wpAny_pyIter_enum he ?_
    have I2 : Inv X pins σ H1 { s1 with heap := h' } := I1.kept (t' := s1.toks) hk
    refine ⟨_, [s1.heap.objs.size + 1, s1.heap.objs.size], _, _, H1, rfl, I2, turn_text z t _ _, ⟨⟨.none, he⟩, hit, Nat.succ_ne_self _, Nat.zero_le _⟩, fun b hb => ?_, q⟩
    have lb : s1.heap.objs.size ≤ b := by
      rcases List.mem_cons.mp hb with y | y
      · rw [y]; exact Nat.le_succ _
      · rw [List.mem_singleton.mp y]; exact Nat.le_refl _
    exact I1.fpOk lb (I1.hok.fresh lb)
theorem walk_text {z : Str} : Walk (ItE z) z.cps.size (fun _ => True) (fun i H v H' => ∃ T c, v = .ref T ∧ H T = none ∧ H' = upd H T (.tup [.int (i : Nat), .str ⟨#[c]⟩]) ∧ z.cps[i]? = some c) :=
  ⟨fun _ _ hi _ => hi, fun _ _ => Nat.le_refl _, fun _ _ _ _ _ _ y => y⟩
/-! ### a text so many times -/
def rTimes : R2 := fun x y H Q => ∃ (z : Str) (n : Int), x = .str z ∧ y = .int n ∧ 1 < n ∧ n < 2 ^ 63 ∧ z.length ≠ 0 ∧ z.length * n.toNat ≤ sizeLine ∧ Q (.str ⟨(List.replicate n.toNat z.cps).foldl (· ++ ·) #[]⟩) H
theorem op_times {X : Cx} : OpR X (binaryOp .Mult) rTimes := by
  intro pins s σ H x y u v Q I rx ry h
  obtain ⟨z, n, rfl, rfl, h1, h2, h3, h4, q⟩ := h
  obtain ⟨t, rfl⟩ := rx
  obtain ⟨t', rfl⟩ := ry
  have e1 : ¬ n < 1 := by omega
  have e2 : (n == 1 || z.length == 0) = false := by
    rw [Bool.or_eq_false_iff]
    exact ⟨beq_eq_false_iff_ne.mpr (by omega), beq_eq_false_iff_ne.mpr h3⟩
  have sz : ((List.replicate n.toNat z.cps).foldl (· ++ ·) #[]).size = z.length * n.toNat := by
    generalize n.toNat = k
    have go : ∀ (k : Nat) (acc : Array Nat), ((List.replicate k z.cps).foldl (· ++ ·) acc).size = acc.size + z.length * k := by
      intro k
      induction k with
      | zero => intro acc; simp
      | succ k ih =>
        intro acc
        rw [List.replicate_succ, List.foldl_cons, ih, Array.size_append, Nat.mul_succ]
        show acc.size + z.length + _ = _
        omega
    rw [go]; simp
  refine PySem.P.mul_str ?_ (fun _ _ => ?_) (fun _ _ => ?_) ?_
  · rw [decide_eq_false (by omega), decide_eq_false (by omega)]; rfl
  · have h5 : z.length * n.toNat ≤ 16777216 := Nat.le_trans h4 (Nat.le_of_eq sizeLine_eq)
    have h6 : (z.length : Int) * n ≤ 2 ^ 63 - 1 := by
      have e : ((z.length * n.toNat : Nat) : Int) = (z.length : Int) * n := by
        rw [Int.natCast_mul, Int.toNat_of_nonneg (by omega)]
      omega
    have h7 := Int.le_ediv_of_mul_le (by omega : 0 < n) h6
    omega
  · exact decide_eq_false (by omega)
  · rw [if_neg e1, if_neg (by rw [e2]; exact Bool.false_ne_true)]
    exact ⟨by show Array.size _ ≤ _; rw [sz]; exact h4, .str _, H, I.tok _, ⟨_, rfl⟩, q⟩
/-! ### a text backwards -/
def backS (z : Str) : Str := ⟨z.cps.toList.reverse.toArray⟩
theorem backs (n : Nat) : Builtin.Str.strSliceIndices none none (-1) n = (List.range n).map fun k => n - 1 - k := by
  unfold Builtin.Str.strSliceIndices sliceRange
  simp only [show ¬ ((-1 : Int) > 0) from by decide, if_false]
  by_cases h : n = 0
  · subst h; rfl
  · rw [if_pos (show ((n : Int) - 1 > -1) by omega)]
    have e : ((((n : Int) - 1 - -1 - -1 - 1) / (- -1)).toNat) = n := by
      have : ((n : Int) - 1 - -1 - -1 - 1) / (- -1) = n := by simp
      rw [this]; simp
    rw [e]
    refine List.map_congr_left fun k hk => ?_
    have := List.mem_range.mp hk
    omega
theorem pick_back (l : List Nat) : ((List.range l.length).map fun k => l.length - 1 - k).filterMap (l[·]?) = l.reverse := by
  refine List.ext_getElem? fun i => ?_
  have hall : ((List.range l.length).map fun k => l.length - 1 - k).filterMap (l[·]?) = (List.range l.length).map fun k => l.getD (l.length - 1 - k) 0 := by
    rw [List.filterMap_map]
    have : ∀ m, m ≤ l.length → (List.range m).filterMap ((fun x => l[x]?) ∘ fun k => l.length - 1 - k) = (List.range m).map fun k => l.getD (l.length - 1 - k) 0 := by
      intro m
      induction m with
      | zero => intro _; rfl
      | succ m ih =>
        intro hm
        rw [List.range_succ, List.filterMap_append, List.map_append, ih (by omega)]
        congr 1
        have hlt : l.length - 1 - m < l.length := by omega
        simp [List.getD, hlt]
    exact this _ (Nat.le_refl _)
  rw [hall]
  by_cases hi : i < l.length
  · rw [List.getElem?_reverse hi]
    have hlt : l.length - 1 - i < l.length := by omega
    simp [List.getD, hi, hlt]
  · rw [List.getElem?_eq_none (by simp; omega), List.getElem?_eq_none (by simp; omega)]
def tBackS (te : TE) : TE := fun σ H Q => te σ H fun x H1 => ∃ z, x = .str z ∧ z.length ≤ sizeLine ∧ Q (.str (backS z)) H1
theorem pe_backS {X : Cx} {e : Expr} {te : TE} {k : Nat} {p1 p2 p3 pos : Pos} (he : PE X e te) : PE X (.Subscript e (.Slice none none (some (.UnaryOp .USub (.Constant (.int 1) k p1) p2)) p3) pos) (tBackS te) := by
  refine ⟨fun pins s σ H Q I h => ?_⟩
  refine Subscript_ (thn (he.run pins s σ H _ I h) fun v s1 ⟨x, H1, I1, r1, z, ex, hz, q⟩ => ?_)
  subst ex
  obtain ⟨t, rfl⟩ := r1
  have hst : PO X (some (.UnaryOp .USub (.Constant (.int 1) k p1) p2)) (tPart (tUn (rU fun i => .int (-i)) (tC (.int 1)))) := po_some (pe_un un_neg pe_int)
  refine wpAny_Slice (thn (po_none.run pins s1 σ H1 (fun o G => o = none ∧ G = H1) I1 ⟨rfl, rfl⟩) fun a1 s2 ⟨o1, G1, I2, w1, ea1, eb1⟩ => ?_)
  subst ea1 eb1
  refine thn (po_none.run pins s2 σ G1 (fun o G => o = none ∧ G = G1) I2 ⟨rfl, rfl⟩) fun a2 s3 ⟨o2, G2, I3, w2, ea2, eb2⟩ => ?_
  subst ea2 eb2
  refine thn (hst.run pins s3 σ G2 (fun o G => o = some (-1) ∧ G = G2) I3 ⟨1, rfl, -1, rfl, rfl, rfl⟩) fun a3 s4 ⟨o3, G3, I4, w3, ea3, eb3⟩ => ?_
  subst ea3 eb3
  cases w1
  cases w2
  cases w3 with
  | int _ u3 =>
  have I5 := I4.kept (t' := s4.toks) (h' := s4.heap.push { cls := .type "slice", data := .fields #[.none, .none, .int (-1) u3] }) fun b ob y => Heap.get?_push_of_some _ y
  show wpAny (model X.prog X.w) X.A (subscriptTail e (.Slice none none (some (.UnaryOp .USub (.Constant (.int 1) k p1) p2)) p3) (.str z t) (.ref s4.heap.objs.size)) (EP X pins σ Q) X.xe { s4 with heap := s4.heap.push { cls := .type "slice", data := .fields #[.none, .none, .int (-1) u3] } }
  refine tail_any (ops := [.ref s4.heap.objs.size, .str z t]) (typeIs_str _ _ _) PySem.F.slot_str_getitem.lookup ?_ (by with_unfolding_all rfl)
  refine wpAny_getItem_str_slice (l := none) (u := none) (st := some (-1, u3)) ⟨_, Heap.get?_push_size _ rfl, rfl, rfl⟩ rfl ?_
  have em : sliceMade z t none none (some (-1, u3)) = .str (backS z) := by
    unfold sliceMade slicePicked
    have e1 : (((-1 : Int) == 1) && (Builtin.Str.strSliceIndices none none (-1) z.length).length == z.length) = false := rfl
    show (if (((-1 : Int) == 1) && (Builtin.Str.strSliceIndices none none (-1) z.length).length == z.length) = true then _ else Made.str ⟨((Builtin.Str.strSliceIndices none none (-1) z.length).filterMap (z.cps[·]?)).toArray⟩) = _
    rw [e1, if_neg Bool.false_ne_true, backs]
    have e2 := pick_back z.cps.toList
    have e3 : z.cps.toList.length = z.length := by rw [Array.length_toList]; rfl
    rw [e3] at e2
    simp only [Array.getElem?_toList] at e2
    unfold backS
    rw [← e2]
  rw [em]
  exact ⟨by unfold backS Str.length; rw [List.size_toArray, List.length_reverse, Array.length_toList]; exact hz, .str _, G3, I5.tok _, ⟨_, rfl⟩, q⟩
/-! ### try .. except C as n: y = n; the error is tracked from then on -/
/-- an error object of the class cls -/
def ExV (cls : Value) (a : Addr) : HO := .ext fun h => ∃ (oe : Obj) (vs : Array Value), h.get? a = some oe ∧ Zc cls none oe ∧ oe.data = .fields vs
section
variable {X : Cx} {pins : List (Addr × Obj)} {σ : L2.St} {H : Hp} {s sI : Shared}
/-- an object that is no one's yet is tracked -/
theorem track {a : Addr} {o : HO} (I : Inv X pins σ H s) (n0 : X.s_0.heap.get? a = none) (na : H a = none) (nL : a ≠ X.env.locals) (nC : ∀ x c, X.env.cells.lookup x = some c → c ≠ a)
    (nP : ∀ p ∈ X.pn ++ pins, p.1 ≠ a) (new : ObjOk X.prog X.w (upd H a o) s.heap a o) : Inv X pins σ (upd H a o) s := by
  have ne0 : ∀ b u, X.s_0.heap.get? b = some u → b ≠ a := fun b u e q => by rw [q, n0] at e; cases e
  have neT : ∀ b u, H b = some u → b ≠ a := fun b u e => ne_of_none e na
  refine ⟨I.ok, I.os, I.bare, ⟨I.base.keep, I.base.slot, fun b u e n hx => ?_, I.base.there, fun b xs e => ?_, fun b u xs e => ?_, fun b ps e => ?_⟩, I.loc, I.cell, ?_, fun x c e => ?_, fun p hp => ?_, ?_, I.len⟩
  · rw [upd_ne (ne0 b u e)]; exact I.base.free b u e n hx
  · have q := I.base.tups b xs e
    rw [upd_ne (neT _ _ q)]; exact q
  · have q := I.base.frzs b u xs e
    rw [upd_ne (neT _ _ q)]; exact q
  · obtain ⟨m, q⟩ := I.base.tbls b ps e
    exact ⟨m, by rw [upd_ne (neT _ _ q)]; exact q⟩
  · rw [upd_ne (Ne.symm nL)]; exact I.free
  · rw [upd_ne (nC x c e)]; exact I.freeC x c e
  · obtain ⟨h1, h2, h3⟩ := I.pin p hp
    exact ⟨h1, by rw [upd_ne (nP p hp)]; exact h2, h3⟩
  · exact I.hok.laidN (fun _ _ q => q) na new
/-- what stands apart from an address that is not there -/
theorem apart {a : Addr} (J : Inv X pins σ H sI) (na : sI.heap.get? a = none) (hx : X.ex = []) :
    X.s_0.heap.get? a = none ∧ (∀ x c, X.env.cells.lookup x = some c → c ≠ a) ∧ ∀ p ∈ X.pn ++ pins, p.1 ≠ a := by
  refine ⟨?_, fun x c e q => ?_, fun p hp q => ?_⟩
  · cases e : X.s_0.heap.get? a with
    | none => rfl
    | some o =>
      obtain ⟨o', q⟩ := J.base.there a o e (by rw [hx]; exact fun z => nomatch z)
      rw [na] at q; cases q
  · obtain ⟨v, o, h1, _⟩ := J.cell x c e
    rw [q, na] at h1; cases h1
  · have h1 := (J.pin p hp).1
    rw [q, na] at h1; cases h1
end
def wKeep (K : PySem.W.Frag) (c : Value) (i j : Nat) (Wout : WX) (D : Ends) : WX := fun cls d σ H =>
  ∃ b, PySem.W.exmOne K cls c = some b ∧ (b = true → i < σ.length → j < σ.length → d = none ∧ ∀ a, H a = none → D.nx (((σ.set i (some (.ref a))).set j (some (.ref a))).set i none) (upd H a (ExV cls a))) ∧ (b = false → Wout cls d σ H)
section
variable {X : Cx} {x n y : Str} {c : Value} {i j : Nat} {body : List Stmt} {np p1 p2 p3 pos pos' : Pos} {tb : WX → TS} {Wout : WX}
theorem ps_try_keep (hx : X.ex = []) (hs : X.stack = X.env :: X.outer) (hf : X.env.frame = some X.env.locals) (hN : X.N.Nodup) (hi : X.N[i]? = some n) (hln : X.env.kindOf n = some .local) (hj : X.N[j]? = some y) (hly : X.env.kindOf y = some .local)
    (hij : i ≠ j) (hc : Names X x c) (tk : Takes X Wout) (hd1 : (n == ("__debug__" : Str)) = false) (hd2 : (n == ("__classdict__" : Str)) = false)
    (hb : ∀ (W : WX) (pn : List (Addr × Obj)) (xe : Value → Shared → Prop), Takes (X.tr pn xe) W → PassesOwn (model X.prog X.w) X.A X.env xe → PSs (X.tr pn xe) body (tb W)) :
    PS X (.Try body [.ExceptHandler (some (.Name x np)) (some n) [.Assign [.Name y p1] (.Name n p2) p3] pos'] [] [] pos) (fun D σ H => tb (wKeep X.K c i j Wout D) D σ H) := by
  refine ⟨fun pins s σ H D I h => ?_⟩
  have ok := I.ok
  have hfr : X.A.frames = some (X.env :: X.outer) := by rw [ok.frames, hs]
  refine wpAny_Try_except ?_
  refine wpAny_mono ((hb (wKeep X.K c i j Wout D) (X.pn ++ pins) (fun e t1 => wpAny (model X.prog X.w) X.A (noteFrame e X.env) (fun _ t2 => wpAny (model X.prog X.w) X.A (setFlight e none) (fun _ t3 =>
    wpAny (model X.prog X.w) X.A (handleBy e X.env [.ExceptHandler (some (.Name x np)) (some n) [.Assign [.Name y p1] (.Name n p2) p3] pos']) (SP X pins D) X.xe t3) X.xe t2) X.xe t1) (fun u s' air => ?_) PassesOwn.looking).run [] s σ H D (I.toTry _) h) (fun fl s1 hsp => ?_) (fun e s1 he => he)
  · obtain ⟨a, B, sI, pinsW, τ, G, cls, d, rfl, J0, nb, up, sky, na, os, ag, b, hb1, hyes, hno⟩ := air
    have J : Inv X pins τ G sI := J0.ofTry ok
    have sky2 : Sky B (X.env :: X.outer) a (Zc cls d) X.env.locals s'.heap := by rw [← hs]; exact sky
    show wpAny (model X.prog X.w) X.A (noteFrame (.ref a) X.env) _ _ _
    refine Sky.land Zc.steady hfr hf sky2 fun g1 fly1 upg => ?_
    have J1 : Inv X pins τ G { s' with heap := g1 } := J.landed nb fly1.1 (up.trans upg) os ag
    obtain ⟨oe1, vs1, he1, hz1, hd1'⟩ := fly1.there
    have offFrames : ∀ {g : Heap} {o : Obj} {vs : Array Value}, g.FunFrames B (X.env :: X.outer) → g.get? a = some o → o.data = .fields vs → a ∉ frs (X.env :: X.outer) := fun {g o vs} ff e dd hm => by
      obtain ⟨_, u, e2, bad⟩ := ff.mem hm
      rw [e] at e2; cases e2
      exact bad _ dd
    have nfr := offFrames fly1.2.2.1 he1 hd1'
    have nL : a ≠ X.env.locals := fun q => nfr (List.mem_filterMap.mpr ⟨X.env, List.mem_cons_self, by rw [hf, q]⟩)
    have nF : a ∉ X.fs := fun hm => by
      obtain ⟨e, he, q⟩ := List.mem_filterMap.mp hm
      exact nfr (List.mem_filterMap.mpr ⟨e, List.mem_cons_of_mem _ he, q⟩)
    have S1 := J1.suite he1 hd1' na nL nF
    refine wpAny_handleBy_cons (codeAny_handlers_test ?_) (by intro q; cases q)
    have LT : PySem.W.Looks (model X.prog X.w) g1 (typeOf (.ref a)) cls := fun A Q E t k q => wpAny_typeOf_ref (k _ _ he1) (by rw [hz1.1]; exact q)
    have LM := PySem.W.exm_one (M := model X.prog X.w) (J1.kIn) LT hb1
    have test : ∀ {Q : Value → Shared → Prop} {E : Value → Shared → Prop}, Q c { s' with heap := g1 } → wpAny (model X.prog X.w) (X.A.mark (some (.ref a))) (eval (.Name x np) X.env) Q E { s' with heap := g1 } := fun {Q E} q => by
      obtain ⟨hg, hdbg, hm | ⟨hm, hv, hnn⟩⟩ := hc
      · exact ld_glob (X := X.suite a ((a, oe1) :: (X.pn ++ pins))) S1 hg hm q hdbg
      · exact ld_blt (X := X.suite a ((a, oe1) :: (X.pn ++ pins))) S1 hg hm hv q hnn hdbg
    refine test (LM.here ?_)
    cases b with
    | true =>
      refine codeAny_handlers_suite_as ?_
      refine HandSPX.lands_againZ fly1 fun g2 fly2 upg2 => ?_
      have J2 : Inv X pins τ G { s' with heap := g2 } := J.landed nb fly2.1 ((up.trans upg).trans upg2) os ag
      obtain ⟨oe2, vs2, he2, hz2, hd2'⟩ := fly2.there
      have lenJ : τ.length = X.N.length := J.len
      obtain ⟨dn, hq⟩ := hyes rfl (by rw [lenJ]; exact (List.getElem?_eq_some_iff.mp hi).1) (by rw [lenJ]; exact (List.getElem?_eq_some_iff.mp hj).1)
      subst dn
      have nI : sI.heap.get? a = none := by
        cases e : sI.heap.get? a with
        | none => rfl
        | some o =>
          have z := nb a o e (by rw [hs]; exact nfr)
          have hB : B.get? a = none := fly2.2.1
          rw [hB] at z; cases z
      obtain ⟨n0, nC, nP⟩ := apart J nI hx
      have S2 := J2.suite he2 hd2' na nL nF
      have len := S2.len
      have li : i < X.N.length := (List.getElem?_eq_some_iff.mp hi).1
      refine store_ok (X := X.suite a ((a, oe2) :: (X.pn ++ pins))) (v := .ref a) S2 hN hi (.inl hln) rfl (fun s5 S5 => ?_) (.inr hln)
      -- y = n
      have run := (pss_one (ps_asg (pe_var (X := X.suite a ((a, oe2) :: (X.pn ++ pins))) (i := i) (pos := p2) hi (.inl hln) hd1 hd2) (pg_name (i := j) hN hj (.inl hly) (hf := .inr hly) (pos := p1)) (pos := p3))).run [] s5 (τ.set i (some (.ref a))) G
        { nx := fun σ' H' => σ' = (τ.set i (some (.ref a))).set j (some (.ref a)) ∧ H' = G, rt := fun _ _ => False } S5 ⟨_, by
          rw [List.getElem?_set_self (by
            have : τ.length = X.N.length := len
            omega)], rfl, rfl⟩
      refine wpAny_mono run (fun fl s6 hsp => ?_) (fun _ _ z => False.elim z)
      cases fl with
      | next =>
        obtain ⟨σ6, H6, S6, e1, e2⟩ := hsp
        subst e1 e2
        have at6 := (S6.pin (a, oe2) (List.mem_append_left _ List.mem_cons_self)).1
        have J6 : Inv X pins _ H6 s6 := S6.unsuite ok
        have J7 := track (o := ExV cls a) J6 n0 na nL nC nP ⟨⟨oe2, vs2, at6, hz2, hd2'⟩, ⟨oe2, at6⟩, fun _ _ ⟨u, v, q, r⟩ k => ⟨u, v, k u q, r⟩⟩
        exact gone_ok J7 hN hi hln fun s7 J8 => ⟨_, _, J8, hq a na⟩
      | brk => obtain ⟨_, _, _, q⟩ := hsp; exact q.elim
      | cont => obtain ⟨_, _, _, q⟩ := hsp; exact q.elim
      | ret u => obtain ⟨_, _, _, _, _, q⟩ := hsp; exact q.elim
    | false =>
      show wpAny _ X.A (handleBy (.ref a) X.env []) _ _ _
      refine wpAny_handleBy_nil ?_
      obtain ⟨k1, k2, k3, oe, vs, T, oT, ts', he, hz, hd, h1, hr⟩ := id fly1
      unfold PySem.passOn
      refine wpAny_bind (wpAny_field he hd h1 ?_)
      rw [if_neg (show ¬ ((Value.ref T == Value.none) = true) from by simp)]
      have fin : wpAny (model X.prog X.w) X.A (setFlight (.ref a) X.env.frame) (fun _ s4 => wpAny (model X.prog X.w) X.A (throw (.ref a) : Sem Flow) (SP X pins D) X.xe s4) X.xe { s' with heap := g1 } := by
        rw [hf]
        refine HandSPX.setFlight_upZ fly1 fun g3 hg3 upg3 => wpAny_throw (tk _ _ ?_)
        exact ⟨a, B, sI, pins, τ, G, cls, d, rfl, J, nb, (up.trans upg).trans upg3, .inr (.inr (by rw [hs]; exact hg3)), na, os, ag, hno rfl⟩
      first
        | exact wpAny_bind (wpAny_pure (wpAny_bind fin))
        | exact wpAny_bind fin
  · cases fl with
    | next => obtain ⟨σ', H', J', q⟩ := hsp; exact wpAny_execs_nil ⟨σ', H', J'.ofTry ok, q⟩
    | brk => obtain ⟨σ', H', J', q⟩ := hsp; exact ⟨σ', H', J'.ofTry ok, q⟩
    | cont => obtain ⟨σ', H', J', q⟩ := hsp; exact ⟨σ', H', J'.ofTry ok, q⟩
    | ret u => obtain ⟨v, σ', H', J', r, q⟩ := hsp; exact ⟨v, σ', H', J'.ofTry ok, r, q⟩
end
/-- isinstance(e, c), e None or a tracked error of the class at D -/
def rIsV (K : PySem.W.Frag) : List V → Hp → VK → Prop := fun xs H Q => ∃ (a D : Addr) (c : V) (cv : Value) (b : Bool), xs = [.ref a, c] ∧ H a = some (ExV (.ref D) a) ∧ ExcC K D ∧ (∀ u, RelV c u → u = cv) ∧ PySem.W.kitOne K (.ref D) cv = some b ∧ Q (.bl b) H
theorem call_isV {X : Cx} : CallR X (.builtin "isinstance") (rIsV X.K) := by
  intro pins s σ H xs us Q I r h
  obtain ⟨a, D, c, cv, b, rfl, ha, C, hcv, e, q⟩ := h
  cases r with
  | cons rx rr =>
    cases rr with
    | cons rt rr =>
      cases rr
      cases rx
      have ec := hcv _ rt
      subst ec
      obtain ⟨⟨oe, vs, hget, hz, hv⟩, _, _⟩ := I.hok a _ ha
      have J : PySem.W.InstAt s.heap a oe D none := by
        obtain ⟨oc, od, oda, osl⟩ := oe
        obtain ⟨h1, h2⟩ := hz
        dsimp only at h1 h2 hv
        subst h1 h2 hv
        exact ⟨hget, rfl, rfl, trivial⟩
      exact PySem.W.kia_one (PySem.W.handS_kitx_exc C.hg C.hk C.hs C.hd C.ha C.hn C.ht C.hm) I.kIn J e (fun z => nomatch z) fun tk => ⟨.bl b, H, I.kept (t' := tk) fun _ _ z => z, rfl, q⟩
/-! ### raise C(), C an own class without an __init__ of its own -/
theorem pmk_none {X : Cx} {C : Addr} {bmB : List Value} {B newId initId : String} {x : Str} {p pos : Pos} (F : ExcBaseFacts B newId initId bmB) (q : PySem.W.excIn X.K C bmB newId = true) (gC : X.mg x = some (.ref C))
    (kC : PySem.W.keepIn X.K (.ref C) = true) (r : Raises X (.ref C)) (hg : Gl X x) (hdb : (x == ("__debug__" : Str)) = false := by decide) : PMk X (.Call (.Name x p) [] [] pos) (fun _ H Q => Q (.ref C) none H) := by
  intro pins s σ H Q I h
  refine wpAny_Call_Name_kw (ld_glob I hg gC ?_ hdb)
  refine PySem.W.callWith_K0 I.kIn kC ?_
  show wpAny _ _ (call (.ref C) []) _ _ _
  obtain ⟨bm, N, nm, qn, bs, hdct, sn, sub, ab, col, dd, k0, k1, k2, k3, k5, mN, hC, hN, hni, T⟩ := exc_obj I.kIn q
  exact wpAny_call_exc_subT F T hC hN hni (fun h' e hm => mk_of I hm r h (I.hok.gone hm.new)) (Nat.zero_le _)
end K94

set_option Elab.async false
set_option linter.all false
set_option maxRecDepth 100000
set_option maxHeartbeats 4000000
namespace K94
open PySem PySem.Spec PyProof.Rows L2 PySem.Builtin.Str PySem.StrLaws
def nl : Str := ⟨#[10]⟩
def isSign (c : Nat) : Bool := decide (32 ≤ c) && decide (c ≤ 126)
def signsB (z : Str) : Bool := z.cps.toList.all isSign
def goodL (l : List Nat) : Bool := l.all fun c => c == 10 || isSign c
def goodB (z : Str) : Bool := goodL z.cps.toList
abbrev tl (z : Str) : List Nat := z.cps.toList
theorem len_tl (z : Str) : z.length = (tl z).length := TL.len_tl z
theorem pre_one (c : Nat) (r : List Nat) : TL.pre [10] (c :: r) = (c == 10) := by
  show ((c :: r).take 1 == [10]) = _
  rw [List.take_succ_cons, List.take_zero]
  by_cases h : c = 10
  · subst h; rfl
  · rw [beq_eq_false_iff_ne.mpr h, beq_eq_false_iff_ne.mpr]
    intro q; injection q with q _; exact h q
theorem spl_good : ∀ (l acc : List Nat), (TL.spl [10] 0 acc l).all (fun r => r.all isSign) = (acc.all isSign && goodL l)
  | [], acc => by
    rw [TL.spl_nil]
    simp [goodL]
  | c :: r, acc => by
    by_cases h : c = 10
    · subst h
      rw [TL.spl_hit (by rw [pre_one]; rfl)]
      show (acc.all isSign && (TL.spl [10] 0 [] r).all _) = _
      rw [spl_good r []]
      simp [goodL]
    · have hb : (c == 10) = false := beq_eq_false_iff_ne.mpr h
      rw [TL.spl_miss (by rw [pre_one]; exact hb), spl_good r (acc ++ [c])]
      simp only [goodL, List.all_append, List.all_cons, List.all_nil, hb, Bool.false_or, Bool.and_true, Bool.and_assoc]
theorem spl_short : ∀ (l acc : List Nat), ∀ r ∈ TL.spl [10] 0 acc l, r.length ≤ acc.length + l.length
  | [], acc, r, h => by
    rw [TL.spl_nil] at h
    rw [List.mem_singleton.mp h]; omega
  | c :: s, acc, r, h => by
    by_cases hc : c = 10
    · subst hc
      rw [TL.spl_hit (by rw [pre_one]; rfl)] at h
      rcases List.mem_cons.mp h with h | h
      · rw [h]; omega
      · have := spl_short s [] r h
        simp only [List.length_nil, List.length_cons] at this ⊢; omega
    · rw [TL.spl_miss (by rw [pre_one]; exact beq_eq_false_iff_ne.mpr hc)] at h
      have := spl_short s (acc ++ [c]) r h
      simp only [List.length_append, List.length_cons, List.length_nil] at this ⊢; omega
theorem split_nl (z : Str) : (Txt.split z nl).map tl = TL.spl [10] 0 [] (tl z) :=
  TL.split_spl z nl (by intro h; cases h) (TL.kind_ok (by decide +kernel))
theorem split_good (z : Str) : (Txt.split z nl).all signsB = goodB z := by
  have h := spl_good (tl z) []
  rw [← split_nl, List.all_map] at h
  exact h.trans (by simp [goodB])
theorem split_short (z r : Str) (h : r ∈ Txt.split z nl) : r.length ≤ z.length := by
  have h2 := spl_short (tl z) [] (tl r) (by rw [← split_nl]; exact List.mem_map_of_mem h)
  rw [len_tl, len_tl]
  simpa using h2
/-- the first line feed from the end -/
theorem back_first {z : Str} {k : Nat} {rest : List Nat} (h : occurrences (backS z) nl 0 (backS z).length 1 = k :: rest) :
    k < z.length ∧ ∃ p q, tl z = p ++ 10 :: q ∧ q.length = k ∧ 10 ∉ q := by
  have hn : tl nl ≠ [] := by intro h; cases h
  have hat : ∀ i, At (backS z) nl (backS z).length i ↔ (tl (backS z))[i]? = some 10 := fun i => by
    rw [TL.at_iff hn]
    show TL.pre [10] ((tl (backS z)).drop i) = true ↔ _
    cases e : (tl (backS z)).drop i with
    | nil =>
      have : (tl (backS z)).length ≤ i := List.drop_eq_nil_iff.mp e
      rw [List.getElem?_eq_none this]
      exact ⟨fun q => absurd q (by rw [TL.pre_nil (by simp)]; exact Bool.false_ne_true), fun q => nomatch q⟩
    | cons c r =>
      have e2 : (tl (backS z))[i]? = some c := by
        have := congrArg List.head? e
        rw [List.head?_drop] at this
        exact this
      rw [pre_one, e2]
      simp
  have etl : tl (backS z) = (tl z).reverse := rfl
  rcases occ_head (backS z) nl 1 (Nat.le_refl 1) with ⟨h0, _⟩ | ⟨i, r, h0, h1, h2⟩
  · rw [h] at h0; cases h0
  · rw [h] at h0
    injection h0 with h0 _
    subst h0
    rw [hat, etl] at h1
    have hk : k < (tl z).reverse.length := (List.getElem?_eq_some_iff.mp h1).1
    have hk2 : k < z.length := by rw [len_tl]; simpa using hk
    have cut : (tl z).reverse = (tl z).reverse.take k ++ 10 :: (tl z).reverse.drop (k + 1) := by
      have := List.take_append_drop k (tl z).reverse
      rw [List.drop_eq_getElem_cons hk] at this
      rw [(List.getElem?_eq_some_iff.mp h1).2] at this
      exact this.symm
    refine ⟨hk2, ((tl z).reverse.drop (k + 1)).reverse, ((tl z).reverse.take k).reverse, ?_, ?_, ?_⟩
    · have e := congrArg List.reverse cut
      rw [List.reverse_reverse, List.reverse_append, List.reverse_cons, List.append_assoc] at e
      exact e
    · rw [List.length_reverse, List.length_take]
      omega
    · rw [List.mem_reverse]
      intro hm
      obtain ⟨j, hj⟩ := List.getElem?_of_mem hm
      have hjk : j < k := by
        have := (List.getElem?_eq_some_iff.mp hj).1
        rw [List.length_take] at this; omega
      rw [List.getElem?_take_of_lt hjk] at hj
      exact h2 j hjk ((hat j).mpr (by rw [etl]; exact hj))
theorem back_some {z : Str} (h : 10 ∈ tl z) : ∃ k rest, occurrences (backS z) nl 0 (backS z).length 1 = k :: rest := by
  have e := found_one (backS z) 10
  have hm : 10 ∈ (backS z).cps.toList := by
    show 10 ∈ (tl z).reverse
    exact List.mem_reverse.mpr h
  rw [decide_eq_true hm] at e
  cases q : occurrences (backS z) nl 0 (backS z).length 1 with
  | nil =>
    have e' : (!(occurrences (backS z) nl 0 (backS z).length 1).isEmpty) = true := e
    rw [q] at e'; cases e'
  | cons k r => exact ⟨k, r, rfl⟩
/-! ### slices -/
theorem tl_cut (z : Str) (lo hi : Option Int) : tl (cutS z lo hi) = ((tl z).drop (HT.sIx z.length 0 lo)).take (HT.sIx z.length z.length hi - HT.sIx z.length 0 lo) := rfl
theorem cut_to (z : Str) {n : Nat} (h : n ≤ z.length) : tl (cutS z none (some (n : Int))) = (tl z).take n := by
  rw [tl_cut, HT.sIx_none, HT.sIx_nat, List.drop_zero, Nat.sub_zero, Nat.min_eq_left h]
theorem cut_from (z : Str) (n : Nat) : tl (cutS z (some (n : Int)) none) = (tl z).drop n := by
  rw [tl_cut, HT.sIx_none, HT.sIx_nat]
  have hl := len_tl z
  by_cases h : n ≤ z.length
  · rw [Nat.min_eq_left h, List.take_of_length_le]
    rw [List.length_drop]; omega
  · rw [Nat.min_eq_right (by omega), Nat.sub_self, List.take_zero, List.drop_eq_nil_of_le (by omega)]
theorem cut_to' (z : Str) (n : Nat) : tl (cutS z none (some (n : Int))) = (tl z).take n := by
  rw [tl_cut, HT.sIx_none, HT.sIx_nat, List.drop_zero, Nat.sub_zero]
  have hl := len_tl z
  by_cases h : n ≤ z.length
  · rw [Nat.min_eq_left h]
  · rw [Nat.min_eq_right (by omega), List.take_of_length_le (by omega), List.take_of_length_le (by omega)]
/-! ### numbers -/
def numS (n : Nat) : Str := Str.ofString (toString ((n : Nat) : Int))
theorem tl_num (n : Nat) : tl (numS n) = TL.numL n := TL.tl_num n
theorem digits : Digits TL.numL := ⟨fun n c h => TL.numL_digits n c h, fun _ _ h => TL.numL_inj h⟩
theorem num_short {n : Nat} (h : n < P) : (TL.numL n).length ≤ 10 := TL.numL_len (by decide) (Nat.lt_trans h (by decide))
theorem val_bound : ∀ (l : List Nat) (a : Nat), (∀ c ∈ l, 48 ≤ c ∧ c ≤ 57) → l.foldl (fun acc c => acc * 10 + (c - 48)) a < (a + 1) * 10 ^ l.length
  | [], a, _ => by simp
  | c :: r, a, h => by
    rw [List.foldl_cons, List.length_cons, Nat.pow_succ]
    have h1 := val_bound r (a * 10 + (c - 48)) fun d hd => h d (List.mem_cons_of_mem _ hd)
    have h2 := h c List.mem_cons_self
    have h3 : (a * 10 + (c - 48) + 1) * 10 ^ r.length ≤ ((a + 1) * 10) * 10 ^ r.length := Nat.mul_le_mul_right _ (by omega)
    have h4 : (a + 1) * (10 ^ r.length * 10) = (a + 1) * 10 * 10 ^ r.length := by rw [Nat.mul_comm (10 ^ r.length) 10, Nat.mul_assoc]
    omega
/-- what stands for a row's figures -/
theorem int_figures {z : Str} (h : ∀ c ∈ tl z, 48 ≤ c ∧ c ≤ 57) (hne : tl z ≠ []) (hl : z.length ≤ 10) : ∃ n : Nat, PySem.intText? z = some (n : Int) ∧ n < 10 ^ 10 ∧ (∀ m : Nat, z = numS m → n = m) := by
  refine ⟨_, PySem.intText_digits h hne (by omega), ?_, fun m e => ?_⟩
  · have h1 := val_bound (tl z) 0 h
    have h2 : 10 ^ (tl z).length ≤ 10 ^ 10 := Nat.pow_le_pow_right (by decide) (by rw [← len_tl]; exact hl)
    rw [Nat.zero_add, Nat.one_mul] at h1
    exact Nat.lt_of_lt_of_le h1 h2
  rw [show z.cps.toList = TL.numL m by rw [e]; exact tl_num m]
  exact TL.numL_val m
/-- a sealed text of a body -/
structure IsSeal (l b : List Nat) : Prop where
  eq : l = sealL TL.numL b
  good : goodL b = true
  short : b.length ≤ 1000000
theorem IsSeal.one {l b b' : List Nat} (h : IsSeal l b) (h' : IsSeal l b') : b = b' :=
  (part (row_no digits b) (row_no digits b') (h.eq.symm.trans h'.eq)).1
theorem good_of {l : List Nat} (h : goodL l = true) : ∀ c ∈ l, c = 10 ∨ (32 ≤ c ∧ c ≤ 126) := fun c hc => by
  have q := List.all_eq_true.mp h c hc
  simp only [Bool.or_eq_true, beq_iff_eq, isSign, Bool.and_eq_true, decide_eq_true_eq] at q
  exact q
theorem good_by {l : List Nat} (h : ∀ c ∈ l, c = 10 ∨ (32 ≤ c ∧ c ≤ 126)) : goodL l = true := List.all_eq_true.mpr fun c hc => by
  simp only [Bool.or_eq_true, beq_iff_eq, isSign, Bool.and_eq_true, decide_eq_true_eq]
  exact h c hc
end K94

set_option Elab.async false
set_option linter.all false
set_option maxRecDepth 100000
set_option maxHeartbeats 4000000
namespace K94
open PySem PySem.Spec PyProof.Rows L2
def top (i : Nat) : Stmt := PySem.Challenge.pw_lentandback_k94_sums_notice_each_change.main.body.getD i (.Pass ⟨0, 0, 0, 0⟩)
abbrev sSigns : Stmt := top 5
abbrev sSumOf : Stmt := top 11
abbrev sSealable : Stmt := top 12
abbrev sSealed : Stmt := top 13
abbrev sTold : Stmt := top 14
abbrev sUnsealed : Stmt := top 15
/-- what the top says of names -/
structure Nm (mg : Str → Option Value) : Prop where
  isi : mg "isinstance" = none
  all : mg "all" = none
  str : mg "str" = none
  len : mg "len" = none
  enum : mg "enumerate" = none
  ord : mg "ord" = none
  int : mg "int" = none
  prime : ∃ t, mg "PRIME" = some (.int 1000000007 t)
  mostSealed : ∃ t, mg "MOST_SEALED" = some (.int 1000000 t)
  mostSum : ∃ t, mg "MOST_SUM" = some (.int 10 t)
  figures : ∃ t, mg "FIGURES" = some (.str "0123456789" t)
def MX : Nat := 1000100
def spSigns : Sp := fun vs H Q _ => ∃ z : Str, vs = [.str z] ∧ z.length ≤ 1000100 ∧ ∀ H', Same H H' → Q (.bl (signsB z)) H'
theorem single_le (a b : Nat) : (!decide ((⟨#[b]⟩ : Str).cps.toList < (⟨#[a]⟩ : Str).cps.toList)) = decide (a ≤ b) := by
  have h : ((⟨#[b]⟩ : Str).cps.toList < (⟨#[a]⟩ : Str).cps.toList) ↔ b < a := by
    show ([b] : List Nat) < [a] ↔ b < a
    rw [List.cons_lt_cons_iff]
    simp
  by_cases e : a ≤ b
  · rw [decide_eq_true e, decide_eq_false (fun q => by have := h.mp q; omega)]; rfl
  · rw [decide_eq_false e, decide_eq_true (h.mpr (by omega))]; rfl
/-! ### heaps that grow -/
theorem Same.over {H H1 : Hp} {p : Addr} {o : HO} (h : Same H H1) (n : H p = none) : Same H (upd H1 p o) := fun b u e => by
  rw [upd_ne (ne_of_none e n)]
  exact h b u e
theorem take_snoc {α : Type} {l : List α} {i : Nat} {x : α} (h : l[i]? = some x) : l.take (i + 1) = l.take i ++ [x] := by
  rw [List.take_succ, h]; rfl
theorem arr_at {z : Str} {i c : Nat} (h : z.cps[i]? = some c) : z.cps.toList[i]? = some c := by rw [Array.getElem?_toList]; exact h
section
variable {K : PySem.W.Frag} {σ : L2.St} {H H1 : Hp} {D : Addr} {Qd : Hp → Prop}
/-- [.. for x in a text], its items told sign by sign, the heap as it was -/
theorem lc_signs {z : Str} {slot : Nat} {te : TE} {vs : List Nat} (F : Nat → V) (hD : H1 D = none) (hz : z.length ≤ 1000100)
    (hw : ∀ c, wipe ((wipe σ vs).set slot (some (.str ⟨#[c]⟩))) vs = wipe σ vs) (he : ∀ c G Q, c ∈ z.cps.toList → Q (F c) G → te ((wipe σ vs).set slot (some (.str ⟨#[c]⟩))) G Q)
    (hd : ∀ G, Same H1 G → G D = some (.lst (z.cps.toList.map F)) → Qd G) :
    ∃ W : Nat → Nat → Hp → Prop, (∃ m, W 0 m (upd H1 D (.lst []))) ∧ ∀ i m H, W i m H →
      ((Its z).stop i H ∧ Qd H) ∨ ((Its z).go i H ∧ ∃ Nx : Hp → Prop, (∀ H', Nx H' → ∃ m', m' < m ∧ W (i + 1) m' H') ∧ ∀ x H', (Its z).yld i H x H' → gName slot x (wipe σ vs) H' fun σ2 H2 => wipe σ2 vs = wipe σ vs ∧ tYes σ2 H2 fun b H3 =>
        if b = true then te σ2 H3 fun y H4 => ∃ acc, H4 D = some (.lst acc) ∧ acc.length < sizeLine ∧ Nx (upd H4 D (.lst (acc ++ [y]))) else Nx H3) := by
  refine lc_it (walk_str (z := z)) (fun i G => Same H1 G ∧ G D = some (.lst ((z.cps.toList.take i).map F))) ⟨Same.over (Same.refl _) hD, upd_same⟩ (fun _ _ _ _ => trivial) ?_ ?_
  · rintro i x G G' hi ⟨s1, d1⟩ ⟨rfl, c, hc, rfl⟩
    refine ⟨hw c, ?_⟩
    unfold tYes
    dsimp only
    rw [if_pos rfl]
    refine he c _ _ (List.mem_of_getElem? (arr_at hc)) ⟨_, d1, ?_, Same.over s1 hD, ?_⟩
    · rw [List.length_map, List.length_take]
      have : sizeLine = 16777216 := sizeLine_eq
      have : z.cps.toList.length = z.length := by rw [Array.length_toList]; rfl
      omega
    · rw [upd_same, take_snoc (arr_at hc), List.map_append]; rfl
  · rintro G ⟨s1, d1⟩
    refine hd G s1 ?_
    rw [d1, List.take_of_length_le (by rw [Array.length_toList]; exact Nat.le_refl _)]
end
section
variable {P : Program} {w : World} {K : PySem.W.Frag} {mg : Str → Option Value} {base : Heap}
theorem scSigns : FnScope ["value", "sign"] ["value"] (defScope sSigns) := ⟨rfl, rfl, rfl, by decide +kernel, rfl, by decide +kernel, by decide +kernel⟩
theorem ok_signs {f : Addr} {fd : FuncData} (F : Fun K "is_signs" "is_signs" sSigns f fd) (T : Nm mg) : FnOk P w K mg base CX0 1 f fd ["value"] spSigns := by
  refine F.ok scSigns (fun vs H Q E h => ?_) (fun cdv A outer s H vs Q E hr h => ?_)
  · obtain ⟨z, rfl, _⟩ := h
    rfl
  · obtain ⟨z, rfl, hz, k⟩ := h
    refine ⟨_, pss_one (ps_ret (pe_and (pe_callB call_isi (by rfl) T.isi (by decide +kernel) (pa_cons (pv 0) (pa_cons (pe_bltn (v := .ty "str") (by rfl) T.str (by decide +kernel) rfl) pa_nil)))
      (pe_one (pe_callB (cr_all rfl) (by rfl) T.all (by decide +kernel) (pa_cons
        (pe_lc (own := [("sign", 1)]) (g := gName 1) (tt := tYes) rfl scSigns.nd (pi_str (pv 0)) (blkOk_by (N := ["value", "sign"]) (sc := defScope sSigns) (by decide +kernel)) (fun _ _ _ _ _ => pg_name (i := 1) scSigns.nd rfl (Or.inl rfl)) (fun _ _ _ _ _ => pts_nil)
          (fun _ _ _ _ _ => pe_chain op_le_str op_le_str pe_str (pv 1) pe_str)) pa_nil))))), ?_⟩
    refine ⟨_, rfl, .str z, .ty "str", .type "str", .type "str", true, rfl, .ty "str", .base (.str z), kit_ty (by decide +kernel), true, rfl, iteT ?_⟩
    refine ⟨_, rfl, z, rfl, fun D hD => lc_signs (slot := 1) (fun c => .bl (isSign c)) hD (by omega) (fun c => rfl) (fun c G Q' hc q => ?_) fun G sG dG => ?_⟩
    · refine ⟨.str ⟨#[c]⟩, rfl, _, _, rfl, rfl, decide (32 ≤ c), congrArg V.bl (single_le 32 c), ?_⟩
      by_cases h1 : 32 ≤ c
      · rw [decide_eq_true h1, if_pos rfl]
        refine ⟨_, _, rfl, rfl, ?_⟩
        have e : V.bl (!decide ((Str.ofString "~").cps.toList < (⟨#[c]⟩ : Str).cps.toList)) = V.bl (isSign c) := by
          rw [show (Str.ofString "~") = ⟨#[126]⟩ from rfl, single_le c 126]
          unfold isSign
          rw [decide_eq_true h1, Bool.true_and]
        rw [e]
        exact q
      · rw [decide_eq_false h1, if_neg Bool.false_ne_true]
        have e : isSign c = false := by unfold isSign; rw [decide_eq_false h1, Bool.false_and]
        rw [← e]
        exact q
    · refine ⟨D, z.cps.toList.map isSign, rfl, SqL.of (by rw [dG, List.map_map]; rfl), ?_⟩
      have e : (z.cps.toList.map isSign).all id = signsB z := by unfold signsB; rw [List.all_map]; rfl
      rw [e]
      exact k G sG
/-! ### sum_of -/
def spSum : Sp := fun vs H Q _ => ∃ z : Str, vs = [.str z] ∧ z.length ≤ 1000100 ∧ ∀ H', Same H H' → Q (.int ((W 1 (tl z) % K94.P : Nat) : Int)) H'
theorem W_snoc (l : List Nat) (c : Nat) : W 1 (l ++ [c]) = W 1 l + (1 + l.length) * c := by
  rw [W_app]; simp [W]
theorem scSumOf : FnScope ["text", "found", "place", "sign"] ["text"] (defScope sSumOf) := ⟨rfl, rfl, rfl, by decide +kernel, rfl, by decide +kernel, by decide +kernel⟩
theorem ok_sumOf {f : Addr} {fd : FuncData} (F : Fun K "sum_of" "sum_of" sSumOf f fd) (T : Nm mg) : FnOk P w K mg base CX0 1 f fd ["text"] spSum := by
  refine F.ok scSumOf (fun vs H Q E h => ?_) (fun cdv A outer s H vs Q E hr h => ?_)
  · obtain ⟨z, rfl, _⟩ := h
    rfl
  · obtain ⟨z, rfl, hz, k⟩ := h
    obtain ⟨tp, gp⟩ := T.prime
    refine ⟨_, pss_cons (ps_set (i := 1) scSumOf.nd rfl (Or.inl rfl) pe_int)
      (pss_cons (ps_for PassesOwn.never rfl (pi_enumS (by rfl) T.enum (pa_cons (pv 0) pa_nil)) (pg_tup rfl (pgs_cons (pg_name (i := 2) scSumOf.nd rfl (Or.inl rfl)) (pgs_cons (pg_name (i := 3) scSumOf.nd rfl (Or.inl rfl)) pgs_nil)))
        (pss_one (ps_set (i := 1) scSumOf.nd rfl (Or.inl rfl) (pe_op op_mod (pe_op op_add (pv 1) (pe_op op_mul (pe_op op_add (pv 2) pe_int) (pe_callB call_ord (by rfl) T.ord (by decide +kernel) (pa_cons (pv 3) pa_nil)))) (pe_glob (v := .int 1000000007) rfl gp ⟨_, rfl⟩)))))
      (pss_one (ps_ret (pv 1)))), ?_⟩
    refine ⟨_, rfl, z, rfl, for_it (walk_text (z := z)) (fun i σ G => Same H G ∧ ∃ v1 v2, σ = [some (.str z), some (.int ((W 1 ((tl z).take i) % K94.P : Nat) : Int)), v1, v2]) ⟨Same.refl _, none, none, rfl⟩ (fun _ _ _ _ _ => trivial) ?_ ?_⟩
    · rintro i x σ G G' hi ⟨sG, v1, v2, rfl⟩ ⟨T0, c, rfl, fT, rfl, hc⟩
      refine ⟨T0, _, rfl, SqT.of upd_same, rfl, _, _, rfl, _, _, rfl, rfl, ?_⟩
      have lz := len_tl z
      have hi2 : i < z.length := hi
      refine ⟨_, rfl, _, rfl, _, _, rfl, rfl, .str ⟨#[c]⟩, rfl, _, rfl, rfl, _, _, rfl, rfl, .inl ⟨by omega, by omega⟩, _, _, rfl, rfl, _, _, rfl, rfl, (by show (0 : Int) < 1000000007; decide), ?_⟩
      refine ⟨fun b o e => ?_, some (.int (i : Nat)), some (.str ⟨#[c]⟩), ?_⟩
      · rw [upd_ne (ne_of_none (sG b o e) fT)]
        exact sG b o e
      · have e1 : (tl z).take (i + 1) = (tl z).take i ++ [c] := take_snoc (arr_at hc)
        rw [e1, W_snoc, List.length_take, Nat.min_eq_left (by omega)]
        have e2 : ((((W 1 ((tl z).take i) % K94.P : Nat) : Int) + ((i : Nat) + 1) * (((⟨#[c]⟩ : Str).cps.getD 0 0 : Nat) : Int)) % 1000000007) = (((W 1 ((tl z).take i) + (1 + i) * c) % K94.P : Nat) : Int) := by
          have e3 : ((i : Nat) + 1 : Int) * ((c : Nat) : Int) = (((1 + i) * c : Nat) : Int) := by
            rw [Int.natCast_mul]
            congr 1
            omega
          show (_ + ((i : Nat) + 1 : Int) * ((c : Nat) : Int)) % 1000000007 = _
          rw [e3]
          generalize W 1 ((tl z).take i) = a
          generalize (1 + i) * c = b
          unfold K94.P
          omega
        rw [← e2]
        rfl
    · rintro σ G ⟨sG, v1, v2, rfl⟩
      refine ⟨_, rfl, ?_⟩
      rw [List.take_of_length_le (show (tl z).length ≤ z.cps.size from Nat.le_of_eq (len_tl z).symm)]
      exact k G sG
end
end K94

set_option Elab.async false
set_option linter.all false
set_option maxRecDepth 100000
set_option maxHeartbeats 4000000
namespace K94
open PySem PySem.Spec PyProof.Rows L2
/-- no text -/
def NoStr (K : PySem.W.Frag) (H : Hp) (v : V) : Prop := ∃ T, TyX K H v (.type T) ∧ kitB T "str" = some false
def fits (z : Str) : Bool := decide (z.length ≤ 1000000) && goodB z
def spSealable (K : PySem.W.Frag) : Sp := fun vs H Q _ => ∃ v, vs = [v] ∧ ((NoStr K H v ∧ ∀ H', Same H H' → Q (.bl false) H') ∨ ∃ z : Str, v = .str z ∧ z.length ≤ 1000100 ∧ ∀ H', Same H H' → Q (.bl (fits z)) H')
section
variable {P : Program} {w : World} {K : PySem.W.Frag} {mg : Str → Option Value} {base : Heap}
/-- [f(x) for x in a list], each item's value told, all that was tracked kept -/
theorem lc_map {H1 : Hp} {σ : L2.St} {D a : Addr} {xs : List V} {slot : Nat} {te : TE} {vs : List Nat} {Qd : Hp → Prop} (F : V → V) (hD : H1 D = none) (hS : SqL K H1 a xs) (hz : xs.length ≤ 1000200)
    (hw : ∀ x, wipe ((wipe σ vs).set slot (some x)) vs = wipe σ vs) (he : ∀ x G Q, x ∈ xs → Same H1 G → (∀ G', Same G G' → Q (F x) G') → te ((wipe σ vs).set slot (some x)) G Q)
    (hd : ∀ G, Same H1 G → G D = some (.lst (xs.map F)) → Qd G) :
    ∃ W : Nat → Nat → Hp → Prop, (∃ m, W 0 m (upd H1 D (.lst []))) ∧ ∀ i m H, W i m H →
      ((Itl K a).stop i H ∧ Qd H) ∨ ((Itl K a).go i H ∧ ∃ Nx : Hp → Prop, (∀ H', Nx H' → ∃ m', m' < m ∧ W (i + 1) m' H') ∧ ∀ x H', (Itl K a).yld i H x H' → gName slot x (wipe σ vs) H' fun σ2 H2 => wipe σ2 vs = wipe σ vs ∧ tYes σ2 H2 fun b H3 =>
        if b = true then te σ2 H3 fun y H4 => ∃ acc, H4 D = some (.lst acc) ∧ acc.length < sizeLine ∧ Nx (upd H4 D (.lst (acc ++ [y]))) else Nx H3) := by
  refine lc_list (K := K) (a := a) (xs := xs) (fun i G => Same H1 G ∧ G D = some (.lst ((xs.take i).map F))) ⟨Same.over (Same.refl _) hD, upd_same⟩ (fun i G _ ⟨s1, _⟩ => s1.seq hS) ?_ ?_
  · rintro i x G hx ⟨s1, d1⟩
    refine ⟨hw x, ?_⟩
    unfold tYes
    dsimp only
    rw [if_pos rfl]
    refine he x G _ (List.mem_of_getElem? hx) s1 fun G' s2 => ⟨_, s2 _ _ d1, ?_, Same.over (s1.trans s2) hD, ?_⟩
    · rw [List.length_map, List.length_take]
      have : sizeLine = 16777216 := sizeLine_eq
      omega
    · rw [upd_same, take_snoc hx, List.map_append]; rfl
  · rintro G ⟨s1, d1⟩
    rw [List.take_length] at d1
    exact hd G s1 d1
theorem split_many (z : Str) : (Txt.split z nl).length ≤ z.length + 1 := by
  have h : ∀ (l acc : List Nat), (TL.spl [10] 0 acc l).length ≤ l.length + 1 := by
    intro l
    induction l with
    | nil => intro acc; rw [TL.spl_nil]; simp
    | cons c r ih =>
      intro acc
      by_cases hc : c = 10
      · subst hc
        rw [TL.spl_hit (by rw [pre_one]; rfl)]
        have := ih []
        simp only [List.length_cons] at this ⊢
        show (TL.spl [10] 0 [] r).length + 1 ≤ _
        omega
      · rw [TL.spl_miss (by rw [pre_one]; exact beq_eq_false_iff_ne.mpr hc)]
        have := ih (acc ++ [c])
        simp only [List.length_cons]; omega
  have := h (tl z) []
  rw [← split_nl, List.length_map] at this
  rw [len_tl]; exact this
theorem scSealable : FnScope ["value", "row"] ["value"] (defScope sSealable) := ⟨rfl, rfl, rfl, by decide +kernel, rfl, by decide +kernel, by decide +kernel⟩
theorem ok_sealable {f fS : Addr} {fd fdS : FuncData} (F : Fun K "is_sealable" "is_sealable" sSealable f fd) (T : Nm mg) (FS : Fun K "is_signs" "is_signs" sSigns fS fdS) (bS : Binds K fdS ["value"] []) (gS : mg "is_signs" = some (.ref fS)) :
    FnOk P w K mg base CX0 2 f fd ["value"] (spSealable K) := by
  have GS : FnOk P w K mg base CX0 1 fS fdS ["value"] spSigns := ok_signs FS T
  refine F.ok scSealable (fun vs H Q E h => ?_) (fun cdv A outer s H vs Q E hr h => ?_)
  · obtain ⟨v, rfl, _⟩ := h
    rfl
  · obtain ⟨v, rfl, h⟩ := h
    obtain ⟨tm, gm⟩ := T.mostSealed
    refine ⟨_, pss_cons (ps_if (PW.pt (pw_or (pt_not (pt_val (pe_callB call_isi (by rfl) T.isi (by decide +kernel) (pa_cons (pv 0) (pa_cons (pe_bltn (v := .ty "str") (by rfl) T.str (by decide +kernel) rfl) pa_nil)))))
        (pw_or1 (pt_cmpR op_gt (pe_callB call_len_str (by rfl) T.len PySem.boot_len (pa_cons (pv 0) pa_nil)) (pe_glob (v := .int 1000000) rfl gm ⟨_, rfl⟩) (nomark _))))) (pss_one (ps_ret pe_bl)) pss_nil)
      (pss_one (ps_ret (pe_callB (cr_all rfl) (by rfl) T.all (by decide +kernel) (pa_cons
        (pe_lc (own := [("row", 1)]) (g := gName 1) (tt := tYes) rfl scSealable.nd (pi_list (pe_split (pv 0) pe_str)) (blkOk_by (N := ["value", "row"]) (sc := defScope sSealable) (by decide +kernel)) (fun _ _ _ _ _ => pg_name (i := 1) scSealable.nd rfl (Or.inl rfl)) (fun _ _ _ _ _ => pts_nil)
          (fun _ _ _ _ _ => pe_call GS hr rfl gS FS.kp bS .nil pass0 (pa_cons (pv 1) pa_nil))) pa_nil)))), ?_⟩
    rcases h with ⟨⟨Tn, ty, kb⟩, k⟩ | ⟨z, rfl, hz, k⟩
    · refine ⟨v, rfl, v, .ty "str", .type Tn, .type "str", false, rfl, .ty "str", ty, kit_ty kb, false, rfl, ?_⟩
      exact k H (Same.refl H)
    · have hs : sizeLine = 16777216 := sizeLine_eq
      refine ⟨_, rfl, .str z, .ty "str", .type "str", .type "str", true, rfl, .ty "str", .base (.str z), kit_ty (by decide +kernel), true, rfl, ?_⟩
      refine ⟨_, rfl, z, rfl, by omega, _, _, rfl, rfl, _, rfl, ?_⟩
      by_cases hb : z.length ≤ 1000000
      · rw [decide_eq_false (show ¬ ((1000000 : Int) < (z.length : Int)) by omega)]
        refine iteF ?_
        have ef : fits z = goodB z := by unfold fits; rw [decide_eq_true hb, Bool.true_and]
        rw [ef] at k
        refine ⟨_, rfl, ⟨_, rfl⟩, z, nl, rfl, rfl, rfl, by omega, fun p hp => ?_⟩
        have sp : Same H (upd H p (.lst ((Txt.split z nl).map V.str))) := Same.over (Same.refl H) hp
        have hm := split_many z
        refine ⟨p, rfl, ⟨_, SqL.of upd_same⟩, fun D hD => lc_map (slot := 1) (xs := (Txt.split z nl).map V.str) (fun x => match x with | .str r => .bl (signsB r) | _ => .non) hD (SqL.of upd_same) (by rw [List.length_map]; omega) (fun x => rfl) (fun x G Q' hx sG q => ?_) fun G sG dG => ?_⟩
        · obtain ⟨r, hr2, rfl⟩ := List.mem_map.mp hx
          exact ⟨_, rfl, r, rfl, Nat.le_trans (split_short z r hr2) (by omega), fun G' s' => q G' s'⟩
        · refine ⟨D, (Txt.split z nl).map signsB, rfl, SqL.of (by rw [dG, List.map_map, List.map_map]; rfl), ?_⟩
          have e : ((Txt.split z nl).map signsB).all id = goodB z := by rw [List.all_map, ← split_good]; rfl
          rw [e]
          exact k G (sp.trans sG)
      · rw [decide_eq_true (show ((1000000 : Int) < (z.length : Int)) by omega)]
        refine iteT ?_
        have ef : fits z = false := by unfold fits; rw [decide_eq_false hb, Bool.false_and]
        rw [ef] at k
        exact k H (Same.refl H)
/-! ### told_number -/
/-- what a row's end tells: a number only if it is its very figures -/
def spTold : Sp := fun vs H Q _ => ∃ z : Str, vs = [.str z] ∧ z.length ≤ 1000100 ∧
  ∀ H' (r : V), Same H H' → (r = .non ∨ ∃ n : Nat, r = .int (n : Int) ∧ z = numS n) → (∀ n : Nat, n < K94.P → z = numS n → r = .int (n : Int)) → Q r H'
theorem figure_iff (c : Nat) : (c ∈ (Str.ofString "0123456789").cps.toList) ↔ (48 ≤ c ∧ c ≤ 57) := by
  have e : (Str.ofString "0123456789").cps.toList = [48, 49, 50, 51, 52, 53, 54, 55, 56, 57] := by decide +kernel
  rw [e]
  simp only [List.mem_cons, List.not_mem_nil, or_false]
  omega
theorem str_int (n : Nat) : (Str.ofString (toString ((n : Nat) : Int))) = numS n := rfl
theorem empty_iff {z : Str} : z = Str.ofString "" ↔ tl z = [] :=
  ⟨fun h => by rw [h]; rfl, fun h => TL.ext_tl (h.trans rfl)⟩
theorem scTold : FnScope ["text", "sign"] ["text"] (defScope sTold) := ⟨rfl, rfl, rfl, by decide +kernel, rfl, by decide +kernel, by decide +kernel⟩
theorem ok_told {f : Addr} {fd : FuncData} (F : Fun K "told_number" "told_number" sTold f fd) (T : Nm mg) : FnOk P w K mg base CX0 1 f fd ["text"] spTold := by
  refine F.ok scTold (fun vs H Q E h => ?_) (fun cdv A outer s H vs Q E hr h => ?_)
  · obtain ⟨z, rfl, _⟩ := h
    rfl
  · obtain ⟨z, rfl, hz, k⟩ := h
    obtain ⟨tm, gm⟩ := T.mostSum
    obtain ⟨tf, gf⟩ := T.figures
    have hs : sizeLine = 16777216 := sizeLine_eq
    refine ⟨_, pss_cons (ps_if (PW.pt (pw_or (pt_cmpR op_eq (pv 0) pe_str (nomark _)) (pw_or (pt_cmpR op_gt (pe_callB call_len_str (by rfl) T.len PySem.boot_len (pa_cons (pv 0) pa_nil)) (pe_glob (v := .int 10) rfl gm ⟨_, rfl⟩) (nomark _))
        (pw_or1 (pt_not (pt_val (pe_callB (cr_all rfl) (by rfl) T.all (by decide +kernel) (pa_cons
        (pe_lc (own := [("sign", 1)]) (g := gName 1) (tt := tYes) rfl scTold.nd (pi_str (pv 0)) (blkOk_by (N := ["text", "sign"]) (sc := defScope sTold) (by decide +kernel)) (fun _ _ _ _ _ => pg_name (i := 1) scTold.nd rfl (Or.inl rfl)) (fun _ _ _ _ _ => pts_nil)
          (fun _ _ _ _ _ => pe_cmpR op_in_sign (pv 1) (pe_glob (v := .str "0123456789") rfl gf ⟨_, rfl⟩) (by rfl))) pa_nil)))))))) (pss_one (ps_ret pe_non)) pss_nil)
      (pss_one (ps_ret (pe_ifExp (pt_cmpR op_eq (pv 0) (pe_callTy call_str_int (by rfl) T.str (by decide +kernel) (pa_cons (pe_callTy call_int_str (by rfl) T.int (by decide +kernel) (pa_cons (pv 0) pa_nil)) pa_nil)) (nomark _))
        (pe_callTy call_int_str (by rfl) T.int (by decide +kernel) (pa_cons (pv 0) pa_nil)) pe_non))), ?_⟩
    refine ⟨_, rfl, rfl, _, rfl, ?_⟩
    by_cases h0 : tl z = []
    · rw [decide_eq_true (show V.str z = V.str (Str.ofString "") by rw [empty_iff.mpr h0])]
      refine iteT (iteT (k H .non (Same.refl H) (.inl rfl) fun n hn e => ?_))
      have := tl_num n
      rw [← e, h0] at this
      exact absurd this.symm (TL.numL_ne n)
    · rw [decide_eq_false (fun q => h0 (empty_iff.mp (V.str.inj q)))]
      refine iteF ⟨_, rfl, z, rfl, by omega, _, _, rfl, rfl, _, rfl, ?_⟩
      by_cases h1 : 10 < z.length
      · rw [decide_eq_true (show ((10 : Int) < (z.length : Int)) by omega)]
        refine iteT (iteT (k H .non (Same.refl H) (.inl rfl) fun n hn e => ?_))
        have := tl_num n
        rw [← e] at this
        have h2 := num_short hn
        rw [← this] at h2
        have := len_tl z
        omega
      · rw [decide_eq_false (show ¬ ((10 : Int) < (z.length : Int)) by omega)]
        refine iteF ⟨_, rfl, z, rfl, fun D hD => lc_signs (slot := 1) (fun c => .bl (decide (48 ≤ c ∧ c ≤ 57))) hD (by omega) (fun c => rfl) (fun c G Q' hc q => ?_) fun G sG dG => ?_⟩
        · refine ⟨.str ⟨#[c]⟩, rfl, c, _, rfl, rfl, ?_⟩
          have e : decide (c ∈ (Str.ofString "0123456789").cps.toList) = decide (48 ≤ c ∧ c ≤ 57) := decide_eq_decide.mpr (figure_iff c)
          rw [e]
          exact q
        · refine ⟨D, (tl z).map fun c => decide (48 ≤ c ∧ c ≤ 57), rfl, SqL.of (by rw [dG, List.map_map]; rfl), _, rfl, ?_⟩
          by_cases h2 : ∀ c ∈ tl z, 48 ≤ c ∧ c ≤ 57
          · have e : ((tl z).map fun c => decide (48 ≤ c ∧ c ≤ 57)).all id = true := by
              rw [List.all_map]
              exact List.all_eq_true.mpr fun c hc => decide_eq_true (h2 c hc)
            rw [e]
            refine iteF ?_
            obtain ⟨m, hm, hb, hu⟩ := int_figures h2 h0 (by omega)
            have hlog : ((m : Int)).natAbs.log2 < 1920 := by
              rw [Int.natAbs_natCast]
              by_cases hm0 : m = 0
              · subst hm0; decide
              · rw [Nat.log2_lt hm0]
                exact Nat.lt_of_lt_of_le hb (Nat.le_trans (by decide : 10 ^ 10 ≤ 2 ^ 34) (Nat.pow_le_pow_right (by decide) (by decide)))
            refine ⟨_, rfl, _, rfl, z, (m : Int), rfl, hm, by omega, _, rfl, hlog, rfl, _, rfl, ?_⟩
            by_cases h3 : z = numS m
            · rw [decide_eq_true (show V.str z = V.str (Str.ofString (toString ((m : Nat) : Int))) from congrArg V.str h3)]
              refine iteT ⟨_, rfl, z, (m : Int), rfl, hm, by omega, k G _ sG (.inr ⟨m, rfl, h3⟩) fun n hn e => ?_⟩
              rw [hu n e]
            · rw [decide_eq_false (show ¬ V.str z = V.str (Str.ofString (toString ((m : Nat) : Int))) from fun q => h3 (V.str.inj q))]
              refine iteF (k G .non sG (.inl rfl) fun n hn e => ?_)
              have := hu n e
              subst this
              exact absurd e h3
          · have e : ((tl z).map fun c => decide (48 ≤ c ∧ c ≤ 57)).all id = false := by
              rw [List.all_map]
              refine Bool.eq_false_iff.mpr fun q => h2 fun c hc => of_decide_eq_true (List.all_eq_true.mp q c hc)
            rw [e]
            refine iteT (k G .non sG (.inl rfl) fun n hn e => ?_)
            exact absurd (fun c hc => by rw [e, tl_num] at hc; exact digits.fig n c hc) h2
end
end K94

set_option Elab.async false
set_option linter.all false
set_option maxRecDepth 100000
set_option maxHeartbeats 4000000
namespace K94
open PySem PySem.Spec PyProof.Rows L2
/-- an own class of errors, as the top has made it -/
structure ErrC (K : PySem.W.Frag) (mg : Str → Option Value) (x : Str) (C : Addr) : Prop where
  g : mg x = some (.ref C)
  x : PySem.W.excIn K C [.type "ValueError", .type "Exception", .type "BaseException", .type "object"] "ValueError.__new__" = true
  k : PySem.W.keepIn K (.ref C) = true
  b : PySem.W.subIn K (.ref C) (.type "BaseException") = some true
  t : PySem.W.typeIn K (.ref C) = some (.type "type")
def spSealed (K : PySem.W.Frag) (C : Addr) : Sp := fun vs H Q E => ∃ v, vs = [v] ∧
  ((∃ z : Str, v = .str z ∧ z.length ≤ 1000000 ∧ goodB z = true ∧ ∀ H' z', Same H H' → tl z' = sealL TL.numL (tl z) → Q (.str z') H') ∨
   ((NoStr K H v ∨ ∃ z : Str, v = .str z ∧ z.length ≤ 1000100 ∧ fits z = false) ∧ ∀ H', Same H H' → E (.ref C) none H'))
/-- the empty name for what no one reads -/
def spUnsealed (K : PySem.W.Frag) (C : Addr) : Sp := fun vs H Q E => ∃ v, vs = [v] ∧
  ((NoStr K H v ∧ ∀ H', Same H H' → E (.ref C) none H') ∨
   ∃ z : Str, v = .str z ∧ z.length ≤ 1000090 ∧ (∀ b : Str, IsSeal (tl z) (tl b) → ∀ H', Same H H' → Q (.str b) H') ∧ ((∀ b, ¬ IsSeal (tl z) b) → ∀ H', Same H H' → E (.ref C) none H'))
section
variable {P : Program} {w : World} {K : PySem.W.Frag} {mg : Str → Option Value} {base : Heap}
theorem tl_app (x y : Str) : tl (x ++ y) = tl x ++ tl y := TL.tl_append x y
theorem tl_numI (n : Nat) : tl (Str.ofString (toString ((n : Nat) : Int))) = TL.numL n := TL.tl_num n
theorem sum_head : tl (Str.ofString "\nsum ") = 10 :: head4 := by decide +kernel
theorem sum_word : tl (Str.ofString "sum ") = head4 := by decide +kernel
theorem scSealed : FnScope ["text"] ["text"] (defScope sSealed) := ⟨rfl, rfl, rfl, by decide +kernel, rfl, by decide +kernel, by decide +kernel⟩
/-- the defs of this part, as they stand -/
structure Fs (K : PySem.W.Frag) (mg : Str → Option Value) (fS fU fB fT : Addr) (fdS fdU fdB fdT : FuncData) : Prop where
  S : Fun K "is_signs" "is_signs" sSigns fS fdS
  gS : mg "is_signs" = some (.ref fS)
  bS : Binds K fdS ["value"] []
  U : Fun K "sum_of" "sum_of" sSumOf fU fdU
  gU : mg "sum_of" = some (.ref fU)
  bU : Binds K fdU ["text"] []
  B : Fun K "is_sealable" "is_sealable" sSealable fB fdB
  gB : mg "is_sealable" = some (.ref fB)
  bB : Binds K fdB ["value"] []
  T : Fun K "told_number" "told_number" sTold fT fdT
  gT : mg "told_number" = some (.ref fT)
  bT : Binds K fdT ["text"] []
theorem ok_sealed {f C fS fU fB fT : Addr} {fd fdS fdU fdB fdT : FuncData} (F : Fun K "sealed" "sealed" sSealed f fd) (T : Nm mg) (D : Fs K mg fS fU fB fT fdS fdU fdB fdT) (X : ErrC K mg "BadThing" C) :
    FnOk P w K mg base (L2.CX P w) 3 f fd ["text"] (spSealed K C) := by
  have GB : FnOk P w K mg base CX0 2 fB fdB ["value"] (spSealable K) := ok_sealable D.B T D.S D.bS D.gS
  have GU : FnOk P w K mg base CX0 1 fU fdU ["text"] spSum := ok_sumOf D.U T
  refine F.okX scSealed (fun vs H Q E h => ?_) (fun cdv A outer s H vs Q E hr h => ?_)
  · obtain ⟨v, rfl, _⟩ := h
    rfl
  · obtain ⟨v, rfl, h⟩ := h
    have hr1 : Room 1 _ := hr.mono (by decide)
    refine ⟨_, pss_cons (ps_if (pt_not (pt_val (pe_call GB hr rfl D.gB D.B.kp D.bB .nil pass0 (pa_cons (pv 0) pa_nil))))
        (pss_one (ps_raise rfl (takes_of rfl rfl rfl rfl) (pmk_none PySem.F.excBase_ValueError X.x X.g X.k (raises_own X.b X.t) rfl))) pss_nil)
      (pss_one (ps_ret (pe_op op_add_str (pe_op op_add_str (pv 0) pe_str) (pe_callTy call_str_int (by rfl) T.str (by decide +kernel) (pa_cons (pe_call GU hr1 rfl D.gU D.U.kp D.bU .nil pass0 (pa_cons (pv 0) pa_nil)) pa_nil))))), ?_⟩
    rcases h with ⟨z, rfl, hz, hg, k⟩ | ⟨h, k⟩
    · have hf : fits z = true := by unfold fits; rw [decide_eq_true hz, hg]; rfl
      refine ⟨_, rfl, .str z, rfl, .inr ⟨z, rfl, by omega, fun H1 s1 => ?_⟩⟩
      rw [hf]
      refine ⟨true, rfl, iteF ⟨_, rfl, _, _, rfl, rfl, ?_, ?_⟩⟩
      · have hs : sizeLine = 16777216 := sizeLine_eq
        have e : (Str.ofString "\nsum ").length = 5 := by rw [len_tl, sum_head]; rfl
        rw [e]; omega
      · refine ⟨_, rfl, z, rfl, by omega, fun H2 s2 => ?_⟩
        have hlt : W 1 (tl z) % K94.P < K94.P := Nat.mod_lt _ (by decide)
        have hlog : ((W 1 (tl z) % K94.P : Nat) : Int).natAbs.log2 < 1920 := by
          rw [Int.natAbs_natCast]
          by_cases hm0 : W 1 (tl z) % K94.P = 0
          · rw [hm0]; decide
          · rw [Nat.log2_lt hm0]
            exact Nat.lt_of_lt_of_le hlt (Nat.le_trans (by decide : K94.P ≤ 2 ^ 34) (Nat.pow_le_pow_right (by decide) (by decide)))
        refine ⟨_, rfl, hlog, _, _, rfl, rfl, ?_, k H2 _ (s1.trans s2) ?_⟩
        · have hs : sizeLine = 16777216 := sizeLine_eq
          have e1 : (z ++ Str.ofString "\nsum ").length = z.length + 5 := by
            rw [len_tl, tl_app, List.length_append, sum_head, len_tl]; rfl
          have e2 : (Str.ofString (toString (((W 1 (tl z) % K94.P : Nat)) : Int))).length ≤ 10 := by
            rw [len_tl, tl_numI]; exact num_short hlt
          rw [e1]; omega
        · rw [tl_app, tl_app, tl_numI, sum_head, List.append_assoc]
          rfl
    · refine ⟨_, rfl, v, rfl, ?_⟩
      rcases h with h | ⟨z, rfl, hz, hf⟩
      · exact .inl ⟨h, fun H1 s1 => ⟨false, rfl, iteT (k H1 s1)⟩⟩
      · refine .inr ⟨z, rfl, hz, fun H1 s1 => ?_⟩
        rw [hf]
        exact ⟨false, rfl, iteT (k H1 s1)⟩
theorem scUnsealed : FnScope ["text", "cut", "body", "last"] ["text"] (defScope sUnsealed) := ⟨rfl, rfl, rfl, by decide +kernel, rfl, by decide +kernel, by decide +kernel⟩
theorem ok_unsealed {f C fS fU fB fT : Addr} {fd fdS fdU fdB fdT : FuncData} (F : Fun K "unsealed" "unsealed" sUnsealed f fd) (T : Nm mg) (D : Fs K mg fS fU fB fT fdS fdU fdB fdT) (X : ErrC K mg "BadSum" C) :
    FnOk P w K mg base (L2.CX P w) 3 f fd ["text"] (spUnsealed K C) := by
  have GB : FnOk P w K mg base CX0 2 fB fdB ["value"] (spSealable K) := ok_sealable D.B T D.S D.bS D.gS
  have GU : FnOk P w K mg base CX0 1 fU fdU ["text"] spSum := ok_sumOf D.U T
  have GT : FnOk P w K mg base CX0 1 fT fdT ["text"] spTold := ok_told D.T T
  refine F.okX scUnsealed (fun vs H Q E h => ?_) (fun cdv A outer s H vs Q E hr h => ?_)
  · obtain ⟨v, rfl, _⟩ := h
    rfl
  · obtain ⟨v, rfl, h⟩ := h
    have hr1 : Room 1 _ := hr.mono (by decide)
    refine ⟨_, pss_cons (ps_if (PW.pt (pw_or (pt_not (pt_val (pe_callB call_isi (by rfl) T.isi (by decide +kernel) (pa_cons (pv 0) (pa_cons (pe_bltn (v := .ty "str") (by rfl) T.str (by decide +kernel) rfl) pa_nil)))))
        (pw_or1 (pt_cmpR op_notIn_sign pe_str (pv 0) (by rfl))))) (pss_one (ps_raise rfl (takes_of rfl rfl rfl rfl) (pmk_none PySem.F.excBase_ValueError X.x X.g X.k (raises_own X.b X.t) rfl))) pss_nil)
      (pss_cons (ps_set (i := 1) scUnsealed.nd rfl (Or.inl rfl) (pe_op op_sub (pe_op op_sub (pe_callB call_len_str (by rfl) T.len PySem.boot_len (pa_cons (pv 0) pa_nil)) pe_int)
        (pe_m1 PySem.F.slot_str_index PySem.F.type_str_index mt_sindex (pe_backS (pv 0)) pe_str)))
      (pss_cons (ps_par (i := 2) (j := 3) (by rfl) scUnsealed.nd rfl rfl (by decide) rfl rfl (pa_cons (pe_slice sl_str (pv 0) po_none (po_some (pv 1))) (pa_cons (pe_slice sl_str (pv 0) (po_some (pe_op op_add (pv 1) pe_int)) po_none) pa_nil)) (by rfl))
      (pss_cons (ps_if (PW.pt (pw_or (pt_not (pt_val (pe_call GB hr rfl D.gB D.B.kp D.bB .nil pass0 (pa_cons (pv 2) pa_nil)))) (pw_or (pt_cmpR op_ne (pe_slice sl_str (pv 3) po_none (po_some pe_int)) pe_str (nomark _))
          (pw_or1 (pt_cmpR op_ne (pe_call GT hr1 rfl D.gT D.T.kp D.bT .nil pass0 (pa_cons (pe_slice sl_str (pv 3) (po_some pe_int) po_none) pa_nil)) (pe_call GU hr1 rfl D.gU D.U.kp D.bU .nil pass0 (pa_cons (pv 2) pa_nil)) (nomark _))))))
        (pss_one (ps_raise rfl (takes_of rfl rfl rfl rfl) (pmk_none PySem.F.excBase_ValueError X.x X.g X.k (raises_own X.b X.t) rfl))) pss_nil)
      (pss_one (ps_ret (pv 2)))))), ?_⟩
    rcases h with ⟨⟨Tn, ty, kb⟩, k⟩ | ⟨z, rfl, hz, kQ, kE⟩
    · exact ⟨v, rfl, v, .ty "str", .type Tn, .type "str", false, rfl, .ty "str", ty, kit_ty kb, false, rfl, iteT (iteT (k H (Same.refl H)))⟩
    · have hs : sizeLine = 16777216 := sizeLine_eq
      have hl := len_tl z
      refine ⟨_, rfl, .str z, .ty "str", .type "str", .type "str", true, rfl, .ty "str", .base (.str z), kit_ty (by decide +kernel), true, rfl, iteF ?_⟩
      refine ⟨_, rfl, 10, z, rfl, rfl, _, rfl, ?_⟩
      by_cases h10 : 10 ∈ tl z
      · rw [decide_eq_true h10]
        refine iteF ?_
        obtain ⟨n, rest, ho⟩ := back_some h10
        obtain ⟨hn, p, q, ez, hq, nq⟩ := back_first ho
        have lz : z.length = p.length + 1 + n := by rw [hl, ez, List.length_append, List.length_cons]; omega
        refine ⟨_, rfl, z, rfl, by omega, _, _, rfl, rfl, _, rfl, z, rfl, by omega, ⟨_, rfl⟩, backS z, nl, n, rest, rfl, rfl, ho, _, _, rfl, rfl, ?_⟩
        have ecut : (z.length : Int) - 1 - (n : Nat) = ((p.length : Nat) : Int) := by omega
        dsimp only
        rw [ecut]
        have eb : tl (cutS z none (some ((p.length : Nat) : Int))) = p := by
          rw [cut_to', ez, List.take_left]
        have el : tl (cutS z (some ((p.length : Nat) + 1 : Int)) none) = q := by
          have : ((p.length : Nat) + 1 : Int) = ((p.length + 1 : Nat) : Int) := by omega
          rw [this, cut_from, ez, List.drop_append]
          simp
        refine ⟨_, rfl, _, rfl, _, rfl, z, rfl, by omega, _, rfl, _, rfl, _, _, rfl, rfl, _, rfl, z, rfl, by omega, _, _, rfl, ?_⟩
        generalize hB : cutS z none (some ((p.length : Nat) : Int)) = B at eb
        generalize hL : cutS z (some ((p.length : Nat) + 1 : Int)) none = L at el
        have lB : B.length = p.length := by rw [len_tl, eb]
        have lL : L.length = n := by rw [len_tl, el, hq]
        refine ⟨_, rfl, .str B, rfl, .inr ⟨B, rfl, by omega, fun H1 s1 => ?_⟩⟩
        -- what is sealed
        have isl : ∀ b, IsSeal (tl z) b → b = p ∧ q = row TL.numL p := fun b hb => by
          have h1 := part nq (row_no digits b) (ez.symm.trans hb.eq)
          exact ⟨h1.1.symm, by rw [h1.2, h1.1]⟩
        cases hf : fits B with
        | false =>
          refine ⟨false, rfl, iteT (iteT (kE (fun b hb => ?_) H1 s1))⟩
          have h1 := (isl b hb).1
          subst h1
          unfold fits at hf
          rw [decide_eq_true (by rw [lB]; exact hb.short), Bool.true_and] at hf
          have h2 := hb.good
          rw [← eb] at h2
          rw [show goodB B = goodL (tl B) from rfl, h2] at hf
          cases hf
        | true =>
          refine ⟨true, rfl, iteF ⟨_, rfl, _, rfl, L, rfl, by omega, rfl, _, rfl, ?_⟩⟩
          unfold fits at hf
          rw [Bool.and_eq_true, decide_eq_true_eq] at hf
          have e4 : tl (cutS L none (some (4 : Int))) = q.take 4 := by
            have := cut_to' L 4
            rw [el] at this
            exact this
          by_cases h4 : q.take 4 = head4
          · rw [show (!decide (V.str (cutS L none (some (4 : Int))) = V.str (Str.ofString "sum "))) = false by
              rw [decide_eq_true (congrArg V.str (TL.ext_tl (e4.trans (h4.trans sum_word.symm))))]; rfl]
            refine iteF ?_
            have e5 : tl (cutS L (some (4 : Int)) none) = q.drop 4 := by
              have := cut_from L 4
              rw [el] at this
              exact this
            have l5 : (cutS L (some (4 : Int)) none).length ≤ 1000100 := Nat.le_trans (cutS_length L _ _) (by omega)
            refine ⟨_, rfl, _, rfl, L, rfl, by omega, cutS L (some (4 : Int)) none, rfl, l5, fun H2 r s2 hr1' hr2 => ?_⟩
            refine ⟨_, rfl, B, rfl, by omega, fun H3 s3 => ?_⟩
            have hlt : W 1 p % K94.P < K94.P := Nat.mod_lt _ (by decide)
            rw [eb]
            have eq4 : q = head4 ++ q.drop 4 := by rw [← h4, List.take_append_drop]
            by_cases h5 : q.drop 4 = TL.numL (W 1 p % K94.P)
            · have er := hr2 _ hlt (TL.ext_tl (e5.trans (h5.trans (tl_num _).symm)))
              rw [er]
              refine ⟨rfl, _, rfl, ?_⟩
              rw [show (!decide (V.int ((W 1 p % K94.P : Nat) : Int) = V.int ((W 1 p % K94.P : Nat) : Int))) = false by rw [decide_eq_true rfl]; rfl]
              refine iteF ⟨_, rfl, kQ B ⟨?_, by rw [← show goodB B = goodL (tl B) from rfl]; exact hf.2, by rw [← len_tl]; exact hf.1⟩ H3 (s1.trans (s2.trans s3))⟩
              rw [ez, eb, eq4, h5]
              rfl
            · have no : ∀ b, ¬ IsSeal (tl z) b := fun b hb => by
                have h6 := (isl b hb).2
                apply h5
                rw [h6]
                rfl
              have ht : scal r (V.int ((W 1 p % K94.P : Nat) : Int)) = true ∧ (!decide (r = V.int ((W 1 p % K94.P : Nat) : Int))) = true := by
                rcases hr1' with e | ⟨m, e, e6⟩
                · rw [e]; exact ⟨rfl, rfl⟩
                · rw [e]
                  refine ⟨rfl, ?_⟩
                  rw [decide_eq_false (fun y => ?_)]; rfl
                  have y2 : m = W 1 p % K94.P := by
                    have := V.int.inj y
                    exact Int.ofNat.inj this
                  apply h5
                  rw [← e5, e6, tl_num, y2]
              refine ⟨ht.1, _, rfl, ?_⟩
              rw [ht.2]
              exact iteT (kE no H3 (s1.trans (s2.trans s3)))
          · rw [show (!decide (V.str (cutS L none (some (4 : Int))) = V.str (Str.ofString "sum "))) = true by
              rw [decide_eq_false (fun y => h4 (e4.symm.trans ((congrArg tl (V.str.inj y)).trans sum_word)))]; rfl]
            refine iteT (iteT (kE (fun b hb => ?_) H1 s1))
            apply h4
            rw [(isl b hb).2]
            rfl
      · rw [decide_eq_false h10]
        refine iteT (kE (fun b hb => h10 ?_) H (Same.refl H))
        rw [hb.eq]
        unfold sealL
        simp
end
end K94

set_option Elab.async false
set_option linter.all false
set_option maxRecDepth 100000
set_option maxHeartbeats 4000000
namespace K94
open PySem PySem.Spec PyProof.Rows L2
abbrev sBegun : Stmt := top 17
abbrev sBlended : Stmt := top 18
abbrev sDraw : Stmt := top 19
abbrev sPick : Stmt := top 20
/-! ### data: lists of ints -/
theorem dp_ints {K : PySem.W.Frag} {H : Hp} : ∀ gs : List Int, DpAll K H (gs.map V.int) (gs.map PyData.int)
  | [] => .nil
  | g :: gs => .cons (.int g) (dp_ints gs)
theorem lay_ints : ∀ gs : List Int, PyData.canLayAll0 (gs.map PyData.int) = true
  | [] => rfl
  | g :: gs => lay_ints gs
theorem deep_ints : ∀ gs : List Int, PyData.depthAll (gs.map PyData.int) ≤ 1
  | [] => by simp [PyData.depthAll]
  | g :: gs => by
    have := deep_ints gs
    simp only [List.map_cons, PyData.depthAll, PyData.depth]
    omega
theorem shaped_ints (gs : List Int) : SeqAt.shaped (.list (gs.map PyData.int)) = true := by
  unfold SeqAt.shaped
  rw [Bool.and_eq_true, decide_eq_true_eq]
  refine ⟨lay_ints gs, ?_⟩
  have := deep_ints gs
  simp only [PyData.depth]
  omega
theorem eqv_nil (gs : List Int) : PyData.eqv (.list (gs.map PyData.int)) (.list []) = gs.isEmpty := by
  cases gs <;> rfl
/-! ### the state of the draws -/
def kS (x : String) : Key := Sum.inr (Str.ofString x)
def stK (g c : Addr) (l t : Int) : List (Key × V) := [(kS "great", .ref g), (kS "cells", .ref c), (kS "left", .int l), (kS "turn", .int t)]
structure StAt (H : Hp) (d g c : Addr) (n : Nat) : Prop where
  ex : ∃ (l t : Int) (gs cs : List Int), H d = some (.dK (stK g c l t)) ∧ H g = some (.lst (gs.map V.int)) ∧ H c = some (.lst (cs.map V.int)) ∧ 0 ≤ t ∧ t ≤ n
  gc : g ≠ c
theorem StAt.mono {H : Hp} {d g c : Addr} {n m : Nat} (h : StAt H d g c n) (hm : n ≤ m) : StAt H d g c m :=
  let ⟨⟨l, t, gs, cs, h1, h2, h3, h4, h5⟩, hg⟩ := h
  ⟨⟨l, t, gs, cs, h1, h2, h3, h4, by omega⟩, hg⟩
theorem StAt.same {H H' : Hp} {d g c : Addr} {n : Nat} (h : StAt H d g c n) (s : Same H H') : StAt H' d g c n :=
  let ⟨⟨l, t, gs, cs, h1, h2, h3, h4, h5⟩, hg⟩ := h
  ⟨⟨l, t, gs, cs, s _ _ h1, s _ _ h2, s _ _ h3, h4, h5⟩, hg⟩
/-- all but the state's dict and its great numbers is kept -/
def Keeps (d g : Addr) (H H' : Hp) : Prop := ∀ b o, H b = some o → b ≠ d → b ≠ g → H' b = some o
theorem Keeps.refl (d g : Addr) (H : Hp) : Keeps d g H H := fun _ _ e _ _ => e
theorem Keeps.trans {d g : Addr} {H H1 H2 : Hp} (a : Keeps d g H H1) (b : Keeps d g H1 H2) : Keeps d g H H2 := fun c o e h1 h2 => b c o (a c o e h1 h2) h1 h2
theorem Keeps.of {d g : Addr} {H H' : Hp} (s : Same H H') : Keeps d g H H' := fun b o e _ _ => s b o e
theorem ne_gc : kS "great" ≠ kS "cells" := by decide +kernel
theorem ne_gl : kS "great" ≠ kS "left" := by decide +kernel
theorem ne_gt : kS "great" ≠ kS "turn" := by decide +kernel
theorem ne_cl : kS "cells" ≠ kS "left" := by decide +kernel
theorem ne_ct : kS "cells" ≠ kS "turn" := by decide +kernel
theorem ne_lt : kS "left" ≠ kS "turn" := by decide +kernel
theorem val_great (g c : Addr) (l t : Int) : valV (stK g c l t) (kS "great") = some (.ref g) := valV_pos rfl
theorem val_cells (g c : Addr) (l t : Int) : valV (stK g c l t) (kS "cells") = some (.ref c) := (valV_neg ne_gc).trans (valV_pos rfl)
theorem val_left (g c : Addr) (l t : Int) : valV (stK g c l t) (kS "left") = some (.int l) := (valV_neg ne_gl).trans ((valV_neg ne_cl).trans (valV_pos rfl))
theorem val_turn (g c : Addr) (l t : Int) : valV (stK g c l t) (kS "turn") = some (.int t) := (valV_neg ne_gt).trans ((valV_neg ne_ct).trans ((valV_neg ne_lt).trans (valV_pos rfl)))
theorem put_left (g c : Addr) (l t m : Int) : putK (stK g c l t) (kS "left") (.int m) = stK g c m t := by
  unfold putK stK
  simp [ne_gl, ne_cl, ne_lt.symm]
theorem put_turn (g c : Addr) (l t m : Int) : putK (stK g c l t) (kS "turn") (.int m) = stK g c l m := by
  unfold putK stK
  simp [ne_gt, ne_ct, ne_lt]
theorem merge_st (g c : Addr) (l t : Int) : mergeK [] (stK g c l t) = stK g c l t := by
  unfold mergeK stK
  simp [putK, ne_gc, ne_gl, ne_gt, ne_cl, ne_ct, ne_lt]
theorem st_less (g c : Addr) (l t : Int) : (stK g c l t).length < sizeLine := by show 4 < sizeLine; decide
section
variable {H : Hp} {d g c : Addr} {l t : Int} (hd : H d = some (.dK (stK g c l t)))
include hd
theorem get_great : DGet H d (.str "great") (some (.ref g)) := by have q := DGet.k (k := kS "great") hd; rw [val_great] at q; exact q
theorem get_cells : DGet H d (.str "cells") (some (.ref c)) := by have q := DGet.k (k := kS "cells") hd; rw [val_cells] at q; exact q
theorem get_left : DGet H d (.str "left") (some (.int l)) := by have q := DGet.k (k := kS "left") hd; rw [val_left] at q; exact q
theorem get_turn : DGet H d (.str "turn") (some (.int t)) := by have q := DGet.k (k := kS "turn") hd; rw [val_turn] at q; exact q
theorem set_left (m : Int) : DPut H d (.str "left") (.int m) (upd H d (.dK (stK g c m t))) := by have q := DPut.k (k := kS "left") (v := .int m) hd (st_less g c l t); rw [put_left] at q; exact q
theorem set_turn (m : Int) : DPut H d (.str "turn") (.int m) (upd H d (.dK (stK g c l m))) := by have q := DPut.k (k := kS "turn") (v := .int m) hd (st_less g c l t); rw [put_turn] at q; exact q
end
/-! ### _law_blended -/
def spBlended : Sp := fun vs H Q _ => ∃ (d g c : Addr) (n : Nat), vs = [.ref d] ∧ StAt H d g c n ∧ n < 2 ^ 40 ∧ ∀ H' (v : Int), StAt H' d g c (n + 1) → (∀ b o, H b = some o → b ≠ d → H' b = some o) → Q (.int v) H'
section
variable {P : Program} {w : World} {K : PySem.W.Frag} {mg : Str → Option Value} {base : Heap}
theorem scBlended : FnScope ["state", "turn", "found", "prime", "blend", "cell"] ["state"] (defScope sBlended) := ⟨rfl, rfl, rfl, by decide +kernel, rfl, by decide +kernel, by decide +kernel⟩
theorem ok_blended {f : Addr} {fd : FuncData} (F : Fun K "_law_blended" "_law_blended" sBlended f fd) (T : Nm mg) : FnOk P w K mg base CX0 1 f fd ["state"] spBlended := by
  refine F.ok scBlended (fun vs H Q E h => ?_) (fun cdv A outer s H vs Q E hr h => ?_)
  · obtain ⟨d, g, c, n, rfl, _⟩ := h
    rfl
  · obtain ⟨d, g, c, n, rfl, ⟨⟨l, t, gs, cs, hd, hg, hc, t0, tn⟩, gc⟩, hn, k⟩ := h
    have hu := hu_of hr
    refine ⟨_, pss_cons (ps_par (i := 1) (j := 2) (by rfl) scBlended.nd rfl rfl (by decide) rfl rfl (pa_cons (pe_op op_add (pe_dget hu (pv 0) pe_str (fun _ _ => rfl)) pe_int) (pa_cons pe_int pa_nil)) (by rfl))
      (pss_cons (ps_dput hu (pv 0) pe_str (pv 1) rfl)
      (pss_cons (ps_for PassesOwn.never rfl (pi_list (pe_lst (pa_cons pe_int (pa_cons pe_int (pa_cons pe_int pa_nil))))) (pg_name (i := 3) scBlended.nd rfl (Or.inl rfl))
        (pss_cons (ps_set (i := 4) scBlended.nd rfl (Or.inl rfl) (pe_op op_add (pe_op op_mul pe_int (pv 1)) (pe_op op_fdiv (pv 3) pe_int)))
        (pss_cons (ps_for PassesOwn.never rfl (pi_list (pe_dget hu (pv 0) pe_str (fun _ _ => rfl))) (pg_name (i := 5) scBlended.nd rfl (Or.inl rfl))
          (pss_one (ps_set (i := 4) scBlended.nd rfl (Or.inl rfl) (pe_op op_mod (pe_callTy call_int1 (by rfl) T.int (by decide +kernel) (pa_cons (pe_op op_add (pe_op op_add (pe_op op_mul (pv 4) pe_int) (pv 5)) (pv 1)) pa_nil)) (pv 3)))))
        (pss_one (ps_set (i := 2) scBlended.nd rfl (Or.inl rfl) (pe_op op_add (pe_op op_mul (pv 2) pe_int) (pe_op op_mod (pe_callTy call_int1 (by rfl) T.int (by decide +kernel) (pa_cons (pe_op op_pow (pv 4) pe_int) pa_nil)) (pv 3))))))))
      (pss_one (ps_ret (pv 2))))), ?_⟩
    have ndg : d ≠ g := ne_of hd hg (by intro z; cases z)
    have ndc : d ≠ c := ne_of hd hc (by intro z; cases z)
    refine ⟨_, rfl, d, _, rfl, get_turn hd, t, 1, rfl, rfl, _, _, rfl, _, rfl, _, rfl, d, _, rfl, set_turn hd (t + 1), ?_⟩
    generalize hH1 : upd H d (.dK (stK g c l (t + 1))) = H1
    have h1d : H1 d = some (.dK (stK g c l (t + 1))) := by rw [← hH1]; exact upd_same
    have h1g : H1 g = some (.lst (gs.map V.int)) := by rw [← hH1, upd_ne ndg.symm]; exact hg
    have h1c : H1 c = some (.lst (cs.map V.int)) := by rw [← hH1, upd_ne ndc.symm]; exact hc
    refine ⟨by show 3 ≤ sizeLine; decide, fun p hp => ⟨p, rfl, ⟨_, SqL.of upd_same⟩, ?_⟩⟩
    generalize hxs : ([.int 2147481673, .int 2147481629, .int 2147481571] : List V) = xs
    have same1 : Same H1 (upd H1 p (.lst xs)) := Same.over (Same.refl H1) hp
    generalize hH2 : upd H1 p (.lst xs) = H2 at same1
    have hp2 : H2 p = some (.lst xs) := by rw [← hH2]; exact upd_same
    refine for_list (K := K) (a := p) (xs := xs) (fun i σ G => ∃ (f : Int) (v3 v4 v5 : Option V), σ = [some (.ref d), some (.int (t + 1)), some (.int f), v3, v4, v5] ∧ H2 = G)
      ⟨0, none, none, none, rfl, rfl⟩ (fun i σ G _ ⟨_, _, _, _, _, e⟩ => by rw [← e]; exact SqL.of hp2) ?_ ?_
    · rintro i y σ G hi ⟨f, v3, v4, v5, rfl, rfl⟩
      obtain ⟨pr, rfl, p0, p1⟩ : ∃ pr : Int, y = .int pr ∧ 0 < pr ∧ pr < 2 ^ 31 := by
        have hm := List.mem_of_getElem? hi
        rw [← hxs] at hm
        simp only [List.mem_cons, List.not_mem_nil, or_false] at hm
        rcases hm with e | e | e <;> exact ⟨_, e, by decide, by decide⟩
      have hq : pr / 83 < 2 ^ 31 ∧ 0 ≤ pr / 83 := by omega
      refine ⟨_, rfl, _, _, rfl, rfl, .inl ⟨by decide, by decide⟩, _, rfl, _, _, rfl, rfl, ⟨by decide, by decide⟩, _, _, rfl, rfl, ?_⟩
      refine ⟨_, rfl, d, _, rfl, get_cells (same1 _ _ h1d), c, rfl, ⟨_, SqL.of (same1 _ _ h1c)⟩, ?_⟩
      refine for_list (K := K) (a := c) (xs := cs.map V.int) (fun j σ G => ∃ (b : Int) (v5 : Option V), σ = [some (.ref d), some (.int (t + 1)), some (.int f), some (.int pr), some (.int b), v5] ∧ H2 = G ∧ 0 ≤ b ∧ b < 2 ^ 62)
        ⟨_, v5, rfl, rfl, ?_, ?_⟩ (fun j σ G _ ⟨_, _, _, e, _⟩ => by rw [← e]; exact SqL.of (same1 _ _ h1c)) ?_ ?_
      · show (0 : Int) ≤ 45841 * (t + 1) + pr / 83
        omega
      · show (45841 : Int) * (t + 1) + pr / 83 < 2 ^ 62
        omega
      · rintro j y σ G hj ⟨b, v5, rfl, rfl, b0, b1⟩
        obtain ⟨z, rfl⟩ : ∃ z : Int, y = .int z := by
          obtain ⟨z, _, e⟩ := List.mem_map.mp (List.mem_of_getElem? hj)
          exact ⟨z, e.symm⟩
        refine ⟨_, rfl, _, _, rfl, rfl, .inr ⟨by decide, by decide⟩, _, rfl, _, _, rfl, rfl, _, rfl, _, _, rfl, rfl, .inl ⟨_, rfl, _, rfl, _, _, rfl, rfl, p0, ?_⟩⟩
        refine ⟨_, some (.int z), rfl, rfl, Int.emod_nonneg _ (by omega), ?_⟩
        have := Int.emod_lt_of_pos (b * 67453 + z + (t + 1)) p0
        omega
      · rintro σ G ⟨b, v5, rfl, rfl, b0, b1⟩
        refine ⟨_, rfl, _, _, rfl, rfl, .inr ⟨by decide, by decide⟩, _, rfl, _, _, rfl, rfl, ⟨by decide, by decide, by omega⟩, .inl ⟨_, rfl, _, rfl, _, _, rfl, rfl, p0, _, _, rfl, rfl, ?_⟩⟩
        exact ⟨_, _, _, _, rfl, rfl⟩
    · rintro σ G ⟨f, v3, v4, v5, rfl, rfl⟩
      refine ⟨_, rfl, k _ f ⟨⟨l, t + 1, gs, cs, same1 _ _ h1d, same1 _ _ h1g, same1 _ _ h1c, by omega, by omega⟩, gc⟩ fun b o e hb => same1 _ _ ?_⟩
      rw [← hH1, upd_ne hb]
      exact e
/-! ### _law_draw -/
def spDraw : Sp := fun vs H Q _ => ∃ (d g c : Addr) (n : Nat) (m : Int), vs = [.ref d, .int m] ∧ StAt H d g c n ∧ n < 2 ^ 40 ∧ 0 < m ∧ m < 2 ^ 30 ∧
  ∀ H' (v : Int), 0 ≤ v → v < m → StAt H' d g c (n + 1) → Keeps d g H H' → Q (.int v) H'
theorem scDraw : FnScope ["state", "size_here", "found"] ["state", "size_here"] (defScope sDraw) := ⟨rfl, rfl, rfl, by decide +kernel, rfl, by decide +kernel, by decide +kernel⟩
theorem ok_draw {f fB : Addr} {fd fdB : FuncData} (F : Fun K "_law_draw" "_law_draw" sDraw f fd) (T : Nm mg) (FB : Fun K "_law_blended" "_law_blended" sBlended fB fdB) (bB : Binds K fdB ["state"] []) (gB : mg "_law_blended" = some (.ref fB)) :
    FnOk P w K mg base CX0 2 f fd ["state", "size_here"] spDraw := by
  have GB : FnOk P w K mg base CX0 1 fB fdB ["state"] spBlended := ok_blended FB T
  refine F.ok scDraw (fun vs H Q E h => ?_) (fun cdv A outer s H vs Q E hr h => ?_)
  · obtain ⟨d, g, c, n, m, rfl, _⟩ := h
    rfl
  · obtain ⟨d, g, c, n, m, rfl, S, hn, m0, m1, k⟩ := h
    have hu := hu_of hr
    refine ⟨_, pss_cons (ps_if (pt_cmpR op_eq (pe_dget hu (pv 0) pe_str (fun _ _ => rfl)) pe_int (nomark _))
        (pss_one (ps_dput hu (pv 0) pe_str (pe_ifExp (pt_cmpR (op_neD hr.units) (pe_dget hu (pv 0) pe_str (fun _ _ => rfl)) (pe_lst pa_nil) (nomark _))
          (pe_bm PySem.F.plainAttrs_list PySem.F.slot_list_pop PySem.F.type_list_pop mt_popAt (pe_dget hu (pv 0) pe_str (fun _ _ => rfl)) (pa_cons pe_int pa_nil))
          (pe_call GB hr rfl gB FB.kp bB .nil pass0 (pa_cons (pv 0) pa_nil))) rfl)) pss_nil)
      (pss_cons (ps_set (i := 2) scDraw.nd rfl (Or.inl rfl) (pe_op op_mod (pe_callTy call_int1 (by rfl) T.int (by decide +kernel) (pa_cons (pe_dget hu (pv 0) pe_str (fun _ _ => rfl)) pa_nil)) (pv 1)))
      (pss_cons (ps_dput hu (pv 0) pe_str (pe_op op_fdiv (pe_dget hu (pv 0) pe_str (fun _ _ => rfl)) (pv 1)) rfl)
      (pss_one (ps_ret (pv 2))))), ?_⟩
    obtain ⟨⟨l, t, gs, cs, hd, hg, hc, t0, tn⟩, gc⟩ := S
    have ndg : d ≠ g := ne_of hd hg (by intro z; cases z)
    have ndc : d ≠ c := ne_of hd hc (by intro z; cases z)
    have key : ∀ (G : Hp) (l' t' : Int) (gs' cs' : List Int), G d = some (.dK (stK g c l' t')) → G g = some (.lst (gs'.map V.int)) → G c = some (.lst (cs'.map V.int)) → 0 ≤ t' → t' ≤ n + 1 → Keeps d g H G →
        0 ≤ l' % m ∧ l' % m < m ∧ StAt (upd G d (.dK (stK g c (l' / m) t'))) d g c (n + 1) ∧ Keeps d g H (upd G d (.dK (stK g c (l' / m) t'))) := by
      intro G l' t' gs' cs' h1 h2 h3 h4 h5 h6
      refine ⟨Int.emod_nonneg _ (by omega), Int.emod_lt_of_pos _ m0, ⟨⟨l' / m, t', gs', cs', upd_same, by rw [upd_ne ndg.symm]; exact h2, by rw [upd_ne ndc.symm]; exact h3, h4, by omega⟩, gc⟩, fun b o e n1 n2 => ?_⟩
      rw [upd_ne n1]
      exact h6 b o e n1 n2
    refine ⟨_, rfl, d, _, rfl, get_left hd, rfl, _, rfl, ?_⟩
    refine ite2 (fun _ => ?_) (fun _ => ?_)
    · refine ⟨_, rfl, d, _, rfl, get_great hd, by show 0 ≤ sizeLine; decide, fun p hp => ⟨.list (gs.map PyData.int), .list [], ?_, ?_, shaped_ints gs, rfl, _, rfl, ?_⟩⟩
      · exact .lst (SqL.of (by rw [upd_ne (ne_of_none hg hp)]; exact hg)) (dp_ints gs)
      · exact .lst (SqL.of upd_same) .nil
      · rw [eqv_nil]
        have hd' : upd H p (.lst []) d = some (.dK (stK g c l t)) := by rw [upd_ne (ne_of_none hd hp)]; exact hd
        have hg' : upd H p (.lst []) g = some (.lst (gs.map V.int)) := by rw [upd_ne (ne_of_none hg hp)]; exact hg
        have hc' : upd H p (.lst []) c = some (.lst (cs.map V.int)) := by rw [upd_ne (ne_of_none hc hp)]; exact hc
        have kp : Keeps d g H (upd H p (.lst [])) := Keeps.of (Same.over (Same.refl H) hp)
        generalize upd H p (.lst []) = H1 at hd' hg' hc' kp
        cases gs with
        | nil =>
          refine iteF ⟨_, rfl, d, g, c, n, rfl, ⟨⟨l, t, [], cs, hd', hg', hc', t0, tn⟩, gc⟩, hn, fun H2 v S2 k2 => ?_⟩
          obtain ⟨⟨l2, t2, gs2, cs2, hd2, hg2, hc2, t02, tn2⟩, _⟩ := S2
          refine ⟨_, rfl, d, _, rfl, set_left hd2 v, ?_⟩
          have ud : upd H2 d (.dK (stK g c v t2)) d = some (.dK (stK g c v t2)) := upd_same
          refine ⟨_, rfl, d, _, rfl, get_left ud, .inl ⟨_, rfl, _, rfl, _, _, rfl, rfl, m0, _, rfl, d, _, rfl, get_left ud, _, rfl, _, _, rfl, rfl, ⟨m0, by omega⟩, _, rfl, d, _, rfl, set_left ud _, _, rfl, ?_⟩⟩
          obtain ⟨a1, a2, a3, a4⟩ := key _ v t2 gs2 cs2 ud (by rw [upd_ne ndg.symm]; exact hg2) (by rw [upd_ne ndc.symm]; exact hc2) t02 (by omega) (fun b o e n1 n2 => by rw [upd_ne n1]; exact k2 b o (kp b o e n1 n2) n1)
          exact k _ _ a1 a2 a3 a4
        | cons z gs =>
          refine iteT ⟨_, rfl, d, _, rfl, get_great hd', .inl ⟨rfl, _, SqL.of hg'⟩, g, _, 0, 0, .int z, rfl, rfl, hg', by decide, by decide, by simp [seqIndex?], rfl, ?_⟩
          have pd : upd H1 g (.lst ((((z :: gs).map V.int)).eraseIdx 0)) d = some (.dK (stK g c l t)) := by rw [upd_ne ndg]; exact hd'
          refine ⟨_, rfl, d, _, rfl, set_left pd z, ?_⟩
          generalize hG : upd (upd H1 g (.lst (((z :: gs).map V.int).eraseIdx 0))) d (.dK (stK g c z t)) = G
          have ud : G d = some (.dK (stK g c z t)) := by rw [← hG]; exact upd_same
          refine ⟨_, rfl, d, _, rfl, get_left ud, .inl ⟨_, rfl, _, rfl, _, _, rfl, rfl, m0, _, rfl, d, _, rfl, get_left ud, _, rfl, _, _, rfl, rfl, ⟨m0, by omega⟩, _, rfl, d, _, rfl, set_left ud _, _, rfl, ?_⟩⟩
          obtain ⟨a1, a2, a3, a4⟩ := key G z t gs cs ud (by rw [← hG, upd_ne ndg.symm, upd_same]; rfl) (by rw [← hG, upd_ne ndc.symm, upd_ne gc.symm]; exact hc') t0 (by omega) (fun b o e n1 n2 => by rw [← hG, upd_ne n1, upd_ne n2]; exact kp b o e n1 n2)
          exact k _ _ a1 a2 a3 a4
    · refine ⟨_, rfl, d, _, rfl, get_left hd, .inl ⟨_, rfl, _, rfl, _, _, rfl, rfl, m0, _, rfl, d, _, rfl, get_left hd, _, rfl, _, _, rfl, rfl, ⟨m0, by omega⟩, _, rfl, d, _, rfl, set_left hd _, _, rfl, ?_⟩⟩
      obtain ⟨a1, a2, a3, a4⟩ := key H l t gs cs hd hg hc t0 (by omega) (Keeps.refl d g H)
      exact k _ _ a1 a2 a3 a4
/-! ### _law_begun -/
def spBegun (K : PySem.W.Frag) : Sp := fun vs H Q _ => ∃ (a : Addr) (ns : List Int), vs = [.ref a] ∧ SqL K H a (ns.map V.int) ∧ ns.length ≤ 63 ∧
  ∀ H' d g c, StAt H' d g c 0 → H d = none → H g = none → Same H H' → Q (.ref d) H'
theorem scBegun : FnScope ["script", "great", "cell"] ["script"] (defScope sBegun) := ⟨rfl, rfl, rfl, by decide +kernel, rfl, by decide +kernel, by decide +kernel⟩
/-- a comprehension of ints over a list of ints -/
theorem lc_ints {H1 : Hp} {σ : L2.St} {D a : Addr} {ns : List Int} {slot : Nat} {tt : TT} {te : TE} {vs : List Nat} {Qd : Hp → Prop} (hD : H1 D = none) (hS : SqL K H1 a (ns.map V.int)) (hz : ns.length ≤ 63)
    (hw : ∀ x, wipe ((wipe σ vs).set slot (some x)) vs = wipe σ vs) (ht : ∀ (z : Int) G (Q : Bool → Hp → Prop), (∀ b, Q b G) → tt ((wipe σ vs).set slot (some (.int z))) G Q)
    (he : ∀ (z : Int) G (Q : VK), (∀ r : Int, Q (.int r) G) → te ((wipe σ vs).set slot (some (.int z))) G Q)
    (hd : ∀ G (gs : List Int), Same H1 G → G D = some (.lst (gs.map V.int)) → Qd G) :
    ∃ W : Nat → Nat → Hp → Prop, (∃ m, W 0 m (upd H1 D (.lst []))) ∧ ∀ i m H, W i m H →
      ((Itl K a).stop i H ∧ Qd H) ∨ ((Itl K a).go i H ∧ ∃ Nx : Hp → Prop, (∀ H', Nx H' → ∃ m', m' < m ∧ W (i + 1) m' H') ∧ ∀ x H', (Itl K a).yld i H x H' → gName slot x (wipe σ vs) H' fun σ2 H2 => wipe σ2 vs = wipe σ vs ∧ tt σ2 H2 fun b H3 =>
        if b = true then te σ2 H3 fun y H4 => ∃ acc, H4 D = some (.lst acc) ∧ acc.length < sizeLine ∧ Nx (upd H4 D (.lst (acc ++ [y]))) else Nx H3) := by
  refine lc_list (K := K) (a := a) (xs := ns.map V.int) (fun i G => Same H1 G ∧ ∃ gs : List Int, gs.length ≤ i ∧ G D = some (.lst (gs.map V.int))) ⟨Same.over (Same.refl _) hD, [], Nat.le_refl _, upd_same⟩ (fun i G _ ⟨s1, _⟩ => s1.seq hS) ?_ ?_
  · rintro i x G hx ⟨s1, gs, hl, d1⟩
    have hi : i < ns.length := by
      have := (List.getElem?_eq_some_iff.mp hx).1
      rw [List.length_map] at this; exact this
    obtain ⟨z, _, rfl⟩ := List.mem_map.mp (List.mem_of_getElem? hx)
    refine ⟨hw _, ht z G _ fun b => ?_⟩
    cases b with
    | true =>
      rw [if_pos rfl]
      refine he z G _ fun r => ⟨_, d1, ?_, Same.over s1 hD, gs ++ [r], by rw [List.length_append]; simp; omega, by rw [upd_same, List.map_append]; rfl⟩
      rw [List.length_map]
      have : sizeLine = 16777216 := sizeLine_eq
      omega
    | false =>
      rw [if_neg Bool.false_ne_true]
      exact ⟨s1, gs, by omega, d1⟩
  · rintro G ⟨s1, gs, _, d1⟩
    exact hd G gs s1 d1
theorem ok_begun {f : Addr} {fd : FuncData} (F : Fun K "_law_begun" "_law_begun" sBegun f fd) (habs : mg "abs" = none) : FnOk P w K mg base CX0 1 f fd ["script"] (spBegun K) := by
  refine F.ok scBegun (fun vs H Q E h => ?_) (fun cdv A outer s H vs Q E hr h => ?_)
  · obtain ⟨a, ns, rfl, _⟩ := h
    rfl
  · obtain ⟨a, ns, rfl, hS, hl, k⟩ := h
    refine ⟨_, pss_cons (ps_setLc (i := 1) (own := [("cell", 2)]) (g := gName 2) rfl scBegun.nd rfl rfl (sw_true rfl rfl rfl (by decide +kernel)) (pi_list (pv 0)) (blkOk_by (N := ["script", "great", "cell"]) (sc := defScope sBegun) (by decide +kernel)) (fun _ _ _ _ _ => pg_name (i := 2) scBegun.nd rfl (Or.inl rfl))
        (fun _ _ _ _ _ => pts_one (pt_cmpR op_ge (pe_callB call_abs (by rfl) habs (by decide +kernel) (pa_cons (pv 2) pa_nil)) (pe_op op_pow pe_int pe_int) (nomark _))) (fun _ _ _ _ _ => pe_op op_sub (pe_callB call_abs (by rfl) habs (by decide +kernel) (pa_cons (pv 2) pa_nil)) (pe_op op_pow pe_int pe_int)))
      (pss_one (ps_ret (pe_disp (pps_cons pe_str (pv 1) (pps_cons pe_str (pe_lc (own := [("cell", 2)]) (g := gName 2) (tt := tYes) rfl scBegun.nd (pi_list (pv 0)) (blkOk_by (N := ["script", "great", "cell"]) (sc := defScope sBegun) (by decide +kernel)) (fun _ _ _ _ _ => pg_name (i := 2) scBegun.nd rfl (Or.inl rfl)) (fun _ _ _ _ _ => pts_nil)
          (fun _ _ _ _ _ => pe_callB call_abs (by rfl) habs (by decide +kernel) (pa_cons (pv 2) pa_nil))) (pps_cons pe_str pe_int (pps_cons pe_str pe_int pps_nil)))) (by rfl) (by rfl) (fun z => by cases z) (by decide)))), ?_⟩
    refine ⟨_, rfl, a, rfl, ⟨_, hS⟩, fun D hD => lc_ints (slot := 2) hD hS hl (fun x => rfl) (fun z G Q' q => ?_) (fun z G Q' q => ?_) fun G1 gs s1 d1 => ?_⟩
    · exact ⟨_, rfl, z, rfl, _, _, rfl, rfl, ⟨by decide, by decide, by decide⟩, _, _, rfl, rfl, _, rfl, q _⟩
    · exact ⟨_, rfl, z, rfl, _, _, rfl, rfl, ⟨by decide, by decide, by decide⟩, _, _, rfl, rfl, q _⟩
    · intro p hp
      have s2 : Same G1 (upd G1 p (.dK [])) := Same.over (Same.refl G1) hp
      have nDp : D ≠ p := ne_of_none d1 hp
      refine ⟨_, rfl, _, rfl, a, rfl, ⟨_, s2.seq (s1.seq hS)⟩, fun D2 hD2 => lc_ints (slot := 2) hD2 (s2.seq (s1.seq hS)) hl (fun x => rfl) (fun z G Q' q => q true) (fun z G Q' q => ⟨_, rfl, z, rfl, q _⟩) fun G2 cs s3 d2 => ?_⟩
      have hp2 : G2 p = some (.dK []) := s3 _ _ upd_same
      refine ⟨hp2, stK D D2 0 0, rfl, (by show 4 ≤ 15; decide), ?_⟩
      rw [merge_st]
      have e1 : G2 D = some (.lst (gs.map V.int)) := s3 _ _ (s2 _ _ d1)
      have nD : D ≠ p := nDp
      have nD2 : D2 ≠ p := ne_of d2 hp2 (by intro z; cases z)
      have nDD : D ≠ D2 := ne_of_none (s2 _ _ d1) hD2
      refine k _ p D D2 ⟨⟨0, 0, gs, cs, upd_same, by rw [upd_ne nD]; exact e1, by rw [upd_ne nD2]; exact d2, by decide, by decide⟩, nDD⟩ ?_ hD fun b o e => ?_
      · cases q : H p with
        | none => rfl
        | some o => rw [s1 _ _ q] at hp; cases hp
      · have q := s3 _ _ (s2 _ _ (s1 _ _ e))
        rw [upd_ne (ne_of_none (s1 _ _ e) hp)]
        exact q
end
end K94

set_option Elab.async false
set_option linter.all false
set_option maxRecDepth 100000
set_option maxHeartbeats 4000000
namespace K94
open PySem PySem.Spec PyProof.Rows L2
abbrev sCaught : Stmt := top 21
abbrev sSum94 : Stmt := top 22
abbrev sSigns94 : Stmt := top 23
abbrev sText : Stmt := top 24
abbrev sNear : Stmt := top 25
/-! ### _law_pick -/
def spPick : Sp := fun vs H Q _ => ∃ (d g c : Addr) (n : Nat) (x : V), vs = [.ref d, x] ∧ StAt H d g c n ∧ n < 2 ^ 40 ∧
  ((∃ (a : Addr) (ys : List Str), x = .ref a ∧ H a = some (.lst (ys.map V.str)) ∧ a ≠ g ∧ ys ≠ [] ∧ ys.length < 2 ^ 20 ∧ ∀ y ∈ ys, ∀ H', StAt H' d g c (n + 1) → Keeps d g H H' → Q (.str y) H') ∨
   (∃ z : Str, x = .str z ∧ z.length ≠ 0 ∧ z.length < 2 ^ 20 ∧ ∀ s ∈ tl z, ∀ H', StAt H' d g c (n + 1) → Keeps d g H H' → Q (.str ⟨#[s]⟩) H'))
section
variable {P : Program} {w : World} {K : PySem.W.Frag} {mg : Str → Option Value} {base : Heap}
/-- the draws' defs, as they stand -/
structure Ds (K : PySem.W.Frag) (mg : Str → Option Value) (fB fD fP : Addr) (fdB fdD fdP : FuncData) : Prop where
  B : Fun K "_law_blended" "_law_blended" sBlended fB fdB
  gB : mg "_law_blended" = some (.ref fB)
  bB : Binds K fdB ["state"] []
  D : Fun K "_law_draw" "_law_draw" sDraw fD fdD
  gD : mg "_law_draw" = some (.ref fD)
  bD : Binds K fdD ["state", "size_here"] []
  P : Fun K "_law_pick" "_law_pick" sPick fP fdP
  gP : mg "_law_pick" = some (.ref fP)
  bP : Binds K fdP ["state", "several"] []
theorem Ds.draw {fB fD fP : Addr} {fdB fdD fdP : FuncData} (D : Ds K mg fB fD fP fdB fdD fdP) (T : Nm mg) : FnOk P w K mg base CX0 2 fD fdD ["state", "size_here"] spDraw := ok_draw D.D T D.B D.bB D.gB
theorem scPick : FnScope ["state", "several"] ["state", "several"] (defScope sPick) := ⟨rfl, rfl, rfl, by decide +kernel, rfl, by decide +kernel, by decide +kernel⟩
theorem ok_pick {fB fD fP : Addr} {fdB fdD fdP : FuncData} (D : Ds K mg fB fD fP fdB fdD fdP) (T : Nm mg) : FnOk P w K mg base CX0 3 fP fdP ["state", "several"] spPick := by
  have GD : FnOk P w K mg base CX0 2 fD fdD ["state", "size_here"] spDraw := D.draw T
  refine D.P.ok scPick (fun vs H Q E h => ?_) (fun cdv A outer s H vs Q E hr h => ?_)
  · obtain ⟨d, g, c, n, x, rfl, _⟩ := h
    rfl
  · obtain ⟨d, g, c, n, x, rfl, S, hn, h⟩ := h
    have hs : sizeLine = 16777216 := sizeLine_eq
    refine ⟨_, pss_one (ps_ret (pe_ix ix_seq (pv 1) (pe_call GD hr rfl D.gD D.D.kp D.bD .nil pass0 (pa_cons (pv 0) (pa_cons (pe_callB call_len (by rfl) T.len PySem.boot_len (pa_cons (pv 1) pa_nil)) pa_nil))) (fun _ _ => rfl))), ?_⟩
    rcases h with ⟨a, ys, rfl, ha, hag, hne, hl, k⟩ | ⟨z, rfl, hne, hl, k⟩
    · have h0 : 0 < ys.length := List.length_pos_iff.mpr hne
      have nad : a ≠ d := by
        obtain ⟨⟨l, t, gs, cs, hd, _⟩, _⟩ := S
        exact ne_of ha hd (by intro z; cases z)
      refine ⟨_, rfl, _, rfl, _, rfl, _, _, rfl, .inl ⟨_, SqL.of ha, rfl⟩, d, g, c, n, _, rfl, S, hn, by rw [List.length_map]; omega, by rw [List.length_map]; omega, fun H' v v0 v1 S' kp => ?_⟩
      rw [List.length_map] at v1
      have hv : v.toNat < ys.length := by omega
      refine .inl ⟨a, ys.map V.str, v, .str ys[v.toNat], rfl, rfl, SqL.of (kp _ _ ha nad hag), ?_, k _ (List.getElem_mem hv) H' S' kp⟩
      have e := atI_nat (xs := ys.map V.str) (j := v.toNat) (v := .str ys[v.toNat]) (by rw [List.getElem?_map, List.getElem?_eq_getElem hv]; rfl)
      rw [Int.toNat_of_nonneg v0] at e
      exact e
    · have lz := len_tl z
      refine ⟨_, rfl, _, rfl, _, rfl, _, _, rfl, ⟨by omega, rfl⟩, d, g, c, n, _, rfl, S, hn, by omega, by omega, fun H' v v0 v1 S' kp => ?_⟩
      have hv : v.toNat < (tl z).length := by omega
      refine .inr (.inr ⟨z, v, (tl z)[v.toNat], rfl, rfl, by omega, ?_, k _ (List.getElem_mem hv) H' S' kp⟩)
      have e := atI_nat (xs := tl z) (j := v.toNat) (v := (tl z)[v.toNat]) (List.getElem?_eq_getElem hv)
      rw [Int.toNat_of_nonneg v0] at e
      exact e
end
/-! ### _law_caught: what it makes of a lambda -/
/-- the error that the lambda raises, None if it raises none -/
def TTc (K : PySem.W.Frag) (CL : Addr) : (XK → Hp → VK → Prop) → Hp → VK → Prop := fun tlm H Q =>
  tlm (fun cls d H' => ∃ b, PySem.W.exmOne K cls (.ref CL) = some b ∧ (b = true → d = none ∧ ∀ a, H' a = none → Q (.ref a) (upd H' a (ExV cls a))) ∧ (b = false → False)) H (fun _ H' => ∃ v, (some (some V.non) : Option (Option V)) = some (some v) ∧ Q v H')
theorem scCaught : FnScope ["work", "caught", "error"] ["work"] (defScope sCaught) := ⟨rfl, rfl, rfl, by decide +kernel, rfl, by decide +kernel, by decide +kernel⟩
theorem caught_gives {X : Cx} {g CL : Addr} {cdg : Value} {q : Str} (hm : X.mg "LoanError" = some (.ref CL)) :
    LamX.GivesTo X ["work", "caught", "error"] "_law_caught" (defScope sCaught) g cdg (defBody sCaught) "work" q (TTc X.K CL) := by
  intro f c' s H Q tlm act hc h
  refine ⟨_, pss_cons (ps_set (i := 1) scCaught.nd rfl (Or.inl rfl) pe_non)
    (pss_cons (ps_try_keep (i := 2) (j := 1) (c := .ref CL) (Wout := fun _ _ _ _ => False)
      (tb := fun W D σ H => ∃ Ech : XK, (∀ (cls : Value) (d : Option Addr) (σ' : L2.St) (H' : Hp), Ech cls d H' → W cls d σ' H') ∧ σ[0]? = some (some (.ref f)) ∧ H c' = some (LamX.CodeO c' q) ∧ tlm Ech H fun _ H' => D.nx σ H')
      rfl rfl rfl scCaught.nd rfl rfl rfl rfl (by decide) ⟨rfl, by decide, .inl hm⟩ LamX.takes0 (by decide) (by decide) (fun W pn xe tk _ => ?_))
    (pss_one (ps_ret (pv 1)))), ?_⟩
  · refine ⟨fun pins s' σ H' D I h' => ?_⟩
    obtain ⟨Ech, hW, h1, h2, h3⟩ := h'
    exact (pss_one (ps_expr (act W pn xe Ech _ _ tk hW))).run pins s' σ H' D I ⟨h1, h2, h3⟩
  · refine ⟨fun cls d H' => ∃ b, PySem.W.exmOne X.K cls (.ref CL) = some b ∧ (b = true → d = none ∧ ∀ a, H' a = none → Q (.ref a) (upd H' a (ExV cls a))) ∧ (b = false → False), fun cls d σ' H' ⟨b, e1, e2, e3⟩ => ⟨b, e1, fun hb l2 l1 => ⟨(e2 hb).1, fun a ha => ⟨.ref a, ?_, (e2 hb).2 a ha⟩⟩, e3⟩, rfl, hc, ?_⟩
    · rw [List.getElem?_set_ne (by decide), List.getElem?_set_self (by rw [List.length_set]; exact l1)]
    · exact h
section
variable {P : Program} {w : World} {K : PySem.W.Frag} {mg : Str → Option Value} {base : Heap}
/-! ### _law_k94_sum, _law_k94_signs -/
def spSum94 : Sp := fun vs H Q _ => ∃ z : Str, vs = [.str z] ∧ z.length ≤ 1000 ∧ ∀ H', Same H H' → Q (.int ((W 1 (tl z) % K94.P : Nat) : Int)) H'
theorem scSum94 : FnScope ["text", "at", "sign"] ["text"] (defScope sSum94) := ⟨rfl, rfl, rfl, by decide +kernel, rfl, by decide +kernel, by decide +kernel⟩
/-- the summands -/
def parts94 (z : Str) : List Int := (List.range (tl z).length).map fun i => (((i + 1) * (tl z).getD i 0 : Nat) : Int)
theorem sum_parts (l : List Nat) : ((List.range l.length).map fun i => (((i + 1) * l.getD i 0 : Nat) : Int)).sum = ((W 1 l : Nat) : Int) := by
  have go : ∀ n, n ≤ l.length → ((List.range n).map fun i => (((i + 1) * l.getD i 0 : Nat) : Int)).sum = ((W 1 (l.take n) : Nat) : Int) := by
    intro n
    induction n with
    | zero => intro _; simp [W]
    | succ n ih =>
      intro hn
      have hlt : n < l.length := by omega
      rw [List.range_succ, List.map_append, List.sum_append, ih (by omega), take_snoc (List.getElem?_eq_getElem hlt), W_snoc, List.length_take, Nat.min_eq_left (by omega)]
      have e : l.getD n 0 = l[n] := by rw [List.getD_eq_getElem?_getD, List.getElem?_eq_getElem hlt]; rfl
      simp only [List.map_cons, List.map_nil, List.sum_cons, List.sum_nil, e]
      rw [Nat.add_comm 1 n]
      omega
  have := go l.length (Nat.le_refl _)
  rw [List.take_length] at this
  exact this
theorem ok_sum94 {f : Addr} {fd : FuncData} (F : Fun K "_law_k94_sum" "_law_k94_sum" sSum94 f fd) (T : Nm mg) (hsum : mg "sum" = none) : FnOk P w K mg base CX0 1 f fd ["text"] spSum94 := by
  refine F.ok scSum94 (fun vs H Q E h => ?_) (fun cdv A outer s H vs Q E hr h => ?_)
  · obtain ⟨z, rfl, _⟩ := h
    rfl
  · obtain ⟨z, rfl, hz, k⟩ := h
    have hs : sizeLine = 16777216 := sizeLine_eq
    have lz := len_tl z
    refine ⟨_, pss_one (ps_ret (pe_op op_mod (pe_callTy call_int1 (by rfl) T.int (by decide +kernel) (pa_cons (pe_callB (cr_sum rfl) (by rfl) hsum (by decide +kernel) (pa_cons
      (pe_lc (own := [("at", 1), ("sign", 2)]) (g := gTup _ 2 (gCons (gName 1) (gCons (gName 2) gNil))) (tt := tYes) rfl scSum94.nd (pi_enumS (by rfl) T.enum (pa_cons (pv 0) pa_nil)) (blkOk_by (N := ["text", "at", "sign"]) (sc := defScope sSum94) (by decide +kernel))
        (fun _ _ _ _ _ => pg_tup rfl (pgs_cons (pg_name (i := 1) scSum94.nd rfl (Or.inl rfl)) (pgs_cons (pg_name (i := 2) scSum94.nd rfl (Or.inl rfl)) pgs_nil))) (fun _ _ _ _ _ => pts_nil)
        (fun _ _ _ _ _ => pe_op op_mul (pe_op op_add (pv 1) pe_int) (pe_callB call_ord (by rfl) T.ord (by decide +kernel) (pa_cons (pv 2) pa_nil)))) pa_nil)) pa_nil)) pe_int)), ?_⟩
    refine ⟨_, rfl, z, rfl, fun D hD => lc_it (walk_text (z := z)) (fun i G => Same H G ∧ G D = some (.lst (((List.range i).map fun i => (((i + 1) * (tl z).getD i 0 : Nat) : Int)).map V.int))) ⟨Same.over (Same.refl H) hD, upd_same⟩ (fun _ _ _ _ => trivial) ?_ ?_⟩
    · rintro i x G G' hi ⟨sG, dG⟩ ⟨T0, c, rfl, fT, rfl, hc⟩
      have sG' : Same H (upd G T0 (.tup [.int (i : Nat), .str ⟨#[c]⟩])) := fun b o e => by
        rw [upd_ne (ne_of_none (sG b o e) fT)]
        exact sG b o e
      have nDT : D ≠ T0 := ne_of_none dG fT
      have hi2 : i < z.length := hi
      refine ⟨T0, _, rfl, SqT.of upd_same, rfl, _, _, rfl, _, _, rfl, rfl, rfl, ?_⟩
      unfold tYes
      dsimp only
      rw [if_pos rfl]
      refine ⟨_, rfl, _, _, rfl, rfl, .str ⟨#[c]⟩, rfl, _, rfl, rfl, _, _, rfl, rfl, .inl ⟨by omega, by omega⟩, _, by rw [upd_ne nDT]; exact dG, ?_, Same.over sG' hD, ?_⟩
      · rw [List.length_map, List.length_map, List.length_range]; omega
      · rw [upd_same, List.range_succ, List.map_append, List.map_append]
        have e : (tl z).getD i 0 = c := by rw [List.getD_eq_getElem?_getD, arr_at hc]; rfl
        have e3 : ((i : Nat) + 1 : Int) * ((c : Nat) : Int) = (((i + 1) * c : Nat) : Int) := by
          rw [Int.natCast_mul]
          congr 1
        simp only [List.map_cons, List.map_nil, e, ← e3]
        rfl
    · rintro G ⟨sG, dG⟩
      refine ⟨D, parts94 z, rfl, SqL.of (by rw [dG]; unfold parts94; rw [← lz]; rfl), .inl ⟨_, rfl, _, _, rfl, rfl, (by show (0 : Int) < 1000000007; decide), ?_⟩⟩
      unfold parts94
      rw [sum_parts]
      have e : ((W 1 (tl z) : Nat) : Int) % 1000000007 = ((W 1 (tl z) % K94.P : Nat) : Int) := by unfold K94.P; omega
      show Q (.int (((W 1 (tl z) : Nat) : Int) % 1000000007)) G
      rw [e]
      exact k G sG
theorem scSigns94 : FnScope [] [] (defScope sSigns94) := ⟨rfl, rfl, rfl, by decide +kernel, rfl, by decide +kernel, by decide +kernel⟩
def all94 : Str := Str.ofString " !#$&'()*+,-./0123456789:;<=>?@ABCDEFGHIJKLMNOPQRSTUVWXYZ[]^_abcdefghijklmnopqrstuvwxyz{|}~"
theorem all94_facts : (tl all94).all isSign = true ∧ all94.length = 91 := by decide +kernel
def spSigns94 : Sp := fun vs H Q _ => vs = [] ∧ Q (.str all94) H
theorem ok_signs94 {f : Addr} {fd : FuncData} (F : Fun K "_law_k94_signs" "_law_k94_signs" sSigns94 f fd) : FnOk P w K mg base CX0 1 f fd [] spSigns94 := by
  refine F.ok scSigns94 (fun vs H Q E h => ?_) (fun cdv A outer s H vs Q E hr h => ?_)
  · obtain ⟨rfl, _⟩ := h
    rfl
  · obtain ⟨rfl, k⟩ := h
    exact ⟨_, pss_one (ps_ret pe_str), k⟩
end
end K94

set_option Elab.async false
set_option linter.all false
set_option maxRecDepth 100000
set_option maxHeartbeats 8000000
namespace K94
open PySem PySem.Spec PyProof.Rows L2
/-! ### joined texts -/
theorem joined (s : Str) : ∀ ys : List Str, (∀ c ∈ tl (Str.join s ys), c ∈ tl s ∨ ∃ y ∈ ys, c ∈ tl y) ∧ (Str.join s ys).length ≤ (ys.map (·.length)).sum + ys.length * s.length
  | [] => ⟨fun c hc => (List.not_mem_nil hc).elim, Nat.zero_le _⟩
  | [x] => ⟨fun c hc => .inr ⟨x, List.mem_singleton.mpr rfl, hc⟩, by show x.length ≤ x.length + 0 + _; omega⟩
  | x :: y :: r => by
    have e : Str.join s (x :: y :: r) = x ++ s ++ Str.join s (y :: r) := rfl
    obtain ⟨h1, h2⟩ := joined s (y :: r)
    constructor
    · intro c hc
      rw [e, tl_app, tl_app] at hc
      rcases List.mem_append.mp hc with hc | hc
      · rcases List.mem_append.mp hc with hc | hc
        · exact .inr ⟨x, List.mem_cons_self, hc⟩
        · exact .inl hc
      · rcases h1 c hc with h | ⟨z, hz, h⟩
        · exact .inl h
        · exact .inr ⟨z, List.mem_cons_of_mem _ hz, h⟩
    · have e2 : (x ++ s ++ Str.join s (y :: r)).length = x.length + s.length + (Str.join s (y :: r)).length := by
        rw [len_tl, tl_app, tl_app, List.length_append, List.length_append, ← len_tl, ← len_tl, ← len_tl]
      rw [e, e2]
      simp only [List.map_cons, List.sum_cons, List.length_cons, Nat.succ_mul] at h2 ⊢
      omega
theorem sum_le (ys : List Str) (m : Nat) (h : ∀ y ∈ ys, y.length ≤ m) : (ys.map (·.length)).sum ≤ ys.length * m := by
  induction ys with
  | nil => simp
  | cons y ys ih =>
    have h1 := h y List.mem_cons_self
    have h2 := ih fun z hz => h z (List.mem_cons_of_mem _ hz)
    simp only [List.map_cons, List.sum_cons, List.length_cons, Nat.succ_mul]
    omega
/-- a row of a drawn text -/
def RowOk (y : Str) : Prop := y.length ≤ 13 ∧ ∀ c ∈ tl y, isSign c = true
theorem sign_one {c : Nat} (h : c ∈ tl all94) : isSign c = true := List.all_eq_true.mp all94_facts.1 c h
section
variable {P : Program} {w : World} {K : PySem.W.Frag} {mg : Str → Option Value} {base : Heap}
def spText : Sp := fun vs H Q _ => ∃ (d g c : Addr) (n : Nat), vs = [.ref d] ∧ StAt H d g c n ∧ n + 100 < 2 ^ 40 ∧
  ∀ H' (z : Str), goodB z = true → z.length ≤ 60 → StAt H' d g c (n + 61) → Keeps d g H H' → Q (.str z) H'
theorem scText : FnScope ["state", "rows", "turn", "spelled", "spell"] ["state"] (defScope sText) := ⟨rfl, rfl, rfl, by decide +kernel, rfl, by decide +kernel, by decide +kernel⟩
theorem ok_text {f fB fD fP fS : Addr} {fd fdB fdD fdP fdS : FuncData} (F : Fun K "_law_k94_text" "_law_k94_text" sText f fd) (T : Nm mg) (hrng : mg "range" = none) (D : Ds K mg fB fD fP fdB fdD fdP)
    (FS : Fun K "_law_k94_signs" "_law_k94_signs" sSigns94 fS fdS) (gS : mg "_law_k94_signs" = some (.ref fS)) (bS : Binds K fdS [] []) : FnOk P w K mg base CX0 4 f fd ["state"] spText := by
  have GD : FnOk P w K mg base CX0 2 fD fdD ["state", "size_here"] spDraw := D.draw T
  have GP : FnOk P w K mg base CX0 3 fP fdP ["state", "several"] spPick := ok_pick D T
  have GS : FnOk P w K mg base CX0 1 fS fdS [] spSigns94 := ok_signs94 FS
  refine F.ok scText (fun vs H Q E h => ?_) (fun cdv A outer s H vs Q E hr h => ?_)
  · obtain ⟨d, g, c, n, rfl, _⟩ := h
    rfl
  · obtain ⟨d, g, c, n, rfl, S, hn, k⟩ := h
    have hr1 : Room 1 _ := hr.mono (by decide)
    have hr2 : Room 2 _ := hr.mono (by decide)
    have hs : sizeLine = 16777216 := sizeLine_eq
    refine ⟨_, pss_cons (ps_set (i := 1) scText.nd rfl (Or.inl rfl) (pe_lst pa_nil))
      (pss_cons (ps_for PassesOwn.never rfl (pi_range1 (by rfl) hrng (pa_cons (pe_call GD hr2 rfl D.gD D.D.kp D.bD .nil pass0 (pa_cons (pv 0) (pa_cons pe_int pa_nil))) pa_nil)) (pg_name (i := 2) scText.nd rfl (Or.inl rfl))
        (pss_cons (ps_set (i := 3) scText.nd rfl (Or.inl rfl) (pe_join pe_str
          (pe_lc (own := [("spell", 4)]) (g := gName 4) (tt := tYes) rfl scText.nd (pi_range1 (by rfl) hrng (pa_cons (pe_call GD hr2 rfl D.gD D.D.kp D.bD .nil pass0 (pa_cons (pv 0) (pa_cons pe_int pa_nil))) pa_nil)) (blkOk_by (N := ["state", "rows", "turn", "spelled", "spell"]) (sc := defScope sText) (by decide +kernel)) (fun _ _ _ _ _ => pg_name (i := 4) scText.nd rfl (Or.inl rfl)) (fun _ _ _ _ _ => pts_nil)
            (fun _ _ _ _ _ => pe_call GP hr rfl D.gP D.P.kp D.bP .nil pass0 (pa_cons (pv 0) (pa_cons (pe_call0 GS hr1 rfl gS FS.kp bS .nil pass0) pa_nil))))))
        (pss_one (ps_expr (pe_bm PySem.F.plainAttrs_list PySem.F.slot_list_append PySem.F.type_list_append mt_append (pv 1) (pa_cons (pe_call GP hr rfl D.gP D.P.kp D.bP .nil pass0 (pa_cons (pv 0) (pa_cons (pe_lst (pa_cons pe_str (pa_cons pe_str (pa_cons pe_str (pa_cons pe_str (pa_cons pe_str (pa_cons (pv 3) (pa_cons (pv 3) pa_nil)))))))) pa_nil))) pa_nil))))))
      (pss_one (ps_ret (pe_join pe_str (pv 1))))), ?_⟩
    refine ⟨by show 0 ≤ sizeLine; decide, fun r hrr => ?_⟩
    have s0 : Same H (upd H r (.lst [])) := Same.over (Same.refl H) hrr
    generalize hH1 : upd H r (.lst []) = H1 at s0
    have S1 : StAt H1 d g c n := S.same s0
    have r1 : H1 r = some (.lst []) := by rw [← hH1]; exact upd_same
    obtain ⟨ng, nd⟩ : r ≠ g ∧ r ≠ d := by
      obtain ⟨⟨l, t, gs, cs, h1, h2, _⟩, _⟩ := S
      exact ⟨(ne_of_none h2 hrr).symm, (ne_of_none h1 hrr).symm⟩
    refine ⟨_, rfl, d, g, c, n, 5, rfl, S1, by omega, by decide, by decide, fun H2 v v0 v1 S2 k2 => ?_⟩
    refine ⟨v, rfl, by omega, by omega, for_range (lo := 0) (n := v.toNat) (fun i σ G => ∃ (ys : List Str) (v2 v3 v4 : Option V), σ = [some (.ref d), some (.ref r), v2, v3, v4] ∧ G r = some (.lst (ys.map V.str)) ∧ ys.length = i ∧ (∀ y ∈ ys, RowOk y) ∧ StAt G d g c (n + 1 + 15 * i) ∧ Keeps d g H G)
      ⟨[], none, none, none, rfl, k2 _ _ r1 nd ng, rfl, (fun y hy => by cases hy), S2, (Keeps.of s0).trans k2⟩ ?_ ?_⟩
    · rintro i σ G hi ⟨ys, v2, v3, v4, rfl, gr, hl, hys, SG, kG⟩
      have hi4 : i < 4 := by omega
      refine ⟨⟨_, rfl⟩, _, rfl, d, g, c, n + 1 + 15 * i, 14, rfl, SG, by omega, by decide, by decide, fun H3 u u0 u1 S3 k3 => ?_⟩
      have nrD : G r = some (.lst (ys.map V.str)) := gr
      have r3 : H3 r = some (.lst (ys.map V.str)) := k3 _ _ gr nd ng
      refine ⟨u, rfl, by omega, by omega, fun Dd hDd => lc_it (walk_range (lo := 0) (n := u.toNat)) (fun j G' => ∃ zs : List Str, G' Dd = some (.lst (zs.map V.str)) ∧ zs.length = j ∧ (∀ y ∈ zs, y.length ≤ 1 ∧ ∀ c ∈ tl y, isSign c = true) ∧ StAt G' d g c (n + 2 + 15 * i + j) ∧ Keeps d g H3 G')
        ⟨[], upd_same, rfl, (fun y hy => (List.not_mem_nil hy).elim), (S3.same (Same.over (Same.refl H3) hDd)).mono (by omega), Keeps.of (Same.over (Same.refl H3) hDd)⟩ (fun _ _ _ _ => trivial) ?_ ?_⟩
      · rintro j x G' G'' hj ⟨zs, gD, hz, hzs, SG', kG'⟩ ⟨rfl, rfl⟩
        refine ⟨rfl, ?_⟩
        unfold tYes
        dsimp only
        rw [if_pos rfl]
        have nDg : Dd ≠ g ∧ Dd ≠ d := by
          obtain ⟨⟨l, t, gs, cs, h1, h2, _⟩, _⟩ := S3
          exact ⟨(ne_of_none h2 hDd).symm, (ne_of_none h1 hDd).symm⟩
        refine ⟨_, rfl, rfl, d, g, c, n + 2 + 15 * i + j, .str all94, rfl, SG', by omega, .inr ⟨all94, rfl, by rw [all94_facts.2]; decide, by rw [all94_facts.2]; decide, fun sg hsg H4 S4 k4 => ?_⟩⟩
        refine ⟨_, k4 _ _ gD nDg.2 nDg.1, by rw [List.length_map]; omega, zs ++ [⟨#[sg]⟩], by rw [upd_same, List.map_append]; rfl, by rw [List.length_append, hz]; rfl, fun y hy => ?_, ?_, ?_⟩
        · rcases List.mem_append.mp hy with hy | hy
          · exact hzs y hy
          · rw [List.mem_singleton.mp hy]
            refine ⟨Nat.le_refl 1, fun q hq => ?_⟩
            rw [List.mem_singleton.mp hq]
            exact sign_one hsg
        · obtain ⟨⟨l, t, gs, cs, h1, h2, h3, h4, h5⟩, gc⟩ := S4
          have nDc : Dd ≠ c := by
            obtain ⟨⟨_, _, _, _, _, _, q3, _⟩, _⟩ := S3
            exact (ne_of_none q3 hDd).symm
          exact ⟨⟨l, t, gs, cs, by rw [upd_ne nDg.2.symm]; exact h1, by rw [upd_ne nDg.1.symm]; exact h2, by rw [upd_ne nDc.symm]; exact h3, h4, by omega⟩, gc⟩
        · intro b o e n1 n2
          rw [upd_ne (ne_of_none e hDd)]
          exact k4 b o (kG' b o e n1 n2) n1 n2
      · rintro G' ⟨zs, gD, hz, hzs, SG', kG'⟩
        have hj := joined (Str.ofString "") zs
        have hsum := sum_le zs 1 fun y hy => (hzs y hy).1
        have e0 : (Str.ofString "").length = 0 := rfl
        rw [e0] at hj
        refine ⟨Str.ofString "", Dd, zs, rfl, rfl, .inl (SqL.of gD), by rw [e0]; omega, ?_⟩
        rw [TL.join_eq]
        have ok1 : RowOk (Str.join (Str.ofString "") zs) := by
          refine ⟨by have := hj.2; omega, fun q hq => ?_⟩
          rcases hj.1 q hq with h | ⟨y, hy, h⟩
          · exact (List.not_mem_nil h).elim
          · exact (hzs y hy).2 q h
        generalize Str.join (Str.ofString "") zs = sp at ok1
        have r4 : G' r = some (.lst (ys.map V.str)) := kG' _ _ r3 nd ng
        refine ⟨_, rfl, .inl ⟨rfl, _, SqL.of r4⟩, _, rfl, _, rfl, _, rfl, by show 7 ≤ sizeLine; decide, fun L hL => ?_⟩
        have sL : Same G' (upd G' L (.lst [.str (Str.ofString ""), .str (Str.ofString "0"), .str (Str.ofString "17"), .str (Str.ofString "sum 5"), .str (Str.ofString "sum "), .str sp, .str sp])) := Same.over (Same.refl G') hL
        have nLg : L ≠ g := by
          obtain ⟨⟨l, t, gs, cs, h1, h2, _⟩, _⟩ := SG'
          exact (ne_of_none h2 hL).symm
        refine ⟨d, g, c, n + 2 + 15 * i + u.toNat, .ref L, rfl, SG'.same sL, by omega, .inl ⟨L, [Str.ofString "", Str.ofString "0", Str.ofString "17", Str.ofString "sum 5", Str.ofString "sum ", sp, sp], rfl, upd_same, nLg, by simp, by show 7 < 2 ^ 20; decide, fun y hy H5 S5 k5 => ?_⟩⟩
        have r5 : H5 r = some (.lst (ys.map V.str)) := k5 _ _ (sL _ _ r4) nd ng
        have oky : RowOk y := by
          simp only [List.mem_cons, List.not_mem_nil, or_false] at hy
          rcases hy with e | e | e | e | e | e | e
          · rw [e]; exact ⟨by decide +kernel, by decide +kernel⟩
          · rw [e]; exact ⟨by decide +kernel, by decide +kernel⟩
          · rw [e]; exact ⟨by decide +kernel, by decide +kernel⟩
          · rw [e]; exact ⟨by decide +kernel, by decide +kernel⟩
          · rw [e]; exact ⟨by decide +kernel, by decide +kernel⟩
          · rw [e]; exact ok1
          · rw [e]; exact ok1
        refine ⟨r, _, .str y, rfl, rfl, r5, by rw [List.length_map]; omega, ys ++ [y], _, _, _, rfl, by rw [upd_same, List.map_append]; rfl, by rw [List.length_append, hl]; rfl, fun z hz' => ?_, ?_, ?_⟩
        · rcases List.mem_append.mp hz' with h | h
          · exact hys z h
          · rw [List.mem_singleton.mp h]; exact oky
        · obtain ⟨⟨l, t, gs, cs, h1, h2, h3, h4, h5⟩, gc⟩ := S5
          have nrc : r ≠ c := by
            obtain ⟨⟨_, _, _, _, _, _, q3, _⟩, _⟩ := S
            exact (ne_of_none q3 hrr).symm
          exact ⟨⟨l, t, gs, cs, by rw [upd_ne nd.symm]; exact h1, by rw [upd_ne ng.symm]; exact h2, by rw [upd_ne nrc.symm]; exact h3, h4, by omega⟩, gc⟩
        · intro b o e n1 n2
          rw [upd_ne (ne_of_none e hrr)]
          exact k5 b o (sL _ _ (kG' b o (k3 b o (kG b o e n1 n2) n1 n2) n1 n2)) n1 n2
    · rintro σ G ⟨ys, v2, v3, v4, rfl, gr, hl, hys, SG, kG⟩
      have hv : v.toNat ≤ 4 := by omega
      have hj := joined nl ys
      have hsum := sum_le ys 13 fun y hy => (hys y hy).1
      have enl : nl.length = 1 := rfl
      rw [enl] at hj
      refine ⟨⟨_, rfl⟩, _, rfl, nl, r, ys, rfl, rfl, .inl (SqL.of gr), ?_, k G _ ?_ ?_ (SG.mono (by omega)) kG⟩
      · rw [enl]; omega
      · rw [TL.join_eq]
        refine good_by fun c hc => ?_
        rcases hj.1 c hc with h | ⟨y, hy, h⟩
        · exact .inl (List.mem_singleton.mp h)
        · have := (hys y hy).2 c h
          unfold isSign at this
          rw [Bool.and_eq_true, decide_eq_true_eq, decide_eq_true_eq] at this
          exact .inr this
      · rw [TL.join_eq]
        have := hj.2
        omega
end
end K94

set_option Elab.async false
set_option linter.all false
set_option maxRecDepth 100000
set_option maxHeartbeats 8000000
namespace K94
open PySem PySem.Spec PyProof.Rows L2
/-- a text with one sign exchanged, left out or put in, or two neighbours exchanged -/
def Near (l l' : List Nat) : Prop := ∃ u x v, l = u ++ x :: v ∧
  ((∃ y, (y = 10 ∨ isSign y = true) ∧ l' = u ++ y :: v) ∨ l' = u ++ v ∨ (∃ y, (y = 10 ∨ isSign y = true) ∧ l' = u ++ y :: x :: v) ∨ (∃ y w, v = y :: w ∧ l' = u ++ y :: x :: w) ∨ l' = l)
theorem cut_mid (z : Str) {a b : Nat} (h : a ≤ b) : tl (cutS z (some (a : Int)) (some (b : Int))) = ((tl z).drop a).take (b - a) := by
  rw [tl_cut, HT.sIx_nat, HT.sIx_nat]
  have hl := len_tl z
  by_cases h1 : b ≤ z.length
  · rw [Nat.min_eq_left h1, Nat.min_eq_left (by omega)]
  · rw [Nat.min_eq_right (by omega)]
    by_cases h2 : a ≤ z.length
    · rw [Nat.min_eq_left h2, List.take_of_length_le (by rw [List.length_drop]; omega), List.take_of_length_le (by rw [List.length_drop]; omega)]
    · rw [Nat.min_eq_right (by omega), List.drop_eq_nil_of_le (show (tl z).length ≤ a by omega), List.drop_eq_nil_of_le (show (tl z).length ≤ z.length by omega)]; simp
theorem cut_at {l : List Nat} {a : Nat} (h : a < l.length) : ∃ x, l = l.take a ++ x :: l.drop (a + 1) ∧ l.drop a = x :: l.drop (a + 1) :=
  ⟨l[a], by
    have := List.take_append_drop a l
    rw [List.drop_eq_getElem_cons h] at this
    exact this.symm, List.drop_eq_getElem_cons h⟩
theorem len_app (x y : Str) : (x ++ y).length = x.length + y.length := by
  rw [len_tl, tl_app, List.length_append, ← len_tl, ← len_tl]
theorem len_one (c : Nat) : (⟨#[c]⟩ : Str).length = 1 := rfl
theorem tl_one (c : Nat) : tl (⟨#[c]⟩ : Str) = [c] := rfl
section
variable {P : Program} {w : World} {K : PySem.W.Frag} {mg : Str → Option Value} {base : Heap}
def spNear : Sp := fun vs H Q _ => ∃ (d g c : Addr) (n : Nat) (z : Str), vs = [.ref d, .str z] ∧ StAt H d g c n ∧ n + 100 < 2 ^ 40 ∧ 0 < z.length ∧ z.length ≤ 1000 ∧
  ∀ H' (z' : Str), Near (tl z) (tl z') → StAt H' d g c (n + 4) → Keeps d g H H' → Q (.str z') H'
theorem scNear : FnScope ["state", "text", "at", "way", "sign"] ["state", "text"] (defScope sNear) := ⟨rfl, rfl, rfl, by decide +kernel, rfl, by decide +kernel, by decide +kernel⟩
theorem ok_near {f fB fD fP fS : Addr} {fd fdB fdD fdP fdS : FuncData} (F : Fun K "_law_k94_near" "_law_k94_near" sNear f fd) (T : Nm mg) (D : Ds K mg fB fD fP fdB fdD fdP)
    (FS : Fun K "_law_k94_signs" "_law_k94_signs" sSigns94 fS fdS) (gS : mg "_law_k94_signs" = some (.ref fS)) (bS : Binds K fdS [] []) : FnOk P w K mg base CX0 4 f fd ["state", "text"] spNear := by
  have GD : FnOk P w K mg base CX0 2 fD fdD ["state", "size_here"] spDraw := D.draw T
  have GP : FnOk P w K mg base CX0 3 fP fdP ["state", "several"] spPick := ok_pick D T
  have GS : FnOk P w K mg base CX0 1 fS fdS [] spSigns94 := ok_signs94 FS
  refine F.ok scNear (fun vs H Q E h => ?_) (fun cdv A outer s H vs Q E hr h => ?_)
  · obtain ⟨d, g, c, n, z, rfl, _⟩ := h
    rfl
  · obtain ⟨d, g, c, n, z, rfl, S, hn, z0, z1, k⟩ := h
    have hr1 : Room 1 _ := hr.mono (by decide)
    have hr2 : Room 2 _ := hr.mono (by decide)
    have hs : sizeLine = 16777216 := sizeLine_eq
    have lz := len_tl z
    refine ⟨_, pss_cons (ps_par (i := 2) (j := 3) (by rfl) scNear.nd rfl rfl (by decide) rfl rfl
        (pa_cons (pe_call GD hr2 rfl D.gD D.D.kp D.bD .nil pass0 (pa_cons (pv 0) (pa_cons (pe_callB call_len_str (by rfl) T.len PySem.boot_len (pa_cons (pv 1) pa_nil)) pa_nil)))
        (pa_cons (pe_call GD hr2 rfl D.gD D.D.kp D.bD .nil pass0 (pa_cons (pv 0) (pa_cons pe_int pa_nil))) pa_nil)) (by rfl))
      (pss_cons (ps_set (i := 4) scNear.nd rfl (Or.inl rfl) (pe_call GP hr rfl D.gP D.P.kp D.bP .nil pass0 (pa_cons (pv 0) (pa_cons (pe_lst (pa_cons pe_str (pa_cons pe_str (pa_cons pe_str (pa_cons pe_str (pa_cons pe_str (pa_cons pe_str
          (pa_cons (pe_call GP hr rfl D.gP D.P.kp D.bP .nil pass0 (pa_cons (pv 0) (pa_cons (pe_call0 GS hr1 rfl gS FS.kp bS .nil pass0) pa_nil))) pa_nil)))))))) pa_nil))))
      (pss_cons (ps_if (pt_cmpR op_eq (pv 3) pe_int (nomark _)) (pss_one (ps_ret (pe_op op_add_str (pe_op op_add_str (pe_slice sl_str (pv 1) po_none (po_some (pv 2))) (pv 4)) (pe_slice sl_str (pv 1) (po_some (pe_op op_add (pv 2) pe_int)) po_none)))) pss_nil)
      (pss_cons (ps_if (pt_cmpR op_eq (pv 3) pe_int (nomark _)) (pss_one (ps_ret (pe_op op_add_str (pe_slice sl_str (pv 1) po_none (po_some (pv 2))) (pe_slice sl_str (pv 1) (po_some (pe_op op_add (pv 2) pe_int)) po_none)))) pss_nil)
      (pss_one (ps_ret (pe_ifExp (pt_cmpR op_eq (pv 3) pe_int (nomark _)) (pe_op op_add_str (pe_op op_add_str (pe_slice sl_str (pv 1) po_none (po_some (pv 2))) (pv 4)) (pe_slice sl_str (pv 1) (po_some (pv 2)) po_none))
        (pe_op op_add_str (pe_op op_add_str (pe_op op_add_str (pe_slice sl_str (pv 1) po_none (po_some (pv 2))) (pe_slice sl_str (pv 1) (po_some (pe_op op_add (pv 2) pe_int)) (po_some (pe_op op_add (pv 2) pe_int))))
          (pe_slice sl_str (pv 1) (po_some (pv 2)) (po_some (pe_op op_add (pv 2) pe_int)))) (pe_slice sl_str (pv 1) (po_some (pe_op op_add (pv 2) pe_int)) po_none)))))))), ?_⟩
    refine ⟨_, rfl, _, rfl, z, rfl, by omega, d, g, c, n, _, rfl, S, by omega, by omega, by omega, fun H1 a a0 a1 S1 k1 => ?_⟩
    refine ⟨_, rfl, d, g, c, n + 1, 4, rfl, S1, by omega, by decide, by decide, fun H2 wy w0 w1 S2 k2 => ⟨_, _, rfl, ?_⟩⟩
    obtain ⟨m, rfl⟩ := Int.eq_ofNat_of_zero_le a0
    have hm : m < (tl z).length := by omega
    obtain ⟨x, ez, ed⟩ := cut_at hm
    refine ⟨_, rfl, _, rfl, rfl, d, g, c, n + 2, .str all94, rfl, S2, by omega, .inr ⟨all94, rfl, by rw [all94_facts.2]; decide, by rw [all94_facts.2]; decide, fun sg hsg H3 S3 k3 => ?_⟩⟩
    refine ⟨by show 7 ≤ sizeLine; decide, fun L hL => ?_⟩
    have sL : Same H3 (upd H3 L (.lst [.str (Str.ofString "\n"), .str (Str.ofString " "), .str (Str.ofString "0"), .str (Str.ofString "1"), .str (Str.ofString "s"), .str (Str.ofString "~"), .str ⟨#[sg]⟩])) := Same.over (Same.refl H3) hL
    have nLg : L ≠ g := by
      obtain ⟨⟨l, t, gs, cs, h1, h2, _⟩, _⟩ := S3
      exact (ne_of_none h2 hL).symm
    refine ⟨d, g, c, n + 3, .ref L, rfl, S3.same sL, by omega, .inl ⟨L, [Str.ofString "\n", Str.ofString " ", Str.ofString "0", Str.ofString "1", Str.ofString "s", Str.ofString "~", ⟨#[sg]⟩], rfl, upd_same, nLg, by simp, by show 7 < 2 ^ 20; decide, fun y hy H4 S4 k4 => ?_⟩⟩
    obtain ⟨q, rfl, hq⟩ : ∃ q, y = ⟨#[q]⟩ ∧ (q = 10 ∨ isSign q = true) := by
      simp only [List.mem_cons, List.not_mem_nil, or_false] at hy
      rcases hy with e | e | e | e | e | e | e
      · exact ⟨10, e, .inl rfl⟩
      · exact ⟨32, e, .inr (by decide)⟩
      · exact ⟨48, e, .inr (by decide)⟩
      · exact ⟨49, e, .inr (by decide)⟩
      · exact ⟨115, e, .inr (by decide)⟩
      · exact ⟨126, e, .inr (by decide)⟩
      · exact ⟨sg, e, .inr (sign_one hsg)⟩
    have fin : ∀ z' : Str, Near (tl z) (tl z') → Q (.str z') H4 := fun z' hz' => k H4 z' hz' S4 (k1.trans (k2.trans (k3.trans ((Keeps.of sL).trans k4))))
    have l1 : ∀ lo hi, (cutS z lo hi).length ≤ 1000 := fun lo hi => Nat.le_trans (cutS_length z lo hi) z1
    have t0 : tl (cutS z none (some (m : Int))) = (tl z).take m := cut_to' z m
    have t1 : tl (cutS z (some ((m : Int) + 1)) none) = (tl z).drop (m + 1) := cut_from z (m + 1)
    have t2 : tl (cutS z (some ((m : Int) + 2)) none) = (tl z).drop (m + 2) := cut_from z (m + 2)
    have t3 : tl (cutS z (some (m : Int)) none) = (tl z).drop m := cut_from z m
    have t4 : tl (cutS z (some ((m : Int) + 1)) (some ((m : Int) + 2))) = ((tl z).drop (m + 1)).take 1 := by
      have := cut_mid z (a := m + 1) (b := m + 2) (by omega)
      rw [show m + 2 - (m + 1) = 1 by omega] at this
      exact this
    have t5 : tl (cutS z (some (m : Int)) (some ((m : Int) + 1))) = ((tl z).drop m).take 1 := by
      have := cut_mid z (a := m) (b := m + 1) (by omega)
      rw [show m + 1 - m = 1 by omega] at this
      exact this
    refine ⟨_, rfl, rfl, _, rfl, ?_⟩
    refine ite2 (fun _ => ?_) (fun _ => ?_)
    · refine ⟨_, rfl, _, rfl, _, rfl, z, rfl, by omega, _, rfl, _, _, rfl, rfl, ?_, _, rfl, _, rfl, _, _, rfl, rfl, _, rfl, z, rfl, by omega, _, _, rfl, rfl, ?_, fin _ ?_⟩
      · have := l1 none (some (m : Int)); rw [len_one]; omega
      · have h1 := l1 none (some (m : Int)); have h2 := l1 (some ((m : Int) + 1)) none; rw [len_app, len_one]; omega
      · refine ⟨(tl z).take m, x, (tl z).drop (m + 1), ez, .inl ⟨q, hq, ?_⟩⟩
        rw [tl_app, tl_app, t0, tl_one]
        refine (congrArg (fun r => (tl z).take m ++ [q] ++ r) t1).trans ?_
        rw [List.append_assoc]; rfl
    · refine ⟨_, rfl, rfl, _, rfl, ?_⟩
      refine ite2 (fun _ => ?_) (fun _ => ?_)
      · refine ⟨_, rfl, _, rfl, _, rfl, z, rfl, by omega, _, rfl, _, rfl, _, _, rfl, rfl, _, rfl, z, rfl, by omega, _, _, rfl, rfl, ?_, fin _ ?_⟩
        · have h1 := l1 none (some (m : Int)); have h2 := l1 (some ((m : Int) + 1)) none; omega
        · refine ⟨(tl z).take m, x, (tl z).drop (m + 1), ez, .inr (.inl ?_)⟩
          rw [tl_app, t0]
          exact congrArg (fun r => (tl z).take m ++ r) t1
      · refine ⟨_, rfl, rfl, _, rfl, ?_⟩
        refine ite2 (fun _ => ?_) (fun _ => ?_)
        · refine ⟨_, rfl, _, rfl, _, rfl, z, rfl, by omega, _, rfl, _, _, rfl, rfl, ?_, _, rfl, _, rfl, _, rfl, z, rfl, by omega, _, _, rfl, rfl, ?_, fin _ ?_⟩
          · have := l1 none (some (m : Int)); rw [len_one]; omega
          · have h1 := l1 none (some (m : Int)); have h2 := l1 (some (m : Int)) none; rw [len_app, len_one]; omega
          · refine ⟨(tl z).take m, x, (tl z).drop (m + 1), ez, .inr (.inr (.inl ⟨q, hq, ?_⟩))⟩
            rw [tl_app, tl_app, t0, tl_one]
            refine (congrArg (fun r => (tl z).take m ++ [q] ++ r) (t3.trans ed)).trans ?_
            rw [List.append_assoc]; rfl
        · refine ⟨_, rfl, _, rfl, _, rfl, z, rfl, by omega, _, rfl, _, rfl, _, _, rfl, rfl, _, rfl, _, rfl, _, _, rfl, rfl, _, rfl, z, rfl, by omega, _, _, rfl, rfl, ?_,
            _, rfl, _, rfl, _, rfl, _, rfl, _, _, rfl, rfl, _, rfl, z, rfl, by omega, _, _, rfl, rfl, ?_, _, rfl, _, rfl, _, _, rfl, rfl, _, rfl, z, rfl, by omega, _, _, rfl, rfl, ?_, fin _ ?_⟩
          · have h1 := l1 none (some (m : Int)); have h2 := l1 (some ((m : Int) + 1)) (some ((m : Int) + 2)); omega
          · have h1 := l1 none (some (m : Int)); have h2 := l1 (some ((m : Int) + 1)) (some ((m : Int) + 2)); have h3 := l1 (some (m : Int)) (some ((m : Int) + 1)); rw [len_app]; omega
          · have h1 := l1 none (some (m : Int)); have h2 := l1 (some ((m : Int) + 1)) (some ((m : Int) + 2)); have h3 := l1 (some (m : Int)) (some ((m : Int) + 1)); have h4 := l1 (some ((m : Int) + 2)) none; rw [len_app, len_app]; omega
          · have e : tl (cutS z none (some (m : Int)) ++ cutS z (some ((m : Int) + 1)) (some ((m : Int) + 2)) ++ cutS z (some (m : Int)) (some ((m : Int) + 1)) ++ cutS z (some ((m : Int) + 2)) none) = (tl z).take m ++ ((tl z).drop (m + 1)).take 1 ++ ((tl z).drop m).take 1 ++ (tl z).drop (m + 2) := by
              rw [tl_app, tl_app, tl_app, t0, t4, t5, t2]
            refine ⟨(tl z).take m, x, (tl z).drop (m + 1), ez, .inr (.inr (.inr ?_))⟩
            cases ev : (tl z).drop (m + 1) with
            | nil =>
              right
              refine e.trans ?_
              rw [ed, ev, List.drop_eq_nil_of_le (by have := List.drop_eq_nil_iff.mp ev; omega)]
              rw [ev] at ez
              conv => rhs; rw [ez]
              simp
            | cons y v =>
              left
              refine ⟨y, v, rfl, e.trans ?_⟩
              have e2 : (tl z).drop (m + 2) = v := by
                have := congrArg (List.drop 1) ev
                rw [List.drop_drop] at this
                rw [show m + 2 = m + 1 + 1 by omega]
                exact this
              rw [ed, ev, e2]
              simp
end
end K94

set_option Elab.async false
set_option linter.all false
set_option maxRecDepth 100000
set_option maxHeartbeats 8000000
namespace K94
open PySem PySem.Spec PyProof.Rows L2
abbrev sLong : Stmt := top 26
abbrev sLaw : Stmt := top 27
/-! ### one edit of a sealed text -/
theorem small_of {l : List Nat} (h : goodL l = true) (hl : l.length ≤ 1000) : Small l :=
  ⟨hl, fun c hc => by have := good_of h c hc; omega, fun c hc => by have := good_of h c hc; omega⟩
theorem seal_len (l : List Nat) : (sealL TL.numL l).length ≤ l.length + 15 := by
  unfold sealL row head4
  have := num_short (Nat.mod_lt (W 1 l) (by decide : 0 < K94.P))
  simp only [List.length_append, List.length_cons, List.length_nil]
  omega
theorem near_len {l l' : List Nat} (h : Near l l') : l'.length ≤ l.length + 1 := by
  obtain ⟨u, x, v, rfl, h | h | h | h | h⟩ := h
  · obtain ⟨y, _, rfl⟩ := h; simp
  · rw [h]; simp; omega
  · obtain ⟨y, _, rfl⟩ := h; simp; omega
  · obtain ⟨y, w, rfl, rfl⟩ := h; simp
  · rw [h]; omega
/-- HEART (SEAL), of the law's texts -/
theorem near_no {t l' : List Nat} (ht : goodL t = true) (hl : t.length ≤ 60) (h : Near (sealL TL.numL t) l') (hne : l' ≠ sealL TL.numL t) (b : List Nat) : ¬ IsSeal l' b := by
  intro hb
  have h1 := near_len h
  have h2 := seal_len t
  have h3 : b.length ≤ l'.length := by rw [hb.eq]; unfold sealL; simp
  have St := small_of ht (by omega)
  have Sb := small_of hb.good (by omega)
  obtain ⟨u, x, v, e, h | h | h | h | h⟩ := h
  · obtain ⟨y, _, h⟩ := h
    have := exchanged digits St Sb e (hb.eq.symm.trans h)
    subst this
    exact hne (h.trans e.symm)
  · exact left_out digits St Sb e (hb.eq.symm.trans h)
  · obtain ⟨y, _, h⟩ := h
    exact left_out digits Sb St (hb.eq.symm.trans h) e
  · obtain ⟨y, w, rfl, h⟩ := h
    have := swapped digits St Sb e (hb.eq.symm.trans h)
    subst this
    exact hne (h.trans e.symm)
  · exact hne h
theorem seal_is {t : List Nat} (ht : goodL t = true) (hl : t.length ≤ 1000000) : IsSeal (sealL TL.numL t) t := ⟨rfl, ht, hl⟩
/-! ### a call by keywords alone -/
theorem pe_callK0 {X : Cx} {CX : CXT} {k : Nat} {f : Addr} {fd : FuncData} {ps ks : List Str} {sp : Sp} {E : XK} {x : Str} {p pos : Pos} {kws : List Keyword} {tk : TA} {g : List Value → List Value → List Value} {gV : List V → List V → List V}
    (F : FnOk X.prog X.w X.K X.mg X.base CX k f fd ps sp) (hr : Room k X.A) (hg : Gl X x) (hm : X.mg x = some (.ref f)) (hk : PySem.W.keepIn X.K (.ref f) = true) (hb : KBinds X.K fd ps ks g gV) (hx : Passes CX X E)
    (hkw : PK X kws tk) (hall : (backToKw pos (keywordEach kws X.env)).all (·.1.isSome) = true := by rfl) (hks : (backToKw pos (keywordEach kws X.env)).filterMap (·.1) = ks := by rfl) (hdb : (x == ("__debug__" : Str)) = false := by decide)
    (hpl : ((backTo pos (starEach [] X.env)).any (·.1) || (backToKw pos (keywordEach kws X.env)).any (·.1.isNone)) = false := by rfl) : PE X (.Call (.Name x p) [] kws pos) (tCallK sp gV E tNil tk) := by
  refine ⟨fun pins s σ H Q I h => ?_⟩
  refine wpAny_Call_Name_kw (ld_glob I hg hm ?_ hdb)
  refine PySem.W.callWith_KW0 (h₀ := X.base) I.ok.mod.kin hk hall ?_ hpl
  refine thn (hkw.run pos pins s σ H _ I h) fun ws s2 ⟨zs, H2, I2, rz, q2⟩ => ⟨I2.kIn, ?_⟩
  rw [hks]
  exact run_fnk (us := []) (vs := []) F hr hb hx I2 .nil rz q2
theorem kb_one {K : PySem.W.Frag} {qual : Str} {st : Stmt} {f : Addr} {fd : FuncData} (F : Fun K qual qual st f fd)
    (h1 : ∀ (kV doc pm : Value) (an : Option Addr) (cdv ct w : Value), bindArgs (PySem.W.fnOf qual qual (defArgs st) (defBody st) (defScope st) .none kV doc pm an cdv ct) ⟨[], [(("text" : Str), w)]⟩ = pure [(("text" : Str), w)])
    (h2 : ∀ (kV doc pm : Value) (an : Option Addr) (cdv ct w : Value), bindArgs (PySem.W.fnOf qual qual (defArgs st) (defBody st) (defScope st) .none kV doc pm an cdv ct) ⟨[w], []⟩ = pure [(("text" : Str), w)]) :
    KBinds K fd ["text"] ["text"] (fun us ws => us ++ ws.take 1) (fun vs zs => vs ++ zs.take 1) := by
  obtain ⟨oc, od, kV, doc, pm, an, cdv, ct, osl, rfl, lk, hcd⟩ := F.ex
  refine ⟨fun s us ws KX hl => ?_, fun r rz => r.append (rz.take 1)⟩
  match us, ws, hl with
  | [], w :: r, _ => exact .of_eq (h1 kV doc pm an cdv ct w)
  | [u], [], _ => exact .of_eq (h2 kV doc pm an cdv ct u)
  | [], [], h => cases h
  | [u], w :: r, h => cases h
  | u :: u' :: us, ws, h => simp at h
/-! ### tables -/
theorem Keeps.tabs {T : List (Addr × Str)} {H H' : Hp} {d g c : Addr} {n : Nat} (k : Keeps d g H H') (S : StAt H d g c n) (t : LamX.Tabs T H) : LamX.Tabs T H' := fun p hp => by
  obtain ⟨ps, h1, h2, h3⟩ := t p hp
  obtain ⟨⟨l, u, gs, cs, e1, e2, _⟩, _⟩ := S
  refine ⟨ps, k _ _ h1 (ne_of h1 e1 (by intro z; cases z)) (ne_of h1 e2 (by intro z; cases z)), h2, fun pos cv hc => ?_⟩
  obtain ⟨co, q1, q2⟩ := h3 pos cv hc
  exact ⟨co, q1, k _ _ q2 (ne_of q2 e1 (by intro z; unfold LamX.CodeO at z; cases z)) (ne_of q2 e2 (by intro z; unfold LamX.CodeO at z; cases z))⟩
theorem StAt.ext {H H' : Hp} {d g c : Addr} {n : Nat} (S : StAt H d g c n) (e : LamX.ExtN H H') : StAt H' d g c n :=
  let ⟨⟨l, t, gs, cs, h1, h2, h3, h4, h5⟩, hg⟩ := S
  ⟨⟨l, t, gs, cs, e _ _ h1 (fun ps z => by cases z), e _ _ h2 (fun ps z => by cases z), e _ _ h3 (fun ps z => by cases z), h4, h5⟩, hg⟩
/-- the errors' classes and defs that the law's own defs use -/
structure Ls (K : PySem.W.Frag) (mg : Str → Option Value) (CL CS CT fS fU : Addr) (fdS fdU : FuncData) : Prop where
  L : mg "LoanError" = some (.ref CL)
  S : ErrC K mg "BadSum" CS
  T : ErrC K mg "BadThing" CT
  eS : ExcC K CS
  eT : ExcC K CT
  lS : PySem.W.exmOne K (.ref CS) (.ref CL) = some true
  lT : PySem.W.exmOne K (.ref CT) (.ref CL) = some true
  s : Fun K "sealed" "sealed" sSealed fS fdS
  gs : mg "sealed" = some (.ref fS)
  bs : Binds K fdS ["text"] []
  ks : KBinds K fdS ["text"] ["text"] (fun us ws => us ++ ws.take 1) (fun vs zs => vs ++ zs.take 1)
  u : Fun K "unsealed" "unsealed" sUnsealed fU fdU
  gu : mg "unsealed" = some (.ref fU)
  bu : Binds K fdU ["text"] []
  ku : KBinds K fdU ["text"] ["text"] (fun us ws => us ++ ws.take 1) (fun vs zs => vs ++ zs.take 1)
theorem kit_self {K : PySem.W.Frag} {C : Addr} : PySem.W.kitOne K (.ref C) (.ref C) = some true := by
  unfold PySem.W.kitOne
  rw [if_pos (by simp)]
/-- how _law_caught stands -/
structure Cs (K : PySem.W.Frag) (mg : Str → Option Value) (fC : Addr) (fdC : FuncData) : Prop where
  g : mg "_law_caught" = some (.ref fC)
  k : PySem.W.keepIn K (.ref fC) = true
  b : Binds K fdC ["work"] []
  l : ∃ (oc : Value) (od : Option Addr) (kV doc pm : Value) (an : Option Addr) (cdv ct : Value) (osl : Array (Option Value)),
    fdC = PySem.W.fnOf "_law_caught" "_law_caught" (defArgs sCaught) (defBody sCaught) (defScope sCaught) .none kV doc pm an cdv ct ∧ K.lookup fC = some ⟨oc, od, .func fdC, osl⟩ ∧ PySem.W.codeIn K cdv "_law_caught" = true
section
variable {X : Cx} {CL CS CT fS fU fC : Addr} {fdS fdU fdC : FuncData}
/-- _law_caught(lambda: body) -/
theorem pe_caught {T : List (Addr × Str)} {c P : Addr} {k : Nat} {params : Arguments} {body : Expr} {scope : Scope} {t : XK → TE} {p lpos pos : Pos} (hL : X.mg "LoanError" = some (.ref CL)) (C : Cs X.K X.mg fC fdC) (hg : Gl X "_law_caught")
    (TB : LamX.TabB X.base X.mg c P) (hcode : X.env.code = .ref c) (hmT : (P, X.env.qual ++ "<lambda>") ∈ T) (hu : ∀ p ∈ T, p.1 = P → p.2 = X.env.qual ++ "<lambda>") (hr : Room (k + 2) X.A) (L : LamX.LamS X.env.scope scope) (hdef : defaultsOf params X.env = ([], []))
    (hbind : ∀ (q : Str) (cl : List (Str × Addr)) (pm cv ctv : Value), bindArgs (PySem.W.kla_fn "<lambda>" q params body scope cl pm cv ctv) ⟨[], []⟩ = pure [])
    (hbody : ∀ (A : Around) (outer : List Env) (s : Shared) (H : Hp) (E : XK) (f c' : Addr), Room k (A.deeper (LamX.lamEnv X scope s.heap.objs.size f c')) → PE (LamX.lamCx X A outer s H E scope f c') body (t E)) :
    PE X (.Call (.Name "_law_caught" p) [.Lambda params body scope lpos] [] pos) (LamX.tLam T (TTc X.K CL) t) := by
  obtain ⟨oc, od, kV, doc, pm, an, cdv, ct, osl, e, lk, hcd⟩ := C.l
  have hb := C.b
  subst e
  exact LamX.pe_lamcall hg C.g C.k lk hcd hb scCaught rfl (.inl rfl) (caught_gives hL) TB hcode hmT hu hr L hdef hbind hbody
end
section
variable {P : Program} {w : World} {K : PySem.W.Frag} {mg : Str → Option Value} {base : Heap}
/-! ### _law_k94_long -/
def qLong : Str := (Str.ofString "_law_k94_long" ++ Str.ofString ".<locals>.") ++ Str.ofString "<lambda>"
def qLaw : Str := (Str.ofString "law" ++ Str.ofString ".<locals>.") ++ Str.ofString "<lambda>"
def spLong (T : List (Addr × Str)) : Sp := fun vs H Q _ => vs = [] ∧ LamX.Tabs T H ∧ ∀ H', LamX.ExtN H H' → LamX.Tabs T H' → Q (.bl true) H'
theorem scLong : FnScope ["text"] [] (defScope sLong) := ⟨rfl, rfl, rfl, by decide +kernel, rfl, by decide +kernel, by decide +kernel⟩
theorem rep_tl (a : Array Nat) : ∀ (k : Nat) (acc : Array Nat), ((List.replicate k a).foldl (· ++ ·) acc).toList = acc.toList ++ (List.replicate k a.toList).flatten
  | 0, acc => by simp
  | k + 1, acc => by
    rw [List.replicate_succ, List.foldl_cons, rep_tl a k, Array.toList_append, List.replicate_succ, List.flatten_cons, List.append_assoc]
theorem flat_len (l : List Nat) : ∀ k, (List.replicate k l).flatten.length = k * l.length
  | 0 => by simp
  | k + 1 => by rw [List.replicate_succ, List.flatten_cons, List.length_append, flat_len l k, Nat.succ_mul]; omega
/-- the longest text -/
structure Long (z : Str) : Prop where
  len : z.length = 1000000
  good : goodB z = true
theorem long_of (n : Int) (hn : n = 333333) : (⟨(List.replicate n.toNat (Str.ofString "ab\n").cps).foldl (· ++ ·) #[]⟩ : Str).length = 999999 ∧ Long ((⟨(List.replicate n.toNat (Str.ofString "ab\n").cps).foldl (· ++ ·) #[]⟩ : Str) ++ Str.ofString "c") := by
  have e1 : (Str.ofString "ab\n").cps.toList = [97, 98, 10] := by decide +kernel
  have e2 : tl (Str.ofString "c") = [99] := by decide +kernel
  have e3 : (Str.ofString "c").length = 1 := by decide +kernel
  have h : tl (⟨(List.replicate n.toNat (Str.ofString "ab\n").cps).foldl (· ++ ·) #[]⟩ : Str) = (List.replicate n.toNat [97, 98, 10]).flatten := by
    have q := rep_tl (Str.ofString "ab\n").cps n.toNat #[]
    rw [e1] at q
    exact q
  generalize (⟨(List.replicate n.toNat (Str.ofString "ab\n").cps).foldl (· ++ ·) #[]⟩ : Str) = z at h
  have hl : z.length = 999999 := by
    rw [len_tl, h, flat_len]
    show n.toNat * 3 = _
    omega
  refine ⟨hl, by rw [len_app, e3, hl], good_by fun c hc => ?_⟩
  rw [show (z ++ Str.ofString "c").cps.toList = tl (z ++ Str.ofString "c") from rfl, tl_app, e2, h] at hc
  rcases List.mem_append.mp hc with hc | hc
  · obtain ⟨l, hl, hc⟩ := List.mem_flatten.mp hc
    rw [List.eq_of_mem_replicate hl] at hc
    simp only [List.mem_cons, List.not_mem_nil, or_false] at hc
    omega
  · have := List.mem_singleton.mp hc
    omega
theorem ok_long {f c PT : Addr} {T : List (Addr × Str)} {CL CS CT fS fU fC fSg fSu fB fTo : Addr} {fdS fdU fdC fdSg fdSu fdB fdTo : FuncData} {oc kV doc pm ct : Value} {od an : Option Addr} {osl : Array (Option Value)}
    (lk : K.lookup f = some ⟨oc, od, .func (PySem.W.fnOf "_law_k94_long" "_law_k94_long" (defArgs sLong) (defBody sLong) (defScope sLong) .none kV doc pm an (.ref c) ct), osl⟩) (hcd : PySem.W.codeIn K (.ref c) "_law_k94_long" = true)
    (N : Nm mg) (L : Ls K mg CL CS CT fS fU fdS fdU) (C : Cs K mg fC fdC) (D : Fs K mg fSg fSu fB fTo fdSg fdSu fdB fdTo) (TB : LamX.TabB base mg c PT) (hmT : (PT, qLong) ∈ T) (hu : ∀ p ∈ T, p.1 = PT → p.2 = qLong) :
    FnOk P w K mg base CX0 6 f (PySem.W.fnOf "_law_k94_long" "_law_k94_long" (defArgs sLong) (defBody sLong) (defScope sLong) .none kV doc pm an (.ref c) ct) [] (spLong T) := by
  have GS : FnOk P w K mg base (L2.CX P w) 3 fS fdS ["text"] (spSealed K CT) := ok_sealed L.s N D L.T
  have GU : FnOk P w K mg base (L2.CX P w) 3 fU fdU ["text"] (spUnsealed K CS) := ok_unsealed L.u N D L.S
  refine fn_of (CX := CX0) lk hcd scLong (fun vs H Q E h => ?_) (fun A outer s H vs Q E hr h => ?_)
  · obtain ⟨rfl, _⟩ := h
    rfl
  · obtain ⟨rfl, hT, k⟩ := h
    have hr3 : Room 3 _ := hr.mono (by decide)
    refine ⟨_, pss_cons (ps_set (i := 0) scLong.nd rfl (Or.inr rfl) (pe_op op_add_str (pe_op op_times pe_str pe_int) pe_str))
      (pss_one (ps_ret (pe_and (pe_cmpR op_eq (pe_call GU hr3 rfl L.gu L.u.kp L.bu .nil (passes_call LamX.takes0 (fun _ _ _ _ h => h)) (pa_cons (pe_call GS hr3 rfl L.gs L.s.kp L.bs .nil (passes_call LamX.takes0 (fun _ _ _ _ h => h)) (pa_cons (pv 0) pa_nil)) pa_nil)) (pv 0) (nomark _))
        (pe_one (pe_callB call_isV (by rfl) N.isi (by decide +kernel) (pa_cons (pe_caught (k := 3) L.L C rfl TB rfl hmT hu hr (LamX.lamS_by (sc := defScope sLong) (by decide +kernel)) rfl (fun _ _ _ _ _ => rfl)
          (fun A outer s H E f c' hr' => pe_call GS hr' rfl L.gs L.s.kp L.bs .nil (passes_call (takes_of rfl rfl rfl rfl) (fun _ _ _ _ h => h)) (pa_cons (pe_op op_add_str (pv 0) pe_str) pa_nil)))
          (pa_cons (pe_glob (v := .ref CT) rfl L.T.g rfl) pa_nil))))))), ?_⟩
    have hs : sizeLine = 16777216 := sizeLine_eq
    have e3 : (Str.ofString "ab\n").length = 3 := by decide +kernel
    have e1 : (Str.ofString "c").length = 1 := by decide +kernel
    have ed : (Str.ofString "d").length = 1 := by decide +kernel
    refine ⟨_, _, rfl, rfl, by decide, by decide, by rw [e3]; decide, by rw [e3, hs]; decide, ?_⟩
    obtain ⟨hl1, HL⟩ := long_of 333333 rfl
    generalize (⟨(List.replicate (333333 : Int).toNat (Str.ofString "ab\n").cps).foldl (· ++ ·) #[]⟩ : Str) = z0 at hl1 HL
    refine ⟨_, _, rfl, rfl, by rw [hl1, e1, hs]; decide, ?_⟩
    generalize z0 ++ Str.ofString "c" = z at HL
    have ll : (tl z).length = 1000000 := by rw [← len_tl]; exact HL.len
    refine ⟨_, rfl, .str z, rfl, .inl ⟨z, rfl, by rw [HL.len]; decide, HL.good, fun H1 z1 s1 q1 => ?_⟩⟩
    have is1 : IsSeal (tl z1) (tl z) := by rw [q1]; exact seal_is HL.good (by rw [ll]; decide)
    refine ⟨.str z1, rfl, .inr ⟨z1, rfl, ?_, fun b hb H2 s2 => ?_, fun no => absurd is1 (no (tl z))⟩⟩
    · rw [len_tl, q1]
      have := seal_len (tl z)
      omega
    · have eb : b = z := TL.ext_tl (hb.one is1)
      subst eb
      refine ⟨_, rfl, rfl, true, by rw [decide_eq_true rfl], iteT ⟨(hT.ext (s1.trans s2)), fun H3 x3 t3 => ⟨_, rfl, _, _, rfl, rfl, by rw [HL.len, ed, hs]; decide, .str (b ++ Str.ofString "d"), rfl, .inr ⟨.inr ⟨_, rfl, by rw [len_app, HL.len, ed]; decide, ?_⟩, fun H4 s4 => ?_⟩⟩⟩⟩
      · unfold fits
        rw [decide_eq_false (by rw [len_app, HL.len, ed]; decide), Bool.false_and]
      · refine ⟨true, L.lT, fun _ => ⟨rfl, fun a ha => ⟨a, CT, .ref CT, .ref CT, true, rfl, upd_same, L.eT, fun u e => e, kit_self, ?_⟩⟩, fun z => nomatch z⟩
        have s5 : Same H4 (upd H4 a (ExV (.ref CT) a)) := Same.over (Same.refl H4) ha
        exact k _ ((LamX.ExtN.of (s1.trans s2)).trans (x3.trans (LamX.ExtN.of (s4.trans s5)))) (t3.ext (s4.trans s5))
end
end K94

set_option Elab.async false
set_option linter.all false
set_option maxRecDepth 100000
set_option maxHeartbeats 16000000
namespace K94
open PySem PySem.Spec PyProof.Rows L2
theorem log_small {m : Nat} (h : m < K94.P) : ((m : Nat) : Int).natAbs.log2 < 1920 := by
  rw [Int.natAbs_natCast]
  by_cases h0 : m = 0
  · subst h0; decide
  · rw [Nat.log2_lt h0]
    exact Nat.lt_of_lt_of_le h (Nat.le_trans (by decide : K94.P ≤ 2 ^ 34) (Nat.pow_le_pow_right (by decide) (by decide)))
/-! ### texts that are not sealed -/
theorem no_lf {l : List Nat} (h : 10 ∉ l) (b : List Nat) : ¬ IsSeal l b := fun hb => h (by rw [hb.eq]; unfold sealL; simp)
theorem no_row {l p q : List Nat} (e : l = p ++ 10 :: q) (hq : 10 ∉ q) (hr : q ≠ row TL.numL p) (b : List Nat) : ¬ IsSeal l b := fun hb => by
  have h := part hq (row_no digits b) (e.symm.trans hb.eq)
  exact hr (by rw [h.2, h.1])
theorem row_nil : row TL.numL [] = [115, 117, 109, 32, 48] := by decide +kernel
theorem odd_no : ∀ z ∈ [Str.ofString "", Str.ofString "sum 0", Str.ofString "\nsum 00", Str.ofString "a\nsum", Str.ofString "\nsum 0 ", Str.ofString "\nSum 0", Str.ofString "\nsum -0"], z.length ≤ 10 ∧ ∀ b, ¬ IsSeal (tl z) b := by
  intro z hz
  simp only [List.mem_cons, List.not_mem_nil, or_false] at hz
  rcases hz with e | e | e | e | e | e | e
  · subst e; exact ⟨by decide +kernel, no_lf (by decide +kernel)⟩
  · subst e; exact ⟨by decide +kernel, no_lf (by decide +kernel)⟩
  · subst e; exact ⟨by decide +kernel, no_row (p := []) (q := [115, 117, 109, 32, 48, 48]) (by decide +kernel) (by decide) (by rw [row_nil]; decide)⟩
  · subst e
    refine ⟨by decide +kernel, no_row (p := [97]) (q := [115, 117, 109]) (by decide +kernel) (by decide) fun h => ?_⟩
    have := congrArg List.length h
    unfold row head4 at this
    simp only [List.length_append, List.length_cons, List.length_nil] at this
    omega
  · subst e; exact ⟨by decide +kernel, no_row (p := []) (q := [115, 117, 109, 32, 48, 32]) (by decide +kernel) (by decide) (by rw [row_nil]; decide)⟩
  · subst e; exact ⟨by decide +kernel, no_row (p := []) (q := [83, 117, 109, 32, 48]) (by decide +kernel) (by decide) (by rw [row_nil]; decide)⟩
  · subst e; exact ⟨by decide +kernel, no_row (p := []) (q := [115, 117, 109, 32, 45, 48]) (by decide +kernel) (by decide) (by rw [row_nil]; decide)⟩
theorem zero_is : IsSeal (tl (Str.ofString "\nsum 0")) (tl (Str.ofString "")) := by
  refine ⟨?_, by decide +kernel, by decide +kernel⟩
  have e1 : tl (Str.ofString "\nsum 0") = [10, 115, 117, 109, 32, 48] := by decide +kernel
  have e2 : tl (Str.ofString "") = [] := by decide +kernel
  rw [e1, e2]
  unfold sealL
  rw [row_nil]
  rfl
theorem seq_kept {K : PySem.W.Frag} {H H' : Hp} {a : Addr} {xs : List V} (h : SqL K H a xs) (k : ∀ o, H a = some o → (∀ ps, o ≠ .tbl ps) → H' a = some o) : SqL K H' a xs := by
  rcases h with (h | ⟨o, h⟩) | h
  · exact .inl (.inl (k _ h fun ps z => by cases z))
  · exact .inl (.inr ⟨o, k _ h fun ps z => by cases z⟩)
  · exact .inr h
theorem NoStr.ext {K : PySem.W.Frag} {H' : Hp} {L : Addr} {xs : List V} (h : H' L = some (.lst xs)) : NoStr K H' (.ref L) := ⟨"list", .base (.lst h), by decide +kernel⟩
/-- the values that are no sealed texts -/
theorem wrong_one {K : PySem.W.Frag} {H : Hp} {L : Addr} {xs : List V} {x : V} (hL : H L = some (.lst xs)) (hx : x ∈ [V.non, .int 5, .ref L, .str (Str.ofString "a\tb"), .str (Str.ofString "\t")]) :
    NoStr K H x ∨ ∃ z : Str, x = .str z ∧ z.length ≤ 10 ∧ fits z = false ∧ ∀ b, ¬ IsSeal (tl z) b := by
  simp only [List.mem_cons, List.not_mem_nil, or_false] at hx
  rcases hx with e | e | e | e | e
  · subst e; exact .inl ⟨"NoneType", .base .non, by decide +kernel⟩
  · subst e; exact .inl ⟨"int", .base (.int 5), by decide +kernel⟩
  · subst e; exact .inl (.ext hL)
  · subst e; exact .inr ⟨_, rfl, by decide +kernel, by decide +kernel, no_lf (by decide +kernel)⟩
  · subst e; exact .inr ⟨_, rfl, by decide +kernel, by decide +kernel, no_lf (by decide +kernel)⟩
/-- the test of the last comprehension -/
def ttOdd (K : PySem.W.Frag) (T : List (Addr × Str)) (CL CS : Addr) : TT := tNot (tB (tCB (rIsV K) (tCons (LamX.tLam T (TTc K CL) (fun E => tCall (spUnsealed K CS) [] E (tCons (tVar 10) tNil))) (tCons (tC (.ref CS)) tNil))))
section
variable {P : Program} {w : World} {K : PySem.W.Frag} {mg : Str → Option Value} {base : Heap}
def spLaw (T : List (Addr × Str)) (K : PySem.W.Frag) : Sp := fun vs H Q _ => ∃ (a : Addr) (ns : List Int), vs = [.ref a] ∧ SqL K H a (ns.map V.int) ∧ ns.length ≤ 63 ∧ LamX.Tabs T H ∧ ∀ H', Q (.bl true) H'
theorem scLaw : FnScope ["script", "state", "lap", "text", "told", "turn", "error", "odd", "other", "wrong", "one"] ["script"] (defScope sLaw) := ⟨rfl, rfl, rfl, by decide +kernel, rfl, by decide +kernel, by decide +kernel⟩
/-- the other defs of the law -/
structure Gs (K : PySem.W.Frag) (mg : Str → Option Value) (fBg fT fN fG fM : Addr) (fdBg fdT fdN fdG fdM : FuncData) : Prop where
  Bg : Fun K "_law_begun" "_law_begun" sBegun fBg fdBg
  gBg : mg "_law_begun" = some (.ref fBg)
  bBg : Binds K fdBg ["script"] []
  T : Fun K "_law_k94_text" "_law_k94_text" sText fT fdT
  gT : mg "_law_k94_text" = some (.ref fT)
  bT : Binds K fdT ["state"] []
  N : Fun K "_law_k94_near" "_law_k94_near" sNear fN fdN
  gN : mg "_law_k94_near" = some (.ref fN)
  bN : Binds K fdN ["state", "text"] []
  G : Fun K "_law_k94_signs" "_law_k94_signs" sSigns94 fG fdG
  gG : mg "_law_k94_signs" = some (.ref fG)
  bG : Binds K fdG [] []
  M : Fun K "_law_k94_sum" "_law_k94_sum" sSum94 fM fdM
  gM : mg "_law_k94_sum" = some (.ref fM)
  bM : Binds K fdM ["text"] []
  abs : mg "abs" = none
  range : mg "range" = none
  sum : mg "sum" = none
  min : mg "min" = none
theorem ok_law {f c PT fL : Addr} {T : List (Addr × Str)} {CL CS CT fS fU fC fSg fSu fB fTo fBl fD fP fBg fT fN fG fM : Addr} {fdS fdU fdC fdSg fdSu fdB fdTo fdBl fdD fdP fdBg fdT fdN fdG fdM fdL : FuncData} {oc kV doc pm ct : Value} {od an : Option Addr} {osl : Array (Option Value)}
    (lk : K.lookup f = some ⟨oc, od, .func (PySem.W.fnOf "law" "law" (defArgs sLaw) (defBody sLaw) (defScope sLaw) .none kV doc pm an (.ref c) ct), osl⟩) (hcd : PySem.W.codeIn K (.ref c) "law" = true)
    (N : Nm mg) (L : Ls K mg CL CS CT fS fU fdS fdU) (C : Cs K mg fC fdC) (D : Fs K mg fSg fSu fB fTo fdSg fdSu fdB fdTo) (R : Ds K mg fBl fD fP fdBl fdD fdP) (G : Gs K mg fBg fT fN fG fM fdBg fdT fdN fdG fdM)
    (GL : FnOk P w K mg base CX0 6 fL fdL [] (spLong T)) (gL : mg "_law_k94_long" = some (.ref fL)) (kL : PySem.W.keepIn K (.ref fL) = true) (bL : Binds K fdL [] [])
    (TB : LamX.TabB base mg c PT) (hmT : (PT, qLaw) ∈ T) (hu : ∀ p ∈ T, p.1 = PT → p.2 = qLaw) :
    FnOk P w K mg base CX0 8 f (PySem.W.fnOf "law" "law" (defArgs sLaw) (defBody sLaw) (defScope sLaw) .none kV doc pm an (.ref c) ct) ["script"] (spLaw T K) := by
  have GS : FnOk P w K mg base (L2.CX P w) 3 fS fdS ["text"] (spSealed K CT) := ok_sealed L.s N D L.T
  have GU : FnOk P w K mg base (L2.CX P w) 3 fU fdU ["text"] (spUnsealed K CS) := ok_unsealed L.u N D L.S
  have GD : FnOk P w K mg base CX0 2 fD fdD ["state", "size_here"] spDraw := R.draw N
  have GBg : FnOk P w K mg base CX0 1 fBg fdBg ["script"] (spBegun K) := ok_begun G.Bg G.abs
  have GT : FnOk P w K mg base CX0 4 fT fdT ["state"] spText := ok_text G.T N G.range R G.G G.gG G.bG
  have GN : FnOk P w K mg base CX0 4 fN fdN ["state", "text"] spNear := ok_near G.N N R G.G G.gG G.bG
  have GM : FnOk P w K mg base CX0 1 fM fdM ["text"] spSum94 := ok_sum94 G.M N G.sum
  refine fn_of (CX := CX0) lk hcd scLaw (fun vs H Q E h => ?_) (fun A outer s H vs Q E hr h => ?_)
  · obtain ⟨a, ns, rfl, _⟩ := h
    rfl
  · obtain ⟨a, ns, rfl, hS, hl, hT, k⟩ := h
    have hr1 : Room 1 _ := hr.mono (by decide)
    have hr2 : Room 2 _ := hr.mono (by decide)
    have hr3 : Room 3 _ := hr.mono (by decide)
    have hr4 : Room 4 _ := hr.mono (by decide)
    have hr5 : Room 5 _ := hr.mono (by decide)
    have hr6 : Room 6 _ := hr.mono (by decide)
    have hs : sizeLine = 16777216 := sizeLine_eq
    refine ⟨_, PSs.nox (pss_cons (ps_set (i := 1) scLaw.nd rfl (Or.inl rfl) (pe_call GBg hr1 rfl G.gBg G.Bg.kp G.bBg .nil pass0 (pa_cons (pv 0) pa_nil)))
      (pss_cons (ps_if (PW.pt (pw_and (pt_cmpR op_eq (pe_call GD hr2 rfl R.gD R.D.kp R.bD .nil pass0 (pa_cons (pv 1) (pa_cons pe_int pa_nil))) pe_int (nomark _)) (pw_and1 (pt_not (pt_val (pe_call0 GL hr6 rfl gL kL bL .nil pass0)))))) (pss_one (ps_ret pe_bl)) pss_nil)
      (pss_cons (ps_for PassesOwn.never rfl (pi_range1 (by rfl) G.range (pa_cons (pe_op op_add pe_int (pe_callB (call_min2 rfl) (by rfl) G.min (by decide +kernel) (pa_cons pe_int (pa_cons (pe_op op_mul pe_int (pe_callB call_len (by rfl) N.len PySem.boot_len (pa_cons (pv 0) pa_nil))) pa_nil)))) pa_nil)) (pg_name (i := 2) scLaw.nd rfl (Or.inl rfl))
        (pss_cons (ps_set (i := 3) scLaw.nd rfl (Or.inl rfl) (pe_call GT hr4 rfl G.gT G.T.kp G.bT .nil pass0 (pa_cons (pv 1) pa_nil)))
        (pss_cons (ps_set (i := 4) scLaw.nd rfl (Or.inl rfl) (pe_call GS hr3 rfl L.gs L.s.kp L.bs .nil (passes_call LamX.takes0 (fun _ _ _ _ h => h)) (pa_cons (pv 3) pa_nil)))
        (pss_cons (ps_if (PW.pt (pw_or (pt_cmpR op_ne (pv 4) (pe_op op_add_str (pe_op op_add_str (pv 3) pe_str) (pe_callTy call_str_int (by rfl) N.str (by decide +kernel) (pa_cons (pe_call GM hr1 rfl G.gM G.M.kp G.bM .nil pass0 (pa_cons (pv 3) pa_nil)) pa_nil))) (nomark _))
            (pw_or (pt_cmpR op_ne (pe_callK0 GU hr3 rfl L.gu L.u.kp L.ku (passes_call LamX.takes0 (fun _ _ _ _ h => h)) (pk_cons (pv 4) pk_nil)) (pv 3) (nomark _))
            (pw_or1 (pt_cmpR op_ne (pe_callK0 GS hr3 rfl L.gs L.s.kp L.ks (passes_call LamX.takes0 (fun _ _ _ _ h => h)) (pk_cons (pv 3) pk_nil)) (pv 4) (nomark _)))))) (pss_one (ps_ret pe_bl)) pss_nil)
        (pss_cons (ps_for PassesOwn.never rfl (pi_range1 (by rfl) G.range (pa_cons pe_int pa_nil)) (pg_name (i := 5) scLaw.nd rfl (Or.inl rfl))
          (pss_cons (ps_set (i := 8) scLaw.nd rfl (Or.inr rfl) (pe_call GN hr4 rfl G.gN G.N.kp G.bN .nil pass0 (pa_cons (pv 1) (pa_cons (pv 4) pa_nil))))
          (pss_cons (ps_set (i := 6) scLaw.nd rfl (Or.inl rfl) (pe_caught (k := 3) L.L C rfl TB rfl hmT hu hr5 (LamX.lamS_by (sc := defScope sLaw) (by decide +kernel)) rfl (fun _ _ _ _ _ => rfl)
            (fun A outer s H E f c' hr' => pe_call GU hr' rfl L.gu L.u.kp L.bu .nil (passes_call (takes_of rfl rfl rfl rfl) (fun _ _ _ _ h => h)) (pa_cons (pv 8) pa_nil))))
          (pss_one (ps_if (PW.pt (pw_or (PW.pt (pw_and (pt_cmpR op_ne (pv 8) (pv 4) (nomark _)) (pw_and1 (pt_not (pt_val (pe_callB call_isV (by rfl) N.isi (by decide +kernel) (pa_cons (pv 6) (pa_cons (pe_glob (v := .ref CS) rfl L.S.g rfl) pa_nil))))))))
            (pw_or1 (PW.pt (pw_and (pt_cmpR op_eq (pv 8) (pv 4) (nomark _)) (pw_and1 (pt_cmp (pc_notN (pv 6))))))))) (pss_one (ps_ret pe_bl)) pss_nil)))))
        (pss_one (ps_for PassesOwn.never rfl (pi_list (pe_lst (pa_cons pe_non (pa_cons pe_int (pa_cons (pe_lst (pa_cons (pv 3) pa_nil)) (pa_cons pe_str (pa_cons pe_str pa_nil))))))) (pg_name (i := 9) scLaw.nd rfl (Or.inr rfl))
          (pss_cons (ps_if (pt_not (pt_val (pe_callB call_isV (by rfl) N.isi (by decide +kernel) (pa_cons (pe_caught (k := 3) L.L C rfl TB rfl hmT hu hr5 (LamX.lamS_by (sc := defScope sLaw) (by decide +kernel)) rfl (fun _ _ _ _ _ => rfl)
            (fun A outer s H E f c' hr' => pe_call GS hr' rfl L.gs L.s.kp L.bs .nil (passes_call (takes_of rfl rfl rfl rfl) (fun _ _ _ _ h => h)) (pa_cons (pv 9) pa_nil))) (pa_cons (pe_glob (v := .ref CT) rfl L.T.g rfl) pa_nil))))) (pss_one (ps_ret pe_bl)) pss_nil)
          (pss_one (ps_if (pt_not (pt_val (pe_callB call_isV (by rfl) N.isi (by decide +kernel) (pa_cons (pe_caught (k := 3) L.L C rfl TB rfl hmT hu hr5 (LamX.lamS_by (sc := defScope sLaw) (by decide +kernel)) rfl (fun _ _ _ _ _ => rfl)
            (fun A outer s H E f c' hr' => pe_call GU hr' rfl L.gu L.u.kp L.bu .nil (passes_call (takes_of rfl rfl rfl rfl) (fun _ _ _ _ h => h)) (pa_cons (pv 9) pa_nil))) (pa_cons (pe_glob (v := .ref CS) rfl L.S.g rfl) pa_nil))))) (pss_one (ps_ret pe_bl)) pss_nil))))))))))
      (pss_cons (ps_set (i := 7) scLaw.nd rfl (Or.inl rfl) (pe_lst (pa_cons pe_str (pa_cons pe_str (pa_cons pe_str (pa_cons pe_str (pa_cons pe_str (pa_cons pe_str (pa_cons pe_str pa_nil)))))))))
      (pss_one (ps_ret (pe_and (pe_cmpR (op_eqD hr.units) (pe_lc (own := [("one", 10)]) (g := gName 10) (tt := ttOdd K T CL CS) (te := tVar 10) rfl scLaw.nd (pi_list (pv 7)) (blkOk_by (N := ["script", "state", "lap", "text", "told", "turn", "error", "odd", "other", "wrong", "one"]) (sc := defScope sLaw) (by decide +kernel)) (fun _ _ _ _ _ => pg_name (i := 10) scLaw.nd rfl (Or.inr rfl))
          (fun _ _ _ _ _ => pts_one (pt_not (pt_val (pe_callB call_isV (by rfl) N.isi (by decide +kernel) (pa_cons (pe_caught (k := 3) L.L C rfl TB rfl hmT hu hr5 (LamX.lamS_by (by rfl)) rfl (fun _ _ _ _ _ => rfl)
            (fun A outer s H E f c' hr' => pe_call GU hr' rfl L.gu L.u.kp L.bu .nil (passes_call (takes_of rfl rfl rfl rfl) (fun _ _ _ _ h => h)) (pa_cons (pv 10) pa_nil))) (pa_cons (pe_glob (v := .ref CS) rfl L.S.g rfl) pa_nil))))))
          (fun _ _ _ _ _ => pv 10)) (pe_lst pa_nil) (nomark _))
        (pe_one (pe_cmpR op_eq (pe_call GU hr3 rfl L.gu L.u.kp L.bu .nil (passes_call LamX.takes0 (fun _ _ _ _ h => h)) (pa_cons pe_str pa_nil)) pe_str (nomark _)))))))))), ?_⟩
    refine ⟨_, rfl, a, ns, rfl, hS, hl, fun H1 d g c S1 nd ng s1 => ?_⟩
    have ad : ∀ o, H a = some o → a ≠ d ∧ a ≠ g := fun o e => ⟨ne_of_none e nd, ne_of_none e ng⟩
    refine ⟨_, rfl, d, g, c, 0, 6, rfl, S1, by decide, by decide, by decide, fun H2 v v0 v1 S2 k2 => ?_⟩
    have T2 : LamX.Tabs T H2 := k2.tabs S1 (hT.ext s1)
    have hS2 : SqL K H2 a (ns.map V.int) := seq_kept hS fun o e _ => k2 _ _ (s1 _ _ e) (ad o e).1 (ad o e).2
    refine ⟨rfl, _, rfl, ?_⟩
    refine ite2 (fun _ => ?_) (fun _ => ?_)
    · refine ⟨rfl, T2, fun H3 x3 T3 => ⟨true, rfl, iteF ?_⟩⟩
      have S3 : StAt H3 d g c 1 := S2.ext x3
      have hS3 : SqL K H3 a (ns.map V.int) := seq_kept hS2 fun o e n => x3 _ _ e n
      clear hS2 T2 S2 k2 x3
      revert S3 T3 hS3
      generalize H3 = G0
      intro TG SG hSG
      refine ⟨_, rfl, _, _, rfl, .inl ⟨_, hSG, rfl⟩, _, _, rfl, rfl, .inl ⟨by decide, by decide⟩, _, _, rfl, _, _, rfl, rfl, ?_⟩
      have hlen : (ns.map V.int).length = ns.length := List.length_map ..
      refine ⟨_, rfl, ?_, ?_, for_range (lo := 0) (fun i σ G' => ∃ v2 v3 v4 v5 v6 v7 v8 v9 v10 : Option V, σ = [some (.ref a), some (.ref d), v2, v3, v4, v5, v6, v7, v8, v9, v10] ∧ StAt G' d g c (1 + 100 * i) ∧ LamX.Tabs T G') ⟨none, none, none, none, none, none, none, none, none, rfl, SG, TG⟩ ?_ ?_⟩
      · show -(2 ^ 62 : Int) ≤ 10 + (if (2 : Int) * (((ns.map V.int).length : Nat) : Int) < 50 then (2 : Int) * (((ns.map V.int).length : Nat) : Int) else 50)
        split <;> omega
      · show (10 : Int) + (if (2 : Int) * (((ns.map V.int).length : Nat) : Int) < 50 then (2 : Int) * (((ns.map V.int).length : Nat) : Int) else 50) < 2 ^ 62
        split <;> omega
      · intro i σ Ga hi hP
        have hi2 : i < 60 := by
          have hh : i < ((10 : Int) + (if (2 : Int) * (((ns.map V.int).length : Nat) : Int) < 50 then (2 : Int) * (((ns.map V.int).length : Nat) : Int) else 50)).toNat := hi
          split at hh <;> omega
        obtain ⟨v2, v3, v4, v5, v6, v7, v8, v9, v10, rfl, Sa, Ta⟩ := hP
        refine ⟨_, rfl, d, g, c, 1 + 100 * i, rfl, Sa, by omega, fun Gb z hz zl Sb kb => ?_⟩
        have Tb : LamX.Tabs T Gb := kb.tabs Sa Ta
        refine ⟨_, rfl, .str z, rfl, .inl ⟨z, rfl, by omega, hz, fun Gc told sc ec => ?_⟩⟩
        have lt : told.length ≤ 75 ∧ 0 < told.length := by
          have h1 := seal_len (tl z)
          have h2 := len_tl z
          have h3 : (tl told).length = told.length := (len_tl told).symm
          rw [ec] at h3
          have h4 : 0 < (sealL TL.numL (tl z)).length := by unfold sealL; rw [List.length_append, List.length_cons]; omega
          omega
        have istold : IsSeal (tl told) (tl z) := by rw [ec]; exact seal_is hz (by rw [← len_tl]; omega)
        have hlt : W 1 (tl z) % K94.P < K94.P := Nat.mod_lt _ (by decide)
        have e5 : (Str.ofString "\nsum ").length = 5 := by rw [len_tl, sum_head]; rfl
        have e10 : (Str.ofString (toString (((W 1 (tl z) % K94.P : Nat)) : Int))).length ≤ 10 := by rw [len_tl, tl_numI]; exact num_short hlt
        have hlog : ((W 1 (tl z) % K94.P : Nat) : Int).natAbs.log2 < 1920 := log_small hlt
        have etold : told = z ++ Str.ofString "\nsum " ++ Str.ofString (toString ((W 1 (tl z) % K94.P : Nat) : Int)) := TL.ext_tl (by
          show tl told = tl _
          rw [ec, tl_app, tl_app, tl_numI, sum_head, List.append_assoc]; rfl)
        refine ⟨_, rfl, _, rfl, _, _, rfl, rfl, by rw [e5]; omega, _, rfl, z, rfl, by omega, fun Gd sd => ⟨_, rfl, hlog, _, _, rfl, rfl, by rw [len_app, e5]; omega, rfl, _, rfl, ?_⟩⟩
        rw [← etold, decide_eq_true (rfl : V.str told = V.str told)]
        refine iteF ⟨_, rfl, .str told, rfl, .inr ⟨told, rfl, by omega, fun b hb Ge se => ?_, fun no => absurd istold (no (tl z))⟩⟩
        have eb : b = z := TL.ext_tl (hb.one istold)
        subst eb
        refine ⟨_, rfl, rfl, _, rfl, ?_⟩
        rw [decide_eq_true (rfl : V.str b = V.str b)]
        refine iteF ⟨_, rfl, .str b, rfl, .inl ⟨b, rfl, by omega, hz, fun Gf t5 sf e6 => ?_⟩⟩
        have et5 : t5 = told := TL.ext_tl (e6.trans ec.symm)
        subst et5
        refine ⟨_, rfl, rfl, _, rfl, ?_⟩
        rw [decide_eq_true (rfl : V.str t5 = V.str t5)]
        refine iteF ?_
        have sbf : Same Gb Gf := sc.trans (sd.trans (se.trans sf))
        have Sf : StAt Gf d g c (1 + 100 * i + 61) := Sb.same sbf
        have Tf : LamX.Tabs T Gf := Tb.ext sbf
        clear Tb kb sc sd se sf sbf Sb Sa Ta SG TG hSG
        refine ⟨6, rfl, by decide, by decide, for_range (lo := 0) (fun j σ G' => ∃ w5 w6 w8 : Option V, σ = [some (.ref a), some (.ref d), some (.int (0 + (i : Nat))), some (.str b), some (.str t5), w5, w6, v7, w8, v9, v10] ∧ StAt G' d g c (1 + 100 * i + 61 + 4 * j) ∧ LamX.Tabs T G') ⟨v5, v6, v8, rfl, Sf, Tf⟩ ?_ ?_⟩
        · intro j σ Gg hj hP
          have hj2 : j < 6 := hj
          obtain ⟨w5, w6, w8, rfl, Sg, Tg⟩ := hP
          refine ⟨_, rfl, _, rfl, d, g, c, _, t5, rfl, Sg, by omega, by omega, by omega, fun Gh o6 near Sh kh => ?_⟩
          have Th : LamX.Tabs T Gh := kh.tabs Sg Tg
          have lo : o6.length ≤ 80 := by
            have h1 := near_len near
            have h2 := len_tl o6
            have h3 := len_tl t5
            omega
          refine ⟨Th, fun Gi xi Ti => ⟨_, rfl, .str o6, rfl, .inr ⟨o6, rfl, by omega, fun b' hb' Gj sj => ?_, fun no Gj sj => ?_⟩⟩⟩
          · have eo : o6 = t5 := by
              refine Classical.byContradiction fun hne => ?_
              exact near_no hz (by rw [← len_tl]; omega) (by rw [← ec]; exact near) (fun q => hne (TL.ext_tl (q.trans ec.symm))) _ hb'
            subst eo
            refine ⟨.non, rfl, _, rfl, _, rfl, rfl, _, rfl, ?_⟩
            rw [decide_eq_true (rfl : V.str o6 = V.str o6)]
            refine iteF ⟨_, rfl, _, rfl, rfl, _, rfl, ?_⟩
            rw [decide_eq_true (rfl : V.str o6 = V.str o6)]
            refine iteT ⟨_, rfl, _, rfl, ?_⟩
            refine iteF ?_
            exact ⟨_, _, _, rfl, ((Sh.ext xi).same sj).mono (by omega), Ti.ext sj⟩
          · have hne : o6 ≠ t5 := fun q => no (tl b) (by rw [q]; exact istold)
            refine ⟨true, L.lS, fun _ => ⟨rfl, fun a' ha' => ?_⟩, fun q => nomatch q⟩
            have s7 : Same Gj (upd Gj a' (ExV (.ref CS) a')) := Same.over (Same.refl Gj) ha'
            refine ⟨_, rfl, _, rfl, rfl, _, rfl, ?_⟩
            rw [decide_eq_false (fun q => hne (V.str.inj q))]
            refine iteT ⟨_, rfl, a', CS, .ref CS, .ref CS, true, rfl, upd_same, L.eS, fun u e => e, kit_self, _, rfl, iteF ⟨_, rfl, _, rfl, rfl, _, rfl, ?_⟩⟩
            rw [decide_eq_false (fun q => hne (V.str.inj q))]
            refine iteF (iteF ?_)
            exact ⟨_, _, _, rfl, (((Sh.ext xi).same sj).same s7).mono (by omega), (Ti.ext sj).ext s7⟩
        · intro σ Gg hP
          obtain ⟨w5, w6, w8, rfl, Sg, Tg⟩ := hP
          have Sg' : StAt Gg d g c (1 + 100 * i + 90) := Sg.mono (by show 1 + 100 * i + 61 + 4 * 6 ≤ _; omega)
          refine ⟨_, rfl, by show 1 ≤ sizeLine; decide, fun L1 hL1 => ⟨by show 5 ≤ sizeLine; decide, fun LL hLL => ⟨LL, rfl, ⟨_, SqL.of upd_same⟩, ?_⟩⟩⟩
          have s8 : Same Gg (upd Gg L1 (.lst [.str b])) := Same.over (Same.refl Gg) hL1
          have s9 : Same (upd Gg L1 (.lst [.str b])) (upd (upd Gg L1 (.lst [.str b])) LL (.lst [.non, .int 5, .ref L1, .str (Str.ofString "a\tb"), .str (Str.ofString "\t")])) := Same.over (Same.refl _) hLL
          refine for_list (K := K) (a := LL) (xs := [.non, .int 5, .ref L1, .str (Str.ofString "a\tb"), .str (Str.ofString "\t")]) (fun j σ G' => ∃ w9 : Option V, σ = [some (.ref a), some (.ref d), some (.int (0 + (i : Nat))), some (.str b), some (.str t5), w5, w6, v7, w8, w9, v10] ∧ StAt G' d g c (1 + 100 * i + 90) ∧ LamX.Tabs T G' ∧ G' LL = some (.lst [.non, .int 5, .ref L1, .str (Str.ofString "a\tb"), .str (Str.ofString "\t")]) ∧ G' L1 = some (.lst [.str b]))
            ⟨v9, rfl, (Sg'.same s8).same s9, (Tg.ext s8).ext s9, upd_same, s9 _ _ upd_same⟩ (fun j σ G' _ hP => by obtain ⟨_, _, _, _, h, _⟩ := hP; exact SqL.of h) ?_ ?_
          · intro j x σ Gk hj hP
            obtain ⟨w9, rfl, Sk, Tk, hLk, h1k⟩ := hP
            have hx := List.mem_of_getElem? hj
            refine ⟨Tk, fun Gl xl Tl => ⟨_, rfl, x, rfl, .inr ⟨?_, fun Gm sm => ⟨true, L.lT, fun _ => ⟨rfl, fun a' ha' => ?_⟩, fun q => nomatch q⟩⟩⟩⟩
            · rcases wrong_one (K := K) (xl _ _ h1k (fun ps q => by cases q)) hx with h | ⟨zz, h1, h2, h3, _⟩
              · exact .inl h
              · exact .inr ⟨zz, h1, by omega, h3⟩
            have s7 : Same Gm (upd Gm a' (ExV (.ref CT) a')) := Same.over (Same.refl Gm) ha'
            refine ⟨a', CT, .ref CT, .ref CT, true, rfl, upd_same, L.eT, fun u e => e, kit_self, _, rfl, iteF ?_⟩
            have xall : LamX.ExtN Gk (upd Gm a' (ExV (.ref CT) a')) := xl.trans (LamX.ExtN.of (sm.trans s7))
            have Sn : StAt (upd Gm a' (ExV (.ref CT) a')) d g c (1 + 100 * i + 90) := Sk.ext xall
            have Tn : LamX.Tabs T (upd Gm a' (ExV (.ref CT) a')) := (Tl.ext sm).ext s7
            have hLn := xall _ _ hLk (fun ps q => by cases q)
            have h1n := xall _ _ h1k (fun ps q => by cases q)
            generalize upd Gm a' (ExV (.ref CT) a') = Gn at Sn Tn hLn h1n
            have fin2 : ∀ (Go Gp : Hp) (a2 : Addr), LamX.ExtN Gn Go → LamX.Tabs T Go → Same Go Gp → Gp a2 = none → StAt (upd Gp a2 (ExV (.ref CS) a2)) d g c (1 + 100 * i + 90) ∧ LamX.Tabs T (upd Gp a2 (ExV (.ref CS) a2)) ∧ (upd Gp a2 (ExV (.ref CS) a2)) LL = some (.lst [.non, .int 5, .ref L1, .str (Str.ofString "a\tb"), .str (Str.ofString "\t")]) ∧ (upd Gp a2 (ExV (.ref CS) a2)) L1 = some (.lst [.str b]) := by
              intro Go Gp a2 xo To sp h2
              have s6 : Same Gp (upd Gp a2 (ExV (.ref CS) a2)) := Same.over (Same.refl Gp) h2
              have xa : LamX.ExtN Gn (upd Gp a2 (ExV (.ref CS) a2)) := xo.trans (LamX.ExtN.of (sp.trans s6))
              exact ⟨Sn.ext xa, (To.ext sp).ext s6, xa _ _ hLn (fun ps q => by cases q), xa _ _ h1n (fun ps q => by cases q)⟩
            refine ⟨Tn, fun Go xo To => ⟨_, rfl, x, rfl, ?_⟩⟩
            rcases wrong_one (K := K) (xo _ _ h1n (fun ps q => by cases q)) hx with h | ⟨zz, h1, h2, _, h4⟩
            · refine .inl ⟨h, fun Gp sp => ⟨true, L.lS, fun _ => ⟨rfl, fun a2 ha2 => ?_⟩, fun q => nomatch q⟩⟩
              refine ⟨a2, CS, .ref CS, .ref CS, true, rfl, upd_same, L.eS, fun u e => e, kit_self, _, rfl, iteF ?_⟩
              obtain ⟨q1, q2, q3, q4⟩ := fin2 Go Gp a2 xo To sp ha2
              exact ⟨_, rfl, q1, q2, q3, q4⟩
            · refine .inr ⟨zz, h1, by omega, fun b' hb' => absurd hb' (h4 _), fun _ Gp sp => ⟨true, L.lS, fun _ => ⟨rfl, fun a2 ha2 => ?_⟩, fun q => nomatch q⟩⟩
              refine ⟨a2, CS, .ref CS, .ref CS, true, rfl, upd_same, L.eS, fun u e => e, kit_self, _, rfl, iteF ?_⟩
              obtain ⟨q1, q2, q3, q4⟩ := fin2 Go Gp a2 xo To sp ha2
              exact ⟨_, rfl, q1, q2, q3, q4⟩
          · intro σ Gk hP
            obtain ⟨w9, rfl, Sk, Tk, _, _⟩ := hP
            exact ⟨_, _, _, _, _, _, _, _, _, rfl, Sk.mono (by omega), Tk⟩
      · intro σ Ga hP
        obtain ⟨v2, v3, v4, v5, v6, v7, v8, v9, v10, rfl, Sa, Ta⟩ := hP
        refine ⟨by show 7 ≤ sizeLine; decide, fun LO hLO => ?_⟩
        have s8 : Same Ga (upd Ga LO (.lst [.str (Str.ofString ""), .str (Str.ofString "sum 0"), .str (Str.ofString "\nsum 00"), .str (Str.ofString "a\nsum"), .str (Str.ofString "\nsum 0 "), .str (Str.ofString "\nSum 0"), .str (Str.ofString "\nsum -0")])) := Same.over (Same.refl Ga) hLO
        refine ⟨_, rfl, LO, rfl, ⟨_, SqL.of upd_same⟩, fun D0 hD0 => lc_list (K := K) (a := LO) (xs := [.str (Str.ofString ""), .str (Str.ofString "sum 0"), .str (Str.ofString "\nsum 00"), .str (Str.ofString "a\nsum"), .str (Str.ofString "\nsum 0 "), .str (Str.ofString "\nSum 0"), .str (Str.ofString "\nsum -0")])
          (fun j G' => LamX.Tabs T G' ∧ G' D0 = some (.lst []) ∧ G' LO = some (.lst [.str (Str.ofString ""), .str (Str.ofString "sum 0"), .str (Str.ofString "\nsum 00"), .str (Str.ofString "a\nsum"), .str (Str.ofString "\nsum 0 "), .str (Str.ofString "\nSum 0"), .str (Str.ofString "\nsum -0")]))
          ⟨(Ta.ext s8).ext (Same.over (Same.refl _) hD0), upd_same, Same.over (Same.refl _) hD0 _ _ upd_same⟩ (fun j G' _ hP => SqL.of hP.2.2) ?_ ?_⟩
        · intro j x Gk hj hP
          obtain ⟨Tk, hDk, hOk⟩ := hP
          have hx := List.mem_of_getElem? hj
          obtain ⟨zz, rfl, hzz⟩ : ∃ zz : Str, x = .str zz ∧ zz ∈ [Str.ofString "", Str.ofString "sum 0", Str.ofString "\nsum 00", Str.ofString "a\nsum", Str.ofString "\nsum 0 ", Str.ofString "\nSum 0", Str.ofString "\nsum -0"] := by
            have e : ([.str (Str.ofString ""), .str (Str.ofString "sum 0"), .str (Str.ofString "\nsum 00"), .str (Str.ofString "a\nsum"), .str (Str.ofString "\nsum 0 "), .str (Str.ofString "\nSum 0"), .str (Str.ofString "\nsum -0")] : List V) = [Str.ofString "", Str.ofString "sum 0", Str.ofString "\nsum 00", Str.ofString "a\nsum", Str.ofString "\nsum 0 ", Str.ofString "\nSum 0", Str.ofString "\nsum -0"].map V.str := rfl
            rw [e] at hx
            obtain ⟨zz, h1, h2⟩ := List.mem_map.mp hx
            exact ⟨zz, h2.symm, h1⟩
          obtain ⟨hl10, hno⟩ := odd_no zz hzz
          refine ⟨rfl, Tk, fun Go xo To => ⟨_, rfl, .str zz, rfl, .inr ⟨zz, rfl, by omega, fun b' hb' => absurd hb' (hno _), fun _ Gp sp => ⟨true, L.lS, fun _ => ⟨rfl, fun a2 ha2 => ?_⟩, fun q => nomatch q⟩⟩⟩⟩
          refine ⟨a2, CS, .ref CS, .ref CS, true, rfl, upd_same, L.eS, fun u e => e, kit_self, _, rfl, iteF ?_⟩
          have s6 : Same Gp (upd Gp a2 (ExV (.ref CS) a2)) := Same.over (Same.refl Gp) ha2
          have xa : LamX.ExtN Gk (upd Gp a2 (ExV (.ref CS) a2)) := xo.trans (LamX.ExtN.of (sp.trans s6))
          exact ⟨(To.ext sp).ext s6, xa _ _ hDk (fun ps q => by cases q), xa _ _ hOk (fun ps q => by cases q)⟩
        · intro Gk hP
          obtain ⟨Tk, hDk, hOk⟩ := hP
          refine ⟨by show 0 ≤ sizeLine; decide, fun p0 hp0 => ⟨.list [], .list [], .lst (SqL.of (by rw [upd_ne (ne_of_none hDk hp0)]; exact hDk)) .nil, .lst (SqL.of upd_same) .nil, rfl, rfl, _, rfl, iteT ?_⟩⟩
          refine ⟨_, rfl, .inr ⟨_, rfl, by decide +kernel, fun b' hb' Gp sp => ⟨rfl, ?_⟩, fun no => absurd zero_is (no _)⟩⟩
          have eb : b' = Str.ofString "" := TL.ext_tl (hb'.one zero_is)
          subst eb
          exact k Gp
    · refine iteF ?_
      clear k2
      revert S2 T2 hS2
      generalize H2 = G0
      intro SG TG hSG
      refine ⟨_, rfl, _, _, rfl, .inl ⟨_, hSG, rfl⟩, _, _, rfl, rfl, .inl ⟨by decide, by decide⟩, _, _, rfl, _, _, rfl, rfl, ?_⟩
      have hlen : (ns.map V.int).length = ns.length := List.length_map ..
      refine ⟨_, rfl, ?_, ?_, for_range (lo := 0) (fun i σ G' => ∃ v2 v3 v4 v5 v6 v7 v8 v9 v10 : Option V, σ = [some (.ref a), some (.ref d), v2, v3, v4, v5, v6, v7, v8, v9, v10] ∧ StAt G' d g c (1 + 100 * i) ∧ LamX.Tabs T G') ⟨none, none, none, none, none, none, none, none, none, rfl, SG, TG⟩ ?_ ?_⟩
      · show -(2 ^ 62 : Int) ≤ 10 + (if (2 : Int) * (((ns.map V.int).length : Nat) : Int) < 50 then (2 : Int) * (((ns.map V.int).length : Nat) : Int) else 50)
        split <;> omega
      · show (10 : Int) + (if (2 : Int) * (((ns.map V.int).length : Nat) : Int) < 50 then (2 : Int) * (((ns.map V.int).length : Nat) : Int) else 50) < 2 ^ 62
        split <;> omega
      · intro i σ Ga hi hP
        have hi2 : i < 60 := by
          have hh : i < ((10 : Int) + (if (2 : Int) * (((ns.map V.int).length : Nat) : Int) < 50 then (2 : Int) * (((ns.map V.int).length : Nat) : Int) else 50)).toNat := hi
          split at hh <;> omega
        obtain ⟨v2, v3, v4, v5, v6, v7, v8, v9, v10, rfl, Sa, Ta⟩ := hP
        refine ⟨_, rfl, d, g, c, 1 + 100 * i, rfl, Sa, by omega, fun Gb z hz zl Sb kb => ?_⟩
        have Tb : LamX.Tabs T Gb := kb.tabs Sa Ta
        refine ⟨_, rfl, .str z, rfl, .inl ⟨z, rfl, by omega, hz, fun Gc told sc ec => ?_⟩⟩
        have lt : told.length ≤ 75 ∧ 0 < told.length := by
          have h1 := seal_len (tl z)
          have h2 := len_tl z
          have h3 : (tl told).length = told.length := (len_tl told).symm
          rw [ec] at h3
          have h4 : 0 < (sealL TL.numL (tl z)).length := by unfold sealL; rw [List.length_append, List.length_cons]; omega
          omega
        have istold : IsSeal (tl told) (tl z) := by rw [ec]; exact seal_is hz (by rw [← len_tl]; omega)
        have hlt : W 1 (tl z) % K94.P < K94.P := Nat.mod_lt _ (by decide)
        have e5 : (Str.ofString "\nsum ").length = 5 := by rw [len_tl, sum_head]; rfl
        have e10 : (Str.ofString (toString (((W 1 (tl z) % K94.P : Nat)) : Int))).length ≤ 10 := by rw [len_tl, tl_numI]; exact num_short hlt
        have hlog : ((W 1 (tl z) % K94.P : Nat) : Int).natAbs.log2 < 1920 := log_small hlt
        have etold : told = z ++ Str.ofString "\nsum " ++ Str.ofString (toString ((W 1 (tl z) % K94.P : Nat) : Int)) := TL.ext_tl (by
          show tl told = tl _
          rw [ec, tl_app, tl_app, tl_numI, sum_head, List.append_assoc]; rfl)
        refine ⟨_, rfl, _, rfl, _, _, rfl, rfl, by rw [e5]; omega, _, rfl, z, rfl, by omega, fun Gd sd => ⟨_, rfl, hlog, _, _, rfl, rfl, by rw [len_app, e5]; omega, rfl, _, rfl, ?_⟩⟩
        rw [← etold, decide_eq_true (rfl : V.str told = V.str told)]
        refine iteF ⟨_, rfl, .str told, rfl, .inr ⟨told, rfl, by omega, fun b hb Ge se => ?_, fun no => absurd istold (no (tl z))⟩⟩
        have eb : b = z := TL.ext_tl (hb.one istold)
        subst eb
        refine ⟨_, rfl, rfl, _, rfl, ?_⟩
        rw [decide_eq_true (rfl : V.str b = V.str b)]
        refine iteF ⟨_, rfl, .str b, rfl, .inl ⟨b, rfl, by omega, hz, fun Gf t5 sf e6 => ?_⟩⟩
        have et5 : t5 = told := TL.ext_tl (e6.trans ec.symm)
        subst et5
        refine ⟨_, rfl, rfl, _, rfl, ?_⟩
        rw [decide_eq_true (rfl : V.str t5 = V.str t5)]
        refine iteF ?_
        have sbf : Same Gb Gf := sc.trans (sd.trans (se.trans sf))
        have Sf : StAt Gf d g c (1 + 100 * i + 61) := Sb.same sbf
        have Tf : LamX.Tabs T Gf := Tb.ext sbf
        clear Tb kb sc sd se sf sbf Sb Sa Ta SG TG hSG
        refine ⟨6, rfl, by decide, by decide, for_range (lo := 0) (fun j σ G' => ∃ w5 w6 w8 : Option V, σ = [some (.ref a), some (.ref d), some (.int (0 + (i : Nat))), some (.str b), some (.str t5), w5, w6, v7, w8, v9, v10] ∧ StAt G' d g c (1 + 100 * i + 61 + 4 * j) ∧ LamX.Tabs T G') ⟨v5, v6, v8, rfl, Sf, Tf⟩ ?_ ?_⟩
        · intro j σ Gg hj hP
          have hj2 : j < 6 := hj
          obtain ⟨w5, w6, w8, rfl, Sg, Tg⟩ := hP
          refine ⟨_, rfl, _, rfl, d, g, c, _, t5, rfl, Sg, by omega, by omega, by omega, fun Gh o6 near Sh kh => ?_⟩
          have Th : LamX.Tabs T Gh := kh.tabs Sg Tg
          have lo : o6.length ≤ 80 := by
            have h1 := near_len near
            have h2 := len_tl o6
            have h3 := len_tl t5
            omega
          refine ⟨Th, fun Gi xi Ti => ⟨_, rfl, .str o6, rfl, .inr ⟨o6, rfl, by omega, fun b' hb' Gj sj => ?_, fun no Gj sj => ?_⟩⟩⟩
          · have eo : o6 = t5 := by
              refine Classical.byContradiction fun hne => ?_
              exact near_no hz (by rw [← len_tl]; omega) (by rw [← ec]; exact near) (fun q => hne (TL.ext_tl (q.trans ec.symm))) _ hb'
            subst eo
            refine ⟨.non, rfl, _, rfl, _, rfl, rfl, _, rfl, ?_⟩
            rw [decide_eq_true (rfl : V.str o6 = V.str o6)]
            refine iteF ⟨_, rfl, _, rfl, rfl, _, rfl, ?_⟩
            rw [decide_eq_true (rfl : V.str o6 = V.str o6)]
            refine iteT ⟨_, rfl, _, rfl, ?_⟩
            refine iteF ?_
            exact ⟨_, _, _, rfl, ((Sh.ext xi).same sj).mono (by omega), Ti.ext sj⟩
          · have hne : o6 ≠ t5 := fun q => no (tl b) (by rw [q]; exact istold)
            refine ⟨true, L.lS, fun _ => ⟨rfl, fun a' ha' => ?_⟩, fun q => nomatch q⟩
            have s7 : Same Gj (upd Gj a' (ExV (.ref CS) a')) := Same.over (Same.refl Gj) ha'
            refine ⟨_, rfl, _, rfl, rfl, _, rfl, ?_⟩
            rw [decide_eq_false (fun q => hne (V.str.inj q))]
            refine iteT ⟨_, rfl, a', CS, .ref CS, .ref CS, true, rfl, upd_same, L.eS, fun u e => e, kit_self, _, rfl, iteF ⟨_, rfl, _, rfl, rfl, _, rfl, ?_⟩⟩
            rw [decide_eq_false (fun q => hne (V.str.inj q))]
            refine iteF (iteF ?_)
            exact ⟨_, _, _, rfl, (((Sh.ext xi).same sj).same s7).mono (by omega), (Ti.ext sj).ext s7⟩
        · intro σ Gg hP
          obtain ⟨w5, w6, w8, rfl, Sg, Tg⟩ := hP
          have Sg' : StAt Gg d g c (1 + 100 * i + 90) := Sg.mono (by show 1 + 100 * i + 61 + 4 * 6 ≤ _; omega)
          refine ⟨_, rfl, by show 1 ≤ sizeLine; decide, fun L1 hL1 => ⟨by show 5 ≤ sizeLine; decide, fun LL hLL => ⟨LL, rfl, ⟨_, SqL.of upd_same⟩, ?_⟩⟩⟩
          have s8 : Same Gg (upd Gg L1 (.lst [.str b])) := Same.over (Same.refl Gg) hL1
          have s9 : Same (upd Gg L1 (.lst [.str b])) (upd (upd Gg L1 (.lst [.str b])) LL (.lst [.non, .int 5, .ref L1, .str (Str.ofString "a\tb"), .str (Str.ofString "\t")])) := Same.over (Same.refl _) hLL
          refine for_list (K := K) (a := LL) (xs := [.non, .int 5, .ref L1, .str (Str.ofString "a\tb"), .str (Str.ofString "\t")]) (fun j σ G' => ∃ w9 : Option V, σ = [some (.ref a), some (.ref d), some (.int (0 + (i : Nat))), some (.str b), some (.str t5), w5, w6, v7, w8, w9, v10] ∧ StAt G' d g c (1 + 100 * i + 90) ∧ LamX.Tabs T G' ∧ G' LL = some (.lst [.non, .int 5, .ref L1, .str (Str.ofString "a\tb"), .str (Str.ofString "\t")]) ∧ G' L1 = some (.lst [.str b]))
            ⟨v9, rfl, (Sg'.same s8).same s9, (Tg.ext s8).ext s9, upd_same, s9 _ _ upd_same⟩ (fun j σ G' _ hP => by obtain ⟨_, _, _, _, h, _⟩ := hP; exact SqL.of h) ?_ ?_
          · intro j x σ Gk hj hP
            obtain ⟨w9, rfl, Sk, Tk, hLk, h1k⟩ := hP
            have hx := List.mem_of_getElem? hj
            refine ⟨Tk, fun Gl xl Tl => ⟨_, rfl, x, rfl, .inr ⟨?_, fun Gm sm => ⟨true, L.lT, fun _ => ⟨rfl, fun a' ha' => ?_⟩, fun q => nomatch q⟩⟩⟩⟩
            · rcases wrong_one (K := K) (xl _ _ h1k (fun ps q => by cases q)) hx with h | ⟨zz, h1, h2, h3, _⟩
              · exact .inl h
              · exact .inr ⟨zz, h1, by omega, h3⟩
            have s7 : Same Gm (upd Gm a' (ExV (.ref CT) a')) := Same.over (Same.refl Gm) ha'
            refine ⟨a', CT, .ref CT, .ref CT, true, rfl, upd_same, L.eT, fun u e => e, kit_self, _, rfl, iteF ?_⟩
            have xall : LamX.ExtN Gk (upd Gm a' (ExV (.ref CT) a')) := xl.trans (LamX.ExtN.of (sm.trans s7))
            have Sn : StAt (upd Gm a' (ExV (.ref CT) a')) d g c (1 + 100 * i + 90) := Sk.ext xall
            have Tn : LamX.Tabs T (upd Gm a' (ExV (.ref CT) a')) := (Tl.ext sm).ext s7
            have hLn := xall _ _ hLk (fun ps q => by cases q)
            have h1n := xall _ _ h1k (fun ps q => by cases q)
            generalize upd Gm a' (ExV (.ref CT) a') = Gn at Sn Tn hLn h1n
            have fin2 : ∀ (Go Gp : Hp) (a2 : Addr), LamX.ExtN Gn Go → LamX.Tabs T Go → Same Go Gp → Gp a2 = none → StAt (upd Gp a2 (ExV (.ref CS) a2)) d g c (1 + 100 * i + 90) ∧ LamX.Tabs T (upd Gp a2 (ExV (.ref CS) a2)) ∧ (upd Gp a2 (ExV (.ref CS) a2)) LL = some (.lst [.non, .int 5, .ref L1, .str (Str.ofString "a\tb"), .str (Str.ofString "\t")]) ∧ (upd Gp a2 (ExV (.ref CS) a2)) L1 = some (.lst [.str b]) := by
              intro Go Gp a2 xo To sp h2
              have s6 : Same Gp (upd Gp a2 (ExV (.ref CS) a2)) := Same.over (Same.refl Gp) h2
              have xa : LamX.ExtN Gn (upd Gp a2 (ExV (.ref CS) a2)) := xo.trans (LamX.ExtN.of (sp.trans s6))
              exact ⟨Sn.ext xa, (To.ext sp).ext s6, xa _ _ hLn (fun ps q => by cases q), xa _ _ h1n (fun ps q => by cases q)⟩
            refine ⟨Tn, fun Go xo To => ⟨_, rfl, x, rfl, ?_⟩⟩
            rcases wrong_one (K := K) (xo _ _ h1n (fun ps q => by cases q)) hx with h | ⟨zz, h1, h2, _, h4⟩
            · refine .inl ⟨h, fun Gp sp => ⟨true, L.lS, fun _ => ⟨rfl, fun a2 ha2 => ?_⟩, fun q => nomatch q⟩⟩
              refine ⟨a2, CS, .ref CS, .ref CS, true, rfl, upd_same, L.eS, fun u e => e, kit_self, _, rfl, iteF ?_⟩
              obtain ⟨q1, q2, q3, q4⟩ := fin2 Go Gp a2 xo To sp ha2
              exact ⟨_, rfl, q1, q2, q3, q4⟩
            · refine .inr ⟨zz, h1, by omega, fun b' hb' => absurd hb' (h4 _), fun _ Gp sp => ⟨true, L.lS, fun _ => ⟨rfl, fun a2 ha2 => ?_⟩, fun q => nomatch q⟩⟩
              refine ⟨a2, CS, .ref CS, .ref CS, true, rfl, upd_same, L.eS, fun u e => e, kit_self, _, rfl, iteF ?_⟩
              obtain ⟨q1, q2, q3, q4⟩ := fin2 Go Gp a2 xo To sp ha2
              exact ⟨_, rfl, q1, q2, q3, q4⟩
          · intro σ Gk hP
            obtain ⟨w9, rfl, Sk, Tk, _, _⟩ := hP
            exact ⟨_, _, _, _, _, _, _, _, _, rfl, Sk.mono (by omega), Tk⟩
      · intro σ Ga hP
        obtain ⟨v2, v3, v4, v5, v6, v7, v8, v9, v10, rfl, Sa, Ta⟩ := hP
        refine ⟨by show 7 ≤ sizeLine; decide, fun LO hLO => ?_⟩
        have s8 : Same Ga (upd Ga LO (.lst [.str (Str.ofString ""), .str (Str.ofString "sum 0"), .str (Str.ofString "\nsum 00"), .str (Str.ofString "a\nsum"), .str (Str.ofString "\nsum 0 "), .str (Str.ofString "\nSum 0"), .str (Str.ofString "\nsum -0")])) := Same.over (Same.refl Ga) hLO
        refine ⟨_, rfl, LO, rfl, ⟨_, SqL.of upd_same⟩, fun D0 hD0 => lc_list (K := K) (a := LO) (xs := [.str (Str.ofString ""), .str (Str.ofString "sum 0"), .str (Str.ofString "\nsum 00"), .str (Str.ofString "a\nsum"), .str (Str.ofString "\nsum 0 "), .str (Str.ofString "\nSum 0"), .str (Str.ofString "\nsum -0")])
          (fun j G' => LamX.Tabs T G' ∧ G' D0 = some (.lst []) ∧ G' LO = some (.lst [.str (Str.ofString ""), .str (Str.ofString "sum 0"), .str (Str.ofString "\nsum 00"), .str (Str.ofString "a\nsum"), .str (Str.ofString "\nsum 0 "), .str (Str.ofString "\nSum 0"), .str (Str.ofString "\nsum -0")]))
          ⟨(Ta.ext s8).ext (Same.over (Same.refl _) hD0), upd_same, Same.over (Same.refl _) hD0 _ _ upd_same⟩ (fun j G' _ hP => SqL.of hP.2.2) ?_ ?_⟩
        · intro j x Gk hj hP
          obtain ⟨Tk, hDk, hOk⟩ := hP
          have hx := List.mem_of_getElem? hj
          obtain ⟨zz, rfl, hzz⟩ : ∃ zz : Str, x = .str zz ∧ zz ∈ [Str.ofString "", Str.ofString "sum 0", Str.ofString "\nsum 00", Str.ofString "a\nsum", Str.ofString "\nsum 0 ", Str.ofString "\nSum 0", Str.ofString "\nsum -0"] := by
            have e : ([.str (Str.ofString ""), .str (Str.ofString "sum 0"), .str (Str.ofString "\nsum 00"), .str (Str.ofString "a\nsum"), .str (Str.ofString "\nsum 0 "), .str (Str.ofString "\nSum 0"), .str (Str.ofString "\nsum -0")] : List V) = [Str.ofString "", Str.ofString "sum 0", Str.ofString "\nsum 00", Str.ofString "a\nsum", Str.ofString "\nsum 0 ", Str.ofString "\nSum 0", Str.ofString "\nsum -0"].map V.str := rfl
            rw [e] at hx
            obtain ⟨zz, h1, h2⟩ := List.mem_map.mp hx
            exact ⟨zz, h2.symm, h1⟩
          obtain ⟨hl10, hno⟩ := odd_no zz hzz
          refine ⟨rfl, Tk, fun Go xo To => ⟨_, rfl, .str zz, rfl, .inr ⟨zz, rfl, by omega, fun b' hb' => absurd hb' (hno _), fun _ Gp sp => ⟨true, L.lS, fun _ => ⟨rfl, fun a2 ha2 => ?_⟩, fun q => nomatch q⟩⟩⟩⟩
          refine ⟨a2, CS, .ref CS, .ref CS, true, rfl, upd_same, L.eS, fun u e => e, kit_self, _, rfl, iteF ?_⟩
          have s6 : Same Gp (upd Gp a2 (ExV (.ref CS) a2)) := Same.over (Same.refl Gp) ha2
          have xa : LamX.ExtN Gk (upd Gp a2 (ExV (.ref CS) a2)) := xo.trans (LamX.ExtN.of (sp.trans s6))
          exact ⟨(To.ext sp).ext s6, xa _ _ hDk (fun ps q => by cases q), xa _ _ hOk (fun ps q => by cases q)⟩
        · intro Gk hP
          obtain ⟨Tk, hDk, hOk⟩ := hP
          refine ⟨by show 0 ≤ sizeLine; decide, fun p0 hp0 => ⟨.list [], .list [], .lst (SqL.of (by rw [upd_ne (ne_of_none hDk hp0)]; exact hDk)) .nil, .lst (SqL.of upd_same) .nil, rfl, rfl, _, rfl, iteT ?_⟩⟩
          refine ⟨_, rfl, .inr ⟨_, rfl, by decide +kernel, fun b' hb' Gp sp => ⟨rfl, ?_⟩, fun no => absurd zero_is (no _)⟩⟩
          have eb : b' = Str.ofString "" := TL.ext_tl (hb'.one zero_is)
          subst eb
          exact k Gp
end
end K94

set_option Elab.async false
set_option linter.all false
set_option maxRecDepth 100000
set_option maxHeartbeats 16000000
namespace K94
open PySem PySem.Spec PyProof.Rows L2
/-- a parameter given by its name alone -/
theorem kb_text {K : PySem.W.Frag} {fd : FuncData} (b : ∀ u : Value, bindArgs fd ⟨[u], []⟩ = pure [(Str.ofString "text", u)]) (b2 : ∀ u : Value, bindArgs fd ⟨[], [(Str.ofString "text", u)]⟩ = pure [(Str.ofString "text", u)]) : KBinds K fd ["text"] ["text"] (fun us ws => us ++ ws.take 1) (fun vs zs => vs ++ zs.take 1) := by
  refine ⟨fun s us ws _ hl => ?_, fun r rz => ?_⟩
  · have hl' : (us ++ ws.take 1).length = 1 := hl
    match us, ws, hl' with
    | [], w1 :: ws, _ => exact .of_eq (b2 w1)
    | [u], [], _ => exact .of_eq (b u)
    | [], [], h => cases h
    | u :: u2 :: us, ws, h => simp at h
    | [u], w1 :: ws, h => simp at h
  · exact Vals.append r (by
      cases rz with
      | nil => exact .nil
      | cons h1 h2 => exact .cons h1 .nil)
/-- what the top has written, and the law's promise -/
theorem all_mk {l : PySem.W.OpenLaw} {w : World} {K : PySem.W.Frag} {h : Heap} {mg : Str → Option Value} {fa fSg fSu fBl fSe fTo fUn fBg fBd fDr fPi fCa fSm fGn fTx fNr fLo cdLo fLa cdLa CL CS CT PLo PLa : Addr} (X : K.In h) (G : h.Ns mainGlobals mg) (hfa : mg "law" = some (.ref fa))
    {odSg anSg odSu anSu odBl anBl odSe anSe odTo anTo odUn anUn odBg anBg odBd anBd odDr anDr odPi anPi odCa anCa odSm anSm odGn anGn odTx anTx odNr anNr odLo anLo odLa anLa : Option Addr} {slSg slSu slBl slSe slTo slUn slBg slBd slDr slPi slCa slSm slGn slTx slNr slLo slLa : Array (Option Value)} {ocSg kVSg dcSg pmSg ctSg cdSg ocSu kVSu dcSu pmSu ctSu cdSu ocBl kVBl dcBl pmBl ctBl cdBl ocSe kVSe dcSe pmSe ctSe cdSe ocTo kVTo dcTo pmTo ctTo cdTo ocUn kVUn dcUn pmUn ctUn cdUn ocBg kVBg dcBg pmBg ctBg cdBg ocBd kVBd dcBd pmBd ctBd cdBd ocDr kVDr dcDr pmDr ctDr cdDr ocPi kVPi dcPi pmPi ctPi cdPi ocCa kVCa dcCa pmCa ctCa cdCa ocSm kVSm dcSm pmSm ctSm cdSm ocGn kVGn dcGn pmGn ctGn cdGn ocTx kVTx dcTx pmTx ctTx cdTx ocNr kVNr dcNr pmNr ctNr cdNr ocLo kVLo dcLo pmLo ctLo ocLa kVLa dcLa pmLa ctLa : Value} {t0 t1 t2 : Tok} {t3 : Tok}
    (aSg : PySem.W.nsIn K mainGlobals "is_signs" = some (some (.ref fSg))) (lSg : K.lookup fSg = some ⟨ocSg, odSg, .func (PySem.W.fnOf "is_signs" "is_signs" (defArgs sSigns) (defBody sSigns) (defScope sSigns) .none kVSg dcSg pmSg anSg cdSg ctSg), slSg⟩) (cSg : PySem.W.codeIn K cdSg "is_signs" = true) (kSg : PySem.W.keepIn K (.ref fSg) = true)
    (aSu : PySem.W.nsIn K mainGlobals "sum_of" = some (some (.ref fSu))) (lSu : K.lookup fSu = some ⟨ocSu, odSu, .func (PySem.W.fnOf "sum_of" "sum_of" (defArgs sSumOf) (defBody sSumOf) (defScope sSumOf) .none kVSu dcSu pmSu anSu cdSu ctSu), slSu⟩) (cSu : PySem.W.codeIn K cdSu "sum_of" = true) (kSu : PySem.W.keepIn K (.ref fSu) = true)
    (aBl : PySem.W.nsIn K mainGlobals "is_sealable" = some (some (.ref fBl))) (lBl : K.lookup fBl = some ⟨ocBl, odBl, .func (PySem.W.fnOf "is_sealable" "is_sealable" (defArgs sSealable) (defBody sSealable) (defScope sSealable) .none kVBl dcBl pmBl anBl cdBl ctBl), slBl⟩) (cBl : PySem.W.codeIn K cdBl "is_sealable" = true) (kBl : PySem.W.keepIn K (.ref fBl) = true)
    (aSe : PySem.W.nsIn K mainGlobals "sealed" = some (some (.ref fSe))) (lSe : K.lookup fSe = some ⟨ocSe, odSe, .func (PySem.W.fnOf "sealed" "sealed" (defArgs sSealed) (defBody sSealed) (defScope sSealed) .none kVSe dcSe pmSe anSe cdSe ctSe), slSe⟩) (cSe : PySem.W.codeIn K cdSe "sealed" = true) (kSe : PySem.W.keepIn K (.ref fSe) = true)
    (aTo : PySem.W.nsIn K mainGlobals "told_number" = some (some (.ref fTo))) (lTo : K.lookup fTo = some ⟨ocTo, odTo, .func (PySem.W.fnOf "told_number" "told_number" (defArgs sTold) (defBody sTold) (defScope sTold) .none kVTo dcTo pmTo anTo cdTo ctTo), slTo⟩) (cTo : PySem.W.codeIn K cdTo "told_number" = true) (kTo : PySem.W.keepIn K (.ref fTo) = true)
    (aUn : PySem.W.nsIn K mainGlobals "unsealed" = some (some (.ref fUn))) (lUn : K.lookup fUn = some ⟨ocUn, odUn, .func (PySem.W.fnOf "unsealed" "unsealed" (defArgs sUnsealed) (defBody sUnsealed) (defScope sUnsealed) .none kVUn dcUn pmUn anUn cdUn ctUn), slUn⟩) (cUn : PySem.W.codeIn K cdUn "unsealed" = true) (kUn : PySem.W.keepIn K (.ref fUn) = true)
    (aBg : PySem.W.nsIn K mainGlobals "_law_begun" = some (some (.ref fBg))) (lBg : K.lookup fBg = some ⟨ocBg, odBg, .func (PySem.W.fnOf "_law_begun" "_law_begun" (defArgs sBegun) (defBody sBegun) (defScope sBegun) .none kVBg dcBg pmBg anBg cdBg ctBg), slBg⟩) (cBg : PySem.W.codeIn K cdBg "_law_begun" = true) (kBg : PySem.W.keepIn K (.ref fBg) = true)
    (aBd : PySem.W.nsIn K mainGlobals "_law_blended" = some (some (.ref fBd))) (lBd : K.lookup fBd = some ⟨ocBd, odBd, .func (PySem.W.fnOf "_law_blended" "_law_blended" (defArgs sBlended) (defBody sBlended) (defScope sBlended) .none kVBd dcBd pmBd anBd cdBd ctBd), slBd⟩) (cBd : PySem.W.codeIn K cdBd "_law_blended" = true) (kBd : PySem.W.keepIn K (.ref fBd) = true)
    (aDr : PySem.W.nsIn K mainGlobals "_law_draw" = some (some (.ref fDr))) (lDr : K.lookup fDr = some ⟨ocDr, odDr, .func (PySem.W.fnOf "_law_draw" "_law_draw" (defArgs sDraw) (defBody sDraw) (defScope sDraw) .none kVDr dcDr pmDr anDr cdDr ctDr), slDr⟩) (cDr : PySem.W.codeIn K cdDr "_law_draw" = true) (kDr : PySem.W.keepIn K (.ref fDr) = true)
    (aPi : PySem.W.nsIn K mainGlobals "_law_pick" = some (some (.ref fPi))) (lPi : K.lookup fPi = some ⟨ocPi, odPi, .func (PySem.W.fnOf "_law_pick" "_law_pick" (defArgs sPick) (defBody sPick) (defScope sPick) .none kVPi dcPi pmPi anPi cdPi ctPi), slPi⟩) (cPi : PySem.W.codeIn K cdPi "_law_pick" = true) (kPi : PySem.W.keepIn K (.ref fPi) = true)
    (aCa : PySem.W.nsIn K mainGlobals "_law_caught" = some (some (.ref fCa))) (lCa : K.lookup fCa = some ⟨ocCa, odCa, .func (PySem.W.fnOf "_law_caught" "_law_caught" (defArgs sCaught) (defBody sCaught) (defScope sCaught) .none kVCa dcCa pmCa anCa cdCa ctCa), slCa⟩) (cCa : PySem.W.codeIn K cdCa "_law_caught" = true) (kCa : PySem.W.keepIn K (.ref fCa) = true)
    (aSm : PySem.W.nsIn K mainGlobals "_law_k94_sum" = some (some (.ref fSm))) (lSm : K.lookup fSm = some ⟨ocSm, odSm, .func (PySem.W.fnOf "_law_k94_sum" "_law_k94_sum" (defArgs sSum94) (defBody sSum94) (defScope sSum94) .none kVSm dcSm pmSm anSm cdSm ctSm), slSm⟩) (cSm : PySem.W.codeIn K cdSm "_law_k94_sum" = true) (kSm : PySem.W.keepIn K (.ref fSm) = true)
    (aGn : PySem.W.nsIn K mainGlobals "_law_k94_signs" = some (some (.ref fGn))) (lGn : K.lookup fGn = some ⟨ocGn, odGn, .func (PySem.W.fnOf "_law_k94_signs" "_law_k94_signs" (defArgs sSigns94) (defBody sSigns94) (defScope sSigns94) .none kVGn dcGn pmGn anGn cdGn ctGn), slGn⟩) (cGn : PySem.W.codeIn K cdGn "_law_k94_signs" = true) (kGn : PySem.W.keepIn K (.ref fGn) = true)
    (aTx : PySem.W.nsIn K mainGlobals "_law_k94_text" = some (some (.ref fTx))) (lTx : K.lookup fTx = some ⟨ocTx, odTx, .func (PySem.W.fnOf "_law_k94_text" "_law_k94_text" (defArgs sText) (defBody sText) (defScope sText) .none kVTx dcTx pmTx anTx cdTx ctTx), slTx⟩) (cTx : PySem.W.codeIn K cdTx "_law_k94_text" = true) (kTx : PySem.W.keepIn K (.ref fTx) = true)
    (aNr : PySem.W.nsIn K mainGlobals "_law_k94_near" = some (some (.ref fNr))) (lNr : K.lookup fNr = some ⟨ocNr, odNr, .func (PySem.W.fnOf "_law_k94_near" "_law_k94_near" (defArgs sNear) (defBody sNear) (defScope sNear) .none kVNr dcNr pmNr anNr cdNr ctNr), slNr⟩) (cNr : PySem.W.codeIn K cdNr "_law_k94_near" = true) (kNr : PySem.W.keepIn K (.ref fNr) = true)
    (aLo : PySem.W.nsIn K mainGlobals "_law_k94_long" = some (some (.ref fLo))) (lLo : K.lookup fLo = some ⟨ocLo, odLo, .func (PySem.W.fnOf "_law_k94_long" "_law_k94_long" (defArgs sLong) (defBody sLong) (defScope sLong) .none kVLo dcLo pmLo anLo (.ref cdLo) ctLo), slLo⟩) (cLo : PySem.W.codeIn K (.ref cdLo) "_law_k94_long" = true) (kLo : PySem.W.keepIn K (.ref fLo) = true)
    (aLa : PySem.W.nsIn K mainGlobals "law" = some (some (.ref fLa))) (lLa : K.lookup fLa = some ⟨ocLa, odLa, .func (PySem.W.fnOf "law" "law" (defArgs sLaw) (defBody sLaw) (defScope sLaw) .none kVLa dcLa pmLa anLa (.ref cdLa) ctLa), slLa⟩) (cLa : PySem.W.codeIn K (.ref cdLa) "law" = true) (kLa : PySem.W.keepIn K (.ref fLa) = true)
    (gCL : PySem.W.nsIn K mainGlobals "LoanError" = some (some (.ref CL)))
    (bCL : PySem.W.subIn K (.ref CL) (.type "BaseException") = some true) (tCL : PySem.W.typeIn K (.ref CL) = some (.type "type")) (dCL : PySem.W.hasDictIn K CL = true) (sCL : PySem.W.subIn K (.ref CL) (.ref CL) = some true)
    (gCS : PySem.W.nsIn K mainGlobals "BadSum" = some (some (.ref CS)))
    (bCS : PySem.W.subIn K (.ref CS) (.type "BaseException") = some true) (tCS : PySem.W.typeIn K (.ref CS) = some (.type "type")) (dCS : PySem.W.hasDictIn K CS = true) (sCS : PySem.W.subIn K (.ref CS) (.ref CL) = some true) (xCS : PySem.W.excIn K CS [.type "ValueError", .type "Exception", .type "BaseException", .type "object"] "ValueError.__new__" = true) (kCS : PySem.W.keepIn K (.ref CS) = true) (hgCS : PySem.W.findIn K (.ref CS) "__getattribute__" = some (some (.builtin "BaseException.__getattribute__"))) (hkCS : PySem.W.findIn K (.ref CS) "__getattr__" = some none) (haCS : PySem.W.findIn K (.ref CS) "__class__" = some (some (.builtin "object.__class__"))) (hmCS : PySem.W.mroIn K CS (.type "object") = some true)
    (gCT : PySem.W.nsIn K mainGlobals "BadThing" = some (some (.ref CT)))
    (bCT : PySem.W.subIn K (.ref CT) (.type "BaseException") = some true) (tCT : PySem.W.typeIn K (.ref CT) = some (.type "type")) (dCT : PySem.W.hasDictIn K CT = true) (sCT : PySem.W.subIn K (.ref CT) (.ref CL) = some true) (xCT : PySem.W.excIn K CT [.type "ValueError", .type "Exception", .type "BaseException", .type "object"] "ValueError.__new__" = true) (kCT : PySem.W.keepIn K (.ref CT) = true) (hgCT : PySem.W.findIn K (.ref CT) "__getattribute__" = some (some (.builtin "BaseException.__getattribute__"))) (hkCT : PySem.W.findIn K (.ref CT) "__getattr__" = some none) (haCT : PySem.W.findIn K (.ref CT) "__class__" = some (some (.builtin "object.__class__"))) (hmCT : PySem.W.mroIn K CT (.type "object") = some true)
    (hn : PySem.W.specialIn K (.builtin "object.__class__") "__get__" = some (some (.builtin "getset_descriptor.__get__"))) (ht : PySem.W.takesIn K (.builtin "object.__class__") = some true)
    (zisinstance : PySem.W.nsIn K mainGlobals "isinstance" = some none)
    (zall : PySem.W.nsIn K mainGlobals "all" = some none)
    (zstr : PySem.W.nsIn K mainGlobals "str" = some none)
    (zlen : PySem.W.nsIn K mainGlobals "len" = some none)
    (zenumerate : PySem.W.nsIn K mainGlobals "enumerate" = some none)
    (zord : PySem.W.nsIn K mainGlobals "ord" = some none)
    (zint : PySem.W.nsIn K mainGlobals "int" = some none)
    (zabs : PySem.W.nsIn K mainGlobals "abs" = some none)
    (zrange : PySem.W.nsIn K mainGlobals "range" = some none)
    (zsum : PySem.W.nsIn K mainGlobals "sum" = some none)
    (zmin : PySem.W.nsIn K mainGlobals "min" = some none)
    (vPRIME : PySem.W.nsIn K mainGlobals "PRIME" = some (some (.int 1000000007 t0)))
    (vMOST_SEALED : PySem.W.nsIn K mainGlobals "MOST_SEALED" = some (some (.int 1000000 t1)))
    (vMOST_SUM : PySem.W.nsIn K mainGlobals "MOST_SUM" = some (some (.int 10 t2)))
    (vFIGURES : PySem.W.nsIn K mainGlobals "FIGURES" = some (some (.str "0123456789" t3)))
    (hLo : PySem.W.codeHdIn K cdLo PLo = true) (hLa : PySem.W.codeHdIn K cdLa PLa = true) (nLo : K.lookup PLo = none) (nLa : K.lookup PLa = none) (eLo : h.get? PLo = some { cls := .none, data := .fields #[] }) (eLa : h.get? PLa = some { cls := .none, data := .fields #[] }) (ne : PLo ≠ PLa)
    : LamX.LawAtS l w K CX0 8 63 "script" mg fa h := by
  have e := hfa.symm.trans (PySem.W.mg_of X G aLa)
  cases e
  have FSg := fun_mk (st := sSigns) lSg cSg kSg
  have bSg := FSg.binds (ps := ["value"]) fun _ _ _ _ _ _ us hl => match us, hl with | [_], _ => rfl
  have FSu := fun_mk (st := sSumOf) lSu cSu kSu
  have bSu := FSu.binds (ps := ["text"]) fun _ _ _ _ _ _ us hl => match us, hl with | [_], _ => rfl
  have FBl := fun_mk (st := sSealable) lBl cBl kBl
  have bBl := FBl.binds (ps := ["value"]) fun _ _ _ _ _ _ us hl => match us, hl with | [_], _ => rfl
  have FSe := fun_mk (st := sSealed) lSe cSe kSe
  have bSe := FSe.binds (ps := ["text"]) fun _ _ _ _ _ _ us hl => match us, hl with | [_], _ => rfl
  have FTo := fun_mk (st := sTold) lTo cTo kTo
  have bTo := FTo.binds (ps := ["text"]) fun _ _ _ _ _ _ us hl => match us, hl with | [_], _ => rfl
  have FUn := fun_mk (st := sUnsealed) lUn cUn kUn
  have bUn := FUn.binds (ps := ["text"]) fun _ _ _ _ _ _ us hl => match us, hl with | [_], _ => rfl
  have FBg := fun_mk (st := sBegun) lBg cBg kBg
  have bBg := FBg.binds (ps := ["script"]) fun _ _ _ _ _ _ us hl => match us, hl with | [_], _ => rfl
  have FBd := fun_mk (st := sBlended) lBd cBd kBd
  have bBd := FBd.binds (ps := ["state"]) fun _ _ _ _ _ _ us hl => match us, hl with | [_], _ => rfl
  have FDr := fun_mk (st := sDraw) lDr cDr kDr
  have bDr := FDr.binds (ps := ["state", "size_here"]) fun _ _ _ _ _ _ us hl => match us, hl with | [_, _], _ => rfl
  have FPi := fun_mk (st := sPick) lPi cPi kPi
  have bPi := FPi.binds (ps := ["state", "several"]) fun _ _ _ _ _ _ us hl => match us, hl with | [_, _], _ => rfl
  have FCa := fun_mk (st := sCaught) lCa cCa kCa
  have bCa := FCa.binds (ps := ["work"]) fun _ _ _ _ _ _ us hl => match us, hl with | [_], _ => rfl
  have FSm := fun_mk (st := sSum94) lSm cSm kSm
  have bSm := FSm.binds (ps := ["text"]) fun _ _ _ _ _ _ us hl => match us, hl with | [_], _ => rfl
  have FGn := fun_mk (st := sSigns94) lGn cGn kGn
  have bGn := FGn.binds (ps := []) fun _ _ _ _ _ _ us hl => match us, hl with | [], _ => rfl
  have FTx := fun_mk (st := sText) lTx cTx kTx
  have bTx := FTx.binds (ps := ["state"]) fun _ _ _ _ _ _ us hl => match us, hl with | [_], _ => rfl
  have FNr := fun_mk (st := sNear) lNr cNr kNr
  have bNr := FNr.binds (ps := ["state", "text"]) fun _ _ _ _ _ _ us hl => match us, hl with | [_, _], _ => rfl
  have N : Nm mg := { isi := PySem.W.mg_none_of X G zisinstance, all := PySem.W.mg_none_of X G zall, str := PySem.W.mg_none_of X G zstr, len := PySem.W.mg_none_of X G zlen, enum := PySem.W.mg_none_of X G zenumerate, ord := PySem.W.mg_none_of X G zord, int := PySem.W.mg_none_of X G zint, prime := ⟨_, PySem.W.mg_of X G vPRIME⟩, mostSealed := ⟨_, PySem.W.mg_of X G vMOST_SEALED⟩, mostSum := ⟨_, PySem.W.mg_of X G vMOST_SUM⟩, figures := ⟨_, PySem.W.mg_of X G vFIGURES⟩ }
  have ES : ExcC K CS := ⟨hgCS, hkCS, bCS, dCS, haCS, hn, ht, hmCS⟩
  have ET : ExcC K CT := ⟨hgCT, hkCT, bCT, dCT, haCT, hn, ht, hmCT⟩
  have L : Ls K mg CL CS CT fSe fUn _ _ := { L := PySem.W.mg_of X G gCL, S := ⟨PySem.W.mg_of X G gCS, xCS, kCS, bCS, tCS⟩, T := ⟨PySem.W.mg_of X G gCT, xCT, kCT, bCT, tCT⟩, eS := ES, eT := ET, lS := PySem.W.exm_ref bCL dCL tCL sCS, lT := PySem.W.exm_ref bCL dCL tCL sCT, s := FSe, gs := PySem.W.mg_of X G aSe, bs := bSe, ks := kb_text (fun _ => rfl) (fun _ => rfl), u := FUn, gu := PySem.W.mg_of X G aUn, bu := bUn, ku := kb_text (fun _ => rfl) (fun _ => rfl) }
  have C : Cs K mg fCa _ := { g := PySem.W.mg_of X G aCa, k := kCa, b := bCa, l := ⟨_, _, _, _, _, _, _, _, _, rfl, lCa, cCa⟩ }
  have D : Fs K mg fSg fSu fBl fTo _ _ _ _ := { S := FSg, gS := PySem.W.mg_of X G aSg, bS := bSg, U := FSu, gU := PySem.W.mg_of X G aSu, bU := bSu, B := FBl, gB := PySem.W.mg_of X G aBl, bB := bBl, T := FTo, gT := PySem.W.mg_of X G aTo, bT := bTo }
  have R : Ds K mg fBd fDr fPi _ _ _ := { B := FBd, gB := PySem.W.mg_of X G aBd, bB := bBd, D := FDr, gD := PySem.W.mg_of X G aDr, bD := bDr, P := FPi, gP := PySem.W.mg_of X G aPi, bP := bPi }
  have GG : Gs K mg fBg fTx fNr fGn fSm _ _ _ _ _ := { Bg := FBg, gBg := PySem.W.mg_of X G aBg, bBg := bBg, T := FTx, gT := PySem.W.mg_of X G aTx, bT := bTx, N := FNr, gN := PySem.W.mg_of X G aNr, bN := bNr, G := FGn, gG := PySem.W.mg_of X G aGn, bG := bGn, M := FSm, gM := PySem.W.mg_of X G aSm, bM := bSm, abs := PySem.W.mg_none_of X G zabs, range := PySem.W.mg_none_of X G zrange, sum := PySem.W.mg_none_of X G zsum, min := PySem.W.mg_none_of X G zmin }
  have bLo : Binds K (PySem.W.fnOf "_law_k94_long" "_law_k94_long" (defArgs sLong) (defBody sLong) (defScope sLong) .none kVLo dcLo pmLo anLo (.ref cdLo) ctLo) [] [] := .all fun us hl => match us, hl with | [], _ => rfl
  refine ⟨PySem.W.fnOf "law" "law" (defArgs sLaw) (defBody sLaw) (defScope sLaw) .none kVLa dcLa pmLa anLa (.ref cdLa) ctLa, [(cdLo, PLo), (cdLa, PLa)], spLaw [(PLo, qLong), (PLa, qLaw)] K, ?_, ?_, ?_, fun s v => .of_eq rfl, fun H a ns hl _ hT hS => ?_, fun base hK hg hTB => ?_⟩
  · exact List.forall_mem_cons.mpr ⟨eLo, List.forall_mem_cons.mpr ⟨eLa, fun _ h => nomatch h⟩⟩
  · exact List.forall_mem_cons.mpr ⟨nLo, List.forall_mem_cons.mpr ⟨nLa, fun _ h => nomatch h⟩⟩
  · exact List.forall_mem_cons.mpr ⟨PySem.W.codeHd_of_K X hLo, List.forall_mem_cons.mpr ⟨PySem.W.codeHd_of_K X hLa, fun _ h => nomatch h⟩⟩
  · refine ⟨a, ns, rfl, hS, hl, ?_, fun _ => rfl⟩
    exact List.forall_mem_cons.mpr ⟨LamX.TabS.nil (hT (cdLo, PLo) (by simp)), List.forall_mem_cons.mpr ⟨LamX.TabS.nil (hT (cdLa, PLa) (by simp)), fun _ h => nomatch h⟩⟩
  · have TLo := hTB (cdLo, PLo) (by simp)
    have TLa := hTB (cdLa, PLa) (by simp)
    have uLo : ∀ p ∈ [(PLo, qLong), (PLa, qLaw)], p.1 = PLo → p.2 = qLong := List.forall_mem_cons.mpr ⟨fun _ => rfl, List.forall_mem_cons.mpr ⟨fun q => absurd q.symm ne, fun _ h => nomatch h⟩⟩
    have uLa : ∀ p ∈ [(PLo, qLong), (PLa, qLaw)], p.1 = PLa → p.2 = qLaw := List.forall_mem_cons.mpr ⟨fun q => absurd q ne, List.forall_mem_cons.mpr ⟨fun _ => rfl, fun _ h => nomatch h⟩⟩
    exact ok_law lLa cLa N L C D R GG (ok_long lLo cLo N L C D TLo (by simp) uLo) (PySem.W.mg_of X G aLo) kLo bLo TLa (by simp) uLa
end K94

set_option Elab.async false
open PySem PySem.W PyProof.Rows
set_option maxRecDepth 100000 in
set_option maxHeartbeats 0 in
theorem PySem.Challenge.cw_lentandback_k94_sums_notice_each_change_holds : PySem.Challenge.rw_lentandback_k94_sums_notice_each_change.Holds := by
  w_on; o_law; k_head; (case hw => w_witness2)
  k_fill
  refine LamX.walk_ofTs (l := PySem.Challenge.rw_lentandback_k94_sums_notice_each_change) (n := 63) (k := 8) (x := "script") (CX := fun _ => L2.CX0) rfl (by decide) rfl ⟨rfl, by decide, by decide⟩ (fun w h Y => PySem.W.km_in_of Y) ?F fun _ _ _ _ _ z => z
  case F =>
    intro w mg fa h Y KX G hmg
    refine' K94.all_mk (PLo := 146) (PLa := 153) KX G hmg ?aSg ?lSg ?cSg ?kSg ?aSu ?lSu ?cSu ?kSu ?aBl ?lBl ?cBl ?kBl ?aSe ?lSe ?cSe ?kSe ?aTo ?lTo ?cTo ?kTo ?aUn ?lUn ?cUn ?kUn ?aBg ?lBg ?cBg ?kBg ?aBd ?lBd ?cBd ?kBd ?aDr ?lDr ?cDr ?kDr ?aPi ?lPi ?cPi ?kPi ?aCa ?lCa ?cCa ?kCa ?aSm ?lSm ?cSm ?kSm ?aGn ?lGn ?cGn ?kGn ?aTx ?lTx ?cTx ?kTx ?aNr ?lNr ?cNr ?kNr ?aLo ?lLo ?cLo ?kLo ?aLa ?lLa ?cLa ?kLa ?gCL ?bCL ?tCL ?dCL ?sCL ?gCS ?bCS ?tCS ?dCS ?sCS ?xCS ?kCS ?hgCS ?hkCS ?haCS ?hmCS ?gCT ?bCT ?tCT ?dCT ?sCT ?xCT ?kCT ?hgCT ?hkCT ?haCT ?hmCT ?hn ?ht ?zisinstance ?zall ?zstr ?zlen ?zenumerate ?zord ?zint ?zabs ?zrange ?zsum ?zmin ?vPRIME ?vMOST_SEALED ?vMOST_SUM ?vFIGURES ?hLo ?hLa ?nLo ?nLa ?eLo ?eLa ?ne
    (case aSg => k_is)
    (case lSg => k_is)
    (case cSg => k_is)
    (case kSg => k_is)
    (case aSu => k_is)
    (case lSu => k_is)
    (case cSu => k_is)
    (case kSu => k_is)
    (case aBl => k_is)
    (case lBl => k_is)
    (case cBl => k_is)
    (case kBl => k_is)
    (case aSe => k_is)
    (case lSe => k_is)
    (case cSe => k_is)
    (case kSe => k_is)
    (case aTo => k_is)
    (case lTo => k_is)
    (case cTo => k_is)
    (case kTo => k_is)
    (case aUn => k_is)
    (case lUn => k_is)
    (case cUn => k_is)
    (case kUn => k_is)
    (case aBg => k_is)
    (case lBg => k_is)
    (case cBg => k_is)
    (case kBg => k_is)
    (case aBd => k_is)
    (case lBd => k_is)
    (case cBd => k_is)
    (case kBd => k_is)
    (case aDr => k_is)
    (case lDr => k_is)
    (case cDr => k_is)
    (case kDr => k_is)
    (case aPi => k_is)
    (case lPi => k_is)
    (case cPi => k_is)
    (case kPi => k_is)
    (case aCa => k_is)
    (case lCa => k_is)
    (case cCa => k_is)
    (case kCa => k_is)
    (case aSm => k_is)
    (case lSm => k_is)
    (case cSm => k_is)
    (case kSm => k_is)
    (case aGn => k_is)
    (case lGn => k_is)
    (case cGn => k_is)
    (case kGn => k_is)
    (case aTx => k_is)
    (case lTx => k_is)
    (case cTx => k_is)
    (case kTx => k_is)
    (case aNr => k_is)
    (case lNr => k_is)
    (case cNr => k_is)
    (case kNr => k_is)
    (case aLo => k_is)
    (case lLo => k_is)
    (case cLo => k_is)
    (case kLo => k_is)
    (case aLa => k_is)
    (case lLa => k_is)
    (case cLa => k_is)
    (case kLa => k_is)
    (case gCL => k_is)
    (case bCL => k_is)
    (case tCL => k_is)
    (case dCL => k_is)
    (case sCL => first | rfl | k_is)
    (case gCS => k_is)
    (case bCS => k_is)
    (case tCS => k_is)
    (case dCS => k_is)
    (case sCS => k_is)
    (case xCS => k_exc)
    (case kCS => k_is)
    (case hgCS => k_is)
    (case hkCS => k_is)
    (case haCS => k_is)
    (case hmCS => k_is)
    (case gCT => k_is)
    (case bCT => k_is)
    (case tCT => k_is)
    (case dCT => k_is)
    (case sCT => k_is)
    (case xCT => k_exc)
    (case kCT => k_is)
    (case hgCT => k_is)
    (case hkCT => k_is)
    (case haCT => k_is)
    (case hmCT => k_is)
    (case hn => k_is)
    (case ht => k_is)
    (case zisinstance => k_is)
    (case zall => k_is)
    (case zstr => k_is)
    (case zlen => k_is)
    (case zenumerate => k_is)
    (case zord => k_is)
    (case zint => k_is)
    (case zabs => k_is)
    (case zrange => k_is)
    (case zsum => k_is)
    (case zmin => k_is)
    (case vPRIME => k_is)
    (case vMOST_SEALED => k_is)
    (case vMOST_SUM => k_is)
    (case vFIGURES => k_is)
    (case hLo => kernel_rfl)
    (case hLa => kernel_rfl)
    (case nLo => kernel_rfl)
    (case nLa => kernel_rfl)
    (case eLo => exact PySem.W.km_tabs_of Y 146 (by k_mem))
    (case eLa => exact PySem.W.km_tabs_of Y 153 (by k_mem))
    (case ne => decide)
#print axioms PySem.Challenge.cw_lentandback_k94_sums_notice_each_change_holds

