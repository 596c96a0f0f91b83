/- Plain: how keys' bytes stand to one another. -/
import Derived.Test.YtfpdipnaefomiaaDoorPrint6
import Derived.Test.YtfpdipnaefomiaaDoorPrint7
import Derived.Test.YtfpdipnaefomiaaDoorCodecKey
set_option linter.unusedVariables false
namespace Go.Proofs.YtfpdipnaefomiaaDoor.Pure
open Go.RowKit Go.Proofs.YtfpdipnaefomiaaDoor.Print Go.Proofs.YtfpdipnaefomiaaDoorW.PrintWords Go.Proofs.YtfpdipnaefomiaaDoorW.PrintLast Go.Proofs.YtfpdipnaefomiaaDoorW.PrintMore

def cmpI (a b : Int) : Int := if a < b then -1 else if b < a then 1 else 0
/-- How lists stand: as a dictionary's words do. -/
def cmpL : List Int → List Int → Int
  | [], [] => 0
  | [], _ :: _ => -1
  | _ :: _, [] => 1
  | a :: x, b :: y => if a < b then -1 else if b < a then 1 else cmpL x y
theorem cmpL_cc (a b : Int) (x y : List Int) : cmpL (a :: x) (b :: y) = if a < b then -1 else if b < a then 1 else cmpL x y := rfl
theorem cmpL_same : ∀ (w x y : List Int), cmpL (w ++ x) (w ++ y) = cmpL x y
  | [], x, y => rfl
  | a :: w, x, y => by
    show (if a < a then -1 else if a < a then 1 else cmpL (w ++ x) (w ++ y)) = _
    rw [if_neg (by omega), if_neg (by omega), cmpL_same w x y]
theorem cmpL_self (x : List Int) : cmpL x x = 0 := by
  have := cmpL_same x [] []
  simpa [cmpL] using this
theorem cmpL_zero : ∀ (x y : List Int), cmpL x y = 0 → x = y
  | [], [], _ => rfl
  | [], _ :: _, h => by simp [cmpL] at h
  | _ :: _, [], h => by simp [cmpL] at h
  | a :: x, b :: y, h => by
    unfold cmpL at h
    split at h
    · omega
    · split at h
      · omega
      · rw [cmpL_zero x y h, show a = b by omega]
theorem cmpL_head (a b : Int) (x y : List Int) (h : a ≠ b) : cmpL (a :: x) (b :: y) = if a < b then -1 else 1 := by
  unfold cmpL
  by_cases h1 : a < b
  · rw [if_pos h1, if_pos h1]
  · rw [if_neg h1, if_neg h1, if_pos (by omega)]
theorem cmpL_cons (a : Int) (x y : List Int) : cmpL (a :: x) (a :: y) = cmpL x y := cmpL_same [a] x y
theorem str_cons (a : Int) (x : List Int) : (strOfNums (a :: x)).toList = UInt8.ofNat a.toNat :: (strOfNums x).toList := by
  rw [Lib.toList_data, Lib.toList_data]; rfl
theorem less_cmp : ∀ (x y : List Int), BytesL x → BytesL y → Op.bytesLess (strOfNums x).toList (strOfNums y).toList = (cmpL x y == -1)
  | x, [], _, _ => by
    have : (strOfNums []).toList = [] := by rw [Lib.toList_data]; rfl
    rw [this]
    cases x <;> simp [Op.bytesLess, cmpL]
  | [], b :: y, _, _ => by
    have : (strOfNums []).toList = [] := by rw [Lib.toList_data]; rfl
    rw [this, str_cons]; rfl
  | a :: x, b :: y, hx, hy => by
    have ih := less_cmp x y (fun z hz => hx z (by simp [hz])) (fun z hz => hy z (by simp [hz]))
    have ha := hx a (by simp)
    have hb := hy b (by simp)
    rw [str_cons, str_cons]
    unfold Op.bytesLess
    rw [ih]
    have e1 : (UInt8.ofNat a.toNat < UInt8.ofNat b.toNat) ↔ a < b := by
      rw [UInt8.lt_iff_toNat_lt, UInt8.toNat_ofNat', UInt8.toNat_ofNat', Nat.mod_eq_of_lt (by omega), Nat.mod_eq_of_lt (by omega)]; omega
    have e2 : (UInt8.ofNat a.toNat = UInt8.ofNat b.toNat) ↔ a = b := by
      rw [← UInt8.toNat_inj, UInt8.toNat_ofNat', UInt8.toNat_ofNat', Nat.mod_eq_of_lt (by omega), Nat.mod_eq_of_lt (by omega)]; omega
    rw [cmpL_cc]
    by_cases h1 : a < b
    · simp [e1.2 h1, h1]
    · have n1 : ¬ (UInt8.ofNat a.toNat < UInt8.ofNat b.toNat) := fun h => h1 (e1.1 h)
      by_cases h2 : b < a
      · have n2 : ¬ (UInt8.ofNat a.toNat = UInt8.ofNat b.toNat) := fun h => by have := e2.1 h; omega
        simp [n1, n2, h1, h2]
      · have n2 : UInt8.ofNat a.toNat = UInt8.ofNat b.toNat := e2.2 (by omega)
        simp [n2, h1, h2]
theorem cmpL_swap : ∀ (x y : List Int), cmpL y x = - cmpL x y
  | [], [] => rfl
  | [], _ :: _ => rfl
  | _ :: _, [] => rfl
  | a :: x, b :: y => by
    unfold cmpL
    by_cases h1 : a < b
    · rw [if_neg (by omega), if_pos h1, if_pos h1]; rfl
    · by_cases h2 : b < a
      · rw [if_pos h2, if_neg h1, if_pos h2]
      · rw [if_neg h2, if_neg h1, if_neg h1, if_neg h2, cmpL_swap x y]
theorem cmpL_vals : ∀ (x y : List Int), cmpL x y = -1 ∨ cmpL x y = 0 ∨ cmpL x y = 1
  | [], [] => .inr (.inl rfl)
  | [], _ :: _ => .inl rfl
  | _ :: _, [] => .inr (.inr rfl)
  | a :: x, b :: y => by
    unfold cmpL
    split
    · exact .inl rfl
    · split
      · exact .inr (.inr rfl)
      · exact cmpL_vals x y
theorem sign_is (x y : List Int) (hx : BytesL x) (hy : BytesL y) : ladinglaw03_sign.f x y = some (cmpL x y) := by
  unfold ladinglaw03_sign.f
  rw [less_cmp x y hx hy, less_cmp y x hy hx, cmpL_swap x y]
  rcases cmpL_vals x y with h | h | h <;> rw [h] <;> rfl
theorem str_less (s t : ByteArray) : Op.bytesLess s.toList t.toList = (cmpL (bytesOf s) (bytesOf t) == -1) := by
  have := less_cmp (bytesOf s) (bytesOf t) (bytesOf_bytes s) (bytesOf_bytes t)
  rwa [strOf_bytesOf, strOf_bytesOf] at this
/-- How parts stand. -/
def cmpP (p q : S60) : Int := if p.f0 ≠ q.f0 then (if p.f0 < q.f0 then -1 else 1) else if p.f1 < q.f1 ∨ cmpL (bytesOf p.f2) (bytesOf q.f2) = -1 then -1 else if p.f1 > q.f1 ∨ cmpL (bytesOf p.f2) (bytesOf q.f2) = 1 then 1 else 0
def cmpPs : List S60 → List S60 → Int
  | [], [] => 0
  | [], _ :: _ => -1
  | _ :: _, [] => 1
  | p :: a, q :: b => if cmpP p q = 0 then cmpPs a b else cmpP p q
theorem order_step (a b : List S60) (i k : Nat) (h1 : i < a.length) (h2 : i < b.length) (hi : (a.length : Int) < 9223372036854775807) :
    ladinglaw03_order.l0 (k + 3) a b (a.length : Int) (i : Int) = if cmpP a[i] b[i] = 0 then ladinglaw03_order.l0 k a b (a.length : Int) ((i + 1 : Nat) : Int) else some (cmpP a[i] b[i]) := by
  rw [ladinglaw03_order.l0, if_pos (by omega), if_neg (by omega), if_pos (by omega), if_pos (by omega), if_pos (by omega), rd60_at a i h1, rd60_at b i h2]
  by_cases g : a[i].f0 = b[i].f0
  · have cv : cmpP a[i] b[i] = if a[i].f1 < b[i].f1 ∨ cmpL (bytesOf a[i].f2) (bytesOf b[i].f2) = -1 then -1 else if a[i].f1 > b[i].f1 ∨ cmpL (bytesOf a[i].f2) (bytesOf b[i].f2) = 1 then 1 else 0 := by
      unfold cmpP; rw [if_neg (fun h => h g)]
    rw [if_pos g, ladinglaw03_order.j1, if_neg (by decide), if_pos g]
    by_cases g1 : a[i].f1 < b[i].f1
    · have c := cv.trans (if_pos (Or.inl g1))
      rw [if_pos g1, ladinglaw03_order.j2, if_pos rfl, c, if_neg (by decide)]
    · rw [if_neg g1, ladinglaw03_order.j2, str_less, str_less, cmpL_swap (bytesOf a[i].f2) (bytesOf b[i].f2)]
      by_cases g2 : cmpL (bytesOf a[i].f2) (bytesOf b[i].f2) = -1
      · have c := cv.trans (if_pos (Or.inr g2))
        rw [if_pos (by rw [g2]; rfl), c, if_neg (by decide)]
      · have cv := cv.trans (if_neg (fun h : _ ∨ _ => h.elim g1 g2))
        rw [if_neg (fun h => g2 (beq_iff_eq.1 h))]
        by_cases g3 : a[i].f1 > b[i].f1
        · have c := cv.trans (if_pos (Or.inl g3))
          rw [if_pos g3, c, if_neg (by decide)]
        · rw [if_neg g3]
          by_cases g4 : cmpL (bytesOf a[i].f2) (bytesOf b[i].f2) = 1
          · have c := cv.trans (if_pos (Or.inr g4))
            rw [if_pos (by rw [g4]; rfl), c, if_neg (by decide)]
          · have c := cv.trans (if_neg (fun h : _ ∨ _ => h.elim g3 g4))
            rw [if_neg (by intro h; have := beq_iff_eq.1 h; omega), c, if_pos rfl, w64 (by omega) (by omega)]; rfl
  · have cv : cmpP a[i] b[i] = if a[i].f0 < b[i].f0 then -1 else 1 := by unfold cmpP; rw [if_pos g]
    rw [if_neg g, ladinglaw03_order.j1]
    by_cases g1 : a[i].f0 < b[i].f0
    · rw [if_pos (decide_eq_true g1), cv.trans (if_pos g1), if_neg (by decide)]
    · rw [if_neg (fun h => g1 (of_decide_eq_true h)), if_neg g, cv.trans (if_neg g1), if_neg (by decide)]
theorem order_l (a b : List S60) (hi : (a.length : Int) < 9223372036854775807) : ∀ (r : List S60) (i k : Nat), a.drop i = r →
    i ≤ a.length → i ≤ b.length → ladinglaw03_order.l0 (k + 3 * r.length + 1) a b (a.length : Int) (i : Int) = some (cmpPs r (b.drop i)) := by
  intro r
  induction r with
  | nil =>
    intro i k hd ha hb
    have := drop60_nil hd
    rw [ladinglaw03_order.l0, if_neg (by omega)]
    by_cases g : a.length < b.length
    · rw [if_pos (by omega)]
      have : i < b.length := by omega
      rw [List.drop_eq_getElem_cons this]; rfl
    · rw [if_neg (by omega), List.drop_eq_nil_of_le (by omega)]; rfl
  | cons p r ih =>
    intro i k hd ha hb
    obtain ⟨h1, h2, h3, h4⟩ := drop60 hd
    have hp : a[i] = p := by rw [← rd60_at a i h1, h2]
    by_cases g : i < b.length
    · rw [show k + 3 * (p :: r).length + 1 = (k + 3 * r.length + 1) + 3 by rw [List.length_cons]; omega, order_step a b i _ h1 g hi, hp, List.drop_eq_getElem_cons g]
      show _ = some (if cmpP p b[i] = 0 then cmpPs r (b.drop (i + 1)) else cmpP p b[i])
      by_cases c : cmpP p b[i] = 0
      · rw [if_pos c, if_pos c]; exact ih (i + 1) k h3 (by omega) (by omega)
      · rw [if_neg c, if_neg c]
    · rw [ladinglaw03_order.l0, if_pos (by omega), if_pos (by omega), List.drop_eq_nil_of_le (by omega)]; rfl
theorem order_is (k : Nat) (a b : List S60) (ha : a.length ≤ 16) (hk : 49 ≤ k) : ladinglaw03_order.f k a b = some (cmpPs a b) := by
  obtain ⟨d, rfl⟩ : ∃ d, k = d + 3 * a.length + 1 := ⟨k - 3 * a.length - 1, by omega⟩
  unfold ladinglaw03_order.f
  exact order_l a b (by omega) a 0 d rfl (by omega) (by omega)
theorem cmp_esc : ∀ (s t u v : List Int), (∀ x ∈ s, 0 ≤ x) → (∀ x ∈ t, 0 ≤ x) →
    cmpL (esc s ++ ([0, 1] ++ u)) (esc t ++ ([0, 1] ++ v)) = if cmpL s t = 0 then cmpL u v else cmpL s t
  | [], [], u, v, _, _ => by
    show cmpL ([0, 1] ++ u) ([0, 1] ++ v) = _
    rw [cmpL_same]; rfl
  | [], b :: t, u, v, _, ht => by
    have := ht b (by simp)
    rw [esc_cons]
    show cmpL (0 :: 1 :: u) _ = -1
    by_cases h : b = 0
    · subst h; rw [if_pos rfl]
      show cmpL (0 :: 1 :: u) (0 :: 255 :: _) = -1
      rw [cmpL_cons, cmpL_head 1 255 _ _ (by decide)]; rfl
    · rw [if_neg h]
      show cmpL (0 :: 1 :: u) (b :: _) = -1
      rw [cmpL_head 0 b _ _ (by omega), if_pos (by omega)]
  | a :: s, [], u, v, hs, _ => by
    have := hs a (by simp)
    rw [esc_cons]
    show cmpL _ (0 :: 1 :: v) = 1
    by_cases h : a = 0
    · subst h; rw [if_pos rfl]
      show cmpL (0 :: 255 :: _) (0 :: 1 :: v) = 1
      rw [cmpL_cons, cmpL_head 255 1 _ _ (by decide)]; rfl
    · rw [if_neg h]
      show cmpL (a :: _) (0 :: 1 :: v) = 1
      rw [cmpL_head a 0 _ _ (by omega), if_neg (by omega)]
  | a :: s, b :: t, u, v, hs, ht => by
    have h1 := hs a (by simp)
    have h2 := ht b (by simp)
    by_cases h : a = b
    · subst h
      rw [esc_cons, esc_cons, List.append_assoc, List.append_assoc, cmpL_same, cmpL_cons]
      exact cmp_esc s t u v (fun x hx => hs x (by simp [hx])) (fun x hx => ht x (by simp [hx]))
    · rw [cmpL_head a b s t h, esc_cons, esc_cons]
      have e : ∀ c : Int, ∃ w, (if c = 0 then [0, 255] else [c] : List Int) = c :: w := fun c => by
        by_cases g : c = 0
        · subst g; exact ⟨[255], rfl⟩
        · exact ⟨[], by rw [if_neg g]⟩
      obtain ⟨w1, e1⟩ := e a
      obtain ⟨w2, e2⟩ := e b
      rw [e1, e2]
      show cmpL (a :: _) (b :: _) = _
      rw [cmpL_head a b _ _ h]
      by_cases g : a < b
      · rw [if_pos g, if_neg (by decide)]
      · rw [if_neg g, if_neg (by decide)]
theorem cmp_big (n m : Nat) (u v : List Int) (hn : n < 18446744073709551616) (hm : m < 18446744073709551616) : cmpL (big8 n ++ u) (big8 m ++ v) = if n = m then cmpL u v else if n < m then -1 else 1 := by
  by_cases h : n = m
  · subst h; rw [if_pos rfl, cmpL_same]
  · rw [if_neg h]
    unfold big8
    simp only [List.cons_append, List.nil_append]
    have step : ∀ (x y : Nat) (a b : List Int) (r : Int), (x < y → r = -1) → (y < x → r = 1) → (x = y → cmpL a b = r) → cmpL ((x : Int) :: a) ((y : Int) :: b) = r := by
      intro x y a b r h1 h2 h3
      by_cases g : x = y
      · subst g; rw [cmpL_cons]; exact h3 rfl
      · rw [cmpL_head _ _ _ _ (by omega)]
        by_cases g1 : x < y
        · rw [if_pos (by omega), h1 g1]
        · rw [if_neg (by omega), h2 (by omega)]
    have p56 : (2 : Nat) ^ 56 = 72057594037927936 := by decide
    have p48 : (2 : Nat) ^ 48 = 281474976710656 := by decide
    have p40 : (2 : Nat) ^ 40 = 1099511627776 := by decide
    have p32 : (2 : Nat) ^ 32 = 4294967296 := by decide
    have p24 : (2 : Nat) ^ 24 = 16777216 := by decide
    have p16 : (2 : Nat) ^ 16 = 65536 := by decide
    have p8 : (2 : Nat) ^ 8 = 256 := by decide
    rw [p56, p48, p40, p32, p24, p16, p8]
    refine step _ _ _ _ _ (fun g => by rw [if_pos (by omega)]) (fun g => by rw [if_neg (by omega)]) (fun g0 => ?_)
    refine step _ _ _ _ _ (fun g => by rw [if_pos (by omega)]) (fun g => by rw [if_neg (by omega)]) (fun g1 => ?_)
    refine step _ _ _ _ _ (fun g => by rw [if_pos (by omega)]) (fun g => by rw [if_neg (by omega)]) (fun g2 => ?_)
    refine step _ _ _ _ _ (fun g => by rw [if_pos (by omega)]) (fun g => by rw [if_neg (by omega)]) (fun g3 => ?_)
    refine step _ _ _ _ _ (fun g => by rw [if_pos (by omega)]) (fun g => by rw [if_neg (by omega)]) (fun g4 => ?_)
    refine step _ _ _ _ _ (fun g => by rw [if_pos (by omega)]) (fun g => by rw [if_neg (by omega)]) (fun g5 => ?_)
    refine step _ _ _ _ _ (fun g => by rw [if_pos (by omega)]) (fun g => by rw [if_neg (by omega)]) (fun g6 => ?_)
    refine step _ _ _ _ _ (fun g => by rw [if_pos (by omega)]) (fun g => by rw [if_neg (by omega)]) (fun g7 => ?_)
    omega
theorem cmpP_num (p q : S60) (h : p.f0 = q.f0) (hs : cmpL (bytesOf p.f2) (bytesOf q.f2) = 0) : cmpP p q = if p.f1 = q.f1 then 0 else if p.f1 < q.f1 then -1 else 1 := by
  unfold cmpP
  rw [if_neg (fun g => g h), hs]
  by_cases e : p.f1 = q.f1
  · rw [if_pos e, if_neg (by omega), if_neg (by omega)]
  · rw [if_neg e]
    by_cases g : p.f1 < q.f1
    · rw [if_pos (Or.inl g), if_pos g]
    · rw [if_neg (by omega), if_pos (Or.inl (by omega)), if_neg g]
theorem cmpP_str (p q : S60) (h : p.f0 = q.f0) (hn : p.f1 = q.f1) : cmpP p q = cmpL (bytesOf p.f2) (bytesOf q.f2) := by
  unfold cmpP
  rw [if_neg (fun g => g h)]
  rcases cmpL_vals (bytesOf p.f2) (bytesOf q.f2) with e | e | e <;> rw [e]
  · rw [if_pos (Or.inr rfl)]
  · rw [if_neg (by omega), if_neg (by omega)]
  · rw [if_neg (by omega), if_pos (Or.inr rfl)]
theorem cmpP_kind (p q : S60) (h : p.f0 ≠ q.f0) : cmpP p q = if p.f0 < q.f0 then -1 else 1 := by unfold cmpP; rw [if_pos h]
theorem part_num (p : S60) (h : p.f0 = 1) : partBytes p = 1 :: big8 p.f1.toNat := by unfold partBytes; rw [if_pos h]
theorem part_str (p : S60) (h : p.f0 = 2) : partBytes p = 2 :: (esc (bytesOf p.f2) ++ [0, 1]) := by unfold partBytes; rw [if_neg (by omega), h]
theorem cmp_part (p q : S60) (hp : good p) (hq : good q) (rp : 0 ≤ p.f1 ∧ p.f1 < 18446744073709551616) (rq : 0 ≤ q.f1 ∧ q.f1 < 18446744073709551616) (u v : List Int) :
    cmpL (partBytes p ++ u) (partBytes q ++ v) = if cmpP p q = 0 then cmpL u v else cmpP p q := by
  rcases hp with ⟨k1, s1⟩ | ⟨k1, n1⟩
  · rcases hq with ⟨k2, s2⟩ | ⟨k2, n2⟩
    · have c := cmpP_num p q (k1.trans k2.symm) (by rw [s1, s2, cmpL_self])
      rw [part_num p k1, part_num q k2]
      show cmpL (1 :: (big8 p.f1.toNat ++ u)) (1 :: (big8 q.f1.toNat ++ v)) = _
      rw [cmpL_cons, cmp_big _ _ _ _ (by omega) (by omega)]
      by_cases h : p.f1 = q.f1
      · rw [c.trans (if_pos h), if_pos rfl, if_pos (by omega)]
      · have c := c.trans (if_neg h)
        rw [if_neg (by omega)]
        by_cases g : p.f1 < q.f1
        · rw [c.trans (if_pos g), if_pos (by omega), if_neg (by decide)]
        · rw [c.trans (if_neg g), if_neg (by omega), if_neg (by decide)]
    · rw [part_num p k1, part_str q k2, (cmpP_kind p q (by omega)).trans (if_pos (by omega)), if_neg (by decide)]
      show cmpL (1 :: _) (2 :: _) = -1
      rw [cmpL_head _ _ _ _ (by decide)]; rfl
  · rcases hq with ⟨k2, s2⟩ | ⟨k2, n2⟩
    · rw [part_str p k1, part_num q k2, (cmpP_kind p q (by omega)).trans (if_neg (by omega)), if_neg (by decide)]
      show cmpL (2 :: _) (1 :: _) = 1
      rw [cmpL_head _ _ _ _ (by decide)]; rfl
    · rw [part_str p k1, part_str q k2, cmpP_str p q (k1.trans k2.symm) (n1.trans n2.symm)]
      show cmpL (2 :: (esc (bytesOf p.f2) ++ [0, 1] ++ u)) (2 :: (esc (bytesOf q.f2) ++ [0, 1] ++ v)) = _
      rw [cmpL_cons, List.append_assoc, List.append_assoc, cmp_esc _ _ u v (fun x hx => (bytesOf_bytes _ x hx).1) (fun x hx => (bytesOf_bytes _ x hx).1)]
theorem cmp_parts : ∀ (a b : List S60) (u v : List Int), (∀ p ∈ a, good p ∧ 0 ≤ p.f1 ∧ p.f1 < 18446744073709551616) → (∀ p ∈ b, good p ∧ 0 ≤ p.f1 ∧ p.f1 < 18446744073709551616) → (a.length = b.length ∨ u = [] ∧ v = []) →
    cmpL (a.flatMap partBytes ++ u) (b.flatMap partBytes ++ v) = if cmpPs a b = 0 then cmpL u v else cmpPs a b
  | [], [], u, v, _, _, _ => rfl
  | [], q :: b, u, v, _, _, h => by
    rcases h with h | ⟨rfl, rfl⟩
    · simp at h
    · have : ∃ z w, partBytes q = z :: w := by unfold partBytes; split <;> exact ⟨_, _, rfl⟩
      obtain ⟨z, w, e⟩ := this
      rw [List.flatMap_cons, e]; rfl
  | p :: a, [], u, v, _, _, h => by
    rcases h with h | ⟨rfl, rfl⟩
    · simp at h
    · have : ∃ z w, partBytes p = z :: w := by unfold partBytes; split <;> exact ⟨_, _, rfl⟩
      obtain ⟨z, w, e⟩ := this
      rw [List.flatMap_cons, e]; rfl
  | p :: a, q :: b, u, v, ha, hb, h => by
    have h1 := ha p (by simp)
    have h2 := hb q (by simp)
    rw [List.flatMap_cons, List.flatMap_cons, List.append_assoc, List.append_assoc, cmp_part p q h1.1 h2.1 h1.2 h2.2]
    show _ = if (if cmpP p q = 0 then cmpPs a b else cmpP p q) = 0 then cmpL u v else (if cmpP p q = 0 then cmpPs a b else cmpP p q)
    by_cases c : cmpP p q = 0
    · rw [if_pos c, if_pos c]
      exact cmp_parts a b u v (fun x hx => ha x (by simp [hx])) (fun x hx => hb x (by simp [hx])) (h.imp (fun e => by simpa using e) id)
    · rw [if_neg c, if_neg c, if_neg c]
end Go.Proofs.YtfpdipnaefomiaaDoor.Pure
