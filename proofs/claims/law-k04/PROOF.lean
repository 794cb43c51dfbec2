import PyProof.Rows.All
import Wide.All
import OpenK.AllK
import Wide.FinOn
import PySem.Challenge.RW_kerbside_k04_whole_forms_are_linear
import HandS.ForMost
import HandS.ForExc
import HandS.Wide
import HandS.Zip
import HandS.Walk
import HandS.IsInst
import HandS.ExcIs
set_option Elab.async false
set_option linter.all false
set_option maxRecDepth 100000
set_option maxHeartbeats 4000000
/-! # The plain law: ratios are Rat, forms are lists of Rat -/
namespace K4
/-! ### ratios -/
theorem red_num (n d : Int) (hd : 0 < d) : (mkRat n d.toNat).num = n / ((Int.gcd n d : Nat) : Int) := by
  have h0 : d.toNat ≠ 0 := by omega
  have e : mkRat n d.toNat = Rat.normalize n d.toNat h0 := by rw [mkRat, dif_neg h0]
  rw [e, Rat.normalize_eq]
  show n / ((n.natAbs.gcd d.toNat : Nat) : Int) = _
  rw [show d.toNat = d.natAbs by omega]
  rfl
theorem red_den (n d : Int) (hd : 0 < d) : (((mkRat n d.toNat).den : Nat) : Int) = d / ((Int.gcd n d : Nat) : Int) := by
  have h0 : d.toNat ≠ 0 := by omega
  have e : mkRat n d.toNat = Rat.normalize n d.toNat h0 := by rw [mkRat, dif_neg h0]
  rw [e, Rat.normalize_eq]
  show (((d.toNat / n.natAbs.gcd d.toNat : Nat)) : Int) = _
  rw [Int.natCast_ediv, show (d.toNat : Int) = d by omega, show d.toNat = d.natAbs by omega]
  rfl
theorem gcd_pos_of (n d : Int) (hd : 0 < d) : 0 < ((Int.gcd n d : Nat) : Int) := by
  have : 0 < Int.gcd n d := Nat.pos_of_ne_zero fun e => by
    have := (Int.gcd_eq_zero_iff.mp e).2
    omega
  omega
theorem gcd_le_of (n d : Int) (hd : 0 < d) : ((Int.gcd n d : Nat) : Int) ≤ d := Int.gcd_le_right n hd
/-- the sum as the program reckons it -/
theorem plus_eq (a b : Rat) : mkRat (a.num * (b.den : Int) + b.num * (a.den : Int)) ((a.den : Int) * (b.den : Int)).toNat = a + b := by
  have : ((a.den : Int) * (b.den : Int)).toNat = a.den * b.den := by
    rw [← Int.natCast_mul, Int.toNat_natCast]
  rw [this, Rat.add_def']
theorem times_eq (a b : Rat) : mkRat (a.num * b.num) ((a.den : Int) * (b.den : Int)).toNat = a * b := by
  have : ((a.den : Int) * (b.den : Int)).toNat = a.den * b.den := by
    rw [← Int.natCast_mul, Int.toNat_natCast]
  rw [this, Rat.mul_def']
theorem den_pos (a : Rat) : (0 : Int) < (a.den : Int) := by
  have := a.den_pos
  omega
/-! ### sizes -/
def Bd (k : Nat) (q : Rat) : Prop := q.num.natAbs < 2 ^ k ∧ q.den < 2 ^ k
theorem Bd.mono {k l : Nat} {q : Rat} (h : Bd k q) (hl : k ≤ l) : Bd l q :=
  ⟨Nat.lt_of_lt_of_le h.1 (Nat.pow_le_pow_right (by decide) hl), Nat.lt_of_lt_of_le h.2 (Nat.pow_le_pow_right (by decide) hl)⟩
theorem Bd.den_abs {k : Nat} {q : Rat} (h : Bd k q) : ((q.den : Nat) : Int).natAbs < 2 ^ k := by
  rw [Int.natAbs_natCast]; exact h.2
theorem natAbs_div_le (n : Int) (g : Nat) : (n / (g : Int)).natAbs ≤ n.natAbs := by
  have := Int.natAbs_ediv_le_natAbs n (g : Int)
  exact this
theorem bd_mk {n d : Int} {k : Nat} (hd : 0 < d) (h1 : n.natAbs < 2 ^ k) (h2 : d.natAbs < 2 ^ k) : Bd k (mkRat n d.toNat) := by
  refine ⟨?_, ?_⟩
  · rw [red_num n d hd]
    exact Nat.lt_of_le_of_lt (natAbs_div_le n _) h1
  · have e := red_den n d hd
    have l := natAbs_div_le d (Int.gcd n d)
    rw [← e, Int.natAbs_natCast] at l
    exact Nat.lt_of_le_of_lt l h2
theorem abs_mul_lt {i j : Int} {a b : Nat} (ha : i.natAbs < 2 ^ a) (hb : j.natAbs < 2 ^ b) : (i * j).natAbs < 2 ^ (a + b) := by
  rw [Int.natAbs_mul, Nat.pow_add]
  exact Nat.mul_lt_mul'' ha hb
theorem abs_add_lt {i j : Int} {a : Nat} (ha : i.natAbs < 2 ^ a) (hb : j.natAbs < 2 ^ a) : (i + j).natAbs < 2 ^ (a + 1) := by
  have := Int.natAbs_add_le i j
  rw [Nat.pow_succ]
  omega
theorem plus_num_lt {a b : Rat} {k l : Nat} (ha : Bd k a) (hb : Bd l b) : (a.num * (b.den : Int) + b.num * (a.den : Int)).natAbs < 2 ^ (k + l + 1) := by
  refine abs_add_lt (abs_mul_lt ha.1 hb.den_abs) ?_
  rw [Nat.add_comm k l]
  exact abs_mul_lt hb.1 ha.den_abs
theorem den_mul_lt {a b : Rat} {k l : Nat} (ha : Bd k a) (hb : Bd l b) : ((a.den : Int) * (b.den : Int)).natAbs < 2 ^ (k + l) := abs_mul_lt ha.den_abs hb.den_abs
theorem lt_pow_succ {n a b : Nat} (h : n < 2 ^ a) (hab : a ≤ b) : n < 2 ^ b := Nat.lt_of_lt_of_le h (Nat.pow_le_pow_right (by decide) hab)
theorem Bd.add {a b : Rat} {k l : Nat} (ha : Bd k a) (hb : Bd l b) : Bd (k + l + 1) (a + b) := by
  rw [← plus_eq]
  exact bd_mk (Int.mul_pos (den_pos a) (den_pos b)) (plus_num_lt ha hb) (lt_pow_succ (den_mul_lt ha hb) (Nat.le_succ _))
theorem Bd.mul {a b : Rat} {k l : Nat} (ha : Bd k a) (hb : Bd l b) : Bd (k + l) (a * b) := by
  rw [← times_eq]
  exact bd_mk (Int.mul_pos (den_pos a) (den_pos b)) (abs_mul_lt ha.1 hb.1) (den_mul_lt ha hb)
theorem Bd.neg {a : Rat} {k : Nat} (ha : Bd k a) : Bd k (-a) := by
  refine ⟨?_, ?_⟩
  · rw [Rat.neg_num, Int.natAbs_neg]; exact ha.1
  · rw [Rat.neg_den]; exact ha.2
theorem bd_zero : Bd 1 (0 : Rat) := ⟨by decide, by decide⟩
theorem bd_one : Bd 1 (1 : Rat) := ⟨by decide, by decide⟩
/-! ### rows -/
def dot : List Rat → List Rat → Rat
  | a :: as, b :: bs => a * b + dot as bs
  | _, _ => 0
def addR (as bs : List Rat) : List Rat := List.zipWith (· + ·) as bs
def sclR (a : Rat) (bs : List Rat) : List Rat := bs.map (a * ·)
theorem addR_length (as bs : List Rat) (h : as.length = bs.length) : (addR as bs).length = as.length := by
  unfold addR; rw [List.length_zipWith]; omega
theorem sclR_length (a : Rat) (bs : List Rat) : (sclR a bs).length = bs.length := by
  unfold sclR; rw [List.length_map]
theorem addR_get {as bs : List Rat} {i : Nat} {a b : Rat} (ha : as[i]? = some a) (hb : bs[i]? = some b) : (addR as bs)[i]? = some (a + b) := by
  unfold addR; rw [List.getElem?_zipWith, ha, hb]
theorem sclR_get {a : Rat} {bs : List Rat} {i : Nat} {b : Rat} (hb : bs[i]? = some b) : (sclR a bs)[i]? = some (a * b) := by
  unfold sclR; rw [List.getElem?_map, hb]; rfl
theorem dot_add : ∀ (as bs xs : List Rat), as.length = xs.length → bs.length = xs.length → dot (addR as bs) xs = dot as xs + dot bs xs
  | [], [], [], _, _ => by show (0 : Rat) = 0 + 0; grind
  | a :: as, b :: bs, x :: xs, h1, h2 => by
    have ih := dot_add as bs xs (by simpa using h1) (by simpa using h2)
    show (a + b) * x + dot (addR as bs) xs = (a * x + dot as xs) + (b * x + dot bs xs)
    rw [ih]; grind
  | [], _ :: _, [], _, h => by cases h
  | _ :: _, _, [], h, _ => by cases h
  | [], _, _ :: _, h, _ => by cases h
  | _ :: _, [], _ :: _, _, h => by cases h
theorem dot_scl (a : Rat) : ∀ (fs ys : List Rat), dot (sclR a fs) ys = a * dot fs ys
  | [], _ => by show (0 : Rat) = a * 0; grind
  | _ :: _, [] => by show (0 : Rat) = a * 0; grind
  | f :: fs, y :: ys => by
    have ih := dot_scl a fs ys
    show (a * f) * y + dot (sclR a fs) ys = a * (f * y + dot fs ys)
    rw [ih]; grind
theorem dot_mix (a b : Rat) : ∀ (fs xs ys : List Rat), xs.length = fs.length → ys.length = fs.length → dot fs (addR (sclR a xs) (sclR b ys)) = a * dot fs xs + b * dot fs ys
  | [], _, _, _, _ => by show (0 : Rat) = a * 0 + b * 0; grind
  | f :: fs, x :: xs, y :: ys, h1, h2 => by
    have ih := dot_mix a b fs xs ys (by simpa using h1) (by simpa using h2)
    show f * (a * x + b * y) + dot fs (addR (sclR a xs) (sclR b ys)) = a * (f * x + dot fs xs) + b * (f * y + dot fs ys)
    rw [ih]; grind
  | _ :: _, [], _, h, _ => by cases h
  | _ :: _, _ :: _, [], _, h => by cases h
theorem dot_more : ∀ {as bs : List Rat} {i : Nat} {a b : Rat}, as[i]? = some a → bs[i]? = some b → dot (as.take (i + 1)) (bs.take (i + 1)) = dot (as.take i) (bs.take i) + a * b
  | [], _, _, _, _, h, _ => by simp at h
  | _ :: _, [], _, _, _, _, h => by simp at h
  | x :: as, y :: bs, 0, a, b, h1, h2 => by
    have e1 : x = a := Option.some.inj h1
    have e2 : y = b := Option.some.inj h2
    subst e1 e2
    show x * y + dot (as.take 0) (bs.take 0) = 0 + x * y
    rw [List.take_zero, List.take_zero]
    show x * y + 0 = 0 + x * y
    grind
  | x :: as, y :: bs, i + 1, a, b, h1, h2 => by
    have ih := dot_more (as := as) (bs := bs) (i := i) (a := a) (b := b) h1 h2
    show x * y + dot (as.take (i + 1)) (bs.take (i + 1)) = (x * y + dot (as.take i) (bs.take i)) + a * b
    rw [ih]; grind
theorem dot_all (as bs : List Rat) (n : Nat) (ha : as.length ≤ n) (hb : bs.length ≤ n) : dot (as.take n) (bs.take n) = dot as bs := by
  rw [List.take_of_length_le ha, List.take_of_length_le hb]
/-- all of a row are small -/
def BdR (k : Nat) (qs : List Rat) : Prop := ∀ (i : Nat) (q : Rat), qs[i]? = some q → Bd k q
theorem BdR.mono {k l : Nat} {qs : List Rat} (h : BdR k qs) (hl : k ≤ l) : BdR l qs := fun i q e => (h i q e).mono hl
theorem BdR.add {as bs : List Rat} {k l : Nat} (ha : BdR k as) (hb : BdR l bs) : BdR (k + l + 1) (addR as bs) := fun i q e => by
  unfold addR at e
  rw [List.getElem?_zipWith] at e
  split at e
  · rename_i x y e1 e2
    cases e
    exact (ha i x e1).add (hb i y e2)
  · cases e
theorem BdR.scl {a : Rat} {bs : List Rat} {k l : Nat} (ha : Bd k a) (hb : BdR l bs) : BdR (k + l) (sclR a bs) := fun i q e => by
  unfold sclR at e
  rw [List.getElem?_map] at e
  cases h : bs[i]? with
  | none => rw [h] at e; cases e
  | some b =>
    rw [h] at e
    cases e
    exact ha.mul (hb i b h)
theorem bd_dot_take {as bs : List Rat} {k l c : Nat} {z : Rat} (hz : Bd c z) (ha : BdR k as) (hb : BdR l bs) : ∀ n : Nat, Bd (c + n * (k + l + 1)) (z + dot (as.take n) (bs.take n))
  | 0 => by
    rw [List.take_zero, List.take_zero]
    show Bd _ (z + 0)
    rw [show z + 0 = z by grind]
    exact hz.mono (Nat.le_add_right _ _)
  | n + 1 => by
    have ih := bd_dot_take hz ha hb n
    cases e1 : as[n]? with
    | none =>
      have h1 : as.length ≤ n := List.getElem?_eq_none_iff.mp e1
      have d : dot (as.take (n + 1)) (bs.take (n + 1)) = dot (as.take n) (bs.take n) := by
        rw [List.take_of_length_le h1, List.take_of_length_le (Nat.le_succ_of_le h1)]
        exact dot_short as bs n h1
      rw [d]
      refine ih.mono ?_
      rw [Nat.add_mul]
      omega
    | some a =>
      cases e2 : bs[n]? with
      | none =>
        have h1 : bs.length ≤ n := List.getElem?_eq_none_iff.mp e2
        have d : dot (as.take (n + 1)) (bs.take (n + 1)) = dot (as.take n) (bs.take n) := by
          rw [List.take_of_length_le h1, List.take_of_length_le (Nat.le_succ_of_le h1)]
          exact dot_short' as bs n h1
        rw [d]
        refine ih.mono ?_
        rw [Nat.add_mul]
        omega
      | some b =>
        rw [dot_more e1 e2, show z + (dot (as.take n) (bs.take n) + a * b) = (z + dot (as.take n) (bs.take n)) + a * b by grind]
        refine (ih.add ((ha n a e1).mul (hb n b e2))).mono ?_
        rw [Nat.add_mul]
        omega
where
  dot_short : ∀ (as bs : List Rat) (n : Nat), as.length ≤ n → dot as (bs.take (n + 1)) = dot as (bs.take n)
    | [], _, _, _ => rfl
    | a :: as, [], n, _ => by rw [List.take_nil, List.take_nil]
    | a :: as, b :: bs, 0, h => by simp at h
    | a :: as, b :: bs, n + 1, h => by
      show a * b + dot as (bs.take (n + 1)) = a * b + dot as (bs.take n)
      rw [dot_short as bs n (by simpa using h)]
  dot_short' : ∀ (as bs : List Rat) (n : Nat), bs.length ≤ n → dot (as.take (n + 1)) bs = dot (as.take n) bs
    | [], bs, n, _ => by rw [List.take_nil, List.take_nil]
    | a :: as, [], n, _ => by
      cases n <;> rfl
    | a :: as, b :: bs, 0, h => by simp at h
    | a :: as, b :: bs, n + 1, h => by
      show a * b + dot (as.take (n + 1)) bs = a * b + dot (as.take n) bs
      rw [dot_short' as bs n (by simpa using h)]
/-! ### the law's own equations -/
theorem law_sum (f g xs : List Rat) (c d : Rat) (h1 : f.length = xs.length) (h2 : g.length = xs.length) : dot (addR f g) xs + (c + d) = (dot f xs + c) + (dot g xs + d) := by
  rw [dot_add f g xs h1 h2]; grind
theorem law_scl (a : Rat) (f ys : List Rat) (c : Rat) : dot (sclR a f) ys + a * c = a * (dot f ys + c) := by
  rw [dot_scl]; grind
theorem law_mix (a : Rat) (f xs ys : List Rat) (c : Rat) (h1 : xs.length = f.length) (h2 : ys.length = f.length) :
    dot f (addR (sclR a xs) (sclR (1 + -a) ys)) + c = a * (dot f xs + c) + (1 + -a) * (dot f ys + c) := by
  rw [dot_mix a (1 + -a) f xs ys h1 h2]; grind
/-! ### Euclid -/
theorem gcd_step (a b : Nat) : Nat.gcd b (a % b) = Nat.gcd a b := by
  rw [Nat.gcd_comm a b, Nat.gcd_rec b a, Nat.gcd_comm]
theorem fmod_nat (a b : Nat) : ((a : Int)).fmod (b : Int) = ((a % b : Nat) : Int) := by
  rw [Int.fmod_eq_emod_of_nonneg _ (by omega)]
  exact (Int.natCast_emod a b).symm
/-- the bounded loop: behind i turns -/
def Eu (a0 b0 : Nat) (i a b : Nat) : Prop := Nat.gcd a b = Nat.gcd a0 b0 ∧ ((i = 0 ∧ a = a0 ∧ b = b0) ∨ (b < a ∧ a * b * 2 ^ (i - 1) ≤ a0 * b0))
theorem Eu.start (a b : Nat) : Eu a b 0 a b := ⟨rfl, .inl ⟨rfl, rfl, rfl⟩⟩
theorem mod_half (a b : Nat) (h : b < a) (hb : 0 < b) : (b * (a % b)) * 2 ≤ a * b := by
  have h1 := Nat.div_add_mod a b
  have h2 := Nat.mod_lt a hb
  have h3 : 1 ≤ a / b := Nat.div_pos (Nat.le_of_lt h) hb
  have h4 : b * 1 ≤ b * (a / b) := Nat.mul_le_mul_left b h3
  have h5 : (a % b) * 2 ≤ a := by omega
  calc (b * (a % b)) * 2 = b * ((a % b) * 2) := Nat.mul_assoc _ _ _
    _ ≤ b * a := Nat.mul_le_mul_left b h5
    _ = a * b := Nat.mul_comm _ _
theorem Eu.next {a0 b0 i a b : Nat} (h : Eu a0 b0 i a b) (hb : b ≠ 0) : Eu a0 b0 (i + 1) b (a % b) := by
  obtain ⟨g, h⟩ := h
  have hb' : 0 < b := Nat.pos_of_ne_zero hb
  refine ⟨(gcd_step a b).trans g, .inr ⟨Nat.mod_lt a hb', ?_⟩⟩
  rw [Nat.add_sub_cancel]
  rcases h with ⟨rfl, rfl, rfl⟩ | ⟨hlt, hp⟩
  · rw [Nat.pow_zero, Nat.mul_one, Nat.mul_comm a b]
    exact Nat.mul_le_mul_left b (Nat.mod_le a b)
  · cases i with
    | zero =>
      rw [Nat.pow_zero, Nat.mul_one]
      have := mod_half a b hlt hb'
      simp at hp
      omega
    | succ i =>
      have := mod_half a b hlt hb'
      rw [Nat.add_sub_cancel] at hp
      calc b * (a % b) * 2 ^ (i + 1) = (b * (a % b) * 2) * 2 ^ i := by rw [Nat.pow_succ, Nat.mul_comm (2 ^ i) 2, Nat.mul_assoc (b * (a % b)) 2 (2 ^ i)]
        _ ≤ (a * b) * 2 ^ i := Nat.mul_le_mul_right _ this
        _ ≤ a0 * b0 := hp
theorem Eu.done {a0 b0 i a b : Nat} (h : Eu a0 b0 i a b) (hb : b = 0) : a = Nat.gcd a0 b0 := by
  obtain ⟨g, _⟩ := h
  rw [hb, Nat.gcd_zero_right] at g
  exact g
/-- the turns are enough -/
theorem Eu.over {a0 b0 n a b k l : Nat} (h : Eu a0 b0 (n + 1) a b) (h1 : a0 < 2 ^ k) (h2 : b0 < 2 ^ l) (hn : k + l ≤ n) : b = 0 := by
  obtain ⟨_, h⟩ := h
  rcases h with ⟨e, _⟩ | ⟨hlt, hp⟩
  · cases e
  · refine Classical.byContradiction fun hb => ?_
    have hb' : 0 < b := Nat.pos_of_ne_zero hb
    rw [Nat.add_sub_cancel] at hp
    have q : 1 ≤ a * b := Nat.mul_pos (by omega) hb'
    have q2 : 2 ^ n ≤ a * b * 2 ^ n := Nat.le_mul_of_pos_left _ q
    have q3 : a0 * b0 < 2 ^ (k + l) := by rw [Nat.pow_add]; exact Nat.mul_lt_mul'' h1 h2
    have q4 : 2 ^ (k + l) ≤ 2 ^ n := Nat.pow_le_pow_right (by decide) hn
    omega
end K4

namespace K4
open PySem PySem.Spec PyProof.Rows L2
/-! ### the text by places -/
def topS (i : Nat) : Stmt := PySem.Challenge.pw_kerbside_k04_whole_forms_are_linear.main.body.getD i (.Pass ⟨0, 0, 0, 0⟩)
abbrev sCommon : Stmt := topS 5
abbrev sRatio : Stmt := topS 6
abbrev sOfInt : Stmt := topS 7
abbrev sPlus : Stmt := topS 8
abbrev sNeg : Stmt := topS 9
abbrev sMinus : Stmt := topS 10
abbrev sTimes : Stmt := topS 11
abbrev sCheck : Stmt := topS 13
abbrev sAddRows : Stmt := topS 14
abbrev sScaleRow : Stmt := topS 15
abbrev sProduct : Stmt := topS 16
abbrev sValue : Stmt := topS 17
abbrev sAddForms : Stmt := topS 18
abbrev sScaleForm : Stmt := topS 19
/-! ### heaps -/
theorem same_upd {H : Hp} {p : Addr} {o : HO} (h : H p = none) : Same H (upd H p o) := fun b x e => by
  rw [upd_ne (ne_of_none e h)]
  exact e
/-- the tuples stand -/
def Tups (H H' : Hp) : Prop := ∀ b xs, H b = some (.tup xs) → H' b = some (.tup xs)
theorem Tups.of {H H' : Hp} (h : Same H H') : Tups H H' := fun b _ e => h b _ e
theorem Tups.refl (H : Hp) : Tups H H := fun _ _ e => e
theorem Tups.trans {H H1 H2 : Hp} (a : Tups H H1) (b : Tups H1 H2) : Tups H H2 := fun c xs e => b c xs (a c xs e)
theorem Tups.lst {H : Hp} {D : Addr} {xs ys : List V} (h : H D = some (.lst xs)) : Tups H (upd H D (.lst ys)) := fun b zs e => by
  rw [upd_ne (ne_of e h (by intro z; cases z))]
  exact e
theorem Tups.new {H : Hp} {p : Addr} {o : HO} (h : H p = none) : Tups H (upd H p o) := Tups.of (same_upd h)
/-- what a ratio is in the heap -/
def rt (q : Rat) : HO := .tup [.int q.num, .int (q.den : Int)]
def IsR (H : Hp) (q : Rat) (v : V) : Prop := ∃ p, v = .ref p ∧ H p = some (rt q)
theorem IsR.tups {H H' : Hp} {q : Rat} {v : V} (h : IsR H q v) (t : Tups H H') : IsR H' q v := by
  obtain ⟨p, e, h⟩ := h
  exact ⟨p, e, t _ _ h⟩
theorem IsR.same {H H' : Hp} {q : Rat} {v : V} (h : IsR H q v) (t : Same H H') : IsR H' q v := h.tups (Tups.of t)
/-- the items of a row -/
def Items (H : Hp) (qs : List Rat) (xs : List V) : Prop := xs.length = qs.length ∧ ∀ (i : Nat) (q : Rat) (v : V), qs[i]? = some q → xs[i]? = some v → IsR H q v
def IsRow (H : Hp) (qs : List Rat) (v : V) : Prop := ∃ p xs, v = .ref p ∧ H p = some (.tup xs) ∧ Items H qs xs
def IsForm (H : Hp) (qs : List Rat) (c : Rat) (v : V) : Prop := ∃ p r k, v = .ref p ∧ H p = some (.tup [r, k]) ∧ IsRow H qs r ∧ IsR H c k
theorem Items.tups {H H' : Hp} {qs : List Rat} {xs : List V} (h : Items H qs xs) (t : Tups H H') : Items H' qs xs := ⟨h.1, fun i q v e1 e2 => (h.2 i q v e1 e2).tups t⟩
theorem IsRow.tups {H H' : Hp} {qs : List Rat} {v : V} (h : IsRow H qs v) (t : Tups H H') : IsRow H' qs v := by
  obtain ⟨p, xs, e, h, i⟩ := h
  exact ⟨p, xs, e, t _ _ h, i.tups t⟩
theorem IsRow.same {H H' : Hp} {qs : List Rat} {v : V} (h : IsRow H qs v) (t : Same H H') : IsRow H' qs v := h.tups (Tups.of t)
theorem IsForm.tups {H H' : Hp} {qs : List Rat} {c : Rat} {v : V} (h : IsForm H qs c v) (t : Tups H H') : IsForm H' qs c v := by
  obtain ⟨p, r, k, e, h, i, j⟩ := h
  exact ⟨p, r, k, e, t _ _ h, i.tups t, j.tups t⟩
theorem IsForm.same {H H' : Hp} {qs : List Rat} {c : Rat} {v : V} (h : IsForm H qs c v) (t : Same H H') : IsForm H' qs c v := h.tups (Tups.of t)
theorem Items.snoc {H : Hp} {qs : List Rat} {xs : List V} {q : Rat} {v : V} (h : Items H qs xs) (r : IsR H q v) : Items H (qs ++ [q]) (xs ++ [v]) := by
  refine ⟨by rw [List.length_append, List.length_append, h.1]; rfl, fun i q' v' e1 e2 => ?_⟩
  by_cases hi : i < qs.length
  · rw [List.getElem?_append_left hi] at e1
    rw [List.getElem?_append_left (by rw [h.1]; exact hi)] at e2
    exact h.2 i q' v' e1 e2
  · rw [List.getElem?_append_right (by omega)] at e1
    rw [List.getElem?_append_right (by rw [h.1]; omega), h.1] at e2
    cases hj : i - qs.length with
    | zero =>
      rw [hj] at e1 e2
      cases e1
      cases e2
      exact r
    | succ j =>
      rw [hj] at e1
      cases e1
theorem items_nil {H : Hp} : Items H [] [] := ⟨rfl, fun i q v e => by simp at e⟩
theorem Items.get {H : Hp} {qs : List Rat} {xs : List V} {i : Nat} (h : Items H qs xs) (hi : i < qs.length) : ∃ q v, qs[i]? = some q ∧ xs[i]? = some v ∧ IsR H q v := by
  have hx : i < xs.length := by rw [h.1]; exact hi
  exact ⟨qs[i], xs[i], List.getElem?_eq_getElem hi, List.getElem?_eq_getElem hx, h.2 i _ _ (List.getElem?_eq_getElem hi) (List.getElem?_eq_getElem hx)⟩
/-! ### tests that are known -/
theorem ifF {c : Prop} [Decidable c] {A B : Prop} (hc : ¬ c) (h : B) : if decide c = true then A else B := by
  rw [decide_eq_false hc]
  exact iteF h
theorem ifT {c : Prop} [Decidable c] {A B : Prop} (hc : c) (h : A) : if decide c = true then A else B := by
  rw [decide_eq_true hc]
  exact iteT h
theorem ifNF {c : Prop} [Decidable c] {A B : Prop} (hc : ¬ c) (h : A) : if (!decide c) = true then A else B := by
  rw [decide_eq_false hc]
  exact iteT h
theorem ifNT {c : Prop} [Decidable c] {A B : Prop} (hc : c) (h : B) : if (!decide c) = true then A else B := by
  rw [decide_eq_true hc]
  exact iteF h
section
variable {P : Program} {w : World} {K : PySem.W.Frag} {mg : Str → Option Value} {base : Heap}
/-! ### common -/
theorem scCommon : FnScope ["first", "second"] ["first", "second"] (defScope sCommon) := ⟨rfl, rfl, rfl, by decide +kernel, rfl, by decide +kernel, by decide +kernel⟩
def spCommon : Sp := fun vs H Q _ => ∃ a b : Int, vs = [.int a, .int b] ∧ Q (.int ((Int.gcd a b : Nat) : Int)) H
theorem abs_nat (a : Int) : (if a < 0 then -a else a) = ((a.natAbs : Nat) : Int) := by split <;> omega
theorem ok_common {f : Addr} {fd : FuncData} {k : Nat} (F : Fun K "common" "common" sCommon f fd) (ma : mg "abs" = none) : FnOk P w K mg base CX0 (k + 1) f fd ["first", "second"] spCommon := by
  refine F.ok scCommon (fun vs H Q E h => ?_) (fun cdv A outer s H vs Q E hr h => ?_)
  · obtain ⟨a, b, rfl, _⟩ := h
    rfl
  · obtain ⟨a, b, rfl, q⟩ := h
    refine ⟨_, pss_cons (ps_set (i := 0) scCommon.nd rfl (.inl rfl) (pe_callB call_abs (by rfl) ma (by decide +kernel) (pa_cons (pv 0) pa_nil)))
      (pss_cons (ps_set (i := 1) scCommon.nd rfl (.inl rfl) (pe_callB call_abs (by rfl) ma (by decide +kernel) (pa_cons (pv 1) pa_nil)))
      (pss_cons (ps_while PassesOwn.never (pt_cmp (pc_neI (pv 1) pe_int))
        (pss_one (ps_par (i := 0) (j := 1) rfl scCommon.nd rfl rfl (by decide) rfl rfl (pa_cons (pv 1) (pa_cons (pe_op op_modN (pv 0) (pv 1)) pa_nil)) (by rfl))))
      (pss_one (ps_ret (pv 0))))), ?_⟩
    refine ⟨_, rfl, a, rfl, _, rfl, b, rfl, ?_⟩
    rw [abs_nat, abs_nat]
    refine while_by (fun σ H' => ∃ x y : Nat, σ = [some (.int (x : Int)), some (.int (y : Int))] ∧ Nat.gcd x y = Int.gcd a b ∧ H' = H)
      (fun σ _ => match σ with | [_, some (.int y)] => y.toNat | _ => 0) ⟨a.natAbs, b.natAbs, rfl, rfl, rfl⟩ ?_ ?_
    · rintro σ H' ⟨x, y, rfl, g, rfl⟩
      refine ⟨_, rfl, (y : Int), 0, rfl, rfl, _, rfl, ?_⟩
      by_cases hy : (y : Int) = 0
      · refine ifNT hy ?_
        refine ⟨_, rfl, ?_⟩
        have hy0 : y = 0 := by omega
        rw [hy0, Nat.gcd_zero_right] at g
        rw [g]
        exact q
      · refine ifNF hy ?_
        refine ⟨_, rfl, _, rfl, _, rfl, _, _, rfl, rfl, hy, _, _, rfl, ⟨y, x % y, ?_, ?_, rfl⟩, ?_⟩
        · show [some (V.int (y : Int)), some (V.int ((x : Int).fmod (y : Int)))] = _
          rw [fmod_nat]
        · rw [gcd_step]; exact g
        · show ((x : Int).fmod (y : Int)).toNat < ((y : Int)).toNat
          rw [fmod_nat, Int.toNat_natCast, Int.toNat_natCast]
          exact Nat.mod_lt x (by omega)
    · rintro σ H' Q1 Q2 hq ⟨v, e, i, j, e1, e2, c, e3, z⟩
      exact ⟨v, e, i, j, e1, e2, c, e3, hq _ _ z⟩
/-! ### a def that may be called -/
structure Can (P : Program) (w : World) (K : PySem.W.Frag) (mg : Str → Option Value) (base : Heap) (CX : CXT) (k : Nat) (x : Str) (ps : List Str) (sp : Sp) (f : Addr) (fd : FuncData) : Prop where
  ok : FnOk P w K mg base CX k f fd ps sp
  g : mg x = some (.ref f)
  kp : PySem.W.keepIn K (.ref f) = true
  b : Binds K fd ps []
theorem pe_can {X : Cx} {k j : Nat} {x : Str} {ps : List Str} {sp : Sp} {f : Addr} {fd : FuncData} {e : Expr} {es : List Expr} {t : TA} {p pos : Pos} (C : Can X.prog X.w X.K X.mg X.base CX0 k x ps sp f fd) (hr : Room j X.A) (hkj : k ≤ j) (hg : Gl X x) (ha : PA X (e :: es) t)
    (hdb : (x == ("__debug__" : Str)) = false := by decide) (he : starEach (e :: es) X.env = (false, eval e X.env) :: starEach es X.env := by rfl) (hpl : (backTo pos (starEach es X.env)).any (·.1) = false := by rfl) :
    PE X (.Call (.Name x p) (e :: es) [] pos) (tCall sp [] E0 t) := pe_call C.ok (hr.mono hkj) hg C.g C.kp C.b .nil pass0 ha hdb he hpl
/-- one that may raise, from a body that hands it on -/
theorem pe_canX {X : Cx} {k j : Nat} {x : Str} {ps : List Str} {sp : Sp} {f : Addr} {fd : FuncData} {e : Expr} {es : List Expr} {t : TA} {p pos : Pos} {E : XK} (C : Can X.prog X.w X.K X.mg X.base (L2.CX X.prog X.w) k x ps sp f fd) (hr : Room j X.A) (hkj : k ≤ j) (hg : Gl X x)
    (tk : Takes X (fun cls d _ H => E cls d H)) (ha : PA X (e :: es) t)
    (hdb : (x == ("__debug__" : Str)) = false := by decide) (he : starEach (e :: es) X.env = (false, eval e X.env) :: starEach es X.env := by rfl) (hpl : (backTo pos (starEach es X.env)).any (·.1) = false := by rfl) :
    PE X (.Call (.Name x p) (e :: es) [] pos) (tCall sp [] E t) := pe_call C.ok (hr.mono hkj) hg C.g C.kp C.b .nil (passes_call tk fun _ _ _ _ h => h) ha hdb he hpl
/-! ### ratio -/
theorem scRatio : FnScope ["n", "d", "divisor"] ["n", "d"] (defScope sRatio) := ⟨rfl, rfl, rfl, by decide +kernel, rfl, by decide +kernel, by decide +kernel⟩
def spRatio : Sp := fun vs H Q _ => ∃ n d : Int, vs = [.int n, .int d] ∧ 0 < d ∧ d.natAbs < 2 ^ 8000 ∧ ∀ H' v, Same H H' → IsR H' (mkRat n d.toNat) v → Q v H'
theorem cdiv_gcd {n d a : Int} (hd : 0 < d) (h : d.natAbs < 2 ^ 8000) : CDivW a ((Int.gcd n d : Nat) : Int) := by
  have h0 := gcd_pos_of n d hd
  have h1 := gcd_le_of n d hd
  exact wide_div (b := 8000) h0 (wide_le (by omega) h1 h) (by decide) (by decide)
theorem ok_ratio {f fC : Addr} {fd fdC : FuncData} (F : Fun K "ratio" "ratio" sRatio f fd) (C : Can P w K mg base CX0 1 "common" ["first", "second"] spCommon fC fdC) : FnOk P w K mg base CX0 2 f fd ["n", "d"] spRatio := by
  refine F.ok scRatio (fun vs H Q E h => ?_) (fun cdv A outer s H vs Q E hr h => ?_)
  · obtain ⟨n, d, rfl, _⟩ := h
    rfl
  · obtain ⟨n, d, rfl, hd, hs, q⟩ := h
    refine ⟨_, pss_cons (ps_if (pt_cmp (pc_eqI (pv 1) pe_int)) pss_never pss_nil)
      (pss_cons (ps_if (pt_cmp (pc_lt (pv 1) pe_int)) pss_never pss_nil)
      (pss_cons (ps_set (i := 2) scRatio.nd rfl (.inl rfl) (pe_can C hr (by decide) (by rfl) (pa_cons (pv 0) (pa_cons (pv 1) pa_nil))))
      (pss_one (ps_ret (pe_tup (pa_cons (pe_op op_fdivW (pv 0) (pv 2)) (pa_cons (pe_op op_fdivW (pv 1) (pv 2)) pa_nil))))))), ?_⟩
    refine ⟨_, rfl, d, 0, rfl, rfl, _, rfl, ifF (by omega) ?_⟩
    refine ⟨_, rfl, d, 0, rfl, rfl, _, rfl, ifF (by omega) ?_⟩
    refine ⟨_, rfl, _, rfl, n, d, rfl, ?_⟩
    refine ⟨_, rfl, _, rfl, n, _, rfl, rfl, cdiv_gcd hd hs, _, rfl, _, rfl, d, _, rfl, rfl, cdiv_gcd hd hs, (by show 2 ≤ sizeLine; decide), fun p hp => q _ _ (same_upd hp) ⟨p, rfl, ?_⟩⟩
    rw [upd_same]
    unfold rt
    rw [red_num n d hd, red_den n d hd]
/-! ### of_int -/
theorem scOfInt : FnScope ["n"] ["n"] (defScope sOfInt) := ⟨rfl, rfl, rfl, by decide +kernel, rfl, by decide +kernel, by decide +kernel⟩
def spOfInt : Sp := fun vs H Q _ => ∃ n : Int, vs = [.int n] ∧ ∀ p, H p = none → Q (.ref p) (upd H p (.tup [.int n, .int 1]))
theorem ok_ofInt {f : Addr} {fd : FuncData} {k : Nat} (F : Fun K "of_int" "of_int" sOfInt f fd) : FnOk P w K mg base CX0 (k + 1) f fd ["n"] spOfInt := by
  refine F.ok scOfInt (fun vs H Q E h => ?_) (fun cdv A outer s H vs Q E hr h => ?_)
  · obtain ⟨n, rfl, _⟩ := h
    rfl
  · obtain ⟨n, rfl, q⟩ := h
    refine ⟨_, pss_one (ps_ret (pe_tup (pa_cons (pv 0) (pa_cons pe_int pa_nil)))), ?_⟩
    exact ⟨_, rfl, (by show 2 ≤ sizeLine; decide), q⟩
/-! ### plus, negated, minus, times -/
theorem scPlus : FnScope ["first", "second"] ["first", "second"] (defScope sPlus) := ⟨rfl, rfl, rfl, by decide +kernel, rfl, by decide +kernel, by decide +kernel⟩
def spPlus : Sp := fun vs H Q _ => ∃ (a b : Rat) (va vb : V), vs = [va, vb] ∧ IsR H a va ∧ IsR H b vb ∧ Bd 2000 a ∧ Bd 2000 b ∧ ∀ H' v, Same H H' → IsR H' (a + b) v → Q v H'
theorem wm {i j : Int} (ha : i.natAbs < 2 ^ 2000) (hb : j.natAbs < 2 ^ 2000) : CMulW i j := wide_mul ha hb (by decide) (by decide) (by decide)
theorem den_lt8 {a b : Rat} (ha : Bd 2000 a) (hb : Bd 2000 b) : ((a.den : Int) * (b.den : Int)).natAbs < 2 ^ 8000 := lt_pow_succ (den_mul_lt ha hb) (by decide)
theorem ok_plus {f fC : Addr} {fd fdC : FuncData} (F : Fun K "plus" "plus" sPlus f fd) (C : Can P w K mg base CX0 2 "ratio" ["n", "d"] spRatio fC fdC) : FnOk P w K mg base CX0 3 f fd ["first", "second"] spPlus := by
  refine F.ok scPlus (fun vs H Q E h => ?_) (fun cdv A outer s H vs Q E hr h => ?_)
  · obtain ⟨_, _, _, _, rfl, _⟩ := h
    rfl
  · obtain ⟨a, b, va, vb, rfl, ⟨pa, rfl, ha⟩, ⟨pb, rfl, hb⟩, sa, sb, q⟩ := h
    refine ⟨_, pss_one (ps_ret (pe_can C hr (by decide) (by rfl) (pa_cons
      (pe_op op_add (pe_op op_mulW (pe_ix ix_tup (pv 0) pe_int (fun _ _ => rfl)) (pe_ix ix_tup (pv 1) pe_int (fun _ _ => rfl))) (pe_op op_mulW (pe_ix ix_tup (pv 1) pe_int (fun _ _ => rfl)) (pe_ix ix_tup (pv 0) pe_int (fun _ _ => rfl))))
      (pa_cons (pe_op op_mulW (pe_ix ix_tup (pv 0) pe_int (fun _ _ => rfl)) (pe_ix ix_tup (pv 1) pe_int (fun _ _ => rfl))) pa_nil)))), ?_⟩
    refine ⟨_, rfl, _, _, 0, _, rfl, rfl, SqT.of ha, atI_nat (j := 0) rfl, _, rfl, _, _, 1, _, rfl, rfl, SqT.of hb, atI_nat (j := 1) rfl, _, _, rfl, rfl, wm sa.1 sb.den_abs, ?_⟩
    refine ⟨_, rfl, _, _, 0, _, rfl, rfl, SqT.of hb, atI_nat (j := 0) rfl, _, rfl, _, _, 1, _, rfl, rfl, SqT.of ha, atI_nat (j := 1) rfl, _, _, rfl, rfl, wm sb.1 sa.den_abs, ?_⟩
    refine ⟨_, _, rfl, rfl, ?_⟩
    refine ⟨_, rfl, _, _, 1, _, rfl, rfl, SqT.of ha, atI_nat (j := 1) rfl, _, rfl, _, _, 1, _, rfl, rfl, SqT.of hb, atI_nat (j := 1) rfl, _, _, rfl, rfl, wm sa.den_abs sb.den_abs, ?_⟩
    refine ⟨_, _, rfl, Int.mul_pos (den_pos a) (den_pos b), den_lt8 sa sb, fun H' v s r => q H' v s ?_⟩
    rw [plus_eq] at r
    exact r
theorem scNeg : FnScope ["first"] ["first"] (defScope sNeg) := ⟨rfl, rfl, rfl, by decide +kernel, rfl, by decide +kernel, by decide +kernel⟩
def spNeg : Sp := fun vs H Q _ => ∃ (a : Rat) (va : V), vs = [va] ∧ IsR H a va ∧ ∀ H' v, Same H H' → IsR H' (-a) v → Q v H'
theorem ok_neg {f : Addr} {fd : FuncData} {k : Nat} (F : Fun K "negated" "negated" sNeg f fd) : FnOk P w K mg base CX0 (k + 1) f fd ["first"] spNeg := by
  refine F.ok scNeg (fun vs H Q E h => ?_) (fun cdv A outer s H vs Q E hr h => ?_)
  · obtain ⟨_, _, rfl, _⟩ := h
    rfl
  · obtain ⟨a, va, rfl, ⟨pa, rfl, ha⟩, q⟩ := h
    refine ⟨_, pss_one (ps_ret (pe_tup (pa_cons (pe_un un_neg (pe_ix ix_tup (pv 0) pe_int (fun _ _ => rfl))) (pa_cons (pe_ix ix_tup (pv 0) pe_int (fun _ _ => rfl)) pa_nil)))), ?_⟩
    refine ⟨_, rfl, _, _, 0, _, rfl, rfl, SqT.of ha, atI_nat (j := 0) rfl, _, rfl, _, rfl, _, _, 1, _, rfl, rfl, SqT.of ha, atI_nat (j := 1) rfl, (by show 2 ≤ sizeLine; decide), fun p hp => q _ _ (same_upd hp) ⟨p, rfl, ?_⟩⟩
    rw [upd_same]
    unfold rt
    rw [Rat.neg_num, Rat.neg_den]
theorem scMinus : FnScope ["first", "second"] ["first", "second"] (defScope sMinus) := ⟨rfl, rfl, rfl, by decide +kernel, rfl, by decide +kernel, by decide +kernel⟩
def spMinus : Sp := fun vs H Q _ => ∃ (a b : Rat) (va vb : V), vs = [va, vb] ∧ IsR H a va ∧ IsR H b vb ∧ Bd 2000 a ∧ Bd 2000 b ∧ ∀ H' v, Same H H' → IsR H' (a + -b) v → Q v H'
theorem ok_minus {f fC fN : Addr} {fd fdC fdN : FuncData} (F : Fun K "minus" "minus" sMinus f fd) (C : Can P w K mg base CX0 3 "plus" ["first", "second"] spPlus fC fdC) (N : Can P w K mg base CX0 1 "negated" ["first"] spNeg fN fdN) : FnOk P w K mg base CX0 4 f fd ["first", "second"] spMinus := by
  refine F.ok scMinus (fun vs H Q E h => ?_) (fun cdv A outer s H vs Q E hr h => ?_)
  · obtain ⟨_, _, _, _, rfl, _⟩ := h
    rfl
  · obtain ⟨a, b, va, vb, rfl, ha, hb, sa, sb, q⟩ := h
    refine ⟨_, pss_one (ps_ret (pe_can C hr (by decide) (by rfl) (pa_cons (pv 0) (pa_cons (pe_can N hr (by decide) (by rfl) (pa_cons (pv 1) pa_nil)) pa_nil)))), ?_⟩
    refine ⟨_, rfl, _, rfl, b, vb, rfl, hb, fun H1 v1 s1 r1 => ?_⟩
    exact ⟨a, -b, va, v1, rfl, ha.same s1, r1, sa, sb.neg, fun H' v s r => q H' v (s1.trans s) r⟩
theorem scTimes : FnScope ["first", "second"] ["first", "second"] (defScope sTimes) := ⟨rfl, rfl, rfl, by decide +kernel, rfl, by decide +kernel, by decide +kernel⟩
def spTimes : Sp := fun vs H Q _ => ∃ (a b : Rat) (va vb : V), vs = [va, vb] ∧ IsR H a va ∧ IsR H b vb ∧ Bd 2000 a ∧ Bd 2000 b ∧ ∀ H' v, Same H H' → IsR H' (a * b) v → Q v H'
theorem ok_times {f fC : Addr} {fd fdC : FuncData} (F : Fun K "times" "times" sTimes f fd) (C : Can P w K mg base CX0 2 "ratio" ["n", "d"] spRatio fC fdC) : FnOk P w K mg base CX0 3 f fd ["first", "second"] spTimes := by
  refine F.ok scTimes (fun vs H Q E h => ?_) (fun cdv A outer s H vs Q E hr h => ?_)
  · obtain ⟨_, _, _, _, rfl, _⟩ := h
    rfl
  · obtain ⟨a, b, va, vb, rfl, ⟨pa, rfl, ha⟩, ⟨pb, rfl, hb⟩, sa, sb, q⟩ := h
    refine ⟨_, pss_one (ps_ret (pe_can C hr (by decide) (by rfl) (pa_cons (pe_op op_mulW (pe_ix ix_tup (pv 0) pe_int (fun _ _ => rfl)) (pe_ix ix_tup (pv 1) pe_int (fun _ _ => rfl)))
      (pa_cons (pe_op op_mulW (pe_ix ix_tup (pv 0) pe_int (fun _ _ => rfl)) (pe_ix ix_tup (pv 1) pe_int (fun _ _ => rfl))) pa_nil)))), ?_⟩
    refine ⟨_, rfl, _, _, 0, _, rfl, rfl, SqT.of ha, atI_nat (j := 0) rfl, _, rfl, _, _, 0, _, rfl, rfl, SqT.of hb, atI_nat (j := 0) rfl, _, _, rfl, rfl, wm sa.1 sb.1, ?_⟩
    refine ⟨_, rfl, _, _, 1, _, rfl, rfl, SqT.of ha, atI_nat (j := 1) rfl, _, rfl, _, _, 1, _, rfl, rfl, SqT.of hb, atI_nat (j := 1) rfl, _, _, rfl, rfl, wm sa.den_abs sb.den_abs, ?_⟩
    refine ⟨_, _, rfl, Int.mul_pos (den_pos a) (den_pos b), den_lt8 sa sb, fun H' v s r => q H' v s ?_⟩
    rw [times_eq] at r
    exact r
/-! ### check_widths -/
structure Err (K : PySem.W.Frag) (mg : Str → Option Value) (C : Addr) : Prop where
  g : mg "NotAllowed" = some (.ref C)
  x : PySem.W.excIn K C [.type "ValueError", .type "Exception", .type "BaseException", .type "object"] "ValueError.__new__" = true
  kp : PySem.W.keepIn K (.ref C) = true
  b : PySem.W.subIn K (.ref C) (.type "BaseException") = some true
  t : PySem.W.typeIn K (.ref C) = some (.type "type")
theorem scCheck : FnScope ["first", "second"] ["first", "second"] (defScope sCheck) := ⟨rfl, rfl, rfl, by decide +kernel, rfl, by decide +kernel, by decide +kernel⟩
def spCheck (C : Addr) : Sp := fun vs H Q E => ∃ (p q : Addr) (xs ys : List V), vs = [.ref p, .ref q] ∧ H p = some (.tup xs) ∧ H q = some (.tup ys) ∧ (xs.length ≠ ys.length → E (.ref C) none H) ∧ (xs.length = ys.length → Q .non H)
theorem ok_check {C f : Addr} {fd : FuncData} {k : Nat} (F : Fun K "check_widths" "check_widths" sCheck f fd) (T : Err K mg C) (ml : mg "len" = none) : FnOk P w K mg base (L2.CX P w) (k + 1) f fd ["first", "second"] (spCheck C) := by
  refine F.okX scCheck (fun vs H Q E h => ?_) (fun cdv A outer s H vs Q E hr h => ?_)
  · obtain ⟨_, _, _, _, rfl, _⟩ := h
    rfl
  · obtain ⟨p, q, xs, ys, rfl, hp, hq, kE, kQ⟩ := h
    refine ⟨_, pss_one (ps_if (pt_cmp (pc_neI (pe_callB call_len_seq (by rfl) ml PySem.boot_len (pa_cons (pv 0) pa_nil)) (pe_callB call_len_seq (by rfl) ml PySem.boot_len (pa_cons (pv 1) pa_nil))))
      (pss_one (ps_raise rfl (takes_of rfl rfl rfl rfl) (pmk_own PySem.F.excBase_ValueError T.x T.g T.kp (raises_own T.b T.t) rfl))) pss_nil), ?_⟩
    refine ⟨_, rfl, p, xs, rfl, .inr (SqT.of hp), _, rfl, q, ys, rfl, .inr (SqT.of hq), _, _, rfl, rfl, _, rfl, ?_⟩
    by_cases e : (xs.length : Int) = ys.length
    · exact ifNT e (kQ (by omega))
    · exact ifNF e (kE (by omega))
/-! ### a comprehension that makes a row -/
def RowAt (H0 : Hp) (D : Addr) (qs : List Rat) (H : Hp) : Prop := Same H0 H ∧ ∃ acc, H D = some (.lst acc) ∧ Items H qs acc
theorem RowAt.start {H0 : Hp} {D : Addr} (h : H0 D = none) : RowAt H0 D [] (upd H0 D (.lst [])) := ⟨same_upd h, [], upd_same, items_nil⟩
theorem RowAt.step {H0 H H4 : Hp} {D : Addr} {qs : List Rat} {q : Rat} {y : V} (h : RowAt H0 D qs H) (hD : H0 D = none) (t : Same H H4) (r : IsR H4 q y) (hl : qs.length ≤ 100) :
    ∃ acc, H4 D = some (.lst acc) ∧ acc.length < sizeLine ∧ RowAt H0 D (qs ++ [q]) (upd H4 D (.lst (acc ++ [y]))) := by
  obtain ⟨s, acc, hacc, it⟩ := h
  have h4 := t _ _ hacc
  refine ⟨acc, h4, small1000 (by rw [it.1]; omega), fun b o e => ?_, acc ++ [y], upd_same, ?_⟩
  · rw [upd_ne (ne_of_none e hD)]
    exact t _ _ (s _ _ e)
  · exact ((it.tups (Tups.of t)).snoc r).tups (Tups.lst h4)
theorem RowAt.tuple {H0 H : Hp} {D : Addr} {qs : List Rat} {Q : VK} (h : RowAt H0 D qs H) (q : ∀ H' v, Same H0 H' → IsRow H' qs v → Q v H') :
    ∃ p ys, [V.ref D] = [V.ref p] ∧ ((SqL K H p ys ∧ ∀ l, H l = none → Q (.ref l) (upd H l (.tup ys))) ∨ (SqT K H p ys ∧ Q (.ref p) H)) := by
  obtain ⟨s, acc, hacc, it⟩ := h
  exact ⟨D, acc, rfl, .inl ⟨SqL.of hacc, fun l hl => q _ _ (s.trans (same_upd hl)) ⟨l, acc, rfl, upd_same, it.tups (Tups.new hl)⟩⟩⟩
theorem take_snoc {qs : List Rat} {i : Nat} {q : Rat} (h : qs[i]? = some q) : qs.take i ++ [q] = qs.take (i + 1) := by
  rw [List.take_add_one, h]
  rfl
theorem walk_zipT {a b : Addr} {xs ys : List V} {n : Nat} (h1 : xs.length = n) (h2 : ys.length = n) : Walk (RZ.ItzT K a b) n (fun H => SqT K H a xs ∧ SqT K H b ys) (YPair (fun i => xs[i]?) (fun i => ys[i]?)) := by
  refine ⟨fun i H hi h => ?_, fun H h => ?_, fun i H x H' hi h y => ?_⟩
  · exact ⟨xs, ys, _, _, h.1, h.2, List.getElem?_eq_getElem (by omega), List.getElem?_eq_getElem (by omega)⟩
  · exact ⟨xs, ys, h.1, h.2, .inl (by omega)⟩
  · obtain ⟨T, x', y', e, hT, e2, f1, f2⟩ := y
    exact ⟨T, x', y', e, hT, e2, f1 _ h.1, f2 _ h.2⟩
theorem SqT.same {H H' : Hp} {a : Addr} {xs : List V} (h : H a = some (.tup xs)) (s : Same H H') : SqT K H' a xs := SqT.of (s _ _ h)
/-! ### add_rows -/
theorem scAddRows : FnScope ["first", "second", "one", "other"] ["first", "second"] (defScope sAddRows) := ⟨rfl, rfl, rfl, by decide +kernel, rfl, by decide +kernel, by decide +kernel⟩
def spAddRows (C : Addr) : Sp := fun vs H Q E => ∃ (as bs : List Rat) (va vb : V), vs = [va, vb] ∧ IsRow H as va ∧ IsRow H bs vb ∧ BdR 1000 as ∧ BdR 1000 bs ∧ as.length ≤ 24 ∧
  (as.length ≠ bs.length → E (.ref C) none H) ∧ (as.length = bs.length → ∀ H' v, Same H H' → IsRow H' (addR as bs) v → Q v H')
theorem ok_addRows {C f fC fP : Addr} {fd fdC fdP : FuncData} (F : Fun K "add_rows" "add_rows" sAddRows f fd) (CK : Can P w K mg base (L2.CX P w) 1 "check_widths" ["first", "second"] (spCheck C) fC fdC)
    (CP : Can P w K mg base CX0 3 "plus" ["first", "second"] spPlus fP fdP) (mz : mg "zip" = none) (mt : mg "tuple" = none) : FnOk P w K mg base (L2.CX P w) 4 f fd ["first", "second"] (spAddRows C) := by
  refine F.okX scAddRows (fun vs H Q E h => ?_) (fun cdv A outer s H vs Q E hr h => ?_)
  · obtain ⟨_, _, _, _, rfl, _⟩ := h
    rfl
  · obtain ⟨as, bs, va, vb, rfl, ⟨p, xs, rfl, hp, ia⟩, ⟨q, ys, rfl, hq, ib⟩, sa, sb, hl, kE, kQ⟩ := h
    refine ⟨_, pss_cons (ps_expr (pe_canX CK hr (by decide) (by rfl) (takes_of rfl rfl rfl rfl) (pa_cons (pv 0) (pa_cons (pv 1) pa_nil))))
      (pss_one (ps_ret (pe_callTy call_tuple_of (by rfl) mt (by decide +kernel) (pa_cons
        (pe_lc (own := [("one", 2), ("other", 3)]) (g := gTup K 2 (gCons (gName 2) (gCons (gName 3) gNil))) (tt := tYes) rfl scAddRows.nd (RZ.pi_zipA (by rfl) mz (pa_cons (pv 0) (pa_cons (pv 1) pa_nil))) (blkOk_by (N := ["first", "second", "one", "other"]) (sc := defScope sAddRows) (by decide +kernel))
          (fun _ _ _ _ _ => pg_tup rfl (pgs_cons (pg_name (i := 2) scAddRows.nd rfl (Or.inl rfl)) (pgs_cons (pg_name (i := 3) scAddRows.nd rfl (Or.inl rfl)) pgs_nil)))
          (fun _ _ _ _ _ => pts_nil) (fun _ _ _ _ _ => pe_can CP hr (by decide) (by rfl) (pa_cons (pv 2) (pa_cons (pv 3) pa_nil)))) pa_nil)))), ?_⟩
    refine ⟨_, rfl, _, rfl, p, q, xs, ys, rfl, hp, hq, fun ne => kE (by rw [← ia.1, ← ib.1]; exact ne), fun eq => ?_⟩
    have eq' : as.length = bs.length := by rw [← ia.1, ← ib.1]; exact eq
    refine ⟨_, rfl, _, rfl, p, q, xs, ys, rfl, .inr ⟨SqT.of hp, SqT.of hq, fun D hD => ?_⟩⟩
    refine lc_it (walk_zipT (n := as.length) ia.1 (by rw [eq', ib.1])) (fun i H' => RowAt H D ((addR as bs).take i) H') (RowAt.start hD) (fun i H' _ h => ⟨SqT.same hp h.1, SqT.same hq h.1⟩) ?_ ?_
    · rintro i x H' H'' hi hP ⟨T, x1, y1, rfl, hT, rfl, e1, e2⟩
      obtain ⟨qa, v, ea, ev, ra⟩ := ia.get hi
      obtain ⟨qb, u, eb, eu, rb⟩ := ib.get (i := i) (by omega)
      obtain rfl : v = x1 := Option.some.inj (ev.symm.trans e1)
      obtain rfl : u = y1 := Option.some.inj (eu.symm.trans e2)
      have sT : Same H (upd H' T (.tup [v, u])) := hP.1.trans (same_upd hT)
      refine ⟨T, [v, u], rfl, SqT.of upd_same, rfl, v, [u], rfl, u, [], rfl, rfl, rfl, ?_⟩
      refine ⟨_, rfl, _, rfl, qa, qb, v, u, rfl, ra.same sT, rb.same sT, (sa i qa ea).mono (by decide), (sb i qb eb).mono (by decide), fun H4 v4 s4 r4 => ?_⟩
      have st := hP.step hD ((same_upd hT).trans s4) r4 (by rw [List.length_take]; omega)
      rw [take_snoc (addR_get ea eb)] at st
      exact st
    · intro H' hP
      rw [List.take_of_length_le (by rw [addR_length as bs eq']; exact Nat.le_refl _)] at hP
      exact hP.tuple (kQ eq')
/-! ### scale_row -/
theorem scScaleRow : FnScope ["factor", "row", "one"] ["factor", "row"] (defScope sScaleRow) := ⟨rfl, rfl, rfl, by decide +kernel, rfl, by decide +kernel, by decide +kernel⟩
def spScaleRow : Sp := fun vs H Q _ => ∃ (a : Rat) (bs : List Rat) (va vb : V), vs = [va, vb] ∧ IsR H a va ∧ IsRow H bs vb ∧ Bd 1000 a ∧ BdR 1000 bs ∧ bs.length ≤ 24 ∧ ∀ H' v, Same H H' → IsRow H' (sclR a bs) v → Q v H'
theorem ok_scaleRow {f fT : Addr} {fd fdT : FuncData} (F : Fun K "scale_row" "scale_row" sScaleRow f fd) (CT : Can P w K mg base CX0 3 "times" ["first", "second"] spTimes fT fdT) (mt : mg "tuple" = none) : FnOk P w K mg base CX0 4 f fd ["factor", "row"] spScaleRow := by
  refine F.ok scScaleRow (fun vs H Q E h => ?_) (fun cdv A outer s H vs Q E hr h => ?_)
  · obtain ⟨_, _, _, _, rfl, _⟩ := h
    rfl
  · obtain ⟨a, bs, va, vb, rfl, ha, ⟨q, ys, rfl, hq, ib⟩, sa, sb, hl, kQ⟩ := h
    refine ⟨_, pss_one (ps_ret (pe_callTy call_tuple_of (by rfl) mt (by decide +kernel) (pa_cons
        (pe_lc (own := [("one", 2)]) (g := gName 2) (tt := tYes) rfl scScaleRow.nd (pi_tup (pv 1)) (blkOk_by (N := ["factor", "row", "one"]) (sc := defScope sScaleRow) (by decide +kernel))
          (fun _ _ _ _ _ => pg_name (i := 2) scScaleRow.nd rfl (Or.inl rfl))
          (fun _ _ _ _ _ => pts_nil) (fun _ _ _ _ _ => pe_can CT hr (by decide) (by rfl) (pa_cons (pv 0) (pa_cons (pv 2) pa_nil)))) pa_nil))), ?_⟩
    refine ⟨_, rfl, q, rfl, ⟨_, SqT.of hq⟩, fun D hD => ?_⟩
    refine lc_it (walk_tup (K := K) (a := q) (xs := ys)) (fun i H' => RowAt H D ((sclR a bs).take i) H') (RowAt.start hD) (fun i H' _ h => SqT.same hq h.1) ?_ ?_
    · rintro i x H' H'' hi hP ⟨rfl, e1⟩
      obtain ⟨qb, u, eb, eu, rb⟩ := ib.get (i := i) (by rw [← ib.1]; exact hi)
      obtain rfl : u = x := Option.some.inj (eu.symm.trans e1)
      refine ⟨rfl, ?_⟩
      refine ⟨_, rfl, _, rfl, a, qb, va, u, rfl, ha.same hP.1, rb.same hP.1, sa.mono (by decide), (sb i qb eb).mono (by decide), fun H4 v4 s4 r4 => ?_⟩
      have st := hP.step hD s4 r4 (by rw [List.length_take]; have := ib.1; omega)
      rw [take_snoc (sclR_get eb)] at st
      exact st
    · intro H' hP
      rw [List.take_of_length_le (by rw [sclR_length, ib.1]; exact Nat.le_refl _)] at hP
      exact hP.tuple kQ
/-! ### product -/
theorem scProduct : FnScope ["first", "second", "total", "one", "other"] ["first", "second"] (defScope sProduct) := ⟨rfl, rfl, rfl, by decide +kernel, rfl, by decide +kernel, by decide +kernel⟩
def spProduct (C : Addr) : Sp := fun vs H Q E => ∃ (as bs : List Rat) (va vb : V), vs = [va, vb] ∧ IsRow H as va ∧ IsRow H bs vb ∧ BdR 30 as ∧ BdR 30 bs ∧ as.length ≤ 24 ∧
  (as.length ≠ bs.length → E (.ref C) none H) ∧ (as.length = bs.length → ∀ H' v, Same H H' → IsR H' (dot as bs) v → Q v H')
theorem bd_dot {as bs : List Rat} (ha : BdR 30 as) (hb : BdR 30 bs) {i : Nat} (hi : i ≤ 24) : Bd 1500 (dot (as.take i) (bs.take i)) := by
  have h := bd_dot_take bd_zero ha hb i
  rw [show (0 : Rat) + dot (as.take i) (bs.take i) = dot (as.take i) (bs.take i) by grind] at h
  exact h.mono (by omega)
theorem rt_zero : rt 0 = .tup [.int 0, .int 1] := rfl
theorem ok_product {C f fC fP fT fO : Addr} {fd fdC fdP fdT fdO : FuncData} (F : Fun K "product" "product" sProduct f fd) (CK : Can P w K mg base (L2.CX P w) 1 "check_widths" ["first", "second"] (spCheck C) fC fdC)
    (CP : Can P w K mg base CX0 3 "plus" ["first", "second"] spPlus fP fdP) (CT : Can P w K mg base CX0 3 "times" ["first", "second"] spTimes fT fdT) (CO : Can P w K mg base CX0 1 "of_int" ["n"] spOfInt fO fdO) (mz : mg "zip" = none) : FnOk P w K mg base (L2.CX P w) 4 f fd ["first", "second"] (spProduct C) := by
  refine F.okX scProduct (fun vs H Q E h => ?_) (fun cdv A outer s H vs Q E hr h => ?_)
  · obtain ⟨_, _, _, _, rfl, _⟩ := h
    rfl
  · obtain ⟨as, bs, va, vb, rfl, ⟨p, xs, rfl, hp, ia⟩, ⟨q, ys, rfl, hq, ib⟩, sa, sb, hl, kE, kQ⟩ := h
    refine ⟨_, pss_cons (ps_expr (pe_canX CK hr (by decide) (by rfl) (takes_of rfl rfl rfl rfl) (pa_cons (pv 0) (pa_cons (pv 1) pa_nil))))
      (pss_cons (ps_set (i := 2) scProduct.nd rfl (.inl rfl) (pe_can CO hr (by decide) (by rfl) (pa_cons pe_int pa_nil)))
      (pss_cons (ps_for (passes_of rfl) rfl (RZ.pi_zipA (by rfl) mz (pa_cons (pv 0) (pa_cons (pv 1) pa_nil))) (pg_tup rfl (pgs_cons (pg_name (i := 3) scProduct.nd rfl (Or.inl rfl)) (pgs_cons (pg_name (i := 4) scProduct.nd rfl (Or.inl rfl)) pgs_nil)))
        (pss_one (ps_set (i := 2) scProduct.nd rfl (.inl rfl) (pe_can CP hr (by decide) (by rfl) (pa_cons (pv 2) (pa_cons (pe_can CT hr (by decide) (by rfl) (pa_cons (pv 3) (pa_cons (pv 4) pa_nil))) pa_nil))))))
      (pss_one (ps_ret (pv 2))))), ?_⟩
    refine ⟨_, rfl, _, rfl, p, q, xs, ys, rfl, hp, hq, fun ne => kE (by rw [← ia.1, ← ib.1]; exact ne), fun eq => ?_⟩
    have eq' : as.length = bs.length := by rw [← ia.1, ← ib.1]; exact eq
    refine ⟨0, rfl, fun o ho => ?_⟩
    have s0 : Same H (upd H o (.tup [.int 0, .int 1])) := same_upd ho
    refine ⟨_, rfl, _, rfl, p, q, xs, ys, rfl, .inr ⟨SqT.same hp s0, SqT.same hq s0, ?_⟩⟩
    refine for_it (walk_zipT (n := as.length) ia.1 (by rw [eq', ib.1])) (fun i σ H' => ∃ vt y3 y4, σ = [some (.ref p), some (.ref q), some vt, y3, y4] ∧ Same H H' ∧ IsR H' (dot (as.take i) (bs.take i)) vt)
      ⟨.ref o, none, none, rfl, s0, o, rfl, ?_⟩ (fun i σ H' _ ⟨_, _, _, _, h, _⟩ => ⟨SqT.same hp h, SqT.same hq h⟩) ?_ ?_
    · rw [upd_same, List.take_zero, List.take_zero]
      show _ = some (rt 0)
      rw [rt_zero]
    · rintro i x σ H' H'' hi ⟨vt, y3, y4, rfl, s1, r1⟩ ⟨T, x1, y1, rfl, hT, rfl, e1, e2⟩
      obtain ⟨qa, v, ea, ev, ra⟩ := ia.get hi
      obtain ⟨qb, u, eb, eu, rb⟩ := ib.get (i := i) (by omega)
      obtain rfl : v = x1 := Option.some.inj (ev.symm.trans e1)
      obtain rfl : u = y1 := Option.some.inj (eu.symm.trans e2)
      have sT : Same H (upd H' T (.tup [v, u])) := s1.trans (same_upd hT)
      refine ⟨T, [v, u], rfl, SqT.of upd_same, rfl, v, [u], rfl, u, [], rfl, rfl, ?_⟩
      refine ⟨_, rfl, _, rfl, _, rfl, qa, qb, v, u, rfl, ra.same sT, rb.same sT, (sa i qa ea).mono (by decide), (sb i qb eb).mono (by decide), fun H4 v4 s4 r4 => ?_⟩
      have s5 : Same H' H4 := (same_upd hT).trans s4
      refine ⟨_, _, vt, v4, rfl, r1.same s5, r4, (bd_dot sa sb (by omega)).mono (by decide), ((sa i qa ea).mul (sb i qb eb)).mono (by decide), fun H6 v6 s6 r6 => ?_⟩
      refine ⟨v6, some v, some u, rfl, (s1.trans s5).trans s6, ?_⟩
      rw [dot_more ea eb]
      exact r6
    · rintro σ H' ⟨vt, y3, y4, rfl, s1, r1⟩
      rw [dot_all as bs as.length (Nat.le_refl _) (by omega)] at r1
      exact ⟨_, rfl, kQ eq' H' vt s1 r1⟩
/-! ### value_at, add_forms, scale_form -/
theorem bd_val {as bs : List Rat} (ha : BdR 30 as) (hb : BdR 30 bs) (hl : as.length ≤ 24) (he : as.length = bs.length) : Bd 1500 (dot as bs) := by
  have h := bd_dot ha hb hl
  rw [dot_all as bs as.length (Nat.le_refl _) (by omega)] at h
  exact h
theorem scValue : FnScope ["form", "row"] ["form", "row"] (defScope sValue) := ⟨rfl, rfl, rfl, by decide +kernel, rfl, by decide +kernel, by decide +kernel⟩
def spValue (C : Addr) : Sp := fun vs H Q E => ∃ (f : List Rat) (c : Rat) (xs : List Rat) (vf vx : V), vs = [vf, vx] ∧ IsForm H f c vf ∧ IsRow H xs vx ∧ BdR 30 f ∧ Bd 30 c ∧ BdR 30 xs ∧ f.length ≤ 24 ∧
  (f.length ≠ xs.length → E (.ref C) none H) ∧ (f.length = xs.length → ∀ H' v, Same H H' → IsR H' (dot f xs + c) v → Q v H')
theorem ok_value {C f fP fX : Addr} {fd fdP fdX : FuncData} (F : Fun K "value_at" "value_at" sValue f fd) (CX : Can P w K mg base (L2.CX P w) 4 "product" ["first", "second"] (spProduct C) fX fdX)
    (CP : Can P w K mg base CX0 3 "plus" ["first", "second"] spPlus fP fdP) : FnOk P w K mg base (L2.CX P w) 5 f fd ["form", "row"] (spValue C) := by
  refine F.okX scValue (fun vs H Q E h => ?_) (fun cdv A outer s H vs Q E hr h => ?_)
  · obtain ⟨_, _, _, _, _, rfl, _⟩ := h
    rfl
  · obtain ⟨g, c, xs, vf, vx, rfl, ⟨pf, r, z, rfl, hf, hr', hz⟩, hx, sf, sc, sx, hl, kE, kQ⟩ := h
    refine ⟨_, pss_one (ps_ret (pe_can CP hr (by decide) (by rfl) (pa_cons
      (pe_canX CX hr (by decide) (by rfl) (takes_of rfl rfl rfl rfl) (pa_cons (pe_ix ix_tup (pv 0) pe_int (fun _ _ => rfl)) (pa_cons (pv 1) pa_nil)))
      (pa_cons (pe_ix ix_tup (pv 0) pe_int (fun _ _ => rfl)) pa_nil)))), ?_⟩
    refine ⟨_, rfl, _, _, 0, _, rfl, rfl, SqT.of hf, atI_nat (j := 0) rfl, _, rfl, g, xs, r, vx, rfl, hr', hx, sf, sx, hl, kE, fun eq H1 v1 s1 r1 => ?_⟩
    refine ⟨_, rfl, _, _, 1, _, rfl, rfl, SqT.of (s1 _ _ hf), atI_nat (j := 1) rfl, ?_⟩
    exact ⟨_, c, v1, z, rfl, r1, hz.same s1, (bd_val sf sx hl eq).mono (by decide), sc.mono (by decide), fun H2 v2 s2 r2 => kQ eq H2 v2 (s1.trans s2) r2⟩
theorem scAddForms : FnScope ["first", "second"] ["first", "second"] (defScope sAddForms) := ⟨rfl, rfl, rfl, by decide +kernel, rfl, by decide +kernel, by decide +kernel⟩
def spAddForms (C : Addr) : Sp := fun vs H Q E => ∃ (f g : List Rat) (c d : Rat) (vf vg : V), vs = [vf, vg] ∧ IsForm H f c vf ∧ IsForm H g d vg ∧ BdR 1000 f ∧ BdR 1000 g ∧ Bd 1000 c ∧ Bd 1000 d ∧ f.length ≤ 24 ∧
  (f.length ≠ g.length → E (.ref C) none H) ∧ (f.length = g.length → ∀ H' v, Same H H' → IsForm H' (addR f g) (c + d) v → Q v H')
theorem ok_addForms {C f fP fX : Addr} {fd fdP fdX : FuncData} (F : Fun K "add_forms" "add_forms" sAddForms f fd) (CX : Can P w K mg base (L2.CX P w) 4 "add_rows" ["first", "second"] (spAddRows C) fX fdX)
    (CP : Can P w K mg base CX0 3 "plus" ["first", "second"] spPlus fP fdP) : FnOk P w K mg base (L2.CX P w) 5 f fd ["first", "second"] (spAddForms C) := by
  refine F.okX scAddForms (fun vs H Q E h => ?_) (fun cdv A outer s H vs Q E hr h => ?_)
  · obtain ⟨_, _, _, _, _, _, rfl, _⟩ := h
    rfl
  · obtain ⟨f, g, c, d, vf, vg, rfl, ⟨pf, r, z, rfl, hf, hr', hz⟩, ⟨pg, r2, z2, rfl, hg, hr2, hz2⟩, sf, sg, sc, sd, hl, kE, kQ⟩ := h
    refine ⟨_, pss_one (ps_ret (pe_tup (pa_cons
      (pe_canX CX hr (by decide) (by rfl) (takes_of rfl rfl rfl rfl) (pa_cons (pe_ix ix_tup (pv 0) pe_int (fun _ _ => rfl)) (pa_cons (pe_ix ix_tup (pv 1) pe_int (fun _ _ => rfl)) pa_nil)))
      (pa_cons (pe_can CP hr (by decide) (by rfl) (pa_cons (pe_ix ix_tup (pv 0) pe_int (fun _ _ => rfl)) (pa_cons (pe_ix ix_tup (pv 1) pe_int (fun _ _ => rfl)) pa_nil))) pa_nil)))), ?_⟩
    refine ⟨_, rfl, _, _, 0, _, rfl, rfl, SqT.of hf, atI_nat (j := 0) rfl, _, rfl, _, _, 0, _, rfl, rfl, SqT.of hg, atI_nat (j := 0) rfl, f, g, r, r2, rfl, hr', hr2, sf, sg, hl, kE, fun eq H1 v1 s1 r1 => ?_⟩
    refine ⟨_, rfl, _, _, 1, _, rfl, rfl, SqT.of (s1 _ _ hf), atI_nat (j := 1) rfl, _, rfl, _, _, 1, _, rfl, rfl, SqT.of (s1 _ _ hg), atI_nat (j := 1) rfl, c, d, z, z2, rfl, hz.same s1, hz2.same s1, sc.mono (by decide), sd.mono (by decide), fun H2 v2 s2 r2 => ?_⟩
    exact ⟨(by show 2 ≤ sizeLine; decide), fun p hp => kQ eq _ _ ((s1.trans s2).trans (same_upd hp)) ⟨p, v1, v2, rfl, upd_same, (r1.same s2).same (same_upd hp), r2.same (same_upd hp)⟩⟩
theorem scScaleForm : FnScope ["factor", "form"] ["factor", "form"] (defScope sScaleForm) := ⟨rfl, rfl, rfl, by decide +kernel, rfl, by decide +kernel, by decide +kernel⟩
def spScaleForm : Sp := fun vs H Q _ => ∃ (a : Rat) (f : List Rat) (c : Rat) (va vf : V), vs = [va, vf] ∧ IsR H a va ∧ IsForm H f c vf ∧ Bd 1000 a ∧ BdR 1000 f ∧ Bd 1000 c ∧ f.length ≤ 24 ∧ ∀ H' v, Same H H' → IsForm H' (sclR a f) (a * c) v → Q v H'
theorem ok_scaleForm {f fT fX : Addr} {fd fdT fdX : FuncData} (F : Fun K "scale_form" "scale_form" sScaleForm f fd) (CX : Can P w K mg base CX0 4 "scale_row" ["factor", "row"] spScaleRow fX fdX)
    (CT : Can P w K mg base CX0 3 "times" ["first", "second"] spTimes fT fdT) : FnOk P w K mg base CX0 5 f fd ["factor", "form"] spScaleForm := by
  refine F.ok scScaleForm (fun vs H Q E h => ?_) (fun cdv A outer s H vs Q E hr h => ?_)
  · obtain ⟨_, _, _, _, _, rfl, _⟩ := h
    rfl
  · obtain ⟨a, f, c, va, vf, rfl, ha, ⟨pf, r, z, rfl, hf, hr', hz⟩, sa, sf, sc, hl, kQ⟩ := h
    refine ⟨_, pss_one (ps_ret (pe_tup (pa_cons
      (pe_can CX hr (by decide) (by rfl) (pa_cons (pv 0) (pa_cons (pe_ix ix_tup (pv 1) pe_int (fun _ _ => rfl)) pa_nil)))
      (pa_cons (pe_can CT hr (by decide) (by rfl) (pa_cons (pv 0) (pa_cons (pe_ix ix_tup (pv 1) pe_int (fun _ _ => rfl)) pa_nil))) pa_nil)))), ?_⟩
    refine ⟨_, rfl, _, rfl, _, _, 0, _, rfl, rfl, SqT.of hf, atI_nat (j := 0) rfl, a, f, va, r, rfl, ha, hr', sa, sf, hl, fun H1 v1 s1 r1 => ?_⟩
    refine ⟨_, rfl, _, rfl, _, _, 1, _, rfl, rfl, SqT.of (s1 _ _ hf), atI_nat (j := 1) rfl, a, c, va, z, rfl, ha.same s1, hz.same s1, sa.mono (by decide), sc.mono (by decide), fun H2 v2 s2 r2 => ?_⟩
    exact ⟨(by show 2 ≤ sizeLine; decide), fun p hp => kQ _ _ ((s1.trans s2).trans (same_upd hp)) ⟨p, v1, v2, rfl, upd_same, (r1.same s2).same (same_upd hp), r2.same (same_upd hp)⟩⟩
end
end K4

namespace K4
open PySem PySem.Spec PyProof.Rows L2
abbrev sStream : Stmt := topS 21
abbrev sPick : Stmt := topS 22
abbrev sLGcd : Stmt := topS 23
abbrev sLRatio : Stmt := topS 24
abbrev sLPlus : Stmt := topS 25
abbrev sLTimes : Stmt := topS 26
abbrev sSmall : Stmt := topS 27
abbrev sLRow : Stmt := topS 28
abbrev sLValue : Stmt := topS 29
abbrev sRefused : Stmt := topS 30
section
variable {P : Program} {w : World} {K : PySem.W.Frag} {mg : Str → Option Value} {base : Heap}
/-! ### the stream of numbers -/
/-- the numbers so far at o, the script's items at c -/
def StO (H : Hp) (o c : Addr) (cs : List V) (ms : List Int) (H' : Hp) : Prop := Same H H' ∧ H' o = some (.lst (ms.map V.int)) ∧ H' c = some (.lst cs)
theorem StO.app {H H' : Hp} {o c : Addr} {cs : List V} {ms : List Int} (h : StO H o c cs ms H') (ho : H o = none) (hc : c ≠ o) (z : Int) : StO H o c cs (ms ++ [z]) (upd H' o (.lst (ms.map V.int ++ [V.int z]))) := by
  obtain ⟨s, h1, h2⟩ := h
  refine ⟨fun b x e => ?_, ?_, ?_⟩
  · rw [upd_ne (ne_of_none e ho)]
    exact s _ _ e
  · rw [upd_same, List.map_append]
    rfl
  · rw [upd_ne hc]
    exact h2
theorem cut63 (ns : List Int) (h : ns.length ≤ 63) : cutV (ns.map V.int) none (some 63) = ns.map V.int := by
  unfold cutV
  rw [HT.sIx_none, show HT.sIx (ns.map V.int).length (ns.map V.int).length (some 63) = min 63 (ns.map V.int).length from HT.sIx_nat _ _ 63, List.drop_zero]
  refine List.take_of_length_le ?_
  rw [List.length_map]
  omega
theorem scStream : FnScope ["_law_script", "_law_numbers", "_law_cell", "_law_rest", "_law_k", "_law_mixed"] ["_law_script"] (defScope sStream) := ⟨rfl, rfl, rfl, by decide +kernel, rfl, by decide +kernel, by decide +kernel⟩
def spStream (K : PySem.W.Frag) : Sp := fun vs H Q _ => ∃ (a : Addr) (ns : List Int), vs = [.ref a] ∧ SqL K H a (ns.map V.int) ∧ ns.length ≤ 63 ∧
  ∀ H' p (ms : List Int), Same H H' → H' p = some (.lst (ms.map V.int)) → 0 < ms.length → Q (.ref p) H'
theorem len_ok {ms : List Int} (h : ms.length ≤ 5000) : (ms.map V.int).length < sizeLine := by
  rw [List.length_map]
  exact Nat.lt_of_le_of_lt h (by decide)
theorem ok_stream {f : Addr} {fd : FuncData} {k : Nat} (F : Fun K "_law_stream" "_law_stream" sStream f fd) (mi : mg "int" = none) (mr : mg "range" = none) (ml : mg "len" = none) : FnOk P w K mg base CX0 (k + 1) f fd ["_law_script"] (spStream K) := by
  refine F.ok scStream (fun vs H Q E h => ?_) (fun cdv A outer s H vs Q E hr h => ?_)
  · obtain ⟨_, _, rfl, _⟩ := h
    rfl
  · obtain ⟨a, ns, rfl, hS, hlen, q⟩ := h
    refine ⟨_, (pss_cons (ps_set (i := 1) scStream.nd rfl (Or.inl rfl) (pe_lst pa_nil))
    (pss_cons (ps_for PassesOwn.never rfl (pi_list (pe_slice sl_list (pv 0) po_none (po_some pe_int))) (pg_name (i := 2) scStream.nd rfl (Or.inl rfl))
      (pss_cons (ps_set (i := 3) scStream.nd rfl (Or.inl rfl) (pe_callTy call_int1 (by rfl) mi (by decide +kernel) (pa_cons (pv 2) pa_nil)))
      (pss_one (ps_if (pt_cmp (pc_ge (pv 3) (pe_op op_pow pe_int pe_int)))
        (pss_one (ps_for PassesOwn.never rfl (pi_range1 (by rfl) mr (pa_cons pe_int pa_nil)) (pg_name (i := 4) scStream.nd rfl (Or.inl rfl))
          (pss_cons (ps_expr (pe_bm PySem.F.plainAttrs_list PySem.F.slot_list_append PySem.F.type_list_append mt_append (pv 1) (pa_cons (pe_op op_modN (pe_callTy call_int1 (by rfl) mi (by decide +kernel) (pa_cons (pv 3) pa_nil)) pe_int) pa_nil)))
          (pss_cons (ps_set (i := 3) scStream.nd rfl (Or.inl rfl) (pe_op op_fdivN (pv 3) pe_int))
          (pss_one (ps_if (pt_cmp (pc_eqI (pv 3) pe_int))
            (pss_one ps_break)
            pss_nil))))))
        (pss_cons (ps_set (i := 5) scStream.nd rfl (Or.inl rfl) (pe_op op_modN (pe_callTy call_int1 (by rfl) mi (by decide +kernel) (pa_cons (pv 3) pa_nil)) pe_int))
        (pss_one (ps_for PassesOwn.never rfl (pi_range1 (by rfl) mr (pa_cons pe_int pa_nil)) (pg_name (i := 4) scStream.nd rfl (Or.inl rfl))
          (pss_cons (ps_set (i := 5) scStream.nd rfl (Or.inl rfl) (pe_op op_modN (pe_callTy call_int1 (by rfl) mi (by decide +kernel) (pa_cons (pe_op op_add (pe_op op_add (pe_op op_mul (pv 5) pe_int) (pe_op op_mul pe_int (pv 4))) pe_int) pa_nil)) pe_int))
          (pss_one (ps_expr (pe_bm PySem.F.plainAttrs_list PySem.F.slot_list_append PySem.F.type_list_append mt_append (pv 1) (pa_cons (pe_op op_modN (pe_op op_modN (pe_callTy call_int1 (by rfl) mi (by decide +kernel) (pa_cons (pe_op op_add (pe_op op_mul (pv 5) pe_int) (pv 4)) pa_nil)) pe_int) pe_int) pa_nil))))))))))))
    (pss_cons (ps_if (pt_cmp (pc_eqI (pe_callB call_len_seq (by rfl) ml PySem.boot_len (pa_cons (pv 1) pa_nil)) pe_int))
      (pss_one (ps_expr (pe_bm PySem.F.plainAttrs_list PySem.F.slot_list_append PySem.F.type_list_append mt_append (pv 1) (pa_cons pe_int pa_nil))))
      pss_nil)
    (pss_one (ps_ret (pv 1)))))), ?_⟩
    -- numbers = []
    refine ⟨Nat.zero_le _, fun o no => ?_⟩
    have s1 : Same H (upd H o (.lst [])) := same_upd no
    -- script[:63]
    refine ⟨.ref a, rfl, 63, rfl, a, ns.map V.int, rfl, s1.seq hS, fun c nc => ?_⟩
    rw [cut63 ns hlen]
    have nco : c ≠ o := fun e => by
      rw [e, upd_same] at nc
      cases nc
    refine ⟨c, rfl, ⟨_, SqL.of upd_same⟩, ?_⟩
    refine for_list (K := K) (a := c) (xs := ns.map V.int) (fun i σ H' => ∃ (ms : List Int) (y2 y3 y4 y5 : Option V), σ = [some (.ref a), some (.ref o), y2, y3, y4, y5] ∧ ms.length ≤ 60 * i ∧ StO H o c (ns.map V.int) ms H')
      ⟨[], none, none, none, none, rfl, Nat.zero_le _, s1.trans (same_upd nc), ?_, upd_same⟩ (fun i σ H' _ ⟨_, _, _, _, _, _, _, h⟩ => SqL.of h.2.2) ?_ ?_
    · rw [upd_ne nco.symm, upd_same]
      rfl
    · rintro i x σ H' hi ⟨ms, y2, y3, y4, y5, rfl, hm, st⟩
      have hi' : i < 63 := by
        have := (List.getElem?_eq_some_iff.mp hi).1
        rw [List.length_map] at this
        omega
      obtain ⟨z, -, rfl⟩ : ∃ z, ns[i]? = some z ∧ V.int z = x := by
        rw [List.getElem?_map] at hi
        cases e : ns[i]? with
        | none => rw [e] at hi; cases hi
        | some z => rw [e] at hi; exact ⟨z, rfl, Option.some.inj hi⟩
      refine ⟨_, rfl, .inl ⟨z, rfl, ?_⟩⟩
      refine ⟨_, rfl, _, _, rfl, rfl, ⟨by decide, by decide, by decide⟩, _, _, rfl, rfl, _, rfl, ite2 (fun e => ?_) (fun e => ?_)⟩
      · refine ⟨60, rfl, by decide, by decide, for_range (n := 60) (fun j σ H' => ∃ (ms : List Int) (rest : Int) (y4 : Option V), σ = [some (.ref a), some (.ref o), some (.int z), some (.int rest), y4, y5] ∧ ms.length ≤ 60 * i + j ∧ StO H o c (ns.map V.int) ms H')
          ⟨ms, z, y4, rfl, by omega, st⟩ ?_ ?_⟩
        · rintro j σ H' hj ⟨ms, rest, y4, rfl, hm, st⟩
          refine ⟨.ref o, rfl, .inl ⟨rfl, _, SqL.of st.2.1⟩, _, rfl, .inl ⟨rest, rfl, _, _, rfl, rfl, (by show (1009 : Int) ≠ 0; decide), o, _, _, rfl, rfl, st.2.1, len_ok (by omega), ?_⟩⟩
          refine ⟨_, rfl, _, _, rfl, rfl, ⟨by decide, by decide⟩, ?_⟩
          have st2 := st.app no nco (rest.fmod 1009)
          refine ⟨_, rfl, _, _, rfl, rfl, _, rfl, ite2 (fun e => ?_) (fun e => ?_)⟩
          · exact ⟨ms ++ [rest.fmod 1009], _, _, _, _, rfl, by rw [List.length_append, List.length_singleton]; omega, st2⟩
          · exact ⟨ms ++ [rest.fmod 1009], _, _, rfl, by rw [List.length_append, List.length_singleton]; omega, st2⟩
        · rintro σ H' ⟨ms, rest, y4, rfl, hm, st⟩
          exact ⟨ms, _, _, _, _, rfl, by omega, st⟩
      · refine ⟨_, rfl, .inl ⟨z, rfl, _, _, rfl, rfl, (by show (2147483647 : Int) ≠ 0; decide), ?_⟩⟩
        refine ⟨10, rfl, by decide, by decide, for_range (n := 10) (fun j σ H' => ∃ (ms : List Int) (mixed : Int) (y4 : Option V), σ = [some (.ref a), some (.ref o), some (.int z), some (.int z), y4, some (.int mixed)] ∧ ms.length ≤ 60 * i + j ∧ StO H o c (ns.map V.int) ms H')
          ⟨ms, _, y4, rfl, by omega, st⟩ ?_ ?_⟩
        · rintro j σ H' hj ⟨ms, mixed, y4, rfl, hm, st⟩
          refine ⟨_, rfl, _, _, rfl, rfl, .inr ⟨by decide, by decide⟩, _, rfl, _, _, rfl, rfl, .inl ⟨by decide, by decide⟩, _, _, rfl, rfl, _, _, rfl, rfl, .inl ⟨_, rfl, _, _, rfl, rfl, (by show (2147483647 : Int) ≠ 0; decide), ?_⟩⟩
          refine ⟨.ref o, rfl, .inl ⟨rfl, _, SqL.of st.2.1⟩, _, rfl, _, _, rfl, rfl, .inr ⟨by decide, by decide⟩, _, rfl, _, _, rfl, rfl, .inl ⟨_, rfl, _, _, rfl, rfl, (by show (2147483629 : Int) ≠ 0; decide), _, _, rfl, rfl, (by show (1009 : Int) ≠ 0; decide), o, _, _, rfl, rfl, st.2.1, len_ok (by omega), ?_⟩⟩
          exact ⟨_, _, _, rfl, by rw [List.length_append, List.length_singleton]; omega, st.app no nco _⟩
        · rintro σ H' ⟨ms, mixed, y4, rfl, hm, st⟩
          exact ⟨ms, _, _, _, _, rfl, by omega, st⟩
    · rintro σ H' ⟨ms, y2, y3, y4, y5, rfl, hm, st⟩
      rw [List.length_map] at hm
      refine ⟨_, rfl, o, _, rfl, .inl (SqL.of st.2.1), _, _, rfl, rfl, _, rfl, ite2 (fun e => ?_) (fun e => ?_)⟩
      · refine ⟨.ref o, rfl, .inl ⟨rfl, _, SqL.of st.2.1⟩, o, _, _, rfl, rfl, st.2.1, len_ok (by omega), ?_⟩
        have st2 := st.app no nco 0
        exact ⟨_, rfl, q _ o _ st2.1 st2.2.1 (by rw [List.length_append, List.length_singleton]; omega)⟩
      · have h0 : ((ms.map V.int).length : Int) ≠ 0 := fun z => e (decide_eq_true z)
        rw [List.length_map] at h0
        exact ⟨_, rfl, q _ o _ st.1 st.2.1 (by omega)⟩
/-! ### pick -/
theorem scPick : FnScope ["_law_numbers", "_law_at", "_law_many"] ["_law_numbers", "_law_at", "_law_many"] (defScope sPick) := ⟨rfl, rfl, rfl, by decide +kernel, rfl, by decide +kernel, by decide +kernel⟩
def spPick : Sp := fun vs H Q _ => ∃ (p : Addr) (ms : List Int) (i many : Int), vs = [.ref p, .int i, .int many] ∧ H p = some (.lst (ms.map V.int)) ∧ 0 < ms.length ∧ 0 < many ∧ ∀ z : Int, 0 ≤ z → z < many → Q (.int z) H
theorem ok_pick {f : Addr} {fd : FuncData} {k : Nat} (F : Fun K "_law_pick" "_law_pick" sPick f fd) (mi : mg "int" = none) (ml : mg "len" = none) : FnOk P w K mg base CX0 (k + 1) f fd ["_law_numbers", "_law_at", "_law_many"] spPick := by
  refine F.ok scPick (fun vs H Q E h => ?_) (fun cdv A outer s H vs Q E hr h => ?_)
  · obtain ⟨_, _, _, _, rfl, _⟩ := h
    rfl
  · obtain ⟨p, ms, i, many, rfl, hp, hl, hm, q⟩ := h
    refine ⟨_, (pss_one (ps_ret (pe_op op_modN (pe_callTy call_int1 (by rfl) mi (by decide +kernel) (pa_cons (pe_ix ix_list (pv 0) (pe_op op_modN (pv 1) (pe_callB call_len_seq (by rfl) ml PySem.boot_len (pa_cons (pv 0) pa_nil))) (fun _ _ => rfl)) pa_nil)) (pv 2)))), ?_⟩
    have hlen : (0 : Int) < ((ms.map V.int).length : Int) := by
      rw [List.length_map]
      omega
    have h0 := Int.fmod_nonneg_of_pos i hlen
    have h1 := Int.fmod_lt_of_pos i hlen
    obtain ⟨j, hj⟩ := Int.eq_ofNat_of_zero_le h0
    rw [hj, List.length_map] at h1
    have hj2 : j < ms.length := by omega
    have hx : (ms.map V.int)[j]? = some (V.int ms[j]) := by
      rw [List.getElem?_map, List.getElem?_eq_getElem hj2]
      rfl
    refine ⟨_, rfl, _, rfl, _, rfl, p, _, rfl, .inl (SqL.of hp), _, _, rfl, rfl, by omega, p, _, _, V.int ms[j], rfl, rfl, SqL.of hp, at_of hj hx, .inl ⟨_, rfl, _, rfl, _, _, rfl, rfl, by omega, ?_⟩⟩
    exact q _ (Int.fmod_nonneg_of_pos _ hm) (Int.fmod_lt_of_pos _ hm)
/-! ### the law's own ratios -/
theorem scLGcd : FnScope ["_law_first", "_law_second", "_law_k"] ["_law_first", "_law_second"] (defScope sLGcd) := ⟨rfl, rfl, rfl, by decide +kernel, rfl, by decide +kernel, by decide +kernel⟩
def spLGcd : Sp := fun vs H Q _ => ∃ a b : Int, vs = [.int a, .int b] ∧ a.natAbs < 2 ^ 8000 ∧ b.natAbs < 2 ^ 8000 ∧ Q (.int ((Int.gcd a b : Nat) : Int)) H
theorem ok_lgcd {f : Addr} {fd : FuncData} {k : Nat} (F : Fun K "_law_gcd" "_law_gcd" sLGcd f fd) (ma : mg "abs" = none) (mi : mg "int" = none) (mr : mg "range" = none) : FnOk P w K mg base CX0 (k + 1) f fd ["_law_first", "_law_second"] spLGcd := by
  refine F.ok scLGcd (fun vs H Q E h => ?_) (fun cdv A outer s H vs Q E hr h => ?_)
  · obtain ⟨a, b, rfl, _⟩ := h
    rfl
  · obtain ⟨a, b, rfl, sa, sb, q⟩ := h
    refine ⟨_, (pss_cons (ps_set (i := 0) scLGcd.nd rfl (Or.inl rfl) (pe_callB call_abs (by rfl) ma (by decide +kernel) (pa_cons (pv 0) pa_nil)))
    (pss_cons (ps_set (i := 1) scLGcd.nd rfl (Or.inl rfl) (pe_callB call_abs (by rfl) ma (by decide +kernel) (pa_cons (pv 1) pa_nil)))
    (pss_cons (ps_for PassesOwn.never rfl (pi_range1 (by rfl) mr (pa_cons pe_int pa_nil)) (pg_name (i := 2) scLGcd.nd rfl (Or.inl rfl))
      (pss_cons (ps_if (pt_cmp (pc_eqI (pv 1) pe_int))
        (pss_one ps_break)
        pss_nil)
      (pss_one (ps_par (i := 0) (j := 1) rfl scLGcd.nd rfl rfl (by decide) rfl rfl (pa_cons (pv 1) (pa_cons (pe_op op_modN (pe_callTy call_int1 (by rfl) mi (by decide +kernel) (pa_cons (pv 0) pa_nil)) (pv 1)) pa_nil)) (by rfl)))))
    (pss_one (ps_ret (pv 0)))))), ?_⟩
    refine ⟨_, rfl, a, rfl, _, rfl, b, rfl, ?_⟩
    rw [abs_nat, abs_nat]
    have out : ∀ (i x y : Nat) (y2 : Option V) (H' : Hp), Eu a.natAbs b.natAbs i x y → y = 0 → H' = H → Q (.int (x : Int)) H' := fun i x y y2 H' eu hy e => by
      rw [eu.done hy, e]
      exact q
    refine ⟨40000, rfl, by decide, by decide, for_range (n := 40000) (fun i σ H' => ∃ (x y : Nat) (y2 : Option V), σ = [some (.int (x : Int)), some (.int (y : Int)), y2] ∧ Eu a.natAbs b.natAbs i x y ∧ H' = H) ⟨_, _, _, rfl, Eu.start _ _, rfl⟩ ?_ ?_⟩
    · rintro i σ H' hi ⟨x, y, y2, rfl, eu, e1⟩
      refine ⟨_, rfl, _, _, rfl, rfl, _, rfl, ite2 (fun e => ?_) (fun e => ?_)⟩
      · have hy : (y : Int) = 0 := of_decide_eq_true e
        exact ⟨_, rfl, out i x y y2 _ eu (by omega) e1⟩
      · have hy : (y : Int) ≠ 0 := fun z => e (decide_eq_true z)
        refine ⟨_, rfl, _, rfl, .inl ⟨_, rfl, _, rfl, _, _, rfl, rfl, hy, _, _, rfl, y, x % y, some (.int (0 + (i : Int))), ?_, eu.next (by omega), e1⟩⟩
        show [some (V.int (y : Int)), some (V.int ((x : Int).fmod (y : Int))), some (V.int (0 + (i : Int)))] = _
        rw [fmod_nat]
    · rintro σ H' ⟨x, y, y2, rfl, eu, e1⟩
      exact ⟨_, rfl, out _ x y y2 _ eu (eu.over (n := 39999) sa sb (by decide)) e1⟩
theorem scLRatio : FnScope ["_law_n", "_law_d", "_law_divisor"] ["_law_n", "_law_d"] (defScope sLRatio) := ⟨rfl, rfl, rfl, by decide +kernel, rfl, by decide +kernel, by decide +kernel⟩
def spLRatio : Sp := fun vs H Q _ => ∃ n d : Int, vs = [.int n, .int d] ∧ 0 < d ∧ n.natAbs < 2 ^ 8000 ∧ d.natAbs < 2 ^ 8000 ∧ ∀ H' v, Same H H' → IsR H' (mkRat n d.toNat) v → Q v H'
theorem ok_lratio {f fC : Addr} {fd fdC : FuncData} (F : Fun K "_law_ratio" "_law_ratio" sLRatio f fd) (C : Can P w K mg base CX0 1 "_law_gcd" ["_law_first", "_law_second"] spLGcd fC fdC) : FnOk P w K mg base CX0 2 f fd ["_law_n", "_law_d"] spLRatio := by
  refine F.ok scLRatio (fun vs H Q E h => ?_) (fun cdv A outer s H vs Q E hr h => ?_)
  · obtain ⟨n, d, rfl, _⟩ := h
    rfl
  · obtain ⟨n, d, rfl, hd, hn, hs, q⟩ := h
    refine ⟨_, pss_cons (ps_if (pt_cmp (pc_lt (pv 1) pe_int)) pss_never pss_nil)
      (pss_cons (ps_set (i := 2) scLRatio.nd rfl (.inl rfl) (pe_can C hr (by decide) (by rfl) (pa_cons (pv 0) (pa_cons (pv 1) pa_nil))))
      (pss_one (ps_ret (pe_tup (pa_cons (pe_op op_fdivW (pv 0) (pv 2)) (pa_cons (pe_op op_fdivW (pv 1) (pv 2)) pa_nil)))))), ?_⟩
    refine ⟨_, rfl, d, 0, rfl, rfl, _, rfl, ifF (by omega) ?_⟩
    refine ⟨_, rfl, _, rfl, n, d, rfl, hn, hs, ?_⟩
    refine ⟨_, rfl, _, rfl, n, _, rfl, rfl, cdiv_gcd hd hs, _, rfl, _, rfl, d, _, rfl, rfl, cdiv_gcd hd hs, (by show 2 ≤ sizeLine; decide), fun p hp => q _ _ (same_upd hp) ⟨p, rfl, ?_⟩⟩
    rw [upd_same]
    unfold rt
    rw [red_num n d hd, red_den n d hd]
theorem scLPlus : FnScope ["_law_first", "_law_second"] ["_law_first", "_law_second"] (defScope sLPlus) := ⟨rfl, rfl, rfl, by decide +kernel, rfl, by decide +kernel, by decide +kernel⟩
theorem ok_lplus {f fC : Addr} {fd fdC : FuncData} (F : Fun K "_law_plus" "_law_plus" sLPlus f fd) (C : Can P w K mg base CX0 2 "_law_ratio" ["_law_n", "_law_d"] spLRatio fC fdC) : FnOk P w K mg base CX0 3 f fd ["_law_first", "_law_second"] spPlus := by
  refine F.ok scLPlus (fun vs H Q E h => ?_) (fun cdv A outer s H vs Q E hr h => ?_)
  · obtain ⟨_, _, _, _, rfl, _⟩ := h
    rfl
  · obtain ⟨a, b, va, vb, rfl, ⟨pa, rfl, ha⟩, ⟨pb, rfl, hb⟩, sa, sb, q⟩ := h
    refine ⟨_, (pss_one (ps_ret (pe_can C hr (by decide) (by rfl) (pa_cons (pe_op op_add (pe_op op_mulW (pe_ix ix_tup (pv 0) pe_int (fun _ _ => rfl)) (pe_ix ix_tup (pv 1) pe_int (fun _ _ => rfl))) (pe_op op_mulW (pe_ix ix_tup (pv 1) pe_int (fun _ _ => rfl)) (pe_ix ix_tup (pv 0) pe_int (fun _ _ => rfl)))) (pa_cons (pe_op op_mulW (pe_ix ix_tup (pv 0) pe_int (fun _ _ => rfl)) (pe_ix ix_tup (pv 1) pe_int (fun _ _ => rfl))) pa_nil))))), ?_⟩
    refine ⟨_, rfl, _, _, 0, _, rfl, rfl, SqT.of ha, atI_nat (j := 0) rfl, _, rfl, _, _, 1, _, rfl, rfl, SqT.of hb, atI_nat (j := 1) rfl, _, _, rfl, rfl, wm sa.1 sb.den_abs, ?_⟩
    refine ⟨_, rfl, _, _, 0, _, rfl, rfl, SqT.of hb, atI_nat (j := 0) rfl, _, rfl, _, _, 1, _, rfl, rfl, SqT.of ha, atI_nat (j := 1) rfl, _, _, rfl, rfl, wm sb.1 sa.den_abs, ?_⟩
    refine ⟨_, _, rfl, rfl, ?_⟩
    refine ⟨_, rfl, _, _, 1, _, rfl, rfl, SqT.of ha, atI_nat (j := 1) rfl, _, rfl, _, _, 1, _, rfl, rfl, SqT.of hb, atI_nat (j := 1) rfl, _, _, rfl, rfl, wm sa.den_abs sb.den_abs, ?_⟩
    refine ⟨_, _, rfl, Int.mul_pos (den_pos a) (den_pos b), lt_pow_succ (plus_num_lt sa sb) (by decide), den_lt8 sa sb, fun H' v s r => q H' v s ?_⟩
    rw [plus_eq] at r
    exact r
theorem scLTimes : FnScope ["_law_first", "_law_second"] ["_law_first", "_law_second"] (defScope sLTimes) := ⟨rfl, rfl, rfl, by decide +kernel, rfl, by decide +kernel, by decide +kernel⟩
theorem ok_ltimes {f fC : Addr} {fd fdC : FuncData} (F : Fun K "_law_times" "_law_times" sLTimes f fd) (C : Can P w K mg base CX0 2 "_law_ratio" ["_law_n", "_law_d"] spLRatio fC fdC) : FnOk P w K mg base CX0 3 f fd ["_law_first", "_law_second"] spTimes := by
  refine F.ok scLTimes (fun vs H Q E h => ?_) (fun cdv A outer s H vs Q E hr h => ?_)
  · obtain ⟨_, _, _, _, rfl, _⟩ := h
    rfl
  · obtain ⟨a, b, va, vb, rfl, ⟨pa, rfl, ha⟩, ⟨pb, rfl, hb⟩, sa, sb, q⟩ := h
    refine ⟨_, (pss_one (ps_ret (pe_can C hr (by decide) (by rfl) (pa_cons (pe_op op_mulW (pe_ix ix_tup (pv 0) pe_int (fun _ _ => rfl)) (pe_ix ix_tup (pv 1) pe_int (fun _ _ => rfl))) (pa_cons (pe_op op_mulW (pe_ix ix_tup (pv 0) pe_int (fun _ _ => rfl)) (pe_ix ix_tup (pv 1) pe_int (fun _ _ => rfl))) pa_nil))))), ?_⟩
    refine ⟨_, rfl, _, _, 0, _, rfl, rfl, SqT.of ha, atI_nat (j := 0) rfl, _, rfl, _, _, 0, _, rfl, rfl, SqT.of hb, atI_nat (j := 0) rfl, _, _, rfl, rfl, wm sa.1 sb.1, ?_⟩
    refine ⟨_, rfl, _, _, 1, _, rfl, rfl, SqT.of ha, atI_nat (j := 1) rfl, _, rfl, _, _, 1, _, rfl, rfl, SqT.of hb, atI_nat (j := 1) rfl, _, _, rfl, rfl, wm sa.den_abs sb.den_abs, ?_⟩
    refine ⟨_, _, rfl, Int.mul_pos (den_pos a) (den_pos b), lt_pow_succ (abs_mul_lt sa.1 sb.1) (by decide), den_lt8 sa sb, fun H' v s r => q H' v s ?_⟩
    rw [times_eq] at r
    exact r
/-! ### small ratios, rows -/
theorem scSmall : FnScope ["_law_numbers", "_law_at"] ["_law_numbers", "_law_at"] (defScope sSmall) := ⟨rfl, rfl, rfl, by decide +kernel, rfl, by decide +kernel, by decide +kernel⟩
def spSmall : Sp := fun vs H Q _ => ∃ (p : Addr) (ms : List Int) (i : Int), vs = [.ref p, .int i] ∧ H p = some (.lst (ms.map V.int)) ∧ 0 < ms.length ∧ ∀ H' q v, Same H H' → IsR H' q v → Bd 5 q → Q v H'
theorem ok_small {f fC fG : Addr} {fd fdC fdG : FuncData} (F : Fun K "_law_small" "_law_small" sSmall f fd) (C : Can P w K mg base CX0 2 "_law_ratio" ["_law_n", "_law_d"] spLRatio fC fdC)
    (G : Can P w K mg base CX0 1 "_law_pick" ["_law_numbers", "_law_at", "_law_many"] spPick fG fdG) : FnOk P w K mg base CX0 3 f fd ["_law_numbers", "_law_at"] spSmall := by
  refine F.ok scSmall (fun vs H Q E h => ?_) (fun cdv A outer s H vs Q E hr h => ?_)
  · obtain ⟨_, _, _, rfl, _⟩ := h
    rfl
  · obtain ⟨p, ms, i, rfl, hp, hl, q⟩ := h
    refine ⟨_, (pss_one (ps_ret (pe_can C hr (by decide) (by rfl) (pa_cons (pe_op op_sub (pe_can G hr (by decide) (by rfl) (pa_cons (pv 0) (pa_cons (pv 1) (pa_cons pe_int pa_nil)))) pe_int) (pa_cons (pe_op op_add pe_int (pe_can G hr (by decide) (by rfl) (pa_cons (pv 0) (pa_cons (pe_op op_add (pv 1) pe_int) (pa_cons pe_int pa_nil))))) pa_nil))))), ?_⟩
    refine ⟨_, rfl, _, rfl, p, ms, i, 41, rfl, hp, hl, by decide, fun z z0 z1 => ?_⟩
    refine ⟨_, _, rfl, rfl, ?_⟩
    refine ⟨_, rfl, _, rfl, _, _, rfl, rfl, p, ms, _, 12, rfl, hp, hl, by decide, fun u u0 u1 => ?_⟩
    refine ⟨_, _, rfl, rfl, ?_⟩
    have b1 : (z - 20).natAbs < 2 ^ 5 := by
      show (z - 20).natAbs < 32
      omega
    have b2 : (1 + u).natAbs < 2 ^ 5 := by
      show (1 + u).natAbs < 32
      omega
    have d0 : (0 : Int) < 1 + u := by omega
    exact ⟨z - 20, 1 + u, rfl, d0, lt_pow_succ b1 (by decide), lt_pow_succ b2 (by decide), fun H' v s r => q H' _ v s r (bd_mk d0 b1 b2)⟩
theorem scLRow : FnScope ["_law_numbers", "_law_at", "_law_width", "_law_k"] ["_law_numbers", "_law_at", "_law_width"] (defScope sLRow) := ⟨rfl, rfl, rfl, by decide +kernel, rfl, by decide +kernel, by decide +kernel⟩
def spLRow : Sp := fun vs H Q _ => ∃ (p : Addr) (ms : List Int) (i wd : Int) (n : Nat), vs = [.ref p, .int i, .int wd] ∧ wd = (n : Int) ∧ H p = some (.lst (ms.map V.int)) ∧ 0 < ms.length ∧ n ≤ 24 ∧
  ∀ H' qs v, Same H H' → IsRow H' qs v → qs.length = n → BdR 5 qs → Q v H'
theorem BdR.snoc {k : Nat} {qs : List Rat} {q : Rat} (h : BdR k qs) (hq : Bd k q) : BdR k (qs ++ [q]) := fun i r e => by
  by_cases hi : i < qs.length
  · rw [List.getElem?_append_left hi] at e
    exact h i r e
  · rw [List.getElem?_append_right (by omega)] at e
    cases hj : i - qs.length with
    | zero =>
      rw [hj] at e
      cases e
      exact hq
    | succ j =>
      rw [hj] at e
      cases e
theorem bdR_nil {k : Nat} : BdR k [] := fun i q e => by simp at e
theorem ok_lrow {f fC : Addr} {fd fdC : FuncData} (F : Fun K "_law_row" "_law_row" sLRow f fd) (C : Can P w K mg base CX0 3 "_law_small" ["_law_numbers", "_law_at"] spSmall fC fdC) (mr : mg "range" = none) (mt : mg "tuple" = none) : FnOk P w K mg base CX0 4 f fd ["_law_numbers", "_law_at", "_law_width"] spLRow := by
  refine F.ok scLRow (fun vs H Q E h => ?_) (fun cdv A outer s H vs Q E hr h => ?_)
  · obtain ⟨_, _, _, _, _, rfl, _⟩ := h
    rfl
  · obtain ⟨p, ms, i, wd, n, rfl, rfl, hp, hl, hn, q⟩ := h
    refine ⟨_, (pss_one (ps_ret (pe_callTy call_tuple_of (by rfl) mt (by decide +kernel) (pa_cons (pe_lc (own := [("_law_k", 3)]) (g := gName 3) (tt := tYes) rfl scLRow.nd (pi_range1 (by rfl) mr (pa_cons (pv 2) pa_nil)) (blkOk_by (N := ["_law_numbers", "_law_at", "_law_width", "_law_k"]) (sc := defScope sLRow) (by decide +kernel)) (fun _ _ _ _ _ => (pg_name (i := 3) scLRow.nd rfl (Or.inl rfl))) (fun _ _ _ _ _ => pts_nil) (fun _ _ _ _ _ => (pe_can C hr (by decide) (by rfl) (pa_cons (pv 0) (pa_cons (pe_op op_add (pv 1) (pe_op op_mul pe_int (pv 3))) pa_nil))))) pa_nil)))), ?_⟩
    refine ⟨_, rfl, (n : Int), rfl, by omega, by omega, fun D hD => ?_⟩
    rw [Int.toNat_natCast]
    refine lc_it walk_range (fun j H' => ∃ qs, qs.length = j ∧ BdR 5 qs ∧ RowAt H D qs H') ⟨[], rfl, bdR_nil, RowAt.start hD⟩ (fun _ _ _ _ => trivial) ?_ ?_
    · rintro j x H' H'' hj ⟨qs, hq, bq, hP⟩ ⟨rfl, rfl⟩
      refine ⟨rfl, ?_⟩
      refine ⟨_, rfl, _, rfl, _, rfl, _, _, rfl, rfl, .inl ⟨by decide, by decide⟩, _, _, rfl, rfl, p, ms, _, rfl, hP.1 _ _ hp, hl, fun H4 q4 v4 s4 r4 b4 => ?_⟩
      obtain ⟨acc, e1, e2, e3⟩ := hP.step hD s4 r4 (by omega)
      exact ⟨acc, e1, e2, qs ++ [q4], by rw [List.length_append, hq]; rfl, bq.snoc b4, e3⟩
    · rintro H' ⟨qs, hq, bq, hP⟩
      exact hP.tuple fun H2 v s r => q H2 qs v s r hq bq
/-! ### the value, place by place -/
theorem scLValue : FnScope ["_law_form", "_law_row_here", "_law_total", "_law_k"] ["_law_form", "_law_row_here"] (defScope sLValue) := ⟨rfl, rfl, rfl, by decide +kernel, rfl, by decide +kernel, by decide +kernel⟩
def spLValue : Sp := fun vs H Q _ => ∃ (f : List Rat) (c : Rat) (xs : List Rat) (vf vx : V), vs = [vf, vx] ∧ IsForm H f c vf ∧ IsRow H xs vx ∧ BdR 30 f ∧ Bd 30 c ∧ BdR 30 xs ∧ f.length ≤ 24 ∧ f.length = xs.length ∧
  ∀ H' v, Same H H' → IsR H' (dot f xs + c) v → Q v H'
theorem ok_lvalue {f fP fT : Addr} {fd fdP fdT : FuncData} (F : Fun K "_law_value" "_law_value" sLValue f fd) (CP : Can P w K mg base CX0 3 "_law_plus" ["_law_first", "_law_second"] spPlus fP fdP) (CT : Can P w K mg base CX0 3 "_law_times" ["_law_first", "_law_second"] spTimes fT fdT)
    (mr : mg "range" = none) (ml : mg "len" = none) : FnOk P w K mg base CX0 4 f fd ["_law_form", "_law_row_here"] spLValue := by
  refine F.ok scLValue (fun vs H Q E h => ?_) (fun cdv A outer s H vs Q E hr h => ?_)
  · obtain ⟨_, _, _, _, _, rfl, _⟩ := h
    rfl
  · obtain ⟨g, c, xs, vf, vx, rfl, ⟨pf, r, z, rfl, hf, ⟨pr, rs, rfl, hrow, ig⟩, hz⟩, ⟨px, ws, rfl, hx, ix⟩, sf, sc, sx, hl, he, kQ⟩ := h
    refine ⟨_, (pss_cons (ps_set (i := 2) scLValue.nd rfl (Or.inl rfl) (pe_ix ix_tup (pv 0) pe_int (fun _ _ => rfl)))
    (pss_cons (ps_for PassesOwn.never rfl (pi_range1 (by rfl) mr (pa_cons (pe_callB call_len_seq (by rfl) ml PySem.boot_len (pa_cons (pv 1) pa_nil)) pa_nil)) (pg_name (i := 3) scLValue.nd rfl (Or.inl rfl))
      (pss_one (ps_set (i := 2) scLValue.nd rfl (Or.inl rfl) (pe_can CP hr (by decide) (by rfl) (pa_cons (pv 2) (pa_cons (pe_can CT hr (by decide) (by rfl) (pa_cons (pe_ix ix_tup (pe_ix ix_tup (pv 0) pe_int (fun _ _ => rfl)) (pv 3) (fun _ _ => rfl)) (pa_cons (pe_ix ix_tup (pv 1) (pv 3) (fun _ _ => rfl)) pa_nil))) pa_nil))))))
    (pss_one (ps_ret (pv 2))))), ?_⟩
    refine ⟨_, rfl, _, _, 1, _, rfl, rfl, SqT.of hf, atI_nat (j := 1) rfl, ?_⟩
    have hw : ws.length = g.length := by rw [ix.1, he]
    refine ⟨_, rfl, px, ws, rfl, .inr (SqT.of hx), _, rfl, by omega, by omega, ?_⟩
    rw [Int.toNat_natCast, hw]
    refine for_range (fun i σ H' => ∃ vt y3, σ = [some (.ref pf), some (.ref px), some vt, y3] ∧ Same H H' ∧ IsR H' (c + dot (g.take i) (xs.take i)) vt) ⟨z, none, rfl, Same.refl H, ?_⟩ ?_ ?_
    · rw [List.take_zero, List.take_zero, show c + dot [] [] = c from Rat.add_zero c]
      exact hz
    · rintro i σ H' hi ⟨vt, y3, rfl, s1, r1⟩
      obtain ⟨qa, v, ea, ev, ra⟩ := ig.get hi
      obtain ⟨qb, u, eb, eu, rb⟩ := ix.get (i := i) (by omega)
      refine ⟨_, rfl, _, rfl, _, _, 0, _, rfl, rfl, SqT.of (s1 _ _ hf), atI_nat (j := 0) rfl, _, rfl, _, _, _, v, rfl, rfl, SqT.of (s1 _ _ hrow), at_of (j := i) (by omega) ev, ?_⟩
      refine ⟨_, rfl, _, rfl, _, _, _, u, rfl, rfl, SqT.of (s1 _ _ hx), at_of (j := i) (by omega) eu, ?_⟩
      refine ⟨qa, qb, v, u, rfl, ra.same s1, rb.same s1, (sf i qa ea).mono (by decide), (sx i qb eb).mono (by decide), fun H4 v4 s4 r4 => ?_⟩
      refine ⟨_, _, vt, v4, rfl, r1.same s4, r4, (bd_dot_take sc sf sx i).mono (by omega), ((sf i qa ea).mul (sx i qb eb)).mono (by decide), fun H6 v6 s6 r6 => ?_⟩
      refine ⟨v6, _, rfl, (s1.trans s4).trans s6, ?_⟩
      rw [dot_more ea eb, ← Rat.add_assoc]
      exact r6
    · rintro σ H' ⟨vt, y3, rfl, s1, r1⟩
      rw [dot_all g xs g.length (Nat.le_refl _) (by omega), Rat.add_comm] at r1
      exact ⟨_, rfl, kQ H' vt s1 r1⟩
end
end K4

namespace K4
open PySem PySem.Spec PyProof.Rows L2
abbrev sLaw : Stmt := topS 31
/-- a block that is only reached where p holds -/
theorem pss_when {X : Cx} {sts : List Stmt} {t : TS} {p : Prop} (h : p → PSs X sts t) : PSs X sts (fun D σ H => p ∧ t D σ H) := ⟨fun pins s σ H D I hw => (h hw.1).run pins s σ H D I hw.2⟩
/-- one that may raise, where it does not -/
theorem pe_canL {X : Cx} {k j : Nat} {x : Str} {ps : List Str} {sp : Sp} {f : Addr} {fd : FuncData} {e : Expr} {es : List Expr} {t : TA} {p pos : Pos} (C : Can X.prog X.w X.K X.mg X.base (L2.CX X.prog X.w) k x ps sp f fd) (hr : Room j X.A) (hkj : k ≤ j) (hg : Gl X x) (ha : PA X (e :: es) t)
    (hdb : (x == ("__debug__" : Str)) = false := by decide) (he : starEach (e :: es) X.env = (false, eval e X.env) :: starEach es X.env := by rfl) (hpl : (backTo pos (starEach es X.env)).any (·.1) = false := by rfl) :
    PE X (.Call (.Name x p) (e :: es) [] pos) (tCall sp [] E0 t) := pe_call C.ok (hr.mono hkj) hg C.g C.kp C.b .nil passL ha hdb he hpl
section
variable {P : Program} {w : World} {K : PySem.W.Frag} {mg : Str → Option Value} {base : Heap}
/-! ### _law_refused -/
structure ErrIs (K : PySem.W.Frag) (mg : Str → Option Value) (C CK CB : Addr) : Prop where
  e : Err K mg C
  gK : mg "KerbError" = some (.ref CK)
  gB : mg "BadForm" = some (.ref CB)
  x : ExcC K C
  i1 : PySem.W.kitOne K (.ref C) (.ref CK) = some true
  i2 : PySem.W.kitOne K (.ref C) (.ref CB) = some false
  m : PySem.W.exmOne K (.ref C) (.ref C) = some true
theorem scRefused : FnScope ["_law_kind", "_law_first", "_law_second", "e"] ["_law_kind", "_law_first", "_law_second"] (defScope sRefused) := ⟨rfl, rfl, rfl, by decide +kernel, rfl, by decide +kernel, by decide +kernel⟩
def spRefused : Sp := fun vs H Q _ => ∃ (kind : Int) (vf vg : V) (f : List Rat) (c : Rat) (g : List Rat) (d : Rat), vs = [.int kind, vf, vg] ∧ IsForm H f c vf ∧ IsForm H g d vg ∧ BdR 30 f ∧ Bd 30 c ∧ BdR 30 g ∧ Bd 30 d ∧ f.length ≤ 24 ∧ f.length ≠ g.length ∧ Q (.bl true) H
theorem ok_refused {C CK CB f fV fA : Addr} {fd fdV fdA : FuncData} (F : Fun K "_law_refused" "_law_refused" sRefused f fd) (T : ErrIs K mg C CK CB) (CV : Can P w K mg base (L2.CX P w) 5 "value_at" ["form", "row"] (spValue C) fV fdV)
    (CA : Can P w K mg base (L2.CX P w) 5 "add_forms" ["first", "second"] (spAddForms C) fA fdA) (ms : mg "isinstance" = none) : FnOk P w K mg base CX0 6 f fd ["_law_kind", "_law_first", "_law_second"] spRefused := by
  refine F.ok scRefused (fun vs H Q E h => ?_) (fun cdv A outer s H vs Q E hr h => ?_)
  · obtain ⟨_, _, _, _, _, _, _, rfl, _⟩ := h
    rfl
  · obtain ⟨kind, vf, vg, f, c, g, d, rfl, hf, ⟨pg, r, z, rfl, hg, hr2, hz⟩, sf, sc, sg, sd, hl, hne, q⟩ := h
    have hr5 := hr
    refine ⟨_, pss_cons (ps_try_as (i := 3)
        (tb := fun W => tIfS (tB (tEqI (tVar 0) (tC (.int 0)))) (tDrop (tCallS (spValue C) (WE W) (tCons (tVar 1) (tCons (tOp (rIxT K) (tVar 2) (tC (.int 0))) tNil)))) (tDrop (tCallS (spAddForms C) (WE W) (tCons (tVar 1) (tCons (tVar 2) tNil)))))
        (ts := fun a cls d => fun D σ H => (cls = .ref C ∧ d = none) ∧ tRet (tAndV (tCB (rIsE K C a) (tCons (tVar 3) (tCons (tC (.ref CK)) tNil))) (tNotV (tCB (rIsE K C a) (tCons (tVar 3) (tCons (tC (.ref CB)) tNil))))) D σ H)
        (Wout := fun _ _ _ _ => False) rfl rfl scRefused.nd rfl rfl ⟨rfl, by decide, .inl T.e.g⟩ takes0
        (fun W pn xe tk _ => pss_one (ps_if (pt_cmp (pc_eqI (pv 0) pe_int))
          (pss_one (ps_expr (by exact (pe_callS CV.ok hr5 rfl CV.g CV.kp CV.b (fun σ => passAt tk σ) (by exact (pa_cons (pv 1) (pa_cons (pe_ix ix_tup (pv 2) pe_int (fun _ _ => rfl)) pa_nil)))))))
          (pss_one (ps_expr (by exact (pe_callS CA.ok hr5 rfl CA.g CA.kp CA.b (fun σ => passAt tk σ) (by exact (pa_cons (pv 1) (pa_cons (pv 2) pa_nil)))))))))
        (fun a oe cls d pn hz hf => pss_when fun ⟨h1, h2⟩ => by
          subst h1
          subst h2
          exact pss_one (ps_ret (pe_and (pe_callB (call_isE T.x hz hf) (by rfl) ms (by decide +kernel) (pa_cons (pv 3) (pa_cons (pe_glob (by rfl) T.gK rfl) pa_nil)))
            (pe_one (pe_not (pe_callB (call_isE T.x hz hf) (by rfl) ms (by decide +kernel) (pa_cons (pv 3) (pa_cons (pe_glob (by rfl) T.gB rfl) pa_nil)))))))))
      (pss_one (ps_ret pe_bl)), ?_⟩
    have out : ∀ (D : Ends) (σ : L2.St), D.rt = Q → σ.length = 4 → wAs K (.ref C) 3 (fun a cls d => fun D σ H => (cls = .ref C ∧ d = none) ∧ tRet (tAndV (tCB (rIsE K C a) (tCons (tVar 3) (tCons (tC (.ref CK)) tNil))) (tNotV (tCB (rIsE K C a) (tCons (tVar 3) (tCons (tC (.ref CB)) tNil))))) D σ H)
        (fun _ _ _ _ => False) D (.ref C) none σ H := fun D σ hD hσ => by
      refine ⟨true, T.m, fun _ a ha => ⟨⟨rfl, rfl⟩, ?_⟩, fun q => Bool.noConfusion q⟩
      have e3 : (σ.set 3 (some (V.ref a)))[3]? = some (some (V.ref a)) := List.getElem?_set_self (by omega)
      refine ⟨_, e3, .ref CK, .ref CK, true, rfl, fun u h => h, T.i1, true, rfl, ?_⟩
      refine iteT ?_
      refine ⟨_, e3, .ref CB, .ref CB, false, rfl, fun u h => h, T.i2, false, rfl, ?_⟩
      show D.rt (.bl true) H
      rw [hD]
      exact q
    refine ⟨_, rfl, kind, 0, rfl, rfl, _, rfl, ite2 (fun _ => ?_) (fun _ => ?_)⟩
    · exact ⟨_, rfl, _, rfl, _, _, 0, _, rfl, rfl, SqT.of hg, atI_nat (j := 0) rfl, f, c, g, vf, r, rfl, hf, hr2, sf, sc, sg, hl, fun _ => out _ _ rfl rfl, fun e => absurd e hne⟩
    · exact ⟨_, rfl, _, rfl, f, g, c, d, vf, .ref pg, rfl, hf, ⟨pg, r, z, rfl, hg, hr2, hz⟩, sf.mono (by decide), sg.mono (by decide), sc.mono (by decide), sd.mono (by decide), hl, fun _ => out _ _ rfl rfl, fun e => absurd e hne⟩
/-! ### equal data -/
def dR (q : Rat) : PyData := .tuple [.int q.num, .int (q.den : Int)]
def dRow (qs : List Rat) : PyData := .tuple (qs.map dR)
def dForm (qs : List Rat) (c : Rat) : PyData := .tuple [dRow qs, dR c]
theorem IsR.dp {H : Hp} {q : Rat} {v : V} (h : IsR H q v) : Dp K H v (dR q) := by
  obtain ⟨p, rfl, h⟩ := h
  exact .tup (SqT.of h) (.cons (.int _) (.cons (.int _) .nil))
theorem Items.dp {H : Hp} : ∀ {qs : List Rat} {xs : List V}, Items H qs xs → DpAll K H xs (qs.map dR)
  | [], [], _ => .nil
  | q :: qs, x :: xs, h => .cons (h.2 0 q x rfl rfl).dp (Items.dp (qs := qs) (xs := xs) ⟨Nat.succ.inj h.1, fun i q' v e1 e2 => h.2 (i + 1) q' v e1 e2⟩)
  | [], _ :: _, h => nomatch h.1
  | _ :: _, [], h => nomatch h.1
theorem IsRow.dp {H : Hp} {qs : List Rat} {v : V} (h : IsRow H qs v) : Dp K H v (dRow qs) := by
  obtain ⟨p, xs, rfl, h, i⟩ := h
  exact .tup (SqT.of h) i.dp
theorem IsForm.dp {H : Hp} {qs : List Rat} {c : Rat} {v : V} (h : IsForm H qs c v) : Dp K H v (dForm qs c) := by
  obtain ⟨p, r, z, rfl, h, i, j⟩ := h
  exact .tup (SqT.of h) (.cons i.dp (.cons j.dp .nil))
theorem dR_ok (q : Rat) : (dR q).canLay0 = true ∧ (dR q).depth = 1 := by
  unfold dR
  refine ⟨by simp [PyData.canLay0, PyData.canLayAll0], by simp [PyData.depth, PyData.depthAll]⟩
theorem dAll_ok : ∀ qs : List Rat, PyData.canLayAll0 (qs.map dR) = true ∧ PyData.depthAll (qs.map dR) ≤ 1
  | [] => by simp [PyData.canLayAll0, PyData.depthAll]
  | q :: qs => by
    obtain ⟨h1, h2⟩ := dR_ok q
    obtain ⟨h3, h4⟩ := dAll_ok qs
    rw [List.map_cons]
    refine ⟨?_, ?_⟩
    · rw [PyData.canLayAll0, h1, h3]; rfl
    · rw [PyData.depthAll, h2]; omega
theorem dRow_ok (qs : List Rat) : (dRow qs).canLay0 = true ∧ (dRow qs).depth ≤ 2 := by
  obtain ⟨h3, h4⟩ := dAll_ok qs
  unfold dRow
  refine ⟨by rw [PyData.canLay0]; exact h3, by rw [PyData.depth]; omega⟩
theorem dForm_ok (qs : List Rat) (c : Rat) : (dForm qs c).canLay0 = true ∧ (dForm qs c).depth ≤ 64 := by
  obtain ⟨h1, h2⟩ := dRow_ok qs
  obtain ⟨h3, h4⟩ := dR_ok c
  unfold dForm
  refine ⟨?_, ?_⟩
  · rw [PyData.canLay0, PyData.canLayAll0, h1, PyData.canLayAll0, h3]; rfl
  · rw [PyData.depth, PyData.depthAll, PyData.depthAll, h4, PyData.depthAll]; omega
theorem shR (q : Rat) : SeqAt.shaped (dR q) = true := by
  obtain ⟨h1, h2⟩ := dR_ok q
  unfold SeqAt.shaped
  rw [h1, h2]; rfl
theorem shForm (qs : List Rat) (c : Rat) : SeqAt.shaped (dForm qs c) = true := by
  obtain ⟨h1, h2⟩ := dForm_ok qs c
  unfold SeqAt.shaped
  rw [h1, decide_eq_true h2]; rfl
theorem ifSame {d : PyData} {A B : Prop} (hd : SeqAt.shaped d = true) (h : B) : if (!PyData.eqv d d) = true then A else B := by
  rw [SeqAt.eqv_refl d (SeqAt.canLay_of_shaped hd)]
  exact iteF h
end
end K4

namespace K4
open PySem PySem.Spec PyProof.Rows L2
section
variable {P : Program} {w : World} {K : PySem.W.Frag} {mg : Str → Option Value} {base : Heap}
theorem bd_at {f xs : List Rat} {c : Rat} (hf : BdR 30 f) (hx : BdR 30 xs) (hc : Bd 30 c) (hl : f.length ≤ 24) (he : f.length = xs.length) : Bd 1600 (dot f xs + c) := ((bd_val hf hx hl he).add hc).mono (by decide)
theorem rt_one : rt 1 = .tup [.int 1, .int 1] := rfl
theorem isR_one {H : Hp} {p : Addr} (h : H p = some (.tup [.int 1, .int 1])) : IsR H 1 (.ref p) := ⟨p, rfl, h⟩
theorem isR_zero {H : Hp} {p : Addr} (h : H p = some (.tup [.int 0, .int 1])) : IsR H 0 (.ref p) := ⟨p, rfl, h⟩
theorem two_fits : 2 ≤ sizeLine := by decide
theorem wide_width {z : Int} {n : Nat} (h : 1 + z = (n : Int)) (h1 : 1 ≤ n) (h2 : n ≤ 24) : ∃ m : Nat, (1 + z).fmod 24 + 1 = (m : Int) ∧ m ≤ 24 ∧ m ≠ n := by
  have e : (1 + z).fmod 24 = ((n % 24 : Nat) : Int) := by
    rw [h]
    exact fmod_nat n 24
  refine ⟨n % 24 + 1, by rw [e]; rfl, ?_, ?_⟩
  · have := Nat.mod_lt n (show 0 < 24 by decide)
    omega
  · intro q
    by_cases hn : n = 24
    · subst hn
      exact absurd q (by decide)
    · rw [Nat.mod_eq_of_lt (by omega)] at q
      omega
theorem scLaw : FnScope ["_law_script", "_law_numbers", "_law_width", "_law_first", "_law_second", "_law_x", "_law_y", "_law_factor", "_law_form", "_law_row_here", "_law_total", "_law_scaled", "_law_mixed", "_law_due", "_law_wide", "_law_k"] ["_law_script"] (defScope sLaw) := ⟨rfl, rfl, rfl, by decide +kernel, rfl, by decide +kernel, by decide +kernel⟩
def spLaw (K : PySem.W.Frag) : Sp := fun vs H Q _ => ∃ (a : Addr) (ns : List Int), vs = [.ref a] ∧ SqL K H a (ns.map V.int) ∧ ns.length ≤ 63 ∧ ∀ H', Q (.bl true) H'
/-- what the law calls -/
structure All (P : Program) (w : World) (K : PySem.W.Frag) (mg : Str → Option Value) (base : Heap) (C : Addr) : Prop where
  stream : ∃ f fd, Can P w K mg base CX0 1 "_law_stream" ["_law_script"] (spStream K) f fd
  pick : ∃ f fd, Can P w K mg base CX0 1 "_law_pick" ["_law_numbers", "_law_at", "_law_many"] spPick f fd
  row : ∃ f fd, Can P w K mg base CX0 4 "_law_row" ["_law_numbers", "_law_at", "_law_width"] spLRow f fd
  small : ∃ f fd, Can P w K mg base CX0 3 "_law_small" ["_law_numbers", "_law_at"] spSmall f fd
  value : ∃ f fd, Can P w K mg base (L2.CX P w) 5 "value_at" ["form", "row"] (spValue C) f fd
  lvalue : ∃ f fd, Can P w K mg base CX0 4 "_law_value" ["_law_form", "_law_row_here"] spLValue f fd
  addForms : ∃ f fd, Can P w K mg base (L2.CX P w) 5 "add_forms" ["first", "second"] (spAddForms C) f fd
  plus : ∃ f fd, Can P w K mg base CX0 3 "plus" ["first", "second"] spPlus f fd
  lplus : ∃ f fd, Can P w K mg base CX0 3 "_law_plus" ["_law_first", "_law_second"] spPlus f fd
  scaleForm : ∃ f fd, Can P w K mg base CX0 5 "scale_form" ["factor", "form"] spScaleForm f fd
  times : ∃ f fd, Can P w K mg base CX0 3 "times" ["first", "second"] spTimes f fd
  ltimes : ∃ f fd, Can P w K mg base CX0 3 "_law_times" ["_law_first", "_law_second"] spTimes f fd
  addRows : ∃ f fd, Can P w K mg base (L2.CX P w) 4 "add_rows" ["first", "second"] (spAddRows C) f fd
  scaleRow : ∃ f fd, Can P w K mg base CX0 4 "scale_row" ["factor", "row"] spScaleRow f fd
  minus : ∃ f fd, Can P w K mg base CX0 4 "minus" ["first", "second"] spMinus f fd
  refused : ∃ f fd, Can P w K mg base CX0 6 "_law_refused" ["_law_kind", "_law_first", "_law_second"] spRefused f fd
theorem ok_law {C f : Addr} {fd : FuncData} (F : Fun K "law" "law" sLaw f fd) (T : All P w K mg base C) (mr : mg "range" = none) (ml : mg "len" = none) (mt : mg "tuple" = none) (ms : mg "isinstance" = none) : FnOk P w K mg base CX0 7 f fd ["_law_script"] (spLaw K) := by
  obtain ⟨_, _, cStream⟩ := T.stream
  obtain ⟨_, _, cPick⟩ := T.pick
  obtain ⟨_, _, cRow⟩ := T.row
  obtain ⟨_, _, cSmall⟩ := T.small
  obtain ⟨_, _, cValue⟩ := T.value
  obtain ⟨_, _, cLValue⟩ := T.lvalue
  obtain ⟨_, _, cAddForms⟩ := T.addForms
  obtain ⟨_, _, cPlus⟩ := T.plus
  obtain ⟨_, _, cLPlus⟩ := T.lplus
  obtain ⟨_, _, cScaleForm⟩ := T.scaleForm
  obtain ⟨_, _, cTimes⟩ := T.times
  obtain ⟨_, _, cLTimes⟩ := T.ltimes
  obtain ⟨_, _, cAddRows⟩ := T.addRows
  obtain ⟨_, _, cScaleRow⟩ := T.scaleRow
  obtain ⟨_, _, cMinus⟩ := T.minus
  obtain ⟨_, _, cRefused⟩ := T.refused
  refine F.ok scLaw (fun vs H Q E h => ?_) (fun cdv A outer s H vs Q E hr h => ?_)
  · obtain ⟨_, _, rfl, _⟩ := h
    rfl
  · obtain ⟨sc, ns, rfl, hS, hlen, q⟩ := h
    refine ⟨_, (pss_cons (ps_set (i := 1) scLaw.nd rfl (Or.inl rfl) (pe_can cStream hr (by decide) (by rfl) (pa_cons (pv 0) pa_nil)))
    (pss_cons (ps_set (i := 2) scLaw.nd rfl (Or.inl rfl) (pe_op op_add pe_int (pe_can cPick hr (by decide) (by rfl) (pa_cons (pv 1) (pa_cons pe_int (pa_cons pe_int pa_nil))))))
    (pss_cons (ps_set (i := 3) scLaw.nd rfl (Or.inr rfl) (pe_tup (pa_cons (pe_can cRow hr (by decide) (by rfl) (pa_cons (pv 1) (pa_cons pe_int (pa_cons (pv 2) pa_nil)))) (pa_cons (pe_can cSmall hr (by decide) (by rfl) (pa_cons (pv 1) (pa_cons pe_int pa_nil))) pa_nil))))
    (pss_cons (ps_set (i := 4) scLaw.nd rfl (Or.inr rfl) (pe_tup (pa_cons (pe_can cRow hr (by decide) (by rfl) (pa_cons (pv 1) (pa_cons pe_int (pa_cons (pv 2) pa_nil)))) (pa_cons (pe_can cSmall hr (by decide) (by rfl) (pa_cons (pv 1) (pa_cons pe_int pa_nil))) pa_nil))))
    (pss_cons (ps_set (i := 5) scLaw.nd rfl (Or.inl rfl) (pe_can cRow hr (by decide) (by rfl) (pa_cons (pv 1) (pa_cons pe_int (pa_cons (pv 2) pa_nil)))))
    (pss_cons (ps_set (i := 6) scLaw.nd rfl (Or.inl rfl) (pe_can cRow hr (by decide) (by rfl) (pa_cons (pv 1) (pa_cons pe_int (pa_cons (pv 2) pa_nil)))))
    (pss_cons (ps_set (i := 7) scLaw.nd rfl (Or.inl rfl) (pe_can cSmall hr (by decide) (by rfl) (pa_cons (pv 1) (pa_cons pe_int pa_nil))))
    (pss_cons (ps_for PassesOwn.never rfl (pi_tup (pe_tup (pa_cons (pv 3) (pa_cons (pv 4) pa_nil)))) (pg_name (i := 8) scLaw.nd rfl (Or.inl rfl))
      (pss_one (ps_for PassesOwn.never rfl (pi_tup (pe_tup (pa_cons (pv 5) (pa_cons (pv 6) pa_nil)))) (pg_name (i := 9) scLaw.nd rfl (Or.inl rfl))
        (pss_one (ps_if (pt_cmpR (op_neD hr.units) (pe_canL cValue hr (by decide) (by rfl) (pa_cons (pv 8) (pa_cons (pv 9) pa_nil))) (pe_can cLValue hr (by decide) (by rfl) (pa_cons (pv 8) (pa_cons (pv 9) pa_nil))) (nomark _))
          (pss_one (ps_ret pe_bl))
          pss_nil)))))
    (pss_cons (ps_set (i := 10) scLaw.nd rfl (Or.inl rfl) (pe_canL cAddForms hr (by decide) (by rfl) (pa_cons (pv 3) (pa_cons (pv 4) pa_nil))))
    (pss_cons (ps_if (PW.pt (pw_or (pt_not (pt_val (pe_callB call_isi (by rfl) ms (by decide +kernel) (pa_cons (pv 10) (pa_cons (pe_bltn (v := .ty "tuple") (by rfl) mt (by decide +kernel) rfl) pa_nil))))) (pw_or (pt_cmp (pc_neI (pe_callB call_len_seq (by rfl) ml PySem.boot_len (pa_cons (pv 10) pa_nil)) pe_int)) (pw_or1 (pt_cmpR (op_neD hr.units) (pe_canL cValue hr (by decide) (by rfl) (pa_cons (pv 10) (pa_cons (pv 5) pa_nil))) (pe_can cPlus hr (by decide) (by rfl) (pa_cons (pe_canL cValue hr (by decide) (by rfl) (pa_cons (pv 3) (pa_cons (pv 5) pa_nil))) (pa_cons (pe_canL cValue hr (by decide) (by rfl) (pa_cons (pv 4) (pa_cons (pv 5) pa_nil))) pa_nil))) (nomark _))))))
      (pss_one (ps_ret pe_bl))
      pss_nil)
    (pss_cons (ps_if (pt_cmpR (op_neD hr.units) (pv 10) (pe_tup (pa_cons (pe_callTy call_tuple_of (by rfl) mt (by decide +kernel) (pa_cons (pe_lc (own := [("_law_k", 15)]) (g := gName 15) (tt := tYes) rfl scLaw.nd (pi_range1 (by rfl) mr (pa_cons (pv 2) pa_nil)) (blkOk_by (N := ["_law_script", "_law_numbers", "_law_width", "_law_first", "_law_second", "_law_x", "_law_y", "_law_factor", "_law_form", "_law_row_here", "_law_total", "_law_scaled", "_law_mixed", "_law_due", "_law_wide", "_law_k"]) (sc := defScope sLaw) (by decide +kernel)) (fun _ _ _ _ _ => (pg_name (i := 15) scLaw.nd rfl (Or.inl rfl))) (fun _ _ _ _ _ => pts_nil) (fun _ _ _ _ _ => (pe_can cLPlus hr (by decide) (by rfl) (pa_cons (pe_ix (r := rIxT K) ix_tup (pe_ix (r := rIxT K) ix_tup (pv 3) pe_int (fun _ _ => rfl)) (pv 15) (fun _ _ => rfl)) (pa_cons (pe_ix (r := rIxT K) ix_tup (pe_ix (r := rIxT K) ix_tup (pv 4) pe_int (fun _ _ => rfl)) (pv 15) (fun _ _ => rfl)) pa_nil))))) pa_nil)) (pa_cons (pe_can cLPlus hr (by decide) (by rfl) (pa_cons (pe_ix (r := rIxT K) ix_tup (pv 3) pe_int (fun _ _ => rfl)) (pa_cons (pe_ix (r := rIxT K) ix_tup (pv 4) pe_int (fun _ _ => rfl)) pa_nil))) pa_nil))) (nomark _))
      (pss_one (ps_ret pe_bl))
      pss_nil)
    (pss_cons (ps_set (i := 11) scLaw.nd rfl (Or.inl rfl) (pe_can cScaleForm hr (by decide) (by rfl) (pa_cons (pv 7) (pa_cons (pv 3) pa_nil))))
    (pss_cons (ps_if (PW.pt (pw_or (pt_cmpR (op_neD hr.units) (pe_canL cValue hr (by decide) (by rfl) (pa_cons (pv 11) (pa_cons (pv 6) pa_nil))) (pe_can cTimes hr (by decide) (by rfl) (pa_cons (pv 7) (pa_cons (pe_canL cValue hr (by decide) (by rfl) (pa_cons (pv 3) (pa_cons (pv 6) pa_nil))) pa_nil))) (nomark _)) (pw_or1 (pt_cmpR (op_neD hr.units) (pe_ix (r := rIxT K) ix_tup (pv 11) pe_int (fun _ _ => rfl)) (pe_can cLTimes hr (by decide) (by rfl) (pa_cons (pv 7) (pa_cons (pe_ix (r := rIxT K) ix_tup (pv 3) pe_int (fun _ _ => rfl)) pa_nil))) (nomark _)))))
      (pss_one (ps_ret pe_bl))
      pss_nil)
    (pss_cons (ps_set (i := 12) scLaw.nd rfl (Or.inl rfl) (pe_canL cAddRows hr (by decide) (by rfl) (pa_cons (pe_can cScaleRow hr (by decide) (by rfl) (pa_cons (pv 7) (pa_cons (pv 5) pa_nil))) (pa_cons (pe_can cScaleRow hr (by decide) (by rfl) (pa_cons (pe_can cMinus hr (by decide) (by rfl) (pa_cons (pe_tup (pa_cons pe_int (pa_cons pe_int pa_nil))) (pa_cons (pv 7) pa_nil))) (pa_cons (pv 6) pa_nil))) pa_nil))))
    (pss_cons (ps_set (i := 13) scLaw.nd rfl (Or.inl rfl) (pe_can cPlus hr (by decide) (by rfl) (pa_cons (pe_can cTimes hr (by decide) (by rfl) (pa_cons (pv 7) (pa_cons (pe_canL cValue hr (by decide) (by rfl) (pa_cons (pv 3) (pa_cons (pv 5) pa_nil))) pa_nil))) (pa_cons (pe_can cTimes hr (by decide) (by rfl) (pa_cons (pe_can cMinus hr (by decide) (by rfl) (pa_cons (pe_tup (pa_cons pe_int (pa_cons pe_int pa_nil))) (pa_cons (pv 7) pa_nil))) (pa_cons (pe_canL cValue hr (by decide) (by rfl) (pa_cons (pv 3) (pa_cons (pv 6) pa_nil))) pa_nil))) pa_nil))))
    (pss_cons (ps_if (pt_cmpR (op_neD hr.units) (pe_canL cValue hr (by decide) (by rfl) (pa_cons (pv 3) (pa_cons (pv 12) pa_nil))) (pv 13) (nomark _))
      (pss_one (ps_ret pe_bl))
      pss_nil)
    (pss_cons (ps_set (i := 14) scLaw.nd rfl (Or.inl rfl) (pe_tup (pa_cons (pe_can cRow hr (by decide) (by rfl) (pa_cons (pv 1) (pa_cons pe_int (pa_cons (pe_op op_add (pe_op op_modN (pv 2) pe_int) pe_int) pa_nil)))) (pa_cons (pe_tup (pa_cons pe_int (pa_cons pe_int pa_nil))) pa_nil))))
    (pss_one (ps_ret (pe_and (pe_can cRefused hr (by decide) (by rfl) (pa_cons pe_int (pa_cons (pv 3) (pa_cons (pv 14) pa_nil)))) (pe_and (pe_can cRefused hr (by decide) (by rfl) (pa_cons pe_int (pa_cons (pv 3) (pa_cons (pv 14) pa_nil)))) (pe_one (pe_can cRefused hr (by decide) (by rfl) (pa_cons pe_int (pa_cons (pv 14) (pa_cons (pv 3) pa_nil)))))))))))))))))))))))))), ?_⟩
    -- numbers, width
    refine ⟨_, rfl, sc, ns, rfl, hS, hlen, fun H1 pn ms s1 N1 hl => ?_⟩
    refine ⟨_, rfl, pn, ms, 0, 24, rfl, N1, hl, by decide, fun z z0 z1 => ⟨_, _, rfl, rfl, ?_⟩⟩
    obtain ⟨n, hw, n1, n24⟩ : ∃ n : Nat, 1 + z = (n : Int) ∧ 1 ≤ n ∧ n ≤ 24 := ⟨(1 + z).toNat, by omega, by omega, by omega⟩
    -- first
    refine ⟨_, rfl, _, rfl, pn, ms, 9, _, n, rfl, hw, N1, hl, n24, fun H2 f vf s2 rf lf bf => ?_⟩
    refine ⟨_, rfl, pn, ms, 1, rfl, s2 _ _ N1, hl, fun H3 c vc s3 rc bc => ?_⟩
    refine ⟨two_fits, fun p1 h1 => ?_⟩
    have F4 : IsForm (upd H3 p1 (.tup [vf, vc])) f c (.ref p1) := ⟨p1, vf, vc, rfl, upd_same, (rf.same s3).same (same_upd h1), rc.same (same_upd h1)⟩
    have N4 := (same_upd (o := .tup [vf, vc]) h1) _ _ (s3 _ _ (s2 _ _ N1))
    -- second
    refine ⟨_, rfl, _, rfl, pn, ms, 60, _, n, rfl, hw, N4, hl, n24, fun H5 g vg s5 rg lg bg => ?_⟩
    refine ⟨_, rfl, pn, ms, 3, rfl, s5 _ _ N4, hl, fun H6 d vd s6 rd bd => ?_⟩
    refine ⟨two_fits, fun p2 h2 => ?_⟩
    have G7 : IsForm (upd H6 p2 (.tup [vg, vd])) g d (.ref p2) := ⟨p2, vg, vd, rfl, upd_same, (rg.same s6).same (same_upd h2), rd.same (same_upd h2)⟩
    have N7 := (same_upd (o := .tup [vg, vd]) h2) _ _ (s6 _ _ (s5 _ _ N4))
    have F7 := ((F4.same s5).same s6).same (same_upd (o := .tup [vg, vd]) h2)
    -- x, y, factor
    refine ⟨_, rfl, _, rfl, pn, ms, 30, _, n, rfl, hw, N7, hl, n24, fun H8 xs vx s8 X8 lx bx => ?_⟩
    refine ⟨_, rfl, _, rfl, pn, ms, 90, _, n, rfl, hw, s8 _ _ N7, hl, n24, fun H9 ys vy s9 Y9 ly bY => ?_⟩
    refine ⟨_, rfl, pn, ms, 5, rfl, s9 _ _ (s8 _ _ N7), hl, fun H10 a va s10 A10 ba => ?_⟩
    have N10 := s10 _ _ (s9 _ _ (s8 _ _ N7))
    have F10 := ((F7.same s8).same s9).same s10
    have G10 := ((G7.same s8).same s9).same s10
    have X10 := (X8.same s9).same s10
    have Y10 := Y9.same s10
    clear N1 N4 N7 F4 F7 G7 X8 Y9 rf rc rg rd
    have b5 : ∀ {q : Rat}, Bd 5 q → Bd 30 q := fun h => h.mono (by decide)
    have b5r : ∀ {q : List Rat}, BdR 5 q → BdR 30 q := fun h => h.mono (by decide)
    have bk : ∀ {q : Rat}, Bd 5 q → Bd 1000 q := fun h => h.mono (by decide)
    have bkr : ∀ {q : List Rat}, BdR 5 q → BdR 1000 q := fun h => h.mono (by decide)
    -- value_at is the sum, place by place
    refine ⟨_, rfl, _, rfl, two_fits, fun t ht => ⟨t, rfl, ⟨_, SqT.of upd_same⟩, ?_⟩⟩
    refine for_tup (K := K) (a := t) (xs := [.ref p1, .ref p2]) (fun i σ H' => ∃ y8 y9, σ = [some (.ref sc), some (.ref pn), some (.int (1 + z)), some (.ref p1), some (.ref p2), some vx, some vy, some va, y8, y9, none, none, none, none, none, none] ∧ Same H10 H' ∧ H' t = some (.tup [.ref p1, .ref p2]))
      ⟨none, none, rfl, same_upd ht, upd_same⟩ (fun i σ H' _ ⟨_, _, _, _, h⟩ => SqT.of h) ?_ ?_
    · rintro i x σ H' hi ⟨y8, y9, rfl, s', ht'⟩
      obtain ⟨fi, ci, hfi, li, bfi, bci⟩ : ∃ fi ci, IsForm H10 fi ci x ∧ fi.length = n ∧ BdR 5 fi ∧ Bd 5 ci := by
        cases i with
        | zero =>
          obtain rfl : V.ref p1 = x := Option.some.inj hi
          exact ⟨f, c, F10, lf, bf, bc⟩
        | succ i =>
          cases i with
          | zero =>
            obtain rfl : V.ref p2 = x := Option.some.inj hi
            exact ⟨g, d, G10, lg, bg, bd⟩
          | succ i => simp at hi
      refine ⟨_, rfl, _, rfl, two_fits, fun u hu => ⟨u, rfl, ⟨_, SqT.of upd_same⟩, ?_⟩⟩
      refine for_tup (K := K) (a := u) (xs := [vx, vy]) (fun j σ H'' => ∃ y9, σ = [some (.ref sc), some (.ref pn), some (.int (1 + z)), some (.ref p1), some (.ref p2), some vx, some vy, some va, some x, y9, none, none, none, none, none, none] ∧ Same H' H'' ∧ H'' u = some (.tup [vx, vy]))
        ⟨y9, rfl, same_upd hu, upd_same⟩ (fun i σ H' _ ⟨_, _, _, h⟩ => SqT.of h) ?_ ?_
      · rintro j r σ H'' hj ⟨y9, rfl, s'', hu''⟩
        obtain ⟨ri, hri, lri, bri⟩ : ∃ ri, IsRow H10 ri r ∧ ri.length = n ∧ BdR 5 ri := by
          cases j with
          | zero =>
            obtain rfl : vx = r := Option.some.inj hj
            exact ⟨xs, X10, lx, bx⟩
          | succ j =>
            cases j with
            | zero =>
              obtain rfl : vy = r := Option.some.inj hj
              exact ⟨ys, Y10, ly, bY⟩
            | succ j => simp at hj
        have s3 := s'.trans s''
        refine ⟨_, rfl, _, rfl, fi, ci, ri, x, r, rfl, hfi.same s3, hri.same s3, b5r bfi, b5 bci, b5r bri, by omega, fun ne => ne (by omega), fun _ Ha v1 sa r1 => ?_⟩
        refine ⟨_, rfl, _, rfl, fi, ci, ri, x, r, rfl, (hfi.same s3).same sa, (hri.same s3).same sa, b5r bfi, b5 bci, b5r bri, by omega, by omega, fun Hb v2 sb r2 => ?_⟩
        refine ⟨dR _, dR _, (r1.same sb).dp, r2.dp, shR _, shR _, _, rfl, ifSame (shR _) ?_⟩
        exact ⟨some r, rfl, (s''.trans sa).trans sb, sb _ _ (sa _ _ hu'')⟩
      · rintro σ H'' ⟨y9, rfl, s'', _⟩
        exact ⟨some x, y9, rfl, s'.trans s'', s'' _ _ ht'⟩
    · rintro σ H11 ⟨y8, y9, rfl, s11, -⟩
      have N11 := s11 _ _ N10
      have F11 := F10.same s11
      have G11 := G10.same s11
      have X11 := X10.same s11
      have Y11 := Y10.same s11
      have A11 := A10.same s11
      clear N10 F10 G10 X10 Y10 A10
      -- total
      refine ⟨_, rfl, _, rfl, f, g, c, d, .ref p1, .ref p2, rfl, F11, G11, bkr bf, bkr bg, bk bc, bk bd, by omega, fun ne => ne (by omega), fun _ H12 vt s12 T12 => ?_⟩
      obtain ⟨pt, vr, vk, rfl, ht12, rr12, rk12⟩ := id T12
      have lfg : (addR f g).length = n := by rw [addR_length f g (by omega), lf]
      have bfg : BdR 30 (addR f g) := (bf.add bg).mono (by decide)
      have bcd : Bd 30 (c + d) := (bc.add bd).mono (by decide)
      refine ⟨_, rfl, _, .ty "tuple", .type "tuple", .type "tuple", true, rfl, .ty "tuple", TyX.base (TyOf.tup ht12), kit_ty (by decide +kernel), true, rfl, ?_⟩
      refine ⟨_, rfl, pt, _, rfl, .inr (SqT.of ht12), _, _, rfl, rfl, _, rfl, ?_⟩
      refine ifNT (by rfl) ?_
      refine ⟨_, rfl, _, rfl, addR f g, c + d, xs, .ref pt, vx, rfl, T12, X11.same s12, bfg, bcd, b5r bx, by omega, fun ne => ne (by omega), fun _ H13 v1 s13 r1 => ?_⟩
      have s1' := s12.trans s13
      refine ⟨_, rfl, _, rfl, f, c, xs, .ref p1, vx, rfl, F11.same s1', X11.same s1', b5r bf, b5 bc, b5r bx, by omega, fun ne => ne (by omega), fun _ H14 v2 s14 r2 => ?_⟩
      have s2' := s1'.trans s14
      refine ⟨_, rfl, _, rfl, g, d, xs, .ref p2, vx, rfl, G11.same s2', X11.same s2', b5r bg, b5 bd, b5r bx, by omega, fun ne => ne (by omega), fun _ H15 v3 s15 r3 => ?_⟩
      refine ⟨_, _, v2, v3, rfl, r2.same s15, r3, (bd_at (b5r bf) (b5r bx) (b5 bc) (by omega) (by omega)).mono (by decide), (bd_at (b5r bg) (b5r bx) (b5 bd) (by omega) (by omega)).mono (by decide), fun H16 v4 s16 r4 => ?_⟩
      rw [← law_sum f g xs c d (by omega) (by omega)] at r4
      refine ⟨dR _, dR _, (((r1.same s14).same s15).same s16).dp, r4.dp, shR _, shR _, _, rfl, ifSame (shR _) ?_⟩
      have t16 : Same H11 H16 := (s2'.trans s15).trans s16
      have u16 : Same H12 H16 := ((s13.trans s14).trans s15).trans s16
      have N16 := t16 _ _ N11
      have F16 := F11.same t16
      have G16 := G11.same t16
      have X16 := X11.same t16
      have Y16 := Y11.same t16
      have A16 := A11.same t16
      have T16 := T12.same u16
      clear N11 F11 G11 X11 Y11 A11 r1 r2 r3 r4
      -- the sum of forms, place by place
      obtain ⟨_, wf, wc, ⟨⟩, hp1, ⟨pf, fs, rfl, hpf, if1⟩, hc1⟩ := id F16
      obtain ⟨_, wg, wd, ⟨⟩, hp2, ⟨pg, gs, rfl, hpg, ig1⟩, hd1⟩ := id G16
      refine ⟨_, rfl, _, rfl, _, rfl, by omega, by omega, fun D hD => ?_⟩
      rw [show (1 + z).toNat = n by omega]
      refine lc_it walk_range (fun j H' => RowAt H16 D ((addR f g).take j) H') (RowAt.start hD) (fun _ _ _ _ => trivial) ?_ ?_
      · rintro j x H' H'' hj hP ⟨rfl, rfl⟩
        obtain ⟨qa, v, ea, ev, ra⟩ := if1.get (i := j) (by omega)
        obtain ⟨qb, u, eb, eu, rb⟩ := ig1.get (i := j) (by omega)
        refine ⟨rfl, ?_⟩
        refine ⟨_, rfl, _, _, 0, _, rfl, rfl, SqT.of (hP.1 _ _ hp1), atI_nat (j := 0) rfl, _, rfl, _, _, _, v, rfl, rfl, SqT.of (hP.1 _ _ hpf), at_of (j := j) (by omega) ev, ?_⟩
        refine ⟨_, rfl, _, _, 0, _, rfl, rfl, SqT.of (hP.1 _ _ hp2), atI_nat (j := 0) rfl, _, rfl, _, _, _, u, rfl, rfl, SqT.of (hP.1 _ _ hpg), at_of (j := j) (by omega) eu, ?_⟩
        refine ⟨qa, qb, v, u, rfl, ra.same hP.1, rb.same hP.1, (bf j qa ea).mono (by decide), (bg j qb eb).mono (by decide), fun H4 v4 s4 r4 => ?_⟩
        have st := hP.step hD s4 r4 (by rw [List.length_take]; omega)
        rw [take_snoc (addR_get ea eb)] at st
        exact st
      · rintro H17 ⟨s17, acc, hacc, it⟩
        rw [List.take_of_length_le (by omega)] at it
        refine ⟨D, acc, rfl, .inl ⟨SqL.of hacc, fun l hl17 => ?_⟩⟩
        have s18 : Same H16 (upd H17 l (.tup acc)) := s17.trans (same_upd hl17)
        have R18 : IsRow (upd H17 l (.tup acc)) (addR f g) (.ref l) := ⟨l, acc, rfl, upd_same, it.tups (Tups.new hl17)⟩
        refine ⟨_, rfl, _, _, 1, _, rfl, rfl, SqT.of (s18 _ _ hp1), atI_nat (j := 1) rfl, _, rfl, _, _, 1, _, rfl, rfl, SqT.of (s18 _ _ hp2), atI_nat (j := 1) rfl, ?_⟩
        refine ⟨c, d, _, _, rfl, hc1.same s18, hd1.same s18, bc.mono (by decide), bd.mono (by decide), fun H19 v19 s19 r19 => ⟨two_fits, fun p20 h20 => ?_⟩⟩
        have s20 : Same H16 (upd H19 p20 (.tup [V.ref l, v19])) := (s18.trans s19).trans (same_upd h20)
        have U20 : IsForm (upd H19 p20 (.tup [V.ref l, v19])) (addR f g) (c + d) (.ref p20) := ⟨p20, _, _, rfl, upd_same, (R18.same s19).same (same_upd h20), r19.same (same_upd h20)⟩
        refine ⟨dForm _ _, dForm _ _, (T16.same s20).dp, U20.dp, shForm _ _, shForm _ _, _, rfl, ifSame (shForm _ _) ?_⟩
        have N20 := s20 _ _ N16
        have F20 := F16.same s20
        have X20 := X16.same s20
        have Y20 := Y16.same s20
        have A20 := A16.same s20
        clear R18 U20 it
        -- scaled
        refine ⟨_, rfl, _, rfl, a, f, c, va, .ref p1, rfl, A20, F20, bk ba, bkr bf, bk bc, by omega, fun H21 vs s21 S21 => ?_⟩
        have laf : (sclR a f).length = n := by rw [sclR_length, lf]
        have baf : BdR 30 (sclR a f) := (BdR.scl ba bf).mono (by decide)
        have bac : Bd 30 (a * c) := (ba.mul bc).mono (by decide)
        refine ⟨_, rfl, _, rfl, sclR a f, a * c, ys, vs, vy, rfl, S21, Y20.same s21, baf, bac, b5r bY, by omega, fun ne => ne (by omega), fun _ H22 v1 s22 r1 => ?_⟩
        have t22 := s21.trans s22
        refine ⟨_, rfl, _, rfl, _, rfl, f, c, ys, .ref p1, vy, rfl, F20.same t22, Y20.same t22, b5r bf, b5 bc, b5r bY, by omega, fun ne => ne (by omega), fun _ H23 v2 s23 r2 => ?_⟩
        have t23 := t22.trans s23
        refine ⟨a, _, va, v2, rfl, A20.same t23, r2, ba.mono (by decide), (bd_at (b5r bf) (b5r bY) (b5 bc) (by omega) (by omega)).mono (by decide), fun H24 v3 s24 r3 => ?_⟩
        rw [← law_scl a f ys c] at r3
        refine ⟨dR _, dR _, ((r1.same s23).same s24).dp, r3.dp, shR _, shR _, _, rfl, ifSame (shR _) ?_⟩
        have t24 := t23.trans s24
        obtain ⟨ps, _, wk, rfl, hps, _, hk⟩ := (S21.same (s22.trans s23)).same s24
        obtain ⟨_, _, wc2, ⟨⟩, hp24, _, hc24⟩ := F20.same t24
        refine ⟨_, rfl, _, _, 1, _, rfl, rfl, SqT.of hps, atI_nat (j := 1) rfl, _, rfl, _, rfl, _, _, 1, _, rfl, rfl, SqT.of hp24, atI_nat (j := 1) rfl, ?_⟩
        refine ⟨a, c, va, wc2, rfl, A20.same t24, hc24, ba.mono (by decide), bc.mono (by decide), fun H25 v4 s25 r4 => ?_⟩
        refine ⟨dR _, dR _, (hk.same s25).dp, r4.dp, shR _, shR _, _, rfl, ifSame (shR _) ?_⟩
        have t25 := t24.trans s25
        have N25 := t25 _ _ N20
        have F25 := F20.same t25
        have X25 := X20.same t25
        have Y25 := Y20.same t25
        have A25 := A20.same t25
        clear N20 F20 X20 Y20 A20 r1 r2 r3 r4 hk hc24
        -- mixed
        refine ⟨_, rfl, _, rfl, a, xs, va, vx, rfl, A25, X25, bk ba, bkr bx, by omega, fun H26 v1 s26 M1 => ?_⟩
        refine ⟨two_fits, fun p27 h27 => ?_⟩
        have s27 := s26.trans (same_upd (o := .tup [.int 1, .int 1]) h27)
        refine ⟨_, rfl, 1, a, .ref p27, va, rfl, isR_one upd_same, A25.same s27, bd_one.mono (by decide), ba.mono (by decide), fun H28 vm s28 m28 => ?_⟩
        have bm : Bd 7 (1 + -a) := (bd_one.add ba.neg).mono (by decide)
        have t28 := s27.trans s28
        refine ⟨_, rfl, 1 + -a, ys, vm, vy, rfl, m28, Y25.same t28, bm.mono (by decide), bkr bY, by omega, fun H29 v2 s29 M2 => ?_⟩
        have l1 : (sclR a xs).length = n := by rw [sclR_length, lx]
        have l2 : (sclR (1 + -a) ys).length = n := by rw [sclR_length, ly]
        have b1 : BdR 10 (sclR a xs) := BdR.scl ba bx
        have b2 : BdR 12 (sclR (1 + -a) ys) := BdR.scl bm bY
        have s26' : Same H26 H29 := ((same_upd h27).trans s28).trans s29
        refine ⟨_, _, v1, v2, rfl, M1.same s26', M2, b1.mono (by decide), b2.mono (by decide), by omega, fun ne => ne (by omega), fun _ H30 vx2 s30 M30 => ?_⟩
        have t30 := (t28.trans s29).trans s30
        have lM : (addR (sclR a xs) (sclR (1 + -a) ys)).length = n := by rw [addR_length _ _ (by omega), l1]
        have bM : BdR 30 (addR (sclR a xs) (sclR (1 + -a) ys)) := (b1.add b2).mono (by decide)
        have F30 := F25.same t30
        have X30 := X25.same t30
        have Y30 := Y25.same t30
        have A30 := A25.same t30
        have N30 := t30 _ _ N25
        clear F25 X25 Y25 A25 N25 M1 M2 m28
        -- due
        refine ⟨_, rfl, _, rfl, _, rfl, f, c, xs, .ref p1, vx, rfl, F30, X30, b5r bf, b5 bc, b5r bx, by omega, fun ne => ne (by omega), fun _ H31 v1 s31 r1 => ?_⟩
        have bv1 := bd_at (b5r bf) (b5r bx) (b5 bc) (by omega) (by omega)
        have bv2 := bd_at (b5r bf) (b5r bY) (b5 bc) (by omega) (by omega)
        refine ⟨a, _, va, v1, rfl, A30.same s31, r1, ba.mono (by decide), bv1.mono (by decide), fun H32 v2 s32 r2 => ?_⟩
        refine ⟨two_fits, fun p33 h33 => ?_⟩
        have t33 := (s31.trans s32).trans (same_upd (o := .tup [.int 1, .int 1]) h33)
        refine ⟨_, rfl, 1, a, .ref p33, va, rfl, isR_one upd_same, A30.same t33, bd_one.mono (by decide), ba.mono (by decide), fun H34 vm s34 m34 => ?_⟩
        have t34 := t33.trans s34
        refine ⟨_, rfl, _, rfl, f, c, ys, .ref p1, vy, rfl, F30.same t34, Y30.same t34, b5r bf, b5 bc, b5r bY, by omega, fun ne => ne (by omega), fun _ H35 v3 s35 r3 => ?_⟩
        refine ⟨1 + -a, _, vm, v3, rfl, m34.same s35, r3, bm.mono (by decide), bv2.mono (by decide), fun H36 v4 s36 r4 => ?_⟩
        have u36 : Same H32 H36 := (((same_upd h33).trans s34).trans s35).trans s36
        refine ⟨_, _, v2, v4, rfl, r2.same u36, r4, (ba.mul bv1).mono (by decide), (bm.mul bv2).mono (by decide), fun H37 vd s37 r5 => ?_⟩
        have t37 : Same H30 H37 := ((t34.trans s35).trans s36).trans s37
        rw [← law_mix a f xs ys c (by omega) (by omega)] at r5
        -- the value at the mixture
        refine ⟨_, rfl, _, rfl, f, c, _, .ref p1, vx2, rfl, F30.same t37, M30.same t37, b5r bf, b5 bc, bM, by omega, fun ne => ne (by omega), fun _ H38 v5 s38 r6 => ?_⟩
        refine ⟨_, rfl, dR _, dR _, r6.dp, (r5.same s38).dp, shR _, shR _, _, rfl, ifSame (shR _) ?_⟩
        have t38 := t37.trans s38
        -- rows of another width
        obtain ⟨m, hm, m24, hmn⟩ := wide_width hw n1 n24
        refine ⟨_, rfl, _, rfl, _, _, rfl, rfl, (by show (24 : Int) ≠ 0; decide), _, _, rfl, rfl, pn, ms, 50, _, m, rfl, hm, t38 _ _ N30, hl, m24, fun H39 k vk s39 K39 lk bkk => ?_⟩
        refine ⟨two_fits, fun p40 h40 => ⟨two_fits, fun p41 h41 => ?_⟩⟩
        have s41 : Same H39 (upd (upd H39 p40 (.tup [.int 0, .int 1])) p41 (.tup [vk, .ref p40])) := (same_upd h40).trans (same_upd h41)
        have W41 : IsForm (upd (upd H39 p40 (.tup [.int 0, .int 1])) p41 (.tup [vk, .ref p40])) k 0 (.ref p41) := ⟨p41, vk, .ref p40, rfl, upd_same, K39.same s41, (isR_zero upd_same).same (same_upd h41)⟩
        have F41 := F30.same ((t38.trans s39).trans s41)
        have b0 : Bd 30 (0 : Rat) := bd_zero.mono (by decide)
        refine ⟨_, rfl, _, rfl, 0, .ref p1, .ref p41, f, c, k, 0, rfl, F41, W41, b5r bf, b5 bc, b5r bkk, b0, by omega, by omega, true, rfl, ?_⟩
        refine ⟨_, rfl, _, rfl, 1, .ref p1, .ref p41, f, c, k, 0, rfl, F41, W41, b5r bf, b5 bc, b5r bkk, b0, by omega, by omega, true, rfl, ?_⟩
        exact ⟨_, rfl, _, rfl, 1, .ref p41, .ref p1, k, 0, f, c, rfl, W41, F41, b5r bkk, b0, b5r bf, b5 bc, by omega, by omega, q _⟩
end
end K4

namespace K4
open PySem PySem.Spec PyProof.Rows L2
/-- where a def stands behind the top -/
structure At (K : PySem.W.Frag) (x : Str) (st : Stmt) (f : Addr) (kV dc pm cd ct : Value) (an : Option Addr) : Prop where
  a : PySem.W.nsIn K mainGlobals x = some (some (.ref f))
  l : ∃ oc od sl, K.lookup f = some ⟨oc, od, .func (PySem.W.fnOf x x (defArgs st) (defBody st) (defScope st) .none kV dc pm an cd ct), sl⟩
  c : PySem.W.codeIn K cd x = true
  k : PySem.W.keepIn K (.ref f) = true
theorem At.fun_ {K : PySem.W.Frag} {x : Str} {st : Stmt} {f : Addr} {kV dc pm cd ct : Value} {an : Option Addr} (A : At K x st f kV dc pm cd ct an) : Fun K x x st f (PySem.W.fnOf x x (defArgs st) (defBody st) (defScope st) .none kV dc pm an cd ct) := by
  obtain ⟨oc, od, sl, l⟩ := A.l
  exact fun_mk (st := st) l A.c A.k
theorem At.can {P : Program} {w : World} {K : PySem.W.Frag} {mg : Str → Option Value} {base : Heap} {CX : CXT} {k : Nat} {sp : Sp} {ps : List Str} {h : Heap} {x : Str} {st : Stmt} {f : Addr} {kV dc pm cd ct : Value} {an : Option Addr} (A : At K x st f kV dc pm cd ct an) (X : K.In h) (G : h.Ns mainGlobals mg)
    (ok : FnOk P w K mg base CX k f (PySem.W.fnOf x x (defArgs st) (defBody st) (defScope st) .none kV dc pm an cd ct) ps sp)
    (hb : ∀ (kV doc pm : Value) (an : Option Addr) (cdv ct : Value) (us : List Value), us.length = ps.length → bindArgs (PySem.W.fnOf x x (defArgs st) (defBody st) (defScope st) .none kV doc pm an cdv ct) ⟨us, []⟩ = pure (ps.zip us)) :
    Can P w K mg base CX k x ps sp f (PySem.W.fnOf x x (defArgs st) (defBody st) (defScope st) .none kV dc pm an cd ct) :=
  ⟨ok, PySem.W.mg_of X G A.a, A.k, A.fun_.binds hb⟩
theorem at_mk {K : PySem.W.Frag} {x : Str} {st : Stmt} {f : Addr} {oc kV dc pm cd ct : Value} {od an : Option Addr} {sl : Array (Option Value)} (a : PySem.W.nsIn K mainGlobals x = some (some (.ref f)))
    (l : K.lookup f = some ⟨oc, od, .func (PySem.W.fnOf x x (defArgs st) (defBody st) (defScope st) .none kV dc pm an cd ct), sl⟩) (c : PySem.W.codeIn K cd x = true) (k : PySem.W.keepIn K (.ref f) = true) : At K x st f kV dc pm cd ct an := ⟨a, ⟨oc, od, sl, l⟩, c, k⟩
/-- isinstance's answer for an own class -/
theorem kit_ref {K : PySem.W.Frag} {C D : Addr} {b : Bool} (hd : PySem.W.hasDictIn K D = true) (ht : PySem.W.typeIn K (.ref D) = some (.type "type")) (hs : PySem.W.subIn K (.ref C) (.ref D) = some b) (he : C = D → b = true) : PySem.W.kitOne K (.ref C) (.ref D) = some b := by
  unfold PySem.W.kitOne
  by_cases e : ((Value.ref C == Value.ref D) = true)
  · rw [if_pos e, he (Value.ref.inj (beq_iff_eq.mp e))]
  · rw [if_neg e]
    have e2 : ((PySem.W.clsIn K D).isSome && PySem.W.typeIn K (.ref D) == some (.type "type")) = true := by
      rw [ht]
      unfold PySem.W.hasDictIn at hd
      obtain ⟨cd, hc, _⟩ := PySem.W.any_some hd
      rw [hc] <;> rfl
    show (if ((PySem.W.clsIn K D).isSome && PySem.W.typeIn K (.ref D) == some (.type "type")) = true then PySem.W.subIn K (.ref C) (.ref D) else none) = some b
    rw [if_pos e2, hs]
/-- the errors' classes -/
structure Cls3 (K : PySem.W.Frag) (C CK CB : Addr) : Prop where
  aC : PySem.W.nsIn K mainGlobals "NotAllowed" = some (some (.ref C))
  aK : PySem.W.nsIn K mainGlobals "KerbError" = some (some (.ref CK))
  aB : PySem.W.nsIn K mainGlobals "BadForm" = some (some (.ref CB))
  x : PySem.W.excIn K C [.type "ValueError", .type "Exception", .type "BaseException", .type "object"] "ValueError.__new__" = true
  kp : PySem.W.keepIn K (.ref C) = true
  b : PySem.W.subIn K (.ref C) (.type "BaseException") = some true
  t : PySem.W.typeIn K (.ref C) = some (.type "type")
  hg : PySem.W.findIn K (.ref C) "__getattribute__" = some (some (.builtin "BaseException.__getattribute__"))
  hk : PySem.W.findIn K (.ref C) "__getattr__" = some none
  hd : PySem.W.hasDictIn K C = true
  ha : PySem.W.findIn K (.ref C) "__class__" = some (some (.builtin "object.__class__"))
  hn : PySem.W.specialIn K (.builtin "object.__class__") "__get__" = some (some (.builtin "getset_descriptor.__get__"))
  ht : PySem.W.takesIn K (.builtin "object.__class__") = some true
  hm : PySem.W.mroIn K C (.type "object") = some true
  dK : PySem.W.hasDictIn K CK = true
  tK : PySem.W.typeIn K (.ref CK) = some (.type "type")
  sK : PySem.W.subIn K (.ref C) (.ref CK) = some true
  dB : PySem.W.hasDictIn K CB = true
  tB : PySem.W.typeIn K (.ref CB) = some (.type "type")
  sB : PySem.W.subIn K (.ref C) (.ref CB) = some false
  s : PySem.W.subIn K (.ref C) (.ref C) = some true
theorem Cls3.err {K : PySem.W.Frag} {mg : Str → Option Value} {h : Heap} {C CK CB : Addr} (c : Cls3 K C CK CB) (X : K.In h) (G : h.Ns mainGlobals mg) : ErrIs K mg C CK CB :=
  ⟨⟨PySem.W.mg_of X G c.aC, c.x, c.kp, c.b, c.t⟩, PySem.W.mg_of X G c.aK, PySem.W.mg_of X G c.aB, ⟨c.hg, c.hk, c.b, c.hd, c.ha, c.hn, c.ht, c.hm⟩, kit_ref c.dK c.tK c.sK (fun _ => rfl), kit_ref c.dB c.tB c.sB (fun e => by have z := c.sB; rw [← e, c.s] at z; cases z), PySem.W.exm_ref c.b c.hd c.t c.s⟩

set_option maxHeartbeats 8000000 in
theorem all_mk {P : Program} {w : World} {K : PySem.W.Frag} {h : Heap} {mg : Str → Option Value} {fa C CK CB f0 f1 f2 f3 f4 f5 f6 f7 f8 f9 f10 f11 f12 f13 f14 f15 f16 f17 f18 f19 f20 f21 f22 f23 f24 : Addr} {kV0 dc0 pm0 cd0 ct0 kV1 dc1 pm1 cd1 ct1 kV2 dc2 pm2 cd2 ct2 kV3 dc3 pm3 cd3 ct3 kV4 dc4 pm4 cd4 ct4 kV5 dc5 pm5 cd5 ct5 kV6 dc6 pm6 cd6 ct6 kV7 dc7 pm7 cd7 ct7 kV8 dc8 pm8 cd8 ct8 kV9 dc9 pm9 cd9 ct9 kV10 dc10 pm10 cd10 ct10 kV11 dc11 pm11 cd11 ct11 kV12 dc12 pm12 cd12 ct12 kV13 dc13 pm13 cd13 ct13 kV14 dc14 pm14 cd14 ct14 kV15 dc15 pm15 cd15 ct15 kV16 dc16 pm16 cd16 ct16 kV17 dc17 pm17 cd17 ct17 kV18 dc18 pm18 cd18 ct18 kV19 dc19 pm19 cd19 ct19 kV20 dc20 pm20 cd20 ct20 kV21 dc21 pm21 cd21 ct21 kV22 dc22 pm22 cd22 ct22 kV23 dc23 pm23 cd23 ct23 kV24 dc24 pm24 cd24 ct24 : Value} {an0 an1 an2 an3 an4 an5 an6 an7 an8 an9 an10 an11 an12 an13 an14 an15 an16 an17 an18 an19 an20 an21 an22 an23 an24 : Option Addr} (X : K.In h) (G : h.Ns mainGlobals mg) (hfa : mg "law" = some (.ref fa)) (c : Cls3 K C CK CB)
    (A0 : At K "common" sCommon f0 kV0 dc0 pm0 cd0 ct0 an0)
    (A1 : At K "ratio" sRatio f1 kV1 dc1 pm1 cd1 ct1 an1)
    (A2 : At K "of_int" sOfInt f2 kV2 dc2 pm2 cd2 ct2 an2)
    (A3 : At K "plus" sPlus f3 kV3 dc3 pm3 cd3 ct3 an3)
    (A4 : At K "negated" sNeg f4 kV4 dc4 pm4 cd4 ct4 an4)
    (A5 : At K "minus" sMinus f5 kV5 dc5 pm5 cd5 ct5 an5)
    (A6 : At K "times" sTimes f6 kV6 dc6 pm6 cd6 ct6 an6)
    (A7 : At K "check_widths" sCheck f7 kV7 dc7 pm7 cd7 ct7 an7)
    (A8 : At K "add_rows" sAddRows f8 kV8 dc8 pm8 cd8 ct8 an8)
    (A9 : At K "scale_row" sScaleRow f9 kV9 dc9 pm9 cd9 ct9 an9)
    (A10 : At K "product" sProduct f10 kV10 dc10 pm10 cd10 ct10 an10)
    (A11 : At K "value_at" sValue f11 kV11 dc11 pm11 cd11 ct11 an11)
    (A12 : At K "add_forms" sAddForms f12 kV12 dc12 pm12 cd12 ct12 an12)
    (A13 : At K "scale_form" sScaleForm f13 kV13 dc13 pm13 cd13 ct13 an13)
    (A14 : At K "_law_stream" sStream f14 kV14 dc14 pm14 cd14 ct14 an14)
    (A15 : At K "_law_pick" sPick f15 kV15 dc15 pm15 cd15 ct15 an15)
    (A16 : At K "_law_gcd" sLGcd f16 kV16 dc16 pm16 cd16 ct16 an16)
    (A17 : At K "_law_ratio" sLRatio f17 kV17 dc17 pm17 cd17 ct17 an17)
    (A18 : At K "_law_plus" sLPlus f18 kV18 dc18 pm18 cd18 ct18 an18)
    (A19 : At K "_law_times" sLTimes f19 kV19 dc19 pm19 cd19 ct19 an19)
    (A20 : At K "_law_small" sSmall f20 kV20 dc20 pm20 cd20 ct20 an20)
    (A21 : At K "_law_row" sLRow f21 kV21 dc21 pm21 cd21 ct21 an21)
    (A22 : At K "_law_value" sLValue f22 kV22 dc22 pm22 cd22 ct22 an22)
    (A23 : At K "_law_refused" sRefused f23 kV23 dc23 pm23 cd23 ct23 an23)
    (A24 : At K "law" sLaw f24 kV24 dc24 pm24 cd24 ct24 an24)
    (z_abs : PySem.W.nsIn K mainGlobals "abs" = some none)
    (z_len : PySem.W.nsIn K mainGlobals "len" = some none)
    (z_zip : PySem.W.nsIn K mainGlobals "zip" = some none)
    (z_tuple : PySem.W.nsIn K mainGlobals "tuple" = some none)
    (z_int : PySem.W.nsIn K mainGlobals "int" = some none)
    (z_range : PySem.W.nsIn K mainGlobals "range" = some none)
    (z_isinstance : PySem.W.nsIn K mainGlobals "isinstance" = some none)
    : ∃ fd : FuncData, (∀ (s : Shared) (v : Value), BindsTo s fd ⟨[v], []⟩ [("_law_script", v)]) ∧ ∀ base : Heap, K.In base → base.Ns mainGlobals mg → FnOk P w K mg base CX0 7 fa fd ["_law_script"] (spLaw K) := by
  have e := hfa.symm.trans (PySem.W.mg_of X G A24.a)
  cases e
  have T := c.err X G
  have m_abs := PySem.W.mg_none_of X G z_abs
  have m_len := PySem.W.mg_none_of X G z_len
  have m_zip := PySem.W.mg_none_of X G z_zip
  have m_tuple := PySem.W.mg_none_of X G z_tuple
  have m_int := PySem.W.mg_none_of X G z_int
  have m_range := PySem.W.mg_none_of X G z_range
  have m_isinstance := PySem.W.mg_none_of X G z_isinstance
  refine ⟨PySem.W.fnOf "law" "law" (defArgs sLaw) (defBody sLaw) (defScope sLaw) .none kV24 dc24 pm24 an24 cd24 ct24, fun s v => .of_eq rfl, fun base _ _ => ?_⟩
  have c0 := A0.can (P := P) (w := w) (base := base) X G (ok_common (k := 0) A0.fun_ m_abs) (fun _ _ _ _ _ _ us hl => match us, hl with | [_, _], _ => rfl)
  have c1 := A1.can (P := P) (w := w) (base := base) X G (ok_ratio A1.fun_ c0) (fun _ _ _ _ _ _ us hl => match us, hl with | [_, _], _ => rfl)
  have c2 := A2.can (P := P) (w := w) (base := base) X G (ok_ofInt (k := 0) A2.fun_) (fun _ _ _ _ _ _ us hl => match us, hl with | [_], _ => rfl)
  have c3 := A3.can (P := P) (w := w) (base := base) X G (ok_plus A3.fun_ c1) (fun _ _ _ _ _ _ us hl => match us, hl with | [_, _], _ => rfl)
  have c4 := A4.can (P := P) (w := w) (base := base) X G (ok_neg (k := 0) A4.fun_) (fun _ _ _ _ _ _ us hl => match us, hl with | [_], _ => rfl)
  have c5 := A5.can (P := P) (w := w) (base := base) X G (ok_minus A5.fun_ c3 c4) (fun _ _ _ _ _ _ us hl => match us, hl with | [_, _], _ => rfl)
  have c6 := A6.can (P := P) (w := w) (base := base) X G (ok_times A6.fun_ c1) (fun _ _ _ _ _ _ us hl => match us, hl with | [_, _], _ => rfl)
  have c7 := A7.can (P := P) (w := w) (base := base) X G (ok_check (k := 0) A7.fun_ T.e m_len) (fun _ _ _ _ _ _ us hl => match us, hl with | [_, _], _ => rfl)
  have c8 := A8.can (P := P) (w := w) (base := base) X G (ok_addRows A8.fun_ c7 c3 m_zip m_tuple) (fun _ _ _ _ _ _ us hl => match us, hl with | [_, _], _ => rfl)
  have c9 := A9.can (P := P) (w := w) (base := base) X G (ok_scaleRow A9.fun_ c6 m_tuple) (fun _ _ _ _ _ _ us hl => match us, hl with | [_, _], _ => rfl)
  have c10 := A10.can (P := P) (w := w) (base := base) X G (ok_product A10.fun_ c7 c3 c6 c2 m_zip) (fun _ _ _ _ _ _ us hl => match us, hl with | [_, _], _ => rfl)
  have c11 := A11.can (P := P) (w := w) (base := base) X G (ok_value A11.fun_ c10 c3) (fun _ _ _ _ _ _ us hl => match us, hl with | [_, _], _ => rfl)
  have c12 := A12.can (P := P) (w := w) (base := base) X G (ok_addForms A12.fun_ c8 c3) (fun _ _ _ _ _ _ us hl => match us, hl with | [_, _], _ => rfl)
  have c13 := A13.can (P := P) (w := w) (base := base) X G (ok_scaleForm A13.fun_ c9 c6) (fun _ _ _ _ _ _ us hl => match us, hl with | [_, _], _ => rfl)
  have c14 := A14.can (P := P) (w := w) (base := base) X G (ok_stream (k := 0) A14.fun_ m_int m_range m_len) (fun _ _ _ _ _ _ us hl => match us, hl with | [_], _ => rfl)
  have c15 := A15.can (P := P) (w := w) (base := base) X G (ok_pick (k := 0) A15.fun_ m_int m_len) (fun _ _ _ _ _ _ us hl => match us, hl with | [_, _, _], _ => rfl)
  have c16 := A16.can (P := P) (w := w) (base := base) X G (ok_lgcd (k := 0) A16.fun_ m_abs m_int m_range) (fun _ _ _ _ _ _ us hl => match us, hl with | [_, _], _ => rfl)
  have c17 := A17.can (P := P) (w := w) (base := base) X G (ok_lratio A17.fun_ c16) (fun _ _ _ _ _ _ us hl => match us, hl with | [_, _], _ => rfl)
  have c18 := A18.can (P := P) (w := w) (base := base) X G (ok_lplus A18.fun_ c17) (fun _ _ _ _ _ _ us hl => match us, hl with | [_, _], _ => rfl)
  have c19 := A19.can (P := P) (w := w) (base := base) X G (ok_ltimes A19.fun_ c17) (fun _ _ _ _ _ _ us hl => match us, hl with | [_, _], _ => rfl)
  have c20 := A20.can (P := P) (w := w) (base := base) X G (ok_small A20.fun_ c17 c15) (fun _ _ _ _ _ _ us hl => match us, hl with | [_, _], _ => rfl)
  have c21 := A21.can (P := P) (w := w) (base := base) X G (ok_lrow A21.fun_ c20 m_range m_tuple) (fun _ _ _ _ _ _ us hl => match us, hl with | [_, _, _], _ => rfl)
  have c22 := A22.can (P := P) (w := w) (base := base) X G (ok_lvalue A22.fun_ c18 c19 m_range m_len) (fun _ _ _ _ _ _ us hl => match us, hl with | [_, _], _ => rfl)
  have c23 := A23.can (P := P) (w := w) (base := base) X G (ok_refused A23.fun_ T c11 c12 m_isinstance) (fun _ _ _ _ _ _ us hl => match us, hl with | [_, _, _], _ => rfl)
  exact ok_law (C := C) A24.fun_ ⟨⟨_, _, c14⟩, ⟨_, _, c15⟩, ⟨_, _, c21⟩, ⟨_, _, c20⟩, ⟨_, _, c11⟩, ⟨_, _, c22⟩, ⟨_, _, c12⟩, ⟨_, _, c3⟩, ⟨_, _, c18⟩, ⟨_, _, c13⟩, ⟨_, _, c6⟩, ⟨_, _, c19⟩, ⟨_, _, c8⟩, ⟨_, _, c9⟩, ⟨_, _, c5⟩, ⟨_, _, c23⟩⟩ m_range m_len m_tuple m_isinstance
end K4
open PySem PySem.W PyProof.Rows
set_option maxRecDepth 100000 in
set_option maxHeartbeats 0 in
theorem PySem.Challenge.cw_kerbside_k04_whole_forms_are_linear_holds : PySem.Challenge.rw_kerbside_k04_whole_forms_are_linear.Holds := by
  w_on; o_law; k_head; (case hw => w_witness2)
  k_fill
  refine L2.walk_of (l := PySem.Challenge.rw_kerbside_k04_whole_forms_are_linear) (n := 63) (k := 7) (x := "_law_script") (CX := fun _ => L2.CX0) (sp := fun w => K4.spLaw _) rfl (by decide) rfl ⟨rfl, by decide, by decide⟩ (fun w h Y => PySem.W.kIn_of Y) ?F (fun _ _ a ns hl _ hS => ⟨a, ns, rfl, hS, hl, fun _ => rfl⟩) (fun _ _ _ _ _ h => h)
  case F =>
    intro w mg fa h KX G hmg
    refine' K4.all_mk KX G hmg ⟨?aC, ?aK, ?aB, ?x, ?kp, ?b, ?t, ?hg, ?hk, ?hd, ?ha, ?hn, ?ht, ?hm, ?dK, ?tK, ?sK, ?dB, ?tB, ?sB, ?s⟩
      (K4.at_mk ?a0 ?l0 ?c0 ?k0)
      (K4.at_mk ?a1 ?l1 ?c1 ?k1)
      (K4.at_mk ?a2 ?l2 ?c2 ?k2)
      (K4.at_mk ?a3 ?l3 ?c3 ?k3)
      (K4.at_mk ?a4 ?l4 ?c4 ?k4)
      (K4.at_mk ?a5 ?l5 ?c5 ?k5)
      (K4.at_mk ?a6 ?l6 ?c6 ?k6)
      (K4.at_mk ?a7 ?l7 ?c7 ?k7)
      (K4.at_mk ?a8 ?l8 ?c8 ?k8)
      (K4.at_mk ?a9 ?l9 ?c9 ?k9)
      (K4.at_mk ?a10 ?l10 ?c10 ?k10)
      (K4.at_mk ?a11 ?l11 ?c11 ?k11)
      (K4.at_mk ?a12 ?l12 ?c12 ?k12)
      (K4.at_mk ?a13 ?l13 ?c13 ?k13)
      (K4.at_mk ?a14 ?l14 ?c14 ?k14)
      (K4.at_mk ?a15 ?l15 ?c15 ?k15)
      (K4.at_mk ?a16 ?l16 ?c16 ?k16)
      (K4.at_mk ?a17 ?l17 ?c17 ?k17)
      (K4.at_mk ?a18 ?l18 ?c18 ?k18)
      (K4.at_mk ?a19 ?l19 ?c19 ?k19)
      (K4.at_mk ?a20 ?l20 ?c20 ?k20)
      (K4.at_mk ?a21 ?l21 ?c21 ?k21)
      (K4.at_mk ?a22 ?l22 ?c22 ?k22)
      (K4.at_mk ?a23 ?l23 ?c23 ?k23)
      (K4.at_mk ?a24 ?l24 ?c24 ?k24)
      ?zabs ?zlen ?zzip ?ztuple ?zint ?zrange ?zisinstance
    (case aC => k_is)
    (case aK => k_is)
    (case aB => k_is)
    (case x => k_exc)
    (case kp => k_is)
    (case b => k_is)
    (case t => k_is)
    (case hg => k_is)
    (case hk => k_is)
    (case hd => k_is)
    (case ha => k_is)
    (case hn => k_is)
    (case ht => k_is)
    (case hm => k_is)
    (case dK => k_is)
    (case tK => k_is)
    (case sK => k_is)
    (case dB => k_is)
    (case tB => k_is)
    (case sB => k_is)
    (case s => first | rfl | k_is)
    (case a0 => k_is); (case l0 => k_is); (case c0 => k_is); (case k0 => k_is)
    (case a1 => k_is); (case l1 => k_is); (case c1 => k_is); (case k1 => k_is)
    (case a2 => k_is); (case l2 => k_is); (case c2 => k_is); (case k2 => k_is)
    (case a3 => k_is); (case l3 => k_is); (case c3 => k_is); (case k3 => k_is)
    (case a4 => k_is); (case l4 => k_is); (case c4 => k_is); (case k4 => k_is)
    (case a5 => k_is); (case l5 => k_is); (case c5 => k_is); (case k5 => k_is)
    (case a6 => k_is); (case l6 => k_is); (case c6 => k_is); (case k6 => k_is)
    (case a7 => k_is); (case l7 => k_is); (case c7 => k_is); (case k7 => k_is)
    (case a8 => k_is); (case l8 => k_is); (case c8 => k_is); (case k8 => k_is)
    (case a9 => k_is); (case l9 => k_is); (case c9 => k_is); (case k9 => k_is)
    (case a10 => k_is); (case l10 => k_is); (case c10 => k_is); (case k10 => k_is)
    (case a11 => k_is); (case l11 => k_is); (case c11 => k_is); (case k11 => k_is)
    (case a12 => k_is); (case l12 => k_is); (case c12 => k_is); (case k12 => k_is)
    (case a13 => k_is); (case l13 => k_is); (case c13 => k_is); (case k13 => k_is)
    (case a14 => k_is); (case l14 => k_is); (case c14 => k_is); (case k14 => k_is)
    (case a15 => k_is); (case l15 => k_is); (case c15 => k_is); (case k15 => k_is)
    (case a16 => k_is); (case l16 => k_is); (case c16 => k_is); (case k16 => k_is)
    (case a17 => k_is); (case l17 => k_is); (case c17 => k_is); (case k17 => k_is)
    (case a18 => k_is); (case l18 => k_is); (case c18 => k_is); (case k18 => k_is)
    (case a19 => k_is); (case l19 => k_is); (case c19 => k_is); (case k19 => k_is)
    (case a20 => k_is); (case l20 => k_is); (case c20 => k_is); (case k20 => k_is)
    (case a21 => k_is); (case l21 => k_is); (case c21 => k_is); (case k21 => k_is)
    (case a22 => k_is); (case l22 => k_is); (case c22 => k_is); (case k22 => k_is)
    (case a23 => k_is); (case l23 => k_is); (case c23 => k_is); (case k23 => k_is)
    (case a24 => k_is); (case l24 => k_is); (case c24 => k_is); (case k24 => k_is)
    (case zabs => k_is)
    (case zlen => k_is)
    (case zzip => k_is)
    (case ztuple => k_is)
    (case zint => k_is)
    (case zrange => k_is)
    (case zisinstance => k_is)
