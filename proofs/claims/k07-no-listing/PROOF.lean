import PyProof.Rows.All
import Wide.All
import OpenK.AllK
import Wide.FinOn
import KE.KStateDown
import HandS.ForMost
import HandS.ForExc
import HandS.Evl
import HandS.Defaults
import HandS.IsInst
import HandS.Conv
import HandS.Style
import HandS.Wide
import HandS.Rev
import HandS.Zip
import HandS.More
import HandS.Dict
import HandS.TupLen
import HandS.Head0
import HandS.Head1
import HandS.Head2
import HandS.HeadEnd
import HandS.HeadHook1
import HandS.HeadHook2
import HandS.ExcIs
import HandS.ExcOwn
import HandS.ExcCtx
import HandS.Hot
import HandS.HotCalls
import HandS.Comp
import PySem.Challenge.RW_onechange_k07_no_listing
set_option Elab.async false
set_option linter.all false
set_option maxRecDepth 100000
set_option maxHeartbeats 4000000
/-! Switches: the plain law. -/
namespace Oc
/-! ### powers of two, bits -/
def p2 : Nat → Int
  | 0 => 1
  | n + 1 => 2 * p2 n
theorem p2_pos : ∀ n, 0 < p2 n
  | 0 => by decide
  | n + 1 => by have := p2_pos n; show 0 < 2 * p2 n; omega
theorem p2_succ (n : Nat) : p2 (n + 1) = 2 * p2 n := rfl
theorem p2_le {n m : Nat} (h : n ≤ m) : p2 n ≤ p2 m := by
  induction m with
  | zero => have e : n = 0 := by omega
            rw [e]; exact Int.le_refl _
  | succ k ih =>
    by_cases e : n = k + 1
    · rw [e]; exact Int.le_refl _
    · have h1 := ih (by omega)
      have h2 := p2_pos k
      rw [p2_succ]; omega
theorem p2_40 : p2 40 = 1099511627776 := by decide +kernel
/-- the figures of x, the least one first -/
def bitsF : Nat → Int → List Int
  | 0, _ => []
  | n + 1, x => x % 2 :: bitsF n (x / 2)
theorem bitsF_len : ∀ n x, (bitsF n x).length = n
  | 0, _ => rfl
  | n + 1, x => by show (bitsF n (x / 2)).length + 1 = n + 1; rw [bitsF_len n]
/-- neighbours' sums -/
def grayF : List Int → List Int
  | [] => []
  | b :: r => (b + r.headD 0) % 2 :: grayF r
theorem grayF_len : ∀ l, (grayF l).length = l.length
  | [] => rfl
  | _ :: r => by show (grayF r).length + 1 = r.length + 1; rw [grayF_len r]
def swPut (n : Nat) (x : Int) : List Int := grayF (bitsF n x)
theorem swPut_len (n : Nat) (x : Int) : (swPut n x).length = n := by unfold swPut; rw [grayF_len, bitsF_len]
theorem swPut_zero (x : Int) : swPut 0 x = [] := rfl
theorem swPut_one (x : Int) : swPut 1 x = [x % 2] := by
  show [(x % 2 + 0) % 2] = [x % 2]
  rw [show (x % 2 + 0) % 2 = x % 2 by omega]
theorem swPut_succ (n : Nat) (x : Int) : swPut (n + 2) x = (x % 2 + x / 2 % 2) % 2 :: swPut (n + 1) (x / 2) := rfl
/-- a list of figures -/
def Bits (l : List Int) : Prop := ∀ v ∈ l, v = 0 ∨ v = 1
theorem Bits.nil : Bits [] := fun v h => nomatch h
theorem Bits.cons {b : Int} {l : List Int} (h : b = 0 ∨ b = 1) (t : Bits l) : Bits (b :: l) := fun v hv => by
  rcases List.mem_cons.mp hv with e | hv
  · rw [e]; exact h
  · exact t v hv
theorem Bits.tail {b : Int} {l : List Int} (h : Bits (b :: l)) : Bits l := fun v hv => h v (List.mem_cons_of_mem _ hv)
theorem Bits.head {b : Int} {l : List Int} (h : Bits (b :: l)) : b = 0 ∨ b = 1 := h b List.mem_cons_self
theorem Bits.hd0 : ∀ {l : List Int}, Bits l → l.headD 0 = 0 ∨ l.headD 0 = 1
  | [], _ => .inl rfl
  | _ :: _, h => h.head
theorem bitsF_bits : ∀ n x, Bits (bitsF n x)
  | 0, _ => Bits.nil
  | n + 1, x => Bits.cons (by omega) (bitsF_bits n (x / 2))
theorem grayF_bits : ∀ l, Bits (grayF l)
  | [] => Bits.nil
  | b :: r => Bits.cons (by omega) (grayF_bits r)
theorem swPut_bits (n : Nat) (x : Int) : Bits (swPut n x) := grayF_bits _
/-! ### back -/
def ungray : List Int → List Int
  | [] => []
  | t :: r => ((ungray r).headD 0 + t) % 2 :: ungray r
theorem ungray_len : ∀ l, (ungray l).length = l.length
  | [] => rfl
  | _ :: r => by show (ungray r).length + 1 = r.length + 1; rw [ungray_len r]
theorem ungray_bits : ∀ l, Bits (ungray l)
  | [] => Bits.nil
  | t :: r => Bits.cons (by omega) (ungray_bits r)
theorem ungray_gray : ∀ l, Bits l → ungray (grayF l) = l
  | [], _ => rfl
  | b :: r, h => by
    show ((ungray (grayF r)).headD 0 + (b + r.headD 0) % 2) % 2 :: ungray (grayF r) = b :: r
    rw [ungray_gray r h.tail]
    have h1 := h.head
    have h2 := h.tail.hd0
    rw [show (r.headD 0 + (b + r.headD 0) % 2) % 2 = b by omega]
theorem gray_ungray : ∀ l, Bits l → grayF (ungray l) = l
  | [], _ => rfl
  | t :: r, h => by
    show (((ungray r).headD 0 + t) % 2 + (ungray r).headD 0) % 2 :: grayF (ungray r) = t :: r
    rw [gray_ungray r h.tail]
    have h1 := h.head
    have h2 := (ungray_bits r).hd0
    rw [show (((ungray r).headD 0 + t) % 2 + (ungray r).headD 0) % 2 = t by omega]
def valF : List Int → Int
  | [] => 0
  | b :: r => 2 * valF r + b
theorem valF_bits : ∀ n x, 0 ≤ x → x < p2 n → valF (bitsF n x) = x
  | 0, x, h0, h1 => by have h2 : x < 1 := h1
                       show (0 : Int) = x
                       omega
  | n + 1, x, h0, h1 => by
    rw [p2_succ] at h1
    show 2 * valF (bitsF n (x / 2)) + x % 2 = x
    rw [valF_bits n (x / 2) (by omega) (by omega)]
    omega
theorem valF_range : ∀ l, Bits l → 0 ≤ valF l ∧ valF l < p2 l.length
  | [], _ => ⟨Int.le_refl _, by decide⟩
  | b :: r, h => by
    obtain ⟨h1, h2⟩ := valF_range r h.tail
    have h3 := h.head
    show 0 ≤ 2 * valF r + b ∧ 2 * valF r + b < 2 * p2 r.length
    omega
theorem bits_valF : ∀ l, Bits l → bitsF l.length (valF l) = l
  | [], _ => rfl
  | b :: r, h => by
    have h3 := h.head
    show (2 * valF r + b) % 2 :: bitsF r.length ((2 * valF r + b) / 2) = b :: r
    rw [show (2 * valF r + b) / 2 = valF r by omega, show (2 * valF r + b) % 2 = b by omega, bits_valF r h.tail]
def swFound (t : List Int) : Int := valF (ungray t)
theorem swFound_range (t : List Int) : 0 ≤ swFound t ∧ swFound t < p2 t.length := by
  have h := valF_range (ungray t) (ungray_bits t)
  rw [ungray_len] at h
  exact h
theorem swFound_put {n : Nat} {x : Int} (h0 : 0 ≤ x) (h1 : x < p2 n) : swFound (swPut n x) = x := by
  unfold swFound swPut
  rw [ungray_gray _ (bitsF_bits n x), valF_bits n x h0 h1]
theorem swPut_found {t : List Int} (h : Bits t) : swPut t.length (swFound t) = t := by
  unfold swFound swPut
  have e := bits_valF (ungray t) (ungray_bits t)
  rw [ungray_len] at e
  rw [e, gray_ungray t h]
/-! ### the place that changes -/
/-- how many ones stand at the end, at most n - 1 -/
def chg : Nat → Int → Nat
  | 0, _ => 0
  | 1, _ => 0
  | n + 2, x => if x % 2 = 1 then chg (n + 1) (x / 2) + 1 else 0
theorem chg_lt : ∀ n x, chg (n + 1) x < n + 1
  | 0, _ => by show 0 < 1; decide
  | n + 1, x => by
    show (if x % 2 = 1 then chg (n + 1) (x / 2) + 1 else 0) < n + 2
    split
    · have := chg_lt n (x / 2); omega
    · omega
/-- b is a with the place j otherwise -/
def flip : List Int → Nat → List Int
  | [], _ => []
  | b :: r, 0 => (1 - b) :: r
  | b :: r, j + 1 => b :: flip r j
theorem flip_len : ∀ l j, (flip l j).length = l.length
  | [], _ => rfl
  | _ :: _, 0 => rfl
  | _ :: r, j + 1 => by show (flip r j).length + 1 = r.length + 1; rw [flip_len r j]
theorem flip_flip : ∀ l j, flip (flip l j) j = l
  | [], _ => rfl
  | b :: r, 0 => by show (1 - (1 - b)) :: r = b :: r
                    rw [show 1 - (1 - b) = b by omega]
  | b :: r, j + 1 => by show b :: flip (flip r j) j = b :: r
                        rw [flip_flip r j]
theorem flip_bits : ∀ l j, Bits l → Bits (flip l j)
  | [], _, h => h
  | b :: r, 0, h => Bits.cons (by have := h.head; omega) h.tail
  | b :: r, j + 1, h => Bits.cons h.head (flip_bits r j h.tail)
theorem flip_get : ∀ l j k, (flip l j)[k]? = if k = j then l[k]?.map (1 - ·) else l[k]?
  | [], j, k => by simp [flip]
  | b :: r, 0, 0 => by simp [flip]
  | b :: r, 0, k + 1 => by simp [flip]
  | b :: r, j + 1, 0 => by simp [flip]
  | b :: r, j + 1, k + 1 => by
    show (flip r j)[k]? = _
    rw [flip_get r j k]
    simp
theorem next_odd {n : Nat} {x : Int} (h0 : 0 ≤ x) (h1 : x < p2 (n + 1)) (ho : x % 2 = 1) : (x + 1) % p2 (n + 1) % 2 = 0 ∧ (x + 1) % p2 (n + 1) / 2 = (x / 2 + 1) % p2 n := by
  rw [p2_succ] at h1 ⊢
  have hp := p2_pos n
  by_cases h : x + 1 < 2 * p2 n
  · rw [Int.emod_eq_of_lt (by omega) h, Int.emod_eq_of_lt (b := p2 n) (by omega) (by omega)]
    omega
  · have e : x + 1 = 2 * p2 n := by omega
    have e2 : x / 2 + 1 = p2 n := by omega
    rw [e, e2, Int.emod_self, Int.emod_self]
    decide
/-- THE LAW of the change: the thing of the next number is that of the number, with the place chg otherwise -/
theorem swPut_next : ∀ (n : Nat) (x : Int), 0 ≤ x → x < p2 (n + 1) → swPut (n + 1) ((x + 1) % p2 (n + 1)) = flip (swPut (n + 1) x) (chg (n + 1) x)
  | 0, x, h0, h1 => by
    have h2 : x < 2 := h1
    rw [swPut_one, swPut_one]
    show [(x + 1) % 2 % 2] = [1 - x % 2]
    rw [show (x + 1) % 2 % 2 = 1 - x % 2 by omega]
  | n + 1, x, h0, h1 => by
    by_cases ho : x % 2 = 1
    · obtain ⟨a, b⟩ := next_odd h0 h1 ho
      have h1' := h1
      rw [p2_succ] at h1'
      have ih := swPut_next n (x / 2) (by omega) (by omega)
      rw [swPut_succ, swPut_succ, a, b, ih]
      show _ = flip (_ :: _) (if x % 2 = 1 then chg (n + 1) (x / 2) + 1 else 0)
      rw [if_pos ho]
      show _ = _ :: flip _ _
      have e : (x / 2 + 1) % p2 (n + 1) % 2 = (x / 2 + 1) % 2 := by
        exact Int.emod_emod_of_dvd _ ⟨p2 n, rfl⟩
      rw [e, show (0 + (x / 2 + 1) % 2) % 2 = (x % 2 + x / 2 % 2) % 2 by omega]
    · have hp := p2_pos n
      have h1' := h1
      rw [p2_succ, p2_succ] at h1'
      have e : (x + 1) % p2 (n + 2) = x + 1 := Int.emod_eq_of_lt (by omega) (by rw [p2_succ, p2_succ]; omega)
      rw [show n + 1 + 1 = n + 2 from rfl, e, swPut_succ, swPut_succ]
      show _ = flip (_ :: _) (if x % 2 = 1 then chg (n + 1) (x / 2) + 1 else 0)
      rw [if_neg ho]
      show _ = (1 - _) :: _
      rw [show (x + 1) / 2 = x / 2 by omega, show ((x + 1) % 2 + x / 2 % 2) % 2 = 1 - (x % 2 + x / 2 % 2) % 2 by omega]
/-! ### by the last switch -/
theorem swPut_low : ∀ (n : Nat) (x : Int), 0 ≤ x → x < p2 n → swPut (n + 1) x = swPut n x ++ [0]
  | 0, x, h0, h1 => by
    have h2 : x < 1 := h1
    rw [swPut_one, swPut_zero, show x = 0 by omega]
    rfl
  | 1, x, h0, h1 => by
    have h2 : x < 2 := h1
    rw [swPut_succ, swPut_one, swPut_one, show x / 2 = 0 by omega, show (x % 2 + 0 % 2) % 2 = x % 2 by omega]
    rfl
  | n + 2, x, h0, h1 => by
    rw [p2_succ] at h1
    rw [swPut_succ (n + 1), swPut_low (n + 1) (x / 2) (by omega) (by omega), swPut_succ n]
    rfl
theorem swPut_high : ∀ (n : Nat) (x : Int), p2 n ≤ x → x < p2 (n + 1) → swPut (n + 1) x = swPut n (p2 (n + 1) - 1 - x) ++ [1]
  | 0, x, h0, h1 => by
    have h2 : x < 2 := h1
    have h3 : 1 ≤ x := h0
    rw [swPut_one, swPut_zero, show x = 1 by omega]
    rfl
  | 1, x, h0, h1 => by
    have h2 : x < 4 := h1
    have h3 : 2 ≤ x := h0
    rw [show p2 (1 + 1) = 4 from rfl, swPut_succ, swPut_one, swPut_one, show x / 2 = 1 by omega, show (x % 2 + 1 % 2) % 2 = (4 - 1 - x) % 2 by omega]
    rfl
  | n + 2, x, h0, h1 => by
    have e : p2 (n + 2 + 1) = 2 * p2 (n + 2) := p2_succ (n + 2)
    have e2 : p2 (n + 2) = 2 * p2 (n + 1) := p2_succ (n + 1)
    have e3 : p2 (n + 1 + 1) = p2 (n + 2) := rfl
    rw [swPut_succ (n + 1), swPut_high (n + 1) (x / 2) (by omega) (by omega), swPut_succ n]
    rw [show (p2 (n + 2 + 1) - 1 - x) / 2 = p2 (n + 1 + 1) - 1 - x / 2 by omega,
      show ((p2 (n + 2 + 1) - 1 - x) % 2 + (p2 (n + 1 + 1) - 1 - x / 2) % 2) % 2 = (x % 2 + x / 2 % 2) % 2 by omega]
    rfl
/-! ### all on, all off, the last one alone -/
theorem hd_ones : ∀ n : Nat, (ungray (List.replicate n 1)).headD 0 = (n : Int) % 2
  | 0 => rfl
  | n + 1 => by
    show ((ungray (List.replicate n 1)).headD 0 + 1) % 2 = ((n + 1 : Nat) : Int) % 2
    rw [hd_ones n]
    omega
theorem sw_ones : ∀ n : Nat, 3 * swFound (List.replicate n 1) = 2 * p2 n - 1 - (if (n : Int) % 2 = 0 then 1 else 0)
  | 0 => rfl
  | n + 1 => by
    have ih := sw_ones n
    have h := hd_ones n
    show 3 * (2 * swFound (List.replicate n 1) + ((ungray (List.replicate n 1)).headD 0 + 1) % 2) = 2 * (2 * p2 n) - 1 - _
    rw [h]
    by_cases e : (n : Int) % 2 = 0
    · rw [if_pos e] at ih
      rw [if_neg (by omega)]
      omega
    · rw [if_neg e] at ih
      rw [if_pos (by omega)]
      omega
theorem hd_zeros : ∀ n : Nat, (ungray (List.replicate n 0)).headD 0 = 0
  | 0 => rfl
  | n + 1 => by
    show ((ungray (List.replicate n 0)).headD 0 + 0) % 2 = 0
    rw [hd_zeros n]
    rfl
theorem sw_zeros : ∀ n : Nat, swFound (List.replicate n 0) = 0
  | 0 => rfl
  | n + 1 => by
    show 2 * swFound (List.replicate n 0) + ((ungray (List.replicate n 0)).headD 0 + 0) % 2 = 0
    rw [sw_zeros n, hd_zeros n]
    rfl
theorem hd_last : ∀ n : Nat, (ungray (List.replicate n 0 ++ [1])).headD 0 = 1
  | 0 => rfl
  | n + 1 => by
    show ((ungray (List.replicate n 0 ++ [1])).headD 0 + 0) % 2 = 1
    rw [hd_last n]
    rfl
theorem sw_last : ∀ n : Nat, swFound (List.replicate n 0 ++ [1]) = p2 (n + 1) - 1
  | 0 => rfl
  | n + 1 => by
    show 2 * swFound (List.replicate n 0 ++ [1]) + ((ungray (List.replicate n 0 ++ [1])).headD 0 + 0) % 2 = 2 * p2 (n + 1) - 1
    rw [sw_last n, hd_last n]
    omega
end Oc
/-! Wheels: the plain law. Lists stand turned about: the last wheel first. -/
namespace Oc
def prd : List Int → Int
  | [] => 1
  | s :: r => s * prd r
/-- sizes -/
def Szs (l : List Int) : Prop := ∀ s ∈ l, 1 ≤ s ∧ s ≤ 9
theorem Szs.tail {s : Int} {r : List Int} (h : Szs (s :: r)) : Szs r := fun v hv => h v (List.mem_cons_of_mem _ hv)
theorem Szs.head {s : Int} {r : List Int} (h : Szs (s :: r)) : 1 ≤ s ∧ s ≤ 9 := h s List.mem_cons_self
theorem Szs.rev {l : List Int} (h : Szs l) : Szs l.reverse := fun v hv => h v (List.mem_reverse.mp hv)
theorem mul_ge {a b c d : Int} (h1 : a ≤ b) (h2 : c ≤ d) (ha : 0 ≤ a) (hd : 0 ≤ d) : a * c ≤ b * d :=
  Int.le_trans (Int.mul_le_mul_of_nonneg_left h2 ha) (Int.mul_le_mul_of_nonneg_right h1 hd)
theorem prd_pos : ∀ {l : List Int}, Szs l → 1 ≤ prd l
  | [], _ => Int.le_refl _
  | s :: r, h => by
    have h1 := h.head
    have h2 := prd_pos h.tail
    have := mul_ge h1.1 h2 (by decide) (by omega)
    show 1 ≤ s * prd r
    omega
def nine : Nat → Int
  | 0 => 1
  | n + 1 => 9 * nine n
theorem nine_pos : ∀ n, 1 ≤ nine n
  | 0 => Int.le_refl _
  | n + 1 => by have := nine_pos n; show 1 ≤ 9 * nine n; omega
theorem prd_le : ∀ {l : List Int}, Szs l → prd l ≤ nine l.length
  | [], _ => Int.le_refl _
  | s :: r, h => by
    have h1 := h.head
    have h2 := prd_le h.tail
    have h3 := nine_pos r.length
    have h4 := prd_pos h.tail
    exact mul_ge h1.2 h2 (by omega) (by omega)
theorem nine_mono : ∀ {n m : Nat}, n ≤ m → nine n ≤ nine m := fun {n m} h => by
  induction m with
  | zero => have e : n = 0 := by omega
            rw [e]; exact Int.le_refl _
  | succ k ih =>
    by_cases e : n = k + 1
    · rw [e]; exact Int.le_refl _
    · have h1 := ih (by omega)
      have h2 := nine_pos k
      show nine n ≤ 9 * nine k
      omega
theorem prd_12 {l : List Int} (h : Szs l) (hl : l.length ≤ 12) : prd l ≤ 282429536481 :=
  Int.le_trans (prd_le h) (Int.le_trans (nine_mono hl) (by decide +kernel))
/-- the number from the other end where the wheel's value is odd -/
def refl' (v b y : Int) : Int := if v % 2 = 1 then b - 1 - y else y
theorem refl_range {v b y : Int} (h : 0 ≤ y ∧ y < b) : 0 ≤ refl' v b y ∧ refl' v b y < b := by
  unfold refl'
  split <;> omega
theorem refl_refl {v b y : Int} : refl' v b (refl' v b y) = y := by
  unfold refl'
  split <;> omega
def whR : List Int → Int → List Int
  | [], _ => []
  | _ :: r, x => x / prd r :: whR r (refl' (x / prd r) (prd r) (x % prd r))
def whPut (sizes : List Int) (x : Int) : List Int := (whR sizes.reverse x).reverse
theorem whR_len : ∀ l x, (whR l x).length = l.length
  | [], _ => rfl
  | _ :: r, x => by show (whR r _).length + 1 = r.length + 1; rw [whR_len r]
theorem whPut_len (l : List Int) (x : Int) : (whPut l x).length = l.length := by unfold whPut; rw [List.length_reverse, whR_len, List.length_reverse]
/-- the values fit the sizes -/
def okR : List Int → List Int → Prop
  | [], [] => True
  | v :: tr, s :: sr => (0 ≤ v ∧ v < s) ∧ okR tr sr
  | _, _ => False
theorem okR_iff : ∀ ts rs : List Int, okR ts rs ↔ ts.length = rs.length ∧ ∀ (i : Nat) (v s : Int), ts[i]? = some v → rs[i]? = some s → 0 ≤ v ∧ v < s
  | [], [] => ⟨fun _ => ⟨rfl, fun i v s h => by simp at h⟩, fun _ => trivial⟩
  | [], _ :: _ => ⟨fun h => h.elim, fun h => by simp at h⟩
  | _ :: _, [] => ⟨fun h => h.elim, fun h => by simp at h⟩
  | v :: tr, s :: sr => by
    constructor
    · intro h
      obtain ⟨h1, h2⟩ := h
      obtain ⟨h3, h4⟩ := (okR_iff tr sr).mp h2
      refine ⟨congrArg Nat.succ h3, fun i a b ha hb => ?_⟩
      cases i with
      | zero =>
        cases Option.some.inj ha
        cases Option.some.inj hb
        exact h1
      | succ i => exact h4 i a b ha hb
    · intro h
      obtain ⟨h1, h2⟩ := h
      refine ⟨h2 0 v s rfl rfl, (okR_iff tr sr).mpr ⟨Nat.succ.inj h1, fun i a b ha hb => h2 (i + 1) a b ha hb⟩⟩
theorem okR_rev {ts rs : List Int} (h : okR ts rs) : okR ts.reverse rs.reverse := by
  obtain ⟨h1, h2⟩ := (okR_iff ts rs).mp h
  refine (okR_iff _ _).mpr ⟨by rw [List.length_reverse, List.length_reverse, h1], fun i v s hv hs => ?_⟩
  by_cases hi : i < ts.length
  · rw [List.getElem?_reverse hi] at hv
    rw [List.getElem?_reverse (by omega), ← h1] at hs
    exact h2 _ v s hv hs
  · rw [List.getElem?_eq_none (by rw [List.length_reverse]; omega)] at hv
    cases hv
theorem ediv_range {x s b : Int} (h0 : 0 ≤ x) (h1 : x < s * b) (hb : 1 ≤ b) : 0 ≤ x / b ∧ x / b < s :=
  ⟨Int.ediv_nonneg h0 (by omega), Int.ediv_lt_of_lt_mul (by omega) h1⟩
theorem emod_range {x b : Int} (hb : 1 ≤ b) : 0 ≤ x % b ∧ x % b < b := ⟨Int.emod_nonneg _ (by omega), Int.emod_lt_of_pos _ (by omega)⟩
theorem whR_ok : ∀ {rs : List Int} {x : Int}, Szs rs → 0 ≤ x → x < prd rs → okR (whR rs x) rs
  | [], _, _, _, _ => trivial
  | s :: r, x, h, h0, h1 => by
    have hb := prd_pos h.tail
    have h2 : x < s * prd r := h1
    have h3 := refl_range (v := x / prd r) (emod_range (x := x) hb)
    exact ⟨ediv_range h0 h2 hb, whR_ok h.tail h3.1 h3.2⟩
def fR : List Int → List Int → Int
  | v :: tr, _ :: sr => refl' v (prd sr) (fR tr sr) + v * prd sr
  | _, _ => 0
def whFound (sizes ts : List Int) : Int := fR ts.reverse sizes.reverse
theorem fR_range : ∀ {ts rs : List Int}, Szs rs → okR ts rs → 0 ≤ fR ts rs ∧ fR ts rs < prd rs
  | [], [], _, _ => ⟨Int.le_refl _, by decide⟩
  | [], _ :: _, _, h => h.elim
  | _ :: _, [], _, h => h.elim
  | v :: tr, s :: sr, hs, h => by
    obtain ⟨⟨h1, h2⟩, h3⟩ := h
    have hb := prd_pos hs.tail
    have ih := fR_range hs.tail h3
    have q := refl_range (v := v) ih
    have m1 : 0 ≤ v * prd sr := Int.mul_nonneg h1 (by omega)
    have m2 : (v + 1) * prd sr ≤ s * prd sr := Int.mul_le_mul_of_nonneg_right (by omega) (by omega)
    have m3 : (v + 1) * prd sr = v * prd sr + prd sr := by rw [Int.add_mul, Int.one_mul]
    show 0 ≤ refl' v (prd sr) (fR tr sr) + v * prd sr ∧ refl' v (prd sr) (fR tr sr) + v * prd sr < s * prd sr
    omega
theorem split_div {v b y : Int} (hb : 1 ≤ b) (h : 0 ≤ y ∧ y < b) : (y + v * b) / b = v ∧ (y + v * b) % b = y := by
  constructor
  · rw [Int.add_mul_ediv_right _ _ (by omega), Int.ediv_eq_zero_of_lt h.1 h.2, Int.zero_add]
  · rw [Int.add_mul_emod_self_right, Int.emod_eq_of_lt h.1 h.2]
theorem whR_fR : ∀ {ts rs : List Int}, Szs rs → okR ts rs → whR rs (fR ts rs) = ts
  | [], [], _, _ => rfl
  | [], _ :: _, _, h => h.elim
  | _ :: _, [], _, h => h.elim
  | v :: tr, s :: sr, hs, h => by
    obtain ⟨⟨h1, h2⟩, h3⟩ := h
    have hb := prd_pos hs.tail
    have ih := whR_fR hs.tail h3
    have q := refl_range (v := v) (fR_range hs.tail h3)
    obtain ⟨d1, d2⟩ := split_div (v := v) hb q
    show (refl' v (prd sr) (fR tr sr) + v * prd sr) / prd sr :: whR sr (refl' ((refl' v (prd sr) (fR tr sr) + v * prd sr) / prd sr) (prd sr) ((refl' v (prd sr) (fR tr sr) + v * prd sr) % prd sr)) = v :: tr
    rw [d1, d2, refl_refl, ih]
theorem fR_whR : ∀ {rs : List Int} {x : Int}, Szs rs → 0 ≤ x → x < prd rs → fR (whR rs x) rs = x
  | [], x, _, h0, h1 => by
    have h2 : x < 1 := h1
    show (0 : Int) = x
    omega
  | s :: r, x, h, h0, h1 => by
    have hb := prd_pos h.tail
    have h3 := refl_range (v := x / prd r) (emod_range (x := x) hb)
    show refl' (x / prd r) (prd r) (fR (whR r _) r) + x / prd r * prd r = x
    rw [fR_whR h.tail h3.1 h3.2, refl_refl]
    have e := Int.mul_ediv_add_emod x (prd r)
    rw [Int.mul_comm] at e
    omega
theorem whFound_put {sizes : List Int} {x : Int} (h : Szs sizes) (h0 : 0 ≤ x) (h1 : x < prd sizes.reverse) : whFound sizes (whPut sizes x) = x := by
  unfold whFound whPut
  rw [List.reverse_reverse, fR_whR h.rev h0 h1]
theorem whPut_found {sizes ts : List Int} (h : Szs sizes) (ho : okR ts sizes) : whPut sizes (whFound sizes ts) = ts := by
  unfold whFound whPut
  rw [whR_fR h.rev (okR_rev ho), List.reverse_reverse]
theorem whPut_ok {sizes : List Int} {x : Int} (h : Szs sizes) (h0 : 0 ≤ x) (h1 : x < prd sizes.reverse) : okR (whPut sizes x) sizes := by
  have q := okR_rev (whR_ok h.rev h0 h1)
  rw [List.reverse_reverse] at q
  exact q
theorem whFound_range {sizes ts : List Int} (h : Szs sizes) (ho : okR ts sizes) : 0 ≤ whFound sizes ts ∧ whFound sizes ts < prd sizes.reverse := fR_range h.rev (okR_rev ho)
/-- by the last wheel -/
theorem whPut_last (sizes : List Int) (s x : Int) : whPut (sizes ++ [s]) x = whPut sizes (refl' (x / prd sizes.reverse) (prd sizes.reverse) (x % prd sizes.reverse)) ++ [x / prd sizes.reverse] := by
  unfold whPut
  rw [List.reverse_append]
  show (whR (s :: sizes.reverse) x).reverse = _
  rw [whR, List.reverse_cons]
/-! ### one step: one value changes by one -/
def Step1 (a b : List Int) : Prop := a.length = b.length ∧ ∃ (i : Nat) (u v : Int), a[i]? = some u ∧ b[i]? = some v ∧ (u - v = 1 ∨ v - u = 1) ∧ ∀ k, k ≠ i → a[k]? = b[k]?
theorem Step1.symm {a b : List Int} (h : Step1 a b) : Step1 b a := by
  obtain ⟨l, i, u, v, h1, h2, h3, h4⟩ := h
  exact ⟨l.symm, i, v, u, h2, h1, h3.symm, fun k hk => (h4 k hk).symm⟩
theorem Step1.cons {a b : List Int} (x : Int) (h : Step1 a b) : Step1 (x :: a) (x :: b) := by
  obtain ⟨l, i, u, v, h1, h2, h3, h4⟩ := h
  refine ⟨congrArg Nat.succ l, i + 1, u, v, h1, h2, h3, fun k hk => ?_⟩
  cases k with
  | zero => rfl
  | succ k => exact h4 k (fun e => hk (by rw [e]))
theorem Step1.first {x y : Int} (a : List Int) (h : x - y = 1 ∨ y - x = 1) : Step1 (x :: a) (y :: a) := by
  refine ⟨rfl, 0, x, y, rfl, rfl, h, fun k hk => ?_⟩
  cases k with
  | zero => exact absurd rfl hk
  | succ k => rfl
theorem Step1.rev {a b : List Int} (h : Step1 a b) : Step1 a.reverse b.reverse := by
  obtain ⟨l, i, u, v, h1, h2, h3, h4⟩ := h
  have hi : i < a.length := (List.getElem?_eq_some_iff.mp h1).1
  have e1 : a.length - 1 - (a.length - 1 - i) = i := by omega
  refine ⟨by rw [List.length_reverse, List.length_reverse, l], a.length - 1 - i, u, v, ?_, ?_, h3, fun k hk => ?_⟩
  · rw [List.getElem?_reverse (by omega), e1]
    exact h1
  · rw [List.getElem?_reverse (by omega), ← l, e1]
    exact h2
  · by_cases hk2 : k < a.length
    · rw [List.getElem?_reverse hk2, List.getElem?_reverse (by omega), ← l]
      exact h4 _ (by omega)
    · rw [List.getElem?_eq_none (by rw [List.length_reverse]; omega), List.getElem?_eq_none (by rw [List.length_reverse]; omega)]
theorem next_in {x b : Int} (hb : 1 ≤ b) (h : x % b ≠ b - 1) : (x + 1) / b = x / b ∧ (x + 1) % b = x % b + 1 := by
  have r := emod_range (x := x) hb
  have e := Int.mul_ediv_add_emod x b
  have s := split_div (v := x / b) (y := x % b + 1) hb (by omega)
  have q : x + 1 = x % b + 1 + x / b * b := by rw [Int.mul_comm (x / b)]; omega
  rw [q]
  have s2 := s
  rw [← q] at s2 ⊢
  exact s2
theorem next_out {x b : Int} (hb : 1 ≤ b) (h : x % b = b - 1) : (x + 1) / b = x / b + 1 ∧ (x + 1) % b = 0 := by
  have e := Int.mul_ediv_add_emod x b
  have s := split_div (v := x / b + 1) (y := 0) hb (by omega)
  have q : x + 1 = 0 + (x / b + 1) * b := by rw [Int.add_mul, Int.mul_comm (x / b)]; omega
  rw [← q] at s
  exact s
theorem whR_next : ∀ {rs : List Int} {x : Int}, Szs rs → 0 ≤ x → x + 1 < prd rs → Step1 (whR rs x) (whR rs (x + 1))
  | [], x, _, h0, h1 => by
    have h2 : x + 1 < 1 := h1
    omega
  | s :: r, x, h, h0, h1 => by
    have hb := prd_pos h.tail
    have r1 := emod_range (x := x) hb
    by_cases c : x % prd r = prd r - 1
    · obtain ⟨d1, d2⟩ := next_out hb c
      show Step1 (x / prd r :: whR r (refl' (x / prd r) (prd r) (x % prd r))) ((x + 1) / prd r :: whR r (refl' ((x + 1) / prd r) (prd r) ((x + 1) % prd r)))
      rw [d1, d2, c]
      have e : refl' (x / prd r + 1) (prd r) 0 = refl' (x / prd r) (prd r) (prd r - 1) := by
        unfold refl'
        by_cases o : x / prd r % 2 = 1
        · rw [if_pos o, if_neg (by omega)]
          omega
        · rw [if_neg o, if_pos (by omega)]
          omega
      rw [e]
      exact Step1.first _ (.inr (by omega))
    · obtain ⟨d1, d2⟩ := next_in hb c
      show Step1 (x / prd r :: whR r (refl' (x / prd r) (prd r) (x % prd r))) ((x + 1) / prd r :: whR r (refl' ((x + 1) / prd r) (prd r) ((x + 1) % prd r)))
      rw [d1, d2]
      refine Step1.cons _ ?_
      unfold refl'
      by_cases o : x / prd r % 2 = 1
      · rw [if_pos o, if_pos o]
        have q := whR_next (x := prd r - 1 - (x % prd r + 1)) h.tail (by omega) (by omega)
        rw [show prd r - 1 - (x % prd r + 1) + 1 = prd r - 1 - x % prd r by omega] at q
        exact q.symm
      · rw [if_neg o, if_neg o]
        exact whR_next h.tail r1.1 (by omega)
theorem whPut_next {sizes : List Int} {x : Int} (h : Szs sizes) (h0 : 0 ≤ x) (h1 : x + 1 < prd sizes.reverse) : Step1 (whPut sizes x) (whPut sizes (x + 1)) := (whR_next h.rev h0 h1).rev
end Oc
/-! Picks: the plain law. Lists stand turned about: the greatest number first. -/
namespace Oc
/-- how many picks -/
def ch : Nat → Nat → Int
  | _, 0 => 1
  | 0, _ + 1 => 0
  | n + 1, k + 1 => ch n k + ch n (k + 1)
theorem ch_zero (n : Nat) : ch n 0 = 1 := by cases n <;> rfl
theorem ch_succ (n k : Nat) : ch (n + 1) (k + 1) = ch n k + ch n (k + 1) := rfl
theorem ch_nonneg : ∀ n k, 0 ≤ ch n k
  | n, 0 => by rw [ch_zero]; decide
  | 0, _ + 1 => Int.le_refl _
  | n + 1, k + 1 => by
    have h1 := ch_nonneg n k
    have h2 := ch_nonneg n (k + 1)
    rw [ch_succ]
    omega
theorem ch_over : ∀ n k, n < k → ch n k = 0
  | n, 0, h => absurd h (Nat.not_lt_zero _)
  | 0, _ + 1, _ => rfl
  | n + 1, k + 1, h => by rw [ch_succ, ch_over n k (by omega), ch_over n (k + 1) (by omega)]; rfl
theorem ch_pos : ∀ n k, k ≤ n → 1 ≤ ch n k
  | n, 0, _ => by rw [ch_zero]; decide
  | 0, k + 1, h => absurd h (by omega)
  | n + 1, k + 1, h => by
    have h1 := ch_pos n k (by omega)
    have h2 := ch_nonneg n (k + 1)
    rw [ch_succ]
    omega
theorem ch_mono {n m : Nat} (k : Nat) (h : n ≤ m) : ch n k ≤ ch m k := by
  induction m with
  | zero => have e : n = 0 := by omega
            rw [e]; exact Int.le_refl _
  | succ m ih =>
    by_cases e : n = m + 1
    · rw [e]; exact Int.le_refl _
    · have h1 := ih (by omega)
      cases k with
      | zero => rw [ch_zero, ch_zero]; exact Int.le_refl _
      | succ k =>
        have h2 := ch_nonneg m k
        rw [ch_succ]
        omega
/-- the program's step -/
theorem ch_step : ∀ n k : Nat, ch n (k + 1) * ((k : Int) + 1) = ch n k * ((n : Int) - k)
  | 0, 0 => rfl
  | 0, k + 1 => by
    show (0 : Int) * _ = 0 * _
    rw [Int.zero_mul, Int.zero_mul]
  | n + 1, 0 => by
    have h := ch_step n 0
    rw [ch_zero] at h ⊢
    rw [ch_succ, ch_zero, Int.add_mul]
    have e1 : ((n + 1 : Nat) : Int) = (n : Int) + 1 := by omega
    have e2 : ((0 : Nat) : Int) = 0 := rfl
    rw [e2] at h ⊢
    omega
  | n + 1, k + 1 => by
    have h1 := ch_step n k
    have h2 := ch_step n (k + 1)
    rw [ch_succ, ch_succ]
    have e1 : ((n + 1 : Nat) : Int) = (n : Int) + 1 := by omega
    have e2 : ((k + 1 : Nat) : Int) = (k : Int) + 1 := by omega
    rw [e2] at h2
    rw [e1, e2]
    rw [Int.add_mul, h2]
    have a1 : ch n (k + 1) * ((k : Int) + 1 + 1) = ch n (k + 1) * ((k : Int) + 1) + ch n (k + 1) := by rw [Int.mul_add, Int.mul_one]
    have a2 : (ch n k + ch n (k + 1)) * ((n : Int) + 1 - ((k : Int) + 1)) = ch n k * ((n : Int) - k) + ch n (k + 1) * ((n : Int) - ((k : Int) + 1)) + ch n (k + 1) := by
      rw [show (n : Int) + 1 - ((k : Int) + 1) = (n : Int) - k by omega, Int.add_mul]
      have : ch n (k + 1) * ((n : Int) - k) = ch n (k + 1) * ((n : Int) - ((k : Int) + 1)) + ch n (k + 1) := by
        rw [show (n : Int) - k = (n : Int) - ((k : Int) + 1) + 1 by omega, Int.mul_add, Int.mul_one]
      omega
    rw [a1, a2, h1]
    omega
theorem ch_next (n k : Nat) : ch n k * ((n : Int) - k) / ((k : Int) + 1) = ch n (k + 1) := by
  rw [← ch_step, Int.mul_ediv_cancel _ (by omega)]
def pkR : Nat → Nat → Int → List Int
  | 0, _, _ => []
  | n + 1, s, x => if ch n s ≤ x then (n : Int) :: pkR n (s - 1) (ch (n + 1) s - 1 - x) else pkR n s x
def pkPut (n s : Nat) (x : Int) : List Int := (pkR n s x).reverse
/-- falling numbers below n -/
def okP : Nat → List Int → Prop
  | _, [] => True
  | n, a :: r => (0 ≤ a ∧ a < n) ∧ okP a.toNat r
theorem okP.mono {n m : Nat} (h : n ≤ m) : ∀ {l : List Int}, okP n l → okP m l
  | [], _ => trivial
  | a :: r, q => ⟨⟨q.1.1, by have := q.1.2; omega⟩, q.2⟩
theorem okP.lt : ∀ {n : Nat} {l : List Int}, okP n l → ∀ v ∈ l, 0 ≤ v ∧ v < n
  | _, [], _, v, hv => by cases hv
  | n, a :: r, h, v, hv => by
    rcases List.mem_cons.mp hv with e | hv
    · rw [e]; exact h.1
    · have := okP.lt h.2 v hv
      have := h.1
      omega
theorem okP.len : ∀ {n : Nat} {l : List Int}, okP n l → l.length ≤ n
  | _, [], _ => Nat.zero_le _
  | n, a :: r, h => by
    have h1 := okP.len h.2
    have h2 := h.1
    show r.length + 1 ≤ n
    omega
/-- one number less: the pick has it -/
theorem pick_in {n s : Nat} {x : Int} (h1 : x < ch (n + 1) s) (c : ch n s ≤ x) : ∃ k, s = k + 1 ∧ 0 ≤ ch (n + 1) s - 1 - x ∧ ch (n + 1) s - 1 - x < ch n k := by
  cases s with
  | zero =>
    rw [ch_zero] at h1 c
    omega
  | succ k =>
    refine ⟨k, rfl, by omega, ?_⟩
    rw [ch_succ] at h1 ⊢
    omega
theorem pkR_ok : ∀ (n s : Nat) (x : Int), 0 ≤ x → x < ch n s → okP n (pkR n s x) ∧ (pkR n s x).length = s
  | 0, 0, x, _, _ => ⟨trivial, rfl⟩
  | 0, s + 1, x, h0, h1 => by
    have h2 : x < 0 := h1
    omega
  | n + 1, s, x, h0, h1 => by
    show okP (n + 1) (if ch n s ≤ x then _ else _) ∧ (if ch n s ≤ x then _ else _ : List Int).length = s
    by_cases c : ch n s ≤ x
    · obtain ⟨k, rfl, g0, g1⟩ := pick_in h1 c
      rw [if_pos c]
      obtain ⟨h3, h4⟩ := pkR_ok n k _ g0 g1
      refine ⟨⟨by omega, ?_⟩, ?_⟩
      · rw [Int.toNat_natCast]
        exact h3
      · show (pkR n k _).length + 1 = k + 1
        rw [h4]
    · rw [if_neg c]
      obtain ⟨h3, h4⟩ := pkR_ok n s x h0 (by omega)
      exact ⟨okP.mono (Nat.le_succ n) h3, h4⟩
def fdR : List Int → Int
  | [] => 0
  | a :: r => ch (a.toNat + 1) (r.length + 1) - 1 - fdR r
def pkFound (ts : List Int) : Int := fdR ts.reverse
theorem fdR_range : ∀ {n : Nat} {l : List Int}, okP n l → 0 ≤ fdR l ∧ fdR l < ch n l.length
  | n, [], _ => by
    show (0 : Int) ≤ 0 ∧ 0 < ch n 0
    rw [ch_zero]
    decide
  | n, a :: r, h => by
    have h1 := h.1
    obtain ⟨h2, h3⟩ := fdR_range h.2
    have h4 := ch_mono (r.length + 1) (show a.toNat + 1 ≤ n by omega)
    have h5 := ch_succ a.toNat r.length
    have h6 := ch_nonneg a.toNat (r.length + 1)
    show 0 ≤ ch (a.toNat + 1) (r.length + 1) - 1 - fdR r ∧ ch (a.toNat + 1) (r.length + 1) - 1 - fdR r < ch n (r.length + 1)
    omega
theorem fdR_pkR : ∀ (n s : Nat) (x : Int), 0 ≤ x → x < ch n s → fdR (pkR n s x) = x
  | 0, 0, x, h0, h1 => by
    have h2 : x < 1 := h1
    show (0 : Int) = x
    omega
  | 0, s + 1, x, h0, h1 => by
    have h2 : x < 0 := h1
    omega
  | n + 1, s, x, h0, h1 => by
    show fdR (if ch n s ≤ x then _ else _) = x
    by_cases c : ch n s ≤ x
    · obtain ⟨k, rfl, g0, g1⟩ := pick_in h1 c
      rw [if_pos c]
      show ch ((n : Int).toNat + 1) ((pkR n k _).length + 1) - 1 - fdR (pkR n k _) = x
      rw [fdR_pkR n k _ g0 g1, (pkR_ok n k _ g0 g1).2, Int.toNat_natCast]
      omega
    · rw [if_neg c]
      exact fdR_pkR n s x h0 (by omega)
theorem pkR_fdR : ∀ (n : Nat) (l : List Int), okP n l → pkR n l.length (fdR l) = l
  | 0, [], _ => rfl
  | 0, a :: r, h => by
    have := h.1
    omega
  | n + 1, [], h => by
    show (if ch n 0 ≤ 0 then _ else _) = []
    rw [ch_zero, if_neg (by decide)]
    exact pkR_fdR n [] trivial
  | n + 1, a :: r, h => by
    have h1 := h.1
    obtain ⟨h2, h3⟩ := fdR_range h.2
    show (if ch n (r.length + 1) ≤ ch (a.toNat + 1) (r.length + 1) - 1 - fdR r then _ else _) = a :: r
    by_cases c : a = (n : Int)
    · have e : a.toNat = n := by omega
      have h5 := ch_succ n r.length
      have f : fdR (a :: r) = ch (n + 1) (r.length + 1) - 1 - fdR r := by
        show ch (a.toNat + 1) (r.length + 1) - 1 - fdR r = _
        rw [e]
      rw [e] at h3 ⊢
      rw [if_pos (by omega)]
      show (n : Int) :: pkR n r.length (ch (n + 1) (r.length + 1) - 1 - fdR (a :: r)) = a :: r
      rw [f, show ch (n + 1) (r.length + 1) - 1 - (ch (n + 1) (r.length + 1) - 1 - fdR r) = fdR r by omega]
      have q := h.2
      rw [e] at q
      rw [pkR_fdR n r q, c]
    · have q : okP n (a :: r) := ⟨⟨h1.1, by omega⟩, h.2⟩
      have g : ch (a.toNat + 1) (r.length + 1) - 1 - fdR r < ch n (r.length + 1) := (fdR_range q).2
      rw [if_neg (by omega)]
      exact pkR_fdR n (a :: r) q
/-! ### rising lists -/
/-- a thing: rising, from nought on, below n -/
def Pick (n s : Nat) (ts : List Int) : Prop := ts.length = s ∧ okP n ts.reverse
theorem pkPut_pick {n s : Nat} {x : Int} (h0 : 0 ≤ x) (h1 : x < ch n s) : Pick n s (pkPut n s x) := by
  obtain ⟨h2, h3⟩ := pkR_ok n s x h0 h1
  unfold Pick pkPut
  rw [List.reverse_reverse, List.length_reverse]
  exact ⟨h3, h2⟩
theorem pkFound_put {n s : Nat} {x : Int} (h0 : 0 ≤ x) (h1 : x < ch n s) : pkFound (pkPut n s x) = x := by
  unfold pkFound pkPut
  rw [List.reverse_reverse, fdR_pkR n s x h0 h1]
theorem pkPut_found {n s : Nat} {ts : List Int} (h : Pick n s ts) : pkPut n s (pkFound ts) = ts := by
  obtain ⟨h1, h2⟩ := h
  have q := pkR_fdR n ts.reverse h2
  rw [List.length_reverse, h1] at q
  unfold pkFound pkPut
  rw [q, List.reverse_reverse]
theorem pkFound_range {n s : Nat} {ts : List Int} (h : Pick n s ts) : 0 ≤ pkFound ts ∧ pkFound ts < ch n s := by
  obtain ⟨h1, h2⟩ := h
  have q := fdR_range h2
  rw [List.length_reverse, h1] at q
  exact q
/-- by the last number -/
theorem pkPut_low {n s : Nat} {x : Int} (h : x < ch n s) : pkPut (n + 1) s x = pkPut n s x := by
  unfold pkPut
  rw [pkR, if_neg (by omega)]
theorem pkPut_high {n s : Nat} {x : Int} (h : ch n s ≤ x) : pkPut (n + 1) s x = pkPut n (s - 1) (ch (n + 1) s - 1 - x) ++ [(n : Int)] := by
  unfold pkPut
  rw [pkR, if_pos h, List.reverse_cons]
/-! ### one is exchanged -/
/-- how many of a are not in b -/
def cnt (a b : List Int) : Nat := (a.filter fun v => decide (v ∉ b)).length
def Exch (a b : List Int) : Prop := cnt a b = 1 ∧ cnt b a = 1
theorem Exch.symm {a b : List Int} (h : Exch a b) : Exch b a := ⟨h.2, h.1⟩
theorem cnt_rev (a b : List Int) : cnt a.reverse b.reverse = cnt a b := by
  unfold cnt
  rw [List.filter_reverse, List.length_reverse]
  congr 2
  funext v
  congr 1
  exact propext (not_congr List.mem_reverse)
theorem Exch.rev {a b : List Int} (h : Exch a b) : Exch a.reverse b.reverse := by
  unfold Exch
  rw [cnt_rev, cnt_rev]
  exact h
theorem cnt_cons {n : Int} {a b : List Int} (ha : n ∉ a) : cnt (n :: a) (n :: b) = cnt a b := by
  unfold cnt
  rw [List.filter_cons_of_neg (by simp)]
  congr 1
  apply List.filter_congr
  intro v hv
  have e : v ≠ n := fun q => ha (q ▸ hv)
  simp [e]
theorem Exch.cons {n : Int} {a b : List Int} (h : Exch a b) (ha : n ∉ a) (hb : n ∉ b) : Exch (n :: a) (n :: b) := by
  unfold Exch
  rw [cnt_cons ha, cnt_cons hb]
  exact h
theorem cnt_sub {a b : List Int} (h : ∀ v ∈ a, v ∈ b) : cnt a b = 0 := by
  unfold cnt
  rw [List.filter_eq_nil_iff.mpr fun v hv => by simpa using h v hv]
  rfl
theorem cnt_one {x : Int} {a b : List Int} (hx : x ∉ b) (h : ∀ v ∈ a, v ∈ b) : cnt (x :: a) b = 1 := by
  have q := cnt_sub h
  unfold cnt at q ⊢
  rw [List.filter_cons_of_pos (by simpa using hx), List.length_cons, q]
def down : Nat → List Int
  | 0 => []
  | s + 1 => (s : Int) :: down s
theorem down_mem : ∀ {s : Nat} {v : Int}, v ∈ down s → 0 ≤ v ∧ v < s
  | 0, v, h => by cases h
  | s + 1, v, h => by
    rcases List.mem_cons.mp h with e | h
    · rw [e]; omega
    · have := down_mem h
      omega
theorem pk_first : ∀ n s : Nat, s ≤ n → pkR n s 0 = down s
  | 0, 0, _ => rfl
  | 0, s + 1, h => absurd h (by omega)
  | n + 1, s, h => by
    by_cases e : s = n + 1
    · subst e
      show (if ch n (n + 1) ≤ 0 then _ else _) = _
      rw [ch_over n (n + 1) (by omega), if_pos (by decide)]
      show (n : Int) :: pkR n n (ch (n + 1) (n + 1) - 1 - 0) = (n : Int) :: down n
      have d : ch (n + 1) (n + 1) = 1 := by
        have all : ∀ m : Nat, ch m m = 1 := fun m => by
          induction m with
          | zero => rfl
          | succ m ih => rw [ch_succ, ih, ch_over m (m + 1) (by omega)]; rfl
        exact all _
      rw [d, show (1 : Int) - 1 - 0 = 0 by decide, pk_first n n (Nat.le_refl _)]
    · have p := ch_pos n s (by omega)
      show (if ch n s ≤ 0 then _ else _) = _
      rw [if_neg (by omega)]
      exact pk_first n s (by omega)
theorem pk_last (n s : Nat) (h : s ≤ n) : pkR (n + 1) (s + 1) (ch (n + 1) (s + 1) - 1) = (n : Int) :: down s := by
  have p := ch_pos n s h
  have e := ch_succ n s
  show (if ch n (s + 1) ≤ ch (n + 1) (s + 1) - 1 then _ else _) = _
  rw [if_pos (by omega)]
  show (n : Int) :: pkR n s (ch (n + 1) (s + 1) - 1 - (ch (n + 1) (s + 1) - 1)) = _
  rw [show ch (n + 1) (s + 1) - 1 - (ch (n + 1) (s + 1) - 1) = 0 by omega, pk_first n s h]
/-- where the picks with the last number begin -/
theorem pk_border (n s : Nat) (hs : s ≤ n) : Exch ((n : Int) :: down s) (((n + 1 : Nat) : Int) :: pkR (n + 1) s (ch (n + 1) s - 1)) := by
  cases s with
  | zero =>
    rw [ch_zero, show (1 : Int) - 1 = 0 by decide, pk_first (n + 1) 0 (by omega)]
    exact ⟨cnt_one (by simp [down]; omega) (fun v hv => by cases hv), cnt_one (by simp [down]; omega) (fun v hv => by cases hv)⟩
  | succ s =>
    rw [pk_last n s (by omega)]
    constructor
    · show cnt ((n : Int) :: (s : Int) :: down s) (((n + 1 : Nat) : Int) :: (n : Int) :: down s) = 1
      have a1 : cnt ((s : Int) :: down s) (((n + 1 : Nat) : Int) :: (n : Int) :: down s) = 1 := by
        refine cnt_one (fun q => ?_) fun v hv => List.mem_cons_of_mem _ (List.mem_cons_of_mem _ hv)
        rcases List.mem_cons.mp q with q | q
        · omega
        · rcases List.mem_cons.mp q with q | q
          · omega
          · have := down_mem q
            omega
      unfold cnt at a1 ⊢
      rw [List.filter_cons_of_neg (by simp)]
      exact a1
    · refine cnt_one (fun q => ?_) fun v hv => ?_
      · rcases List.mem_cons.mp q with q | q
        · omega
        · have := down_mem (s := s + 1) q
          omega
      · rcases List.mem_cons.mp hv with e | hv
        · rw [e]; exact List.mem_cons_self
        · exact List.mem_cons_of_mem _ (List.mem_cons_of_mem _ hv)
theorem pkR_next : ∀ (n s : Nat) (x : Int), 0 ≤ x → x + 1 < ch n s → Exch (pkR n s x) (pkR n s (x + 1))
  | 0, 0, x, h0, h1 => by
    have h2 : x + 1 < 1 := h1
    omega
  | 0, s + 1, x, h0, h1 => by
    have h2 : x + 1 < 0 := h1
    omega
  | n + 1, s, x, h0, h1 => by
    show Exch (if ch n s ≤ x then _ else _) (if ch n s ≤ x + 1 then _ else _)
    by_cases c : ch n s ≤ x
    · obtain ⟨k, rfl, g0, g1⟩ := pick_in (by omega) c
      rw [if_pos c, if_pos (by omega)]
      have h3 : 0 ≤ ch (n + 1) (k + 1) - 1 - (x + 1) := by omega
      have q := pkR_next n k (ch (n + 1) (k + 1) - 1 - (x + 1)) h3 (by omega)
      rw [show ch (n + 1) (k + 1) - 1 - (x + 1) + 1 = ch (n + 1) (k + 1) - 1 - x by omega] at q
      have o1 := (pkR_ok n k _ g0 g1).1.lt
      have o2 := (pkR_ok n k _ h3 (by omega)).1.lt
      exact Exch.cons q.symm (fun z => by have := o1 _ z; omega) (fun z => by have := o2 _ z; omega)
    · rw [if_neg c]
      by_cases d : ch n s ≤ x + 1
      · rw [if_pos d]
        have e : x = ch n s - 1 := by omega
        subst e
        cases s with
        | zero =>
          rw [ch_zero] at h1
          rw [ch_zero] at h1
          omega
        | succ s =>
          have hn : s + 1 ≤ n := Classical.byContradiction fun z => by
            have := ch_over n (s + 1) (by omega)
            omega
          obtain ⟨m, rfl⟩ : ∃ m, n = m + 1 := ⟨n - 1, by omega⟩
          rw [pk_last m s (by omega)]
          have e2 : ch (m + 1 + 1) (s + 1) - 1 - (ch (m + 1) (s + 1) - 1 + 1) = ch (m + 1) s - 1 := by
            rw [ch_succ (m + 1) s]
            omega
          rw [e2]
          exact pk_border m s (by omega)
      · rw [if_neg d]
        exact pkR_next n s x h0 (by omega)
theorem pkPut_next {n s : Nat} {x : Int} (h0 : 0 ≤ x) (h1 : x + 1 < ch n s) : Exch (pkPut n s x) (pkPut n s (x + 1)) := (pkR_next n s x h0 h1).rev
/-- from the last to the first -/
theorem pkPut_round {n s : Nat} (h0 : 0 < s) (h1 : s < n) : Exch (pkPut n s (ch n s - 1)) (pkPut n s 0) := by
  obtain ⟨t, rfl⟩ : ∃ t, s = t + 1 := ⟨s - 1, by omega⟩
  obtain ⟨m, rfl⟩ : ∃ m, n = m + 1 := ⟨n - 1, by omega⟩
  refine Exch.rev ?_
  rw [pk_last m t (by omega), pk_first (m + 1) (t + 1) (by omega)]
  refine ⟨cnt_one (fun q => ?_) fun v hv => List.mem_cons_of_mem _ hv, cnt_one (fun q => ?_) fun v hv => List.mem_cons_of_mem _ hv⟩
  · have := down_mem (s := t + 1) q
    omega
  · rcases List.mem_cons.mp q with q | q
    · omega
    · have := down_mem q
      omega
end Oc
/-! Orders: the plain law. -/
namespace Oc
def fac : Nat → Int
  | 0 => 1
  | n + 1 => fac n * ((n : Int) + 1)
theorem fac_succ (n : Nat) : fac (n + 1) = fac n * ((n : Int) + 1) := rfl
theorem fac_pos : ∀ n, 1 ≤ fac n
  | 0 => Int.le_refl _
  | n + 1 => by
    have h := fac_pos n
    rw [fac_succ, Int.mul_add, Int.mul_one]
    have := Int.mul_nonneg (show 0 ≤ fac n by omega) (show (0 : Int) ≤ n by omega)
    omega
/-- m put in ahead of the place p -/
def insAt (p : Nat) (m : Int) (l : List Int) : List Int := l.take p ++ [m] ++ l.drop p
theorem insAt_len {p : Nat} {m : Int} {l : List Int} : (insAt p m l).length = l.length + 1 := by
  unfold insAt
  rw [List.length_append, List.length_append, List.length_take, List.length_drop, List.length_singleton]
  omega
theorem insAt_split (p : Nat) (m : Int) (l : List Int) : ∃ a b, l = a ++ b ∧ insAt p m l = a ++ m :: b ∧ a.length = min p l.length := by
  refine ⟨l.take p, l.drop p, (List.take_append_drop p l).symm, ?_, List.length_take⟩
  unfold insAt
  rw [List.append_assoc]
  rfl
theorem insAt_perm (p : Nat) (m : Int) (l : List Int) : (insAt p m l).Perm (l ++ [m]) := by
  obtain ⟨a, b, e, q, _⟩ := insAt_split p m l
  rw [q, e]
  refine List.perm_middle.trans ?_
  exact (List.perm_append_singleton m (a ++ b)).symm
/-- the numbers from nought on, below n -/
def upTo (n : Nat) : List Int := (List.range n).map fun k : Nat => (k : Int)
theorem upTo_succ (n : Nat) : upTo (n + 1) = upTo n ++ [(n : Int)] := by
  unfold upTo
  rw [List.range_succ, List.map_append]
  rfl
theorem upTo_mem {n : Nat} {v : Int} : v ∈ upTo n ↔ 0 ≤ v ∧ v < n := by
  unfold upTo
  rw [List.mem_map]
  constructor
  · rintro ⟨k, hk, rfl⟩
    have := List.mem_range.mp hk
    omega
  · intro h
    exact ⟨v.toNat, List.mem_range.mpr (by omega), by omega⟩
theorem upTo_nodup : ∀ n, (upTo n).Nodup
  | 0 => List.nodup_nil
  | n + 1 => by
    rw [upTo_succ, List.nodup_append]
    refine ⟨upTo_nodup n, by simp, fun a ha b hb => ?_⟩
    have := upTo_mem.mp ha
    rw [List.mem_singleton] at hb
    omega
/-- a thing -/
def Ord (n : Nat) (l : List Int) : Prop := l.Perm (upTo n)
theorem Ord.len {n : Nat} {l : List Int} (h : Ord n l) : l.length = n := by
  rw [h.length_eq]
  unfold upTo
  rw [List.length_map, List.length_range]
theorem Ord.mem {n : Nat} {l : List Int} (h : Ord n l) {v : Int} : v ∈ l ↔ 0 ≤ v ∧ v < n := by
  rw [h.mem_iff, upTo_mem]
theorem Ord.nodup {n : Nat} {l : List Int} (h : Ord n l) : l.Nodup := h.nodup_iff.mpr (upTo_nodup n)
theorem Ord.ins {n : Nat} {l : List Int} (h : Ord n l) (p : Nat) : Ord (n + 1) (insAt p n l) := by
  refine (insAt_perm p n l).trans ?_
  rw [upTo_succ]
  exact List.Perm.append_right _ h
/-- the place for the turn t -/
def plc (m : Nat) (y t : Int) : Int := if y % 2 = 0 then (m : Int) - t else t
theorem plc_range {m : Nat} {y t : Int} (h : 0 ≤ t ∧ t ≤ m) : 0 ≤ plc m y t ∧ plc m y t ≤ m := by
  unfold plc
  split <;> omega
theorem plc_plc {m : Nat} {y t : Int} : plc m y (plc m y t) = t := by
  unfold plc
  split <;> omega
def orPut : Nat → Int → List Int
  | 0, _ => []
  | m + 1, x => insAt (plc m (x / ((m : Int) + 1)) (x % ((m : Int) + 1))).toNat m (orPut m (x / ((m : Int) + 1)))
theorem turn_range (x : Int) (m : Nat) : 0 ≤ x % ((m : Int) + 1) ∧ x % ((m : Int) + 1) ≤ m := by
  have h1 := Int.emod_nonneg x (show (m : Int) + 1 ≠ 0 by omega)
  have h2 := Int.emod_lt_of_pos x (show 0 < (m : Int) + 1 by omega)
  omega
theorem orPut_ord : ∀ (n : Nat) (x : Int), Ord n (orPut n x)
  | 0, _ => List.Perm.refl _
  | n + 1, x => (orPut_ord n _).ins _
theorem orPut_len (n : Nat) (x : Int) : (orPut n x).length = n := (orPut_ord n x).len
/-- where m stands among the numbers up to m -/
def plOf (m : Nat) (l : List Int) : Int := (((l.takeWhile fun v => decide (v ≠ (m : Int))).filter fun v => decide (v < (m : Int) + 1)).length : Nat)
def orF : Nat → List Int → Int
  | 0, _ => 0
  | m + 1, l => orF m l * ((m : Int) + 1) + plc m (orF m l) (plOf m l)
theorem filter_mono : ∀ (l : List Int) (k : Int) (m : Nat), (m : Int) + 1 ≤ k → (((l.filter fun v => decide (v ≠ k)).takeWhile fun v => decide (v ≠ (m : Int))).filter fun v => decide (v < (m : Int) + 1)) = ((l.takeWhile fun v => decide (v ≠ (m : Int))).filter fun v => decide (v < (m : Int) + 1))
  | [], _, _, _ => rfl
  | a :: r, k, m, h => by
    have ih := filter_mono r k m h
    by_cases e : a = k
    · rw [List.filter_cons_of_neg (by simpa using e), ih]
      have e2 : a ≠ (m : Int) := by omega
      rw [List.takeWhile_cons_of_pos (by simpa using e2), List.filter_cons_of_neg (by simp; omega)]
    · rw [List.filter_cons_of_pos (by simpa using e)]
      by_cases e2 : a = (m : Int)
      · rw [List.takeWhile_cons_of_neg (by simpa using e2), List.takeWhile_cons_of_neg (by simpa using e2)]
      · rw [List.takeWhile_cons_of_pos (by simpa using e2), List.takeWhile_cons_of_pos (by simpa using e2)]
        by_cases e3 : a < (m : Int) + 1
        · rw [List.filter_cons_of_pos (by simpa using e3), List.filter_cons_of_pos (by simpa using e3), ih]
        · rw [List.filter_cons_of_neg (by simpa using e3), List.filter_cons_of_neg (by simpa using e3), ih]
/-- a greater number, put in anywhere, turns nothing -/
theorem plOf_ins {m : Nat} {a b : List Int} {k : Int} (h : (m : Int) + 1 ≤ k) (ha : k ∉ a ++ b) : plOf m (a ++ k :: b) = plOf m (a ++ b) := by
  have q := filter_mono (a ++ k :: b) k m h
  have e : (a ++ k :: b).filter (fun v => decide (v ≠ k)) = a ++ b := by
    rw [List.filter_append, List.filter_cons_of_neg (by simp), ← List.filter_append, List.filter_eq_self]
    intro v hv
    simpa using fun z : v = k => ha (z ▸ hv)
  rw [e] at q
  unfold plOf
  rw [← q]
theorem orF_ins {k : Int} {a b : List Int} (ha : k ∉ a ++ b) : ∀ m : Nat, (m : Int) ≤ k → orF m (a ++ k :: b) = orF m (a ++ b)
  | 0, _ => rfl
  | m + 1, h => by
    have h2 : (m : Int) + 1 ≤ k := by omega
    show orF m _ * _ + plc m (orF m _) (plOf m _) = orF m _ * _ + plc m (orF m _) (plOf m _)
    rw [orF_ins ha m (by omega), plOf_ins h2 ha]
theorem plOf_at {m : Nat} {a b : List Int} (h : ∀ v ∈ a, v < (m : Int)) : plOf m (a ++ (m : Int) :: b) = (a.length : Int) := by
  unfold plOf
  have e : (a ++ (m : Int) :: b).takeWhile (fun v => decide (v ≠ (m : Int))) = a := by
    rw [List.takeWhile_append_of_pos (fun v hv => by have := h v hv; simp; omega), List.takeWhile_cons_of_neg (by simp), List.append_nil]
  rw [e, List.filter_eq_self.mpr fun v hv => by have := h v hv; simp; omega]
theorem div_turn {y t : Int} {m : Nat} (h : 0 ≤ t ∧ t ≤ m) : (y * ((m : Int) + 1) + t) / ((m : Int) + 1) = y ∧ (y * ((m : Int) + 1) + t) % ((m : Int) + 1) = t := by
  constructor
  · rw [Int.add_comm, Int.add_mul_ediv_right _ _ (by omega), Int.ediv_eq_zero_of_lt h.1 (by omega), Int.zero_add]
  · rw [Int.add_comm, Int.add_mul_emod_self_right, Int.emod_eq_of_lt h.1 (by omega)]
/-- one number more -/
theorem orF_step {m : Nat} {l : List Int} (h : Ord m l) (p : Nat) (hp : p ≤ m) : orF (m + 1) (insAt p m l) = orF m l * ((m : Int) + 1) + plc m (orF m l) p := by
  obtain ⟨a, b, e, q, hl⟩ := insAt_split p m l
  have lt : ∀ v ∈ a ++ b, 0 ≤ v ∧ v < (m : Int) := fun v hv => by
    rw [← e] at hv
    exact h.mem.mp hv
  have nm : (m : Int) ∉ a ++ b := fun z => by
    have := lt _ z
    omega
  show orF m (insAt p m l) * _ + plc m (orF m (insAt p m l)) (plOf m (insAt p m l)) = _
  rw [q, orF_ins nm m (Int.le_refl _), plOf_at fun v hv => (lt v (List.mem_append_left _ hv)).2, ← e, hl, h.len, Nat.min_eq_left hp]
theorem orF_put : ∀ (n : Nat) (x : Int), 0 ≤ x → x < fac n → orF n (orPut n x) = x
  | 0, x, h0, h1 => by
    have h2 : x < 1 := h1
    show (0 : Int) = x
    omega
  | n + 1, x, h0, h1 => by
    have t := turn_range x n
    have r := plc_range (y := x / ((n : Int) + 1)) t
    rw [fac_succ] at h1
    have q0 : 0 ≤ x / ((n : Int) + 1) := Int.ediv_nonneg h0 (by omega)
    have q1 : x / ((n : Int) + 1) < fac n := Int.ediv_lt_of_lt_mul (by omega) h1
    show orF (n + 1) (insAt _ n (orPut n _)) = x
    rw [orF_step (orPut_ord n _) _ (by omega), orF_put n _ q0 q1, Int.toNat_of_nonneg r.1, plc_plc]
    have e := Int.mul_ediv_add_emod x ((n : Int) + 1)
    rw [Int.mul_comm] at e
    exact e
/-- every order of one number more is an order with the last number put in -/
theorem Ord.out {m : Nat} {l : List Int} (h : Ord (m + 1) l) : ∃ (l' : List Int) (p : Nat), Ord m l' ∧ p ≤ m ∧ l = insAt p m l' := by
  have hm : (m : Int) ∈ l := h.mem.mpr (by omega)
  obtain ⟨a, b, e⟩ := List.append_of_mem hm
  refine ⟨a ++ b, a.length, ?_, ?_, ?_⟩
  · have q : (a ++ (m : Int) :: b).Perm (upTo m ++ [(m : Int)]) := by
      rw [← e, ← upTo_succ]
      exact h
    have q2 : ((m : Int) :: (a ++ b)).Perm ((m : Int) :: upTo m) := (List.perm_middle.symm.trans q).trans (List.perm_append_singleton _ _)
    exact (List.perm_cons _).mp q2
  · have := h.len
    rw [e, List.length_append, List.length_cons] at this
    omega
  · unfold insAt
    rw [List.take_left, List.drop_left, e, List.append_assoc]
    rfl
theorem orF_range : ∀ (n : Nat) (l : List Int), Ord n l → 0 ≤ orF n l ∧ orF n l < fac n
  | 0, _, _ => ⟨Int.le_refl _, by show (0 : Int) < 1; decide⟩
  | n + 1, l, h => by
    obtain ⟨l', p, h', hp, rfl⟩ := h.out
    obtain ⟨h1, h2⟩ := orF_range n l' h'
    have r := plc_range (y := orF n l') (t := (p : Int)) (m := n) (by omega)
    rw [orF_step h' p hp, fac_succ]
    have m1 := Int.mul_nonneg h1 (show (0 : Int) ≤ (n : Int) + 1 by omega)
    have m2 : (orF n l' + 1) * ((n : Int) + 1) ≤ fac n * ((n : Int) + 1) := Int.mul_le_mul_of_nonneg_right (by omega) (by omega)
    rw [Int.add_mul, Int.one_mul] at m2
    omega
theorem orPut_F : ∀ (n : Nat) (l : List Int), Ord n l → orPut n (orF n l) = l
  | 0, l, h => by
    have := h.len
    show [] = l
    exact (List.length_eq_zero_iff.mp this).symm
  | n + 1, l, h => by
    obtain ⟨l', p, h', hp, rfl⟩ := h.out
    have r := plc_range (y := orF n l') (t := (p : Int)) (m := n) (by omega)
    obtain ⟨d1, d2⟩ := div_turn (y := orF n l') r
    rw [orF_step h' p hp]
    show insAt (plc n ((orF n l' * ((n : Int) + 1) + plc n (orF n l') p) / ((n : Int) + 1)) ((orF n l' * ((n : Int) + 1) + plc n (orF n l') p) % ((n : Int) + 1))).toNat n (orPut n ((orF n l' * ((n : Int) + 1) + plc n (orF n l') p) / ((n : Int) + 1))) = _
    rw [d1, d2, plc_plc, orPut_F n l' h', Int.toNat_natCast]
/-! ### two neighbours are changed about -/
def Swp (a b : List Int) : Prop := ∃ (l r : List Int) (u v : Int), a = l ++ u :: v :: r ∧ b = l ++ v :: u :: r
theorem Swp.symm {a b : List Int} (h : Swp a b) : Swp b a := by
  obtain ⟨l, r, u, v, h1, h2⟩ := h
  exact ⟨l, r, v, u, h2, h1⟩
theorem Swp.left {a b : List Int} (x : Int) (h : Swp a b) : Swp (x :: a) (x :: b) := by
  obtain ⟨l, r, u, v, rfl, rfl⟩ := h
  exact ⟨x :: l, r, u, v, rfl, rfl⟩
theorem Swp.right {a b : List Int} (x : Int) (h : Swp a b) : Swp (a ++ [x]) (b ++ [x]) := by
  obtain ⟨l, r, u, v, rfl, rfl⟩ := h
  exact ⟨l, r ++ [x], u, v, by simp, by simp⟩
theorem ins_next {p : Nat} {m : Int} {l : List Int} (h : p < l.length) : Swp (insAt p m l) (insAt (p + 1) m l) := by
  refine ⟨l.take p, l.drop (p + 1), m, l[p], ?_, ?_⟩
  · unfold insAt
    rw [List.drop_eq_getElem_cons h, List.append_assoc]
    rfl
  · unfold insAt
    rw [List.take_succ_eq_append_getElem h, List.append_assoc, List.append_assoc]
    rfl
theorem ins_front (m : Int) (l : List Int) : insAt 0 m l = m :: l := rfl
theorem ins_end {p : Nat} (m : Int) {l : List Int} (h : p = l.length) : insAt p m l = l ++ [m] := by
  unfold insAt
  rw [h, List.take_length, List.drop_length, List.append_nil]
theorem turn_in {x : Int} {m : Nat} (h : x % ((m : Int) + 1) ≠ m) : (x + 1) / ((m : Int) + 1) = x / ((m : Int) + 1) ∧ (x + 1) % ((m : Int) + 1) = x % ((m : Int) + 1) + 1 := by
  have t := turn_range x m
  have e := Int.mul_ediv_add_emod x ((m : Int) + 1)
  have s := div_turn (y := x / ((m : Int) + 1)) (t := x % ((m : Int) + 1) + 1) (m := m) (by omega)
  have q : x / ((m : Int) + 1) * ((m : Int) + 1) + (x % ((m : Int) + 1) + 1) = x + 1 := by rw [Int.mul_comm]; omega
  rw [q] at s
  exact s
theorem turn_out {x : Int} {m : Nat} (h : x % ((m : Int) + 1) = m) : (x + 1) / ((m : Int) + 1) = x / ((m : Int) + 1) + 1 ∧ (x + 1) % ((m : Int) + 1) = 0 := by
  have e := Int.mul_ediv_add_emod x ((m : Int) + 1)
  have s := div_turn (y := x / ((m : Int) + 1) + 1) (t := 0) (m := m) (by omega)
  have q : (x / ((m : Int) + 1) + 1) * ((m : Int) + 1) + 0 = x + 1 := by rw [Int.add_mul, Int.mul_comm (x / _)]; omega
  rw [q] at s
  exact s
theorem orPut_next : ∀ (n : Nat) (x : Int), 0 ≤ x → x + 1 < fac n → Swp (orPut n x) (orPut n (x + 1))
  | 0, x, h0, h1 => by
    have h2 : x + 1 < 1 := h1
    omega
  | n + 1, x, h0, h1 => by
    have t := turn_range x n
    rw [fac_succ] at h1
    show Swp (insAt (plc n (x / ((n : Int) + 1)) (x % ((n : Int) + 1))).toNat n (orPut n (x / ((n : Int) + 1)))) (insAt (plc n ((x + 1) / ((n : Int) + 1)) ((x + 1) % ((n : Int) + 1))).toNat n (orPut n ((x + 1) / ((n : Int) + 1))))
    by_cases c : x % ((n : Int) + 1) = n
    · obtain ⟨d1, d2⟩ := turn_out c
      have q0 : 0 ≤ x / ((n : Int) + 1) := Int.ediv_nonneg h0 (by omega)
      have q1 : (x + 1) / ((n : Int) + 1) < fac n := Int.ediv_lt_of_lt_mul (by omega) h1
      rw [d1] at q1
      have ih := orPut_next n _ q0 q1
      rw [d1, d2, c]
      by_cases o : x / ((n : Int) + 1) % 2 = 0
      · have e1 : plc n (x / ((n : Int) + 1)) n = 0 := by unfold plc; rw [if_pos o]; omega
        have e2 : plc n (x / ((n : Int) + 1) + 1) 0 = 0 := by unfold plc; rw [if_neg (by omega)]
        rw [e1, e2]
        exact ih.left _
      · have e1 : plc n (x / ((n : Int) + 1)) n = n := by unfold plc; rw [if_neg o]
        have e2 : plc n (x / ((n : Int) + 1) + 1) 0 = n := by unfold plc; rw [if_pos (by omega)]; omega
        rw [e1, e2, ins_end _ (by rw [orPut_len, Int.toNat_natCast]), ins_end _ (by rw [orPut_len, Int.toNat_natCast])]
        exact ih.right _
    · obtain ⟨d1, d2⟩ := turn_in c
      rw [d1, d2]
      by_cases o : x / ((n : Int) + 1) % 2 = 0
      · have e1 : plc n (x / ((n : Int) + 1)) (x % ((n : Int) + 1)) = n - x % ((n : Int) + 1) := by unfold plc; rw [if_pos o]
        have e2 : plc n (x / ((n : Int) + 1)) (x % ((n : Int) + 1) + 1) = n - (x % ((n : Int) + 1) + 1) := by unfold plc; rw [if_pos o]
        rw [e1, e2, show ((n : Int) - x % ((n : Int) + 1)).toNat = ((n : Int) - (x % ((n : Int) + 1) + 1)).toNat + 1 by omega]
        exact (ins_next (by rw [orPut_len]; omega)).symm
      · have e1 : plc n (x / ((n : Int) + 1)) (x % ((n : Int) + 1)) = x % ((n : Int) + 1) := by unfold plc; rw [if_neg o]
        have e2 : plc n (x / ((n : Int) + 1)) (x % ((n : Int) + 1) + 1) = x % ((n : Int) + 1) + 1 := by unfold plc; rw [if_neg o]
        rw [e1, e2, show (x % ((n : Int) + 1) + 1).toNat = (x % ((n : Int) + 1)).toNat + 1 by omega]
        exact ins_next (by rw [orPut_len]; omega)
/-! ### the first one, the last one -/
theorem or_first : ∀ n : Nat, orPut n 0 = upTo n
  | 0 => rfl
  | n + 1 => by
    show insAt (plc n (0 / ((n : Int) + 1)) (0 % ((n : Int) + 1))).toNat n (orPut n (0 / ((n : Int) + 1))) = _
    rw [Int.zero_ediv, Int.zero_emod, or_first n, upTo_succ]
    have e : plc n 0 0 = n := by unfold plc; rw [if_pos (by decide)]; omega
    rw [e]
    exact ins_end _ (by unfold upTo; rw [List.length_map, List.length_range, Int.toNat_natCast])
theorem fac_even : ∀ n : Nat, fac (n + 2) % 2 = 0
  | 0 => rfl
  | n + 1 => by
    have h := fac_even n
    rw [fac_succ (n + 2), Int.mul_emod, h, Int.zero_mul]
    rfl
theorem last_div (n : Nat) : (fac (n + 1) - 1) / ((n : Int) + 1) = fac n - 1 ∧ (fac (n + 1) - 1) % ((n : Int) + 1) = n := by
  have s := div_turn (y := fac n - 1) (t := (n : Int)) (m := n) (by omega)
  have e : (fac n - 1) * ((n : Int) + 1) + n = fac (n + 1) - 1 := by
    rw [fac_succ, Int.sub_mul]
    omega
  rw [e] at s
  exact s
theorem or_last : ∀ n : Nat, Swp (orPut (n + 2) (fac (n + 2) - 1)) (upTo (n + 2))
  | 0 => ⟨[], [], 1, 0, by decide, by decide⟩
  | n + 1 => by
    obtain ⟨d1, d2⟩ := last_div (n + 2)
    have ev := fac_even n
    show Swp (insAt (plc (n + 2) ((fac (n + 2 + 1) - 1) / (((n + 2 : Nat) : Int) + 1)) ((fac (n + 2 + 1) - 1) % (((n + 2 : Nat) : Int) + 1))).toNat ((n + 2 : Nat) : Int) (orPut (n + 2) ((fac (n + 2 + 1) - 1) / (((n + 2 : Nat) : Int) + 1)))) (upTo (n + 2 + 1))
    rw [d1, d2]
    have e : plc (n + 2) (fac (n + 2) - 1) ((n + 2 : Nat) : Int) = ((n + 2 : Nat) : Int) := by unfold plc; rw [if_neg (by omega)]
    rw [e, ins_end _ (by rw [orPut_len, Int.toNat_natCast]), upTo_succ]
    exact (or_last n).right _
end Oc
/-! Changes, told by the places that are unlike. -/
namespace Oc
theorem okP_of : ∀ (l : List Int) (n : Nat), (∀ v ∈ l, 0 ≤ v ∧ v < n) → l.Pairwise (· > ·) → okP n l
  | [], _, _, _ => trivial
  | a :: r, n, h, hp => by
    have ha := h a List.mem_cons_self
    obtain ⟨h1, h2⟩ := List.pairwise_cons.mp hp
    refine ⟨ha, okP_of r a.toNat (fun v hv => ?_) h2⟩
    have := h1 v hv
    have := (h v (List.mem_cons_of_mem _ hv)).1
    omega
theorem okP_pw : ∀ {l : List Int} {n : Nat}, okP n l → l.Pairwise (· > ·)
  | [], _, _ => .nil
  | a :: r, n, h => .cons (fun v hv => by have := okP.lt h.2 v hv; have := h.1; omega) (okP_pw h.2)
theorem pick_iff {n s : Nat} {ts : List Int} : Pick n s ts ↔ ts.length = s ∧ (∀ v ∈ ts, 0 ≤ v ∧ v < n) ∧ ts.Pairwise (· < ·) := by
  unfold Pick
  refine and_congr_right fun _ => ⟨fun h => ⟨fun v hv => okP.lt h v (List.mem_reverse.mpr hv), List.pairwise_reverse.mp (okP_pw h)⟩, fun h => okP_of _ n (fun v hv => h.1 v (List.mem_reverse.mp hv)) (List.pairwise_reverse.mpr h.2)⟩
theorem asc_pair : ∀ l : List Int, (∀ i, i + 1 < l.length → l.getD i 0 < l.getD (i + 1) 0) → l.Pairwise (· < ·)
  | [], _ => .nil
  | [a], _ => .cons (fun v hv => by cases hv) .nil
  | a :: b :: r, h => by
    have ih := asc_pair (b :: r) fun i hi => h (i + 1) (by simpa using hi)
    have hab : a < b := h 0 (by simp)
    refine .cons (fun v hv => ?_) ih
    rcases List.mem_cons.mp hv with e | hv
    · rw [e]; exact hab
    · have := (List.pairwise_cons.mp ih).1 v hv
      omega
theorem asc_iff {l : List Int} : l.Pairwise (· < ·) ↔ ∀ i, i + 1 < l.length → l.getD i 0 < l.getD (i + 1) 0 := by
  refine ⟨fun h i hi => ?_, asc_pair l⟩
  have q := List.pairwise_iff_getElem.mp h i (i + 1) (by omega) hi (by omega)
  rw [List.getD_eq_getElem?_getD, List.getD_eq_getElem?_getD, List.getElem?_eq_getElem hi, List.getElem?_eq_getElem (show i < l.length by omega)]
  exact q
/-! ### places -/
theorem filt_one : ∀ (n j : Nat), j < n → (List.range n).filter (fun k => decide (k = j)) = [j]
  | 0, j, h => absurd h (Nat.not_lt_zero _)
  | n + 1, j, h => by
    rw [List.range_succ, List.filter_append]
    by_cases e : j = n
    · subst e
      have z : (List.range j).filter (fun k => decide (k = j)) = [] := by
        rw [List.filter_eq_nil_iff]
        intro k hk
        have := List.mem_range.mp hk
        simp only [decide_eq_true_eq]
        omega
      rw [z]
      simp
    · rw [filt_one n j (by omega)]
      have z : decide (n = j) = false := decide_eq_false (fun q => e q.symm)
      simp [z]
theorem filt_two : ∀ (n j : Nat), j + 1 < n → (List.range n).filter (fun k => decide (k = j ∨ k = j + 1)) = [j, j + 1]
  | 0, j, h => absurd h (Nat.not_lt_zero _)
  | n + 1, j, h => by
    rw [List.range_succ, List.filter_append]
    by_cases e : j + 1 = n
    · subst e
      have z : (List.range (j + 1)).filter (fun k => decide (k = j ∨ k = j + 1)) = [j] := by
        rw [← filt_one (j + 1) j (by omega)]
        apply List.filter_congr
        intro k hk
        have := List.mem_range.mp hk
        exact decide_eq_decide.mpr ⟨fun q => by omega, fun q => .inl q⟩
      rw [z]
      simp
    · rw [filt_two n j (by omega)]
      have z : ¬ n = j ∧ ¬ n = j + 1 := by omega
      simp [z.1, z.2]
/-- the places where two lists are unlike -/
def unl (a b : List Int) : List Nat := (List.range a.length).filter fun k => !decide (a.getD k 0 = b.getD k 0)
theorem unl_one {a b : List Int} {i : Nat} (hi : i < a.length) (h : ∀ k, k < a.length → (a.getD k 0 = b.getD k 0 ↔ k ≠ i)) : unl a b = [i] := by
  unfold unl
  rw [← filt_one a.length i hi]
  apply List.filter_congr
  intro k hk
  have q := h k (List.mem_range.mp hk)
  by_cases e : k = i
  · rw [decide_eq_true e, decide_eq_false (fun z => (q.mp z) e)]
    rfl
  · rw [decide_eq_false e, decide_eq_true (q.mpr e)]
    rfl
theorem unl_two {a b : List Int} {i : Nat} (hi : i + 1 < a.length) (h : ∀ k, k < a.length → (a.getD k 0 = b.getD k 0 ↔ k ≠ i ∧ k ≠ i + 1)) : unl a b = [i, i + 1] := by
  unfold unl
  rw [← filt_two a.length i hi]
  apply List.filter_congr
  intro k hk
  have q := h k (List.mem_range.mp hk)
  by_cases e : k = i ∨ k = i + 1
  · rw [decide_eq_true e, decide_eq_false (fun z => by have := q.mp z; omega)]
    rfl
  · rw [decide_eq_false e, decide_eq_true (q.mpr (by omega))]
    rfl
theorem getD_of {l : List Int} {k : Nat} {v : Int} (h : l[k]? = some v) : l.getD k 0 = v := by
  rw [List.getD_eq_getElem?_getD, h]
  rfl
theorem unl_flip {l : List Int} {j : Nat} (hb : Bits l) (hj : j < l.length) : unl l (flip l j) = [j] := by
  refine unl_one hj fun k hk => ?_
  have hx := List.getElem?_eq_getElem hk
  have b := hb l[k] (List.getElem_mem hk)
  have hf := flip_get l j k
  rw [getD_of hx]
  by_cases e : k = j
  · rw [if_pos e, hx] at hf
    rw [getD_of (v := 1 - l[k]) hf]
    exact ⟨fun z => by omega, fun z => absurd e z⟩
  · rw [if_neg e, hx] at hf
    rw [getD_of hf]
    exact ⟨fun _ => e, fun _ => rfl⟩
theorem unl_step {a b : List Int} (h : Step1 a b) : ∃ (i : Nat) (u v : Int), unl a b = [i] ∧ a[i]? = some u ∧ b[i]? = some v ∧ (u - v = 1 ∨ v - u = 1) := by
  obtain ⟨hl, i, u, v, h1, h2, h3, h4⟩ := h
  refine ⟨i, u, v, unl_one (List.getElem?_eq_some_iff.mp h1).1 fun k hk => ?_, h1, h2, h3⟩
  by_cases e : k = i
  · rw [e, getD_of h1, getD_of h2]
    exact ⟨fun z => by omega, fun z => absurd rfl z⟩
  · rw [List.getD_eq_getElem?_getD, List.getD_eq_getElem?_getD, h4 k e]
    exact ⟨fun _ => e, fun _ => rfl⟩
theorem unl_swp {a b : List Int} (h : Swp a b) (nd : a.Nodup) : ∃ (i : Nat) (u v : Int), unl a b = [i, i + 1] ∧ a[i]? = some u ∧ a[i + 1]? = some v ∧ b[i]? = some v ∧ b[i + 1]? = some u := by
  obtain ⟨l, r, u, v, rfl, rfl⟩ := h
  have ne : u ≠ v := fun e => by
    have q := (List.nodup_append.mp nd).2.1
    rw [e] at q
    simp at q
  have g0 : ∀ (x y : Int), (l ++ x :: y :: r)[l.length]? = some x := fun x y => by simp
  have g1 : ∀ (x y : Int), (l ++ x :: y :: r)[l.length + 1]? = some y := fun x y => by
    rw [List.getElem?_append_right (by omega)]
    simp
  refine ⟨l.length, u, v, unl_two (by simp) fun k hk => ?_, g0 u v, g1 u v, g0 v u, g1 v u⟩
  by_cases e : k = l.length
  · rw [e, getD_of (g0 u v), getD_of (g0 v u)]
    exact ⟨fun z => absurd z ne, fun z => absurd rfl z.1⟩
  · by_cases e2 : k = l.length + 1
    · rw [e2, getD_of (g1 u v), getD_of (g1 v u)]
      exact ⟨fun z => absurd z.symm ne, fun z => absurd rfl z.2⟩
    · refine ⟨fun _ => ⟨e, e2⟩, fun _ => ?_⟩
      rw [List.getD_eq_getElem?_getD, List.getD_eq_getElem?_getD]
      congr 1
      by_cases c : k < l.length
      · rw [List.getElem?_append_left c, List.getElem?_append_left c]
      · rw [List.getElem?_append_right (by omega), List.getElem?_append_right (by omega)]
        obtain ⟨m, hm⟩ : ∃ m, k - l.length = m + 2 := ⟨k - l.length - 2, by omega⟩
        rw [hm]
        rfl
theorem ch_self : ∀ n, ch n n = 1
  | 0 => rfl
  | n + 1 => by rw [ch_succ, ch_self n, ch_over n (n + 1) (by omega)]; rfl
end Oc
namespace Oc
open PySem PySem.Spec PyProof.Rows L2 Evl
abbrev Stt := L2.St
/-! ### where a def stands, its promise -/
abbrev aG (K : PySem.W.Frag) (x : Str) : Addr := He.ga K x
abbrev aM (K : PySem.W.Frag) (c m : Str) : Addr := He.ma K (He.ga K c) m
/-- the def at f keeps sp -/
def Pr (P : Program) (w : World) (K : PySem.W.Frag) (mg : Str → Option Value) (base : Heap) (k : Nat) (f : Addr) (ps : List Str) (sp : Sp) : Prop :=
  ∃ fd : FuncData, FnOk P w K mg base (L2N.CX P w) k f fd ps sp ∧ Binds K fd ps [] ∧ PySem.W.keepIn K (.ref f) = true
/-- the def of the statement st stands at f -/
abbrev Df (K : PySem.W.Frag) (x qual : Str) (st : Stmt) (f : Addr) : Prop := ∃ fd : FuncData, FunD K x qual (defArgs st) (defBody st) (defScope st) [] [] f fd
/-- how its parameters are bound -/
abbrev Bd (x qual : Str) (st : Stmt) (ps : List Str) : Prop := ∀ (kV doc pm : Value) (an : Option Addr) (cdv ct : Value) (us : List Value), us.length = ps.length →
  bindArgs (PySem.W.fnOf x qual (defArgs st) (defBody st) (defScope st) .none kV doc pm an cdv ct) ⟨us, []⟩ = pure (ps.zip us)
section
variable {P : Program} {w : World} {K : PySem.W.Frag} {mg : Str → Option Value} {base : Heap}
theorem pr_mk {x qual : Str} {st : Stmt} {f : Addr} {N ps : List Str} {k : Nat} {sp : Sp} (D : Df K x qual st f) (S : FnScope N ps (defScope st)) (hb : Bd x qual st ps) (len : ∀ vs H Q E, sp vs H Q E → vs.length = ps.length)
    (body : ∀ (cdv : Value) (A : Around) (outer : List Env) (s : Shared) (H : Hp) (vs : List V) (Q : VK) (E : XK), Room k (A.deeper (envOfC qual (defScope st) s.heap.objs.size f cdv)) → sp vs H Q E →
      ∃ t, PSs (cxOf (L2N.CX P w) P w K mg base N qual (defScope st) f cdv A outer s H E) (defBody st) t ∧ t { nx := fun _ H' => Q .non H', rt := Q } (start N vs) H) : Pr P w K mg base (k + 1) f ps sp := by
  obtain ⟨fd, F⟩ := D
  exact ⟨fd, F.ok S len body, F.bindsN hb, F.kp⟩
/-- nothing is raised -/
theorem pr_mk0 {x qual : Str} {st : Stmt} {f : Addr} {N ps : List Str} {k : Nat} {sp : Sp} (D : Df K x qual st f) (S : FnScope N ps (defScope st)) (hb : Bd x qual st ps) (len : ∀ vs H Q E, sp vs H Q E → vs.length = ps.length)
    (body : ∀ (cdv : Value) (A : Around) (outer : List Env) (s : Shared) (H : Hp) (vs : List V) (Q : VK) (E : XK), Room k (A.deeper (envOfC qual (defScope st) s.heap.objs.size f cdv)) → sp vs H Q E →
      ∃ t, PSs (cxOf (L2N.CX P w) P w K mg base N qual (defScope st) f cdv A outer s H E).nox (defBody st) t ∧ t { nx := fun _ H' => Q .non H', rt := Q } (start N vs) H) : Pr P w K mg base (k + 1) f ps sp :=
  pr_mk D S hb len fun cdv A outer s H vs Q E hr h => by
    obtain ⟨t, p, q⟩ := body cdv A outer s H vs Q E hr h
    exact ⟨t, p.nox, q⟩
theorem Pr.mono {j k : Nat} {f : Addr} {ps : List Str} {sp : Sp} (p : Pr P w K mg base j f ps sp) (h : j ≤ k) : Pr P w K mg base k f ps sp := by
  obtain ⟨fd, G, b, kp⟩ := p
  exact ⟨fd, G.mono h, b, kp⟩
theorem Pr.imp {k : Nat} {f : Addr} {ps : List Str} {sp sp' : Sp} (p : Pr P w K mg base k f ps sp) (h : ∀ vs H Q E, sp' vs H Q E → sp vs H Q E) : Pr P w K mg base k f ps sp' := by
  obtain ⟨fd, G, b, kp⟩ := p
  exact ⟨fd, G.imp h, b, kp⟩
end
theorem cx_none {P : Program} {w : World} {outer : List Env} {H : Hp} {s : Shared} {e : Value} {s' : Shared} (h : L2N.CX P w outer H s E0 e s') : False := by
  obtain ⟨_, _, _, _, _, _, _, _, _, _, _, _, z⟩ := h
  exact z.elim
section
variable {P : Program} {w : World} {K : PySem.W.Frag} {mg : Str → Option Value} {base : Heap}
/-- a def that lets nothing out -/
theorem fn_calm {k : Nat} {f : Addr} {fd : FuncData} {ps : List Str} {sp : Sp} (F : FnOk P w K mg base (L2N.CX P w) k f fd ps sp) (h : ∀ vs H Q E, sp vs H Q E → sp vs H Q E0) : FnOk P w K mg base CX0 k f fd ps sp :=
  ⟨F.len, fun A outer s H args us vs Q E hr he hb hv hs => codeAny_mono (F.run A outer s H args us vs Q E0 hr he hb hv (h _ _ _ _ hs)) fun r s' hq => by
    cases r with
    | error e => exact (cx_none hq).elim
    | ok fl => cases fl <;> exact hq⟩
theorem fn_mk0 {x qual : Str} {st : Stmt} {f : Addr} {fd : FuncData} {N ps : List Str} {k : Nat} {sp : Sp} (F : FunD K x qual (defArgs st) (defBody st) (defScope st) [] [] f fd) (S : FnScope N ps (defScope st)) (len : ∀ vs H Q E, sp vs H Q E → vs.length = ps.length)
    (body : ∀ (cdv : Value) (A : Around) (outer : List Env) (s : Shared) (H : Hp) (vs : List V) (Q : VK) (E : XK), Room k (A.deeper (envOfC qual (defScope st) s.heap.objs.size f cdv)) → sp vs H Q E →
      ∃ t, PSs (cxOf (L2N.CX P w) P w K mg base N qual (defScope st) f cdv A outer s H E).nox (defBody st) t ∧ t { nx := fun _ H' => Q .non H', rt := Q } (start N vs) H) : FnOk P w K mg base (L2N.CX P w) (k + 1) f fd ps sp :=
  F.ok S len fun cdv A outer s H vs Q E hr h => by
    obtain ⟨t, p, q⟩ := body cdv A outer s H vs Q E hr h
    exact ⟨t, p.nox, q⟩
/-- what the law promises -/
def spLaw (K : PySem.W.Frag) : Sp := fun vs H Q _ => ∃ (a : Addr) (ns : List Int), vs = [.ref a] ∧ SqL K H a (ns.map V.int) ∧ ns.length ≤ 63 ∧ ∀ H', Q (.bl true) H'
end
/-! ### more facts of the head -/
/-- an instance of C is one of D -/
def IsL (K : PySem.W.Frag) (C D : Addr) : Prop := PySem.W.findIn K (.ref C) "__class__" = some (some (.builtin "object.__class__")) ∧ PySem.W.specialIn K (.builtin "object.__class__") "__get__" = some (some (.builtin "getset_descriptor.__get__")) ∧
  PySem.W.takesIn K (.builtin "object.__class__") = some true ∧ PySem.W.mroIn K C (.type "object") = some true ∧ PySem.W.kitOne K (.ref C) (.ref D) = some true
def isLB (x y : Str) (K : PySem.W.Frag) : Bool := He.eqO (PySem.W.findIn K (.ref (aG K x)) "__class__") (some (some (.builtin "object.__class__"))) && (He.eqO (PySem.W.specialIn K (.builtin "object.__class__") "__get__") (some (some (.builtin "getset_descriptor.__get__"))) &&
  (decide (PySem.W.takesIn K (.builtin "object.__class__") = some true) && (decide (PySem.W.mroIn K (aG K x) (.type "object") = some true) && decide (PySem.W.kitOne K (.ref (aG K x)) (.ref (aG K y)) = some true))))
theorem isL_ok {x y : Str} {K : PySem.W.Frag} (c : isLB x y K = true) : IsL K (aG K x) (aG K y) := by
  obtain ⟨c1, c⟩ := He.ba c
  obtain ⟨c2, c⟩ := He.ba c
  obtain ⟨c3, c⟩ := He.ba c
  obtain ⟨c4, c5⟩ := He.ba c
  exact ⟨He.eqO_ok c1, He.eqO_ok c2, of_decide_eq_true c3, of_decide_eq_true c4, of_decide_eq_true c5⟩
theorem xok {xl : List (PySem.W.Frag → Bool)} {K : PySem.W.Frag} (c : (xl.all fun f => f K) = true) (i : Nat) {f : PySem.W.Frag → Bool} (h : xl[i]? = some f) : f K = true := List.all_eq_true.mp c f (List.mem_of_getElem? h)
/-! ### what an expression gives: v with G -/
/-- a fresh address, if an address -/
def Frs (v : V) (H : Hp) : Prop := ∀ p, v = .ref p → H p = none
theorem Frs.int {i : Int} {H : Hp} : Frs (.int i) H := fun p e => by cases e
theorem Frs.bl {i : Bool} {H : Hp} : Frs (.bl i) H := fun p e => by cases e
theorem Frs.ref {p : Addr} {H : Hp} (h : H p = none) : Frs (.ref p) H := fun q e => by cases e; exact h
theorem Frs.back {v : V} {H H' : Hp} (e : Ex H H') (h : Frs v H') : Frs v H := fun p q => fresh_back e (h p q)
def EvX (te : TE) (σ : Stt) (H : Hp) (G : V → Hp → Prop) : Prop := ∀ H1, Ex H H1 → ∀ Q : VK, (∀ v H2, Ex H1 H2 → G v H2 → Q v H2) → te σ H1 Q
def EvN (te : TE) (σ : Stt) (H : Hp) (G : V → Hp → Prop) : Prop := ∀ H1, Ex H H1 → ∀ Q : VK, (∀ v H2, Ex H1 H2 → Frs v H1 → G v H2 → Q v H2) → te σ H1 Q
def RetX (G : V → Hp → Prop) (H : Hp) (Q : VK) : Prop := ∀ v H2, Ex H H2 → G v H2 → Q v H2
def RetN (G : V → Hp → Prop) (H : Hp) (Q : VK) : Prop := ∀ v H2, Ex H H2 → Frs v H → G v H2 → Q v H2
def SpX (sp : Sp) (vs : List V) (H : Hp) (G : V → Hp → Prop) : Prop := ∀ H1, Ex H H1 → ∀ Q : VK, (∀ v H2, Ex H1 H2 → G v H2 → Q v H2) → ∀ E : XK, sp vs H1 Q E
def SpN (sp : Sp) (vs : List V) (H : Hp) (G : V → Hp → Prop) : Prop := ∀ H1, Ex H H1 → ∀ Q : VK, (∀ v H2, Ex H1 H2 → Frs v H1 → G v H2 → Q v H2) → ∀ E : XK, sp vs H1 Q E
section
variable {K : PySem.W.Frag} {σ : Stt} {H H' : Hp} {ta tb te : TE} {t u : TT} {x y z v : V} {r : R2} {D : Ends} {tu tw tz : TS} {g : TG} {G : V → Hp → Prop} {xs : List V}
theorem RetV.ex {Q : VK} (k : RetV v H Q) (e : Ex H H') : RetV v H' Q := fun H2 e2 => k H2 (e.trans e2)
theorem RetX.ex {Q : VK} (k : RetX G H Q) (e : Ex H H') : RetX G H' Q := fun v H2 e2 g => k v H2 (e.trans e2) g
theorem RetN.ex {Q : VK} (k : RetN G H Q) (e : Ex H H') : RetN G H' Q := fun v H2 e2 f g => k v H2 (e.trans e2) (f.back e) g
theorem RetL.ex {Q : VK} (k : RetL xs H Q) (e : Ex H H') : RetL xs H' Q := fun p H2 f e2 g => k p H2 (fresh_back e f) (e.trans e2) g
/-! #### attributes, methods, instances -/
theorem ev_fld {p C dx : Addr} {fs : List (Str × V)} {f : Str} (h : Ev te σ H (.ref p)) (hi : H p = some (.ins C dx fs)) (c : Cls K C) (n : NoAttr K C f) (l : fs.lookup f = some v) : Ev (tFld K te f) σ H v := fun H1 e Q q =>
  h H1 e _ fun H2 e2 => ⟨p, C, dx, fs, v, rfl, (e.trans e2) _ _ hi, c, n, l, q H2 e2⟩
theorem ev_meth {p C dx : Addr} {fs : List (Str × V)} {m : Str} {sp : Sp} {E : XK} {ta : TA} {vs : List V} (h : Ev te σ H (.ref p)) (hi : H p = some (.ins C dx fs)) (l : fs.lookup m = none) (ha : EvA ta σ H vs) (hs : SpV sp (.ref p :: (vs ++ [])) H z) :
    Ev (tMeth C m sp [] E te ta) σ H z := fun H1 e Q q =>
  h H1 e _ fun H2 e2 => ⟨p, dx, fs, rfl, (e.trans e2) _ _ hi, l, ha H2 (e.trans e2) _ fun H3 e3 => hs H3 ((e.trans e2).trans e3) Q (fun H4 e4 => q H4 ((e2.trans e3).trans e4)) E⟩
theorem el_meth {p C dx : Addr} {fs : List (Str × V)} {m : Str} {sp : Sp} {E : XK} {ta : TA} {vs : List V} (h : Ev te σ H (.ref p)) (hi : H p = some (.ins C dx fs)) (l : fs.lookup m = none) (ha : EvA ta σ H vs) (hs : SpL sp (.ref p :: (vs ++ [])) H xs) :
    EvL (tMeth C m sp [] E te ta) σ H xs := fun H1 e Q q =>
  h H1 e _ fun H2 e2 => ⟨p, dx, fs, rfl, (e.trans e2) _ _ hi, l, ha H2 (e.trans e2) _ fun H3 e3 => hs H3 ((e.trans e2).trans e3) Q (fun r H4 f e4 h4 => q r H4 (fresh_back (e2.trans e3) f) ((e2.trans e3).trans e4) h4) E⟩
theorem en_call {sp : Sp} {E : XK} {ta : TA} {vs : List V} (h : EvA ta σ H vs) (hs : SpN sp (vs ++ []) H G) : EvN (tCall sp [] E ta) σ H G := fun H1 e Q q =>
  h H1 e _ fun H2 e2 => hs H2 (e.trans e2) Q (fun v H3 e3 f h3 => q v H3 (e2.trans e3) (f.back e2) h3) E
theorem ex_call {sp : Sp} {E : XK} {ta : TA} {vs : List V} (h : EvA ta σ H vs) (hs : SpX sp (vs ++ []) H G) : EvX (tCall sp [] E ta) σ H G := fun H1 e Q q =>
  h H1 e _ fun H2 e2 => hs H2 (e.trans e2) Q (fun v H3 e3 h3 => q v H3 (e2.trans e3) h3) E
/-- C(..): what __init__ promises of the new instance -/
def InitN (C : Addr) (sp : Sp) (vs : List V) (H : Hp) (G : V → Hp → Prop) : Prop := ∀ H1, Ex H H1 → ∀ x dx, H1 x = none → H1 dx = none → dx ≠ x → ∀ Q : VK, (∀ H2, Ex H1 H2 → G (.ref x) H2 → Q .non H2) → ∀ E : XK,
  sp (.ref x :: (vs ++ [])) (upd (upd H1 dx (.own x)) x (.ins C dx [])) Q E
theorem en_make {C : Addr} {sp : Sp} {E : XK} {ta : TA} {vs : List V} (h : EvA ta σ H vs) (hs : InitN C sp vs H G) : EvN (tMake C sp [] E ta) σ H G := fun H1 e Q q =>
  h H1 e _ fun H2 e2 x dx hx hd ne => hs H2 (e.trans e2) x dx hx hd ne _ (fun H3 e3 g3 => ⟨rfl, q (.ref x) H3 (e2.trans e3) ((Frs.ref hx).back e2) g3⟩) E
/-! #### statements -/
theorem s_asgN {i : Nat} (h : EvN te σ H G) (k : ∀ v H1, Frs v H → Ex H H1 → G v H1 → D.nx (σ.set i (some v)) H1) : tAsg te (gName i) D σ H := h H (Ex.refl H) _ fun v H1 e f g => k v H1 f e g
theorem q_asgN {i : Nat} (h : EvN te σ H G) (k : ∀ v H1, Frs v H → Ex H H1 → G v H1 → tz D (σ.set i (some v)) H1) : tSeq (tAsg te (gName i)) tz D σ H := s_asgN (D := { D with nx := tz D }) h k
theorem s_asgX {i : Nat} (h : EvX te σ H G) (k : ∀ v H1, Ex H H1 → G v H1 → D.nx (σ.set i (some v)) H1) : tAsg te (gName i) D σ H := h H (Ex.refl H) _ fun v H1 e g => k v H1 e g
theorem q_asgX {i : Nat} (h : EvX te σ H G) (k : ∀ v H1, Ex H H1 → G v H1 → tz D (σ.set i (some v)) H1) : tSeq (tAsg te (gName i)) tz D σ H := s_asgX (D := { D with nx := tz D }) h k
theorem s_retX (h : EvX te σ H G) (k : ∀ v H1, Ex H H1 → G v H1 → D.rt v H1) : tRet te D σ H := h H (Ex.refl H) _ fun v H1 e g => k v H1 e g
theorem s_retN (h : EvN te σ H G) (k : ∀ v H1, Frs v H → Ex H H1 → G v H1 → D.rt v H1) : tRet te D σ H := h H (Ex.refl H) _ fun v H1 e f g => k v H1 f e g
theorem s_retv {Q : VK} (h : Ev te σ H v) (k : RetV v H Q) (hq : D.rt = Q := by rfl) : tRet te D σ H := by
  subst hq
  exact h H (Ex.refl H) _ fun H1 e => k H1 e
theorem s_retl {Q : VK} (h : EvL te σ H xs) (k : RetL xs H Q) (hq : D.rt = Q := by rfl) : tRet te D σ H := by
  subst hq
  exact h H (Ex.refl H) _ fun p H1 f e g => k p H1 f e g
/-! #### more values -/
theorem rv_idiv {i j : Int} (h : CDiv i j) : RV (rI CDiv fun i j => .int (i / j)) (.int i) (.int j) H (.int (i / j)) := rv_I h
theorem ev_int1 {i : Int} (h : Ev te σ H (.int i)) : Ev (tCB (fun xs H Q => (∃ i, xs = [.int i] ∧ Q (.int i) H) ∨ ∃ k, xs = [.bl k] ∧ Q (.int (if k then 1 else 0)) H) (tCons te tNil)) σ H (.int i) := fun H1 e Q q =>
  h H1 e _ fun H2 e2 => .inl ⟨i, rfl, q H2 e2⟩
theorem ev_int1b {b : Bool} (h : Ev te σ H (.bl b)) : Ev (tCB (fun xs H Q => (∃ i, xs = [.int i] ∧ Q (.int i) H) ∨ ∃ k, xs = [.bl k] ∧ Q (.int (if k then 1 else 0)) H) (tCons te tNil)) σ H (.int (if b then 1 else 0)) := fun H1 e Q q =>
  h H1 e _ fun H2 e2 => .inr ⟨b, rfl, q H2 e2⟩
/-- isinstance -/
theorem ev_isi {c : V} {tv cv : Value} {b : Bool} (h : Ev ta σ H x) (hc : Ev tb σ H c) (k : ClsV c cv) (ty : ∀ H1, Ex H H1 → TyX K H1 x tv) (e : PySem.W.kitOne K tv cv = some b) : Ev (tCB (rIsi K) (tCons ta (tCons tb tNil))) σ H (.bl b) := fun H1 e1 Q q =>
  h H1 e1 _ fun H2 e2 => hc H2 (e1.trans e2) _ fun H3 e3 => ⟨x, c, tv, cv, b, rfl, k, ty H3 ((e1.trans e2).trans e3), e, q H3 (e2.trans e3)⟩
/-- xs + ys of two new lists -/
theorem el_cat {as bs : List V} (ha : EvL ta σ H as) (hb : EvL tb σ H bs) (hz : as.length + bs.length ≤ 100000) : EvL (tOp rCat ta tb) σ H (as ++ bs) := fun H1 e Q q =>
  ha H1 e _ fun p H2 f e2 hp => hb H2 (e.trans e2) _ fun p' H3 f' e3 hp' => ⟨p, p', as, bs, rfl, rfl, e3 _ _ hp, hp', sz_of hz, fun a ha' => q a _ (fresh_back (e2.trans e3) ha') ((e2.trans e3).trans (Ex.new ha')) upd_same⟩
/-- .. of one that stands -/
theorem el_catV {p : Addr} {as bs : List V} (ha : Ev ta σ H (.ref p)) (hp : H p = some (.lst as)) (hb : EvL tb σ H bs) (hz : as.length + bs.length ≤ 100000) : EvL (tOp rCat ta tb) σ H (as ++ bs) := fun H1 e Q q =>
  ha H1 e _ fun H2 e2 => hb H2 (e.trans e2) _ fun p' H3 f' e3 hp' => ⟨p, p', as, bs, rfl, rfl, ((e.trans e2).trans e3) _ _ hp, hp', sz_of hz, fun a ha' => q a _ (fresh_back (e2.trans e3) ha') ((e2.trans e3).trans (Ex.new ha')) upd_same⟩
theorem EvL.toN (h : EvL te σ H xs) : EvN te σ H (fun v H2 => ∃ p, v = .ref p ∧ H2 p = some (.lst xs)) := fun H1 e Q q => h H1 e _ fun p H2 f e2 h2 => q _ H2 e2 (Frs.ref f) ⟨p, rfl, h2⟩
theorem EvN.toX (h : EvN te σ H G) : EvX te σ H G := fun H1 e Q q => h H1 e _ fun v H2 e2 _ h2 => q v H2 e2 h2
end
/-! ### arguments, some of them new lists -/
def EvAX (ta : TA) (σ : Stt) (H : Hp) (G : List V → Hp → Prop) : Prop := ∀ H1, Ex H H1 → ∀ Q : List V → Hp → Prop, (∀ vs H2, Ex H1 H2 → G vs H2 → Q vs H2) → ta σ H1 Q
section
variable {K : PySem.W.Frag} {σ : Stt} {H : Hp} {ta : TA} {te tl : TE} {x y z v : V} {G : V → Hp → Prop} {GA : List V → Hp → Prop} {xs ys : List V} {sp : Sp} {E : XK} {tt : TT}
theorem eax_nil (h : ∀ H1, Ex H H1 → GA [] H1) : EvAX tNil σ H GA := fun H1 e Q q => q [] H1 (Ex.refl H1) (h H1 e)
theorem eax_cons (h : Ev te σ H x) (hr : EvAX ta σ H (fun vs H2 => GA (x :: vs) H2)) : EvAX (tCons te ta) σ H GA := fun H1 e Q q =>
  h H1 e _ fun H2 e2 => hr H2 (e.trans e2) _ fun vs H3 e3 g => q _ H3 (e2.trans e3) g
theorem eax_consX (h : EvX te σ H G) (hr : ∀ v H1, Ex H H1 → G v H1 → EvAX ta σ H1 (fun vs H2 => GA (v :: vs) H2)) : EvAX (tCons te ta) σ H GA := fun H1 e Q q =>
  h H1 e _ fun v H2 e2 g => hr v H2 (e.trans e2) g H2 (Ex.refl H2) _ fun vs H3 e3 g3 => q _ H3 (e2.trans e3) g3
theorem eax_consL (h : EvL te σ H xs) (hr : ∀ p H1, H p = none → Ex H H1 → H1 p = some (.lst xs) → EvAX ta σ H1 (fun vs H2 => GA (.ref p :: vs) H2)) : EvAX (tCons te ta) σ H GA := fun H1 e Q q =>
  h H1 e _ fun p H2 f e2 g => hr p H2 (fresh_back e f) (e.trans e2) g H2 (Ex.refl H2) _ fun vs H3 e3 g3 => q _ H3 (e2.trans e3) g3
theorem ev_callX (h : EvAX ta σ H (fun vs H2 => SpV sp (vs ++ []) H2 z)) : Ev (tCall sp [] E ta) σ H z := fun H1 e Q q =>
  h H1 e _ fun vs H2 e2 hs => hs H2 (Ex.refl H2) Q (fun H3 e3 => q H3 (e2.trans e3)) E
theorem el_callX (h : EvAX ta σ H (fun vs H2 => SpL sp (vs ++ []) H2 xs)) : EvL (tCall sp [] E ta) σ H xs := fun H1 e Q q =>
  h H1 e _ fun vs H2 e2 hs => hs H2 (Ex.refl H2) Q (fun p H3 f e3 g => q p H3 (fresh_back e2 f) (e2.trans e3) g) E
theorem ex_callX (h : EvAX ta σ H (fun vs H2 => SpX sp (vs ++ []) H2 G)) : EvX (tCall sp [] E ta) σ H G := fun H1 e Q q =>
  h H1 e _ fun vs H2 e2 hs => hs H2 (Ex.refl H2) Q (fun v H3 e3 g => q v H3 (e2.trans e3) g) E
theorem en_callX (h : EvAX ta σ H (fun vs H2 => SpN sp (vs ++ []) H2 G)) : EvN (tCall sp [] E ta) σ H G := fun H1 e Q q =>
  h H1 e _ fun vs H2 e2 hs => hs H2 (Ex.refl H2) Q (fun v H3 e3 f g => q v H3 (e2.trans e3) (f.back e2) g) E
theorem ev_methX {C : Addr} {m : Str} (h : EvX te σ H G) (hs : ∀ v H1, Ex H H1 → G v H1 → ∃ p dx fs, v = .ref p ∧ H1 p = some (.ins C dx fs) ∧ fs.lookup m = none ∧ EvAX ta σ H1 (fun vs H2 => SpV sp (.ref p :: (vs ++ [])) H2 z)) :
    Ev (tMeth C m sp [] E te ta) σ H z := fun H1 e Q q =>
  h H1 e _ fun v H2 e2 g => by
    obtain ⟨p, dx, fs, rfl, hi, l, ha⟩ := hs v H2 (e.trans e2) g
    exact ⟨p, dx, fs, rfl, hi, l, ha H2 (Ex.refl H2) _ fun vs H3 e3 k => k H3 (Ex.refl H3) Q (fun H4 e4 => q H4 ((e2.trans e3).trans e4)) E⟩
theorem el_methX {C : Addr} {m : Str} (h : EvX te σ H G) (hs : ∀ v H1, Ex H H1 → G v H1 → ∃ p dx fs, v = .ref p ∧ H1 p = some (.ins C dx fs) ∧ fs.lookup m = none ∧ EvAX ta σ H1 (fun vs H2 => SpL sp (.ref p :: (vs ++ [])) H2 xs)) :
    EvL (tMeth C m sp [] E te ta) σ H xs := fun H1 e Q q =>
  h H1 e _ fun v H2 e2 g => by
    obtain ⟨p, dx, fs, rfl, hi, l, ha⟩ := hs v H2 (e.trans e2) g
    exact ⟨p, dx, fs, rfl, hi, l, ha H2 (Ex.refl H2) _ fun vs H3 e3 k => k H3 (Ex.refl H3) Q (fun r H4 f e4 g4 => q r H4 (fresh_back (e2.trans e3) f) ((e2.trans e3).trans e4) g4) E⟩
/-! #### comprehensions -/
theorem et_yes : EvT tYes σ H true := fun H1 e Q q => q H1 (Ex.refl H1)
theorem given_all {n : Nat} {v : Nat → V} : given n (fun _ => true) v = (List.range n).map v := by
  unfold given
  rw [List.filter_eq_self.mpr fun _ _ => rfl]
theorem range_map_at {α : Type} (l : List α) (d : α) : (List.range l.length).map (fun i => l.getD i d) = l := by
  apply List.ext_getElem?
  intro i
  rw [List.getElem?_map]
  by_cases h : i < l.length
  · rw [List.getElem?_range h, List.getElem?_eq_getElem h]
    simp [List.getD, h]
  · rw [List.getElem?_eq_none (by rw [List.length_range]; omega), List.getElem?_eq_none (by omega)]
    rfl
/-- [e for x in a list] -/
theorem el_map {a : Addr} {j : Nat} {vs : List Nat} (g : V → V) (h : Ev tl σ H (.ref a)) (hx : SqL K H a xs) (hz : xs.length ≤ 40000) (hw : ∀ x, wipe ((wipe σ vs).set j (some x)) vs = wipe σ vs)
    (he : ∀ x ∈ xs, ∀ H1, Ex H H1 → Ev te ((wipe σ vs).set j (some x)) H1 (g x)) : EvL (tLc (iList K tl) (gName j) tYes te vs) σ H (xs.map g) := by
  have q := el_lcL (K := K) (σ := σ) (H := H) (te := te) (t := tYes) (fun _ => true) (fun i => g (xs.getD i .non)) h hx hz hw (fun i x H1 e hi => et_yes) (fun i x H1 e hi _ => by
    have e1 : xs.getD i .non = x := by simp [List.getD, hi]
    rw [e1]
    exact he x (List.mem_of_getElem? hi) H1 e)
  rw [given_all] at q
  have e2 : (List.range xs.length).map (fun i => g (xs.getD i .non)) = xs.map g := by
    rw [show (fun i => g (xs.getD i V.non)) = g ∘ (fun i => xs.getD i V.non) from rfl, ← List.map_map, range_map_at]
  rw [e2] at q
  exact q
/-- [e for k in range(n)] -/
theorem el_mapR {j : Nat} {vs : List Nat} {n : Int} (g : Nat → V) (h : EvA ta σ H [.int n]) (hn : 0 ≤ n ∧ n ≤ 40000) (hw : ∀ x, wipe ((wipe σ vs).set j (some x)) vs = wipe σ vs)
    (he : ∀ (i : Nat) H1, Ex H H1 → (i : Int) < n → Ev te ((wipe σ vs).set j (some (.int (i : Int)))) H1 (g i)) : EvL (tLc (iRng1 ta) (gName j) tYes te vs) σ H ((List.range n.toNat).map g) := by
  have q := el_lcR1 (σ := σ) (H := H) (te := te) (t := tYes) (fun _ => true) g h hn hw (fun i H1 e hi => et_yes) (fun i H1 e hi _ => he i H1 e hi)
  rw [given_all] at q
  exact q
end
section
variable {K : PySem.W.Frag} {σ : Stt} {H : Hp} {te tl : TE} {t : TT} {xs : List V} {ns : List Int}
theorem given_ints (ns : List Int) (p : Int → Bool) : given ns.length (fun i => p (ns.getD i 0)) (fun i => .int (ns.getD i 0)) = (ns.filter p).map V.int := by
  unfold given
  have h := range_map_at ns 0
  conv => rhs; rw [← h, List.filter_map, List.map_map]
  rfl
theorem ints_at {i : Nat} {x : V} (h : (ns.map V.int)[i]? = some x) : x = .int (ns.getD i 0) := by
  rw [List.getElem?_map] at h
  obtain ⟨z, h1, rfl⟩ := Option.map_eq_some_iff.mp h
  simp [List.getD, h1]
/-- [x for x in a list of whole numbers if p] -/
theorem el_filt {a : Addr} {j : Nat} {vs : List Nat} (p : Int → Bool) (h : Ev tl σ H (.ref a)) (hx : SqL K H a (ns.map V.int)) (hz : ns.length ≤ 40000) (hw : ∀ x, wipe ((wipe σ vs).set j (some x)) vs = wipe σ vs)
    (ht : ∀ (z : Int) H1, Ex H H1 → EvT t ((wipe σ vs).set j (some (.int z))) H1 (p z)) (he : ∀ (z : Int) H1, Ex H H1 → Ev te ((wipe σ vs).set j (some (.int z))) H1 (.int z)) : EvL (tLc (iList K tl) (gName j) t te vs) σ H ((ns.filter p).map V.int) := by
  have q := el_lcL (K := K) (σ := σ) (H := H) (te := te) (t := t) (fun i => p (ns.getD i 0)) (fun i => .int (ns.getD i 0)) h hx (by rw [List.length_map]; exact hz) hw
    (fun i x H1 e hi => by rw [ints_at hi]; exact ht _ H1 e) (fun i x H1 e hi _ => by rw [ints_at hi]; exact he _ H1 e)
  rw [List.length_map, given_ints] at q
  exact q
theorem el_filtN {j : Nat} {vs : List Nat} (p : Int → Bool) (h : EvL tl σ H (ns.map V.int)) (hz : ns.length ≤ 40000) (hw : ∀ x, wipe ((wipe σ vs).set j (some x)) vs = wipe σ vs)
    (ht : ∀ (z : Int) H1, Ex H H1 → EvT t ((wipe σ vs).set j (some (.int z))) H1 (p z)) (he : ∀ (z : Int) H1, Ex H H1 → Ev te ((wipe σ vs).set j (some (.int z))) H1 (.int z)) : EvL (tLc (iList K tl) (gName j) t te vs) σ H ((ns.filter p).map V.int) := by
  have q := el_lcNL (K := K) (σ := σ) (H := H) (te := te) (t := t) (fun i => p (ns.getD i 0)) (fun i => .int (ns.getD i 0)) h (by rw [List.length_map]; exact hz) hw
    (fun i x H1 e hi => by rw [ints_at hi]; exact ht _ H1 e) (fun i x H1 e hi _ => by rw [ints_at hi]; exact he _ H1 e)
  rw [List.length_map, given_ints] at q
  exact q
theorem cut_from (xs : List V) (j : Nat) : cutV xs (some (j : Int)) none = xs.drop j := by
  unfold cutV
  rw [HT.sIx_none, HT.sIx_nat]
  by_cases h : j ≤ xs.length
  · rw [Nat.min_eq_left h, List.take_of_length_le (by rw [List.length_drop]; omega)]
  · rw [Nat.min_eq_right (by omega), List.drop_of_length_le (by omega), List.drop_of_length_le (by omega), List.take_nil]
theorem cut_last (xs : List V) (x : V) : cutV (xs ++ [x]) none (some (-1)) = xs := by
  unfold cutV
  have h : HT.sIx (xs ++ [x]).length (xs ++ [x]).length (some (-1)) = xs.length := by
    show (if (-1 : Int) < 0 then ((-1 : Int) + (((xs ++ [x]).length : Nat) : Int)).toNat else min (-1 : Int).toNat (xs ++ [x]).length) = _
    rw [if_pos (by decide), List.length_append]
    show ((-1 : Int) + ((xs.length + 1 : Nat) : Int)).toNat = xs.length
    omega
  rw [HT.sIx_none, h, List.drop_zero, Nat.sub_zero, List.take_left']
  rfl
theorem at_last (xs : List V) (x : V) : atI (xs ++ [x]) (-1) = some x := by
  unfold atI ixN
  rw [if_neg (by decide), if_pos (by rw [List.length_append]; show -(((xs.length + 1 : Nat)) : Int) ≤ -1; omega)]
  show (xs ++ [x])[((-1 : Int) + ((xs ++ [x]).length : Int)).toNat]? = some x
  rw [List.length_append]
  show (xs ++ [x])[((-1 : Int) + ((xs.length + 1 : Nat) : Int)).toNat]? = some x
  rw [show ((-1 : Int) + ((xs.length + 1 : Nat) : Int)).toNat = xs.length by omega]
  simp
theorem cut_to (xs : List V) (j : Nat) : cutV xs none (some (j : Int)) = xs.take j := by
  unfold cutV
  rw [HT.sIx_none, HT.sIx_nat, List.drop_zero, Nat.sub_zero]
  by_cases h : j ≤ xs.length
  · rw [Nat.min_eq_left h]
  · rw [Nat.min_eq_right (by omega), List.take_of_length_le (Nat.le_refl _), List.take_of_length_le (by omega)]
end
section
variable {K : PySem.W.Frag} {σ : Stt} {H : Hp} {te : TE} {ta : TA} {j : Nat} {vs : List Nat}
/-- [e for k in range(lo, hi)] -/
theorem el_mapR2 {lo hi : Int} (g : Nat → V) (h : EvA ta σ H [.int lo, .int hi]) (b : -(2 ^ 62) ≤ lo ∧ lo < 2 ^ 62 ∧ -(2 ^ 62) ≤ hi ∧ hi < 2 ^ 62) (hz : (hi - lo).toNat ≤ 40000) (hw : ∀ x, wipe ((wipe σ vs).set j (some x)) vs = wipe σ vs)
    (he : ∀ (i : Nat) H1, Ex H H1 → lo + (i : Int) < hi → Ev te ((wipe σ vs).set j (some (.int (lo + (i : Int))))) H1 (g i)) : EvL (tLc (iRng2 ta) (gName j) tYes te vs) σ H ((List.range (hi - lo).toNat).map g) := fun H0 e Q q => h H0 e _ fun H1 e1 => ⟨lo, hi, rfl, b, fun Dl hD =>
  lc_range (lo := lo) (n := (hi - lo).toNat) (Cw H1 (fun _ => true) g Dl) ⟨hD, Ex.new hD, upd_same⟩ (fun i H' hi' p => ⟨hw _, cw_turn p (by omega) et_yes fun _ => he i H1 (e.trans e1) (by omega)⟩) (fun H' p => by
    have z := p.2.2
    rw [given_all] at z
    exact q Dl H' (fresh_back e1 p.1) (e1.trans p.2.1) z)⟩
/-- [e for k in range(lo, hi, -1)] -/
theorem el_mapD {lo hi : Int} (g : Nat → V) (h : EvA ta σ H [.int lo, .int hi, .int (-1)]) (b : -(2 ^ 62) ≤ lo ∧ lo < 2 ^ 62 ∧ -(2 ^ 62) ≤ hi ∧ hi < 2 ^ 62) (hz : (lo - hi).toNat ≤ 40000) (hw : ∀ x, wipe ((wipe σ vs).set j (some x)) vs = wipe σ vs)
    (he : ∀ (i : Nat) H1, Ex H H1 → hi < lo - (i : Int) → Ev te ((wipe σ vs).set j (some (.int (lo - (i : Int))))) H1 (g i)) : EvL (tLc (iRng3 ta) (gName j) tYes te vs) σ H ((List.range (lo - hi).toNat).map g) := fun H0 e Q q => h H0 e _ fun H1 e1 =>
  ⟨lo, hi, -1, (lo - hi).toNat, rfl, RgC.neg b.1 b.2.1 b.2.2.1 b.2.2.2, fun Dl hD => by
    refine ⟨fun i m H' => m = (lo - hi).toNat - i ∧ i ≤ (lo - hi).toNat ∧ Cw H1 (fun _ => true) g Dl i H', ⟨_, rfl, Nat.zero_le _, hD, Ex.new hD, upd_same⟩, fun i m H' hW => ?_⟩
    obtain ⟨rfl, hi', p⟩ := hW
    by_cases hlt : i < (lo - hi).toNat
    · refine .inr ⟨hlt, Cw H1 (fun _ => true) g Dl (i + 1), fun H2 p2 => ⟨_, by omega, rfl, hlt, p2⟩, fun x H2 y => ?_⟩
      obtain ⟨y1, y2⟩ := y
      subst y1 y2
      have e2 : lo + (i : Int) * (-1) = lo - (i : Int) := by omega
      rw [e2]
      exact ⟨hw _, cw_turn p (by omega) et_yes fun _ => he i H1 (e.trans e1) (by omega)⟩
    · obtain rfl : i = (lo - hi).toNat := by omega
      have z := p.2.2
      rw [given_all] at z
      exact .inl ⟨Nat.le_refl _, q Dl H' (fresh_back e1 p.1) (e1.trans p.2.1) z⟩⟩
end
/-! ### more loops -/
section
variable {K : PySem.W.Frag} {σ : Stt} {H : Hp} {ta : TA} {te : TE} {tu tz : TS} {D : Ends} {xs ys : List V} {j : Nat}
/-- for x in reversed(a list that stands) -/
theorem q_forV {a : Addr} (h : EvA ta σ H [.ref a]) (hx : SqL K H a xs) (Pv : Nat → Stt → Hp → Prop) (h0 : ∀ H1, Ex H H1 → Pv 0 σ H1) (hl : ∀ i σ' H', Pv i σ' H' → SqL K H' a xs)
    (hs : ∀ i x σ' H', i < xs.length → xs[xs.length - 1 - i]? = some x → Pv i σ' H' → tu { D with nx := Pv (i + 1), ct := Pv (i + 1), bk := tz D } (σ'.set j (some x)) H') (hd : ∀ σ' H', Pv xs.length σ' H' → tz D σ' H') :
    tSeq (tFor (iRev K ta) (gName j) tu) tz D σ H :=
  h H (Ex.refl H) _ fun H1 e => ⟨a, xs, rfl, ex_l e hx, RT.for_Itv (D := { D with nx := tz D }) Pv (h0 H1 e) hl hs hd⟩
/-- .. a new list -/
theorem q_forNV (h : EvL te σ H xs) (Pv : Addr → Nat → Stt → Hp → Prop) (h0 : ∀ a H1, H a = none → Ex H H1 → H1 a = some (.lst xs) → Pv a 0 σ H1) (hl : ∀ a i σ' H', Pv a i σ' H' → SqL K H' a xs)
    (hs : ∀ a i x σ' H', i < xs.length → xs[xs.length - 1 - i]? = some x → Pv a i σ' H' → tu { D with nx := Pv a (i + 1), ct := Pv a (i + 1), bk := tz D } (σ'.set j (some x)) H') (hd : ∀ a σ' H', Pv a xs.length σ' H' → tz D σ' H') :
    tSeq (tFor (iRev K (tCons te tNil)) (gName j) tu) tz D σ H :=
  h H (Ex.refl H) _ fun a H1 f e h1 => ⟨a, xs, rfl, sq_of h1, RT.for_Itv (D := { D with nx := tz D }) (Pv a) (h0 a H1 f e h1) (hl a) (hs a) (hd a)⟩
/-- for x in range(lo, hi, -1) -/
theorem q_forD {lo hi : Int} (h : EvA ta σ H [.int lo, .int hi, .int (-1)]) (b : -(2 ^ 62) ≤ lo ∧ lo < 2 ^ 62 ∧ -(2 ^ 62) ≤ hi ∧ hi < 2 ^ 62) (Pv : Nat → Stt → Hp → Prop) (h0 : ∀ H1, Ex H H1 → Pv 0 σ H1)
    (hs : ∀ (i : Nat) σ' H', hi < lo - i → Pv i σ' H' → tu { D with nx := Pv (i + 1), ct := Pv (i + 1), bk := tz D } (σ'.set j (some (.int (lo - i)))) H') (hd : ∀ σ' H', Pv (lo - hi).toNat σ' H' → tz D σ' H') :
    tSeq (tFor (iRng3 ta) (gName j) tu) tz D σ H :=
  h H (Ex.refl H) _ fun H1 e => ⟨lo, hi, -1, (lo - hi).toNat, rfl, RgC.neg b.1 b.2.1 b.2.2.1 b.2.2.2, for_rangeC (lo := lo) (c := -1) (n := (lo - hi).toNat) (D := { D with nx := tz D }) Pv (h0 H1 e) (fun i σ' H' hi' p => by
    have q := hs i σ' H' (by omega) p
    have e2 : lo + (i : Int) * (-1) = lo - i := by omega
    show tu _ (σ'.set j (some (.int (lo + (i : Int) * (-1))))) H'
    rw [e2]
    exact q) hd⟩
end
section
variable {K : PySem.W.Frag} {σ : Stt} {H : Hp} {ta : TA} {te : TE} {tu tz : TS} {D : Ends} {xs ys : List V} {i j : Nat}
/-- for x, y in zip of two lists of one length -/
theorem q_forZ {a b : Addr} (h : EvA ta σ H [.ref a, .ref b]) (hx : SqL K H a xs) (hy : SqL K H b ys) (hl : xs.length = ys.length) (Pv : Nat → Stt → Hp → Prop) (h0 : ∀ H1, Ex H H1 → Pv 0 σ H1)
    (hq : ∀ n σ' H', Pv n σ' H' → SqL K H' a xs ∧ SqL K H' b ys)
    (hs : ∀ n x y σ' H' H2, xs[n]? = some x → ys[n]? = some y → Pv n σ' H' → Ex H' H2 → tu { D with nx := Pv (n + 1), ct := Pv (n + 1), bk := tz D } ((σ'.set i (some x)).set j (some y)) H2) (hd : ∀ σ' H', Pv xs.length σ' H' → tz D σ' H') :
    tSeq (tFor (iZip K ta) (gTup K 2 (gCons (gName i) (gCons (gName j) gNil))) tu) tz D σ H :=
  h H (Ex.refl H) _ fun H1 e => ⟨a, b, xs, ys, rfl, ex_l e hx, ex_l e hy, RZ.for_zipL (D := { D with nx := tz D }) hl Pv (h0 H1 e) hq (fun n x y T σ' H' h1 h2 p hT =>
    ⟨T, [x, y], rfl, .inl (.inl upd_same), rfl, x, [y], rfl, y, [], rfl, rfl, hs n x y σ' H' _ h1 h2 p (Ex.new hT)⟩) hd⟩
end
/-! ### insert, index, sorted, list(range(n)) -/
def rInsert : V → List V → Hp → VK → Prop := fun x vs H Q => ∃ (l : Addr) (xs : List V) (i : Int) (y : V), x = .ref l ∧ vs = [.int i, y] ∧ H l = some (.lst xs) ∧ xs.length < sizeLine ∧ 0 ≤ i ∧ i < 2 ^ 63 ∧
  Q .non (upd H l (.lst (xs.take i.toNat ++ [y] ++ xs.drop i.toNat)))
section
variable {K : PySem.W.Frag} {σ : Stt} {H : Hp} {ta ti te tl : TE} {x y z v : V} {tu tz : TS} {D : Ends} {xs : List V}
theorem s_ins {l : Addr} {i : Int} (hl : H l = some (.lst xs)) (ha : Ev ta σ H (.ref l)) (hi : Ev ti σ H (.int i)) (h : Ev te σ H v) (hz : xs.length < 100000) (h0 : 0 ≤ i) (h1 : i < 1000) (k : ∀ H1, Ex H H1 → D.nx σ (upd H1 l (.lst (xs.take i.toNat ++ [v] ++ xs.drop i.toNat)))) :
    tDrop (tBM K "list" rInsert ta (tCons ti (tCons te tNil))) D σ H := ha H (Ex.refl H) _ fun H1 e1 =>
  ⟨Or.inl ⟨rfl, xs, sq_of (e1 l _ hl)⟩, hi H1 e1 _ fun H2 e2 => h H2 (e1.trans e2) _ fun H3 e3 => ⟨l, xs, i, v, rfl, rfl, ((e1.trans e2).trans e3) l _ hl, sz_lt hz, h0, by omega, k H3 ((e1.trans e2).trans e3)⟩⟩
theorem q_ins {l : Addr} {i : Int} (hl : H l = some (.lst xs)) (ha : Ev ta σ H (.ref l)) (hi : Ev ti σ H (.int i)) (h : Ev te σ H v) (hz : xs.length < 100000) (h0 : 0 ≤ i) (h1 : i < 1000) (k : ∀ H1, Ex H H1 → tz D σ (upd H1 l (.lst (xs.take i.toNat ++ [v] ++ xs.drop i.toNat)))) :
    tSeq (tDrop (tBM K "list" rInsert ta (tCons ti (tCons te tNil)))) tz D σ H := s_ins (D := { D with nx := tz D }) hl ha hi h hz h0 h1 k
theorem flat_ints (ns : List Int) : (ns.map V.int).all flatV = true := by
  rw [List.all_eq_true]
  intro v hv
  obtain ⟨n, _, rfl⟩ := List.mem_map.mp hv
  rfl
theorem ev_index {p : Addr} {ns : List Int} {n : Int} {j : Nat} (ha : Ev ta σ H (.ref p)) (hp : SqL K H p (ns.map V.int)) (h : Ev te σ H (.int n)) (hj : ns[j]? = some n) (hf : ∀ m z, m < j → ns[m]? = some z → z ≠ n) :
    Ev (tBM K "list" (rIndex K) ta (tCons te tNil)) σ H (.int (j : Nat)) := fun H1 e Q q =>
  ha H1 e _ fun H2 e2 => ⟨Or.inl ⟨rfl, _, ex_l (e.trans e2) hp⟩, h H2 (e.trans e2) _ fun H3 e3 => ⟨p, ns.map V.int, .int n, j, .int n, rfl, rfl, ex_l ((e.trans e2).trans e3) hp, rfl, flat_ints ns, by rw [List.getElem?_map, hj]; rfl, by simp [eqV],
    fun m z' hm hz => by
      rw [List.getElem?_map] at hz
      obtain ⟨z, h1, rfl⟩ := Option.map_eq_some_iff.mp hz
      show (z == n) = false
      rw [beq_eq_false_iff_ne]
      exact hf m z hm h1, q H3 (e2.trans e3)⟩⟩
theorem en_sorted {p : Addr} {ns : List Int} (ha : Ev ta σ H (.ref p)) (hp : SqL K H p (ns.map V.int)) (hz : ns.length < 64) : EvN (tCB (rSorted K) (tCons ta tNil)) σ H (fun v H2 => ∃ (r : Addr) (ms : List Int), v = .ref r ∧ ms.Perm ns ∧ ms.Pairwise (· ≤ ·) ∧ H2 r = some (.lst (ms.map V.int))) := fun H1 e Q q =>
  ha H1 e _ fun H2 e2 => ⟨p, ns, rfl, ex_l (e.trans e2) hp, hz, fun ms r h1 h2 hr => q _ _ (e2.trans (Ex.new hr)) (Frs.ref (fresh_back e2 hr)) ⟨r, ms, rfl, h1, h2, upd_same⟩⟩
theorem en_sortedN {ns : List Int} (ha : EvL ta σ H (ns.map V.int)) (hz : ns.length < 64) : EvN (tCB (rSorted K) (tCons ta tNil)) σ H (fun v H2 => ∃ (r : Addr) (ms : List Int), v = .ref r ∧ ms.Perm ns ∧ ms.Pairwise (· ≤ ·) ∧ H2 r = some (.lst (ms.map V.int))) := fun H1 e Q q =>
  ha H1 e _ fun p H2 f e2 hp => ⟨p, ns, rfl, sq_of hp, hz, fun ms r h1 h2 hr => q _ _ (e2.trans (Ex.new hr)) (Frs.ref (fresh_back e2 hr)) ⟨r, ms, rfl, h1, h2, upd_same⟩⟩
theorem rgV_nat (n : Nat) : rgV 0 (n : Int) = (List.range n).map fun k : Nat => V.int (k : Int) := by
  unfold rgV
  rw [Int.sub_zero, Int.toNat_natCast]
  congr 1
  funext k
  rw [Int.zero_add]
theorem el_listRg {n : Nat} (h : Ev te σ H (.int (n : Int))) (hn : n ≤ 10000) : EvL (tLstRg (tRg1 te)) σ H ((List.range n).map fun k : Nat => V.int (k : Int)) := fun H1 e Q q =>
  h H1 e _ fun H2 e2 => ⟨(n : Int), rfl, RgOk.of_le (by omega) (by omega) (by omega) (by omega), fun r hr => q r _ (fresh_back e2 hr) (e2.trans (Ex.new hr)) (by rw [rgV_nat]; exact upd_same)⟩
/-- two operands, the first with G -/
theorem ev_opN {r : R2} {G : V → Hp → Prop} (ha : EvX ta σ H G) (hb : ∀ v H1, Ex H H1 → G v H1 → EvX te σ H1 (fun u H2 => RV r v u H2 z)) : Ev (tOp r ta te) σ H z := fun H1 e Q q =>
  ha H1 e _ fun v H2 e2 g => hb v H2 (e.trans e2) g H2 (Ex.refl H2) _ fun u H3 e3 g3 => g3 H3 (Ex.refl H3) Q fun H4 e4 => q H4 ((e2.trans e3).trans e4)
theorem EvL.is {ys : List V} (h : EvL te σ H xs) (e : xs = ys) : EvL te σ H ys := by rw [← e]; exact h
theorem EvL.toX (h : EvL te σ H xs) : EvX te σ H (fun v H2 => ∃ p, v = .ref p ∧ H2 p = some (.lst xs)) := fun H1 e Q q => h H1 e _ fun p H2 f e2 h2 => q _ H2 e2 ⟨p, rfl, h2⟩
theorem Ev.toX (h : Ev te σ H v) : EvX te σ H (fun u _ => u = v) := fun H1 e Q q => h H1 e _ fun H2 e2 => q _ H2 e2 rfl
theorem EvN.imp {G G' : V → Hp → Prop} (h : EvN te σ H G) (k : ∀ v H1, Ex H H1 → G v H1 → G' v H1) : EvN te σ H G' := fun H1 e Q q => h H1 e _ fun v H2 e2 f g => q v H2 e2 f (k v H2 (e.trans e2) g)
theorem EvX.imp {G G' : V → Hp → Prop} (h : EvX te σ H G) (k : ∀ v H1, Ex H H1 → G v H1 → G' v H1) : EvX te σ H G' := fun H1 e Q q => h H1 e _ fun v H2 e2 g => q v H2 e2 (k v H2 (e.trans e2) g)
end
theorem in_ints (x : Int) (ys : List Int) : inV (.int x) (ys.map V.int) = decide (x ∈ ys) := by
  unfold inV
  rw [List.any_map, Bool.eq_iff_iff, List.any_eq_true, decide_eq_true_eq]
  refine ⟨fun ⟨y, hy, e⟩ => ?_, fun h => ⟨x, h, ?_⟩⟩
  · have q : (y == x) = true := e
    rw [← eq_of_beq q]
    exact hy
  · show (x == x) = true
    exact beq_self_eq_true x
theorem rv_inI {K : PySem.W.Frag} {H : Hp} {p : Addr} {x : Int} {ys : List Int} (h : SqL K H p (ys.map V.int)) : RV (rIn K false) (.int x) (.ref p) H (.bl (decide (x ∈ ys))) := by
  have q := rv_isL (K := K) (x := .int x) h rfl (flat_ints ys)
  rw [in_ints] at q
  exact q
theorem rv_niI {K : PySem.W.Frag} {H : Hp} {p : Addr} {x : Int} {ys : List Int} (h : SqL K H p (ys.map V.int)) : RV (rIn K true) (.int x) (.ref p) H (.bl (!decide (x ∈ ys))) := by
  have q := rv_niL (K := K) (x := .int x) h rfl (flat_ints ys)
  rw [in_ints] at q
  exact q
theorem ev_abs {σ : Stt} {H : Hp} {ta : TE} {i : Int} (ha : Ev ta σ H (.int i)) : Ev (tCB (fun xs H Q => ∃ i, xs = [.int i] ∧ Q (.int (if i < 0 then -i else i)) H) (tCons ta tNil)) σ H (.int (if i < 0 then -i else i)) := fun H1 e Q q =>
  ha H1 e _ fun H2 e2 => ⟨i, rfl, q H2 e2⟩
/-- none is left by a filter -/
theorem none_left (ts : List Int) (p : Int → Bool) : decide ((((ts.filter p).map V.int).length : Int) = 0) = ts.all fun v => !p v := by
  rw [Bool.eq_iff_iff, decide_eq_true_eq, List.all_eq_true, List.length_map]
  constructor
  · intro h v hv
    have z : ts.filter p = [] := List.eq_nil_of_length_eq_zero (by omega)
    have q := List.filter_eq_nil_iff.mp z v hv
    simpa using q
  · intro h
    rw [List.filter_eq_nil_iff.mpr fun v hv => by simpa using h v hv]
    rfl
theorem none_given (n : Nat) (f : Nat → Bool) (v : Nat → V) : decide (((given n f v).length : Int) = 0) = (List.range n).all fun i => !f i := by
  unfold given
  rw [Bool.eq_iff_iff, decide_eq_true_eq, List.all_eq_true, List.length_map]
  constructor
  · intro h i hi
    have z : (List.range n).filter f = [] := List.eq_nil_of_length_eq_zero (by omega)
    have q := List.filter_eq_nil_iff.mp z i hi
    simpa using q
  · intro h
    rw [List.filter_eq_nil_iff.mpr fun v hv => by simpa using h v hv]
    rfl
/-! ### branches that are known -/
section
variable {K : PySem.W.Frag} {σ : Stt} {H : Hp} {t : TT} {ta tb te : TE} {tu tw tz : TS} {D : Ends} {b : Bool} {G : V → Hp → Prop} {xs : List V}
theorem q_take (h : EvT t σ H b) (hb : b = true) (k : ∀ H1, Ex H H1 → tu { D with nx := tz D } σ H1) : tSeq (tIfS t tu tNext) tz D σ H := q_when h (fun _ => k) fun z => by
  rw [hb] at z
  cases z
theorem q_skip (h : EvT t σ H b) (hb : b = false) (k : ∀ H1, Ex H H1 → tz D σ H1) : tSeq (tIfS t tu tNext) tz D σ H := q_when h (fun z => by
  rw [hb] at z
  cases z) fun _ => k
theorem et_eqI {i j : Int} (ha : Ev ta σ H (.int i)) (hb : Ev tb σ H (.int j)) : EvT (tTest (tOp rEq ta tb)) σ H (decide (i = j)) := et_is (et_test (ev_op ha hb (rv_eq rfl))) (by
  by_cases e : i = j
  · rw [e, decide_eq_true rfl, decide_eq_true rfl]
  · rw [decide_eq_false e, decide_eq_false fun z => e (V.int.inj z)])
theorem et_neI {i j : Int} (ha : Ev ta σ H (.int i)) (hb : Ev tb σ H (.int j)) : EvT (tTest (tOp rNe ta tb)) σ H (!decide (i = j)) := et_is (et_test (ev_op ha hb (rv_ne rfl))) (by
  by_cases e : i = j
  · rw [e, decide_eq_true rfl, decide_eq_true rfl]
  · rw [decide_eq_false e, decide_eq_false fun z => e (V.int.inj z)])
theorem ev_eqI {i j : Int} (ha : Ev ta σ H (.int i)) (hb : Ev tb σ H (.int j)) : Ev (tOp rEq ta tb) σ H (.bl (decide (i = j))) := ev_is (ev_op ha hb (rv_eq rfl)) (by
  by_cases e : i = j
  · rw [e, decide_eq_true rfl, decide_eq_true rfl]
  · rw [decide_eq_false e, decide_eq_false fun z => e (V.int.inj z)])
theorem q_ifAsgX {i : Nat} (h : EvT t σ H b) (h1 : b = true → EvX te σ H G) (h2 : b = false → ∃ v, σ.set i (some v) = σ ∧ ∀ H1, Ex H H1 → G v H1) (k : ∀ v H1, Ex H H1 → G v H1 → tz D (σ.set i (some v)) H1) : tSeq (tIfS t (tAsg te (gName i)) tNext) tz D σ H :=
  q_when h (fun hb H1 e1 => h1 hb H1 e1 _ fun v H2 e2 g => k v H2 (e1.trans e2) g) fun hb H1 e1 => by
    obtain ⟨v, hs, g⟩ := h2 hb
    have z := k v H1 e1 (g H1 e1)
    rw [hs] at z
    exact z
/-- if c: a suite; what both ways leave is M -/
theorem q_join {M : Stt → Hp → Prop} (h : EvT t σ H b) (k : ∀ σ' H', M σ' H' → tz D σ' H') (h1 : (∀ σ' H', M σ' H' → tz D σ' H') → b = true → ∀ H1, Ex H H1 → tu { D with nx := tz D } σ H1) (h2 : b = false → ∀ H1, Ex H H1 → M σ H1) : tSeq (tIfS t tu tNext) tz D σ H :=
  q_when h (h1 k) fun hb H1 e1 => k _ _ (h2 hb H1 e1)
/-- [a new list, another one] -/
theorem en_pair {ys : List V} (ha : EvL ta σ H xs) (hb : EvL tb σ H ys) : EvN (tLst (tCons ta (tCons tb tNil))) σ H (fun v H2 => ∃ (p a b : Addr), v = .ref p ∧ H2 p = some (.lst [.ref a, .ref b]) ∧ H2 a = some (.lst xs) ∧ H2 b = some (.lst ys)) := fun H1 e Q q =>
  ha H1 e _ fun a H2 fa e2 h2 => hb H2 (e.trans e2) _ fun b H3 fb e3 h3 => ⟨sz_of (by show 2 ≤ 100000; decide), fun p hp => q _ _ ((e2.trans e3).trans (Ex.new hp)) (Frs.ref (fresh_back (e2.trans e3) hp)) ⟨p, a, b, rfl, upd_same, (Ex.new hp) _ _ (e3 _ _ h2), (Ex.new hp) _ _ h3⟩⟩
/-- a <= b < c -/
theorem et_chain {r r' : R2} {tc : TE} {x y z : V} {b b' : Bool} (ha : Ev ta σ H x) (hb : Ev tb σ H y) (hc : Ev tc σ H z) (h1 : RV r x y H (.bl b)) (h2 : RV r' y z H (.bl b')) : EvT (tTest (tChain r r' ta tb tc)) σ H (b && b') := fun H1 e Q q =>
  ha H1 e _ fun H2 e2 => hb H2 (e.trans e2) _ fun H3 e3 => h1 H3 ((e.trans e2).trans e3) _ fun H4 e4 => ⟨b, rfl, by
    cases b with
    | false => exact ⟨false, rfl, q H4 ((e2.trans e3).trans e4)⟩
    | true =>
      have e' := (e.trans e2).trans (e3.trans e4)
      exact hc H4 e' _ fun H5 e5 => h2 H5 (e'.trans e5) _ fun H6 e6 => ⟨b', rfl, q H6 ((e2.trans (e3.trans e4)).trans (e5.trans e6))⟩⟩
theorem s_retG {Q : VK} (h : EvN te σ H G) (k : RetN G H Q) (hq : D.rt = Q := by rfl) : tRet te D σ H := by
  subst hq
  exact h H (Ex.refl H) _ fun v H1 e f g => k v H1 e f g
/-- C(..), the arguments new objects -/
theorem en_makeX {C : Addr} {sp : Sp} {E : XK} {ta : TA} (h : EvAX ta σ H (fun vs H2 => InitN C sp vs H2 G)) : EvN (tMake C sp [] E ta) σ H G := fun H1 e Q q =>
  h H1 e _ fun vs H2 e2 hs x dx hx hd ne => hs H2 (Ex.refl H2) x dx hx hd ne _ (fun H3 e3 g3 => ⟨rfl, q (.ref x) H3 (e2.trans e3) ((Frs.ref hx).back e2) g3⟩) E
/-- what __init__ promises where it may refuse -/
def InitB (C : Addr) (sp : Sp) (vs : List V) (H : Hp) (G : V → Hp → Prop) (good : Prop) (c : Addr) : Prop := ∀ H1, Ex H H1 → ∀ x dx, H1 x = none → H1 dx = none → dx ≠ x → ∀ (Q : VK) (E : XK), (good → ∀ H2, Ex H1 H2 → G (.ref x) H2 → Q .non H2) → (¬ good → ∀ H2, Ex H1 H2 → E (.ref c) none H2) →
  sp (.ref x :: (vs ++ [])) (upd (upd H1 dx (.own x)) x (.ins C dx [])) Q E
theorem InitB.calm {C : Addr} {sp : Sp} {vs : List V} {good : Prop} {c : Addr} (h : InitB C sp vs H G good c) (g : good) : InitN C sp vs H G := fun H1 e1 x dx hx hd ne Q k E => h H1 e1 x dx hx hd ne Q E (fun _ => k) fun z => absurd g z
theorem InitB.ex {C : Addr} {sp : Sp} {vs : List V} {good : Prop} {c : Addr} {H' : Hp} (h : InitB C sp vs H G good c) (e : Ex H H') : InitB C sp vs H' G good c := fun H1 e1 => h H1 (e.trans e1)
theorem s_retMake {C : Addr} {sp : Sp} {E : XK} {ta : TA} {good : Prop} {c : Addr} {Q : VK} (h : EvAX ta σ H (fun vs H2 => InitB C sp vs H2 G good c)) (k : good → RetN G H Q) (kE : ¬ good → ∀ H2, Ex H H2 → E (.ref c) none H2) (hq : D.rt = Q := by rfl) : tRet (tMake C sp [] E ta) D σ H := by
  subst hq
  exact h H (Ex.refl H) _ fun vs H2 e2 hs x dx hx hd ne => hs H2 (Ex.refl H2) x dx hx hd ne _ E (fun g H3 e3 g3 => ⟨rfl, k g (.ref x) H3 (e2.trans e3) ((Frs.ref hx).back e2) g3⟩) fun z H3 e3 => kE z H3 (e2.trans e3)
theorem EvA.toX {ta : TA} {vs : List V} {GA : List V → Hp → Prop} (h : EvA ta σ H vs) (k : ∀ H1, Ex H H1 → GA vs H1) : EvAX ta σ H GA := fun H1 e Q q => h H1 e _ fun H2 e2 => q vs H2 e2 (k H2 (e.trans e2))
end
/-! ### what a fresh instance leaves -/
theorem ex_made {H : Hp} {x dx C : Addr} (nx : H x = none) (nd : H dx = none) : Ex H (upd (upd H dx (.own x)) x (.ins C dx [])) := fun a o h => by
  rw [upd_ne (ne_of_none h nx), upd_ne (ne_of_none h nd)]
  exact h
/-- an object that stood stays when a fresh one is written -/
theorem ex_upd {H H' : Hp} {p : Addr} {o : HO} (e : Ex H H') (h : H p = none) : Ex H (upd H' p o) := Ex.mut e h
end Oc
/-! list(reversed(xs)): the layer has tuple(reversed(xs)) alone. -/
namespace Oc
open PySem PySem.Spec PyProof.Rows L2 Evl
section
variable {prog : Program} {w : World} {A : Around} {E : Value → Shared → Prop} {s : Shared}
abbrev noItems : Obj := { cls := .type "list", data := .seq #[] }
/-- the new list S takes the items of the backward iterator it over l -/
theorem rev_taken {R : Result → Shared → Prop} {it l S : Addr} {items : Array Value} {c0 : Nat} (hh : A.handled = none) (hit : s.heap.IsRevIter it l ((items.size : Int) - 1)) (hl : s.heap.IsList l items) (hne : l ≠ it)
    (hn : items.size ≤ sizeLine) (hS : s.heap.get? S = some { cls := .type "list", data := .seq #[] c0 }) (hSi : S ≠ it) (hSl : S ≠ l) (res : Value)
    (hR : ∀ (h' : Heap) (tk : Nat) (acc : Array Value) (c' : Nat), (∀ b o, b ≠ S → b ≠ it → s.heap.get? b = some o → h'.get? b = some o) → h'.get? S = some { cls := .type "list", dict := none, data := .seq acc c', slots := #[] } →
      ItemsOf (fun i v => items[items.size - 1 - i]? = some v) acc items.size → R (.ok (.ret res)) { s with heap := h', toks := tk }) :
    wpAny (model prog w) A.in1 (Builtin.List.listExtendWith (.ref S) (.ref it) res)
      (fun fin s' => match fin with | .done f => R (.ok f) s' | .again c' => c'.quiet = true ∧ codeAny (model prog w) A c' R s') (fun e s' => R (.error e) s') s := by
  have W := (Walks.listRev (prog := prog) (w := w) (A := A.in1) hh it l hne items).toS
  have hSf : S ∉ [it, l] := fun q => by
    rcases List.mem_cons.mp q with q | q
    · exact hSi q
    · exact hSl (List.mem_singleton.mp q)
  have hT : s.TypeIs (.ref it) "list_reverseiterator" := hit.typeIs
  have e0 : ((items.size : Nat) : Int) - 1 - ((0 : Nat) : Int) = (items.size : Int) - 1 := by omega
  have same : Builtin.List.listSameRef (.ref S) (.ref it) = false := by simp [Builtin.List.listSameRef, hSi]
  unfold Builtin.List.listExtendWith
  refine wpAny_bind (wpAny_typeOf hT ?_)
  rw [if_neg (by rw [same]; decide)]
  refine wpAny_bind (wpAny_pyIter_revIter hit (wpAny_bind (wpAny_holding ?_)))
  unfold Builtin.List.listLengthHint
  refine wpAny_bind (wpAny_specialOf hT RT.nolen_lri ?_)
  show wpAny _ A.in1 (specialOf _ (Str.ofString "__length_hint__") >>= _) _ _ _
  refine wpAny_bind (wpAny_specialOf hT RT.hint_lri ?_)
  generalize q : ("list_reverseiterator.__length_hint__" : String) = idd
  wp_delta
  rw [show splitId idd = some ("list_reverseiterator", "__length_hint__") from by subst q; decide +kernel]
  subst q
  refine wpAny_bind (wpAny_isInstance (b := true) hT (by rw [isSubtype_type]; kernel_rfl) (wpAny_pure ?_))
  rw [if_neg (by decide)]
  refine wpAny_pure ⟨plainId_quiet F.plain_extend_loop _, codeAny_extend_loopS W hn S hSf res items.size 0 _ #[] c0 rfl (Nat.zero_le _) ⟨Nat.zero_le _, by rw [e0]; exact hit, hl⟩ hS (ItemsOf.nil _) fun s' acc' c' hm hS' hacc => ?_⟩
  rw [Moved.eq_with hm]
  refine hR s'.heap s'.toks acc' c' (fun b o b1 b2 e => hm.heap b o (fun z => ?_) e) hS' hacc
  rcases List.mem_cons.mp z with z | z
  · exact b1 z
  · exact b2 (List.mem_singleton.mp z)
theorem list_of_rev {Q : Value → Shared → Prop} {it l : Addr} {items : Array Value} (hh : A.handled = none) (hit : s.heap.IsRevIter it l ((items.size : Int) - 1)) (hl : s.heap.IsList l items) (hne : l ≠ it) (hn : items.size ≤ sizeLine)
    (hQ : ∀ (h' : Heap) (tk : Nat) (acc : Array Value) (c' : Nat), (∀ b o, b ≠ it → s.heap.get? b = some o → h'.get? b = some o) → h'.get? s.heap.objs.size = some { cls := .type "list", dict := none, data := .seq acc c', slots := #[] } →
      ItemsOf (fun i v => items[items.size - 1 - i]? = some v) acc items.size → Q (.ref s.heap.objs.size) { s with heap := h', toks := tk }) :
    wpAny (model prog w) A (call (.type "list") [.ref it]) Q E s := by
  refine callType_codes (Q₁ := fun obj s₁ => obj = .ref s.heap.objs.size ∧ s₁ = { s with heap := s.heap.push noItems }) F.called_list (F.typeCall_list_1 _) F.entry_list_init (code_list_new _ ⟨rfl, rfl⟩) fun obj s₁ h₁ => ?_
  obtain ⟨rfl, rfl⟩ := h₁
  have hS : (s.heap.push noItems).get? s.heap.objs.size = some noItems := Heap.get?_push_size _ rfl
  obtain ⟨oi, hoi, _⟩ := id hit
  obtain ⟨ol, hol, _⟩ := id hl
  have hSi : s.heap.objs.size ≠ it := Nat.ne_of_gt (Heap.lt_size hoi)
  have hSl : s.heap.objs.size ≠ l := Nat.ne_of_gt (Heap.lt_size hol)
  refine ⟨⟨_, hS, rfl⟩, F.args_list_init_2 _ _, ?_⟩
  show wpAny _ _ (do let old ← Builtin.List.listItems (.ref s.heap.objs.size); Builtin.List.listUpdate (.ref s.heap.objs.size) (fun _ => #[]); letGo old.toList.reverse; Builtin.List.listExtendWith (.ref s.heap.objs.size) (.ref it) .none) _ _ _
  refine wpAny_bind ?_
  unfold Builtin.List.listItems
  refine wpAny_bind (wpAny_seqItems hS rfl (wpAny_pure ?_))
  show wpAny _ _ (updateSeq s.heap.objs.size (fun _ => #[]) >>= fun _ => letGo (#[] : Array Value).toList.reverse >>= fun _ => Builtin.List.listExtendWith (.ref s.heap.objs.size) (.ref it) .none) _ _ _
  refine wpAny_bind (wpAny_updateSeq hS rfl (wpAny_bind (wpAny_letGo ?_)))
  have hS2 := Heap.get?_update_self (Obj.mapSeq (fun _ => (#[] : Array Value))) hS rfl
  have oth : ∀ b o, b ≠ s.heap.objs.size → s.heap.get? b = some o → ((s.heap.push noItems).update s.heap.objs.size (Obj.mapSeq (fun _ => (#[] : Array Value)))).get? b = some o := fun b o hb e =>
    (Heap.get?_update_other _ _ (Ne.symm hb)).trans (Heap.get?_push_of_some _ e)
  have k1 := hit.at (h' := (s.heap.push noItems).update s.heap.objs.size (Obj.mapSeq (fun _ => (#[] : Array Value)))) fun o e => oth it o (Ne.symm hSi) e
  have k2 : ((s.heap.push noItems).update s.heap.objs.size (Obj.mapSeq (fun _ => (#[] : Array Value)))).IsList l items := by
    obtain ⟨o, e, r⟩ := hl
    exact ⟨o, oth l o (Ne.symm hSl) e, r⟩
  refine rev_taken (A := A.in1) hh k1 k2 hne hn hS2 hSi hSl .none fun h' tk acc c' hk hS' hacc => ?_
  exact ⟨rfl, hQ h' tk acc c' (fun b o hb e => hk b o (Nat.ne_of_lt (Heap.lt_size e)) hb (oth b o (Nat.ne_of_lt (Heap.lt_size e)) e)) hS' hacc⟩
end
section
variable {X : Cx}
def tListRev (K : PySem.W.Frag) (te : TE) : TE := fun σ H Q => te σ H fun v H1 => ∃ (a : Addr) (xs : List V), v = .ref a ∧ SqL K H1 a xs ∧ ∀ q, H1 q = none → Q (.ref q) (upd H1 q (.lst xs.reverse))
theorem pe_listRev {e : Expr} {te : TE} {p p2 pos pos2 : Pos} (hc : X.calm = true) (hg : Gl X "list") (hm : X.mg "list" = none) (hg2 : Gl X "reversed") (hm2 : X.mg "reversed" = none) (he : PE X e te)
    (hs : starEach [e] X.env = (false, eval e X.env) :: starEach [] X.env := by rfl)
    (hs2 : starEach [.Call (.Name "reversed" p2) [e] [] pos2] X.env = (false, eval (.Call (.Name "reversed" p2) [e] [] pos2) X.env) :: starEach [] X.env := by rfl) :
    PE X (.Call (.Name "list" p) [.Call (.Name "reversed" p2) [e] [] pos2] [] pos) (tListRev X.K te) := by
  refine ⟨fun pins s σ H Q I h => ?_⟩
  refine Call_ (ld_blt I hg hm boot_list (PyProof.Rows.callWith_type1 (args_cons (Call_ (ld_blt I hg2 hm2 boot_reversed (PyProof.Rows.callWith_type1
    (args_cons (thn (he.run pins s σ H _ I h) fun u s1 ⟨v, H1, I1, r1, q1⟩ => args_nil ?_) hs) hs rfl))) hs2) hs2 rfl))
  obtain ⟨a, xs, ev, hq, q⟩ := q1
  subst ev
  obtain rfl : u = Value.ref a := r1
  obtain ⟨its, rv, p', hz⟩ := I1.list hq
  refine call_reversed_list p'.isList (args_nil ?_)
  have hl := p'.isList
  obtain ⟨ol, hol, _⟩ := id hl
  have hne : a ≠ s1.heap.objs.size := Nat.ne_of_lt (Heap.lt_size hol)
  have hn : its.toArray.size ≤ sizeLine := by rw [List.size_toArray, ← rv.length]; exact hz
  have k0 : ∀ b o, s1.heap.get? b = some o → (s1.heap.push (revObj a ((its.toArray.size : Int) - 1))).get? b = some o := fun b o z => Heap.get?_push_of_some _ z
  have I2 : Inv X pins σ H1 { s1 with heap := s1.heap.push (revObj a ((its.toArray.size : Int) - 1)) } := I1.kept (t' := s1.toks) k0
  obtain ⟨f0, f1, f2, f3, f4, f5⟩ := I1.fpOk (H' := H1) (b := s1.heap.objs.size) (Nat.le_refl _) (I1.hok.fresh (Nat.le_refl _))
  refine list_of_rev (s := { s1 with heap := s1.heap.push (revObj a ((its.toArray.size : Int) - 1)) }) (I1.ok.hd hc) ⟨_, Heap.get?_push_size _ rfl, rfl, rfl⟩ (hl.push _) hne hn fun h' tk acc c' hk hS hi => ?_
  have hSn : (s1.heap.push (revObj a ((its.toArray.size : Int) - 1))).objs.size ≤ (s1.heap.push (revObj a ((its.toArray.size : Int) - 1))).objs.size := Nat.le_refl _
  have nf : ∀ b ∈ [s1.heap.objs.size], FpOk X pins H1 b := fun b hb => by
    rw [List.mem_singleton.mp hb]
    exact ⟨f0, f1, f2, f3, f4, f5⟩
  refine ⟨.ref _, _, I2.turnedNew (ch := [s1.heap.objs.size]) (t' := tk) (ob := .lst xs.reverse) (fun b o hb z => hk b o (fun y => hb (List.mem_singleton.mpr y)) z) nf hSn ?_, rfl, q _ (I2.hok.fresh hSn)⟩
  refine ⟨by rw [List.length_reverse]; exact hz, acc.toList, c', RT.vals_rev rv hi, ?_⟩
  rw [Array.toArray_toList]
  exact hS
end
section
variable {K : PySem.W.Frag} {σ : Stt} {H : Hp} {te : TE} {xs : List V}
theorem el_listRev {p : Addr} (h : Ev te σ H (.ref p)) (hp : SqL K H p xs) : EvL (tListRev K te) σ H xs.reverse := fun H1 e Q q =>
  h H1 e _ fun H2 e2 => ⟨p, xs, rfl, ex_l (e.trans e2) hp, fun a ha => q a _ (fresh_back e2 ha) (e2.trans (Ex.new ha)) upd_same⟩
theorem el_revL {p : Addr} (h : Ev te σ H (.ref p)) (hp : SqL K H p xs) : EvL (tRevL K te) σ H xs.reverse := fun H1 e Q q =>
  h H1 e _ fun H2 e2 => ⟨p, xs, rfl, ex_l (e.trans e2) hp, fun a ha => q a _ (fresh_back e2 ha) (e2.trans (Ex.new ha)) upd_same⟩
end
end Oc
namespace Oc
open PySem PySem.Spec PyProof.Rows L2 Evl
/-! ### == of lists of ints, of truth values -/
theorem dec_cons {α : Type} [DecidableEq α] (x y : α) (xs ys : List α) : decide (x :: xs = y :: ys) = (decide (x = y) && decide (xs = ys)) := by
  by_cases h1 : x = y
  · by_cases h2 : xs = ys
    · simp [h1, h2]
    · simp [h1, h2]
  · simp [h1]
theorem eqv_ints : ∀ xs ys : List Int, PyData.eqvAll (xs.map PyData.int) (ys.map PyData.int) = decide (xs = ys)
  | [], [] => by simp [PyData.eqvAll]
  | [], _ :: _ => by simp [PyData.eqvAll]
  | _ :: _, [] => by simp [PyData.eqvAll]
  | x :: xs, y :: ys => by
    rw [dec_cons, ← eqv_ints xs ys, List.map_cons, List.map_cons, PyData.eqvAll]
    congr 1
theorem eqv_bls : ∀ xs ys : List Bool, PyData.eqvAll (xs.map PyData.bool) (ys.map PyData.bool) = decide (xs = ys)
  | [], [] => by simp [PyData.eqvAll]
  | [], _ :: _ => by simp [PyData.eqvAll]
  | _ :: _, [] => by simp [PyData.eqvAll]
  | x :: xs, y :: ys => by
    rw [dec_cons, ← eqv_bls xs ys, List.map_cons, List.map_cons, PyData.eqvAll]
    congr 1
theorem lay_ints : ∀ xs : List Int, PyData.canLayAll0 (xs.map PyData.int) = true
  | [] => by simp [PyData.canLayAll0]
  | x :: xs => by simp [PyData.canLayAll0, PyData.canLay0, lay_ints xs]
theorem lay_bls : ∀ xs : List Bool, PyData.canLayAll0 (xs.map PyData.bool) = true
  | [] => by simp [PyData.canLayAll0]
  | x :: xs => by simp [PyData.canLayAll0, PyData.canLay0, lay_bls xs]
theorem depth_ints : ∀ xs : List Int, PyData.depthAll (xs.map PyData.int) ≤ 1
  | [] => by simp [PyData.depthAll]
  | x :: xs => by
    have := depth_ints xs
    simp [PyData.depthAll, PyData.depth]
    omega
theorem depth_bls : ∀ xs : List Bool, PyData.depthAll (xs.map PyData.bool) ≤ 1
  | [] => by simp [PyData.depthAll]
  | x :: xs => by
    have := depth_bls xs
    simp [PyData.depthAll, PyData.depth]
    omega
theorem shaped_ints (xs : List Int) : SeqAt.shaped (.list (xs.map PyData.int)) = true := by
  have h1 := lay_ints xs
  have h2 := depth_ints xs
  unfold SeqAt.shaped
  simp only [PyData.canLay0, PyData.depth, h1, Bool.true_and, decide_eq_true_eq]
  apply decide_eq_true
  omega
theorem shaped_bls (xs : List Bool) : SeqAt.shaped (.list (xs.map PyData.bool)) = true := by
  have h1 := lay_bls xs
  have h2 := depth_bls xs
  unfold SeqAt.shaped
  simp only [PyData.canLay0, PyData.depth, h1, Bool.true_and, decide_eq_true_eq]
  apply decide_eq_true
  omega
theorem shaped_pair (bs cs : List Bool) : SeqAt.shaped (.list [.list (bs.map PyData.bool), .list (cs.map PyData.bool)]) = true := by
  have h1 := lay_bls bs
  have h2 := lay_bls cs
  have h3 := depth_bls bs
  have h4 := depth_bls cs
  unfold SeqAt.shaped
  simp only [PyData.canLay0, PyData.canLayAll0, PyData.depth, PyData.depthAll, h1, h2, Bool.true_and, Bool.and_true, decide_eq_true_eq]
  apply decide_eq_true
  omega
section
variable {K : PySem.W.Frag} {H : Hp} {p q : Addr}
theorem dp_ints : ∀ xs : List Int, DpAll K H (xs.map V.int) (xs.map PyData.int)
  | [] => .nil
  | x :: xs => .cons (.int x) (dp_ints xs)
theorem dp_bls : ∀ xs : List Bool, DpAll K H (xs.map V.bl) (xs.map PyData.bool)
  | [] => .nil
  | x :: xs => .cons (.bl x) (dp_bls xs)
theorem rv_eqI {xs ys : List Int} (h : SqL K H p (xs.map V.int)) (h' : SqL K H q (ys.map V.int)) : RV (rEqD K) (.ref p) (.ref q) H (.bl (decide (xs = ys))) := fun H1 e Q k =>
  ⟨_, _, .lst (ex_l e h) (dp_ints xs), .lst (ex_l e h') (dp_ints ys), shaped_ints xs, shaped_ints ys, by rw [PyData.eqv, eqv_ints]; exact k H1 (Ex.refl H1)⟩
theorem rv_neI {xs ys : List Int} (h : SqL K H p (xs.map V.int)) (h' : SqL K H q (ys.map V.int)) : RV (rNeD K) (.ref p) (.ref q) H (.bl (!decide (xs = ys))) := fun H1 e Q k =>
  ⟨_, _, .lst (ex_l e h) (dp_ints xs), .lst (ex_l e h') (dp_ints ys), shaped_ints xs, shaped_ints ys, by rw [PyData.eqv, eqv_ints]; exact k H1 (Ex.refl H1)⟩
theorem rv_eqB {xs ys : List Bool} (h : SqL K H p (xs.map V.bl)) (h' : SqL K H q (ys.map V.bl)) : RV (rEqD K) (.ref p) (.ref q) H (.bl (decide (xs = ys))) := fun H1 e Q k =>
  ⟨_, _, .lst (ex_l e h) (dp_bls xs), .lst (ex_l e h') (dp_bls ys), shaped_bls xs, shaped_bls ys, by rw [PyData.eqv, eqv_bls]; exact k H1 (Ex.refl H1)⟩
theorem rv_neB {xs ys : List Bool} (h : SqL K H p (xs.map V.bl)) (h' : SqL K H q (ys.map V.bl)) : RV (rNeD K) (.ref p) (.ref q) H (.bl (!decide (xs = ys))) := fun H1 e Q k =>
  ⟨_, _, .lst (ex_l e h) (dp_bls xs), .lst (ex_l e h') (dp_bls ys), shaped_bls xs, shaped_bls ys, by rw [PyData.eqv, eqv_bls]; exact k H1 (Ex.refl H1)⟩
/-- two lists of two states each, alike -/
theorem rv_nePair {a b c d : Addr} {bs cs : List Bool} (h : SqL K H p [.ref a, .ref b]) (h' : SqL K H q [.ref c, .ref d]) (ha : SqL K H a (bs.map V.bl)) (hb : SqL K H b (cs.map V.bl)) (hc : SqL K H c (bs.map V.bl)) (hd : SqL K H d (cs.map V.bl)) : RV (rNeD K) (.ref p) (.ref q) H (.bl false) := fun H1 e Q k =>
  ⟨_, _, .lst (ex_l e h) (.cons (.lst (ex_l e ha) (dp_bls bs)) (.cons (.lst (ex_l e hb) (dp_bls cs)) .nil)), .lst (ex_l e h') (.cons (.lst (ex_l e hc) (dp_bls bs)) (.cons (.lst (ex_l e hd) (dp_bls cs)) .nil)), shaped_pair bs cs, shaped_pair bs cs, by
    rw [PyData.eqv, PyData.eqvAll, PyData.eqvAll, PyData.eqvAll, PyData.eqv, PyData.eqv, eqv_bls, eqv_bls, decide_eq_true rfl, decide_eq_true rfl]
    exact k H1 (Ex.refl H1)⟩
end
end Oc
/-! Within an except suite: defs that know the handled exception's class, isinstance of it, a comprehension over range. -/
namespace Oc
open PySem PySem.Spec PyProof.Rows L2 Evl L2H HotX
/-! ### the classes of exceptions -/
def excNm : List Str := ["NoListing", "NoThing", "NoNumber", "NoState", "NoMove", "TooFar"]
abbrev excA (K : PySem.W.Frag) (i : Nat) : Addr := aG K (excNm.getD i "")
/-- what is asked of the i-th class -/
structure ExcK (K : PySem.W.Frag) (i : Nat) : Prop where
  c : ExcC K (excA K i)
  kit : ∀ j, j < 6 → PySem.W.kitOne K (.ref (excA K i)) (.ref (excA K j)) = some (decide (i = j))
  ve : PySem.W.kitOne K (.ref (excA K i)) (.type "ValueError") = some true
  exm : PySem.W.exmOne K (.ref (excA K i)) (.ref (aG K "ChangeError")) = some true
def excKB (i : Nat) (K : PySem.W.Frag) : Bool :=
  He.eqO (PySem.W.findIn K (.ref (excA K i)) "__getattribute__") (some (some (.builtin "BaseException.__getattribute__"))) && (He.eqO (PySem.W.findIn K (.ref (excA K i)) "__getattr__") (some none) && (decide (PySem.W.subIn K (.ref (excA K i)) (.type "BaseException") = some true) &&
  (PySem.W.hasDictIn K (excA K i) && (He.eqO (PySem.W.findIn K (.ref (excA K i)) "__class__") (some (some (.builtin "object.__class__"))) && (He.eqO (PySem.W.specialIn K (.builtin "object.__class__") "__get__") (some (some (.builtin "getset_descriptor.__get__"))) &&
  (decide (PySem.W.takesIn K (.builtin "object.__class__") = some true) && (decide (PySem.W.mroIn K (excA K i) (.type "object") = some true) && (((List.range 6).all fun j => decide (PySem.W.kitOne K (.ref (excA K i)) (.ref (excA K j)) = some (decide (i = j)))) &&
  (decide (PySem.W.kitOne K (.ref (excA K i)) (.type "ValueError") = some true) && decide (PySem.W.exmOne K (.ref (excA K i)) (.ref (aG K "ChangeError")) = some true))))))))))
theorem excK_ok {i : Nat} {K : PySem.W.Frag} (h : excKB i K = true) : ExcK K i := by
  obtain ⟨h1, h⟩ := He.ba h
  obtain ⟨h2, h⟩ := He.ba h
  obtain ⟨h3, h⟩ := He.ba h
  obtain ⟨h4, h⟩ := He.ba h
  obtain ⟨h5, h⟩ := He.ba h
  obtain ⟨h6, h⟩ := He.ba h
  obtain ⟨h7, h⟩ := He.ba h
  obtain ⟨h8, h⟩ := He.ba h
  obtain ⟨h9, h⟩ := He.ba h
  obtain ⟨h10, h11⟩ := He.ba h
  exact ⟨⟨He.eqO_ok h1, He.eqO_ok h2, of_decide_eq_true h3, h4, He.eqO_ok h5, He.eqO_ok h6, of_decide_eq_true h7, of_decide_eq_true h8⟩, fun j hj => of_decide_eq_true (List.all_eq_true.mp h9 j (List.mem_range.mpr hj)), of_decide_eq_true h10, of_decide_eq_true h11⟩
theorem passLN {X : Cx} : Passes (L2N.CX X.prog X.w) X E0 := fun _ _ _ _ _ _ _ z => by
  obtain ⟨_, _, _, _, _, _, _, _, _, _, _, _, nope⟩ := z
  exact False.elim nope
/-! ### a def that knows the handled exception: where it stands, its class -/
structure FnE (P : Program) (w : World) (K : PySem.W.Frag) (mg : Str → Option Value) (base : Heap) (k : Nat) (f : Addr) (fd : FuncData) (ps : List Str) (sp : Addr → Value → Option Addr → Sp) : Prop where
  len : ∀ a c d vs H Q E, sp a c d vs H Q E → vs.length = ps.length
  run : ∀ (A : Around) (outer : List Env) (s : Shared) (H : Hp) (args : Args) (us : List Value) (vs : List V) (Q : VK) (E : XK) (p : Addr × Obj) (c : Value) (d : Option Addr), RoomH k A → Hot1 A p → Zc c d p.2 → PinOk outer H s p →
    Env0 P w K mg base A outer s H → BindsTo s fd args (ps.zip us) → Vals vs us → sp p.1 c d vs H Q E → codeAny (model P w) A (.call (.ref f) args) (CR (L2N.CX P w) outer P w H s Q E) s
theorem fnE_of {P : Program} {w : World} {K : PySem.W.Frag} {mg : Str → Option Value} {base : Heap} {x qual : Str} {st : Stmt} {f : Addr} {fd : FuncData} {k : Nat} {N ps : List Str} {sp : Addr → Value → Option Addr → Sp}
    (F : FunD K x qual (defArgs st) (defBody st) (defScope st) [] [] f fd) (S : FnScope N ps (defScope st)) (len : ∀ a c d vs H Q E, sp a c d vs H Q E → vs.length = ps.length)
    (body : ∀ (cdv : Value) (A : Around) (outer : List Env) (s : Shared) (H : Hp) (vs : List V) (Q : VK) (E : XK) (p : Addr × Obj) (c : Value) (d : Option Addr), Hot1 A p → Zc c d p.2 → RoomH k (A.deeper (envOfC qual (defScope st) s.heap.objs.size f cdv)) → sp p.1 c d vs H Q E →
      ∃ t, PSs (cxH (L2N.CX P w) P w K mg base N qual (defScope st) f cdv A outer s H E p) (defBody st) t ∧ t { nx := fun _ H' => Q .non H', rt := Q } (L2.start N vs) H) : FnE P w K mg base (k + 1) f fd ps sp := by
  obtain ⟨oc, od, dV, kV, doc, pm, an, cdv, ct, osl, efd, lk, hcd, _, _⟩ := F.ex
  subst efd
  refine ⟨len, ?_⟩
  intro A outer s H args us vs Q E p c d room hot zc pin env bnd vals hsp
  have ln := len _ _ _ _ _ _ _ hsp
  have inS : K.In s.heap := env.mod.kin.keeps fun b o e => (env.bs b o e).1
  have noLim : s.heap.NoLimit := env.mod.nolimit.keeps fun b o e => (env.bs b o e).1
  have kinds : ∀ y ∈ ps.zip us, (defScope st).names.lookup y.1 = some .local ∨ ((defScope st).names.lookup y.1 = some .cell ∧ ((cellsFrom (s.heap.objs.size + 1) (defScope st).names []).lookup y.1).isSome = true) := by
    intro y hy
    obtain ⟨n, v⟩ := y
    rcases S.par n (List.of_mem_zip hy).1 with q | q
    · exact Or.inl q
    · exact Or.inr ⟨q, PySem.W.cellsFrom_some _ _ _ (Or.inl q)⟩
  refine codeAny_call_function room.depth (inS _ _ lk) rfl S.co S.gen rfl (PySem.W.codeRec_of inS hcd) (bnd _ _ _ _ ?_)
  refine wpAny_newFunctionEnv_cells S.kind kinds fun ev hev s' xs => ?_
  subst hev
  refine ⟨noLim.keeps xs.toInCall.keep, codeAny_func ?_⟩
  obtain ⟨t, pss, red⟩ := body cdv A outer s H vs Q E p c d hot zc (room.deeper _) hsp
  have I := inv_startH (CX := L2N.CX P w) (qual := qual) (f := f) (cd := cdv) (E := E) S pin env ln vals xs
  refine wpAny_mono (pss.run [] s' (L2.start N vs) H _ I red) (fun flow s2 hs => ?_) fun e s2 hs => hs
  have done : ∀ {σ' : Stt} {H' : Hp} {v : V} {u : Value}, Inv (cxH (L2N.CX P w) P w K mg base N qual (defScope st) f cdv A outer s H E p) [] σ' H' s2 → RelV v u → Q v H' → CE outer P w H s Q u s2 := by
    intro σ' H' v u J rv q
    exact ⟨v, H', J.os, J.bare, J.base, J.hok, rv, q⟩
  match flow, hs with
  | .ret u, ⟨v, σ', H', J, rv, q⟩ => exact done J rv q
  | .next, ⟨σ', H', J, q⟩ => exact done (v := V.non) (u := Value.none) J rfl q
  | .brk, ⟨_, _, _, q⟩ => exact q.elim
  | .cont, ⟨_, _, _, q⟩ => exact q.elim
section
variable {X : Cx}
theorem pe_callE {k : Nat} {f : Addr} {fd : FuncData} {ps : List Str} {sp : Addr → Value → Option Addr → Sp} {x : Str} {q pos : Pos} {e : Expr} {es : List Expr} {t : TA} {p : Addr × Obj} {c : Value} {d : Option Addr} (F : FnE X.prog X.w X.K X.mg X.base k f fd ps sp) (hr : RoomH k X.A)
    (hot : Hot1 X.A p) (hp : p ∈ X.pn) (hz : Zc c d p.2) (hg : Gl X x) (hm : X.mg x = some (.ref f)) (hk : PySem.W.keepIn X.K (.ref f) = true) (hb : Binds X.K fd ps []) (ha : PA X (e :: es) t) (hdb : (x == ("__debug__" : Str)) = false := by decide)
    (he : starEach (e :: es) X.env = (false, eval e X.env) :: starEach es X.env := by rfl) (hpl : (backTo pos (starEach es X.env)).any (·.1) = false := by rfl) : PE X (.Call (.Name x q) (e :: es) [] pos) (tCallS (sp p.1 c d) (fun _ => E0) t) := by
  refine ⟨fun pins s σ H Q I red => ?_⟩
  refine wpAny_Call_Name_kw (ld_glob I hg hm ?_ hdb)
  refine PySem.W.callWith_K (h₀ := X.base) I.ok.mod.kin hk (thn (ha.run pos pins s σ H _ I red) fun us s' ⟨vs, H', J, vals, hsp⟩ => ⟨J.kIn, ?_⟩) he hpl
  have ln : us.length = ps.length := by rw [← vals.length]; exact F.len _ _ _ _ _ _ _ hsp
  have bnd := hb s' us J.kIn (by rw [List.append_nil]; exact ln)
  rw [List.append_nil] at bnd
  obtain ⟨g1, g2, g3, g4, g5⟩ := J.pin p (List.mem_append_left _ hp)
  have pin : PinOk X.stack H' s' p := ⟨g1, g2, fun z => (List.mem_cons.mp (J.stkSub p.1 z)).elim g3 g4, g5⟩
  refine wpAny_call (codeAny_mono (F.run X.A X.stack s' H' ⟨us, []⟩ us vs Q E0 p c d hr hot hz pin J.env0 bnd vals hsp) fun r s2 hq => ?_)
  match r, hq with
  | .error e, z =>
    obtain ⟨_, _, _, _, _, _, _, _, _, _, _, _, nope⟩ := z
    exact False.elim nope
  | .ok (.ret u), z => exact J.after z
  | .ok .next, z => exact z.elim
  | .ok .brk, z => exact z.elim
  | .ok .cont, z => exact z.elim
/-- isinstance(e, c), e the handled exception -/
theorem call_isEH {a D : Addr} {oe : Obj} (C : ExcC X.K D) (hp : (a, oe) ∈ X.pn) (hz : Zc (.ref D) none oe) (hf : ∃ vs, oe.data = .fields vs) : CallR X (.builtin "isinstance") (rIsE X.K D a) := by
  intro pins s σ H xs us Q I vals red
  obtain ⟨c, cv, b, rfl, only, kit, q⟩ := red
  obtain ⟨u1, u2, rfl, r1, r2⟩ := vals2 vals
  obtain rfl := only _ r2
  obtain rfl : u1 = Value.ref a := r1
  have g := (I.pin (a, oe) (List.mem_append_left _ hp)).1
  have at_ : PySem.W.InstAt s.heap a oe D none := by
    obtain ⟨vs, hv⟩ := hf
    obtain ⟨o1, o2, o3, o4⟩ := oe
    obtain ⟨z1, z2⟩ := hz
    dsimp only at z1 z2 hv
    subst z1 z2 hv
    exact ⟨g, rfl, rfl, trivial⟩
  exact PySem.W.kia_one (PySem.W.handS_kitx_exc C.hg C.hk C.hs C.hd C.ha C.hn C.ht C.hm) I.kIn at_ kit (fun z => nomatch z) fun tk => ⟨.bl b, H, I.kept (t' := tk) fun _ _ z => z, rfl, q⟩
/-- a method that may raise, within try -/
theorem pe_methW {CX : CXT} {k : Nat} {f C : Addr} {fd : FuncData} {ps : List Str} {sp : Sp} {E : Stt → XK} {m : Str} {pos apos : Pos} {e o : Expr} {es : List Expr} {ta : TE} {t : TA} {pl : Sem Bool} (he : PE X o ta) (c : Cls X.K C) (hm : Meth X.K C m f) (F : FnOk X.prog X.w X.K X.mg X.base CX k f fd ps sp) (hr : Room k X.A) (hb : Binds X.K fd ps [])
    (hx : ∀ σ, PassesAt CX X σ (E σ)) (ha : PA X (e :: es) t) (hst : starEach (e :: es) X.env = (false, eval e X.env) :: starEach es X.env := by rfl) (hpl : (backTo pos (starEach es X.env)).any (·.1) = false := by rfl)
    (ht : eval (.Call (.Attribute o m apos) (e :: es) [] pos) X.env = (do
      let ov ← eval o X.env
      standAt apos.atName
      let (f, first) ← holding [ov] (getMethod ov m pl)
      callWith pos f first (backTo pos (starEach (e :: es) X.env)) (backToKw pos (keywordEach [] X.env))) := by rfl) : PE X (.Call (.Attribute o m apos) (e :: es) [] pos) (tMethH C m sp E ta t) := by
  refine ⟨fun pins s σ H Q I red => ?_⟩
  refine PySem.W.methodCall_KW (pl := pl) (thn (he.run pins s σ H _ I red) fun u s' ⟨x, H', J, rx, a, dx, fs, ex, ea, no, more⟩ => ?_) ht
  subst ex
  obtain rfl : u = Value.ref a := rx
  refine getmeth_ok J ea c hm no ?_
  refine PySem.W.callWith_K (first := [.ref a]) (h₀ := X.base) J.ok.mod.kin hm.kp (thn (ha.run pos pins s' σ H' _ J more) fun us s2 ⟨vs, H2, J2, vals, hsp⟩ => ⟨J2.kIn, ?_⟩) hst hpl
  exact run_fnS (us := .ref a :: us) (vs := .ref a :: vs) F hr hb (hx σ) J2 (.cons rfl vals) hsp
end
/-! ### lists walked there -/
section
variable {prog : Program} {w : World} {A : Around} {E : Value → Shared → Prop} {s : Shared}
theorem list_end_hot {it l x1 : Addr} {i : Nat} {items : Array Value} {Q : Option Value → Shared → Prop} (hot : HotAt A x1 s.heap) (nx : x1 ≠ it) (iti : s.heap.IsListIter it l i) (isl : s.heap.IsList l items) (out : items[i]? = none)
    (k : ∀ h', (∀ b o, b ≠ it → s.heap.get? b = some o → h'.get? b = some o) → Q none { s with heap := h' }) : wpAny (model prog w) A (pyNext (.ref it)) Q E s := by
  obtain ⟨oi, gi, ci, di⟩ := id iti
  obtain ⟨ol, gl, _, nl, dl⟩ := isl
  obtain ⟨hh, o1, vs1, g1, d1, c1⟩ := hot
  unfold pyNext
  refine wpAny_bind (wpAny_attempt (wpAny_callSpecial?_slot (name := Str.ofString "__next__") iti.typeIs slot_listiter_next (wpAny_call_entry slot_listiter_next iti.typeIs entry_listiter_next ?_ (args_listiter_next _))))
  show wpAny _ _ (field (Value.ref it) 0 >>= _) _ _ s
  refine wpAny_bind (wpAny_field gi di (x := Value.ref l) rfl ?_)
  show wpAny _ _ (if (Value.ref l == Value.none) = true then _ else _) _ _ s
  rw [if_neg (show ¬ (Value.ref l == Value.none) = true from Bool.false_ne_true)]
  show wpAny _ _ (field (Value.ref it) 1 >>= _) _ _ s
  refine wpAny_bind (wpAny_field gi di (x := Value.int i 0) rfl ?_)
  show wpAny _ _ (seqItems? (Value.ref l) >>= _) _ _ s
  refine wpAny_bind (wpAny_seqItems gl dl ?_)
  simp only [Int.toNat_natCast, out]
  refine wpAny_bind (wpAny_rule (wpAny_bind (wpAny_setField gi di (by simp) ?_)))
  show wpAny _ _ (newExc (Value.type "StopIteration") [] >>= _) _ _ _
  refine wpAny_bind ?_
  simp only [newExc, newTuple]
  refine wpAny_bind (wpAny_newObj_type ?_ (by size_fits))
  refine wpAny_bind (m := firstArgMember _ _) (wpAny_of_eq (a := Value.none) (by first | rfl | (simp only [firstArgMember]; rfl)) ?_)
  refine wpAny_newObj_type ?_ (by size_fits)
  have keep : ∀ b o, b ≠ it → s.heap.get? b = some o → ∀ f : Obj → Obj, ∀ o1 o2 : Obj, (((s.heap.update it f).push o1).push o2).get? b = some o := by
    intro b o nb g f o1 o2
    exact Heap.get?_push_of_some _ (Heap.get?_push_of_some _ ((Heap.get?_update_other _ _ (Ne.symm nb)).trans g))
  refine raiseNew_hot ⟨hh, o1, vs1, keep _ _ nx g1 _ _ _, d1, c1⟩ (Nat.ne_of_lt (Heap.lt_size (Heap.get?_push_of_some _ ((Heap.get?_update_other _ _ (Ne.symm nx)).trans g1)))) (Heap.get?_push_size _ rfl) rfl (by first | (simp; done) | (simp; omega) | (simp only [Array.size_append]; simp; omega)) ?_
  refine wpAny_bind (wpAny_isInstance (T := "StopIteration") (b := true) ⟨_, Heap.get?_update_self _ (Heap.get?_push_size _ rfl) rfl, rfl⟩ isSubtype_stop ?_)
  refine wpAny_pure (k _ fun b o nb g => ?_)
  have g2 := (Heap.get?_update_other s.heap (Obj.mapFields (·.setIfInBounds 0 Value.none)) (Ne.symm nb)).trans g
  rw [Heap.get?_update_other _ _ (Nat.ne_of_gt (Heap.lt_size (Heap.get?_push_of_some _ g2)))]
  exact keep _ _ nb g _ _ _
end
theorem turn_listH {P : Program} {w : World} {K : PySem.W.Frag} {tg : Expr} (a it : Addr) : TurnH P w K tg (Itl K a) [it] it (fun i h => h.IsListIter it a i) where
  mem := List.mem_singleton.mpr rfl
  obj := by
    intro i h st b hb
    obtain rfl := List.mem_singleton.mp hb
    obtain ⟨o, g, c, d⟩ := st
    exact ⟨o, g, fun v z => by rw [d] at z; cases z⟩
  keep := by
    intro i h h' st k
    exact st.at fun o g => k it (List.mem_singleton.mpr rfl) o g
  item := by
    intro X eP ew eK hc i pins s σ H E I ok st go
    subst eP ew eK
    obtain ⟨xs, x, hq, hx⟩ := go
    obtain ⟨its, rv, pl, hz⟩ := I.list hq
    obtain ⟨u, hu, ru⟩ := rv.get hx
    obtain ⟨f0, f1, f2, f3, f4, f5⟩ := ok it (List.mem_singleton.mpr rfl)
    refine wpAny_pyNext_list_item st pl.isList (x := u) (by simpa using hu) fun h' st' but => ?_
    have J : Inv X pins σ H { s with heap := h' } := I.turned (t' := s.toks) (fun b o hb g => (but.2 b hb).trans g) f0 f1 f3 f4 f5
    obtain ⟨o, g, c, d⟩ := id st'
    refine ⟨u, rfl, go_of (s := { s with heap := h' }) g c d (by decide) ⟨x, H, J, ru, ⟨rfl, fun ys hy => ?_⟩, st', fun b hb => (ok b hb).1⟩⟩
    rw [I.list_inj hy hq]
    exact hx
  done := by
    intro X eP ew eK hc i pins s σ H E I ok st stop
    subst eP ew eK
    obtain ⟨xs, hq, hx⟩ := stop
    obtain ⟨its, rv, pl, hz⟩ := I.list hq
    obtain ⟨f0, f1, f2, f3, f4, f5⟩ := ok it (List.mem_singleton.mpr rfl)
    have ln := rv.length
    obtain ⟨p, ⟨hh, v1, e1, c1⟩, hp⟩ := hc
    have hp2 : p ∈ X.pn ++ pins := List.mem_append_left _ hp
    exact list_end_hot ⟨hh, p.2, v1, (I.pin p hp2).1, e1, c1⟩ (f5 p hp2) st pl.isList (by simp; omega) fun h' keep => ⟨rfl, I.turned (t' := s.toks) (fun b o hb g => keep b o hb g) f0 f1 f3 f4 f5⟩
  self := fun _ _ _ _ _ st q => wpAny_pyIter_listiter st q
theorem pi_listH {X : Cx} {tg l : Expr} {tl : TE} (hl : PE X l tl) : PIH X tg l (iList X.K tl) := by
  refine ⟨fun pins s σ H R I red => ?_⟩
  refine thn (hl.run pins s σ H _ I red) fun v s' hv => ?_
  obtain ⟨x, H', J, rx, a, ea, ⟨xs, hq⟩, q⟩ := hv
  subst ea
  obtain rfl : v = Value.ref a := rx
  obtain ⟨its, rv, pl, hz⟩ := J.list hq
  refine wpAny_pyIter_list pl.isList ?_
  refine ⟨s'.heap.objs.size, [s'.heap.objs.size], _, _, H', rfl, J.kept (t' := s'.toks) fun b o g => Heap.get?_push_of_some _ g, turn_listH a _, ⟨_, Heap.get?_push_size _ rfl, rfl, rfl⟩, fun b hb => ?_, q⟩
  obtain rfl := List.mem_singleton.mp hb
  exact J.fpOk (Nat.le_refl _) (J.hok.fresh (Nat.le_refl _))
/-! ### a comprehension there -/
section
variable {X : Cx}
/-- the handled exception, pinned for the iterator's sake -/
theorem pin_in {Y : Cx} {pins : List (Addr × Obj)} {σ : Stt} {H : Hp} {s : Shared} {p : Addr × Obj} (I : Inv Y pins σ H s) (e : Y.pn = []) (h : s.heap.get? p.1 = some p.2 ∧ H p.1 = none ∧ p.1 ≠ Y.env.locals ∧ p.1 ∉ Y.fs ∧ ∀ v, p.2.data ≠ .cell v) : Inv (Y.tr [p] Y.xe) [] σ H s := by
  have J : Inv Y [p] σ H s := I.pins_of fun q hq => by
    rw [List.mem_singleton.mp hq]
    exact h
  have J2 := J.toTry Y.xe
  rw [e] at J2
  exact J2
theorem pin_out {Y : Cx} {pins : List (Addr × Obj)} {σ : Stt} {H : Hp} {s : Shared} {p : Addr × Obj} (ok : Y.Ok) (e : Y.pn = []) (I : Inv (Y.tr [p] Y.xe) pins σ H s) : Inv Y [] σ H s := by
  have e2 : [p] = Y.pn ++ [p] := by rw [e]; rfl
  rw [e2] at I
  exact (I.ofTry ok).pins_of fun q hq => by cases hq
theorem pe_lcH {elt tg iter : Expr} {ifs : List Expr} {scope : Scope} {own : List (Str × Nat)} {pos : Pos} {wi : TI} {g : TG} {tt : TT} {te : TE} {p : Addr × Obj} (hot : Hot1 X.A p) (hp : p ∈ X.pn) (hN : X.N.Nodup) (hi : PIH X tg iter wi) (ok : BlkOk X.N X.env.scope scope own)
    (hg : ∀ (s : Shared) (H : Hp) (C : Addr) (cl : List (Str × Addr)) (fp : List Addr), PG (X.blk s H scope (compEnvC scope cl C X.env) fp) tg g) (ht : ∀ (s : Shared) (H : Hp) (C : Addr) (cl : List (Str × Addr)) (fp : List Addr), PTs (X.blk s H scope (compEnvC scope cl C X.env) fp) ifs tt)
    (he : ∀ (s : Shared) (H : Hp) (C : Addr) (cl : List (Str × Addr)) (fp : List Addr), PE (X.blk s H scope (compEnvC scope cl C X.env) fp) elt te) (hs : ∀ x, foldedSetIterable iter X.env x = pure x := by intro _; rfl) : PE X (.ListComp elt [⟨tg, iter, ifs, 0⟩] scope pos) (tLc wi g tt te (own.map (·.2))) := by
  refine ⟨fun pins s σ H Q I red => ?_⟩
  rw [eval_ListComp]
  have frees : ∀ y ∈ scope.names, y.2 = .free → ∃ c, X.env.cells.lookup y.1 = some c := by
    intro y hy hf
    cases ok.free y hy hf with
    | inl z => exact I.ok.has _ (Or.inl z)
    | inr z => exact I.ok.has _ (Or.inr z)
  refine wpAny_comprehension_free (use := none) rfl hs (closure_ok frees) ok.kind (fun y hy z => by rw [ok.uniq y hy, z]) (thn (hi.run pins s σ H _ I red) fun xv sA hA => thn hA fun itv sB hB => ?_)
  obtain ⟨it, fp, tn, J, HB, eit, IB, T, tnB, fpB, loopB⟩ := hB
  subst eit
  refine wpAny_newObj_type (newEnv_comp ?_) (by show 0 ≤ sizeLine; decide)
  generalize eD : sB.heap.objs.size = D
  obtain ⟨W, ⟨m0, w0⟩, turn⟩ := loopB D (IB.hok.fresh (Nat.le_of_eq eD))
  -- with the new list
  generalize eC : ({ sB with heap := sB.heap.push { cls := .type "list", data := .seq ([] : List Value).toArray } } : Shared) = sC
  have hC : sC.heap = sB.heap.push { cls := .type "list", data := .seq ([] : List Value).toArray } := by rw [← eC]
  have IC : Inv X pins σ (upd HB D (.lst [])) sC := by
    rw [← eC]
    refine IB.laid (t' := sB.toks) (fun b o z => Heap.get?_push_of_some _ z) (Nat.le_of_eq eD) ⟨Nat.zero_le _, [], 0, .nil, ?_⟩
    rw [← eD]
    exact Heap.get?_push_size _ rfl
  have small : ∀ b ∈ fp, b < sB.heap.objs.size := by
    intro b hb
    obtain ⟨o, z, _⟩ := T.obj _ _ tnB b hb
    exact Heap.lt_size z
  have fpC : ∀ b ∈ fp, FpOk X pins (upd HB D (.lst [])) b ∧ b < sC.heap.objs.size := by
    intro b hb
    have lt := small b hb
    constructor
    · refine ⟨?_, (fpB b hb).2⟩
      rw [upd_ne (by rw [← eD]; exact Nat.ne_of_lt lt)]
      exact (fpB b hb).1
    · rw [hC, Heap.size_push]
      exact Nat.lt_succ_of_lt lt
  have tnC : tn 0 sC.heap := T.keep _ _ _ tnB fun b _ o z => by
    rw [hC]
    exact Heap.get?_push_of_some _ z
  have pinC := IC.pin p (List.mem_append_left _ hp)
  have ID := block_start IC ok hN fpC
  have rg := hg sC (upd HB D (.lst [])) sC.heap.objs.size (cellsFrom (sC.heap.objs.size + 1) scope.names (cloFrom X.env.cells scope.names [])) fp
  have rt := ht sC (upd HB D (.lst [])) sC.heap.objs.size (cellsFrom (sC.heap.objs.size + 1) scope.names (cloFrom X.env.cells scope.names [])) fp
  have re := he sC (upd HB D (.lst [])) sC.heap.objs.size (cellsFrom (sC.heap.objs.size + 1) scope.names (cloFrom X.env.cells scope.names [])) fp
  show codeAny _ _ (.compStart (.ListComp elt [⟨tg, iter, ifs, 0⟩] scope pos) 0 (.ref it) (.ref D)
    (compEnvC scope (cellsFrom (sC.heap.objs.size + 1) scope.names (cloFrom X.env.cells scope.names [])) sC.heap.objs.size X.env)) (compPost (model X.prog X.w) X.A X.xe none (EP X pins σ Q) (.ref D) sC.heap.objs.size)
      { sC with heap := pushCells (sC.heap.push { cls := .type "dict", data := .dict #[] }) scope.names }
  have fpN : ∀ b ∈ fp, (upd HB D (.lst [])) b = none := fun b hb => (fpC b hb).1.1
  generalize eE : compEnvC scope (cellsFrom (sC.heap.objs.size + 1) scope.names (cloFrom X.env.cells scope.names [])) sC.heap.objs.size X.env = en at ID rg rt re ⊢
  have enL : en.locals = sC.heap.objs.size := by
    subst eE
    rfl
  generalize eH : upd HB D (.lst []) = HC at IC ID rg rt re w0 fpN fpC pinC
  generalize eS : ({ sC with heap := pushCells (sC.heap.push { cls := .type "dict", data := .dict #[] }) scope.names } : Shared) = sD at ID ⊢
  have tnD : tn 0 sD.heap := T.keep _ _ _ tnC fun b _ o z => by
    rw [← eS]
    exact pushCells_keeps _ _ _ _ (Heap.get?_push_of_some _ z)
  -- the handled exception in the block
  have inFp : ∀ b ∈ fp, p.1 ≠ b := fun b hb => (fpC b hb).1.2.2.2.2.2 p (List.mem_append_left _ hp)
  have notFs : p.1 ∉ (X.blk sC HC scope en fp).fs := fun z => (List.mem_cons.mp (IC.stkSub p.1 z)).elim pinC.2.2.1 pinC.2.2.2.1
  have held : ∀ {σ' : Stt} {H' : Hp} {s' : Shared} {q : List (Addr × Obj)}, Inv (X.blk sC HC scope en fp) q σ' H' s' → s'.heap.get? p.1 = some p.2 ∧ H' p.1 = none ∧ p.1 ≠ (X.blk sC HC scope en fp).env.locals ∧ p.1 ∉ (X.blk sC HC scope en fp).fs ∧ ∀ v, p.2.data ≠ .cell v := by
    intro σ' H' s' q I'
    refine ⟨I'.base.keep _ _ pinC.1 pinC.2.1 notFs fun z => inFp _ z rfl, I'.base.free _ _ pinC.1 pinC.2.1 fun z => inFp _ z rfl, ?_, notFs, pinC.2.2.2.2⟩
    show p.1 ≠ en.locals
    rw [enL]
    exact Nat.ne_of_lt (Heap.lt_size pinC.1)
  have hotY : HotC ((X.blk sC HC scope en fp).tr [p] (X.blk sC HC scope en fp).xe) := ⟨p, hot, List.mem_singleton.mpr rfl⟩
  have still : ∀ {σ' : Stt} {H' : Hp} {s' : Shared}, Inv (X.blk sC HC scope en fp) [] σ' H' s' → (∀ b ∈ fp, H' b = none) → ∀ b ∈ fp, FpOk ((X.blk sC HC scope en fp).tr [p] (X.blk sC HC scope en fp).xe) [] H' b := by
    intro σ' H' s' I' hn b hb
    refine ⟨hn b hb, (I'.ok.exf b hb).1, I'.ok.exfs b hb, Or.inl hb, fun x c z => (I'.ok.exf b hb).2 x c z, fun q hq => ?_⟩
    have hq2 : q ∈ [p] ++ ([] : List (Addr × Obj)) := hq
    rw [List.append_nil] at hq2
    rw [List.mem_singleton.mp hq2]
    exact inFp b hb
  have still0 : ∀ {σ' : Stt} {H' : Hp} {s' : Shared}, Inv (X.blk sC HC scope en fp) [] σ' H' s' → (∀ b ∈ fp, H' b = none) → ∀ b ∈ fp, FpOk (X.blk sC HC scope en fp) [] H' b := by
    intro σ' H' s' I' hn b hb
    exact ⟨hn b hb, (I'.ok.exf b hb).1, I'.ok.exfs b hb, Or.inl hb, fun x c z => (I'.ok.exf b hb).2 x c z, fun q hq => by cases hq⟩
  have run : codeAny (model X.prog X.w) X.A (.compLoop (.ListComp elt [⟨tg, iter, ifs, 0⟩] scope pos) 0 (.ref it) (.ref D) en) (compPost (model X.prog X.w) X.A X.xe none (EP X pins σ Q) (.ref D) sC.heap.objs.size) sD := by
    refine compLoop_any (fun n s' => ∃ i H', Inv (X.blk sC HC scope en fp) [] (wipe σ (own.map (·.2))) H' s' ∧ tn i s'.heap ∧ (∀ b ∈ fp, H' b = none) ∧ W i n H') ?_ m0 ⟨0, HC, ID, tnD, fpN, w0⟩
    intro n s5 hinv
    obtain ⟨i, H5, I5, tn5, n5, w5⟩ := hinv
    have P5 := pin_in I5 rfl (held I5)
    cases turn i n H5 w5 with
    | inl z =>
      obtain ⟨stop, qq⟩ := z
      refine thnF (T.done ((X.blk sC HC scope en fp).tr [p] (X.blk sC HC scope en fp).xe) rfl rfl rfl hotY i [] s5 _ H5 (fun _ _ => False) P5 (still I5 n5) tn5 stop) fun r s6 h6 => ?_
      obtain ⟨er, P6⟩ := h6
      subst er
      have I6 := pin_out I5.ok rfl P6
      have I7 : Inv X pins σ H5 s6 := IC.call' (ch := fp) I6.os I6.base I6.hok I6.bare fun b hb => ⟨(fpC b hb).1.2.2.2.1, (fpC b hb).1.2.1, (fpC b hb).1.2.2.2.2.1, (fpC b hb).1.2.2.2.2.2⟩
      have free : H5 sC.heap.objs.size = none := by
        have z : H5 en.locals = none := I6.free
        rw [enL] at z
        exact z
      obtain ⟨m, hn, _⟩ := I6.loc
      have hn2 : s6.heap.Ns en.locals m := hn
      rw [enL] at hn2
      obtain ⟨f0, f1, f2, f3, f4, f5⟩ := IC.fpOk (H' := H5) (Nat.le_refl _) free
      exact ⟨m, hn2, fun h' sb => ⟨.ref D, H5, I7.turned (t' := s6.toks) (fun b o hb z => (sb.2 b hb).trans z) f0 f1 f3 f4 f5, rfl, qq⟩⟩
    | inr z =>
      obtain ⟨go, Nx, hNx, step⟩ := z
      refine thnF (T.item ((X.blk sC HC scope en fp).tr [p] (X.blk sC HC scope en fp).xe) rfl rfl rfl hotY i [] s5 _ H5 (fun _ _ => False) P5 (still I5 n5) tn5 go) fun r s6 h6 => ?_
      obtain ⟨u, er, h6⟩ := h6
      subst er
      refine thnF h6 fun _ s7 h7 => ?_
      obtain ⟨x, H7, P7, r7, y7, tn7, n7⟩ := h7
      have I7 := pin_out I5.ok rfl P7
      have I7p := I7.pinned (still0 I7 n7) (T.obj _ _ tn7)
      refine thnF (rg.run _ s7 _ H7 x u _ I7p r7 (step x H7 y7)) fun _ s8 h8 => ?_
      obtain ⟨σ8, H8, I8, hw8, q8⟩ := h8
      refine thnF (rt.run _ s8 σ8 H8 _ I8 q8) fun b s9 h9 => ?_
      obtain ⟨H9, I9, q9⟩ := h9
      have fin : ∀ {s' : Shared} {H' : Hp}, Inv (X.blk sC HC scope en fp) ([] ++ pinsAt fp s7.heap) σ8 H' s' → Nx H' → ∃ m, m < n ∧ ∃ i H', Inv (X.blk sC HC scope en fp) [] (wipe σ (own.map (·.2))) H' s' ∧ tn i s'.heap ∧ (∀ b ∈ fp, H' b = none) ∧ W i m H' := by
        intro s' H' I' nx
        obtain ⟨m', lt, w'⟩ := hNx H' nx
        have pinned : ∀ b ∈ fp, ∀ o, s7.heap.get? b = some o → s'.heap.get? b = some o ∧ H' b = none := by
          intro b hb o z
          have q := I'.pin (b, o) (List.mem_append_right _ (List.mem_append_right _ (mem_pinsAt hb z)))
          exact ⟨q.1, q.2.1⟩
        have len : (wipe σ (own.map (·.2))).length = σ8.length := by rw [← hw8, wipe_length]
        refine ⟨m', lt, i + 1, H', (I'.unpinned (pins := [])).weak len (fun j v z => ?_), T.keep _ _ _ tn7 fun b hb o z => (pinned b hb o z).1, fun b hb => ?_, w'⟩
        · rw [← hw8] at z
          exact (wipe_some z).1
        · obtain ⟨o, z, _⟩ := T.obj _ _ tn7 b hb
          exact (pinned b hb o z).2
      cases b with
      | false =>
        simp only [Bool.false_eq_true, if_false] at q9 ⊢
        exact fin I9 q9
      | true =>
        simp only [if_true] at q9 ⊢
        refine thnF (re.run _ s9 σ8 H9 _ I9 q9) fun z s10 h10 => ?_
        obtain ⟨yv, H10, I10, r10, acc, hD10, hz10, nx⟩ := h10
        exact app_ok (X := X.blk sC HC scope en fp) I10 hD10 hz10 r10 fun s11 I11 => fin I11 nx
  exact codeAny_compStart_list run (T.self X.A 0 _ _ _ tnD run)
end
/-! ### readings -/
theorem roomH_units {k : Nat} {A : Around} (h : RoomH k A) : A.units + 64 < cLine := by
  have := h.un
  omega
theorem roomH_mark {k : Nat} {A : Around} {v : Option Value} (h : Room k A) : RoomH k (A.mark v) := ⟨h.dp, h.un⟩
theorem hot_suite {X : Cx} {a : Addr} {oe : Obj} {pn : List (Addr × Obj)} {cls : Value} {d : Option Addr} (hz : L2N.Zn cls d oe) (hv : ∃ vs, oe.data = .fields vs) : Hot1 (X.suite a ((a, oe) :: pn)).A (a, oe) := by
  obtain ⟨vs, e⟩ := hv
  exact ⟨rfl, vs, e, hz.2.2 vs e⟩
section
variable {K : PySem.W.Frag} {σ : Stt} {H : Hp} {ta : TA} {te tb : TE} {z : V} {D : Ends} {tz : TS}
theorem ev_callS {sp : Sp} {E : Stt → XK} {vs : List V} (h : EvA ta σ H vs) (hs : SpV sp vs H z) : Ev (tCallS sp E ta) σ H z := fun H1 e Q q => h H1 e _ fun H2 e2 => hs H2 (e.trans e2) Q (fun H3 e3 => q H3 (e2.trans e3)) _
theorem ev_isE {D a : Addr} {c : V} {cv : Value} {b : Bool} (h : Ev te σ H (.ref a)) (hc : Ev tb σ H c) (only : ∀ u, RelV c u → u = cv) (kit : PySem.W.kitOne K (.ref D) cv = some b) : Ev (tCB (rIsE K D a) (tCons te (tCons tb tNil))) σ H (.bl b) := fun H1 e Q q =>
  h H1 e _ fun H2 e2 => hc H2 (e.trans e2) _ fun H3 e3 => ⟨c, cv, b, rfl, only, kit, q H3 (e2.trans e3)⟩
theorem q_try {tr : TS} (h : tr { D with nx := tz D } σ H) : tSeq tr tz D σ H := h
end
end Oc
namespace Oc
open PySem PySem.Spec PyProof.Rows L2 Evl L2H HotX
def topS (i : Nat) : Stmt := PySem.Challenge.pw_onechange_k07_no_listing.main.body.getD i (.Pass ⟨0, 0, 0, 0⟩)
abbrev s_Listing_many : Stmt := inClass (topS 10) 4
abbrev s_Listing_asked_number : Stmt := inClass (topS 10) 5
abbrev s_Listing_thing_at : Stmt := inClass (topS 10) 6
abbrev s_Listing_number_of : Stmt := inClass (topS 10) 7
abbrev s_choices : Stmt := topS 12
abbrev s_Picks___init__ : Stmt := inClass (topS 13) 0
abbrev s_Picks_size : Stmt := inClass (topS 13) 1
abbrev s_Picks_put : Stmt := inClass (topS 13) 2
abbrev s_Picks_is_thing : Stmt := inClass (topS 13) 3
abbrev s_Picks_found : Stmt := inClass (topS 13) 4
abbrev s_product : Stmt := topS 15
abbrev s_Orders___init__ : Stmt := inClass (topS 16) 0
abbrev s_Orders_size : Stmt := inClass (topS 16) 1
abbrev s_Orders_put : Stmt := inClass (topS 16) 2
abbrev s_Orders_is_thing : Stmt := inClass (topS 16) 3
abbrev s_Orders_found : Stmt := inClass (topS 16) 4
abbrev s_gray_of : Stmt := topS 18
abbrev s_bits_of : Stmt := topS 19
abbrev s_Switches___init__ : Stmt := inClass (topS 20) 0
abbrev s_Switches_size : Stmt := inClass (topS 20) 1
abbrev s_Switches_put : Stmt := inClass (topS 20) 2
abbrev s_Switches_is_thing : Stmt := inClass (topS 20) 3
abbrev s_Switches_found : Stmt := inClass (topS 20) 4
abbrev s_Wheels___init__ : Stmt := inClass (topS 22) 0
abbrev s_Wheels_size : Stmt := inClass (topS 22) 1
abbrev s_Wheels_put : Stmt := inClass (topS 22) 2
abbrev s_Wheels_is_thing : Stmt := inClass (topS 22) 3
abbrev s_Wheels_found : Stmt := inClass (topS 22) 4
abbrev s__law_cell_at : Stmt := topS 24
abbrev s__law_made : Stmt := topS 25
abbrev s__law_other : Stmt := topS 26
abbrev s__law_far : Stmt := topS 27
abbrev s__law_good : Stmt := topS 28
abbrev s__law_new : Stmt := topS 29
abbrev s_law : Stmt := topS 30
theorem sc_Listing_many : FnScope ["self"] ["self"] (defScope s_Listing_many) := ⟨rfl, rfl, rfl, by decide +kernel, rfl, by decide +kernel, by decide +kernel⟩
theorem sc_Listing_asked_number : FnScope ["self", "number"] ["self", "number"] (defScope s_Listing_asked_number) := ⟨rfl, rfl, rfl, by decide +kernel, rfl, by decide +kernel, by decide +kernel⟩
theorem sc_Listing_thing_at : FnScope ["self", "number"] ["self", "number"] (defScope s_Listing_thing_at) := ⟨rfl, rfl, rfl, by decide +kernel, rfl, by decide +kernel, by decide +kernel⟩
theorem sc_Listing_number_of : FnScope ["self", "thing"] ["self", "thing"] (defScope s_Listing_number_of) := ⟨rfl, rfl, rfl, by decide +kernel, rfl, by decide +kernel, by decide +kernel⟩
theorem sc_choices : FnScope ["many", "some", "total", "k"] ["many", "some"] (defScope s_choices) := ⟨rfl, rfl, rfl, by decide +kernel, rfl, by decide +kernel, by decide +kernel⟩
theorem sc_Picks___init__ : FnScope ["self", "many", "some"] ["self", "many", "some"] (defScope s_Picks___init__) := ⟨rfl, rfl, rfl, by decide +kernel, rfl, by decide +kernel, by decide +kernel⟩
theorem sc_Picks_size : FnScope ["self"] ["self"] (defScope s_Picks_size) := ⟨rfl, rfl, rfl, by decide +kernel, rfl, by decide +kernel, by decide +kernel⟩
theorem sc_Picks_put : FnScope ["self", "number", "thing", "some", "top", "without"] ["self", "number"] (defScope s_Picks_put) := ⟨rfl, rfl, rfl, by decide +kernel, rfl, by decide +kernel, by decide +kernel⟩
theorem sc_Picks_is_thing : FnScope ["self", "thing", "before", "one"] ["self", "thing"] (defScope s_Picks_is_thing) := ⟨rfl, rfl, rfl, by decide +kernel, rfl, by decide +kernel, by decide +kernel⟩
theorem sc_Picks_found : FnScope ["self", "thing", "number", "k"] ["self", "thing"] (defScope s_Picks_found) := ⟨rfl, rfl, rfl, by decide +kernel, rfl, by decide +kernel, by decide +kernel⟩
theorem sc_product : FnScope ["many", "total", "k"] ["many"] (defScope s_product) := ⟨rfl, rfl, rfl, by decide +kernel, rfl, by decide +kernel, by decide +kernel⟩
theorem sc_Orders___init__ : FnScope ["self", "many"] ["self", "many"] (defScope s_Orders___init__) := ⟨rfl, rfl, rfl, by decide +kernel, rfl, by decide +kernel, by decide +kernel⟩
theorem sc_Orders_size : FnScope ["self"] ["self"] (defScope s_Orders_size) := ⟨rfl, rfl, rfl, by decide +kernel, rfl, by decide +kernel, by decide +kernel⟩
theorem sc_Orders_put : FnScope ["self", "number", "turns", "top", "thing", "turn", "place"] ["self", "number"] (defScope s_Orders_put) := ⟨rfl, rfl, rfl, by decide +kernel, rfl, by decide +kernel, by decide +kernel⟩
theorem sc_Orders_is_thing : FnScope ["self", "thing"] ["self", "thing"] (defScope s_Orders_is_thing) := ⟨rfl, rfl, rfl, by decide +kernel, rfl, by decide +kernel, by decide +kernel⟩
theorem sc_Orders_found : FnScope ["self", "thing", "number", "top", "place", "one", "turn"] ["self", "thing"] (defScope s_Orders_found) := ⟨rfl, rfl, rfl, by decide +kernel, rfl, by decide +kernel, by decide +kernel⟩
theorem sc_gray_of : FnScope ["bits", "found", "k", "above"] ["bits"] (defScope s_gray_of) := ⟨rfl, rfl, rfl, by decide +kernel, rfl, by decide +kernel, by decide +kernel⟩
theorem sc_bits_of : FnScope ["thing", "found", "above", "one"] ["thing"] (defScope s_bits_of) := ⟨rfl, rfl, rfl, by decide +kernel, rfl, by decide +kernel, by decide +kernel⟩
theorem sc_Switches___init__ : FnScope ["self", "many"] ["self", "many"] (defScope s_Switches___init__) := ⟨rfl, rfl, rfl, by decide +kernel, rfl, by decide +kernel, by decide +kernel⟩
theorem sc_Switches_size : FnScope ["self", "total", "k"] ["self"] (defScope s_Switches_size) := ⟨rfl, rfl, rfl, by decide +kernel, rfl, by decide +kernel, by decide +kernel⟩
theorem sc_Switches_put : FnScope ["self", "number", "bits", "k"] ["self", "number"] (defScope s_Switches_put) := ⟨rfl, rfl, rfl, by decide +kernel, rfl, by decide +kernel, by decide +kernel⟩
theorem sc_Switches_is_thing : FnScope ["self", "thing", "one"] ["self", "thing"] (defScope s_Switches_is_thing) := ⟨rfl, rfl, rfl, by decide +kernel, rfl, by decide +kernel, by decide +kernel⟩
theorem sc_Switches_found : FnScope ["self", "thing", "total", "bit"] ["self", "thing"] (defScope s_Switches_found) := ⟨rfl, rfl, rfl, by decide +kernel, rfl, by decide +kernel, by decide +kernel⟩
theorem sc_Wheels___init__ : FnScope ["self", "sizes", "one"] ["self", "sizes"] (defScope s_Wheels___init__) := ⟨rfl, rfl, rfl, by decide +kernel, rfl, by decide +kernel, by decide +kernel⟩
theorem sc_Wheels_size : FnScope ["self", "total", "one"] ["self"] (defScope s_Wheels_size) := ⟨rfl, rfl, rfl, by decide +kernel, rfl, by decide +kernel, by decide +kernel⟩
theorem sc_Wheels_put : FnScope ["self", "number", "thing", "block", "one", "value"] ["self", "number"] (defScope s_Wheels_put) := ⟨rfl, rfl, rfl, by decide +kernel, rfl, by decide +kernel, by decide +kernel⟩
theorem sc_Wheels_is_thing : FnScope ["self", "thing", "value", "one"] ["self", "thing"] (defScope s_Wheels_is_thing) := ⟨rfl, rfl, rfl, by decide +kernel, rfl, by decide +kernel, by decide +kernel⟩
theorem sc_Wheels_found : FnScope ["self", "thing", "number", "block", "value", "one"] ["self", "thing"] (defScope s_Wheels_found) := ⟨rfl, rfl, rfl, by decide +kernel, rfl, by decide +kernel, by decide +kernel⟩
theorem sc__law_cell_at : FnScope ["script", "k"] ["script", "k"] (defScope s__law_cell_at) := ⟨rfl, rfl, rfl, by decide +kernel, rfl, by decide +kernel, by decide +kernel⟩
theorem sc__law_made : FnScope ["kind", "one", "two", "sizes"] ["kind", "one", "two", "sizes"] (defScope s__law_made) := ⟨rfl, rfl, rfl, by decide +kernel, rfl, by decide +kernel, by decide +kernel⟩
theorem sc__law_other : FnScope ["e", "wanted", "kinds", "k"] ["e", "wanted"] (defScope s__law_other) := ⟨rfl, rfl, rfl, by decide +kernel, rfl, by decide +kernel, by decide +kernel⟩
theorem sc__law_far : FnScope ["cell", "low", "wide"] ["cell", "low", "wide"] (defScope s__law_far) := ⟨rfl, rfl, rfl, by decide +kernel, rfl, by decide +kernel, by decide +kernel⟩
theorem sc__law_good : FnScope ["kind", "one", "two", "sizes", "size"] ["kind", "one", "two", "sizes"] (defScope s__law_good) := ⟨rfl, rfl, rfl, by decide +kernel, rfl, by decide +kernel, by decide +kernel⟩
theorem sc__law_new : FnScope ["kind", "one", "two", "sizes"] ["kind", "one", "two", "sizes"] (defScope s__law_new) := ⟨rfl, rfl, rfl, by decide +kernel, rfl, by decide +kernel, by decide +kernel⟩
theorem sc_law : FnScope ["script", "kind", "one", "two", "sizes", "k", "handed", "listing", "e", "many", "last"] ["script"] (defScope s_law) := ⟨rfl, rfl, rfl, by decide +kernel, rfl, by decide +kernel, by decide +kernel⟩
structure Txt (K : PySem.W.Frag) (mg : Str → Option Value) : Prop where
  l_Picks : IsL K (aG K "Picks") (aG K "Listing")
  l_Orders : IsL K (aG K "Orders") (aG K "Listing")
  l_Switches : IsL K (aG K "Switches") (aG K "Listing")
  l_Wheels : IsL K (aG K "Wheels") (aG K "Listing")
  q_NoListing : ExcK K 0
  q_NoThing : ExcK K 1
  q_NoNumber : ExcK K 2
  q_NoState : ExcK K 3
  q_NoMove : ExcK K 4
  q_TooFar : ExcK K 5
  z_ValueError : mg "ValueError" = none
  z_isinstance : mg "isinstance" = none
  z_len : mg "len" = none
  z_list : mg "list" = none
  z_range : mg "range" = none
  z_reversed : mg "reversed" = none
  z_sorted : mg "sorted" = none
  z_zip : mg "zip" = none
  g_ChangeError : mg "ChangeError" = some (.ref (aG K "ChangeError"))
  g_NoListing : mg "NoListing" = some (.ref (aG K "NoListing"))
  g_NoThing : mg "NoThing" = some (.ref (aG K "NoThing"))
  g_NoNumber : mg "NoNumber" = some (.ref (aG K "NoNumber"))
  g_NoState : mg "NoState" = some (.ref (aG K "NoState"))
  g_NoMove : mg "NoMove" = some (.ref (aG K "NoMove"))
  g_TooFar : mg "TooFar" = some (.ref (aG K "TooFar"))
  g_Listing : mg "Listing" = some (.ref (aG K "Listing"))
  g_Picks : mg "Picks" = some (.ref (aG K "Picks"))
  g_Orders : mg "Orders" = some (.ref (aG K "Orders"))
  g_Switches : mg "Switches" = some (.ref (aG K "Switches"))
  g_Wheels : mg "Wheels" = some (.ref (aG K "Wheels"))
  g_choices : mg "choices" = some (.ref (aG K "choices"))
  g_product : mg "product" = some (.ref (aG K "product"))
  g_gray_of : mg "gray_of" = some (.ref (aG K "gray_of"))
  g_bits_of : mg "bits_of" = some (.ref (aG K "bits_of"))
  g__law_cell_at : mg "_law_cell_at" = some (.ref (aG K "_law_cell_at"))
  g__law_made : mg "_law_made" = some (.ref (aG K "_law_made"))
  g__law_other : mg "_law_other" = some (.ref (aG K "_law_other"))
  g__law_far : mg "_law_far" = some (.ref (aG K "_law_far"))
  g__law_good : mg "_law_good" = some (.ref (aG K "_law_good"))
  g__law_new : mg "_law_new" = some (.ref (aG K "_law_new"))
  g_law : mg "law" = some (.ref (aG K "law"))
  e_ChangeError : PySem.W.excIn K (aG K "ChangeError") He.veBase "ValueError.__new__" = true ∧ PySem.W.keepIn K (.ref (aG K "ChangeError")) = true ∧ PySem.W.subIn K (.ref (aG K "ChangeError")) (.type "BaseException") = some true ∧ PySem.W.typeIn K (.ref (aG K "ChangeError")) = some (.type "type")
  e_NoListing : PySem.W.excIn K (aG K "NoListing") He.veBase "ValueError.__new__" = true ∧ PySem.W.keepIn K (.ref (aG K "NoListing")) = true ∧ PySem.W.subIn K (.ref (aG K "NoListing")) (.type "BaseException") = some true ∧ PySem.W.typeIn K (.ref (aG K "NoListing")) = some (.type "type")
  e_NoThing : PySem.W.excIn K (aG K "NoThing") He.veBase "ValueError.__new__" = true ∧ PySem.W.keepIn K (.ref (aG K "NoThing")) = true ∧ PySem.W.subIn K (.ref (aG K "NoThing")) (.type "BaseException") = some true ∧ PySem.W.typeIn K (.ref (aG K "NoThing")) = some (.type "type")
  e_NoNumber : PySem.W.excIn K (aG K "NoNumber") He.veBase "ValueError.__new__" = true ∧ PySem.W.keepIn K (.ref (aG K "NoNumber")) = true ∧ PySem.W.subIn K (.ref (aG K "NoNumber")) (.type "BaseException") = some true ∧ PySem.W.typeIn K (.ref (aG K "NoNumber")) = some (.type "type")
  e_NoState : PySem.W.excIn K (aG K "NoState") He.veBase "ValueError.__new__" = true ∧ PySem.W.keepIn K (.ref (aG K "NoState")) = true ∧ PySem.W.subIn K (.ref (aG K "NoState")) (.type "BaseException") = some true ∧ PySem.W.typeIn K (.ref (aG K "NoState")) = some (.type "type")
  e_NoMove : PySem.W.excIn K (aG K "NoMove") He.veBase "ValueError.__new__" = true ∧ PySem.W.keepIn K (.ref (aG K "NoMove")) = true ∧ PySem.W.subIn K (.ref (aG K "NoMove")) (.type "BaseException") = some true ∧ PySem.W.typeIn K (.ref (aG K "NoMove")) = some (.type "type")
  e_TooFar : PySem.W.excIn K (aG K "TooFar") He.veBase "ValueError.__new__" = true ∧ PySem.W.keepIn K (.ref (aG K "TooFar")) = true ∧ PySem.W.subIn K (.ref (aG K "TooFar")) (.type "BaseException") = some true ∧ PySem.W.typeIn K (.ref (aG K "TooFar")) = some (.type "type")
  c_Picks : Cls K (aG K "Picks")
  k_Picks : Mk K (aG K "Picks") (aM K "Picks" "__init__")
  n_Picks_top : NoAttr K (aG K "Picks") "top"
  n_Picks_some : NoAttr K (aG K "Picks") "some"
  m_Picks_many : Meth K (aG K "Picks") "many" (aM K "Picks" "many")
  m_Picks_asked_number : Meth K (aG K "Picks") "asked_number" (aM K "Picks" "asked_number")
  m_Picks_thing_at : Meth K (aG K "Picks") "thing_at" (aM K "Picks" "thing_at")
  m_Picks_number_of : Meth K (aG K "Picks") "number_of" (aM K "Picks" "number_of")
  m_Picks_size : Meth K (aG K "Picks") "size" (aM K "Picks" "size")
  m_Picks_put : Meth K (aG K "Picks") "put" (aM K "Picks" "put")
  m_Picks_is_thing : Meth K (aG K "Picks") "is_thing" (aM K "Picks" "is_thing")
  m_Picks_found : Meth K (aG K "Picks") "found" (aM K "Picks" "found")
  c_Orders : Cls K (aG K "Orders")
  k_Orders : Mk K (aG K "Orders") (aM K "Orders" "__init__")
  n_Orders_length : NoAttr K (aG K "Orders") "length"
  m_Orders_many : Meth K (aG K "Orders") "many" (aM K "Orders" "many")
  m_Orders_asked_number : Meth K (aG K "Orders") "asked_number" (aM K "Orders" "asked_number")
  m_Orders_thing_at : Meth K (aG K "Orders") "thing_at" (aM K "Orders" "thing_at")
  m_Orders_number_of : Meth K (aG K "Orders") "number_of" (aM K "Orders" "number_of")
  m_Orders_size : Meth K (aG K "Orders") "size" (aM K "Orders" "size")
  m_Orders_put : Meth K (aG K "Orders") "put" (aM K "Orders" "put")
  m_Orders_is_thing : Meth K (aG K "Orders") "is_thing" (aM K "Orders" "is_thing")
  m_Orders_found : Meth K (aG K "Orders") "found" (aM K "Orders" "found")
  c_Switches : Cls K (aG K "Switches")
  k_Switches : Mk K (aG K "Switches") (aM K "Switches" "__init__")
  n_Switches_length : NoAttr K (aG K "Switches") "length"
  m_Switches_many : Meth K (aG K "Switches") "many" (aM K "Switches" "many")
  m_Switches_asked_number : Meth K (aG K "Switches") "asked_number" (aM K "Switches" "asked_number")
  m_Switches_thing_at : Meth K (aG K "Switches") "thing_at" (aM K "Switches" "thing_at")
  m_Switches_number_of : Meth K (aG K "Switches") "number_of" (aM K "Switches" "number_of")
  m_Switches_size : Meth K (aG K "Switches") "size" (aM K "Switches" "size")
  m_Switches_put : Meth K (aG K "Switches") "put" (aM K "Switches" "put")
  m_Switches_is_thing : Meth K (aG K "Switches") "is_thing" (aM K "Switches" "is_thing")
  m_Switches_found : Meth K (aG K "Switches") "found" (aM K "Switches" "found")
  c_Wheels : Cls K (aG K "Wheels")
  k_Wheels : Mk K (aG K "Wheels") (aM K "Wheels" "__init__")
  n_Wheels_sizes : NoAttr K (aG K "Wheels") "sizes"
  m_Wheels_many : Meth K (aG K "Wheels") "many" (aM K "Wheels" "many")
  m_Wheels_asked_number : Meth K (aG K "Wheels") "asked_number" (aM K "Wheels" "asked_number")
  m_Wheels_thing_at : Meth K (aG K "Wheels") "thing_at" (aM K "Wheels" "thing_at")
  m_Wheels_number_of : Meth K (aG K "Wheels") "number_of" (aM K "Wheels" "number_of")
  m_Wheels_size : Meth K (aG K "Wheels") "size" (aM K "Wheels" "size")
  m_Wheels_put : Meth K (aG K "Wheels") "put" (aM K "Wheels" "put")
  m_Wheels_is_thing : Meth K (aG K "Wheels") "is_thing" (aM K "Wheels" "is_thing")
  m_Wheels_found : Meth K (aG K "Wheels") "found" (aM K "Wheels" "found")
  d_choices : Df K "choices" "choices" s_choices (aG K "choices")
  d_product : Df K "product" "product" s_product (aG K "product")
  d_gray_of : Df K "gray_of" "gray_of" s_gray_of (aG K "gray_of")
  d_bits_of : Df K "bits_of" "bits_of" s_bits_of (aG K "bits_of")
  d__law_cell_at : Df K "_law_cell_at" "_law_cell_at" s__law_cell_at (aG K "_law_cell_at")
  d__law_made : Df K "_law_made" "_law_made" s__law_made (aG K "_law_made")
  d__law_other : Df K "_law_other" "_law_other" s__law_other (aG K "_law_other")
  d__law_far : Df K "_law_far" "_law_far" s__law_far (aG K "_law_far")
  d__law_good : Df K "_law_good" "_law_good" s__law_good (aG K "_law_good")
  d__law_new : Df K "_law_new" "_law_new" s__law_new (aG K "_law_new")
  d_law : Df K "law" "law" s_law (aG K "law")
  d_Picks_many : Df K "many" "Listing.many" s_Listing_many (aM K "Picks" "many")
  d_Picks_asked_number : Df K "asked_number" "Listing.asked_number" s_Listing_asked_number (aM K "Picks" "asked_number")
  d_Picks_thing_at : Df K "thing_at" "Listing.thing_at" s_Listing_thing_at (aM K "Picks" "thing_at")
  d_Picks_number_of : Df K "number_of" "Listing.number_of" s_Listing_number_of (aM K "Picks" "number_of")
  d_Picks___init__ : Df K "__init__" "Picks.__init__" s_Picks___init__ (aM K "Picks" "__init__")
  d_Picks_size : Df K "size" "Picks.size" s_Picks_size (aM K "Picks" "size")
  d_Picks_put : Df K "put" "Picks.put" s_Picks_put (aM K "Picks" "put")
  d_Picks_is_thing : Df K "is_thing" "Picks.is_thing" s_Picks_is_thing (aM K "Picks" "is_thing")
  d_Picks_found : Df K "found" "Picks.found" s_Picks_found (aM K "Picks" "found")
  d_Orders_many : Df K "many" "Listing.many" s_Listing_many (aM K "Orders" "many")
  d_Orders_asked_number : Df K "asked_number" "Listing.asked_number" s_Listing_asked_number (aM K "Orders" "asked_number")
  d_Orders_thing_at : Df K "thing_at" "Listing.thing_at" s_Listing_thing_at (aM K "Orders" "thing_at")
  d_Orders_number_of : Df K "number_of" "Listing.number_of" s_Listing_number_of (aM K "Orders" "number_of")
  d_Orders___init__ : Df K "__init__" "Orders.__init__" s_Orders___init__ (aM K "Orders" "__init__")
  d_Orders_size : Df K "size" "Orders.size" s_Orders_size (aM K "Orders" "size")
  d_Orders_put : Df K "put" "Orders.put" s_Orders_put (aM K "Orders" "put")
  d_Orders_is_thing : Df K "is_thing" "Orders.is_thing" s_Orders_is_thing (aM K "Orders" "is_thing")
  d_Orders_found : Df K "found" "Orders.found" s_Orders_found (aM K "Orders" "found")
  d_Switches_many : Df K "many" "Listing.many" s_Listing_many (aM K "Switches" "many")
  d_Switches_asked_number : Df K "asked_number" "Listing.asked_number" s_Listing_asked_number (aM K "Switches" "asked_number")
  d_Switches_thing_at : Df K "thing_at" "Listing.thing_at" s_Listing_thing_at (aM K "Switches" "thing_at")
  d_Switches_number_of : Df K "number_of" "Listing.number_of" s_Listing_number_of (aM K "Switches" "number_of")
  d_Switches___init__ : Df K "__init__" "Switches.__init__" s_Switches___init__ (aM K "Switches" "__init__")
  d_Switches_size : Df K "size" "Switches.size" s_Switches_size (aM K "Switches" "size")
  d_Switches_put : Df K "put" "Switches.put" s_Switches_put (aM K "Switches" "put")
  d_Switches_is_thing : Df K "is_thing" "Switches.is_thing" s_Switches_is_thing (aM K "Switches" "is_thing")
  d_Switches_found : Df K "found" "Switches.found" s_Switches_found (aM K "Switches" "found")
  d_Wheels_many : Df K "many" "Listing.many" s_Listing_many (aM K "Wheels" "many")
  d_Wheels_asked_number : Df K "asked_number" "Listing.asked_number" s_Listing_asked_number (aM K "Wheels" "asked_number")
  d_Wheels_thing_at : Df K "thing_at" "Listing.thing_at" s_Listing_thing_at (aM K "Wheels" "thing_at")
  d_Wheels_number_of : Df K "number_of" "Listing.number_of" s_Listing_number_of (aM K "Wheels" "number_of")
  d_Wheels___init__ : Df K "__init__" "Wheels.__init__" s_Wheels___init__ (aM K "Wheels" "__init__")
  d_Wheels_size : Df K "size" "Wheels.size" s_Wheels_size (aM K "Wheels" "size")
  d_Wheels_put : Df K "put" "Wheels.put" s_Wheels_put (aM K "Wheels" "put")
  d_Wheels_is_thing : Df K "is_thing" "Wheels.is_thing" s_Wheels_is_thing (aM K "Wheels" "is_thing")
  d_Wheels_found : Df K "found" "Wheels.found" s_Wheels_found (aM K "Wheels" "found")
end Oc
namespace Oc
open PySem PySem.Spec PyProof.Rows L2 Evl L2H HotX
/-! ### a listing: where it stands, how many things, the thing of a number, whether a list is a thing, a thing's number -/
structure Lst where
  C : Addr
  At : Hp → Addr → Prop
  N : Int
  put : Int → List Int
  th : List Int → Bool
  fnd : List Int → Int
def lsMeths : List Str := ["size", "put", "is_thing", "found", "many", "asked_number", "thing_at", "number_of", "after", "changed"]
theorem lk_none : ∀ {fs : List (Str × V)} {m : Str}, m ∉ fs.map (·.1) → fs.lookup m = none
  | [], _, _ => rfl
  | (k, v) :: r, m, h => by
    have h1 : ¬ m = k := fun e => h (by rw [e]; exact List.mem_cons_self)
    have h2 : (m == k) = false := by simpa using h1
    simp only [List.lookup, h2]
    exact lk_none fun z => h (List.mem_cons_of_mem _ z)
structure LsB (K : PySem.W.Frag) (I : Lst) : Prop where
  cl : Cls K I.C
  ins : ∀ {H : Hp} {p : Addr}, I.At H p → ∃ dx fs, H p = some (.ins I.C dx fs) ∧ ∀ m ∈ lsMeths, fs.lookup m = none
  mono : ∀ {H H' : Hp} {p : Addr}, Ex H H' → I.At H p → I.At H' p
  pos : 0 < I.N
/-- an error of the class at c -/
def RetE (c : Addr) (H : Hp) (E : XK) : Prop := ∀ H2, Ex H H2 → E (.ref c) none H2
theorem RetE.ex {c : Addr} {H H' : Hp} {E : XK} (k : RetE c H E) (e : Ex H H') : RetE c H' E := fun H2 e2 => k H2 (e.trans e2)
def InN (I : Lst) (x : Int) : Prop := 0 ≤ x ∧ x < I.N
def spSize (I : Lst) : Sp := fun vs H Q _ => ∃ p, vs = [.ref p] ∧ I.At H p ∧ RetV (.int I.N) H Q
def spPut (I : Lst) : Sp := fun vs H Q _ => ∃ p x, vs = [.ref p, .int x] ∧ I.At H p ∧ InN I x ∧ RetL ((I.put x).map V.int) H Q
def spTh (K : PySem.W.Frag) (I : Lst) : Sp := fun vs H Q _ => ∃ p a ts, vs = [.ref p, .ref a] ∧ I.At H p ∧ SqL K H a (ts.map V.int) ∧ ts.length ≤ 63 ∧ RetV (.bl (I.th ts)) H Q
def spFound (K : PySem.W.Frag) (I : Lst) : Sp := fun vs H Q _ => ∃ p a ts, vs = [.ref p, .ref a] ∧ I.At H p ∧ SqL K H a (ts.map V.int) ∧ I.th ts = true ∧ RetV (.int (I.fnd ts)) H Q
def spAsked (c : Addr) (I : Lst) : Sp := fun vs H Q E => ∃ p x, vs = [.ref p, .int x] ∧ I.At H p ∧ (InN I x → RetV .non H Q) ∧ (¬ InN I x → RetE c H E)
def spThing (c : Addr) (I : Lst) : Sp := fun vs H Q E => ∃ p x, vs = [.ref p, .int x] ∧ I.At H p ∧ (InN I x → RetL ((I.put x).map V.int) H Q) ∧ (¬ InN I x → RetE c H E)
def spNumb (K : PySem.W.Frag) (c : Addr) (I : Lst) : Sp := fun vs H Q E => ∃ p a ts, vs = [.ref p, .ref a] ∧ I.At H p ∧ SqL K H a (ts.map V.int) ∧ ts.length ≤ 63 ∧ (I.th ts = true → RetV (.int (I.fnd ts)) H Q) ∧ (I.th ts = false → RetE c H E)
def spAfter (K : PySem.W.Frag) (c : Addr) (I : Lst) : Sp := fun vs H Q E => ∃ p a ts, vs = [.ref p, .ref a] ∧ I.At H p ∧ SqL K H a (ts.map V.int) ∧ ts.length ≤ 63 ∧ (I.th ts = true → RetL ((I.put ((I.fnd ts + 1) % I.N)).map V.int) H Q) ∧ (I.th ts = false → RetE c H E)
section
variable {P : Program} {w : World} {K : PySem.W.Frag} {mg : Str → Option Value} {base : Heap} {I : Lst} {H : Hp} {p : Addr}
theorem sv_size (B : LsB K I) (hp : I.At H p) : SpV (spSize I) [.ref p] H (.int I.N) := fun H1 e Q q E => ⟨p, rfl, B.mono e hp, q⟩
theorem sl_put (B : LsB K I) (hp : I.At H p) {x : Int} (hx : InN I x) : SpL (spPut I) [.ref p, .int x] H ((I.put x).map V.int) := fun H1 e Q q E => ⟨p, x, rfl, B.mono e hp, hx, q⟩
theorem sv_th (B : LsB K I) (hp : I.At H p) {a : Addr} {ts : List Int} (ha : SqL K H a (ts.map V.int)) (hl : ts.length ≤ 63) : SpV (spTh K I) [.ref p, .ref a] H (.bl (I.th ts)) := fun H1 e Q q E => ⟨p, a, ts, rfl, B.mono e hp, ex_l e ha, hl, q⟩
theorem sv_found (B : LsB K I) (hp : I.At H p) {a : Addr} {ts : List Int} (ha : SqL K H a (ts.map V.int)) (ht : I.th ts = true) : SpV (spFound K I) [.ref p, .ref a] H (.int (I.fnd ts)) := fun H1 e Q q E => ⟨p, a, ts, rfl, B.mono e hp, ex_l e ha, ht, q⟩
theorem sv_asked {c : Addr} (B : LsB K I) (hp : I.At H p) {x : Int} (hx : InN I x) : SpV (spAsked c I) [.ref p, .int x] H .non := fun H1 e Q q E => ⟨p, x, rfl, B.mono e hp, fun _ => q, fun n => absurd hx n⟩
theorem sl_thing {c : Addr} (B : LsB K I) (hp : I.At H p) {x : Int} (hx : InN I x) : SpL (spThing c I) [.ref p, .int x] H ((I.put x).map V.int) := fun H1 e Q q E => ⟨p, x, rfl, B.mono e hp, fun _ => q, fun n => absurd hx n⟩
theorem sv_numb {c : Addr} (B : LsB K I) (hp : I.At H p) {a : Addr} {ts : List Int} (ha : SqL K H a (ts.map V.int)) (hl : ts.length ≤ 63) (ht : I.th ts = true) : SpV (spNumb K c I) [.ref p, .ref a] H (.int (I.fnd ts)) := fun H1 e Q q E =>
  ⟨p, a, ts, rfl, B.mono e hp, ex_l e ha, hl, fun _ => q, fun z => by rw [ht] at z; cases z⟩
theorem sl_after {c : Addr} (B : LsB K I) (hp : I.At H p) {a : Addr} {ts : List Int} (ha : SqL K H a (ts.map V.int)) (hl : ts.length ≤ 63) (ht : I.th ts = true) : SpL (spAfter K c I) [.ref p, .ref a] H ((I.put ((I.fnd ts + 1) % I.N)).map V.int) := fun H1 e Q q E =>
  ⟨p, a, ts, rfl, B.mono e hp, ex_l e ha, hl, fun _ => q, fun z => by rw [ht] at z; cases z⟩
end
section
variable {P : Program} {w : World} {K : PySem.W.Frag} {mg : Str → Option Value} {base : Heap} {I : Lst} {f fz fp ft fo fa fn : Addr}
theorem ok_many (B : LsB K I) (D : Df K "many" "Listing.many" s_Listing_many f) (M_size : Meth K I.C "size" fz) (Pz : Pr P w K mg base 2 fz ["self"] (spSize I)) : Pr P w K mg base 3 f ["self"] (spSize I) := by
  obtain ⟨_, G_size, b_size, _⟩ := Pz
  have c_self := B.cl
  refine pr_mk0 D sc_Listing_many (fun _ _ _ _ _ _ us hl => match us, hl with | [_], _ => rfl) (fun vs H Q E h => ?_) (fun cdv A outer s H vs Q E hr h => ?_)
  · obtain ⟨p, rfl, _⟩ := h
    rfl
  · obtain ⟨p, rfl, hp, k⟩ := h
    obtain ⟨dx, fs, hi, hm⟩ := B.ins hp
    refine ⟨_, (pss_one (ps_ret (pe_meth0 (pv 0) c_self M_size G_size (hr.mono (by decide)) b_size .nil passLN))), ?_⟩
    exact s_retv (ev_meth (ev_var rfl) hi (hm _ (by decide +kernel)) ea_nil (sv_size B hp)) k
theorem ok_asked (T : Txt K mg) (B : LsB K I) (D : Df K "asked_number" "Listing.asked_number" s_Listing_asked_number f) (M_size : Meth K I.C "size" fz) (Pz : Pr P w K mg base 2 fz ["self"] (spSize I)) :
    Pr P w K mg base 3 f ["self", "number"] (spAsked (aG K "NoNumber") I) := by
  obtain ⟨_, G_size, b_size, _⟩ := Pz
  have c_self := B.cl
  refine pr_mk D sc_Listing_asked_number (fun _ _ _ _ _ _ us hl => match us, hl with | [_, _], _ => rfl) (fun vs H Q E h => ?_) (fun cdv A outer s H vs Q E hr h => ?_)
  · obtain ⟨p, x, rfl, _⟩ := h
    rfl
  · obtain ⟨p, x, rfl, hp, k, kE⟩ := h
    obtain ⟨dx, fs, hi, hm⟩ := B.ins hp
    refine ⟨_, (pss_one (ps_if (PW.pt (pw_or (pt_cmpR op_lt (pv 1) pe_int (nomark _)) (pw_or1 (pt_cmpR op_ge (pv 1) (pe_meth0 (pv 0) c_self M_size G_size (hr.mono (by decide)) b_size .nil (L2N.passes_call (L2N.takes_of rfl rfl rfl rfl) (fun _ _ _ _ h => h))) (nomark _))))) (pss_one (L2N.ps_raise rfl (L2N.takes_of rfl rfl rfl rfl) (L2N.pmk_own PySem.F.excBase_ValueError T.e_NoNumber.1 T.g_NoNumber T.e_NoNumber.2.1 (raises_own T.e_NoNumber.2.2.1 T.e_NoNumber.2.2.2) rfl))) pss_nil)), ?_⟩
    refine s_if (et_or (et_test (ev_op (ev_var rfl) ev_c rv_I0)) fun _ => et_test (ev_op (ev_var rfl) (ev_meth (ev_var rfl) hi (hm _ (by decide +kernel)) ea_nil (sv_size B hp)) rv_I0)) (fun hb H1 e1 => ?_) (fun hb H1 e1 => ?_)
    · refine kE (fun z => ?_) H1 e1
      obtain ⟨z1, z2⟩ := z
      simp only [Bool.or_eq_true, decide_eq_true_eq] at hb
      omega
    · refine k ?_ H1 e1
      simp only [Bool.or_eq_false_iff, decide_eq_false_iff_not] at hb
      exact ⟨by omega, by omega⟩
theorem ok_thing {c : Addr} (B : LsB K I) (D : Df K "thing_at" "Listing.thing_at" s_Listing_thing_at f) (M_asked_number : Meth K I.C "asked_number" fa) (Pa : Pr P w K mg base 3 fa ["self", "number"] (spAsked c I))
    (M_put : Meth K I.C "put" fp) (Pp : Pr P w K mg base 3 fp ["self", "number"] (spPut I)) : Pr P w K mg base 4 f ["self", "number"] (spThing c I) := by
  obtain ⟨_, G_asked_number, b_asked_number, _⟩ := Pa
  obtain ⟨_, G_put, b_put, _⟩ := Pp
  have c_self := B.cl
  refine pr_mk D sc_Listing_thing_at (fun _ _ _ _ _ _ us hl => match us, hl with | [_, _], _ => rfl) (fun vs H Q E h => ?_) (fun cdv A outer s H vs Q E hr h => ?_)
  · obtain ⟨p, x, rfl, _⟩ := h
    rfl
  · obtain ⟨p, x, rfl, hp, k, kE⟩ := h
    obtain ⟨dx, fs, hi, hm⟩ := B.ins hp
    refine ⟨_, (pss_cons (ps_expr (pe_meth (pv 0) c_self M_asked_number G_asked_number (hr.mono (by decide)) b_asked_number .nil (L2N.passes_call (L2N.takes_of rfl rfl rfl rfl) (fun _ _ _ _ h => h)) (pa_cons (pv 1) pa_nil)))
  (pss_one (ps_ret (pe_meth (pv 0) c_self M_put G_put (hr.mono (by decide)) b_put .nil (L2N.passes_call (L2N.takes_of rfl rfl rfl rfl) (fun _ _ _ _ h => h)) (pa_cons (pv 1) pa_nil))))), ?_⟩
    refine ⟨_, rfl, p, dx, fs, rfl, hi, hm _ (by decide +kernel), _, rfl, p, x, rfl, hp, fun hx H1 e1 => ?_, fun hx => kE hx⟩
    exact s_retl (el_meth (ev_var rfl) (e1 _ _ hi) (hm _ (by decide +kernel)) (ea_cons (ev_var rfl) ea_nil) (sl_put B (B.mono e1 hp) hx)) (RetL.ex (k hx) e1)
theorem ok_numb (T : Txt K mg) (B : LsB K I) (D : Df K "number_of" "Listing.number_of" s_Listing_number_of f) (M_is_thing : Meth K I.C "is_thing" ft) (Pt : Pr P w K mg base 2 ft ["self", "thing"] (spTh K I))
    (M_found : Meth K I.C "found" fo) (Po : Pr P w K mg base 2 fo ["self", "thing"] (spFound K I)) : Pr P w K mg base 3 f ["self", "thing"] (spNumb K (aG K "NoThing") I) := by
  obtain ⟨_, G_is_thing, b_is_thing, _⟩ := Pt
  obtain ⟨_, G_found, b_found, _⟩ := Po
  have c_self := B.cl
  refine pr_mk D sc_Listing_number_of (fun _ _ _ _ _ _ us hl => match us, hl with | [_, _], _ => rfl) (fun vs H Q E h => ?_) (fun cdv A outer s H vs Q E hr h => ?_)
  · obtain ⟨p, a, ts, rfl, _⟩ := h
    rfl
  · obtain ⟨p, a, ts, rfl, hp, ha, hl, k, kE⟩ := h
    obtain ⟨dx, fs, hi, hm⟩ := B.ins hp
    refine ⟨_, (pss_cons (ps_if (pt_not (pt_val (pe_meth (pv 0) c_self M_is_thing G_is_thing (hr.mono (by decide)) b_is_thing .nil (L2N.passes_call (L2N.takes_of rfl rfl rfl rfl) (fun _ _ _ _ h => h)) (pa_cons (pv 1) pa_nil)))) (pss_one (L2N.ps_raise rfl (L2N.takes_of rfl rfl rfl rfl) (L2N.pmk_own PySem.F.excBase_ValueError T.e_NoThing.1 T.g_NoThing T.e_NoThing.2.1 (raises_own T.e_NoThing.2.2.1 T.e_NoThing.2.2.2) rfl))) pss_nil)
  (pss_one (ps_ret (pe_meth (pv 0) c_self M_found G_found (hr.mono (by decide)) b_found .nil (L2N.passes_call (L2N.takes_of rfl rfl rfl rfl) (fun _ _ _ _ h => h)) (pa_cons (pv 1) pa_nil))))), ?_⟩
    refine q_when (et_not (et_B (ev_meth (ev_var rfl) hi (hm _ (by decide +kernel)) (ea_cons (ev_var rfl) ea_nil) (sv_th B hp ha hl)))) (fun hb H1 e1 => ?_) (fun hb H1 e1 => ?_)
    · exact kE (by simpa using hb) H1 e1
    · have ht : I.th ts = true := by simpa using hb
      exact s_retv (ev_meth (ev_var rfl) (e1 _ _ hi) (hm _ (by decide +kernel)) (ea_cons (ev_var rfl) ea_nil) (sv_found B (B.mono e1 hp) (ex_l e1 ha) ht)) (RetV.ex (k ht) e1)
end
end Oc
namespace Oc
open PySem PySem.Spec PyProof.Rows L2 Evl L2H HotX
/-! ### switches -/
section
variable {P : Program} {w : World} {K : PySem.W.Frag} {mg : Str → Option Value} {base : Heap} {H : Hp} {p : Addr}
def swTh (n : Nat) (ts : List Int) : Bool := decide (ts.length = n) && ts.all fun v => decide (v = 0) || decide (v = 1)
def lenF (n : Nat) : List (Str × V) := [("length", .int n)]
def swL (K : PySem.W.Frag) (n : Nat) : Lst := ⟨aG K "Switches", fun H p => ∃ dx, H p = some (.ins (aG K "Switches") dx (lenF n)), p2 n, swPut n, swTh n, swFound⟩
theorem sw_keys : ∀ m ∈ lsMeths, m ∉ ([("length" : Str)] : List Str) := by decide +kernel
theorem swB (T : Txt K mg) (n : Nat) : LsB K (swL K n) where
  cl := T.c_Switches
  ins := fun ⟨dx, h⟩ => ⟨dx, _, h, fun m hm => lk_none (sw_keys m hm)⟩
  mono := fun e ⟨dx, h⟩ => ⟨dx, e _ _ h⟩
  pos := p2_pos n
theorem len_at (n : Nat) : List.lookup ("length" : Str) (lenF n) = some (V.int n) := by simp [lenF, List.lookup]
theorem swTh_iff {n : Nat} {ts : List Int} : swTh n ts = true ↔ ts.length = n ∧ Bits ts := by
  unfold swTh Bits
  rw [Bool.and_eq_true, List.all_eq_true, decide_eq_true_eq]
  simp only [Bool.or_eq_true, decide_eq_true_eq]
/-- __init__ -/
def spSwI (K : PySem.W.Frag) : Sp := fun vs H Q E => ∃ x dx n, vs = [.ref x, .int n] ∧ H x = some (.ins (aG K "Switches") dx []) ∧
  (0 ≤ n ∧ n ≤ 40 → ∀ H2, (∀ b o, b ≠ x → H b = some o → H2 b = some o) → H2 x = some (.ins (aG K "Switches") dx (lenF n.toNat)) → Q .non H2) ∧ (¬ (0 ≤ n ∧ n ≤ 40) → RetE (aG K "NoListing") H E)
theorem ok_sw_init (T : Txt K mg) : Pr P w K mg base 1 (aM K "Switches" "__init__") ["self", "many"] (spSwI K) := by
  refine pr_mk T.d_Switches___init__ sc_Switches___init__ (fun _ _ _ _ _ _ us hl => match us, hl with | [_, _], _ => rfl) (fun vs H Q E h => ?_) (fun cdv A outer s H vs Q E hr h => ?_)
  · obtain ⟨x, dx, n, rfl, _⟩ := h
    rfl
  · obtain ⟨x, dx, n, rfl, hx, k, kE⟩ := h
    refine ⟨_, (pss_cons (ps_if (PW.pt (pw_or (pt_cmpR op_lt (pv 1) pe_int (nomark _)) (pw_or1 (pt_cmpR op_gt (pv 1) pe_int (nomark _))))) (pss_one (L2N.ps_raise rfl (L2N.takes_of rfl rfl rfl rfl) (L2N.pmk_own PySem.F.excBase_ValueError T.e_NoListing.1 T.g_NoListing T.e_NoListing.2.1 (raises_own T.e_NoListing.2.2.1 T.e_NoListing.2.2.2) rfl))) pss_nil)
  (pss_one (ps_fld (pv 0) (pv 1) rfl))), ?_⟩
    refine q_when (et_or (et_test (ev_op (ev_var rfl) ev_c rv_I0)) fun _ => et_test (ev_op (ev_var rfl) ev_c rv_I0)) (fun hb H1 e1 => ?_) (fun hb H1 e1 => ?_)
    · simp only [Bool.or_eq_true, decide_eq_true_eq] at hb
      exact kE (by omega) H1 e1
    · simp only [Bool.or_eq_false_iff, decide_eq_false_iff_not] at hb
      refine ⟨_, rfl, _, rfl, x, _, dx, _, rfl, e1 _ _ hx, T.c_Switches, T.n_Switches_length, (by show 0 < 1000; decide), ?_⟩
      refine k (by omega) _ (fun b o hb' hb2 => ?_) ?_
      · rw [upd_ne hb']
        exact e1 _ _ hb2
      · rw [upd_same]
        show some (HO.ins _ _ [(_, V.int n)]) = some (HO.ins _ _ [(_, V.int ((n.toNat : Nat) : Int))])
        rw [show ((n.toNat : Nat) : Int) = n by omega]
theorem in_swB {n : Int} : InitB (aG K "Switches") (spSwI K) [.int n] H (fun v H2 => ∃ q, v = .ref q ∧ (swL K n.toNat).At H2 q) (0 ≤ n ∧ n ≤ 40) (aG K "NoListing") := fun H1 e1 x dx hx hd ne Q E k kE =>
  ⟨x, dx, n, rfl, upd_same, fun hn H2 kp h2 => k hn H2 (fun b o h => kp b o (ne_of_none h hx) (ex_made hx hd b o h)) ⟨x, rfl, dx, h2⟩, fun z H2 e2 => kE z H2 ((ex_made hx hd).trans e2)⟩
theorem in_sw {n : Int} (hn : 0 ≤ n ∧ n ≤ 40) : InitN (aG K "Switches") (spSwI K) [.int n] H (fun v H2 => ∃ q, v = .ref q ∧ (swL K n.toNat).At H2 q) := in_swB.calm hn
theorem ok_sw_size (T : Txt K mg) (n : Nat) (hn : n ≤ 40) : Pr P w K mg base 1 (aM K "Switches" "size") ["self"] (spSize (swL K n)) := by
  refine pr_mk0 T.d_Switches_size sc_Switches_size (fun _ _ _ _ _ _ us hl => match us, hl with | [_], _ => rfl) (fun vs H Q E h => ?_) (fun cdv A outer s H vs Q E hr h => ?_)
  · obtain ⟨p, rfl, _⟩ := h
    rfl
  · obtain ⟨p, rfl, ⟨dx, hp⟩, k⟩ := h
    refine ⟨_, (pss_cons (ps_set (i := 1) sc_Switches_size.nd rfl (Or.inl rfl) pe_int)
  (pss_cons (ps_for PassesOwn.never rfl (pi_range1 rfl T.z_range (pa_cons (pe_fld (pv 0) rfl) pa_nil)) (pg_name (i := 2) sc_Switches_size.nd rfl (Or.inl rfl))
    (pss_one (ps_set (i := 1) sc_Switches_size.nd rfl (Or.inl rfl) (pe_op op_mul (pv 1) pe_int))))
  (pss_one (ps_ret (pv 1))))), ?_⟩
    refine q_asg ev_c fun H1 e1 => ?_
    refine q_forR1 (n := n) (ea_cons (ev_fld (ev_var rfl) (e1 _ _ hp) T.c_Switches T.n_Switches_length (len_at _)) ea_nil) ⟨by omega, by omega⟩ (fun i σ' H' => ∃ y, σ' = [some (.ref p), some (.int (p2 i)), y] ∧ Ex H H') (fun H2 e2 => ⟨none, rfl, e1.trans e2⟩) ?_ ?_
    · rintro i σ' H' hi ⟨y, rfl, e⟩
      refine s_asg (ev_op (ev_var rfl) ev_c (rv_I (Or.inr ⟨by omega, by omega⟩))) fun H3 e3 => ⟨some (.int i), ?_, e.trans e3⟩
      rw [p2_succ, Int.mul_comm]
      rfl
    · rintro σ' H' ⟨y, rfl, e⟩
      exact s_retv (ev_var rfl) (RetV.ex k e)
def spGray (K : PySem.W.Frag) : Sp := fun vs H Q _ => ∃ a bs, vs = [.ref a] ∧ SqL K H a (bs.map V.int) ∧ bs.length ≤ 63 ∧ RetL ((grayF bs).map V.int) H Q
theorem sl_gray {a : Addr} {bs : List Int} (h : SqL K H a (bs.map V.int)) (hl : bs.length ≤ 63) : SpL (spGray K) [.ref a] H ((grayF bs).map V.int) := fun H1 e Q q E => ⟨a, bs, rfl, ex_l e h, hl, q⟩
theorem gray_at : ∀ (bs : List Int) (i : Nat) (b : Int), bs[i]? = some b → (grayF bs)[i]? = some ((b + (bs.drop (i + 1)).headD 0) % 2)
  | [], i, b, h => by simp at h
  | c :: r, 0, b, h => by
    have e : c = b := Option.some.inj h
    subst e
    rfl
  | c :: r, i + 1, b, h => by
    show (grayF r)[i]? = _
    exact gray_at r i b h
theorem take_snoc {α : Type} {l : List α} {i : Nat} {x : α} (h : l[i]? = some x) : l.take (i + 1) = l.take i ++ [x] := by
  rw [List.take_add_one, h]
  rfl
theorem at_int {ts : List Int} {i : Nat} {x : V} (h : (ts.map V.int)[i]? = some x) : ∃ t, ts[i]? = some t ∧ x = .int t := by
  rw [List.getElem?_map] at h
  obtain ⟨t, h1, h2⟩ := Option.map_eq_some_iff.mp h
  exact ⟨t, h1, h2.symm⟩
theorem map_at {ns : List Int} {i : Nat} {n : Int} (h : ns[i]? = some n) : (ns.map V.int)[i]? = some (.int n) := by
  rw [List.getElem?_map, h]
  rfl
theorem ok_gray (T : Txt K mg) : Pr P w K mg base 1 (aG K "gray_of") ["bits"] (spGray K) := by
  refine pr_mk0 T.d_gray_of sc_gray_of (fun _ _ _ _ _ _ us hl => match us, hl with | [_], _ => rfl) (fun vs H Q E h => ?_) (fun cdv A outer s H vs Q E hr h => ?_)
  · obtain ⟨a, bs, rfl, _⟩ := h
    rfl
  · obtain ⟨a, bs, rfl, ha, hl, k⟩ := h
    refine ⟨_, (pss_cons (ps_set (i := 1) sc_gray_of.nd rfl (Or.inl rfl) (pe_lst pa_nil))
  (pss_cons (ps_for PassesOwn.never rfl (pi_range1 rfl T.z_range (pa_cons (pe_callB (r := rLenS K) call_len_seq (by rfl) T.z_len PySem.boot_len (pa_cons (pv 0) pa_nil)) pa_nil)) (pg_name (i := 2) sc_gray_of.nd rfl (Or.inl rfl))
    (pss_cons (ps_set (i := 3) sc_gray_of.nd rfl (Or.inl rfl) pe_int)
  (pss_cons (ps_if (pt_cmpR op_lt (pe_op op_add (pv 2) pe_int) (pe_callB (r := rLenS K) call_len_seq (by rfl) T.z_len PySem.boot_len (pa_cons (pv 0) pa_nil)) (nomark _)) (pss_one (ps_set (i := 3) sc_gray_of.nd rfl (Or.inl rfl) (pe_ix (r := rIxL K) ix_list (pv 0) (pe_op op_add (pv 2) pe_int) (fun _ _ => rfl)))) pss_nil)
  (pss_one (ps_expr (pe_bm PySem.F.plainAttrs_list PySem.F.slot_list_append PySem.F.type_list_append mt_append (pv 1) (pa_cons (pe_op op_mod (pe_op op_add (pe_ix (r := rIxL K) ix_list (pv 0) (pv 2) (fun _ _ => rfl)) (pv 3)) pe_int) pa_nil)))))))
  (pss_one (ps_ret (pv 1))))), ?_⟩
    refine q_asgL (el_lst ea_nil (by decide)) fun o H1 fo e1 ho => ?_
    refine q_forR1 (n := (bs.map V.int).length) (ea_cons (ev_len (ev_var rfl) (ex_l e1 ha)) ea_nil) ⟨by omega, by rw [List.length_map]; omega⟩
      (fun i σ' H' => ∃ y z, σ' = [some (.ref a), some (.ref o), y, z] ∧ Ex H H' ∧ H' o = some (.lst (((grayF bs).take i).map V.int))) (fun H2 e2 => ⟨none, none, rfl, e1.trans e2, e2 _ _ ho⟩) ?_ ?_
    · rintro i σ' H' hi ⟨y, z, rfl, e, ho'⟩
      rw [List.length_map] at hi
      have hi' : i < bs.length := by omega
      have hb := List.getElem?_eq_getElem hi'
      refine q_asg ev_c fun H2 e2 => ?_
      refine q_ifAsg (v := .int ((bs.drop (i + 1)).headD 0)) (et_test (ev_op (ev_op (ev_var rfl) ev_c rv_I0) (ev_len (ev_var rfl) (ex_l (e.trans e2) ha)) rv_I0)) (fun hb2 => ?_) (fun hb2 => ?_) fun H3 e3 => ?_
      · rw [decide_eq_true_eq, List.length_map] at hb2
        refine ev_op (ev_var rfl) (ev_op (ev_var rfl) ev_c rv_I0) (rv_ixL (ex_l (e.trans e2) ha) ?_)
        have hi2 : i + 1 < bs.length := by omega
        rw [List.drop_eq_getElem_cons hi2]
        exact atI_nat (j := i + 1) (map_at (List.getElem?_eq_getElem hi2))
      · rw [decide_eq_false_iff_not, List.length_map] at hb2
        rw [List.drop_eq_nil_of_le (by omega)]
        rfl
      · have e' := (e.trans e2).trans e3
        refine s_app (e3 _ _ (e2 _ _ ho')) (ev_var rfl) (ev_op (ev_op (ev_op (ev_var rfl) (ev_var rfl) (rv_ixL (ex_l e' ha) (atI_nat (map_at hb)))) (ev_var rfl) rv_I0) ev_c (rv_I (by decide))) ?_ fun H4 e4 => ?_
        · rw [List.length_map, List.length_take]
          omega
        · refine ⟨_, _, rfl, ex_upd (e'.trans e4) (by
            cases q : H o with
            | none => rfl
            | some u => exact absurd rfl (ne_of_none q fo)), ?_⟩
          rw [upd_same, take_snoc (gray_at bs i _ hb), List.map_append]
          rfl
    · rintro σ' H' ⟨y, z, rfl, e, ho'⟩
      rw [Int.toNat_natCast, List.length_map, ← grayF_len bs, List.take_length] at ho'
      refine s_ret (ev_var rfl) fun H2 e2 => k o H2 fo (e.trans e2) (e2 _ _ ho')
theorem bitsF_snoc : ∀ (n : Nat) (x : Int), bitsF (n + 1) x = bitsF n x ++ [x / p2 n % 2]
  | 0, x => by
    show [x % 2] = [x / 1 % 2]
    rw [Int.ediv_one]
  | n + 1, x => by
    show x % 2 :: bitsF (n + 1) (x / 2) = x % 2 :: (bitsF n (x / 2) ++ [_])
    rw [bitsF_snoc n (x / 2), Int.ediv_ediv_of_nonneg (by decide)]
    rfl
theorem half_p2 (x : Int) (n : Nat) : x / p2 n / 2 = x / p2 (n + 1) := by
  have h := p2_pos n
  rw [Int.ediv_ediv_of_nonneg (by omega), Int.mul_comm]
  rfl
theorem ok_sw_put (T : Txt K mg) (n : Nat) (hn : n ≤ 40) : Pr P w K mg base 2 (aM K "Switches" "put") ["self", "number"] (spPut (swL K n)) := by
  obtain ⟨_, G_gray_of, b_gray_of, kp_gray_of⟩ := ok_gray (P := P) (w := w) (base := base) T
  refine pr_mk0 T.d_Switches_put sc_Switches_put (fun _ _ _ _ _ _ us hl => match us, hl with | [_, _], _ => rfl) (fun vs H Q E h => ?_) (fun cdv A outer s H vs Q E hr h => ?_)
  · obtain ⟨p, x, rfl, _⟩ := h
    rfl
  · obtain ⟨p, x, rfl, ⟨dx, hp⟩, hx, k⟩ := h
    refine ⟨_, (pss_cons (ps_set (i := 2) sc_Switches_put.nd rfl (Or.inl rfl) (pe_lst pa_nil))
  (pss_cons (ps_for PassesOwn.never rfl (pi_range1 rfl T.z_range (pa_cons (pe_fld (pv 0) rfl) pa_nil)) (pg_name (i := 3) sc_Switches_put.nd rfl (Or.inl rfl))
    (pss_cons (ps_expr (pe_bm PySem.F.plainAttrs_list PySem.F.slot_list_append PySem.F.type_list_append mt_append (pv 2) (pa_cons (pe_op op_mod (pv 1) pe_int) pa_nil)))
  (pss_one (ps_set (i := 1) sc_Switches_put.nd rfl (Or.inl rfl) (pe_op op_fdiv (pv 1) pe_int)))))
  (pss_one (ps_ret (pe_call G_gray_of (hr.mono (by decide)) rfl T.g_gray_of kp_gray_of b_gray_of .nil passLN (pa_cons (pv 2) pa_nil)))))), ?_⟩
    refine q_asgL (el_lst ea_nil (by decide)) fun o H1 fo e1 ho => ?_
    refine q_forR1 (n := n) (ea_cons (ev_fld (ev_var rfl) (e1 _ _ hp) T.c_Switches T.n_Switches_length (len_at _)) ea_nil) ⟨by omega, by omega⟩
      (fun i σ' H' => ∃ y, σ' = [some (.ref p), some (.int (x / p2 i)), some (.ref o), y] ∧ Ex H H' ∧ H' o = some (.lst ((bitsF i x).map V.int))) (fun H2 e2 => ⟨none, ?_, e1.trans e2, e2 _ _ ho⟩) ?_ ?_
    · show _ = [some (V.ref p), some (V.int (x / 1)), some (V.ref o), none]
      rw [Int.ediv_one]
      rfl
    · rintro i σ' H' hi ⟨y, rfl, e, ho'⟩
      refine q_app ho' (ev_var rfl) (ev_op (ev_var rfl) ev_c (rv_I (by decide))) ?_ fun H2 e2 => ?_
      · rw [List.length_map, bitsF_len]
        omega
      · refine s_asg (ev_op (ev_var rfl) ev_c (rv_I ⟨by decide, by decide⟩)) fun H3 e3 => ⟨some (.int i), ?_, (ex_upd (e.trans e2) fo).trans e3, ?_⟩
        · rw [half_p2]
          rfl
        · refine e3 _ _ ?_
          rw [upd_same, bitsF_snoc, List.map_append]
          rfl
    · rintro σ' H' ⟨y, rfl, e, ho'⟩
      refine s_retl (el_call (ea_cons (ev_var rfl) ea_nil) (sl_gray (sq_of ho') ?_)) (RetL.ex k e)
      rw [bitsF_len]
      omega
def spBits (K : PySem.W.Frag) : Sp := fun vs H Q _ => ∃ a ts, vs = [.ref a] ∧ SqL K H a (ts.map V.int) ∧ ts.length ≤ 63 ∧ RetL ((ungray ts).map V.int) H Q
theorem sl_bits {a : Addr} {ts : List Int} (h : SqL K H a (ts.map V.int)) (hl : ts.length ≤ 63) : SpL (spBits K) [.ref a] H ((ungray ts).map V.int) := fun H1 e Q q E => ⟨a, ts, rfl, ex_l e h, hl, q⟩
theorem ungray_drop {ts : List Int} {j : Nat} {t : Int} (h : ts[j]? = some t) : ungray (ts.drop j) = ((ungray (ts.drop (j + 1))).headD 0 + t) % 2 :: ungray (ts.drop (j + 1)) := by
  obtain ⟨hj, e⟩ := List.getElem?_eq_some_iff.mp h
  rw [List.drop_eq_getElem_cons hj, e]
  rfl
theorem ok_bits (T : Txt K mg) : Pr P w K mg base 1 (aG K "bits_of") ["thing"] (spBits K) := by
  refine pr_mk0 T.d_bits_of sc_bits_of (fun _ _ _ _ _ _ us hl => match us, hl with | [_], _ => rfl) (fun vs H Q E h => ?_) (fun cdv A outer s H vs Q E hr h => ?_)
  · obtain ⟨a, ts, rfl, _⟩ := h
    rfl
  · obtain ⟨a, ts, rfl, ha, hl, k⟩ := h
    refine ⟨_, (pss_cons (ps_set (i := 1) sc_bits_of.nd rfl (Or.inl rfl) (pe_lst pa_nil))
  (pss_cons (ps_set (i := 2) sc_bits_of.nd rfl (Or.inl rfl) pe_int)
  (pss_cons (ps_for PassesOwn.never rfl (pi_reversed rfl T.z_reversed (pa_cons (pv 0) pa_nil)) (pg_name (i := 3) sc_bits_of.nd rfl (Or.inl rfl))
    (pss_cons (ps_set (i := 2) sc_bits_of.nd rfl (Or.inl rfl) (pe_op op_mod (pe_op op_add (pv 2) (pv 3)) pe_int))
  (pss_one (ps_expr (pe_bm PySem.F.plainAttrs_list PySem.F.slot_list_append PySem.F.type_list_append mt_append (pv 1) (pa_cons (pv 2) pa_nil))))))
  (pss_one (ps_ret (pe_listRev rfl rfl T.z_list rfl T.z_reversed (pv 1))))))), ?_⟩
    refine q_asgL (el_lst ea_nil (by decide)) fun o H1 fo e1 ho => ?_
    refine q_asg ev_c fun H2 e2 => ?_
    refine q_forV (ea_cons (ev_var rfl) ea_nil) (ex_l (e1.trans e2) ha)
      (fun i σ' H' => ∃ y, σ' = [some (.ref a), some (.ref o), some (.int ((ungray (ts.drop (ts.length - i))).headD 0)), y] ∧ Ex H H' ∧ H' o = some (.lst ((ungray (ts.drop (ts.length - i))).reverse.map V.int))) (fun H3 e3 => ⟨none, ?_, (e1.trans e2).trans e3, ?_⟩) (fun i σ' H' ⟨y, _, e, _⟩ => ex_l e ha) ?_ ?_
    · rw [Nat.sub_zero, List.drop_length]
      rfl
    · rw [Nat.sub_zero, List.drop_length]
      exact e3 _ _ (e2 _ _ ho)
    · rintro i x σ' H' hi hx ⟨y, rfl, e, ho'⟩
      rw [List.length_map] at hi hx
      obtain ⟨t, ht, rfl⟩ : ∃ t, ts[ts.length - 1 - i]? = some t ∧ V.int t = x := by
        rw [List.getElem?_map] at hx
        obtain ⟨t, h1, h2⟩ := Option.map_eq_some_iff.mp hx
        exact ⟨t, h1, h2⟩
      have q := ungray_drop ht
      rw [show ts.length - 1 - i = ts.length - (i + 1) by omega, show ts.length - (i + 1) + 1 = ts.length - i by omega] at q
      refine q_asg (ev_op (ev_op (ev_var rfl) (ev_var rfl) rv_I0) ev_c (rv_I (by decide))) fun H3 e3 => ?_
      refine s_app (e3 _ _ ho') (ev_var rfl) (ev_var rfl) ?_ fun H4 e4 => ⟨some (.int t), ?_, ex_upd ((e.trans e3).trans e4) fo, ?_⟩
      · rw [List.length_map, List.length_reverse, ungray_len, List.length_drop]
        omega
      · rw [q]
        rfl
      · rw [upd_same, q, List.reverse_cons, List.map_append]
        rfl
    · rintro σ' H' ⟨y, rfl, e, ho'⟩
      rw [List.length_map, Nat.sub_self, List.drop_zero] at ho'
      have q := el_listRev (K := K) (σ := [some (V.ref a), some (.ref o), some (.int ((ungray (ts.drop (ts.length - (ts.map V.int).length))).headD 0)), y]) (te := tVar 1) (ev_var rfl) (sq_of ho')
      rw [← List.map_reverse, List.reverse_reverse] at q
      exact s_retl q (RetL.ex k e)
theorem ok_sw_found (T : Txt K mg) (n : Nat) (hn : n ≤ 40) : Pr P w K mg base 2 (aM K "Switches" "found") ["self", "thing"] (spFound K (swL K n)) := by
  obtain ⟨_, G_bits_of, b_bits_of, kp_bits_of⟩ := ok_bits (P := P) (w := w) (base := base) T
  refine pr_mk0 T.d_Switches_found sc_Switches_found (fun _ _ _ _ _ _ us hl => match us, hl with | [_, _], _ => rfl) (fun vs H Q E h => ?_) (fun cdv A outer s H vs Q E hr h => ?_)
  · obtain ⟨p, a, ts, rfl, _⟩ := h
    rfl
  · obtain ⟨p, a, ts, rfl, ⟨dx, hp⟩, ha, ht, k⟩ := h
    have hl : ts.length = n := (swTh_iff.mp ht).1
    refine ⟨_, (pss_cons (ps_set (i := 2) sc_Switches_found.nd rfl (Or.inl rfl) pe_int)
  (pss_cons (ps_for PassesOwn.never rfl (pi_reversed rfl T.z_reversed (pa_cons (pe_call G_bits_of (hr.mono (by decide)) rfl T.g_bits_of kp_bits_of b_bits_of .nil passLN (pa_cons (pv 1) pa_nil)) pa_nil)) (pg_name (i := 3) sc_Switches_found.nd rfl (Or.inl rfl))
    (pss_one (ps_set (i := 2) sc_Switches_found.nd rfl (Or.inl rfl) (pe_op op_add (pe_op op_mul pe_int (pv 2)) (pv 3)))))
  (pss_one (ps_ret (pv 2))))), ?_⟩
    refine q_asg ev_c fun H1 e1 => ?_
    refine q_forNV (el_call (ea_cons (ev_var rfl) ea_nil) (sl_bits (ex_l e1 ha) (by omega)))
      (fun u i σ' H' => ∃ y, σ' = [some (.ref p), some (.ref a), some (.int (valF ((ungray ts).drop ((ungray ts).length - i)))), y] ∧ Ex H H' ∧ H' u = some (.lst ((ungray ts).map V.int))) (fun u H2 fu e2 hu => ⟨none, ?_, e1.trans e2, hu⟩) (fun u i σ' H' ⟨y, _, e, hu⟩ => sq_of hu) ?_ ?_
    · rw [Nat.sub_zero, List.drop_length]
      rfl
    · rintro u i x σ' H' hi hx ⟨y, rfl, e, hu⟩
      rw [List.length_map] at hi hx
      obtain ⟨t, ht, rfl⟩ : ∃ t, (ungray ts)[(ungray ts).length - 1 - i]? = some t ∧ V.int t = x := by
        rw [List.getElem?_map] at hx
        obtain ⟨t, h1, h2⟩ := Option.map_eq_some_iff.mp hx
        exact ⟨t, h1, h2⟩
      obtain ⟨hj, ej⟩ := List.getElem?_eq_some_iff.mp ht
      refine s_asg (ev_op (ev_op ev_c (ev_var rfl) (rv_I (Or.inl ⟨by decide, by decide⟩))) (ev_var rfl) rv_I0) fun H3 e3 => ⟨some (.int t), ?_, e.trans e3, e3 _ _ hu⟩
      rw [show (ungray ts).length - (i + 1) = (ungray ts).length - 1 - i by omega, List.drop_eq_getElem_cons hj, ej, show (ungray ts).length - 1 - i + 1 = (ungray ts).length - i by omega]
      rfl
    · rintro u σ' H' ⟨y, rfl, e, hu⟩
      rw [List.length_map, Nat.sub_self, List.drop_zero]
      exact s_retv (ev_var rfl) (RetV.ex k e)
theorem ok_sw_th (T : Txt K mg) (n : Nat) (hn : n ≤ 40) : Pr P w K mg base 1 (aM K "Switches" "is_thing") ["self", "thing"] (spTh K (swL K n)) := by
  refine pr_mk0 T.d_Switches_is_thing sc_Switches_is_thing (fun _ _ _ _ _ _ us hl => match us, hl with | [_, _], _ => rfl) (fun vs H Q E h => ?_) (fun cdv A outer s H vs Q E hr h => ?_)
  · obtain ⟨p, a, ts, rfl, _⟩ := h
    rfl
  · obtain ⟨p, a, ts, rfl, ⟨dx, hp⟩, ha, hl, k⟩ := h
    refine ⟨_, (pss_cons (ps_if (pt_cmpR op_ne (pe_callB (r := rLenS K) call_len_seq (by rfl) T.z_len PySem.boot_len (pa_cons (pv 1) pa_nil)) (pe_fld (pv 0) rfl) (nomark _)) (pss_one (ps_ret pe_bl)) pss_nil)
  (pss_cons (ps_for PassesOwn.never rfl (pi_list (pv 1)) (pg_name (i := 2) sc_Switches_is_thing.nd rfl (Or.inl rfl))
    (pss_one (ps_if (PW.pt (pw_and (pt_cmpR op_ne (pv 2) pe_int (nomark _)) (pw_and1 (pt_cmpR op_ne (pv 2) pe_int (nomark _))))) (pss_one (ps_ret pe_bl)) pss_nil)))
  (pss_one (ps_ret pe_bl)))), ?_⟩
    refine q_when (et_test (ev_op (ev_len (ev_var rfl) ha) (ev_fld (ev_var rfl) hp T.c_Switches T.n_Switches_length (len_at _)) (rv_ne rfl))) (fun hb H1 e1 => ?_) (fun hb H1 e1 => ?_)
    · refine s_retv ev_c (RetV.ex ?_ e1)
      have z : (swL K n).th ts = false := by
        rw [dec_int, List.length_map] at hb
        refine Bool.eq_false_iff.mpr fun q => ?_
        have q1 := (swTh_iff.mp q).1
        rw [q1] at hb
        simp at hb
      rw [z] at k
      exact k
    · rw [dec_int, List.length_map] at hb
      have hn' : ts.length = n := by
        have q : ((ts.length : Int) == (n : Int)) = true := by simpa using hb
        have q2 := eq_of_beq q
        omega
      refine q_forLn (ev_var rfl) (ex_l e1 ha) (fun i σ' H' => ∃ y, σ' = [some (.ref p), some (.ref a), y] ∧ Ex H H' ∧ ∀ v ∈ ts.take i, v = 0 ∨ v = 1) (fun H2 e2 => ⟨none, rfl, e1.trans e2, fun v hv => by simp at hv⟩) (fun i σ' H' _ ⟨y, _, e, _⟩ => ex_l e ha) ?_ ?_
      · rintro i x σ' H' hx ⟨y, rfl, e, hv⟩
        obtain ⟨t, ht, rfl⟩ : ∃ t, ts[i]? = some t ∧ V.int t = x := by
          rw [List.getElem?_map] at hx
          obtain ⟨t, h1, h2⟩ := Option.map_eq_some_iff.mp hx
          exact ⟨t, h1, h2⟩
        refine s_when (et_and (et_test (ev_op (ev_var rfl) ev_c (rv_ne rfl))) fun _ => et_test (ev_op (ev_var rfl) ev_c (rv_ne rfl))) (fun hb2 H2 e2 => ?_) (fun hb2 H2 e2 => ?_)
        · rw [dec_int, dec_int] at hb2
          refine s_retv ev_c (RetV.ex ?_ (e.trans e2))
          have z : (swL K n).th ts = false := by
            refine Bool.eq_false_iff.mpr fun q => ?_
            rcases (swTh_iff.mp q).2 t (List.mem_of_getElem? ht) with q1 | q1
            · rw [q1] at hb2
              simp at hb2
            · rw [q1] at hb2
              simp at hb2
          rw [z] at k
          exact k
        · rw [dec_int, dec_int] at hb2
          refine ⟨_, rfl, e.trans e2, fun v hv2 => ?_⟩
          rw [take_snoc ht] at hv2
          rcases List.mem_append.mp hv2 with q | q
          · exact hv v q
          · rw [List.mem_singleton.mp q]
            by_cases c0 : t = 0
            · exact .inl c0
            · refine .inr ?_
              have b0 : (t == 0) = false := by simpa using c0
              rw [b0] at hb2
              simpa using hb2
      · rintro σ' H' ⟨y, rfl, e, hv⟩
        rw [List.length_map, List.take_length] at hv
        refine s_retv ev_c (RetV.ex ?_ e)
        have z : (swL K n).th ts = true := swTh_iff.mpr ⟨hn', hv⟩
        rw [z] at k
        exact k
end
end Oc
namespace Oc
open PySem PySem.Spec PyProof.Rows L2 Evl L2H HotX
/-! ### wheels -/
section
variable {P : Program} {w : World} {K : PySem.W.Frag} {mg : Str → Option Value} {base : Heap} {H : Hp} {p a : Addr}
def whTh (sizes ts : List Int) : Bool := decide (ts.length = sizes.length) && (ts.zip sizes).all fun q => decide (0 ≤ q.1) && decide (q.1 < q.2)
theorem whTh_iff {sizes ts : List Int} : whTh sizes ts = true ↔ okR ts sizes := by
  unfold whTh
  rw [Bool.and_eq_true, decide_eq_true_eq, List.all_eq_true, okR_iff]
  refine and_congr_right fun hl => ⟨fun h i v s hv hs => ?_, fun h q hq => ?_⟩
  · have hz : (ts.zip sizes)[i]? = some (v, s) := by rw [List.getElem?_zip_eq_some]; exact ⟨hv, hs⟩
    have q := h _ (List.mem_of_getElem? hz)
    simpa using q
  · obtain ⟨i, hi⟩ := List.getElem?_of_mem hq
    rw [List.getElem?_zip_eq_some] at hi
    have z := h i q.1 q.2 hi.1 hi.2
    simpa using z
def whF (l : Addr) : List (Str × V) := [("sizes", .ref l)]
def whL (K : PySem.W.Frag) (sizes : List Int) : Lst := ⟨aG K "Wheels", fun H p => ∃ dx l, H p = some (.ins (aG K "Wheels") dx (whF l)) ∧ H l = some (.lst (sizes.map V.int)), prd sizes.reverse, whPut sizes, whTh sizes, whFound sizes⟩
theorem wh_keys : ∀ m ∈ lsMeths, m ∉ ([("sizes" : Str)] : List Str) := by decide +kernel
theorem whB (T : Txt K mg) {sizes : List Int} (hs : Szs sizes) : LsB K (whL K sizes) where
  cl := T.c_Wheels
  ins := fun ⟨dx, l, h, _⟩ => ⟨dx, _, h, fun m hm => lk_none (wh_keys m hm)⟩
  mono := fun e ⟨dx, l, h, h2⟩ => ⟨dx, l, e _ _ h, e _ _ h2⟩
  pos := by
    have := prd_pos hs.rev
    show 0 < prd sizes.reverse
    omega
theorem sizes_at (l : Addr) : List.lookup ("sizes" : Str) (whF l) = some (V.ref l) := by simp [whF, List.lookup]
def spWhI (K : PySem.W.Frag) : Sp := fun vs H Q E => ∃ x dx a ss, vs = [.ref x, .ref a] ∧ H x = some (.ins (aG K "Wheels") dx []) ∧ SqL K H a (ss.map V.int) ∧ ss.length ≤ 100 ∧
  (Szs ss ∧ ss.length ≤ 12 → ∀ H2 l, (∀ b o, b ≠ x → H b = some o → H2 b = some o) → H2 x = some (.ins (aG K "Wheels") dx (whF l)) → H2 l = some (.lst (ss.map V.int)) → H l = none → Q .non H2) ∧ (¬ (Szs ss ∧ ss.length ≤ 12) → RetE (aG K "NoListing") H E)
theorem ok_wh_init (T : Txt K mg) : Pr P w K mg base 1 (aM K "Wheels" "__init__") ["self", "sizes"] (spWhI K) := by
  refine pr_mk T.d_Wheels___init__ sc_Wheels___init__ (fun _ _ _ _ _ _ us hl => match us, hl with | [_, _], _ => rfl) (fun vs H Q E h => ?_) (fun cdv A outer s H vs Q E hr h => ?_)
  · obtain ⟨x, dx, a, ss, rfl, _⟩ := h
    rfl
  · obtain ⟨x, dx, a, ss, rfl, hx, ha, hl, k, kE⟩ := h
    refine ⟨_, (pss_cons (ps_if (pt_cmpR op_gt (pe_callB (r := rLenS K) call_len_seq (by rfl) T.z_len PySem.boot_len (pa_cons (pv 1) pa_nil)) pe_int (nomark _)) (pss_one (L2N.ps_raise rfl (L2N.takes_of rfl rfl rfl rfl) (L2N.pmk_own PySem.F.excBase_ValueError T.e_NoListing.1 T.g_NoListing T.e_NoListing.2.1 (raises_own T.e_NoListing.2.2.1 T.e_NoListing.2.2.2) rfl))) pss_nil)
  (pss_cons (ps_for (passes_of rfl) rfl (pi_list (pv 1)) (pg_name (i := 2) sc_Wheels___init__.nd rfl (Or.inl rfl))
    (pss_one (ps_if (PW.pt (pw_or (pt_cmpR op_lt (pv 2) pe_int (nomark _)) (pw_or1 (pt_cmpR op_gt (pv 2) pe_int (nomark _))))) (pss_one (L2N.ps_raise rfl (L2N.takes_of rfl rfl rfl rfl) (L2N.pmk_own PySem.F.excBase_ValueError T.e_NoListing.1 T.g_NoListing T.e_NoListing.2.1 (raises_own T.e_NoListing.2.2.1 T.e_NoListing.2.2.2) rfl))) pss_nil)))
  (pss_one (ps_fld (pv 0) (pe_callTy (r := rListS K) call_list_of (by rfl) T.z_list boot_list (pa_cons (pv 1) pa_nil)) rfl)))), ?_⟩
    refine q_when (et_test (ev_op (ev_len (ev_var rfl) ha) ev_c rv_I0)) (fun hb H1 e1 => ?_) (fun hb H1 e1 => ?_)
    · rw [decide_eq_true_eq, List.length_map] at hb
      exact kE (fun z => by omega) H1 e1
    · rw [decide_eq_false_iff_not, List.length_map] at hb
      refine q_forLn (ev_var rfl) (ex_l e1 ha) (fun i σ' H' => ∃ y, σ' = [some (.ref x), some (.ref a), y] ∧ Ex H H' ∧ Szs (ss.take i)) (fun H2 e2 => ⟨none, rfl, e1.trans e2, fun v hv => by simp at hv⟩) (fun i σ' H' _ ⟨y, _, e, _⟩ => ex_l e ha) ?_ ?_
      · rintro i v σ' H' hv ⟨y, rfl, e, hz⟩
        obtain ⟨t, ht, rfl⟩ := at_int hv
        refine s_when (et_or (et_test (ev_op (ev_var rfl) ev_c rv_I0)) fun _ => et_test (ev_op (ev_var rfl) ev_c rv_I0)) (fun hb2 H2 e2 => ?_) (fun hb2 H2 e2 => ?_)
        · simp only [Bool.or_eq_true, decide_eq_true_eq] at hb2
          refine kE (fun z => ?_) H2 (e.trans e2)
          have := z.1 t (List.mem_of_getElem? ht)
          omega
        · simp only [Bool.or_eq_false_iff, decide_eq_false_iff_not] at hb2
          refine ⟨_, rfl, e.trans e2, fun v hv2 => ?_⟩
          rw [take_snoc ht] at hv2
          rcases List.mem_append.mp hv2 with q | q
          · exact hz v q
          · rw [List.mem_singleton.mp q]
            omega
      · rintro σ' H' ⟨y, rfl, e, hz⟩
        rw [List.length_map, List.take_length] at hz
        refine el_list (K := K) (ta := tVar 1) (ev_var rfl) (ex_l e ha) H' (Ex.refl _) _ fun l H2 fl e2 hl2 => ?_
        refine ⟨_, rfl, x, _, dx, _, rfl, e2 _ _ (e _ _ hx), T.c_Wheels, T.n_Wheels_sizes, (by show 0 < 1000; decide), ?_⟩
        have nx : l ≠ x := fun q => by
          rw [q, e _ _ hx] at fl
          cases fl
        refine k ⟨hz, by omega⟩ _ l (fun b o hb' hb2 => ?_) upd_same ?_ (fresh_back e fl)
        · rw [upd_ne hb']
          exact e2 _ _ (e _ _ hb2)
        · rw [upd_ne nx]
          exact hl2
theorem in_whB {ss : List Int} (hl : ss.length ≤ 100) (ha : SqL K H a (ss.map V.int)) : InitB (aG K "Wheels") (spWhI K) [.ref a] H (fun v H2 => ∃ q, v = .ref q ∧ (whL K ss).At H2 q) (Szs ss ∧ ss.length ≤ 12) (aG K "NoListing") := fun H1 e1 x dx hx hd ne Q E k kE =>
  ⟨x, dx, a, ss, rfl, upd_same, ex_l (e1.trans (ex_made hx hd)) ha, hl, fun hs H2 l kp h2 h3 _ => k hs H2 (fun b o h => kp b o (ne_of_none h hx) (ex_made hx hd b o h)) ⟨x, rfl, dx, l, h2, h3⟩, fun z H2 e2 => kE z H2 ((ex_made hx hd).trans e2)⟩
theorem prd_snoc {l : List Int} {i : Nat} {s : Int} (h : l[i]? = some s) : prd (l.take (i + 1)).reverse = prd (l.take i).reverse * s := by
  rw [take_snoc h, List.reverse_append]
  show s * prd (l.take i).reverse = _
  rw [Int.mul_comm]
theorem ok_wh_size (T : Txt K mg) {ss : List Int} (hs : Szs ss) (hl : ss.length ≤ 12) : Pr P w K mg base 1 (aM K "Wheels" "size") ["self"] (spSize (whL K ss)) := by
  refine pr_mk0 T.d_Wheels_size sc_Wheels_size (fun _ _ _ _ _ _ us hl => match us, hl with | [_], _ => rfl) (fun vs H Q E h => ?_) (fun cdv A outer s H vs Q E hr h => ?_)
  · obtain ⟨p, rfl, _⟩ := h
    rfl
  · obtain ⟨p, rfl, ⟨dx, l, hp, hl2⟩, k⟩ := h
    refine ⟨_, (pss_cons (ps_set (i := 1) sc_Wheels_size.nd rfl (Or.inl rfl) pe_int)
  (pss_cons (ps_for PassesOwn.never rfl (pi_list (pe_fld (pv 0) rfl)) (pg_name (i := 2) sc_Wheels_size.nd rfl (Or.inl rfl))
    (pss_one (ps_set (i := 1) sc_Wheels_size.nd rfl (Or.inl rfl) (pe_op op_mul (pv 1) (pv 2)))))
  (pss_one (ps_ret (pv 1))))), ?_⟩
    refine q_asg ev_c fun H1 e1 => ?_
    refine q_forLn (ev_fld (ev_var rfl) (e1 _ _ hp) T.c_Wheels T.n_Wheels_sizes (sizes_at _)) (sq_of (e1 _ _ hl2)) (fun i σ' H' => ∃ y, σ' = [some (.ref p), some (.int (prd (ss.take i).reverse)), y] ∧ Ex H H') (fun H2 e2 => ⟨none, rfl, e1.trans e2⟩) (fun i σ' H' _ ⟨y, _, e⟩ => sq_of (e _ _ hl2)) ?_ ?_
    · rintro i v σ' H' hv ⟨y, rfl, e⟩
      obtain ⟨t, ht, rfl⟩ := at_int hv
      have b := hs t (List.mem_of_getElem? ht)
      refine s_asg (ev_op (ev_var rfl) (ev_var rfl) (rv_I (Or.inr ⟨by omega, by omega⟩))) fun H3 e3 => ⟨some (.int t), ?_, e.trans e3⟩
      rw [prd_snoc ht]
      rfl
    · rintro σ' H' ⟨y, rfl, e⟩
      rw [List.length_map, List.take_length]
      exact s_retv (ev_var rfl) (RetV.ex k e)
theorem wide_dv {b : Int} (h : 0 < b) (h2 : b ≤ 282429536481) (i : Int) : CDivW i b := wide_div (b := 64) h (by omega) (by decide) (by decide)
theorem ok_wh_put (T : Txt K mg) {ss : List Int} (hs : Szs ss) (hl : ss.length ≤ 12) : Pr P w K mg base 3 (aM K "Wheels" "put") ["self", "number"] (spPut (whL K ss)) := by
  obtain ⟨_, G_size, b_size, _⟩ := ok_wh_size (P := P) (w := w) (base := base) T hs hl
  have c_self := T.c_Wheels
  have M_size := T.m_Wheels_size
  refine pr_mk0 T.d_Wheels_put sc_Wheels_put (fun _ _ _ _ _ _ us hl => match us, hl with | [_, _], _ => rfl) (fun vs H Q E h => ?_) (fun cdv A outer s H vs Q E hr h => ?_)
  · obtain ⟨p, x, rfl, _⟩ := h
    rfl
  · obtain ⟨p, x, rfl, hat, hx, k⟩ := h
    obtain ⟨dx, l, hp, hl2⟩ := id hat
    refine ⟨_, (pss_cons (ps_set (i := 2) sc_Wheels_put.nd rfl (Or.inl rfl) (pe_lst pa_nil))
  (pss_cons (ps_set (i := 3) sc_Wheels_put.nd rfl (Or.inl rfl) (pe_meth0 (pv 0) c_self M_size G_size (hr.mono (by decide)) b_size .nil passLN))
  (pss_cons (ps_for PassesOwn.never rfl (pi_reversed rfl T.z_reversed (pa_cons (pe_fld (pv 0) rfl) pa_nil)) (pg_name (i := 4) sc_Wheels_put.nd rfl (Or.inl rfl))
    (pss_cons (ps_set (i := 3) sc_Wheels_put.nd rfl (Or.inl rfl) (pe_op op_fdivW (pv 3) (pv 4)))
  (pss_cons (ps_set (i := 5) sc_Wheels_put.nd rfl (Or.inl rfl) (pe_op op_fdivW (pv 1) (pv 3)))
  (pss_cons (ps_set (i := 1) sc_Wheels_put.nd rfl (Or.inl rfl) (pe_op op_mod (pv 1) (pv 3)))
  (pss_cons (ps_if (pt_cmpR op_eq (pe_op op_mod (pv 5) pe_int) pe_int (nomark _)) (pss_one (ps_set (i := 1) sc_Wheels_put.nd rfl (Or.inl rfl) (pe_op op_sub (pe_op op_sub (pv 3) pe_int) (pv 1)))) pss_nil)
  (pss_one (ps_expr (pe_bm PySem.F.plainAttrs_list PySem.F.slot_list_append PySem.F.type_list_append mt_append (pv 2) (pa_cons (pv 5) pa_nil)))))))))
  (pss_one (ps_ret (pe_listRev rfl rfl T.z_list rfl T.z_reversed (pv 2))))))), ?_⟩
    refine q_asgL (el_lst ea_nil (by decide)) fun o H1 fo e1 ho => ?_
    refine q_asg (ev_meth (ev_var rfl) (e1 _ _ hp) (lk_none (wh_keys _ (by decide +kernel))) ea_nil (sv_size (whB T hs) ((whB T hs).mono e1 hat))) fun H2 e2 => ?_
    have e12 := e1.trans e2
    refine q_forV (ea_cons (ev_fld (ev_var rfl) (e12 _ _ hp) T.c_Wheels T.n_Wheels_sizes (sizes_at _)) ea_nil) (sq_of (e12 _ _ hl2))
      (fun i σ' H' => ∃ (d : List Int) (y : Int) (u v : Option V), σ' = [some (.ref p), some (.int y), some (.ref o), some (.int (prd (ss.reverse.drop i))), u, v] ∧ Ex H H' ∧ H' o = some (.lst (d.map V.int)) ∧ d.length = i ∧ 0 ≤ y ∧ y < prd (ss.reverse.drop i) ∧ whR ss.reverse x = d ++ whR (ss.reverse.drop i) y)
      (fun H3 e3 => ⟨[], x, none, none, rfl, e12.trans e3, e3 _ _ (e2 _ _ ho), rfl, hx.1, hx.2, rfl⟩) (fun i σ' H' ⟨d, y, u, v, _, e, _⟩ => sq_of (e _ _ hl2)) ?_ ?_
    · rintro i v σ' H' hi hv ⟨d, y, u1, v1, rfl, e, ho', hd, y0, y1, hw⟩
      rw [List.length_map] at hi hv
      obtain ⟨t, ht, rfl⟩ := at_int hv
      have b := hs t (List.mem_of_getElem? ht)
      have hr' : ss.reverse[i]? = some t := by rw [List.getElem?_reverse hi]; exact ht
      obtain ⟨hi2, et⟩ := List.getElem?_eq_some_iff.mp hr'
      have dr : ss.reverse.drop i = t :: ss.reverse.drop (i + 1) := by rw [List.drop_eq_getElem_cons hi2, et]
      have szr : Szs (ss.reverse.drop (i + 1)) := fun s hs' => hs.rev s (List.mem_of_mem_drop hs')
      have pb := prd_pos szr
      have pl := prd_12 szr (by rw [List.length_drop, List.length_reverse]; omega)
      rw [dr] at y1 hw
      have y2 : y < t * prd (ss.reverse.drop (i + 1)) := y1
      have dv : prd (ss.reverse.drop i) / t = prd (ss.reverse.drop (i + 1)) := by
        rw [dr]
        exact Int.mul_ediv_cancel_left _ (by omega)
      generalize hB : prd (ss.reverse.drop (i + 1)) = B at *
      refine q_asg (v := .int B) (ev_is (ev_op (ev_var rfl) (ev_var rfl) (rv_I (wide_dv (by omega) (by omega) _))) (by rw [dv])) fun H3 e3 => ?_
      refine q_asg (ev_op (ev_var rfl) (ev_var rfl) (rv_I (wide_dv (by omega) pl _))) fun H4 e4 => ?_
      refine q_asg (ev_op (ev_var rfl) (ev_var rfl) (rv_I (show 0 < B by omega))) fun H5 e5 => ?_
      refine q_ifAsg (v := .int (refl' (y / B) B (y % B))) (et_test (ev_op (ev_op (ev_var rfl) ev_c (rv_I (by decide))) ev_c (rv_eq rfl))) (fun hb => ?_) (fun hb => ?_) fun H6 e6 => ?_
      · rw [dec_int, beq_iff_eq] at hb
        unfold refl'
        rw [if_pos hb]
        exact ev_op (ev_op (ev_var rfl) ev_c rv_I0) (ev_var rfl) rv_I0
      · rw [dec_int] at hb
        unfold refl'
        rw [if_neg (fun q => by rw [q] at hb; simp at hb)]
        rfl
      · have e' := ((e3.trans e4).trans e5).trans e6
        refine s_app (e' _ _ ho') (ev_var rfl) (ev_var rfl) (by rw [List.length_map]; omega) fun H7 e7 => ?_
        have rr := refl_range (v := y / B) (emod_range (x := y) pb)
        refine ⟨d ++ [y / B], refl' (y / B) B (y % B), some (.int t), some (.int (y / B)), rfl, ex_upd ((e.trans e').trans e7) fo, ?_, by rw [List.length_append, hd]; rfl, rr.1, rr.2, ?_⟩
        · rw [upd_same, List.map_append]
          rfl
        · rw [hw, List.append_assoc, whR, hB]
          rfl
    · rintro σ' H' ⟨d, y, u, v, rfl, e, ho', hd, y0, y1, hw⟩
      have dn : ss.reverse.drop (ss.map V.int).length = [] := List.drop_eq_nil_of_le (by rw [List.length_map, List.length_reverse]; omega)
      rw [dn] at hw
      have hw2 : whR ss.reverse x = d := by rw [hw]; exact List.append_nil d
      have q := el_listRev (K := K) (σ := [some (V.ref p), some (.int y), some (.ref o), some (.int (prd (ss.reverse.drop (ss.map V.int).length))), u, v]) (te := tVar 2) (ev_var rfl) (sq_of ho')
      rw [← List.map_reverse, ← hw2] at q
      exact s_retl q (RetL.ex k e)
theorem ok_wh_th (T : Txt K mg) {ss : List Int} (hs : Szs ss) (hl : ss.length ≤ 12) : Pr P w K mg base 1 (aM K "Wheels" "is_thing") ["self", "thing"] (spTh K (whL K ss)) := by
  refine pr_mk0 T.d_Wheels_is_thing sc_Wheels_is_thing (fun _ _ _ _ _ _ us hl => match us, hl with | [_, _], _ => rfl) (fun vs H Q E h => ?_) (fun cdv A outer s H vs Q E hr h => ?_)
  · obtain ⟨p, a, ts, rfl, _⟩ := h
    rfl
  · obtain ⟨p, a, ts, rfl, ⟨dx, l, hp, hl2⟩, ha, hlt, k⟩ := h
    refine ⟨_, (pss_cons (ps_if (pt_cmpR op_ne (pe_callB (r := rLenS K) call_len_seq (by rfl) T.z_len PySem.boot_len (pa_cons (pv 1) pa_nil)) (pe_callB (r := rLenS K) call_len_seq (by rfl) T.z_len PySem.boot_len (pa_cons (pe_fld (pv 0) rfl) pa_nil)) (nomark _)) (pss_one (ps_ret pe_bl)) pss_nil)
  (pss_cons (ps_for PassesOwn.never rfl (pi_zip (by rfl) T.z_zip (pa_cons (pv 1) (pa_cons (pe_fld (pv 0) rfl) pa_nil))) (pg_tup rfl (pgs_cons (pg_name (i := 2) sc_Wheels_is_thing.nd rfl (Or.inl rfl)) (pgs_cons (pg_name (i := 3) sc_Wheels_is_thing.nd rfl (Or.inl rfl)) pgs_nil)))
    (pss_one (ps_if (PW.pt (pw_or (pt_cmpR op_lt (pv 2) pe_int (nomark _)) (pw_or1 (pt_cmpR op_ge (pv 2) (pv 3) (nomark _))))) (pss_one (ps_ret pe_bl)) pss_nil)))
  (pss_one (ps_ret pe_bl)))), ?_⟩
    refine q_when (et_test (ev_op (ev_len (ev_var rfl) ha) (ev_len (ev_fld (ev_var rfl) hp T.c_Wheels T.n_Wheels_sizes (sizes_at _)) (sq_of hl2)) (rv_ne rfl))) (fun hb H1 e1 => ?_) (fun hb H1 e1 => ?_)
    · refine s_retv ev_c (RetV.ex ?_ e1)
      have z : (whL K ss).th ts = false := by
        rw [dec_int, List.length_map, List.length_map] at hb
        refine Bool.eq_false_iff.mpr fun q => ?_
        have q1 := ((okR_iff _ _).mp (whTh_iff.mp q)).1
        rw [q1] at hb
        simp at hb
      rw [z] at k
      exact k
    · rw [dec_int, List.length_map, List.length_map] at hb
      have hn' : ts.length = ss.length := by
        have q : ((ts.length : Int) == (ss.length : Int)) = true := by simpa using hb
        have q2 := eq_of_beq q
        omega
      refine q_forZ (ea_cons (ev_var rfl) (ea_cons (ev_fld (ev_var rfl) (e1 _ _ hp) T.c_Wheels T.n_Wheels_sizes (sizes_at _)) ea_nil)) (ex_l e1 ha) (sq_of (e1 _ _ hl2)) (by rw [List.length_map, List.length_map, hn'])
        (fun i σ' H' => ∃ y z, σ' = [some (.ref p), some (.ref a), y, z] ∧ Ex H H' ∧ ∀ j v s, j < i → ts[j]? = some v → ss[j]? = some s → 0 ≤ v ∧ v < s) (fun H2 e2 => ⟨none, none, rfl, e1.trans e2, fun j v s hj => absurd hj (Nat.not_lt_zero _)⟩) (fun i σ' H' ⟨y, z, _, e, _⟩ => ⟨ex_l e ha, sq_of (e _ _ hl2)⟩) ?_ ?_
      · rintro i v1 v2 σ' H' H2 hv1 hv2 ⟨y, z, rfl, e, hv⟩ e2
        obtain ⟨t, ht, rfl⟩ := at_int hv1
        obtain ⟨s, hs', rfl⟩ := at_int hv2
        refine s_when (et_or (et_test (ev_op (ev_var rfl) ev_c rv_I0)) fun _ => et_test (ev_op (ev_var rfl) (ev_var rfl) rv_I0)) (fun hb2 H3 e3 => ?_) (fun hb2 H3 e3 => ?_)
        · simp only [Bool.or_eq_true, decide_eq_true_eq] at hb2
          refine s_retv ev_c (RetV.ex ?_ ((e.trans e2).trans e3))
          have zz : (whL K ss).th ts = false := by
            refine Bool.eq_false_iff.mpr fun q => ?_
            have := ((okR_iff _ _).mp (whTh_iff.mp q)).2 i t s ht hs'
            omega
          rw [zz] at k
          exact k
        · simp only [Bool.or_eq_false_iff, decide_eq_false_iff_not] at hb2
          refine ⟨_, _, rfl, (e.trans e2).trans e3, fun j v s' hj h1 h2 => ?_⟩
          by_cases ej : j = i
          · subst ej
            rw [ht] at h1
            rw [hs'] at h2
            cases Option.some.inj h1
            cases Option.some.inj h2
            omega
          · exact hv j v s' (by omega) h1 h2
      · rintro σ' H' ⟨y, z, rfl, e, hv⟩
        rw [List.length_map] at hv
        refine s_retv ev_c (RetV.ex ?_ e)
        have zz : (whL K ss).th ts = true := whTh_iff.mpr ((okR_iff _ _).mpr ⟨hn', fun i v s h1 h2 => hv i v s (List.getElem?_eq_some_iff.mp h1).1 h1 h2⟩)
        rw [zz] at k
        exact k
theorem ok_wh_found (T : Txt K mg) {ss : List Int} (hs : Szs ss) (hl : ss.length ≤ 12) : Pr P w K mg base 1 (aM K "Wheels" "found") ["self", "thing"] (spFound K (whL K ss)) := by
  refine pr_mk0 T.d_Wheels_found sc_Wheels_found (fun _ _ _ _ _ _ us hl => match us, hl with | [_, _], _ => rfl) (fun vs H Q E h => ?_) (fun cdv A outer s H vs Q E hr h => ?_)
  · obtain ⟨p, a, ts, rfl, _⟩ := h
    rfl
  · obtain ⟨p, a, ts, rfl, ⟨dx, l, hp, hl2⟩, ha, ht, k⟩ := h
    obtain ⟨hlen, hv⟩ := (okR_iff _ _).mp (whTh_iff.mp ht)
    refine ⟨_, (pss_cons (ps_set (i := 2) sc_Wheels_found.nd rfl (Or.inl rfl) pe_int)
  (pss_cons (ps_set (i := 3) sc_Wheels_found.nd rfl (Or.inl rfl) pe_int)
  (pss_cons (ps_for PassesOwn.never rfl (pi_zip (by rfl) T.z_zip (pa_cons (pv 1) (pa_cons (pe_fld (pv 0) rfl) pa_nil))) (pg_tup rfl (pgs_cons (pg_name (i := 4) sc_Wheels_found.nd rfl (Or.inl rfl)) (pgs_cons (pg_name (i := 5) sc_Wheels_found.nd rfl (Or.inl rfl)) pgs_nil)))
    (pss_cons (ps_if (pt_cmpR op_eq (pe_op op_mod (pv 4) pe_int) pe_int (nomark _)) (pss_one (ps_set (i := 2) sc_Wheels_found.nd rfl (Or.inl rfl) (pe_op op_sub (pe_op op_sub (pv 3) pe_int) (pv 2)))) pss_nil)
  (pss_cons (ps_set (i := 2) sc_Wheels_found.nd rfl (Or.inl rfl) (pe_op op_add (pv 2) (pe_op op_mul (pv 4) (pv 3))))
  (pss_one (ps_set (i := 3) sc_Wheels_found.nd rfl (Or.inl rfl) (pe_op op_mul (pv 3) (pv 5)))))))
  (pss_one (ps_ret (pv 2)))))), ?_⟩
    refine q_asg ev_c fun H1 e1 => ?_
    refine q_asg ev_c fun H2 e2 => ?_
    have e12 := e1.trans e2
    refine q_forZ (ea_cons (ev_var rfl) (ea_cons (ev_fld (ev_var rfl) (e12 _ _ hp) T.c_Wheels T.n_Wheels_sizes (sizes_at _)) ea_nil)) (ex_l e12 ha) (sq_of (e12 _ _ hl2)) (by rw [List.length_map, List.length_map, hlen])
      (fun i σ' H' => ∃ y z, σ' = [some (.ref p), some (.ref a), some (.int (fR (ts.take i).reverse (ss.take i).reverse)), some (.int (prd (ss.take i).reverse)), y, z] ∧ Ex H H') (fun H3 e3 => ⟨none, none, rfl, e12.trans e3⟩) (fun i σ' H' ⟨y, z, _, e⟩ => ⟨ex_l e ha, sq_of (e _ _ hl2)⟩) ?_ ?_
    · rintro i v1 v2 σ' H' H3 hv1 hv2 ⟨y, z, rfl, e⟩ e3
      obtain ⟨t, ht2, rfl⟩ := at_int hv1
      obtain ⟨s, hs', rfl⟩ := at_int hv2
      have b := hs s (List.mem_of_getElem? hs')
      have bv := hv i t s ht2 hs'
      refine q_ifAsg (v := .int (refl' t (prd (ss.take i).reverse) (fR (ts.take i).reverse (ss.take i).reverse))) (et_test (ev_op (ev_op (ev_var rfl) ev_c (rv_I (by decide))) ev_c (rv_eq rfl))) (fun hb => ?_) (fun hb => ?_) fun H4 e4 => ?_
      · rw [dec_int, beq_iff_eq] at hb
        unfold refl'
        rw [if_pos hb]
        exact ev_op (ev_op (ev_var rfl) ev_c rv_I0) (ev_var rfl) rv_I0
      · rw [dec_int] at hb
        unfold refl'
        rw [if_neg (fun q => by rw [q] at hb; simp at hb)]
        rfl
      · refine q_asg (ev_op (ev_var rfl) (ev_op (ev_var rfl) (ev_var rfl) (rv_I (Or.inl ⟨by omega, by omega⟩))) rv_I0) fun H5 e5 => ?_
        refine s_asg (ev_op (ev_var rfl) (ev_var rfl) (rv_I (Or.inr ⟨by omega, by omega⟩))) fun H6 e6 => ⟨some (.int t), some (.int s), ?_, (((e.trans e3).trans e4).trans e5).trans e6⟩
        rw [prd_snoc hs', take_snoc ht2, take_snoc hs', List.reverse_append, List.reverse_append]
        rfl
    · rintro σ' H' ⟨y, z, rfl, e⟩
      rw [List.length_map, List.take_length, hlen, List.take_length]
      exact s_retv (ev_var rfl) (RetV.ex k e)
end
end Oc
namespace Oc
open PySem PySem.Spec PyProof.Rows L2 Evl L2H HotX
/-! ### picks -/
/-- rising from b on, below n -/
def rise (n : Nat) : Int → List Int → Bool
  | _, [] => true
  | b, a :: r => decide (b < a) && decide (a < n) && rise n a r
theorem okP_snoc : ∀ (l : List Int) (n : Nat) (a : Int), okP n (l ++ [a]) ↔ okP n l ∧ 0 ≤ a ∧ a < n ∧ ∀ v ∈ l, a < v
  | [], n, a => ⟨fun h => ⟨trivial, h.1.1, h.1.2, fun v hv => by cases hv⟩, fun h => ⟨⟨h.2.1, h.2.2.1⟩, trivial⟩⟩
  | c :: l, n, a => by
    have ih := okP_snoc l c.toNat a
    constructor
    · intro h
      obtain ⟨h1, h2⟩ := h
      obtain ⟨h3, h4, h5, h6⟩ := ih.mp h2
      refine ⟨⟨h1, h3⟩, h4, by omega, fun v hv => ?_⟩
      rcases List.mem_cons.mp hv with e | hv
      · rw [e]; omega
      · exact h6 v hv
    · intro h
      obtain ⟨⟨h1, h3⟩, h4, h5, h6⟩ := h
      have := h6 c List.mem_cons_self
      exact ⟨h1, ih.mpr ⟨h3, h4, by omega, fun v hv => h6 v (List.mem_cons_of_mem _ hv)⟩⟩
theorem rise_iff : ∀ (ts : List Int) (n : Nat) (b : Int), -1 ≤ b → (rise n b ts = true ↔ okP n ts.reverse ∧ ∀ v ∈ ts, b < v)
  | [], n, b, _ => ⟨fun _ => ⟨trivial, fun v hv => by cases hv⟩, fun _ => rfl⟩
  | a :: r, n, b, hb => by
    rw [List.reverse_cons, okP_snoc]
    show (decide (b < a) && decide (a < n) && rise n a r) = true ↔ _
    rw [Bool.and_eq_true, Bool.and_eq_true, decide_eq_true_eq, decide_eq_true_eq]
    constructor
    · rintro ⟨⟨h1, h2⟩, h3⟩
      obtain ⟨h4, h5⟩ := (rise_iff r n a (by omega)).mp h3
      refine ⟨⟨h4, by omega, h2, fun v hv => h5 v (List.mem_reverse.mp hv)⟩, fun v hv => ?_⟩
      rcases List.mem_cons.mp hv with e | hv
      · rw [e]; exact h1
      · have := h5 v hv
        omega
    · rintro ⟨⟨h4, h5, h6, h7⟩, h8⟩
      have h9 := h8 a List.mem_cons_self
      exact ⟨⟨h9, h6⟩, (rise_iff r n a (by omega)).mpr ⟨h4, fun v hv => h7 v (List.mem_reverse.mpr hv)⟩⟩
def pkTh (n s : Nat) (ts : List Int) : Bool := decide (ts.length = s) && rise n (-1) ts
theorem pkTh_iff {n s : Nat} {ts : List Int} : pkTh n s ts = true ↔ Pick n s ts := by
  unfold pkTh Pick
  rw [Bool.and_eq_true, decide_eq_true_eq, rise_iff ts n (-1) (by decide)]
  refine and_congr_right fun _ => ⟨fun h => h.1, fun h => ⟨h, fun v hv => ?_⟩⟩
  have := h.lt v (List.mem_reverse.mpr hv)
  omega
section
variable {P : Program} {w : World} {K : PySem.W.Frag} {mg : Str → Option Value} {base : Heap} {H : Hp} {p a : Addr}
def pkF (n s : Nat) : List (Str × V) := [("top", .int n), ("some", .int s)]
def pkL (K : PySem.W.Frag) (n s : Nat) : Lst := ⟨aG K "Picks", fun H p => ∃ dx, H p = some (.ins (aG K "Picks") dx (pkF n s)), ch n s, pkPut n s, pkTh n s, pkFound⟩
theorem pk_keys : ∀ m ∈ lsMeths, m ∉ ([("top" : Str), "some"] : List Str) := by decide +kernel
theorem pkB (T : Txt K mg) {n s : Nat} (hs : s ≤ n) : LsB K (pkL K n s) where
  cl := T.c_Picks
  ins := fun ⟨dx, h⟩ => ⟨dx, _, h, fun m hm => lk_none (pk_keys m hm)⟩
  mono := fun e ⟨dx, h⟩ => ⟨dx, e _ _ h⟩
  pos := by
    have := ch_pos n s hs
    show 0 < ch n s
    omega
theorem top_at (n s : Nat) : List.lookup ("top" : Str) (pkF n s) = some (V.int n) := by simp [pkF, List.lookup]
theorem some_at (n s : Nat) : List.lookup ("some" : Str) (pkF n s) = some (V.int s) := by
  have h : (("some" : Str) == ("top" : Str)) = false := by decide +kernel
  simp [pkF, List.lookup, h]
def spCh : Sp := fun vs H Q _ => ∃ n s : Nat, vs = [.int n, .int s] ∧ n ≤ 100 ∧ RetV (.int (ch n s)) H Q
theorem sv_ch {n s : Int} {N S : Nat} (hn : n = N) (hs : s = S) (hN : N ≤ 100) : SpV spCh [.int n, .int s] H (.int (ch N S)) := fun H1 e Q q E => ⟨N, S, by rw [hn, hs], hN, q⟩
theorem ok_ch (T : Txt K mg) : Pr P w K mg base 1 (aG K "choices") ["many", "some"] spCh := by
  refine pr_mk0 T.d_choices sc_choices (fun _ _ _ _ _ _ us hl => match us, hl with | [_, _], _ => rfl) (fun vs H Q E h => ?_) (fun cdv A outer s H vs Q E hr h => ?_)
  · obtain ⟨n, s, rfl, _⟩ := h
    rfl
  · obtain ⟨n, s, rfl, hn, k⟩ := h
    refine ⟨_, (pss_cons (ps_if (PW.pt (pw_or (pt_cmpR op_lt (pv 1) pe_int (nomark _)) (pw_or1 (pt_cmpR op_gt (pv 1) (pv 0) (nomark _))))) (pss_one (ps_ret pe_int)) pss_nil)
  (pss_cons (ps_set (i := 2) sc_choices.nd rfl (Or.inl rfl) pe_int)
  (pss_cons (ps_for PassesOwn.never rfl (pi_range1 rfl T.z_range (pa_cons (pv 1) pa_nil)) (pg_name (i := 3) sc_choices.nd rfl (Or.inl rfl))
    (pss_one (ps_set (i := 2) sc_choices.nd rfl (Or.inl rfl) (pe_op op_fdivW (pe_op op_mul (pv 2) (pe_op op_sub (pv 0) (pv 3))) (pe_op op_add (pv 3) pe_int)))))
  (pss_one (ps_ret (pv 2)))))), ?_⟩
    refine q_when (et_or (et_test (ev_op (ev_var rfl) ev_c rv_I0)) fun _ => et_test (ev_op (ev_var rfl) (ev_var rfl) rv_I0)) (fun hb H1 e1 => ?_) (fun hb H1 e1 => ?_)
    · simp only [Bool.or_eq_true, decide_eq_true_eq] at hb
      rw [ch_over n s (by omega)] at k
      exact s_retv ev_c (RetV.ex k e1)
    · simp only [Bool.or_eq_false_iff, decide_eq_false_iff_not] at hb
      refine q_asg ev_c fun H2 e2 => ?_
      refine q_forR1 (n := (s : Int)) (ea_cons (ev_var rfl) ea_nil) ⟨by omega, by omega⟩ (fun i σ' H' => ∃ y, σ' = [some (.int n), some (.int s), some (.int (ch n i)), y] ∧ Ex H H') (fun H3 e3 => ⟨none, by rw [ch_zero]; rfl, (e1.trans e2).trans e3⟩) ?_ ?_
      · rintro i σ' H' hi ⟨y, rfl, e⟩
        refine s_asg (ev_op (ev_op (ev_var rfl) (ev_op (ev_var rfl) (ev_var rfl) rv_I0) (rv_I (Or.inr ⟨by omega, by omega⟩))) (ev_op (ev_var rfl) ev_c rv_I0) (rv_I (wide_div (b := 64) (by omega) (by omega) (by decide) (by decide)))) fun H3 e3 => ⟨some (.int i), ?_, e.trans e3⟩
        rw [ch_next]
        rfl
      · rintro σ' H' ⟨y, rfl, e⟩
        exact s_retv (ev_var rfl) (RetV.ex k e)
def spPkI (K : PySem.W.Frag) : Sp := fun vs H Q E => ∃ x dx n s, vs = [.ref x, .int n, .int s] ∧ H x = some (.ins (aG K "Picks") dx []) ∧
  (0 ≤ n ∧ n ≤ 24 ∧ 0 ≤ s ∧ s ≤ n → ∀ H2, (∀ b o, b ≠ x → H b = some o → H2 b = some o) → H2 x = some (.ins (aG K "Picks") dx (pkF n.toNat s.toNat)) → Q .non H2) ∧ (¬ (0 ≤ n ∧ n ≤ 24 ∧ 0 ≤ s ∧ s ≤ n) → RetE (aG K "NoListing") H E)
theorem ok_pk_init (T : Txt K mg) : Pr P w K mg base 1 (aM K "Picks" "__init__") ["self", "many", "some"] (spPkI K) := by
  refine pr_mk T.d_Picks___init__ sc_Picks___init__ (fun _ _ _ _ _ _ us hl => match us, hl with | [_, _, _], _ => rfl) (fun vs H Q E h => ?_) (fun cdv A outer s H vs Q E hr h => ?_)
  · obtain ⟨x, dx, n, s, rfl, _⟩ := h
    rfl
  · obtain ⟨x, dx, n, s, rfl, hx, k, kE⟩ := h
    refine ⟨_, (pss_cons (ps_if (PW.pt (pw_or (pt_cmpR op_lt (pv 1) pe_int (nomark _)) (pw_or (pt_cmpR op_gt (pv 1) pe_int (nomark _)) (pw_or (pt_cmpR op_lt (pv 2) pe_int (nomark _)) (pw_or1 (pt_cmpR op_gt (pv 2) (pv 1) (nomark _))))))) (pss_one (L2N.ps_raise rfl (L2N.takes_of rfl rfl rfl rfl) (L2N.pmk_own PySem.F.excBase_ValueError T.e_NoListing.1 T.g_NoListing T.e_NoListing.2.1 (raises_own T.e_NoListing.2.2.1 T.e_NoListing.2.2.2) rfl))) pss_nil)
  (pss_cons (ps_fld (pv 0) (pv 1) rfl)
  (pss_one (ps_fld (pv 0) (pv 2) rfl)))), ?_⟩
    refine q_when (et_or (et_test (ev_op (ev_var rfl) ev_c rv_I0)) fun _ => et_or (et_test (ev_op (ev_var rfl) ev_c rv_I0)) fun _ => et_or (et_test (ev_op (ev_var rfl) ev_c rv_I0)) fun _ => et_test (ev_op (ev_var rfl) (ev_var rfl) rv_I0)) (fun hb H1 e1 => ?_) (fun hb H1 e1 => ?_)
    · simp only [Bool.or_eq_true, decide_eq_true_eq] at hb
      exact kE (by omega) H1 e1
    · simp only [Bool.or_eq_false_iff, decide_eq_false_iff_not] at hb
      refine ⟨_, rfl, _, rfl, x, _, dx, _, rfl, e1 _ _ hx, T.c_Picks, T.n_Picks_top, (by show 0 < 1000; decide), ?_⟩
      refine ⟨_, rfl, _, rfl, x, _, dx, _, rfl, upd_same, T.c_Picks, T.n_Picks_some, (by show 1 < 1000; decide), ?_⟩
      refine k (by omega) _ (fun b o hb' hb2 => ?_) ?_
      · rw [upd_ne hb', upd_ne hb']
        exact e1 _ _ hb2
      · rw [upd_same]
        have q : putF "some" (V.int s) (putF "top" (V.int n) []) = pkF n.toNat s.toNat := by
          show (if ("top" : Str) = "some" then _ else (("top" : Str), V.int n) :: [(("some" : Str), V.int s)]) = [(("top" : Str), V.int ((n.toNat : Nat) : Int)), (("some" : Str), V.int ((s.toNat : Nat) : Int))]
          rw [if_neg (by decide +kernel), show ((n.toNat : Nat) : Int) = n by omega, show ((s.toNat : Nat) : Int) = s by omega]
        rw [q]
theorem in_pkB {n s : Int} : InitB (aG K "Picks") (spPkI K) [.int n, .int s] H (fun v H2 => ∃ q, v = .ref q ∧ (pkL K n.toNat s.toNat).At H2 q) (0 ≤ n ∧ n ≤ 24 ∧ 0 ≤ s ∧ s ≤ n) (aG K "NoListing") := fun H1 e1 x dx hx hd ne Q E k kE =>
  ⟨x, dx, n, s, rfl, upd_same, fun hn H2 kp h2 => k hn H2 (fun b o h => kp b o (ne_of_none h hx) (ex_made hx hd b o h)) ⟨x, rfl, dx, h2⟩, fun z H2 e2 => kE z H2 ((ex_made hx hd).trans e2)⟩
theorem ok_pk_size (T : Txt K mg) {n s : Nat} (hn : n ≤ 24) : Pr P w K mg base 2 (aM K "Picks" "size") ["self"] (spSize (pkL K n s)) := by
  obtain ⟨_, G_choices, b_choices, kp_choices⟩ := ok_ch (P := P) (w := w) (base := base) T
  refine pr_mk0 T.d_Picks_size sc_Picks_size (fun _ _ _ _ _ _ us hl => match us, hl with | [_], _ => rfl) (fun vs H Q E h => ?_) (fun cdv A outer s' H vs Q E hr h => ?_)
  · obtain ⟨p, rfl, _⟩ := h
    rfl
  · obtain ⟨p, rfl, ⟨dx, hp⟩, k⟩ := h
    refine ⟨_, (pss_one (ps_ret (pe_call G_choices (hr.mono (by decide)) rfl T.g_choices kp_choices b_choices .nil passLN (pa_cons (pe_fld (pv 0) rfl) (pa_cons (pe_fld (pv 0) rfl) pa_nil))))), ?_⟩
    exact s_retv (ev_call (ea_cons (ev_fld (ev_var rfl) hp T.c_Picks T.n_Picks_top (top_at _ _)) (ea_cons (ev_fld (ev_var rfl) hp T.c_Picks T.n_Picks_some (some_at _ _)) ea_nil)) (sv_ch rfl rfl (by omega))) k
theorem ok_pk_put (T : Txt K mg) {n s : Nat} (hn : n ≤ 24) : Pr P w K mg base 2 (aM K "Picks" "put") ["self", "number"] (spPut (pkL K n s)) := by
  obtain ⟨_, G_choices, b_choices, kp_choices⟩ := ok_ch (P := P) (w := w) (base := base) T
  refine pr_mk0 T.d_Picks_put sc_Picks_put (fun _ _ _ _ _ _ us hl => match us, hl with | [_, _], _ => rfl) (fun vs H Q E h => ?_) (fun cdv A outer s' H vs Q E hr h => ?_)
  · obtain ⟨p, x, rfl, _⟩ := h
    rfl
  · obtain ⟨p, x, rfl, ⟨dx, hp⟩, hx, k⟩ := h
    refine ⟨_, (pss_cons (ps_set (i := 2) sc_Picks_put.nd rfl (Or.inl rfl) (pe_lst pa_nil))
  (pss_cons (ps_set (i := 3) sc_Picks_put.nd rfl (Or.inl rfl) (pe_fld (pv 0) rfl))
  (pss_cons (ps_for PassesOwn.never rfl (pi_range3 rfl T.z_range (pa_cons (pe_fld (pv 0) rfl) (pa_cons pe_int (pa_cons (pe_un un_neg pe_int) pa_nil)))) (pg_name (i := 4) sc_Picks_put.nd rfl (Or.inl rfl))
    (pss_cons (ps_set (i := 5) sc_Picks_put.nd rfl (Or.inl rfl) (pe_call G_choices (hr.mono (by decide)) rfl T.g_choices kp_choices b_choices .nil passLN (pa_cons (pe_op op_sub (pv 4) pe_int) (pa_cons (pv 3) pa_nil))))
  (pss_one (ps_if (pt_cmpR op_ge (pv 1) (pv 5) (nomark _)) (pss_cons (ps_set (i := 1) sc_Picks_put.nd rfl (Or.inl rfl) (pe_op op_sub (pe_op op_sub (pe_call G_choices (hr.mono (by decide)) rfl T.g_choices kp_choices b_choices .nil passLN (pa_cons (pv 4) (pa_cons (pv 3) pa_nil))) pe_int) (pv 1)))
  (pss_cons (ps_set (i := 3) sc_Picks_put.nd rfl (Or.inl rfl) (pe_op op_sub (pv 3) pe_int))
  (pss_one (ps_expr (pe_bm PySem.F.plainAttrs_list PySem.F.slot_list_append PySem.F.type_list_append mt_append (pv 2) (pa_cons (pe_op op_sub (pv 4) pe_int) pa_nil)))))) pss_nil))))
  (pss_one (ps_ret (pe_listRev rfl rfl T.z_list rfl T.z_reversed (pv 2))))))), ?_⟩
    refine q_asgL (el_lst ea_nil (by decide)) fun o H1 fo e1 ho => ?_
    refine q_asg (ev_fld (ev_var rfl) (e1 _ _ hp) T.c_Picks T.n_Picks_some (some_at _ _)) fun H2 e2 => ?_
    have e12 := e1.trans e2
    refine q_forD (lo := (n : Int)) (hi := 0) (ea_cons (ev_fld (ev_var rfl) (e12 _ _ hp) T.c_Picks T.n_Picks_top (top_at _ _)) (ea_cons ev_c (ea_cons (ev_un ev_c ru_neg) ea_nil))) ⟨by omega, by omega, by decide, by decide⟩
      (fun i σ' H' => ∃ (d : List Int) (y : Int) (c : Nat) (u v : Option V), σ' = [some (.ref p), some (.int y), some (.ref o), some (.int c), u, v] ∧ Ex H H' ∧ H' o = some (.lst (d.map V.int)) ∧ d.length ≤ i ∧ i ≤ n ∧ 0 ≤ y ∧ y < ch (n - i) c ∧ pkR n s x = d ++ pkR (n - i) c y)
      (fun H3 e3 => ⟨[], x, s, none, none, rfl, e12.trans e3, e3 _ _ (e2 _ _ ho), Nat.le_refl _, Nat.zero_le _, hx.1, hx.2, rfl⟩) ?_ ?_
    · rintro i σ' H' hi ⟨d, y, c, u1, v1, rfl, e, ho', hd, hin, y0, y1, hw⟩
      obtain ⟨m, hm⟩ : ∃ m, n - i = m + 1 := ⟨n - i - 1, by omega⟩
      have hmi : (n : Int) - (i : Int) = ((m + 1 : Nat) : Int) := by omega
      rw [hm] at y1 hw
      refine q_asg (v := .int (ch m c)) (ev_call (ea_cons (ev_op (ev_var rfl) ev_c rv_I0) (ea_cons (ev_var rfl) ea_nil)) (sv_ch (by omega) rfl (by omega))) fun H3 e3 => ?_
      refine s_when (et_test (ev_op (ev_var rfl) (ev_var rfl) rv_I0)) (fun hb H4 e4 => ?_) (fun hb H4 e4 => ?_)
      · rw [decide_eq_true_eq] at hb
        obtain ⟨b, rfl, g0, g1⟩ := pick_in y1 hb
        refine q_asg (v := .int (ch (m + 1) (b + 1) - 1 - y)) (ev_op (ev_op (ev_call (ea_cons (ev_var rfl) (ea_cons (ev_var rfl) ea_nil)) (sv_ch hmi rfl (by omega))) ev_c rv_I0) (ev_var rfl) rv_I0) fun H5 e5 => ?_
        refine q_asg (v := .int (b : Nat)) (ev_is (ev_op (ev_var rfl) ev_c rv_I0) (by congr 1; omega)) fun H6 e6 => ?_
        have e' := ((e3.trans e4).trans e5).trans e6
        refine s_app (v := .int (m : Int)) (e' _ _ ho') (ev_var rfl) (ev_is (ev_op (ev_var rfl) ev_c rv_I0) (by congr 1; omega)) (by rw [List.length_map]; omega) fun H7 e7 => ?_
        refine ⟨d ++ [(m : Int)], _, b, some (.int ((n : Int) - (i : Int))), some (.int (ch m (b + 1))), rfl, ex_upd ((e.trans e').trans e7) fo, ?_, ?_, by omega, g0, ?_, ?_⟩
        · rw [upd_same, List.map_append]
          rfl
        · rw [List.length_append]
          show d.length + 1 ≤ i + 1
          omega
        · rw [show n - (i + 1) = m by omega]
          exact g1
        · rw [hw, pkR, if_pos hb, show n - (i + 1) = m by omega, List.append_assoc]
          rfl
      · rw [decide_eq_false_iff_not] at hb
        refine ⟨d, y, c, _, _, rfl, (e.trans e3).trans e4, e4 _ _ (e3 _ _ ho'), by omega, by omega, y0, ?_, ?_⟩
        · rw [show n - (i + 1) = m by omega]
          omega
        · rw [hw, pkR, if_neg hb, show n - (i + 1) = m by omega]
    · rintro σ' H' ⟨d, y, c, u, v, rfl, e, ho', hd, hin, y0, y1, hw⟩
      rw [show n - ((n : Int) - 0).toNat = 0 by omega] at hw
      have hw2 : pkR n s x = d := by rw [hw]; exact List.append_nil d
      have q := el_listRev (K := K) (σ := [some (V.ref p), some (.int y), some (.ref o), some (.int c), u, v]) (te := tVar 2) (ev_var rfl) (sq_of ho')
      rw [← List.map_reverse, ← hw2] at q
      exact s_retl q (RetL.ex k e)
theorem ok_pk_th (T : Txt K mg) {n s : Nat} (hn : n ≤ 24) : Pr P w K mg base 1 (aM K "Picks" "is_thing") ["self", "thing"] (spTh K (pkL K n s)) := by
  refine pr_mk0 T.d_Picks_is_thing sc_Picks_is_thing (fun _ _ _ _ _ _ us hl => match us, hl with | [_, _], _ => rfl) (fun vs H Q E h => ?_) (fun cdv A outer s' H vs Q E hr h => ?_)
  · obtain ⟨p, a, ts, rfl, _⟩ := h
    rfl
  · obtain ⟨p, a, ts, rfl, ⟨dx, hp⟩, ha, hlt, k⟩ := h
    have k : RetV (.bl (pkTh n s ts)) H Q := k
    refine ⟨_, (pss_cons (ps_if (pt_cmpR op_ne (pe_callB (r := rLenS K) call_len_seq (by rfl) T.z_len PySem.boot_len (pa_cons (pv 1) pa_nil)) (pe_fld (pv 0) rfl) (nomark _)) (pss_one (ps_ret pe_bl)) pss_nil)
  (pss_cons (ps_set (i := 2) sc_Picks_is_thing.nd rfl (Or.inl rfl) (pe_un un_neg pe_int))
  (pss_cons (ps_for PassesOwn.never rfl (pi_list (pv 1)) (pg_name (i := 3) sc_Picks_is_thing.nd rfl (Or.inl rfl))
    (pss_cons (ps_if (PW.pt (pw_or (pt_cmpR op_le (pv 3) (pv 2) (nomark _)) (pw_or1 (pt_cmpR op_ge (pv 3) (pe_fld (pv 0) rfl) (nomark _))))) (pss_one (ps_ret pe_bl)) pss_nil)
  (pss_one (ps_set (i := 2) sc_Picks_is_thing.nd rfl (Or.inl rfl) (pv 3)))))
  (pss_one (ps_ret pe_bl))))), ?_⟩
    refine q_when (et_test (ev_op (ev_len (ev_var rfl) ha) (ev_fld (ev_var rfl) hp T.c_Picks T.n_Picks_some (some_at _ _)) (rv_ne rfl))) (fun hb H1 e1 => ?_) (fun hb H1 e1 => ?_)
    · refine s_retv ev_c (RetV.ex ?_ e1)
      have z : pkTh n s ts = false := by
        rw [dec_int, List.length_map] at hb
        unfold pkTh
        have q : decide (ts.length = s) = false := decide_eq_false fun z => by rw [z] at hb; simp at hb
        rw [q, Bool.false_and]
      rw [z] at k
      exact k
    · rw [dec_int, List.length_map] at hb
      have hn' : ts.length = s := by
        have q : ((ts.length : Int) == (s : Int)) = true := by simpa using hb
        have q2 := eq_of_beq q
        omega
      have k2 : RetV (.bl (rise n (-1) ts)) H Q := by
        have z : pkTh n s ts = rise n (-1) ts := by
          unfold pkTh
          rw [decide_eq_true hn', Bool.true_and]
        rw [z] at k
        exact k
      refine q_asg (ev_un ev_c ru_neg) fun H2 e2 => ?_
      refine q_forLn (ev_var rfl) (ex_l (e1.trans e2) ha) (fun i σ' H' => ∃ b y, σ' = [some (.ref p), some (.ref a), some (.int b), y] ∧ Ex H H' ∧ rise n (-1) ts = rise n b (ts.drop i)) (fun H3 e3 => ⟨-1, none, rfl, (e1.trans e2).trans e3, rfl⟩) (fun i σ' H' _ ⟨b, y, _, e, _⟩ => ex_l e ha) ?_ ?_
      · rintro i x σ' H' hx ⟨b, y, rfl, e, hv⟩
        obtain ⟨t, ht, rfl⟩ := at_int hx
        obtain ⟨hi, et⟩ := List.getElem?_eq_some_iff.mp ht
        rw [List.drop_eq_getElem_cons hi, et] at hv
        refine q_when (et_or (et_test (ev_op (ev_var rfl) (ev_var rfl) rv_I0)) fun _ => et_test (ev_op (ev_var rfl) (ev_fld (ev_var rfl) (e _ _ hp) T.c_Picks T.n_Picks_top (top_at _ _)) rv_I0)) (fun hb2 H3 e3 => ?_) (fun hb2 H3 e3 => ?_)
        · simp only [Bool.or_eq_true, decide_eq_true_eq] at hb2
          have z : rise n (-1) ts = false := by
            rw [hv]
            show (decide (b < t) && decide (t < (n : Int)) && rise n t _) = false
            rcases hb2 with q | q
            · rw [decide_eq_false (show ¬ b < t by omega)]
              rfl
            · rw [decide_eq_false (show ¬ t < (n : Int) by omega), Bool.and_false, Bool.false_and]
          rw [z] at k2
          exact s_retv ev_c (RetV.ex k2 (e.trans e3))
        · simp only [Bool.or_eq_false_iff, decide_eq_false_iff_not] at hb2
          refine s_asg (ev_var rfl) fun H4 e4 => ⟨t, some (.int t), rfl, (e.trans e3).trans e4, ?_⟩
          rw [hv]
          show (decide (b < t) && decide (t < (n : Int)) && rise n t _) = _
          rw [decide_eq_true (show b < t by omega), decide_eq_true (show t < (n : Int) by omega)]
          rfl
      · rintro σ' H' ⟨b, y, rfl, e, hv⟩
        rw [List.length_map, List.drop_length] at hv
        rw [hv] at k2
        exact s_retv ev_c (RetV.ex k2 e)
theorem ok_pk_found (T : Txt K mg) {n s : Nat} (hn : n ≤ 24) : Pr P w K mg base 2 (aM K "Picks" "found") ["self", "thing"] (spFound K (pkL K n s)) := by
  obtain ⟨_, G_choices, b_choices, kp_choices⟩ := ok_ch (P := P) (w := w) (base := base) T
  refine pr_mk0 T.d_Picks_found sc_Picks_found (fun _ _ _ _ _ _ us hl => match us, hl with | [_, _], _ => rfl) (fun vs H Q E h => ?_) (fun cdv A outer s' H vs Q E hr h => ?_)
  · obtain ⟨p, a, ts, rfl, _⟩ := h
    rfl
  · obtain ⟨p, a, ts, rfl, ⟨dx, hp⟩, ha, ht, k⟩ := h
    have pk := pkTh_iff.mp ht
    have hlen := pk.2.len
    rw [List.length_reverse] at hlen
    refine ⟨_, (pss_cons (ps_set (i := 2) sc_Picks_found.nd rfl (Or.inl rfl) pe_int)
  (pss_cons (ps_for PassesOwn.never rfl (pi_range1 rfl T.z_range (pa_cons (pe_callB (r := rLenS K) call_len_seq (by rfl) T.z_len PySem.boot_len (pa_cons (pv 1) pa_nil)) pa_nil)) (pg_name (i := 3) sc_Picks_found.nd rfl (Or.inl rfl))
    (pss_one (ps_set (i := 2) sc_Picks_found.nd rfl (Or.inl rfl) (pe_op op_sub (pe_op op_sub (pe_call G_choices (hr.mono (by decide)) rfl T.g_choices kp_choices b_choices .nil passLN (pa_cons (pe_op op_add (pe_ix (r := rIxL K) ix_list (pv 1) (pv 3) (fun _ _ => rfl)) pe_int) (pa_cons (pe_op op_add (pv 3) pe_int) pa_nil))) pe_int) (pv 2)))))
  (pss_one (ps_ret (pv 2))))), ?_⟩
    refine q_asg ev_c fun H1 e1 => ?_
    refine q_forR1 (n := (ts.map V.int).length) (ea_cons (ev_len (ev_var rfl) (ex_l e1 ha)) ea_nil) ⟨by omega, by rw [List.length_map]; omega⟩
      (fun i σ' H' => ∃ y, σ' = [some (.ref p), some (.ref a), some (.int (fdR (ts.take i).reverse)), y] ∧ Ex H H') (fun H2 e2 => ⟨none, rfl, e1.trans e2⟩) ?_ ?_
    · rintro i σ' H' hi ⟨y, rfl, e⟩
      rw [List.length_map] at hi
      have hi' : i < ts.length := by omega
      have hb := List.getElem?_eq_getElem hi'
      have bt := pk.2.lt ts[i] (List.mem_reverse.mpr (List.getElem_mem hi'))
      refine s_asg (v := .int (ch (ts[i].toNat + 1) (i + 1) - 1 - fdR (ts.take i).reverse)) (ev_op (ev_op (ev_call (ea_cons (ev_op (ev_op (ev_var rfl) (ev_var rfl) (rv_ixL (ex_l e ha) (atI_nat (map_at hb)))) ev_c rv_I0) (ea_cons (ev_op (ev_var rfl) ev_c rv_I0) ea_nil)) (sv_ch (by omega) (by omega) (by omega))) ev_c rv_I0) (ev_var rfl) rv_I0)
        fun H3 e3 => ⟨some (.int i), ?_, e.trans e3⟩
      rw [take_snoc hb, List.reverse_append]
      show _ = [some (V.ref p), some (.ref a), some (.int (ch (ts[i].toNat + 1) ((ts.take i).reverse.length + 1) - 1 - fdR (ts.take i).reverse)), some (.int i)]
      rw [List.length_reverse, List.length_take, Nat.min_eq_left (by omega)]
      rfl
    · rintro σ' H' ⟨y, rfl, e⟩
      rw [Int.toNat_natCast, List.length_map, List.take_length]
      exact s_retv (ev_var rfl) (RetV.ex k e)
end
end Oc
namespace Oc
open PySem PySem.Spec PyProof.Rows L2 Evl L2H HotX
/-! ### orders -/
/-- what is left of the number behind j turns -/
def yq (n : Nat) (x : Int) : Nat → Int
  | 0 => x
  | j + 1 => yq n x j / ((n : Int) - j)
theorem yq_range {n : Nat} {x : Int} (h0 : 0 ≤ x) (h1 : x < fac n) : ∀ j, j ≤ n → 0 ≤ yq n x j ∧ yq n x j < fac (n - j)
  | 0, _ => ⟨h0, h1⟩
  | j + 1, h => by
    obtain ⟨a, b⟩ := yq_range h0 h1 j (by omega)
    obtain ⟨m, hm⟩ : ∃ m, n - j = m + 1 := ⟨n - j - 1, by omega⟩
    have e1 : (n : Int) - (j : Int) = (m : Int) + 1 := by omega
    rw [hm, fac_succ] at b
    rw [show n - (j + 1) = m by omega]
    unfold yq
    rw [e1]
    exact ⟨Int.ediv_nonneg a (by omega), (Int.ediv_lt_iff_lt_mul (by omega)).mpr b⟩
theorem yq_end {n : Nat} {x : Int} (h0 : 0 ≤ x) (h1 : x < fac n) : yq n x n = 0 := by
  obtain ⟨a, b⟩ := yq_range h0 h1 n (Nat.le_refl n)
  rw [Nat.sub_self] at b
  have b2 : yq n x n < 1 := b
  omega
theorem yq_step {n : Nat} {x : Int} {i : Nat} (h : i < n) : yq n x (n - i) = yq n x (n - (i + 1)) / ((i : Int) + 1) := by
  obtain ⟨j, hj⟩ : ∃ j, n - i = j + 1 := ⟨n - i - 1, by omega⟩
  rw [hj, show n - (i + 1) = j by omega]
  show yq n x j / ((n : Int) - (j : Int)) = _
  rw [show (n : Int) - (j : Int) = (i : Int) + 1 by omega]
theorem orPut_step (i : Nat) (y : Int) : orPut (i + 1) y = insAt (plc i (y / ((i : Int) + 1)) (y % ((i : Int) + 1))).toNat i (orPut i (y / ((i : Int) + 1))) := rfl
theorem first_at {m : Int} : ∀ {l : List Int}, m ∈ l → ∃ j : Nat, l[j]? = some m ∧ (∀ (i : Nat) z, i < j → l[i]? = some z → z ≠ m) ∧ (l.takeWhile fun v => decide (v ≠ m)) = l.take j
  | [], h => by cases h
  | a :: r, h => by
    by_cases e : a = m
    · refine ⟨0, by rw [e]; rfl, fun i z hi => absurd hi (Nat.not_lt_zero i), ?_⟩
      rw [List.takeWhile_cons_of_neg (by simpa using e)]
      rfl
    · have h2 : m ∈ r := by
        rcases List.mem_cons.mp h with q | q
        · exact absurd q.symm e
        · exact q
      obtain ⟨j, h3, h4, h5⟩ := first_at h2
      refine ⟨j + 1, by rw [List.getElem?_cons_succ]; exact h3, fun i z hi hz => ?_, ?_⟩
      · cases i with
        | zero =>
          rw [List.getElem?_cons_zero] at hz
          cases Option.some.inj hz
          exact e
        | succ i =>
          rw [List.getElem?_cons_succ] at hz
          exact h4 i z (by omega) hz
      · rw [List.takeWhile_cons_of_pos (by simpa using e), h5]
        rfl
theorem upTo_rising (n : Nat) : (upTo n).Pairwise (· ≤ ·) := by
  unfold upTo
  rw [List.pairwise_map]
  exact (List.pairwise_lt_range (n := n)).imp fun h => by omega
theorem sorted_perm {a b : List Int} (ha : a.Pairwise (· ≤ ·)) (hb : b.Pairwise (· ≤ ·)) (h : a.Perm b) : a = b := h.eq_of_pairwise (le := (· ≤ ·)) (fun x y _ _ h1 h2 => Int.le_antisymm h1 h2) ha hb
theorem sorted_is {n : Nat} {ms ts : List Int} (h : ms.Perm ts) (hs : ms.Pairwise (· ≤ ·)) : decide (ms = upTo n) = ts.isPerm (upTo n) := by
  rw [Bool.eq_iff_iff, decide_eq_true_eq, List.isPerm_iff]
  exact ⟨fun e => by rw [← e]; exact h.symm, fun q => sorted_perm hs (upTo_rising n) (h.trans q)⟩
section
variable {P : Program} {w : World} {K : PySem.W.Frag} {mg : Str → Option Value} {base : Heap} {H : Hp} {p a : Addr}
def odL (K : PySem.W.Frag) (n : Nat) : Lst := ⟨aG K "Orders", fun H p => ∃ dx, H p = some (.ins (aG K "Orders") dx (lenF n)), fac n, orPut n, fun ts => ts.isPerm (upTo n), orF n⟩
theorem odB (T : Txt K mg) (n : Nat) : LsB K (odL K n) where
  cl := T.c_Orders
  ins := fun ⟨dx, h⟩ => ⟨dx, _, h, fun m hm => lk_none (sw_keys m hm)⟩
  mono := fun e ⟨dx, h⟩ => ⟨dx, e _ _ h⟩
  pos := by
    have := fac_pos n
    show 0 < fac n
    omega
theorem odTh_iff {n : Nat} {ts : List Int} : (odL K n).th ts = true ↔ Ord n ts := List.isPerm_iff
def spPd : Sp := fun vs H Q _ => ∃ n : Nat, vs = [.int n] ∧ n ≤ 100 ∧ RetV (.int (fac n)) H Q
theorem sv_pd {n : Nat} (hn : n ≤ 100) : SpV spPd [.int n] H (.int (fac n)) := fun H1 e Q q E => ⟨n, rfl, hn, q⟩
theorem ok_pd (T : Txt K mg) : Pr P w K mg base 1 (aG K "product") ["many"] spPd := by
  refine pr_mk0 T.d_product sc_product (fun _ _ _ _ _ _ us hl => match us, hl with | [_], _ => rfl) (fun vs H Q E h => ?_) (fun cdv A outer s H vs Q E hr h => ?_)
  · obtain ⟨n, rfl, _⟩ := h
    rfl
  · obtain ⟨n, rfl, hn, k⟩ := h
    refine ⟨_, (pss_cons (ps_set (i := 1) sc_product.nd rfl (Or.inl rfl) pe_int)
  (pss_cons (ps_for PassesOwn.never rfl (pi_range1 rfl T.z_range (pa_cons (pv 0) pa_nil)) (pg_name (i := 2) sc_product.nd rfl (Or.inl rfl))
    (pss_one (ps_set (i := 1) sc_product.nd rfl (Or.inl rfl) (pe_op op_mul (pv 1) (pe_op op_add (pv 2) pe_int)))))
  (pss_one (ps_ret (pv 1))))), ?_⟩
    refine q_asg ev_c fun H1 e1 => ?_
    refine q_forR1 (n := (n : Int)) (ea_cons (ev_var rfl) ea_nil) ⟨by omega, by omega⟩ (fun i σ' H' => ∃ y, σ' = [some (.int n), some (.int (fac i)), y] ∧ Ex H H') (fun H2 e2 => ⟨none, rfl, e1.trans e2⟩) ?_ ?_
    · rintro i σ' H' hi ⟨y, rfl, e⟩
      exact s_asg (ev_op (ev_var rfl) (ev_op (ev_var rfl) ev_c rv_I0) (rv_I (Or.inr ⟨by omega, by omega⟩))) fun H3 e3 => ⟨some (.int i), rfl, e.trans e3⟩
    · rintro σ' H' ⟨y, rfl, e⟩
      exact s_retv (ev_var rfl) (RetV.ex k e)
def spOdI (K : PySem.W.Frag) : Sp := fun vs H Q E => ∃ x dx n, vs = [.ref x, .int n] ∧ H x = some (.ins (aG K "Orders") dx []) ∧
  (0 ≤ n ∧ n ≤ 14 → ∀ H2, (∀ b o, b ≠ x → H b = some o → H2 b = some o) → H2 x = some (.ins (aG K "Orders") dx (lenF n.toNat)) → Q .non H2) ∧ (¬ (0 ≤ n ∧ n ≤ 14) → RetE (aG K "NoListing") H E)
theorem ok_od_init (T : Txt K mg) : Pr P w K mg base 1 (aM K "Orders" "__init__") ["self", "many"] (spOdI K) := by
  refine pr_mk T.d_Orders___init__ sc_Orders___init__ (fun _ _ _ _ _ _ us hl => match us, hl with | [_, _], _ => rfl) (fun vs H Q E h => ?_) (fun cdv A outer s H vs Q E hr h => ?_)
  · obtain ⟨x, dx, n, rfl, _⟩ := h
    rfl
  · obtain ⟨x, dx, n, rfl, hx, k, kE⟩ := h
    refine ⟨_, (pss_cons (ps_if (PW.pt (pw_or (pt_cmpR op_lt (pv 1) pe_int (nomark _)) (pw_or1 (pt_cmpR op_gt (pv 1) pe_int (nomark _))))) (pss_one (L2N.ps_raise rfl (L2N.takes_of rfl rfl rfl rfl) (L2N.pmk_own PySem.F.excBase_ValueError T.e_NoListing.1 T.g_NoListing T.e_NoListing.2.1 (raises_own T.e_NoListing.2.2.1 T.e_NoListing.2.2.2) rfl))) pss_nil)
  (pss_one (ps_fld (pv 0) (pv 1) rfl))), ?_⟩
    refine q_when (et_or (et_test (ev_op (ev_var rfl) ev_c rv_I0)) fun _ => et_test (ev_op (ev_var rfl) ev_c rv_I0)) (fun hb H1 e1 => ?_) (fun hb H1 e1 => ?_)
    · simp only [Bool.or_eq_true, decide_eq_true_eq] at hb
      exact kE (by omega) H1 e1
    · simp only [Bool.or_eq_false_iff, decide_eq_false_iff_not] at hb
      refine ⟨_, rfl, _, rfl, x, _, dx, _, rfl, e1 _ _ hx, T.c_Orders, T.n_Orders_length, (by show 0 < 1000; decide), ?_⟩
      refine k (by omega) _ (fun b o hb' hb2 => ?_) ?_
      · rw [upd_ne hb']
        exact e1 _ _ hb2
      · rw [upd_same]
        show some (HO.ins _ _ [(_, V.int n)]) = some (HO.ins _ _ [(_, V.int ((n.toNat : Nat) : Int))])
        rw [show ((n.toNat : Nat) : Int) = n by omega]
theorem in_odB {n : Int} : InitB (aG K "Orders") (spOdI K) [.int n] H (fun v H2 => ∃ q, v = .ref q ∧ (odL K n.toNat).At H2 q) (0 ≤ n ∧ n ≤ 14) (aG K "NoListing") := fun H1 e1 x dx hx hd ne Q E k kE =>
  ⟨x, dx, n, rfl, upd_same, fun hn H2 kp h2 => k hn H2 (fun b o h => kp b o (ne_of_none h hx) (ex_made hx hd b o h)) ⟨x, rfl, dx, h2⟩, fun z H2 e2 => kE z H2 ((ex_made hx hd).trans e2)⟩
theorem ok_od_size (T : Txt K mg) {n : Nat} (hn : n ≤ 14) : Pr P w K mg base 2 (aM K "Orders" "size") ["self"] (spSize (odL K n)) := by
  obtain ⟨_, G_product, b_product, kp_product⟩ := ok_pd (P := P) (w := w) (base := base) T
  refine pr_mk0 T.d_Orders_size sc_Orders_size (fun _ _ _ _ _ _ us hl => match us, hl with | [_], _ => rfl) (fun vs H Q E h => ?_) (fun cdv A outer s' H vs Q E hr h => ?_)
  · obtain ⟨p, rfl, _⟩ := h
    rfl
  · obtain ⟨p, rfl, ⟨dx, hp⟩, k⟩ := h
    refine ⟨_, (pss_one (ps_ret (pe_call G_product (hr.mono (by decide)) rfl T.g_product kp_product b_product .nil passLN (pa_cons (pe_fld (pv 0) rfl) pa_nil)))), ?_⟩
    exact s_retv (ev_call (ea_cons (ev_fld (ev_var rfl) hp T.c_Orders T.n_Orders_length (len_at _)) ea_nil) (sv_pd (by omega))) k
theorem ok_od_put (T : Txt K mg) {n : Nat} (hn : n ≤ 14) : Pr P w K mg base 1 (aM K "Orders" "put") ["self", "number"] (spPut (odL K n)) := by
  refine pr_mk0 T.d_Orders_put sc_Orders_put (fun _ _ _ _ _ _ us hl => match us, hl with | [_, _], _ => rfl) (fun vs H Q E h => ?_) (fun cdv A outer s' H vs Q E hr h => ?_)
  · obtain ⟨p, x, rfl, _⟩ := h
    rfl
  · obtain ⟨p, x, rfl, ⟨dx, hp⟩, hx, k⟩ := h
    refine ⟨_, (pss_cons (ps_set (i := 2) sc_Orders_put.nd rfl (Or.inl rfl) (pe_lst pa_nil))
  (pss_cons (ps_for PassesOwn.never rfl (pi_range3 rfl T.z_range (pa_cons (pe_fld (pv 0) rfl) (pa_cons pe_int (pa_cons (pe_un un_neg pe_int) pa_nil)))) (pg_name (i := 3) sc_Orders_put.nd rfl (Or.inl rfl))
    (pss_cons (ps_expr (pe_bm PySem.F.plainAttrs_list PySem.F.slot_list_append PySem.F.type_list_append mt_append (pv 2) (pa_cons (pe_op op_mod (pv 1) (pv 3)) pa_nil)))
  (pss_one (ps_set (i := 1) sc_Orders_put.nd rfl (Or.inl rfl) (pe_op op_fdivW (pv 1) (pv 3))))))
  (pss_cons (ps_set (i := 4) sc_Orders_put.nd rfl (Or.inl rfl) (pe_lst pa_nil))
  (pss_cons (ps_set (i := 1) sc_Orders_put.nd rfl (Or.inl rfl) pe_int)
  (pss_cons (ps_for PassesOwn.never rfl (pi_range2 rfl T.z_range (pa_cons pe_int (pa_cons (pe_op op_add (pe_fld (pv 0) rfl) pe_int) pa_nil))) (pg_name (i := 3) sc_Orders_put.nd rfl (Or.inl rfl))
    (pss_cons (ps_set (i := 5) sc_Orders_put.nd rfl (Or.inl rfl) (pe_ix (r := rIxL K) ix_list (pv 2) (pe_op op_sub (pe_fld (pv 0) rfl) (pv 3)) (fun _ _ => rfl)))
  (pss_cons (ps_set (i := 6) sc_Orders_put.nd rfl (Or.inl rfl) (pv 5))
  (pss_cons (ps_if (pt_cmpR op_eq (pe_op op_mod (pv 1) pe_int) pe_int (nomark _)) (pss_one (ps_set (i := 6) sc_Orders_put.nd rfl (Or.inl rfl) (pe_op op_sub (pe_op op_sub (pv 3) pe_int) (pv 5)))) pss_nil)
  (pss_cons (ps_expr (pe_bm (r := rInsert) PySem.F.plainAttrs_list PySem.F.slot_list_insert PySem.F.type_list_insert mt_insert (pv 4) (pa_cons (pv 6) (pa_cons (pe_op op_sub (pv 3) pe_int) pa_nil))))
  (pss_one (ps_set (i := 1) sc_Orders_put.nd rfl (Or.inl rfl) (pe_op op_add (pe_op op_mul (pv 1) (pv 3)) (pv 5)))))))))
  (pss_one (ps_ret (pv 4)))))))), ?_⟩
    refine q_asgL (el_lst ea_nil (by decide)) fun o H1 fo e1 ho => ?_
    refine q_forD (lo := (n : Int)) (hi := 0) (ea_cons (ev_fld (ev_var rfl) (e1 _ _ hp) T.c_Orders T.n_Orders_length (len_at _)) (ea_cons ev_c (ea_cons (ev_un ev_c ru_neg) ea_nil))) ⟨by omega, by omega, by decide, by decide⟩
      (fun i σ' H' => ∃ u, σ' = [some (.ref p), some (.int (yq n x i)), some (.ref o), u, none, none, none] ∧ Ex H H' ∧ H' o = some (.lst ((List.range i).map fun j => V.int (yq n x j % ((n : Int) - j)))) ∧ i ≤ n)
      (fun H3 e3 => ⟨none, rfl, e1.trans e3, e3 _ _ ho, Nat.zero_le _⟩) ?_ ?_
    · rintro i σ' H' hi ⟨u, rfl, e, ho', hin⟩
      refine q_app ho' (ev_var rfl) (ev_op (ev_var rfl) (ev_var rfl) (rv_I (show 0 < (n : Int) - i by omega))) (by rw [List.length_map, List.length_range]; omega) fun H3 e3 => ?_
      refine s_asg (ev_op (ev_var rfl) (ev_var rfl) (rv_I (wide_div (b := 64) (by omega) (by omega) (by decide) (by decide)))) fun H4 e4 => ?_
      refine ⟨some (.int ((n : Int) - i)), rfl, (ex_upd (e.trans e3) fo).trans e4, e4 _ _ ?_, by omega⟩
      rw [upd_same, List.range_succ, List.map_append]
      rfl
    · rintro σ' H' ⟨u, rfl, e, ho', hin⟩
      rw [show ((n : Int) - 0).toNat = n by omega] at ho' ⊢
      refine q_asgL (el_lst ea_nil (by decide)) fun o2 H2 fo2 e2 ho2 => ?_
      refine q_asg ev_c fun H3 e3 => ?_
      have e' := e.trans (e2.trans e3)
      refine q_forR2 (lo := 1) (n := (n : Int) + 1) (ea_cons ev_c (ea_cons (ev_op (ev_fld (ev_var rfl) (e' _ _ hp) T.c_Orders T.n_Orders_length (len_at _)) ev_c rv_I0) ea_nil)) ⟨by decide, by decide, by omega, by omega⟩
        (fun i σ' H4 => ∃ u1 u2 u3, σ' = [some (.ref p), some (.int (yq n x (n - i))), some (.ref o), u1, some (.ref o2), u2, u3] ∧ Ex H' H4 ∧ H4 o2 = some (.lst ((orPut i (yq n x (n - i))).map V.int)) ∧ i ≤ n)
        (fun H4 e4 => ⟨u, none, none, ?_, (e2.trans e3).trans e4, e4 _ _ (e3 _ _ ho2), Nat.zero_le _⟩) ?_ ?_
      · rw [Nat.sub_zero, yq_end hx.1 hx.2]
        rfl
      · rintro i σ' H4 hi ⟨u1, u2, u3, rfl, e4, ho4, hin2⟩
        have hi' : i < n := by omega
        have st := yq_step (x := x) hi'
        generalize hy : yq n x (n - (i + 1)) = y at *
        have tr := turn_range y i
        have pr := plc_range (y := y / ((i : Int) + 1)) tr
        refine q_asg (v := .int (y % ((i : Int) + 1))) (ev_op (ev_var rfl) (ev_is (ev_op (ev_fld (ev_var rfl) (e4 _ _ (e _ _ hp)) T.c_Orders T.n_Orders_length (len_at _)) (ev_var rfl) rv_I0) (show V.int ((n : Int) - (1 + i)) = .int ((n - (i + 1) : Nat) : Int) by congr 1; omega)) (rv_ixL (sq_of (e4 _ _ ho')) (atI_nat ?_))) fun H5 e5 => ?_
        · rw [List.getElem?_map, List.getElem?_range (by omega)]
          show some (V.int (yq n x (n - (i + 1)) % ((n : Int) - ((n - (i + 1) : Nat) : Int)))) = _
          rw [hy, show (n : Int) - ((n - (i + 1) : Nat) : Int) = (i : Int) + 1 by omega]
        refine q_asg (ev_var rfl) fun H6 e6 => ?_
        refine q_ifAsg (v := .int (plc i (y / ((i : Int) + 1)) (y % ((i : Int) + 1)))) (et_test (ev_op (ev_op (ev_var rfl) ev_c (rv_I (by decide))) ev_c (rv_eq rfl))) (fun hb => ?_) (fun hb => ?_) fun H7 e7 => ?_
        · rw [dec_int, beq_iff_eq, st] at hb
          unfold plc
          rw [if_pos hb]
          exact ev_is (ev_op (ev_op (ev_var rfl) ev_c rv_I0) (ev_var rfl) rv_I0) (by congr 1; omega)
        · rw [dec_int, st] at hb
          unfold plc
          rw [if_neg (fun q => by rw [q] at hb; simp at hb)]
          rfl
        · have e' := (e5.trans e6).trans e7
          refine q_ins (v := .int (i : Int)) (e' _ _ ho4) (ev_var rfl) (ev_var rfl) (ev_is (ev_op (ev_var rfl) ev_c rv_I0) (by congr 1; omega)) (by rw [List.length_map, orPut_len]; omega) pr.1 (by omega) fun H8 e8 => ?_
          refine s_asg (v := .int y) (ev_is (ev_op (ev_op (ev_var rfl) (ev_var rfl) (rv_I (Or.inr ⟨by omega, by omega⟩))) (ev_var rfl) rv_I0) ?_) fun H9 e9 => ?_
          · congr 1
            rw [st]
            have d := Int.mul_ediv_add_emod y ((i : Int) + 1)
            rw [Int.mul_comm] at d
            rw [show (1 : Int) + i = (i : Int) + 1 by omega]
            exact d
          · refine ⟨some (.int (1 + i)), some (.int (y % ((i : Int) + 1))), some (.int (plc i (y / ((i : Int) + 1)) (y % ((i : Int) + 1)))), ?_, (ex_upd ((e4.trans e').trans e8) fo2).trans e9, e9 _ _ ?_, by omega⟩
            · rfl
            · rw [upd_same, orPut_step, st]
              unfold insAt
              rw [List.map_append, List.map_append, List.map_take, List.map_drop]
              rfl
      · rintro σ' H4 ⟨u1, u2, u3, rfl, e4, ho4, _⟩
        rw [show (((n : Int) + 1) - 1).toNat = n by omega, Nat.sub_self] at ho4
        exact ⟨_, rfl, k o2 H4 (fresh_back e fo2) (e.trans e4) ho4⟩
theorem ok_od_th (T : Txt K mg) {n : Nat} (hn : n ≤ 14) : Pr P w K mg base 1 (aM K "Orders" "is_thing") ["self", "thing"] (spTh K (odL K n)) := by
  refine pr_mk0 T.d_Orders_is_thing sc_Orders_is_thing (fun _ _ _ _ _ _ us hl => match us, hl with | [_, _], _ => rfl) (fun vs H Q E h => ?_) (fun cdv A outer s' H vs Q E hr h => ?_)
  · obtain ⟨p, a, ts, rfl, _⟩ := h
    rfl
  · obtain ⟨p, a, ts, rfl, ⟨dx, hp⟩, ha, hlt, k⟩ := h
    refine ⟨_, (pss_one (ps_ret (pe_cmpR (r := rEqD K) (op_eqD hr.units) (pe_callB (r := rSorted K) cr_sorted (by rfl) T.z_sorted boot_sorted (pa_cons (pv 1) pa_nil)) (pe_listRg rfl rfl T.z_list (prg_1 rfl T.z_range (pe_fld (pv 0) rfl))) (nomark _)))), ?_⟩
    refine s_retv (ev_opN (EvN.toX (en_sorted (ev_var rfl) ha (by omega))) fun v H1 e1 ⟨r, ms, hv, h1, h2, h3⟩ => ?_) k
    subst hv
    refine EvX.imp (EvL.toX (el_listRg (ev_fld (ev_var rfl) (e1 _ _ hp) T.c_Orders T.n_Orders_length (len_at _)) (by omega))) fun u H2 e2 ⟨q, hu, hq⟩ => ?_
    subst hu
    have z := rv_eqI (K := K) (xs := ms) (ys := upTo n) (sq_of (e2 _ _ h3)) (sq_of (by rw [hq]; unfold upTo; rw [List.map_map]; rfl))
    rw [sorted_is h1 h2] at z
    exact z
theorem ok_od_found (T : Txt K mg) {n : Nat} (hn : n ≤ 14) : Pr P w K mg base 1 (aM K "Orders" "found") ["self", "thing"] (spFound K (odL K n)) := by
  refine pr_mk0 T.d_Orders_found sc_Orders_found (fun _ _ _ _ _ _ us hl => match us, hl with | [_, _], _ => rfl) (fun vs H Q E h => ?_) (fun cdv A outer s' H vs Q E hr h => ?_)
  · obtain ⟨p, a, ts, rfl, _⟩ := h
    rfl
  · obtain ⟨p, a, ts, rfl, ⟨dx, hp⟩, ha, ht, k⟩ := h
    have od : Ord n ts := odTh_iff.mp ht
    have hlen := od.len
    refine ⟨_, (pss_cons (ps_set (i := 2) sc_Orders_found.nd rfl (Or.inl rfl) pe_int)
  (pss_cons (ps_for PassesOwn.never rfl (pi_range2 rfl T.z_range (pa_cons pe_int (pa_cons (pe_op op_add (pe_fld (pv 0) rfl) pe_int) pa_nil))) (pg_name (i := 3) sc_Orders_found.nd rfl (Or.inr rfl))
    (pss_cons (ps_set (i := 4) sc_Orders_found.nd rfl (Or.inl rfl) (pe_callB (r := rLenS K) call_len_seq (by rfl) T.z_len PySem.boot_len (pa_cons (pe_lc (own := [("one", 5)]) rfl sc_Orders_found.nd (pi_list (pe_slice (r := rSlL K) sl_list (pv 1) po_none (po_some (pe_bm (r := rIndex K) PySem.F.plainAttrs_list PySem.F.slot_list_index PySem.F.type_list_index mt_index (pv 1) (pa_cons (pe_op op_sub (pv 3) pe_int) pa_nil))))) (blkOk_by (own := [("one", 5)]) (N := ["self", "thing", "number", "top", "place", "one", "turn"]) (sc := defScope s_Orders_found) (by decide +kernel)) (fun _ _ _ _ _ => (pg_name (i := 5) sc_Orders_found.nd rfl (Or.inl rfl))) (fun _ _ _ _ _ => (pts_one (pt_cmpR op_lt (pv 5) (pv 3) (nomark _)))) (fun _ _ _ _ _ => (pv 5))) pa_nil)))
  (pss_cons (ps_set (i := 6) sc_Orders_found.nd rfl (Or.inl rfl) (pv 4))
  (pss_cons (ps_if (pt_cmpR op_eq (pe_op op_mod (pv 2) pe_int) pe_int (nomark _)) (pss_one (ps_set (i := 6) sc_Orders_found.nd rfl (Or.inl rfl) (pe_op op_sub (pe_op op_sub (pv 3) pe_int) (pv 4)))) pss_nil)
  (pss_one (ps_set (i := 2) sc_Orders_found.nd rfl (Or.inl rfl) (pe_op op_add (pe_op op_mul (pv 2) (pv 3)) (pv 6))))))))
  (pss_one (ps_ret (pv 2))))), ?_⟩
    refine q_asg ev_c fun H1 e1 => ?_
    refine q_forR2 (lo := 1) (n := (n : Int) + 1) (ea_cons ev_c (ea_cons (ev_op (ev_fld (ev_var rfl) (e1 _ _ hp) T.c_Orders T.n_Orders_length (len_at _)) ev_c rv_I0) ea_nil)) ⟨by decide, by decide, by omega, by omega⟩
      (fun i σ' H' => ∃ u1 u2 u3, σ' = [some (.ref p), some (.ref a), some (.int (orF i ts)), u1, u2, none, u3] ∧ Ex H H') (fun H2 e2 => ⟨none, none, none, rfl, e1.trans e2⟩) ?_ ?_
    · rintro i σ' H' hi ⟨u1, u2, u3, rfl, e⟩
      have hi' : i < n := by omega
      obtain ⟨j, h1, h2, h3⟩ := first_at (od.mem.mpr (show 0 ≤ (i : Int) ∧ (i : Int) < n by omega))
      have ha' := ex_l (K := K) e ha
      have cut : EvL (tSl (rSlL K) (tVar 1) tNoPart (tPart (tBM K "list" (rIndex K) (tVar 1) (tCons (tOp (rI0 fun i j => .int (i - j)) (tVar 3) (tC (.int 1))) tNil)))) [some (V.ref p), some (.ref a), some (.int (orF i ts)), some (.int (1 + i)), u2, none, u3] H' ((ts.take j).map V.int) := by
        have q := el_sl (σ := [some (V.ref p), some (.ref a), some (.int (orF i ts)), some (.int (1 + i)), u2, none, u3]) (te := tVar 1) (ev_var rfl) eo_none
          (eo_some (ev_index (ta := tVar 1) (te := tOp (rI0 fun i j => .int (i - j)) (tVar 3) (tC (.int 1))) (n := (i : Int)) (ev_var rfl) ha' (ev_is (ev_op (ev_var rfl) ev_c rv_I0) (by congr 1; omega)) h1 (fun m z hm hz => h2 m z hm hz))) ha'
        rw [cut_to, ← List.map_take] at q
        exact q
      refine q_asg (v := .int (plOf i ts)) (ev_is (ev_lenN (el_filtN (fun v => decide (v < (i : Int) + 1)) cut (by rw [List.length_take]; omega) (fun x => rfl) (fun z H1 e1 => et_is (et_test (ev_op (ev_var rfl) (ev_var rfl) rv_I0)) ?_) (fun z H1 e1 => ev_var rfl))) ?_) fun H3 e3 => ?_
      · show decide (z < 1 + (i : Int)) = _
        rw [show (1 : Int) + i = (i : Int) + 1 by omega]
      · rw [List.length_map]
        unfold plOf
        rw [h3]
      · refine q_asg (ev_var rfl) fun H4 e4 => ?_
        refine q_ifAsg (v := .int (plc i (orF i ts) (plOf i ts))) (et_test (ev_op (ev_op (ev_var rfl) ev_c (rv_I (by decide))) ev_c (rv_eq rfl))) (fun hb => ?_) (fun hb => ?_) fun H5 e5 => ?_
        · rw [dec_int, beq_iff_eq] at hb
          unfold plc
          rw [if_pos hb]
          exact ev_is (ev_op (ev_op (ev_var rfl) ev_c rv_I0) (ev_var rfl) rv_I0) (by congr 1; omega)
        · rw [dec_int] at hb
          unfold plc
          rw [if_neg (fun q => by rw [q] at hb; simp at hb)]
          rfl
        · refine s_asg (ev_op (ev_op (ev_var rfl) (ev_var rfl) (rv_I (Or.inr ⟨by omega, by omega⟩))) (ev_var rfl) rv_I0) fun H6 e6 => ⟨some (.int (1 + i)), some (.int (plOf i ts)), some (.int (plc i (orF i ts) (plOf i ts))), ?_, e.trans (((e3.trans e4).trans e5).trans e6)⟩
          show _ = [some (V.ref p), some (.ref a), some (.int (orF i ts * ((i : Int) + 1) + plc i (orF i ts) (plOf i ts))), some (.int (1 + i)), some (.int (plOf i ts)), none, some (.int (plc i (orF i ts) (plOf i ts)))]
          rw [show (i : Int) + 1 = 1 + i by omega]
          rfl
    · rintro σ' H' ⟨u1, u2, u3, rfl, e⟩
      rw [show (((n : Int) + 1) - 1).toNat = n by omega]
      exact s_retv (ev_var rfl) (RetV.ex k e)
end
end Oc
namespace Oc
open PySem PySem.Spec PyProof.Rows L2 Evl L2H HotX
/-! ### the laws' small helpers -/
/-- a cell of the script -/
def cell (ns : List Int) (k : Int) : Int := ns.getD k.toNat 0
section
variable {P : Program} {w : World} {K : PySem.W.Frag} {mg : Str → Option Value} {base : Heap} {H : Hp} {p a : Addr}
def spCell (K : PySem.W.Frag) : Sp := fun vs H Q _ => ∃ a ns k, vs = [.ref a, .int k] ∧ SqL K H a (ns.map V.int) ∧ 0 ≤ k ∧ RetV (.int (cell ns k)) H Q
theorem sv_cell {ns : List Int} {k : Int} (h : SqL K H a (ns.map V.int)) (hk : 0 ≤ k) : SpV (spCell K) [.ref a, .int k] H (.int (cell ns k)) := fun H1 e Q q E => ⟨a, ns, k, rfl, ex_l e h, hk, q⟩
theorem ok_cell (T : Txt K mg) : Pr P w K mg base 1 (aG K "_law_cell_at") ["script", "k"] (spCell K) := by
  refine pr_mk0 T.d__law_cell_at sc__law_cell_at (fun _ _ _ _ _ _ us hl => match us, hl with | [_, _], _ => rfl) (fun vs H Q E h => ?_) (fun cdv A outer s H vs Q E hr h => ?_)
  · obtain ⟨a, ns, k, rfl, _⟩ := h
    rfl
  · obtain ⟨a, ns, i, rfl, hS, hi, k⟩ := h
    refine ⟨_, (pss_cons (ps_if (pt_cmpR op_lt (pv 1) (pe_callB (r := rLenS K) call_len_seq (by rfl) T.z_len PySem.boot_len (pa_cons (pv 0) pa_nil)) (nomark _)) (pss_one (ps_ret (pe_ix (r := rIxL K) ix_list (pv 0) (pv 1) (fun _ _ => rfl)))) pss_nil)
  (pss_one (ps_ret pe_int))), ?_⟩
    refine q_when (et_test (ev_op (ev_var rfl) (ev_len (ev_var rfl) hS) rv_I0)) (fun hb H1 e1 => ?_) (fun hb H1 e1 => ?_)
    · rw [decide_eq_true_eq, List.length_map] at hb
      obtain ⟨j, rfl⟩ : ∃ j : Nat, i = (j : Int) := ⟨i.toNat, by omega⟩
      have hj : j < ns.length := by omega
      have q : cell ns (j : Int) = ns[j] := by
        unfold cell
        rw [Int.toNat_natCast, List.getD_eq_getElem?_getD, List.getElem?_eq_getElem hj]
        rfl
      rw [q] at k
      exact s_retv (ev_op (ev_var rfl) (ev_var rfl) (rv_ixL (ex_l e1 hS) (atI_nat (by rw [List.getElem?_map, List.getElem?_eq_getElem hj]; rfl)))) (RetV.ex k e1)
    · rw [decide_eq_false_iff_not, List.length_map] at hb
      have q : cell ns i = 0 := by
        unfold cell
        rw [List.getD_eq_getElem?_getD, List.getElem?_eq_none (by omega)]
        rfl
      rw [q] at k
      exact s_retv ev_c (RetV.ex k e1)
end
end Oc
namespace Oc
open PySem PySem.Spec PyProof.Rows L2 Evl L2H HotX
/-! ### the four kinds -/
structure Kd where
  kind : Int
  one : Int
  two : Int
  sizes : List Int
/-- its numbers are in the bounds -/
structure Good (d : Kd) : Prop where
  k : d.kind = 0 ∨ d.kind = 1 ∨ d.kind = 2 ∨ d.kind = 3
  g0 : d.kind = 0 → 0 ≤ d.one ∧ d.one ≤ 40
  g1 : d.kind = 1 → Szs d.sizes ∧ d.sizes.length ≤ 12
  g2 : d.kind = 2 → 0 ≤ d.one ∧ d.one ≤ 24 ∧ 0 ≤ d.two ∧ d.two ≤ d.one
  g3 : d.kind = 3 → 0 ≤ d.one ∧ d.one ≤ 14
def Kd.I (K : PySem.W.Frag) (d : Kd) : Lst := if d.kind = 0 then swL K d.one.toNat else if d.kind = 1 then whL K d.sizes else if d.kind = 2 then pkL K d.one.toNat d.two.toNat else odL K d.one.toNat
def Kd.vs (d : Kd) (s : Addr) : List V := [.int d.kind, .int d.one, .int d.two, .ref s]
/-- the tuple at t tells d -/
def TupAt (H : Hp) (t : Addr) (d : Kd) : Prop := ∃ s, H t = some (.tup [.int d.kind, .int d.one, .int d.two, .ref s]) ∧ H s = some (.lst (d.sizes.map V.int))
theorem TupAt.ex {H H' : Hp} {t : Addr} {d : Kd} (h : TupAt H t d) (e : Ex H H') : TupAt H' t d := by
  obtain ⟨s, h1, h2⟩ := h
  exact ⟨s, e _ _ h1, e _ _ h2⟩
def gTupD (d : Kd) : V → Hp → Prop := fun v H2 => ∃ t, v = .ref t ∧ TupAt H2 t d
section
variable {K : PySem.W.Frag} {d : Kd}
theorem I0 (h : d.kind = 0) : d.I K = swL K d.one.toNat := if_pos h
theorem I1 (h : d.kind = 1) : d.I K = whL K d.sizes := by
  unfold Kd.I
  rw [if_neg (by omega), if_pos h]
theorem I2 (h : d.kind = 2) : d.I K = pkL K d.one.toNat d.two.toNat := by
  unfold Kd.I
  rw [if_neg (by omega), if_neg (by omega), if_pos h]
theorem I3 (h : d.kind = 3) : d.I K = odL K d.one.toNat := by
  unfold Kd.I
  rw [if_neg (by omega), if_neg (by omega), if_neg (by omega)]
end
/-- the plain laws of a listing -/
structure LsM (I : Lst) : Prop where
  put_th : ∀ x, InN I x → I.th (I.put x) = true
  fnd_put : ∀ x, InN I x → I.fnd (I.put x) = x
  put_fnd : ∀ ts, I.th ts = true → I.put (I.fnd ts) = ts
  fnd_in : ∀ ts, I.th ts = true → InN I (I.fnd ts)
  len : ∀ ts, I.th ts = true → ts.length ≤ 40
  same : ∀ ts us, I.th ts = true → I.th us = true → ts.length = us.length
theorem lsM_sw {K : PySem.W.Frag} {n : Nat} (hn : n ≤ 40) : LsM (swL K n) where
  put_th := fun x _ => swTh_iff.mpr ⟨swPut_len n x, swPut_bits n x⟩
  fnd_put := fun x hx => swFound_put hx.1 hx.2
  put_fnd := fun ts ht => by
    obtain ⟨h1, h2⟩ := swTh_iff.mp ht
    rw [← h1]
    exact swPut_found h2
  fnd_in := fun ts ht => by
    obtain ⟨h1, h2⟩ := swTh_iff.mp ht
    have h := swFound_range ts
    rw [h1] at h
    exact h
  len := fun ts ht => by
    obtain ⟨h1, h2⟩ := swTh_iff.mp ht
    omega
  same := fun ts us h h' => by rw [(swTh_iff.mp h).1, (swTh_iff.mp h').1]
theorem lsM_wh {K : PySem.W.Frag} {ss : List Int} (hs : Szs ss) (hl : ss.length ≤ 12) : LsM (whL K ss) where
  put_th := fun x hx => whTh_iff.mpr (whPut_ok hs hx.1 hx.2)
  fnd_put := fun x hx => whFound_put hs hx.1 hx.2
  put_fnd := fun ts ht => whPut_found hs (whTh_iff.mp ht)
  fnd_in := fun ts ht => whFound_range hs (whTh_iff.mp ht)
  len := fun ts ht => by
    have h := ((okR_iff _ _).mp (whTh_iff.mp ht)).1
    omega
  same := fun ts us h h' => by rw [((okR_iff _ _).mp (whTh_iff.mp h)).1, ((okR_iff _ _).mp (whTh_iff.mp h')).1]
theorem lsM_pk {K : PySem.W.Frag} {n s : Nat} (hn : n ≤ 24) (hs : s ≤ n) : LsM (pkL K n s) where
  put_th := fun x hx => pkTh_iff.mpr (pkPut_pick hx.1 hx.2)
  fnd_put := fun x hx => pkFound_put hx.1 hx.2
  put_fnd := fun ts ht => pkPut_found (pkTh_iff.mp ht)
  fnd_in := fun ts ht => pkFound_range (pkTh_iff.mp ht)
  len := fun ts ht => by
    have h := (pkTh_iff.mp ht).1
    omega
  same := fun ts us h h' => by rw [(pkTh_iff.mp h).1, (pkTh_iff.mp h').1]
theorem lsM_od {K : PySem.W.Frag} {n : Nat} (hn : n ≤ 14) : LsM (odL K n) where
  put_th := fun x _ => (odTh_iff (K := K)).mpr (orPut_ord n x)
  fnd_put := fun x hx => orF_put n x hx.1 hx.2
  put_fnd := fun ts ht => orPut_F n ts ((odTh_iff (K := K)).mp ht)
  fnd_in := fun ts ht => orF_range n ts ((odTh_iff (K := K)).mp ht)
  len := fun ts ht => by
    have h := ((odTh_iff (K := K)).mp ht).len
    omega
  same := fun ts us h h' => by rw [((odTh_iff (K := K)).mp h).len, ((odTh_iff (K := K)).mp h').len]
theorem lsM_of {K : PySem.W.Frag} {d : Kd} (G : Good d) : LsM (d.I K) := by
  rcases G.k with e | e | e | e
  · rw [I0 e]
    have := G.g0 e
    exact lsM_sw (by omega)
  · rw [I1 e]
    have := G.g1 e
    exact lsM_wh this.1 this.2
  · rw [I2 e]
    have := G.g2 e
    exact lsM_pk (by omega) (by omega)
  · rw [I3 e]
    have := G.g3 e
    exact lsM_od (by omega)
/-- a new listing -/
def gMade' (I : Lst) : V → Hp → Prop := fun v H2 => ∃ p, v = .ref p ∧ I.At H2 p
/-- what the code does of a listing -/
structure LsAll (P : Program) (w : World) (K : PySem.W.Frag) (mg : Str → Option Value) (base : Heap) (I : Lst) : Prop where
  B : LsB K I
  many : ∃ f, Meth K I.C "many" f ∧ Pr P w K mg base 3 f ["self"] (spSize I)
  thing : ∃ f, Meth K I.C "thing_at" f ∧ Pr P w K mg base 4 f ["self", "number"] (spThing (aG K "NoNumber") I)
  numb : ∃ f, Meth K I.C "number_of" f ∧ Pr P w K mg base 3 f ["self", "thing"] (spNumb K (aG K "NoThing") I)
  isl : IsL K I.C (aG K "Listing")
section
variable {P : Program} {w : World} {K : PySem.W.Frag} {mg : Str → Option Value} {base : Heap}
theorem all_sw (T : Txt K mg) {n : Nat} (hn : n ≤ 40) : LsAll P w K mg base (swL K n) where
  B := swB T n
  many := ⟨_, T.m_Switches_many, ok_many (swB T n) T.d_Switches_many T.m_Switches_size ((ok_sw_size T n hn).mono (by decide))⟩
  thing := ⟨_, T.m_Switches_thing_at, ok_thing (swB T n) T.d_Switches_thing_at T.m_Switches_asked_number (ok_asked T (swB T n) T.d_Switches_asked_number T.m_Switches_size ((ok_sw_size T n hn).mono (by decide))) T.m_Switches_put ((ok_sw_put T n hn).mono (by decide))⟩
  numb := ⟨_, T.m_Switches_number_of, ok_numb T (swB T n) T.d_Switches_number_of T.m_Switches_is_thing ((ok_sw_th T n hn).mono (by decide)) T.m_Switches_found ((ok_sw_found T n hn).mono (by decide))⟩
  isl := T.l_Switches
theorem all_wh (T : Txt K mg) {ss : List Int} (hs : Szs ss) (hl : ss.length ≤ 12) : LsAll P w K mg base (whL K ss) where
  B := whB T hs
  many := ⟨_, T.m_Wheels_many, ok_many (whB T hs) T.d_Wheels_many T.m_Wheels_size ((ok_wh_size T hs hl).mono (by decide))⟩
  thing := ⟨_, T.m_Wheels_thing_at, ok_thing (whB T hs) T.d_Wheels_thing_at T.m_Wheels_asked_number (ok_asked T (whB T hs) T.d_Wheels_asked_number T.m_Wheels_size ((ok_wh_size T hs hl).mono (by decide))) T.m_Wheels_put ((ok_wh_put T hs hl).mono (by decide))⟩
  numb := ⟨_, T.m_Wheels_number_of, ok_numb T (whB T hs) T.d_Wheels_number_of T.m_Wheels_is_thing ((ok_wh_th T hs hl).mono (by decide)) T.m_Wheels_found ((ok_wh_found T hs hl).mono (by decide))⟩
  isl := T.l_Wheels
theorem all_pk (T : Txt K mg) {n s : Nat} (hn : n ≤ 24) (hs : s ≤ n) : LsAll P w K mg base (pkL K n s) where
  B := pkB T hs
  many := ⟨_, T.m_Picks_many, ok_many (pkB T hs) T.d_Picks_many T.m_Picks_size ((ok_pk_size T hn).mono (by decide))⟩
  thing := ⟨_, T.m_Picks_thing_at, ok_thing (pkB T hs) T.d_Picks_thing_at T.m_Picks_asked_number (ok_asked T (pkB T hs) T.d_Picks_asked_number T.m_Picks_size ((ok_pk_size T hn).mono (by decide))) T.m_Picks_put ((ok_pk_put T hn).mono (by decide))⟩
  numb := ⟨_, T.m_Picks_number_of, ok_numb T (pkB T hs) T.d_Picks_number_of T.m_Picks_is_thing ((ok_pk_th T hn).mono (by decide)) T.m_Picks_found ((ok_pk_found T hn).mono (by decide))⟩
  isl := T.l_Picks
theorem all_od (T : Txt K mg) {n : Nat} (hn : n ≤ 14) : LsAll P w K mg base (odL K n) where
  B := odB T n
  many := ⟨_, T.m_Orders_many, ok_many (odB T n) T.d_Orders_many T.m_Orders_size ((ok_od_size T hn).mono (by decide))⟩
  thing := ⟨_, T.m_Orders_thing_at, ok_thing (odB T n) T.d_Orders_thing_at T.m_Orders_asked_number (ok_asked T (odB T n) T.d_Orders_asked_number T.m_Orders_size ((ok_od_size T hn).mono (by decide))) T.m_Orders_put ((ok_od_put T hn).mono (by decide))⟩
  numb := ⟨_, T.m_Orders_number_of, ok_numb T (odB T n) T.d_Orders_number_of T.m_Orders_is_thing ((ok_od_th T hn).mono (by decide)) T.m_Orders_found ((ok_od_found T hn).mono (by decide))⟩
  isl := T.l_Orders
theorem all_of (T : Txt K mg) {d : Kd} (G : Good d) : LsAll P w K mg base (d.I K) := by
  rcases G.k with e | e | e | e
  · rw [I0 e]
    have := G.g0 e
    exact all_sw T (by omega)
  · rw [I1 e]
    have := G.g1 e
    exact all_wh T this.1 this.2
  · rw [I2 e]
    have := G.g2 e
    exact all_pk T (by omega) (by omega)
  · rw [I3 e]
    have := G.g3 e
    exact all_od T (by omega)
end
section
variable {P : Program} {w : World} {K : PySem.W.Frag} {mg : Str → Option Value} {base : Heap} {σ : Stt} {H : Hp} {p a s t : Addr} {d : Kd} {te : TE} {tr : TA} {vs : List V}
theorem et_kd {j : Int} (h : σ[0]? = some (some (.int d.kind))) : EvT (tTest (tOp rEq (tVar 0) (tC (.int j)))) σ H (decide (d.kind = j)) := et_eqI (ev_var h) ev_c
/-- made[0], made[1], made[2], made[3] -/
theorem ev_made (ht : TupAt H t d) (h : Ev te σ H (.ref t)) : ∃ s, H s = some (.lst (d.sizes.map V.int)) ∧ Ev (tOp (rIxT K) te (tC (.int 0))) σ H (.int d.kind) ∧ Ev (tOp (rIxT K) te (tC (.int 1))) σ H (.int d.one) ∧ Ev (tOp (rIxT K) te (tC (.int 2))) σ H (.int d.two) ∧ Ev (tOp (rIxT K) te (tC (.int 3))) σ H (.ref s) := by
  obtain ⟨s, h1, h2⟩ := ht
  exact ⟨s, h2, ev_op h ev_c (rv_ixT (st_of h1) (atI_nat (j := 0) rfl)), ev_op h ev_c (rv_ixT (st_of h1) (atI_nat (j := 1) rfl)), ev_op h ev_c (rv_ixT (st_of h1) (atI_nat (j := 2) rfl)), ev_op h ev_c (rv_ixT (st_of h1) (atI_nat (j := 3) rfl))⟩
theorem ea_made (ht : TupAt H t d) (h : Ev te σ H (.ref t)) : ∃ s, H s = some (.lst (d.sizes.map V.int)) ∧ ∀ {tr : TA} {vs : List V}, EvA tr σ H vs → EvA (tCons (tOp (rIxT K) te (tC (.int 0))) (tCons (tOp (rIxT K) te (tC (.int 1))) (tCons (tOp (rIxT K) te (tC (.int 2))) (tCons (tOp (rIxT K) te (tC (.int 3))) tr)))) σ H (d.vs s ++ vs) := by
  obtain ⟨s, h1, a0, a1, a2, a3⟩ := ev_made (K := K) ht h
  exact ⟨s, h1, fun hr => ea_cons a0 (ea_cons a1 (ea_cons a2 (ea_cons a3 hr)))⟩
/-- isinstance(listing, Listing) -/
theorem ev_isL {I : Lst} (A : LsAll P w K mg base I) (h : Ev te σ H (.ref p)) (hp : I.At H p) : Ev (tCB (rIsi K) (tCons te (tCons (tC (.ref (aG K "Listing"))) tNil))) σ H (.bl true) := by
  obtain ⟨dx, fs, hi, _⟩ := A.B.ins hp
  obtain ⟨i1, i2, i3, i4, i5⟩ := A.isl
  exact ev_isi h ev_c (.own _) (fun H1 e => .base (.ins (e _ _ hi) A.B.cl i1 i2 i3 i4)) i5
def gMade (K : PySem.W.Frag) (I : Lst) : V → Hp → Prop := fun v H2 => ∃ p, v = .ref p ∧ I.At H2 p
def spMade (K : PySem.W.Frag) : Sp := fun vs H Q E => ∃ (d : Kd) (s : Addr), vs = d.vs s ∧ SqL K H s (d.sizes.map V.int) ∧ d.sizes.length ≤ 100 ∧ (d.kind = 0 ∨ d.kind = 1 ∨ d.kind = 2 ∨ d.kind = 3) ∧ (Good d → RetN (gMade K (d.I K)) H Q) ∧ (¬ Good d → RetE (aG K "NoListing") H E)
theorem sn_made (G : Good d) (hs : SqL K H s (d.sizes.map V.int)) (hl : d.sizes.length ≤ 100) : SpN (spMade K) (d.vs s) H (gMade K (d.I K)) := fun H1 e Q q E => ⟨d, s, rfl, ex_l e hs, hl, G.k, fun _ => q, fun n => absurd G n⟩
theorem ok_made (T : Txt K mg) : Pr P w K mg base 3 (aG K "_law_made") ["kind", "one", "two", "sizes"] (spMade K) := by
  obtain ⟨_, G_Switches, b_Switches, _⟩ := ok_sw_init (P := P) (w := w) (base := base) T
  obtain ⟨_, G_Wheels, b_Wheels, _⟩ := ok_wh_init (P := P) (w := w) (base := base) T
  obtain ⟨_, G_Picks, b_Picks, _⟩ := ok_pk_init (P := P) (w := w) (base := base) T
  obtain ⟨_, G_Orders, b_Orders, _⟩ := ok_od_init (P := P) (w := w) (base := base) T
  refine pr_mk T.d__law_made sc__law_made (fun _ _ _ _ _ _ us hl => match us, hl with | [_, _, _, _], _ => rfl) (fun vs H Q E h => ?_) (fun cdv A outer s H vs Q E hr h => ?_)
  · obtain ⟨d, s, rfl, _⟩ := h
    rfl
  · obtain ⟨d, s, rfl, hs, hl, hk, k, kE⟩ := h
    refine ⟨_, (pss_cons (ps_if (pt_cmpR op_eq (pv 0) pe_int (nomark _)) (pss_one (ps_ret (pe_make T.k_Switches G_Switches (hr.mono (by decide)) rfl T.g_Switches b_Switches .nil (L2N.passes_call (L2N.takes_of rfl rfl rfl rfl) (fun _ _ _ _ h => h)) (pa_cons (pv 1) pa_nil)))) pss_nil)
  (pss_cons (ps_if (pt_cmpR op_eq (pv 0) pe_int (nomark _)) (pss_one (ps_ret (pe_make T.k_Wheels G_Wheels (hr.mono (by decide)) rfl T.g_Wheels b_Wheels .nil (L2N.passes_call (L2N.takes_of rfl rfl rfl rfl) (fun _ _ _ _ h => h)) (pa_cons (pe_callTy (r := rListS K) call_list_of (by rfl) T.z_list boot_list (pa_cons (pv 3) pa_nil)) pa_nil)))) pss_nil)
  (pss_cons (ps_if (pt_cmpR op_eq (pv 0) pe_int (nomark _)) (pss_one (ps_ret (pe_make T.k_Picks G_Picks (hr.mono (by decide)) rfl T.g_Picks b_Picks .nil (L2N.passes_call (L2N.takes_of rfl rfl rfl rfl) (fun _ _ _ _ h => h)) (pa_cons (pv 1) (pa_cons (pv 2) pa_nil))))) pss_nil)
  (pss_one (ps_ret (pe_make T.k_Orders G_Orders (hr.mono (by decide)) rfl T.g_Orders b_Orders .nil (L2N.passes_call (L2N.takes_of rfl rfl rfl rfl) (fun _ _ _ _ h => h)) (pa_cons (pv 1) pa_nil))))))), ?_⟩
    rcases hk with e | e | e | e
    · refine q_take (et_kd rfl) (decide_eq_true e) fun H1 e1 => s_retMake (EvA.toX (ea_cons (ev_var rfl) ea_nil) fun H2 _ => in_swB (n := d.one)) (fun g => ?_) fun z => RetE.ex (kE fun g => z (g.g0 e)) e1
      have k2 := k ⟨.inl e, fun _ => g, fun z => by omega, fun z => by omega, fun z => by omega⟩
      rw [I0 e] at k2
      exact RetN.ex k2 e1
    · refine q_skip (et_kd rfl) (decide_eq_false (by omega)) fun H1 e1 => ?_
      refine q_take (et_kd rfl) (decide_eq_true e) fun H2 e2 => s_retMake (eax_consL (el_list (ev_var rfl) (ex_l (e1.trans e2) hs)) fun l H3 _ e3 h3 => eax_nil fun H4 e4 => in_whB hl (sq_of (e4 _ _ h3))) (fun g => ?_) fun z => RetE.ex (kE fun g => z (g.g1 e)) (e1.trans e2)
      have k2 := k ⟨.inr (.inl e), fun z => by omega, fun _ => g, fun z => by omega, fun z => by omega⟩
      rw [I1 e] at k2
      exact RetN.ex k2 (e1.trans e2)
    · refine q_skip (et_kd rfl) (decide_eq_false (by omega)) fun H1 e1 => ?_
      refine q_skip (et_kd rfl) (decide_eq_false (by omega)) fun H2 e2 => ?_
      refine q_take (et_kd rfl) (decide_eq_true e) fun H3 e3 => s_retMake (EvA.toX (ea_cons (ev_var rfl) (ea_cons (ev_var rfl) ea_nil)) fun H2 _ => in_pkB (n := d.one) (s := d.two)) (fun g => ?_) fun z => RetE.ex (kE fun g => z (g.g2 e)) ((e1.trans e2).trans e3)
      have k2 := k ⟨.inr (.inr (.inl e)), fun z => by omega, fun z => by omega, fun _ => g, fun z => by omega⟩
      rw [I2 e] at k2
      exact RetN.ex k2 ((e1.trans e2).trans e3)
    · refine q_skip (et_kd rfl) (decide_eq_false (by omega)) fun H1 e1 => ?_
      refine q_skip (et_kd rfl) (decide_eq_false (by omega)) fun H2 e2 => ?_
      refine q_skip (et_kd rfl) (decide_eq_false (by omega)) fun H3 e3 => s_retMake (EvA.toX (ea_cons (ev_var rfl) ea_nil) fun H2 _ => in_odB (n := d.one)) (fun g => ?_) fun z => RetE.ex (kE fun g => z (g.g3 e)) ((e1.trans e2).trans e3)
      have k2 := k ⟨.inr (.inr (.inr e)), fun z => by omega, fun z => by omega, fun z => by omega, fun _ => g⟩
      rw [I3 e] at k2
      exact RetN.ex k2 ((e1.trans e2).trans e3)
end
end Oc
namespace Oc
open PySem PySem.Spec PyProof.Rows L2 Evl L2H HotX
/-! ### which exception -/
section
variable {P : Program} {w : World} {K : PySem.W.Frag} {mg : Str → Option Value} {base : Heap} {H : Hp} {a : Addr}
theorem Txt.q (T : Txt K mg) : ∀ i, i < 6 → ExcK K i := fun i hi => match i, hi with
  | 0, _ => T.q_NoListing
  | 1, _ => T.q_NoThing
  | 2, _ => T.q_NoNumber
  | 3, _ => T.q_NoState
  | 4, _ => T.q_NoMove
  | 5, _ => T.q_TooFar
def spOther (K : PySem.W.Frag) : Addr → Value → Option Addr → Sp := fun a c d vs H Q _ => ∃ i w : Nat, i < 6 ∧ w < 6 ∧ c = .ref (excA K i) ∧ d = none ∧ vs = [.ref a, .int (w : Int)] ∧ RetV (.bl (!decide (i = w))) H Q
theorem sv_other {i w : Nat} (hi : i < 6) (hw : w < 6) : SpV (spOther K a (.ref (excA K i)) none) [.ref a, .int (w : Int)] H (.bl (!decide (i = w))) := fun H1 e Q q E => ⟨i, w, hi, hw, rfl, rfl, rfl, q⟩
theorem kinds_eq {i w : Nat} (hi : i < 6) (hw : w < 6) : decide ((List.range 6).map (fun j => decide (i = j)) = (List.range 6).map fun k : Nat => decide ((k : Int) = (w : Int))) = decide (i = w) := by
  refine decide_eq_decide.mpr ⟨fun h => ?_, fun h => ?_⟩
  · have g := congrArg (fun l : List Bool => l[i]?) h
    simp only [List.getElem?_map, List.getElem?_range hi, Option.map_some] at g
    have g2 := Option.some.inj g
    have g3 := (decide_eq_decide.mp g2).mp trivial
    omega
  · apply List.map_congr_left
    intro j _
    exact decide_eq_decide.mpr (by omega)
theorem ok_other (T : Txt K mg) : ∃ fd, FnE P w K mg base 1 (aG K "_law_other") fd ["e", "wanted"] (spOther K) ∧ Binds K fd ["e", "wanted"] [] ∧ PySem.W.keepIn K (.ref (aG K "_law_other")) = true := by
  obtain ⟨fd, F⟩ := T.d__law_other
  refine ⟨fd, ?_, F.bindsN (fun _ _ _ _ _ _ us hl => match us, hl with | [_, _], _ => rfl), F.kp⟩
  refine fnE_of F sc__law_other (fun a c d vs H Q E h => ?_) (fun cdv A outer s H vs Q E p c d hot zc hr h => ?_)
  · obtain ⟨i, w, _, _, _, _, rfl, _⟩ := h
    rfl
  · obtain ⟨i, w, hi, hw, rfl, rfl, rfl, k⟩ := h
    have hvs : ∃ vs, p.2.data = .fields vs := by
      obtain ⟨_, vs, e, _⟩ := hot
      exact ⟨vs, e⟩
    refine ⟨_, (pss_cons (ps_set (i := 2) sc__law_other.nd rfl (Or.inl rfl) (pe_lst (pa_cons (pe_callB (r := rIsE K (excA K i) p.1) (call_isEH (T.q i hi).c (List.mem_singleton.mpr rfl) zc hvs) (by rfl) T.z_isinstance boot_isinstance (pa_cons (pv 0) (pa_cons (pe_glob (v := .ref (aG K "NoListing")) rfl T.g_NoListing rfl) pa_nil))) (pa_cons (pe_callB (r := rIsE K (excA K i) p.1) (call_isEH (T.q i hi).c (List.mem_singleton.mpr rfl) zc hvs) (by rfl) T.z_isinstance boot_isinstance (pa_cons (pv 0) (pa_cons (pe_glob (v := .ref (aG K "NoThing")) rfl T.g_NoThing rfl) pa_nil))) (pa_cons (pe_callB (r := rIsE K (excA K i) p.1) (call_isEH (T.q i hi).c (List.mem_singleton.mpr rfl) zc hvs) (by rfl) T.z_isinstance boot_isinstance (pa_cons (pv 0) (pa_cons (pe_glob (v := .ref (aG K "NoNumber")) rfl T.g_NoNumber rfl) pa_nil))) (pa_cons (pe_callB (r := rIsE K (excA K i) p.1) (call_isEH (T.q i hi).c (List.mem_singleton.mpr rfl) zc hvs) (by rfl) T.z_isinstance boot_isinstance (pa_cons (pv 0) (pa_cons (pe_glob (v := .ref (aG K "NoState")) rfl T.g_NoState rfl) pa_nil))) pa_nil))))))
  (pss_cons (ps_set (i := 2) sc__law_other.nd rfl (Or.inl rfl) (pe_op op_cat (pv 2) (pe_lst (pa_cons (pe_callB (r := rIsE K (excA K i) p.1) (call_isEH (T.q i hi).c (List.mem_singleton.mpr rfl) zc hvs) (by rfl) T.z_isinstance boot_isinstance (pa_cons (pv 0) (pa_cons (pe_glob (v := .ref (aG K "NoMove")) rfl T.g_NoMove rfl) pa_nil))) (pa_cons (pe_callB (r := rIsE K (excA K i) p.1) (call_isEH (T.q i hi).c (List.mem_singleton.mpr rfl) zc hvs) (by rfl) T.z_isinstance boot_isinstance (pa_cons (pv 0) (pa_cons (pe_glob (v := .ref (aG K "TooFar")) rfl T.g_TooFar rfl) pa_nil))) pa_nil)))))
  (pss_one (ps_ret (pe_or (pe_cmpR (r := rNeD K) (op_neD (roomH_units hr)) (pv 2) (pe_lcH (own := [("k", 3)]) hot (List.mem_singleton.mpr rfl) sc__law_other.nd (pi_range1H rfl T.z_range (pa_cons pe_int pa_nil)) (blkOk_by (own := [("k", 3)]) (N := ["e", "wanted", "kinds", "k"]) (sc := defScope s__law_other) (by decide +kernel)) (fun _ _ _ _ _ => (pg_name (i := 3) sc__law_other.nd rfl (Or.inl rfl))) (fun _ _ _ _ _ => pts_nil) (fun _ _ _ _ _ => (pe_cmpR op_eq (pv 3) (pv 1) (nomark _)))) (nomark _)) (pe_one (pe_not (pe_callB (r := rIsE K (excA K i) p.1) (call_isEH (T.q i hi).c (List.mem_singleton.mpr rfl) zc hvs) (by rfl) T.z_isinstance boot_isinstance (pa_cons (pv 0) (pa_cons (pe_bltn (v := .ty "ValueError") rfl T.z_ValueError (by decide +kernel) rfl) pa_nil)))))))))), ?_⟩
    have q := T.q i hi
    have is : ∀ (j : Nat), j < 6 → ∀ {te : TE} {σ : Stt} {H1 : Hp}, Ev te σ H1 (.ref p.1) → Ev (tCB (rIsE K (excA K i) p.1) (tCons te (tCons (tC (.ref (excA K j))) tNil))) σ H1 (.bl (decide (i = j))) := fun j hj {te σ H1} h => ev_isE h ev_c (fun u h => h) (q.kit j hj)
    refine q_asgL (el_lst (ea_cons (is 0 (by decide) (ev_var rfl)) (ea_cons (is 1 (by decide) (ev_var rfl)) (ea_cons (is 2 (by decide) (ev_var rfl)) (ea_cons (is 3 (by decide) (ev_var rfl)) ea_nil)))) (by show 4 ≤ 100000; decide)) fun r H1 _ e1 h1 => ?_
    refine q_asgL (xs := ((List.range 6).map fun j => decide (i = j)).map V.bl) (EvL.is (el_catV (ev_var rfl) h1 (el_lst (ea_cons (is 4 (by decide) (ev_var rfl)) (ea_cons (is 5 (by decide) (ev_var rfl)) ea_nil)) (by show 2 ≤ 100000; decide)) (by show 4 + 2 ≤ 100000; decide)) rfl) fun r2 H2 _ e2 h2 => ?_
    refine s_retv (ev_is (ev_orV (ev_opL (ev_var rfl) (EvL.is (el_mapR (n := 6) (fun k : Nat => V.bl (decide ((k : Int) = (w : Int)))) (ea_cons ev_c ea_nil) ⟨by decide, by decide⟩ (fun x => rfl) fun j H3 e3 hj => ev_eqI (ev_var rfl) (ev_var rfl)) (show _ = ((List.range 6).map fun k : Nat => decide ((k : Int) = (w : Int))).map V.bl by rw [List.map_map]; rfl)) fun u H3 hu e3 => rv_neB (sq_of (e3 _ _ h2)) (sq_of hu)) fun _ => ev_notV (ev_isE (ev_var rfl) ev_c (fun u h => h) q.ve)) ?_) (RetV.ex k (e1.trans e2))
    rw [kinds_eq hi hw]
    simp
end
end Oc
namespace Oc
open PySem PySem.Spec PyProof.Rows L2 Evl L2H HotX
/-! ### readings -/
section
variable {K : PySem.W.Frag} {σ : Stt} {H : Hp} {ta tb tc te : TE} {D : Ends}
/-- a <= b <= c, as a value -/
theorem ev_chain {r r' : R2} {x y z : V} {b b' : Bool} (ha : Ev ta σ H x) (hb : Ev tb σ H y) (hc : Ev tc σ H z) (h1 : RV r x y H (.bl b)) (h2 : RV r' y z H (.bl b')) : Ev (tChain r r' ta tb tc) σ H (.bl (b && b')) := fun H1 e Q q =>
  ha H1 e _ fun H2 e2 => hb H2 (e.trans e2) _ fun H3 e3 => h1 H3 ((e.trans e2).trans e3) _ fun H4 e4 => ⟨b, rfl, by
    cases b with
    | false => exact q H4 ((e2.trans e3).trans e4)
    | true =>
      have e' := (e.trans e2).trans (e3.trans e4)
      exact hc H4 e' _ fun H5 e5 => h2 H5 (e'.trans e5) _ fun H6 e6 => q H6 ((e2.trans (e3.trans e4)).trans (e5.trans e6))⟩
/-- x = f(..), f may raise, within try -/
theorem s_asgC {sp : Sp} {E : Stt → XK} {tl : TA} {vs : List V} {i : Nat} (h : EvA tl σ H vs) (k : ∀ H1, Ex H H1 → sp vs H1 (fun v H2 => D.nx (σ.set i (some v)) H2) (E σ)) : tAsg (tCallS sp E tl) (gName i) D σ H := h H (Ex.refl H) _ fun H1 e => k H1 e
/-- return f(..), f may raise -/
theorem s_retC {sp : Sp} {E : XK} {tl : TA} {vs : List V} (h : EvA tl σ H vs) (k : ∀ H1, Ex H H1 → sp (vs ++ []) H1 D.rt E) : tRet (tCall sp [] E tl) D σ H := h H (Ex.refl H) _ fun H1 e => k H1 e
end
theorem four {i : Int} (h : 0 ≤ i ∧ i < 4) {x y z u : V} : atI [x, y, z, u] i = some ([x, y, z, u].getD i.toNat .non) := by
  obtain ⟨j, rfl⟩ : ∃ j : Nat, i = (j : Int) := ⟨i.toNat, by omega⟩
  have hj : j < 4 := by omega
  refine atI_nat ?_
  match j, hj with
  | 0, _ => rfl
  | 1, _ => rfl
  | 2, _ => rfl
  | 3, _ => rfl
/-! ### in the bounds? -/
def goodB (d : Kd) : Bool := if d.kind = 0 then decide (0 ≤ d.one) && decide (d.one ≤ 40) else if d.kind = 1 then decide ((d.sizes.length : Int) ≤ 12) && d.sizes.all (fun z => !!(decide (1 ≤ z) && decide (z ≤ 9)))
  else if d.kind = 2 then (decide (0 ≤ d.one) && decide (d.one ≤ 24)) && (decide (0 ≤ d.two) && decide (d.two ≤ d.one)) else decide (0 ≤ d.one) && decide (d.one ≤ 14)
abbrev K4 (d : Kd) : Prop := d.kind = 0 ∨ d.kind = 1 ∨ d.kind = 2 ∨ d.kind = 3
theorem goodB0 {d : Kd} (e : d.kind = 0) : goodB d = (decide (0 ≤ d.one) && decide (d.one ≤ 40)) := if_pos e
theorem goodB1 {d : Kd} (e : d.kind = 1) : goodB d = (decide ((d.sizes.length : Int) ≤ 12) && d.sizes.all (fun z => !!(decide (1 ≤ z) && decide (z ≤ 9)))) := by
  unfold goodB
  rw [if_neg (by omega), if_pos e]
theorem goodB2 {d : Kd} (e : d.kind = 2) : goodB d = ((decide (0 ≤ d.one) && decide (d.one ≤ 24)) && (decide (0 ≤ d.two) && decide (d.two ≤ d.one))) := by
  unfold goodB
  rw [if_neg (by omega), if_neg (by omega), if_pos e]
theorem goodB3 {d : Kd} (e : d.kind = 3) : goodB d = (decide (0 ≤ d.one) && decide (d.one ≤ 14)) := by
  unfold goodB
  rw [if_neg (by omega), if_neg (by omega), if_neg (by omega)]
theorem goodB_iff {d : Kd} (h : K4 d) : goodB d = true ↔ Good d := by
  rcases h with e | e | e | e
  · rw [goodB0 e]
    simp only [Bool.and_eq_true, decide_eq_true_eq]
    exact ⟨fun h => ⟨.inl e, fun _ => h, fun z => by omega, fun z => by omega, fun z => by omega⟩, fun g => g.g0 e⟩
  · rw [goodB1 e]
    simp only [Bool.and_eq_true, decide_eq_true_eq, Bool.not_not, List.all_eq_true]
    exact ⟨fun h => ⟨.inr (.inl e), fun z => by omega, fun _ => ⟨h.2, by omega⟩, fun z => by omega, fun z => by omega⟩, fun g => ⟨by have := (g.g1 e).2; omega, (g.g1 e).1⟩⟩
  · rw [goodB2 e]
    simp only [Bool.and_eq_true, decide_eq_true_eq]
    exact ⟨fun h => ⟨.inr (.inr (.inl e)), fun z => by omega, fun z => by omega, fun _ => ⟨h.1.1, h.1.2, h.2.1, h.2.2⟩, fun z => by omega⟩, fun g => by have := g.g2 e; omega⟩
  · rw [goodB3 e]
    simp only [Bool.and_eq_true, decide_eq_true_eq]
    exact ⟨fun h => ⟨.inr (.inr (.inr e)), fun z => by omega, fun z => by omega, fun z => by omega, fun _ => h⟩, fun g => g.g3 e⟩
theorem goodB_no {d : Kd} (h : K4 d) (n : ¬ Good d) : goodB d = false := by
  cases e : goodB d with
  | false => rfl
  | true => exact absurd ((goodB_iff h).mp e) n
/-! ### a number far or near -/
def farOf (c low wide : Int) : Int := if c % 7 = 3 then (if c / 7 % 2 = 0 then 10 ^ (30 : Int).toNat - 1 else 1 - 10 ^ (30 : Int).toNat) else low + c / 7 % wide
theorem far_at {c low wide : Int} (h : c % 7 = 3) : atI [V.int (10 ^ (30 : Int).toNat - 1), .int (1 - 10 ^ (30 : Int).toNat)] (c / 7 % 2) = some (.int (farOf c low wide)) := by
  unfold farOf
  rw [if_pos h]
  generalize (10 : Int) ^ (30 : Int).toNat = t
  rcases (by omega : c / 7 % 2 = 0 ∨ c / 7 % 2 = 1) with z | z
  · rw [if_pos z, z]
    exact atI_nat (j := 0) rfl
  · rw [if_neg (by omega), z]
    exact atI_nat (j := 1) rfl
section
variable {P : Program} {w : World} {K : PySem.W.Frag} {mg : Str → Option Value} {base : Heap} {σ : Stt} {H : Hp} {s a : Addr} {d : Kd}
def spFar : Sp := fun vs H Q _ => ∃ c low wide : Int, vs = [.int c, .int low, .int wide] ∧ 0 < wide ∧ RetV (.int (farOf c low wide)) H Q
theorem sv_far {c low wide : Int} (h : 0 < wide) : SpV spFar [.int c, .int low, .int wide] H (.int (farOf c low wide)) := fun H1 e Q q E => ⟨c, low, wide, rfl, h, q⟩
theorem ok_far (T : Txt K mg) : Pr P w K mg base 1 (aG K "_law_far") ["cell", "low", "wide"] spFar := by
  refine pr_mk0 T.d__law_far sc__law_far (fun _ _ _ _ _ _ us hl => match us, hl with | [_, _, _], _ => rfl) (fun vs H Q E h => ?_) (fun cdv A outer s H vs Q E hr h => ?_)
  · obtain ⟨c, low, wide, rfl, _⟩ := h
    rfl
  · obtain ⟨c, low, wide, rfl, hw, k⟩ := h
    refine ⟨_, (pss_cons (ps_if (pt_cmpR op_eq (pe_op op_mod (pv 0) pe_int) pe_int (nomark _)) (pss_one (ps_ret (pe_ix (r := rIxL K) ix_list (pe_lst (pa_cons (pe_op op_sub (pe_op op_pow pe_int pe_int) pe_int) (pa_cons (pe_op op_sub pe_int (pe_op op_pow pe_int pe_int)) pa_nil))) (pe_op op_mod (pe_op op_fdiv (pv 0) pe_int) pe_int) (fun _ _ => rfl)))) pss_nil)
  (pss_one (ps_ret (pe_op op_add (pv 1) (pe_op op_mod (pe_op op_fdiv (pv 0) pe_int) (pv 2)))))), ?_⟩
    refine q_when (et_eqI (ev_op (ev_var rfl) ev_c (rv_I (by decide))) ev_c) (fun hb H1 e1 => ?_) fun hb H1 e1 => ?_
    · have pw : ∀ {σ : Stt} {H8 : Hp}, Ev (tOp (rI CPow fun i j => .int (i ^ j.toNat)) (tC (.int 10)) (tC (.int 30))) σ H8 (.int (10 ^ (30 : Int).toNat)) := ev_op ev_c ev_c (rv_I ⟨by decide, by decide, by decide⟩)
      exact s_retv (v := .int (farOf c low wide)) (ev_opL1 (el_lst (ea_cons (ev_op pw ev_c rv_I0) (ea_cons (ev_op ev_c pw rv_I0) ea_nil)) (by show 2 ≤ 100000; decide)) (fun H2 e2 => ev_op (ev_op (ev_var rfl) ev_c (rv_I ⟨by decide, by decide⟩)) ev_c (rv_I (by decide))) fun q H2 hq e2 => rv_ixL (sq_of hq) (far_at (of_decide_eq_true hb))) (RetV.ex k e1)
    · refine s_retv (v := .int (farOf c low wide)) (ev_is (ev_op (ev_var rfl) (ev_op (ev_op (ev_var rfl) ev_c (rv_I ⟨by decide, by decide⟩)) (ev_var rfl) (rv_I hw)) rv_I0) ?_) (RetV.ex k e1)
      unfold farOf
      rw [if_neg (of_decide_eq_false hb)]
def spGood (K : PySem.W.Frag) : Sp := fun vs H Q _ => ∃ (d : Kd) (s : Addr), vs = d.vs s ∧ SqL K H s (d.sizes.map V.int) ∧ d.sizes.length ≤ 100 ∧ K4 d ∧ RetV (.bl (goodB d)) H Q
def spGoodE (K : PySem.W.Frag) : Addr → Value → Option Addr → Sp := fun _ _ _ => spGood K
theorem sv_good (hs : SqL K H s (d.sizes.map V.int)) (hl : d.sizes.length ≤ 100) (h4 : K4 d) : SpV (spGood K) (d.vs s) H (.bl (goodB d)) := fun H1 e Q q E => ⟨d, s, rfl, ex_l e hs, hl, h4, q⟩
theorem ok_good (T : Txt K mg) : Pr P w K mg base 1 (aG K "_law_good") ["kind", "one", "two", "sizes"] (spGood K) := by
  refine pr_mk0 T.d__law_good sc__law_good (fun _ _ _ _ _ _ us hl => match us, hl with | [_, _, _, _], _ => rfl) (fun vs H Q E h => ?_) (fun cdv A outer s H vs Q E hr h => ?_)
  · obtain ⟨d, s, rfl, _⟩ := h
    rfl
  · obtain ⟨d, s, rfl, hs, hl, h4, k⟩ := h
    refine ⟨_, (pss_cons (ps_if (pt_cmpR op_eq (pv 0) pe_int (nomark _)) (pss_one (ps_ret (pe_chain op_le op_le pe_int (pv 1) pe_int))) pss_nil)
  (pss_cons (ps_if (pt_cmpR op_eq (pv 0) pe_int (nomark _)) (pss_one (ps_ret (pe_and (pe_cmpR op_le (pe_callB (r := rLenS K) call_len_seq (by rfl) T.z_len PySem.boot_len (pa_cons (pv 3) pa_nil)) pe_int (nomark _)) (pe_one (pe_cmpR op_eq (pe_callB (r := rLenS K) call_len_seq (by rfl) T.z_len PySem.boot_len (pa_cons (pe_lc (own := [("size", 4)]) rfl sc__law_good.nd (pi_list (pv 3)) (blkOk_by (own := [("size", 4)]) (N := ["kind", "one", "two", "sizes", "size"]) (sc := defScope s__law_good) (by decide +kernel)) (fun _ _ _ _ _ => (pg_name (i := 4) sc__law_good.nd rfl (Or.inl rfl))) (fun _ _ _ _ _ => (pts_one (pt_not (pt_chain op_le op_le pe_int (pv 4) pe_int)))) (fun _ _ _ _ _ => (pv 4))) pa_nil)) pe_int (nomark _)))))) pss_nil)
  (pss_cons (ps_if (pt_cmpR op_eq (pv 0) pe_int (nomark _)) (pss_one (ps_ret (pe_and (pe_chain op_le op_le pe_int (pv 1) pe_int) (pe_one (pe_chain op_le op_le pe_int (pv 2) (pv 1)))))) pss_nil)
  (pss_one (ps_ret (pe_chain op_le op_le pe_int (pv 1) pe_int)))))), ?_⟩
    rcases h4 with e | e | e | e
    · rw [goodB0 e] at k
      exact q_take (et_kd rfl) (decide_eq_true e) fun H1 e1 => s_retv (ev_chain ev_c (ev_var rfl) ev_c rv_I0 rv_I0) (RetV.ex k e1)
    · rw [goodB1 e] at k
      refine q_skip (et_kd rfl) (decide_eq_false (by omega)) fun H1 e1 => q_take (et_kd rfl) (decide_eq_true e) fun H2 e2 => ?_
      have hs2 := ex_l (e1.trans e2) hs
      refine s_retv (ev_is (ev_andV (ev_op (ev_len (ev_var rfl) hs2) ev_c rv_I0) fun _ => ev_eqI (ev_lenN (el_filt (fun v => !(decide (1 ≤ v) && decide (v ≤ 9))) (ev_var rfl) hs2 (by omega) (fun x => rfl) (fun z H2 e2 => et_not (et_chain ev_c (ev_var rfl) ev_c rv_I0 rv_I0)) (fun z H2 e2 => ev_var rfl))) ev_c) ?_) (RetV.ex k (e1.trans e2))
      rw [none_left, List.length_map]
    · rw [goodB2 e] at k
      exact q_skip (et_kd rfl) (decide_eq_false (by omega)) fun H1 e1 => q_skip (et_kd rfl) (decide_eq_false (by omega)) fun H2 e2 => q_take (et_kd rfl) (decide_eq_true e) fun H3 e3 => s_retv (ev_andV (ev_chain ev_c (ev_var rfl) ev_c rv_I0 rv_I0) fun _ => ev_chain ev_c (ev_var rfl) (ev_var rfl) rv_I0 rv_I0) (RetV.ex k ((e1.trans e2).trans e3))
    · rw [goodB3 e] at k
      exact q_skip (et_kd rfl) (decide_eq_false (by omega)) fun H1 e1 => q_skip (et_kd rfl) (decide_eq_false (by omega)) fun H2 e2 => q_skip (et_kd rfl) (decide_eq_false (by omega)) fun H3 e3 => s_retv (ev_chain ev_c (ev_var rfl) ev_c rv_I0 rv_I0) (RetV.ex k ((e1.trans e2).trans e3))
/-- .. within the except suite -/
theorem ok_goodE (T : Txt K mg) : ∃ fd, FnE P w K mg base 1 (aG K "_law_good") fd ["kind", "one", "two", "sizes"] (spGoodE K) ∧ Binds K fd ["kind", "one", "two", "sizes"] [] ∧ PySem.W.keepIn K (.ref (aG K "_law_good")) = true := by
  obtain ⟨fd, F⟩ := T.d__law_good
  refine ⟨fd, ?_, F.bindsN (fun _ _ _ _ _ _ us hl => match us, hl with | [_, _, _, _], _ => rfl), F.kp⟩
  refine fnE_of F sc__law_good (fun a c d vs H Q E h => ?_) (fun cdv A outer s H vs Q E p c d' hot zc hr h => ?_)
  · obtain ⟨d, s, rfl, _⟩ := h
    rfl
  · obtain ⟨d, s, rfl, hs, hl, h4, k⟩ := h
    refine ⟨_, (pss_cons (ps_if (pt_cmpR op_eq (pv 0) pe_int (nomark _)) (pss_one (ps_ret (pe_chain op_le op_le pe_int (pv 1) pe_int))) pss_nil)
  (pss_cons (ps_if (pt_cmpR op_eq (pv 0) pe_int (nomark _)) (pss_one (ps_ret (pe_and (pe_cmpR op_le (pe_callB (r := rLenS K) call_len_seq (by rfl) T.z_len PySem.boot_len (pa_cons (pv 3) pa_nil)) pe_int (nomark _)) (pe_one (pe_cmpR op_eq (pe_callB (r := rLenS K) call_len_seq (by rfl) T.z_len PySem.boot_len (pa_cons (pe_lcH (own := [("size", 4)]) hot (List.mem_singleton.mpr rfl) sc__law_good.nd (pi_listH (pv 3)) (blkOk_by (own := [("size", 4)]) (N := ["kind", "one", "two", "sizes", "size"]) (sc := defScope s__law_good) (by decide +kernel)) (fun _ _ _ _ _ => (pg_name (i := 4) sc__law_good.nd rfl (Or.inl rfl))) (fun _ _ _ _ _ => (pts_one (pt_not (pt_chain op_le op_le pe_int (pv 4) pe_int)))) (fun _ _ _ _ _ => (pv 4))) pa_nil)) pe_int (nomark _)))))) pss_nil)
  (pss_cons (ps_if (pt_cmpR op_eq (pv 0) pe_int (nomark _)) (pss_one (ps_ret (pe_and (pe_chain op_le op_le pe_int (pv 1) pe_int) (pe_one (pe_chain op_le op_le pe_int (pv 2) (pv 1)))))) pss_nil)
  (pss_one (ps_ret (pe_chain op_le op_le pe_int (pv 1) pe_int)))))), ?_⟩
    rcases h4 with e | e | e | e
    · rw [goodB0 e] at k
      exact q_take (et_kd rfl) (decide_eq_true e) fun H1 e1 => s_retv (ev_chain ev_c (ev_var rfl) ev_c rv_I0 rv_I0) (RetV.ex k e1)
    · rw [goodB1 e] at k
      refine q_skip (et_kd rfl) (decide_eq_false (by omega)) fun H1 e1 => q_take (et_kd rfl) (decide_eq_true e) fun H2 e2 => ?_
      have hs2 := ex_l (e1.trans e2) hs
      refine s_retv (ev_is (ev_andV (ev_op (ev_len (ev_var rfl) hs2) ev_c rv_I0) fun _ => ev_eqI (ev_lenN (el_filt (fun v => !(decide (1 ≤ v) && decide (v ≤ 9))) (ev_var rfl) hs2 (by omega) (fun x => rfl) (fun z H2 e2 => et_not (et_chain ev_c (ev_var rfl) ev_c rv_I0 rv_I0)) (fun z H2 e2 => ev_var rfl))) ev_c) ?_) (RetV.ex k (e1.trans e2))
      rw [none_left, List.length_map]
    · rw [goodB2 e] at k
      exact q_skip (et_kd rfl) (decide_eq_false (by omega)) fun H1 e1 => q_skip (et_kd rfl) (decide_eq_false (by omega)) fun H2 e2 => q_take (et_kd rfl) (decide_eq_true e) fun H3 e3 => s_retv (ev_andV (ev_chain ev_c (ev_var rfl) ev_c rv_I0 rv_I0) fun _ => ev_chain ev_c (ev_var rfl) (ev_var rfl) rv_I0 rv_I0) (RetV.ex k ((e1.trans e2).trans e3))
    · rw [goodB3 e] at k
      exact q_skip (et_kd rfl) (decide_eq_false (by omega)) fun H1 e1 => q_skip (et_kd rfl) (decide_eq_false (by omega)) fun H2 e2 => q_skip (et_kd rfl) (decide_eq_false (by omega)) fun H3 e3 => s_retv (ev_chain ev_c (ev_var rfl) ev_c rv_I0 rv_I0) (RetV.ex k ((e1.trans e2).trans e3))
/-! ### a new listing, its sizes its own -/
theorem in_whF {H0 : Hp} (e0 : Ex H0 H) {ss : List Int} (hl : ss.length ≤ 100) (ha : SqL K H a (ss.map V.int)) :
    InitB (aG K "Wheels") (spWhI K) [.ref a] H (fun v H2 => ∃ q dx l, v = .ref q ∧ H2 q = some (.ins (aG K "Wheels") dx (whF l)) ∧ H2 l = some (.lst (ss.map V.int)) ∧ H0 l = none) (Szs ss ∧ ss.length ≤ 12) (aG K "NoListing") := fun H1 e1 x dx hx hd ne Q E k kE =>
  ⟨x, dx, a, ss, rfl, upd_same, ex_l (e1.trans (ex_made hx hd)) ha, hl, fun hs H2 l kp h2 h3 hn => k hs H2 (fun b o h => kp b o (ne_of_none h hx) (ex_made hx hd b o h)) ⟨x, dx, l, rfl, h2, h3, fresh_back (e0.trans (e1.trans (ex_made hx hd))) hn⟩, fun z H2 e2 => kE z H2 ((ex_made hx hd).trans e2)⟩
def gNew (K : PySem.W.Frag) (H0 : Hp) (d : Kd) : V → Hp → Prop := fun v H2 => ∃ p, v = .ref p ∧ H0 p = none ∧ (d.I K).At H2 p ∧ (d.kind = 1 → ∃ dx l, H2 p = some (.ins (aG K "Wheels") dx (whF l)) ∧ H2 l = some (.lst (d.sizes.map V.int)) ∧ H0 l = none)
def spNew (K : PySem.W.Frag) : Sp := fun vs H Q E => ∃ (d : Kd) (s : Addr), vs = d.vs s ∧ SqL K H s (d.sizes.map V.int) ∧ d.sizes.length ≤ 100 ∧ K4 d ∧ (Good d → RetX (gNew K H d) H Q) ∧ (¬ Good d → RetE (aG K "NoListing") H E)
theorem ok_new (T : Txt K mg) : Pr P w K mg base 4 (aG K "_law_new") ["kind", "one", "two", "sizes"] (spNew K) := by
  obtain ⟨_, G_Wheels, b_Wheels, _⟩ := ok_wh_init (P := P) (w := w) (base := base) T
  obtain ⟨_, G__law_made, b__law_made, kp__law_made⟩ := ok_made (P := P) (w := w) (base := base) T
  refine pr_mk T.d__law_new sc__law_new (fun _ _ _ _ _ _ us hl => match us, hl with | [_, _, _, _], _ => rfl) (fun vs H Q E h => ?_) (fun cdv A outer s H vs Q E hr h => ?_)
  · obtain ⟨d, s, rfl, _⟩ := h
    rfl
  · obtain ⟨d, s, rfl, hs, hl, hk, k, kE⟩ := h
    refine ⟨_, (pss_cons (ps_if (pt_cmpR op_eq (pv 0) pe_int (nomark _)) (pss_one (ps_ret (pe_make T.k_Wheels G_Wheels (hr.mono (by decide)) rfl T.g_Wheels b_Wheels .nil (L2N.passes_call (L2N.takes_of rfl rfl rfl rfl) (fun _ _ _ _ h => h)) (pa_cons (pv 3) pa_nil)))) pss_nil)
  (pss_one (ps_ret (pe_call G__law_made (hr.mono (by decide)) rfl T.g__law_made kp__law_made b__law_made .nil (L2N.passes_call (L2N.takes_of rfl rfl rfl rfl) (fun _ _ _ _ h => h)) (pa_cons (pv 0) (pa_cons (pv 1) (pa_cons (pv 2) (pa_cons (pv 3) pa_nil)))))))), ?_⟩
    refine q_when (et_kd rfl) (fun hb H1 e1 => ?_) fun hb H1 e1 => ?_
    · have hb := of_decide_eq_true hb
      refine s_retMake (EvA.toX (ea_cons (ev_var rfl) ea_nil) fun H2 e2 => in_whF (H0 := H) (e1.trans e2) hl (ex_l (e1.trans e2) hs)) (fun g v H2 e2 fv w => ?_) fun z => RetE.ex (kE fun g => z (g.g1 hb)) e1
      obtain ⟨q, dx, l, rfl, h1, h2, h3⟩ := w
      refine k ⟨.inr (.inl hb), fun z => by omega, fun _ => g, fun z => by omega, fun z => by omega⟩ _ _ (e1.trans e2) ⟨q, rfl, fresh_back e1 (fv q rfl), ?_, fun _ => ⟨dx, l, h1, h2, h3⟩⟩
      rw [I1 hb]
      exact ⟨dx, l, h1, h2⟩
    · have hb := of_decide_eq_false hb
      refine s_retC (ea_cons (ev_var rfl) (ea_cons (ev_var rfl) (ea_cons (ev_var rfl) (ea_cons (ev_var rfl) ea_nil)))) fun H2 e2 => ⟨d, s, rfl, ex_l (e1.trans e2) hs, hl, hk, fun g v H3 e3 fv w => ?_, fun z => RetE.ex (kE z) (e1.trans e2)⟩
      obtain ⟨p, rfl, hp⟩ := w
      exact k g _ _ ((e1.trans e2).trans e3) ⟨p, rfl, fresh_back (e1.trans e2) (fv p rfl), hp, fun z => absurd z hb⟩
/-! ### the law -/
def sizes0 (ns : List Int) : List Int := (List.range (cell ns 1 % 15).toNat).map fun k : Nat => 1 + cell ns (3 + (k : Int)) % 9
theorem sizes0_len (ns : List Int) : (sizes0 ns).length ≤ 14 := by
  unfold sizes0
  rw [List.length_map, List.length_range]
  omega
def lawSz (ns : List Int) : List Int := if (decide (((sizes0 ns).length : Int) > 0) && decide (cell ns 2 % 2 = 1)) = true then (sizes0 ns).set (cell ns 20 % ((sizes0 ns).length : Int)).toNat (farOf (cell ns 21) (-1) 13) else sizes0 ns
theorem lawSz_len (ns : List Int) : (lawSz ns).length ≤ 100 := by
  have h := sizes0_len ns
  unfold lawSz
  split
  · rw [List.length_set]
    omega
  · omega
def bound4 (ns : List Int) : Int := ([46, 1, 30, 20] : List Int).getD (cell ns 0 % 4).toNat 1
theorem bound4_at (ns : List Int) : atI [V.int 46, .int 1, .int 30, .int 20] (cell ns 0 % 4) = some (.int (bound4 ns)) ∧ 0 < bound4 ns := by
  unfold bound4
  rw [four (by omega)]
  have h : cell ns 0 % 4 = 0 ∨ cell ns 0 % 4 = 1 ∨ cell ns 0 % 4 = 2 ∨ cell ns 0 % 4 = 3 := by omega
  rcases h with e | e | e | e <;> rw [e] <;> exact ⟨rfl, by decide⟩
def lawD (ns : List Int) : Kd := ⟨cell ns 0 % 4, farOf (cell ns 1) (-2) (bound4 ns), farOf (cell ns 2) (-2) 32, lawSz ns⟩
theorem ok_law {f : Addr} {fd : FuncData} (T : Txt K mg) (F : FunD K "law" "law" (defArgs s_law) (defBody s_law) (defScope s_law) [] [] f fd) : FnOk P w K mg base (L2N.CX P w) 6 f fd ["script"] (spLaw K) := by
  obtain ⟨_, G__law_cell_at, b__law_cell_at, kp__law_cell_at⟩ := ok_cell (P := P) (w := w) (base := base) T
  obtain ⟨_, G__law_far, b__law_far, kp__law_far⟩ := ok_far (P := P) (w := w) (base := base) T
  obtain ⟨_, G__law_good, b__law_good, kp__law_good⟩ := ok_good (P := P) (w := w) (base := base) T
  obtain ⟨_, G__law_good_h, b__law_good_h, kp__law_good_h⟩ := ok_goodE (P := P) (w := w) (base := base) T
  obtain ⟨_, G__law_other_h, b__law_other_h, kp__law_other_h⟩ := ok_other (P := P) (w := w) (base := base) T
  obtain ⟨_, G__law_new, b__law_new, kp__law_new⟩ := ok_new (P := P) (w := w) (base := base) T
  refine F.ok sc_law (fun vs H Q E h => ?_) (fun cdv A outer s H vs Q E hr h => ?_)
  · obtain ⟨a, ns, rfl, _⟩ := h
    rfl
  · obtain ⟨a, ns, rfl, hS, hl, k⟩ := h
    have h4 : K4 (lawD ns) := by
      show cell ns 0 % 4 = 0 ∨ cell ns 0 % 4 = 1 ∨ cell ns 0 % 4 = 2 ∨ cell ns 0 % 4 = 3
      omega
    have hz : (lawD ns).sizes.length ≤ 100 := lawSz_len ns
    obtain ⟨I, AL, M, hI⟩ : ∃ I : Lst, LsAll P w K mg base I ∧ LsM I ∧ (Good (lawD ns) → (lawD ns).I K = I) := by
      by_cases g : Good (lawD ns)
      · exact ⟨_, all_of T g, lsM_of g, fun _ => rfl⟩
      · exact ⟨_, all_sw T (n := 0) (by decide), lsM_sw (K := K) (n := 0) (by decide), fun z => absurd z g⟩
    have B := AL.B
    have c_L := B.cl
    have hN := B.pos
    obtain ⟨_, M_many, _, G_many, b_many, _⟩ := AL.many
    obtain ⟨_, M_thing_at, _, G_thing_at, b_thing_at, _⟩ := AL.thing
    obtain ⟨_, M_number_of, _, G_number_of, b_number_of, _⟩ := AL.numb
    refine ⟨_, (pss_cons (ps_set (i := 1) sc_law.nd rfl (Or.inl rfl) (pe_op op_mod (pe_call G__law_cell_at (hr.mono (by decide)) rfl T.g__law_cell_at kp__law_cell_at b__law_cell_at .nil passLN (pa_cons (pv 0) (pa_cons pe_int pa_nil))) pe_int))
  (pss_cons (ps_set (i := 2) sc_law.nd rfl (Or.inl rfl) (pe_call G__law_far (hr.mono (by decide)) rfl T.g__law_far kp__law_far b__law_far .nil passLN (pa_cons (pe_call G__law_cell_at (hr.mono (by decide)) rfl T.g__law_cell_at kp__law_cell_at b__law_cell_at .nil passLN (pa_cons (pv 0) (pa_cons pe_int pa_nil))) (pa_cons (pe_un un_neg pe_int) (pa_cons (pe_ix (r := rIxL K) ix_list (pe_lst (pa_cons pe_int (pa_cons pe_int (pa_cons pe_int (pa_cons pe_int pa_nil))))) (pv 1) (fun _ _ => rfl)) pa_nil)))))
  (pss_cons (ps_set (i := 3) sc_law.nd rfl (Or.inl rfl) (pe_call G__law_far (hr.mono (by decide)) rfl T.g__law_far kp__law_far b__law_far .nil passLN (pa_cons (pe_call G__law_cell_at (hr.mono (by decide)) rfl T.g__law_cell_at kp__law_cell_at b__law_cell_at .nil passLN (pa_cons (pv 0) (pa_cons pe_int pa_nil))) (pa_cons (pe_un un_neg pe_int) (pa_cons pe_int pa_nil)))))
  (pss_cons (ps_setLc (i := 4) (own := [("k", 5)]) rfl sc_law.nd rfl rfl (sw_true rfl rfl rfl (by decide +kernel)) (pi_range1 rfl T.z_range (pa_cons (pe_op op_mod (pe_call G__law_cell_at (hr.mono (by decide)) rfl T.g__law_cell_at kp__law_cell_at b__law_cell_at .nil passLN (pa_cons (pv 0) (pa_cons pe_int pa_nil))) pe_int) pa_nil)) (blkOk_by (own := [("k", 5)]) (N := ["script", "kind", "one", "two", "sizes", "k", "handed", "listing", "e", "many", "last"]) (sc := defScope s_law) (by decide +kernel)) (fun _ _ _ _ _ => (pg_name (i := 5) sc_law.nd rfl (Or.inl rfl))) (fun _ _ _ _ _ => pts_nil) (fun _ _ _ _ _ => (pe_op op_add pe_int (pe_op op_mod (pe_call G__law_cell_at (hr.mono (by decide)) rfl T.g__law_cell_at kp__law_cell_at b__law_cell_at .nil passLN (pa_cons (pv 0) (pa_cons (pe_op op_add pe_int (pv 5)) pa_nil))) pe_int))))
  (pss_cons (ps_if (PW.pt (pw_and (pt_cmpR op_gt (pe_callB (r := rLenS K) call_len_seq (by rfl) T.z_len PySem.boot_len (pa_cons (pv 4) pa_nil)) pe_int (nomark _)) (pw_and1 (pt_cmpR op_eq (pe_op op_mod (pe_call G__law_cell_at (hr.mono (by decide)) rfl T.g__law_cell_at kp__law_cell_at b__law_cell_at .nil passLN (pa_cons (pv 0) (pa_cons pe_int pa_nil))) pe_int) pe_int (nomark _))))) (pss_one (ps_asg (pe_call G__law_far (hr.mono (by decide)) rfl T.g__law_far kp__law_far b__law_far .nil passLN (pa_cons (pe_call G__law_cell_at (hr.mono (by decide)) rfl T.g__law_cell_at kp__law_cell_at b__law_cell_at .nil passLN (pa_cons (pv 0) (pa_cons pe_int pa_nil))) (pa_cons (pe_un un_neg pe_int) (pa_cons pe_int pa_nil)))) (pg_sub (pv 4) (pe_op op_mod (pe_call G__law_cell_at (hr.mono (by decide)) rfl T.g__law_cell_at kp__law_cell_at b__law_cell_at .nil passLN (pa_cons (pv 0) (pa_cons pe_int pa_nil))) (pe_callB (r := rLenS K) call_len_seq (by rfl) T.z_len PySem.boot_len (pa_cons (pv 4) pa_nil))) set_list))) pss_nil)
  (pss_cons (ps_set (i := 6) sc_law.nd rfl (Or.inl rfl) (pe_callTy (r := rListS K) call_list_of (by rfl) T.z_list boot_list (pa_cons (pv 4) pa_nil)))
  (pss_cons (L2N.ps_try_as (ts := fun a cls d => tRet (tAndV (tNotV (tCallS (spGoodE K a cls d) (fun _ => E0) (tCons (tVar 1) (tCons (tVar 2) (tCons (tVar 3) (tCons (tVar 4) tNil)))))) (tAndV (tNotV (tCallS (spOther K a cls d) (fun _ => E0) (tCons (tVar 8) (tCons (tC (.int 0)) tNil)))) (tOp (rEqD K) (tVar 6) (tVar 4))))) (i := 8) rfl rfl sc_law.nd rfl rfl (by exact ⟨rfl, by decide, .inl T.g_ChangeError⟩) (L2N.takes_of rfl rfl rfl rfl) (by exact fun W pn xe tk po => (pss_one (ps_set (i := 7) sc_law.nd rfl (Or.inl rfl) (pe_callS G__law_new (hr.mono (by decide)) rfl T.g__law_new kp__law_new b__law_new (fun σ => L2N.passAt tk σ) (pa_cons (pv 1) (pa_cons (pv 2) (pa_cons (pv 3) (pa_cons (pv 6) pa_nil)))))))) (by exact fun a oe cls d pn hz hv => (pss_one (ps_ret (pe_and (pe_not (pe_callE (p := (a, oe)) G__law_good_h (roomH_mark (hr.mono (by decide))) (hot_suite hz hv) List.mem_cons_self (L2N.Zn.zc hz) rfl T.g__law_good kp__law_good_h b__law_good_h (pa_cons (pv 1) (pa_cons (pv 2) (pa_cons (pv 3) (pa_cons (pv 4) pa_nil)))))) (pe_and (pe_not (pe_callE (p := (a, oe)) G__law_other_h (roomH_mark (hr.mono (by decide))) (hot_suite hz hv) List.mem_cons_self (L2N.Zn.zc hz) rfl T.g__law_other kp__law_other_h b__law_other_h (pa_cons (pv 8) (pa_cons pe_int pa_nil)))) (pe_one (pe_cmpR (r := rEqD K) (op_eqD (roomH_units (roomH_mark hr))) (pv 6) (pv 4) (nomark _)))))))))
  (pss_cons (ps_if (PW.pt (pw_or (pt_not (pt_val (pe_call G__law_good (hr.mono (by decide)) rfl T.g__law_good kp__law_good b__law_good .nil passLN (pa_cons (pv 1) (pa_cons (pv 2) (pa_cons (pv 3) (pa_cons (pv 4) pa_nil))))))) (pw_or (pt_not (pt_val (pe_callB (r := rIsi K) call_isi (by rfl) T.z_isinstance boot_isinstance (pa_cons (pv 7) (pa_cons (pe_glob (v := .ref (aG K "Listing")) rfl T.g_Listing rfl) pa_nil))))) (pw_or1 (pt_cmpR (r := rNeD K) (op_neD hr.units) (pv 6) (pv 4) (nomark _)))))) (pss_one (ps_ret pe_bl)) pss_nil)
  (pss_cons (ps_if (pt_cmpR op_eq (pv 1) pe_int (nomark _)) (pss_cons (ps_set (i := 9) sc_law.nd rfl (Or.inl rfl) (pe_meth0 (pv 7) c_L M_many G_many (hr.mono (by decide)) b_many .nil passLN))
  (pss_cons (ps_set (i := 10) sc_law.nd rfl (Or.inl rfl) (pe_meth (pv 7) c_L M_thing_at G_thing_at (hr.mono (by decide)) b_thing_at .nil passLN (pa_cons (pe_op op_sub (pv 9) pe_int) pa_nil)))
  (pss_cons (ps_expr (pe_bm PySem.F.plainAttrs_list PySem.F.slot_list_append PySem.F.type_list_append mt_append (pv 6) (pa_cons pe_int pa_nil)))
  (pss_cons (ps_asg pe_int (pg_sub (pv 6) pe_int set_list))
  (pss_one (ps_ret (pe_and (pe_cmpR op_eq (pe_meth0 (pv 7) c_L M_many G_many (hr.mono (by decide)) b_many .nil passLN) (pv 9) (nomark _)) (pe_and (pe_cmpR (r := rEqD K) (op_eqD hr.units) (pe_meth (pv 7) c_L M_thing_at G_thing_at (hr.mono (by decide)) b_thing_at .nil passLN (pa_cons (pe_op op_sub (pv 9) pe_int) pa_nil)) (pv 10) (nomark _)) (pe_one (pe_cmpR op_eq (pe_meth (pv 7) c_L M_number_of G_number_of (hr.mono (by decide)) b_number_of .nil passLN (pa_cons (pv 10) pa_nil)) (pe_op op_sub (pv 9) pe_int) (nomark _))))))))))) pss_nil)
  (pss_one (ps_ret pe_bl))))))))))), ?_⟩
    have cl : ∀ {j : Int} {H1 : Hp} {te : TE} {σ : Stt} {E : XK}, 0 ≤ j → Ex H H1 → σ[0]? = some (some (.ref a)) → Ev te σ H1 (.int j) → Ev (tCall (spCell K) [] E (tCons (tVar 0) (tCons te tNil))) σ H1 (.int (cell ns j)) := fun hj e1 h0 hj2 => ev_call (ea_cons (ev_var h0) (ea_cons hj2 ea_nil)) (sv_cell (ex_l e1 hS) hj)
    refine q_asg (v := .int (lawD ns).kind) (ev_op (cl (by decide) (Ex.refl H) rfl ev_c) ev_c (rv_I (by decide))) fun H1 e1 => ?_
    obtain ⟨b4, b40⟩ := bound4_at ns
    refine q_asg (v := .int (lawD ns).one) (ev_call (ea_cons (cl (by decide) e1 rfl ev_c) (ea_cons (ev_un ev_c ru_neg) (ea_cons (ev_opL1 (el_lst (ea_cons ev_c (ea_cons ev_c (ea_cons ev_c (ea_cons ev_c ea_nil)))) (by show 4 ≤ 100000; decide)) (fun H2 e2 => ev_var rfl) fun p H2 h2 e2 => rv_ixL (sq_of h2) b4) ea_nil))) (sv_far b40)) fun H2 e2 => ?_
    have e12 := e1.trans e2
    refine q_asg (v := .int (lawD ns).two) (ev_call (ea_cons (cl (by decide) e12 rfl ev_c) (ea_cons (ev_un ev_c ru_neg) (ea_cons ev_c ea_nil))) (sv_far (by decide))) fun H3 e3 => ?_
    have e13 := e12.trans e3
    have qe : (List.range (cell ns 1 % 15).toNat).map (fun k : Nat => V.int (1 + cell ns (3 + (k : Int)) % 9)) = (sizes0 ns).map V.int := by
      unfold sizes0
      rw [List.map_map]
      rfl
    refine q_asgL (EvL.is (el_mapR (n := cell ns 1 % 15) (fun k : Nat => V.int (1 + cell ns (3 + (k : Int)) % 9)) (ea_cons (ev_op (cl (by decide) e13 rfl ev_c) ev_c (rv_I (by decide))) ea_nil) ⟨by omega, by omega⟩ (fun _ => rfl)
      (fun i H1 e1 hi => ev_op ev_c (ev_op (cl (by omega) (e13.trans e1) rfl (ev_op ev_c (ev_var rfl) rv_I0)) ev_c (rv_I (by decide))) rv_I0)) qe) fun s H4 fs e4 hs => ?_
    have e14 := e13.trans e4
    have ln : (((sizes0 ns).map V.int).length : Int) = ((sizes0 ns).length : Int) := by rw [List.length_map]
    refine q_join (M := fun σ' H' => σ' = [some (V.ref a), some (.int (lawD ns).kind), some (.int (lawD ns).one), some (.int (lawD ns).two), some (.ref s), none, none, none, none, none, none] ∧ Ex H H' ∧ H' s = some (.lst ((lawD ns).sizes.map V.int)))
      (et_and (et_test (ev_op (ev_len (ev_var rfl) (sq_of hs)) ev_c rv_I0)) fun _ => et_eqI (ev_op (cl (by decide) e14 rfl ev_c) ev_c (rv_I (by decide))) ev_c) ?_ (fun kk hb H5 e5 => ?_) (fun hb H5 e5 => ?_)
    · rintro σ' H6 ⟨rfl, e6, hs6⟩
      generalize lawD ns = d at *
      refine q_asgL (el_list (ev_var rfl) (sq_of hs6)) fun h H7 fh e7 hh => ?_
      have hs7 := e7 _ _ hs6
      refine q_try (s_asgC (ea_cons (ev_var rfl) (ea_cons (ev_var rfl) (ea_cons (ev_var rfl) (ea_cons (ev_var rfl) ea_nil)))) fun H8 e8 => ⟨d, h, rfl, sq_of (e8 _ _ hh), hz, h4, fun g v H9 e9 wv => ?_, fun ng H9 e9 => ?_⟩)
      · obtain ⟨p, rfl, np, hp, hw⟩ := wv
        rw [hI g] at hp
        have hh8 := e8 _ _ hh
        have hh9 := e9 _ _ hh8
        have hs9 := (e8.trans e9) _ _ hs7
        refine q_skip (et_or (et_not (et_B (ev_call (ea_cons (ev_var rfl) (ea_cons (ev_var rfl) (ea_cons (ev_var rfl) (ea_cons (ev_var rfl) ea_nil)))) (sv_good (sq_of hs9) hz h4)))) fun _ => et_or (et_not (et_B (ev_isL AL (ev_var rfl) hp))) fun _ => et_test (ev_op (ev_var rfl) (ev_var rfl) (rv_neI (sq_of hh9) (sq_of hs9)))) ?_ fun H10 e10 => ?_
        · rw [(goodB_iff h4).mpr g]
          simp
        refine q_when (et_eqI (ev_var rfl) ev_c) (fun hb H11 e11 => ?_) fun hb H11 e11 => s_ret ev_c fun HB _ => k HB
        have hb : d.kind = 1 := of_decide_eq_true hb
        obtain ⟨dx, l, hpi, hli, nl⟩ := hw hb
        have e911 := e10.trans e11
        have hp11 := B.mono e911 hp
        have hI1 : I = whL K d.sizes := (hI g).symm.trans (I1 hb)
        obtain ⟨dx1, fs1, hi1, hm1⟩ := B.ins hp11
        refine q_asg (ev_meth (ev_var rfl) hi1 (hm1 _ (by decide +kernel)) ea_nil (sv_size B hp11)) fun H12 e12' => ?_
        have hx : InN I (I.N - 1) := ⟨by omega, by omega⟩
        refine q_asgL (el_meth (ev_var rfl) (e12' _ _ hi1) (hm1 _ (by decide +kernel)) (ea_cons (ev_op (ev_var rfl) ev_c rv_I0) ea_nil) (sl_thing B (B.mono e12' hp11) hx)) fun la H13 fla e13' hla => ?_
        have e913 := e911.trans (e12'.trans e13')
        have hh13 := e913 _ _ hh9
        refine q_app hh13 (ev_var rfl) ev_c (by rw [List.length_map]; omega) fun H14 e14' => ?_
        refine q_setL (l := h) (j := 0) upd_same ev_c (ev_var rfl) ev_c (by rw [List.length_append]; exact Nat.succ_pos _) fun H15 e15 => ?_
        have keep : ∀ q o, q ≠ h → H13 q = some o → upd H15 h (HO.lst ((d.sizes.map V.int ++ [V.int 5]).set 0 (V.int 9))) q = some o := fun q o n hq => by
          rw [upd_ne n]
          exact e15 _ _ (by rw [upd_ne n]; exact e14' _ _ hq)
        generalize upd H15 h (HO.lst ((d.sizes.map V.int ++ [V.int 5]).set 0 (V.int 9))) = HZ at keep ⊢
        have hpZ : I.At HZ p := by
          rw [hI1]
          exact ⟨dx, l, keep _ _ (fun z => by rw [z, hh8] at np; cases np) (e913 _ _ hpi), keep _ _ (fun z => by rw [z, hh8] at nl; cases nl) (e913 _ _ hli)⟩
        have hlaZ := keep _ _ (fun z => by rw [z, (e911.trans e12') _ _ hh9] at fla; cases fla) hla
        obtain ⟨dxZ, fsZ, hiZ, hmZ⟩ := B.ins hpZ
        have hth := M.put_th _ hx
        have hll := M.len _ hth
        refine s_ret (v := .bl true) (ev_is (ev_andV (ev_eqI (ev_meth (ev_var rfl) hiZ (hmZ _ (by decide +kernel)) ea_nil (sv_size B hpZ)) (ev_var rfl)) fun _ => ev_andV (ev_opL1 (el_meth (ev_var rfl) hiZ (hmZ _ (by decide +kernel)) (ea_cons (ev_op (ev_var rfl) ev_c rv_I0) ea_nil) (sl_thing B hpZ hx)) (fun H1 e1 => ev_var rfl) fun q H1 hq e1 => rv_eqI (sq_of hq) (sq_of (e1 _ _ hlaZ))) fun _ => ev_eqI (ev_meth (ev_var rfl) hiZ (hmZ _ (by decide +kernel)) (ea_cons (ev_var rfl) ea_nil) (sv_numb B hpZ (sq_of hlaZ) (by omega) hth)) (ev_op (ev_var rfl) ev_c rv_I0)) ?_) fun HB _ => k HB
        rw [M.fnd_put _ hx]
        simp
      · have hh9 := (e8.trans e9) _ _ hh
        have hs9 := (e8.trans e9) _ _ hs7
        refine ⟨true, (T.q 0 (by decide)).exm, fun _ x hx => ?_, (fun z => by cases z)⟩
        refine s_ret (v := .bl true) (ev_is (ev_andV (ev_notV (ev_callS (ea_cons (ev_var rfl) (ea_cons (ev_var rfl) (ea_cons (ev_var rfl) (ea_cons (ev_var rfl) ea_nil)))) (sv_good (sq_of hs9) hz h4))) fun _ => ev_andV (ev_notV (ev_callS (ea_cons (ev_var rfl) (ea_cons ev_c ea_nil)) (sv_other (i := 0) (w := 0) (by decide) (by decide)))) fun _ => ev_op (ev_var rfl) (ev_var rfl) (rv_eqI (sq_of hh9) (sq_of hs9))) ?_) fun HB _ => k HB
        rw [goodB_no h4 ng]
        simp
    · have hp : 0 < (sizes0 ns).length := by
        have := of_decide_eq_true (Bool.and_eq_true_iff.mp hb).1
        rw [ln] at this
        omega
      have hq0 : 0 ≤ cell ns 20 % ((sizes0 ns).length : Int) := Int.emod_nonneg _ (by omega)
      have hq1 := Int.emod_lt_of_pos (cell ns 20) (show (0 : Int) < ((sizes0 ns).length : Int) by omega)
      have e15 := e14.trans e5
      have hs5 := e5 _ _ hs
      refine s_setL (j := (cell ns 20 % ((sizes0 ns).length : Int)).toNat) hs5 (ev_call (ea_cons (cl (by decide) e15 rfl ev_c) (ea_cons (ev_un ev_c ru_neg) (ea_cons ev_c ea_nil))) (sv_far (by decide))) (ev_var rfl)
        (ev_is (ev_op (cl (by decide) e15 rfl ev_c) (ev_len (ev_var rfl) (sq_of hs5)) (rv_I (show (0 : Int) < (((sizes0 ns).map V.int).length : Int) by rw [ln]; omega))) (by rw [ln, Int.toNat_of_nonneg hq0])) (by rw [List.length_map]; omega) fun H6 e6 => kk _ _ ⟨rfl, ex_upd (e15.trans e6) (fresh_back e13 fs), ?_⟩
      rw [upd_same, ← List.map_set]
      show _ = some (HO.lst ((lawSz ns).map V.int))
      unfold lawSz
      rw [if_pos (by rw [← ln]; exact hb)]
    · refine ⟨rfl, e14.trans e5, ?_⟩
      show _ = some (HO.lst ((lawSz ns).map V.int))
      unfold lawSz
      rw [if_neg (by rw [← ln, hb]; decide)]
      exact e5 _ _ hs
end
end Oc
namespace Oc
open PySem PySem.Spec PyProof.Rows L2 Evl L2H HotX
def dd_ (at_ : Str × Option Str) (x q : Str) (s : Stmt) : He.DefD := ⟨at_, x, q, defArgs s, defBody s, defScope s, [], []⟩
def fn0 : List He.DefD := [dd_ ("choices", none) "choices" "choices" s_choices, dd_ ("product", none) "product" "product" s_product, dd_ ("gray_of", none) "gray_of" "gray_of" s_gray_of, dd_ ("bits_of", none) "bits_of" "bits_of" s_bits_of, dd_ ("_law_cell_at", none) "_law_cell_at" "_law_cell_at" s__law_cell_at, dd_ ("_law_made", none) "_law_made" "_law_made" s__law_made, dd_ ("_law_other", none) "_law_other" "_law_other" s__law_other, dd_ ("_law_far", none) "_law_far" "_law_far" s__law_far, dd_ ("_law_good", none) "_law_good" "_law_good" s__law_good, dd_ ("_law_new", none) "_law_new" "_law_new" s__law_new, dd_ ("law", none) "law" "law" s_law, dd_ ("Picks", some "many") "many" "Listing.many" s_Listing_many, dd_ ("Picks", some "asked_number") "asked_number" "Listing.asked_number" s_Listing_asked_number, dd_ ("Picks", some "thing_at") "thing_at" "Listing.thing_at" s_Listing_thing_at, dd_ ("Picks", some "number_of") "number_of" "Listing.number_of" s_Listing_number_of, dd_ ("Picks", some "__init__") "__init__" "Picks.__init__" s_Picks___init__, dd_ ("Picks", some "size") "size" "Picks.size" s_Picks_size, dd_ ("Picks", some "put") "put" "Picks.put" s_Picks_put, dd_ ("Picks", some "is_thing") "is_thing" "Picks.is_thing" s_Picks_is_thing, dd_ ("Picks", some "found") "found" "Picks.found" s_Picks_found, dd_ ("Orders", some "many") "many" "Listing.many" s_Listing_many, dd_ ("Orders", some "asked_number") "asked_number" "Listing.asked_number" s_Listing_asked_number, dd_ ("Orders", some "thing_at") "thing_at" "Listing.thing_at" s_Listing_thing_at, dd_ ("Orders", some "number_of") "number_of" "Listing.number_of" s_Listing_number_of, dd_ ("Orders", some "__init__") "__init__" "Orders.__init__" s_Orders___init__, dd_ ("Orders", some "size") "size" "Orders.size" s_Orders_size, dd_ ("Orders", some "put") "put" "Orders.put" s_Orders_put, dd_ ("Orders", some "is_thing") "is_thing" "Orders.is_thing" s_Orders_is_thing, dd_ ("Orders", some "found") "found" "Orders.found" s_Orders_found, dd_ ("Switches", some "many") "many" "Listing.many" s_Listing_many]
def fn1 : List He.DefD := [dd_ ("Switches", some "asked_number") "asked_number" "Listing.asked_number" s_Listing_asked_number, dd_ ("Switches", some "thing_at") "thing_at" "Listing.thing_at" s_Listing_thing_at, dd_ ("Switches", some "number_of") "number_of" "Listing.number_of" s_Listing_number_of, dd_ ("Switches", some "__init__") "__init__" "Switches.__init__" s_Switches___init__, dd_ ("Switches", some "size") "size" "Switches.size" s_Switches_size, dd_ ("Switches", some "put") "put" "Switches.put" s_Switches_put, dd_ ("Switches", some "is_thing") "is_thing" "Switches.is_thing" s_Switches_is_thing, dd_ ("Switches", some "found") "found" "Switches.found" s_Switches_found, dd_ ("Wheels", some "many") "many" "Listing.many" s_Listing_many, dd_ ("Wheels", some "asked_number") "asked_number" "Listing.asked_number" s_Listing_asked_number, dd_ ("Wheels", some "thing_at") "thing_at" "Listing.thing_at" s_Listing_thing_at, dd_ ("Wheels", some "number_of") "number_of" "Listing.number_of" s_Listing_number_of, dd_ ("Wheels", some "__init__") "__init__" "Wheels.__init__" s_Wheels___init__, dd_ ("Wheels", some "size") "size" "Wheels.size" s_Wheels_size, dd_ ("Wheels", some "put") "put" "Wheels.put" s_Wheels_put, dd_ ("Wheels", some "is_thing") "is_thing" "Wheels.is_thing" s_Wheels_is_thing, dd_ ("Wheels", some "found") "found" "Wheels.found" s_Wheels_found]
def fn : List He.DefD := fn0 ++ fn1
def fa0 : List He.Fa := [.free "ValueError", .free "isinstance", .free "len", .free "list", .free "range", .free "reversed", .free "sorted", .free "zip", .glo "ChangeError", .glo "NoListing", .glo "NoThing", .glo "NoNumber", .glo "NoState", .glo "NoMove", .glo "TooFar", .glo "Listing", .glo "Picks", .glo "Orders", .glo "Switches", .glo "Wheels", .glo "choices", .glo "product", .glo "gray_of", .glo "bits_of", .glo "_law_cell_at", .glo "_law_made", .glo "_law_other", .glo "_law_far", .glo "_law_good", .glo "_law_new"]
def fa1 : List He.Fa := [.glo "law", .exc "ChangeError", .exc "NoListing", .exc "NoThing", .exc "NoNumber", .exc "NoState", .exc "NoMove", .exc "TooFar", .cls "Picks", .mkr "Picks", .noat "Picks" "top", .noat "Picks" "some", .meth "Picks" "many", .meth "Picks" "asked_number", .meth "Picks" "thing_at", .meth "Picks" "number_of", .meth "Picks" "size", .meth "Picks" "put", .meth "Picks" "is_thing", .meth "Picks" "found", .cls "Orders", .mkr "Orders", .noat "Orders" "length", .meth "Orders" "many", .meth "Orders" "asked_number", .meth "Orders" "thing_at", .meth "Orders" "number_of", .meth "Orders" "size", .meth "Orders" "put", .meth "Orders" "is_thing"]
def fa2 : List He.Fa := [.meth "Orders" "found", .cls "Switches", .mkr "Switches", .noat "Switches" "length", .meth "Switches" "many", .meth "Switches" "asked_number", .meth "Switches" "thing_at", .meth "Switches" "number_of", .meth "Switches" "size", .meth "Switches" "put", .meth "Switches" "is_thing", .meth "Switches" "found", .cls "Wheels", .mkr "Wheels", .noat "Wheels" "sizes", .meth "Wheels" "many", .meth "Wheels" "asked_number", .meth "Wheels" "thing_at", .meth "Wheels" "number_of", .meth "Wheels" "size", .meth "Wheels" "put", .meth "Wheels" "is_thing", .meth "Wheels" "found"]
def fa : List He.Fa := fa0 ++ fa1 ++ fa2
def loose0 : List Str := ["_wall", "ChangeError", "NoListing", "NoThing", "NoNumber", "NoState", "NoMove", "TooFar", "Listing", "choices", "Picks", "product", "Orders", "gray_of", "bits_of", "Switches", "Wheels", "_law_cell_at", "_law_made", "_law_other", "_law_far", "_law_good", "_law_new"]
def loose : List Str := loose0
abbrev RR : PySem.W.OpenRow := PySem.W.OpenLaw.row PySem.Challenge.rw_onechange_k07_no_listing
def xl0 : List (PySem.W.Frag → Bool) := [isLB "Picks" "Listing", isLB "Orders" "Listing", isLB "Switches" "Listing", isLB "Wheels" "Listing", excKB 0, excKB 1, excKB 2, excKB 3, excKB 4, excKB 5]
def xl : List (PySem.W.Frag → Bool) := xl0
theorem txt_of {K : PySem.W.Frag} {h : Heap} {mg : Str → Option Value} (X : K.In h) (G : h.Ns mainGlobals mg) (c : He.SaysD fa fn K)(x : (xl.all fun f => f K) = true) : Txt K mg := ⟨isL_ok (xok x 0 (f := isLB "Picks" "Listing") rfl),
  isL_ok (xok x 1 (f := isLB "Orders" "Listing") rfl),
  isL_ok (xok x 2 (f := isLB "Switches" "Listing") rfl),
  isL_ok (xok x 3 (f := isLB "Wheels" "Listing") rfl),
  excK_ok (xok x 4 (f := excKB 0) rfl),
  excK_ok (xok x 5 (f := excKB 1) rfl),
  excK_ok (xok x 6 (f := excKB 2) rfl),
  excK_ok (xok x 7 (f := excKB 3) rfl),
  excK_ok (xok x 8 (f := excKB 4) rfl),
  excK_ok (xok x 9 (f := excKB 5) rfl),
  He.free_ok X G (c.fact 0 (f := .free "ValueError") rfl),
  He.free_ok X G (c.fact 1 (f := .free "isinstance") rfl),
  He.free_ok X G (c.fact 2 (f := .free "len") rfl),
  He.free_ok X G (c.fact 3 (f := .free "list") rfl),
  He.free_ok X G (c.fact 4 (f := .free "range") rfl),
  He.free_ok X G (c.fact 5 (f := .free "reversed") rfl),
  He.free_ok X G (c.fact 6 (f := .free "sorted") rfl),
  He.free_ok X G (c.fact 7 (f := .free "zip") rfl),
  He.glo_ok X G (c.fact 8 (f := .glo "ChangeError") rfl),
  He.glo_ok X G (c.fact 9 (f := .glo "NoListing") rfl),
  He.glo_ok X G (c.fact 10 (f := .glo "NoThing") rfl),
  He.glo_ok X G (c.fact 11 (f := .glo "NoNumber") rfl),
  He.glo_ok X G (c.fact 12 (f := .glo "NoState") rfl),
  He.glo_ok X G (c.fact 13 (f := .glo "NoMove") rfl),
  He.glo_ok X G (c.fact 14 (f := .glo "TooFar") rfl),
  He.glo_ok X G (c.fact 15 (f := .glo "Listing") rfl),
  He.glo_ok X G (c.fact 16 (f := .glo "Picks") rfl),
  He.glo_ok X G (c.fact 17 (f := .glo "Orders") rfl),
  He.glo_ok X G (c.fact 18 (f := .glo "Switches") rfl),
  He.glo_ok X G (c.fact 19 (f := .glo "Wheels") rfl),
  He.glo_ok X G (c.fact 20 (f := .glo "choices") rfl),
  He.glo_ok X G (c.fact 21 (f := .glo "product") rfl),
  He.glo_ok X G (c.fact 22 (f := .glo "gray_of") rfl),
  He.glo_ok X G (c.fact 23 (f := .glo "bits_of") rfl),
  He.glo_ok X G (c.fact 24 (f := .glo "_law_cell_at") rfl),
  He.glo_ok X G (c.fact 25 (f := .glo "_law_made") rfl),
  He.glo_ok X G (c.fact 26 (f := .glo "_law_other") rfl),
  He.glo_ok X G (c.fact 27 (f := .glo "_law_far") rfl),
  He.glo_ok X G (c.fact 28 (f := .glo "_law_good") rfl),
  He.glo_ok X G (c.fact 29 (f := .glo "_law_new") rfl),
  He.glo_ok X G (c.fact 30 (f := .glo "law") rfl),
  He.exc_ok (c.fact 31 (f := .exc "ChangeError") rfl),
  He.exc_ok (c.fact 32 (f := .exc "NoListing") rfl),
  He.exc_ok (c.fact 33 (f := .exc "NoThing") rfl),
  He.exc_ok (c.fact 34 (f := .exc "NoNumber") rfl),
  He.exc_ok (c.fact 35 (f := .exc "NoState") rfl),
  He.exc_ok (c.fact 36 (f := .exc "NoMove") rfl),
  He.exc_ok (c.fact 37 (f := .exc "TooFar") rfl),
  He.cls_ok (c.fact 38 (f := .cls "Picks") rfl),
  He.mkr_ok (c.fact 39 (f := .mkr "Picks") rfl),
  He.noat_ok (c.fact 40 (f := .noat "Picks" "top") rfl),
  He.noat_ok (c.fact 41 (f := .noat "Picks" "some") rfl),
  He.meth_ok (c.fact 42 (f := .meth "Picks" "many") rfl),
  He.meth_ok (c.fact 43 (f := .meth "Picks" "asked_number") rfl),
  He.meth_ok (c.fact 44 (f := .meth "Picks" "thing_at") rfl),
  He.meth_ok (c.fact 45 (f := .meth "Picks" "number_of") rfl),
  He.meth_ok (c.fact 46 (f := .meth "Picks" "size") rfl),
  He.meth_ok (c.fact 47 (f := .meth "Picks" "put") rfl),
  He.meth_ok (c.fact 48 (f := .meth "Picks" "is_thing") rfl),
  He.meth_ok (c.fact 49 (f := .meth "Picks" "found") rfl),
  He.cls_ok (c.fact 50 (f := .cls "Orders") rfl),
  He.mkr_ok (c.fact 51 (f := .mkr "Orders") rfl),
  He.noat_ok (c.fact 52 (f := .noat "Orders" "length") rfl),
  He.meth_ok (c.fact 53 (f := .meth "Orders" "many") rfl),
  He.meth_ok (c.fact 54 (f := .meth "Orders" "asked_number") rfl),
  He.meth_ok (c.fact 55 (f := .meth "Orders" "thing_at") rfl),
  He.meth_ok (c.fact 56 (f := .meth "Orders" "number_of") rfl),
  He.meth_ok (c.fact 57 (f := .meth "Orders" "size") rfl),
  He.meth_ok (c.fact 58 (f := .meth "Orders" "put") rfl),
  He.meth_ok (c.fact 59 (f := .meth "Orders" "is_thing") rfl),
  He.meth_ok (c.fact 60 (f := .meth "Orders" "found") rfl),
  He.cls_ok (c.fact 61 (f := .cls "Switches") rfl),
  He.mkr_ok (c.fact 62 (f := .mkr "Switches") rfl),
  He.noat_ok (c.fact 63 (f := .noat "Switches" "length") rfl),
  He.meth_ok (c.fact 64 (f := .meth "Switches" "many") rfl),
  He.meth_ok (c.fact 65 (f := .meth "Switches" "asked_number") rfl),
  He.meth_ok (c.fact 66 (f := .meth "Switches" "thing_at") rfl),
  He.meth_ok (c.fact 67 (f := .meth "Switches" "number_of") rfl),
  He.meth_ok (c.fact 68 (f := .meth "Switches" "size") rfl),
  He.meth_ok (c.fact 69 (f := .meth "Switches" "put") rfl),
  He.meth_ok (c.fact 70 (f := .meth "Switches" "is_thing") rfl),
  He.meth_ok (c.fact 71 (f := .meth "Switches" "found") rfl),
  He.cls_ok (c.fact 72 (f := .cls "Wheels") rfl),
  He.mkr_ok (c.fact 73 (f := .mkr "Wheels") rfl),
  He.noat_ok (c.fact 74 (f := .noat "Wheels" "sizes") rfl),
  He.meth_ok (c.fact 75 (f := .meth "Wheels" "many") rfl),
  He.meth_ok (c.fact 76 (f := .meth "Wheels" "asked_number") rfl),
  He.meth_ok (c.fact 77 (f := .meth "Wheels" "thing_at") rfl),
  He.meth_ok (c.fact 78 (f := .meth "Wheels" "number_of") rfl),
  He.meth_ok (c.fact 79 (f := .meth "Wheels" "size") rfl),
  He.meth_ok (c.fact 80 (f := .meth "Wheels" "put") rfl),
  He.meth_ok (c.fact 81 (f := .meth "Wheels" "is_thing") rfl),
  He.meth_ok (c.fact 82 (f := .meth "Wheels" "found") rfl),
  c.def_ 0 (d := dd_ ("choices", none) "choices" "choices" s_choices) rfl,
  c.def_ 1 (d := dd_ ("product", none) "product" "product" s_product) rfl,
  c.def_ 2 (d := dd_ ("gray_of", none) "gray_of" "gray_of" s_gray_of) rfl,
  c.def_ 3 (d := dd_ ("bits_of", none) "bits_of" "bits_of" s_bits_of) rfl,
  c.def_ 4 (d := dd_ ("_law_cell_at", none) "_law_cell_at" "_law_cell_at" s__law_cell_at) rfl,
  c.def_ 5 (d := dd_ ("_law_made", none) "_law_made" "_law_made" s__law_made) rfl,
  c.def_ 6 (d := dd_ ("_law_other", none) "_law_other" "_law_other" s__law_other) rfl,
  c.def_ 7 (d := dd_ ("_law_far", none) "_law_far" "_law_far" s__law_far) rfl,
  c.def_ 8 (d := dd_ ("_law_good", none) "_law_good" "_law_good" s__law_good) rfl,
  c.def_ 9 (d := dd_ ("_law_new", none) "_law_new" "_law_new" s__law_new) rfl,
  c.def_ 10 (d := dd_ ("law", none) "law" "law" s_law) rfl,
  c.def_ 11 (d := dd_ ("Picks", some "many") "many" "Listing.many" s_Listing_many) rfl,
  c.def_ 12 (d := dd_ ("Picks", some "asked_number") "asked_number" "Listing.asked_number" s_Listing_asked_number) rfl,
  c.def_ 13 (d := dd_ ("Picks", some "thing_at") "thing_at" "Listing.thing_at" s_Listing_thing_at) rfl,
  c.def_ 14 (d := dd_ ("Picks", some "number_of") "number_of" "Listing.number_of" s_Listing_number_of) rfl,
  c.def_ 15 (d := dd_ ("Picks", some "__init__") "__init__" "Picks.__init__" s_Picks___init__) rfl,
  c.def_ 16 (d := dd_ ("Picks", some "size") "size" "Picks.size" s_Picks_size) rfl,
  c.def_ 17 (d := dd_ ("Picks", some "put") "put" "Picks.put" s_Picks_put) rfl,
  c.def_ 18 (d := dd_ ("Picks", some "is_thing") "is_thing" "Picks.is_thing" s_Picks_is_thing) rfl,
  c.def_ 19 (d := dd_ ("Picks", some "found") "found" "Picks.found" s_Picks_found) rfl,
  c.def_ 20 (d := dd_ ("Orders", some "many") "many" "Listing.many" s_Listing_many) rfl,
  c.def_ 21 (d := dd_ ("Orders", some "asked_number") "asked_number" "Listing.asked_number" s_Listing_asked_number) rfl,
  c.def_ 22 (d := dd_ ("Orders", some "thing_at") "thing_at" "Listing.thing_at" s_Listing_thing_at) rfl,
  c.def_ 23 (d := dd_ ("Orders", some "number_of") "number_of" "Listing.number_of" s_Listing_number_of) rfl,
  c.def_ 24 (d := dd_ ("Orders", some "__init__") "__init__" "Orders.__init__" s_Orders___init__) rfl,
  c.def_ 25 (d := dd_ ("Orders", some "size") "size" "Orders.size" s_Orders_size) rfl,
  c.def_ 26 (d := dd_ ("Orders", some "put") "put" "Orders.put" s_Orders_put) rfl,
  c.def_ 27 (d := dd_ ("Orders", some "is_thing") "is_thing" "Orders.is_thing" s_Orders_is_thing) rfl,
  c.def_ 28 (d := dd_ ("Orders", some "found") "found" "Orders.found" s_Orders_found) rfl,
  c.def_ 29 (d := dd_ ("Switches", some "many") "many" "Listing.many" s_Listing_many) rfl,
  c.def_ 30 (d := dd_ ("Switches", some "asked_number") "asked_number" "Listing.asked_number" s_Listing_asked_number) rfl,
  c.def_ 31 (d := dd_ ("Switches", some "thing_at") "thing_at" "Listing.thing_at" s_Listing_thing_at) rfl,
  c.def_ 32 (d := dd_ ("Switches", some "number_of") "number_of" "Listing.number_of" s_Listing_number_of) rfl,
  c.def_ 33 (d := dd_ ("Switches", some "__init__") "__init__" "Switches.__init__" s_Switches___init__) rfl,
  c.def_ 34 (d := dd_ ("Switches", some "size") "size" "Switches.size" s_Switches_size) rfl,
  c.def_ 35 (d := dd_ ("Switches", some "put") "put" "Switches.put" s_Switches_put) rfl,
  c.def_ 36 (d := dd_ ("Switches", some "is_thing") "is_thing" "Switches.is_thing" s_Switches_is_thing) rfl,
  c.def_ 37 (d := dd_ ("Switches", some "found") "found" "Switches.found" s_Switches_found) rfl,
  c.def_ 38 (d := dd_ ("Wheels", some "many") "many" "Listing.many" s_Listing_many) rfl,
  c.def_ 39 (d := dd_ ("Wheels", some "asked_number") "asked_number" "Listing.asked_number" s_Listing_asked_number) rfl,
  c.def_ 40 (d := dd_ ("Wheels", some "thing_at") "thing_at" "Listing.thing_at" s_Listing_thing_at) rfl,
  c.def_ 41 (d := dd_ ("Wheels", some "number_of") "number_of" "Listing.number_of" s_Listing_number_of) rfl,
  c.def_ 42 (d := dd_ ("Wheels", some "__init__") "__init__" "Wheels.__init__" s_Wheels___init__) rfl,
  c.def_ 43 (d := dd_ ("Wheels", some "size") "size" "Wheels.size" s_Wheels_size) rfl,
  c.def_ 44 (d := dd_ ("Wheels", some "put") "put" "Wheels.put" s_Wheels_put) rfl,
  c.def_ 45 (d := dd_ ("Wheels", some "is_thing") "is_thing" "Wheels.is_thing" s_Wheels_is_thing) rfl,
  c.def_ 46 (d := dd_ ("Wheels", some "found") "found" "Wheels.found" s_Wheels_found) rfl⟩
def xB (K : PySem.W.Frag) : Bool := xl.all fun f => f K
def hk : PySem.W.Hook where
  α := He.AlD × Bool
  obs := fun s => (He.obsDG 5 fa fn s.heap.get?, xB (He.frG s.heap.get? (He.asD s.heap.get? 5)))
  val := fun _ => (He.valD fn, true)
  says := fun _ h => ∃ K : PySem.W.Frag, K.In h ∧ He.SaysD fa fn K ∧ xB K = true
  of := fun _ _ e => ⟨_, He.frG_in, congrArg Prod.fst e, congrArg Prod.snd e⟩
  keeps := fun _ _ _ ⟨K, hK, c⟩ k => ⟨K, PySem.W.Frag.In.keeps hK k, c⟩
def ob (s : PySem.W.SharedT) : He.AlD × Bool := (He.obsDG 5 fa fn (HandSHeadRun.getT s), xB (He.frG (HandSHeadRun.getT s) (He.asD (HandSHeadRun.getT s) 5)))
theorem ob_eq (s : PySem.W.SharedT) : ob s = hk.obs s.abs := by
  have e : HandSHeadRun.getT s = s.abs.heap.get? := funext (HandSHeadRun.getT_eq s)
  show (He.obsDG 5 fa fn (HandSHeadRun.getT s), xB (He.frG (HandSHeadRun.getT s) (He.asD (HandSHeadRun.getT s) 5))) = (He.obsDG 5 fa fn s.abs.heap.get?, xB (He.frG s.abs.heap.get? (He.asD s.abs.heap.get? 5)))
  rw [e]
theorem run (w : World) : HandSHeadRun.RunEq RR (PySem.W.view RR.prog [30]) hk ob 60000 loose w := by
  intro os
  kernel_rfl
theorem facts {P : Program} {w : World} {K : PySem.W.Frag} {h : Heap} {mg : Str → Option Value} {f : Addr} (X : K.In h) (G : h.Ns mainGlobals mg) (hfa : mg ("law" : Str) = some (.ref f)) (c : He.SaysD fa fn K) (x : xB K = true) :
    ∃ fd : FuncData, (∀ (s : Shared) (v : Value), BindsTo s fd ⟨[v], []⟩ [("script", v)]) ∧ ∀ base : Heap, K.In base → base.Ns mainGlobals mg → FnOk P w K mg base CX0 6 f fd ["script"] (spLaw K) := by
  have T := txt_of X G c x
  obtain ⟨fd, F⟩ := T.d_law
  have e := hfa.symm.trans T.g_law
  cases e
  have b := FunD.bindsA (ps := ["script"]) F fun _ _ _ _ _ _ us hl => match us, hl with | [_], _ => rfl
  exact ⟨fd, fun s v => b s [v] rfl, fun base _ _ => fn_calm (ok_law T F) fun _ _ _ _ h => h⟩
end Oc
open PySem PySem.W PySem.Calls PyProof.Rows
theorem PySem.Challenge.cw_onechange_k07_no_listing_holds : PySem.Challenge.rw_onechange_k07_no_listing.Holds := by
  w_on; o_law
  refine HandSHeadRun.head_any (r := OpenLaw.row PySem.Challenge.rw_onechange_k07_no_listing) (q := view (OpenLaw.row PySem.Challenge.rw_onechange_k07_no_listing).prog [30]) (H := Oc.hk) (ob := Oc.ob) (M := 60000) (loose := Oc.loose)
    (d := HandSHeadRun.topDef (OpenLaw.row PySem.Challenge.rw_onechange_k07_no_listing).prog 30) (kwd := []) Oc.ob_eq (by kernel_rfl) (fun s => by kernel_rfl) Oc.run (by kernel_rfl) (by kernel_rfl) (by kernel_rfl) (by rfl) (by first | assumption | decide +kernel) (by decide +kernel) ⟨rfl, rfl, rfl, rfl, rfl, by decide +kernel⟩ ?hw ?hc
  case hw => w_witness2
  case hc =>
    refine L2.walk_ofE (l := PySem.Challenge.rw_onechange_k07_no_listing) (n := 63) (k := 6) (x := "script") (CX := L2.CX0) rfl (by decide) (by kernel_rfl) ⟨rfl, by decide, by decide⟩ ?F (fun _ _ _ _ z => z)
    intro w mg fa h Y G hmg0
    obtain ⟨K, KX, c, x⟩ := Y
    have hmg : mg ("law" : PySem.Str) = some (.ref fa) := by
      have e : (HandSHeadRun.topDef (OpenLaw.row PySem.Challenge.rw_onechange_k07_no_listing).prog 30).name = ("law" : PySem.Str) := by kernel_rfl
      rw [← e]
      exact hmg0
    obtain ⟨fd, hb, hF⟩ := Oc.facts (P := (PySem.Challenge.rw_onechange_k07_no_listing).prog) (w := w) KX G hmg c x
    exact ⟨K, fd, Oc.spLaw K, KX, hb, fun H a ns hl _ hS => ⟨a, ns, rfl, hS, hl, fun _ => rfl⟩, hF⟩
