import PyProof.Rows.All
import Wide.All
import OpenK.AllK
import Wide.FinOn
import KE.KStateDown
import HandS.ForMost
import HandS.ForExc
import HandS.Evl
import HandS.Defaults
import HandS.IsInst
import HandS.Conv
import HandS.Style
import HandS.Wide
import HandS.Rev
import HandS.Zip
import HandS.More
import HandS.Dict
import HandS.TupLen
import HandS.Head0
import HandS.Head1
import HandS.Head2
import HandS.HeadEnd
import HandS.HeadHook1
import HandS.HeadHook2
import HandS.ExcIs
import HandS.ExcOwn
import HandS.ExcCtx
import HandS.Hot
import HandS.HotCalls
import HandS.Comp
import PySem.Challenge.RW_onechange_k09_rings_moved
set_option Elab.async false
set_option linter.all false
set_option maxRecDepth 100000
set_option maxHeartbeats 4000000
/-! Switches: the plain law. -/
namespace Oc
/-! ### powers of two, bits -/
def p2 : Nat → Int
  | 0 => 1
  | n + 1 => 2 * p2 n
theorem p2_pos : ∀ n, 0 < p2 n
  | 0 => by decide
  | n + 1 => by have := p2_pos n; show 0 < 2 * p2 n; omega
theorem p2_succ (n : Nat) : p2 (n + 1) = 2 * p2 n := rfl
theorem p2_le {n m : Nat} (h : n ≤ m) : p2 n ≤ p2 m := by
  induction m with
  | zero => have e : n = 0 := by omega
            rw [e]; exact Int.le_refl _
  | succ k ih =>
    by_cases e : n = k + 1
    · rw [e]; exact Int.le_refl _
    · have h1 := ih (by omega)
      have h2 := p2_pos k
      rw [p2_succ]; omega
theorem p2_40 : p2 40 = 1099511627776 := by decide +kernel
/-- the figures of x, the least one first -/
def bitsF : Nat → Int → List Int
  | 0, _ => []
  | n + 1, x => x % 2 :: bitsF n (x / 2)
theorem bitsF_len : ∀ n x, (bitsF n x).length = n
  | 0, _ => rfl
  | n + 1, x => by show (bitsF n (x / 2)).length + 1 = n + 1; rw [bitsF_len n]
/-- neighbours' sums -/
def grayF : List Int → List Int
  | [] => []
  | b :: r => (b + r.headD 0) % 2 :: grayF r
theorem grayF_len : ∀ l, (grayF l).length = l.length
  | [] => rfl
  | _ :: r => by show (grayF r).length + 1 = r.length + 1; rw [grayF_len r]
def swPut (n : Nat) (x : Int) : List Int := grayF (bitsF n x)
theorem swPut_len (n : Nat) (x : Int) : (swPut n x).length = n := by unfold swPut; rw [grayF_len, bitsF_len]
theorem swPut_zero (x : Int) : swPut 0 x = [] := rfl
theorem swPut_one (x : Int) : swPut 1 x = [x % 2] := by
  show [(x % 2 + 0) % 2] = [x % 2]
  rw [show (x % 2 + 0) % 2 = x % 2 by omega]
theorem swPut_succ (n : Nat) (x : Int) : swPut (n + 2) x = (x % 2 + x / 2 % 2) % 2 :: swPut (n + 1) (x / 2) := rfl
/-- a list of figures -/
def Bits (l : List Int) : Prop := ∀ v ∈ l, v = 0 ∨ v = 1
theorem Bits.nil : Bits [] := fun v h => nomatch h
theorem Bits.cons {b : Int} {l : List Int} (h : b = 0 ∨ b = 1) (t : Bits l) : Bits (b :: l) := fun v hv => by
  rcases List.mem_cons.mp hv with e | hv
  · rw [e]; exact h
  · exact t v hv
theorem Bits.tail {b : Int} {l : List Int} (h : Bits (b :: l)) : Bits l := fun v hv => h v (List.mem_cons_of_mem _ hv)
theorem Bits.head {b : Int} {l : List Int} (h : Bits (b :: l)) : b = 0 ∨ b = 1 := h b List.mem_cons_self
theorem Bits.hd0 : ∀ {l : List Int}, Bits l → l.headD 0 = 0 ∨ l.headD 0 = 1
  | [], _ => .inl rfl
  | _ :: _, h => h.head
theorem bitsF_bits : ∀ n x, Bits (bitsF n x)
  | 0, _ => Bits.nil
  | n + 1, x => Bits.cons (by omega) (bitsF_bits n (x / 2))
theorem grayF_bits : ∀ l, Bits (grayF l)
  | [] => Bits.nil
  | b :: r => Bits.cons (by omega) (grayF_bits r)
theorem swPut_bits (n : Nat) (x : Int) : Bits (swPut n x) := grayF_bits _
/-! ### back -/
def ungray : List Int → List Int
  | [] => []
  | t :: r => ((ungray r).headD 0 + t) % 2 :: ungray r
theorem ungray_len : ∀ l, (ungray l).length = l.length
  | [] => rfl
  | _ :: r => by show (ungray r).length + 1 = r.length + 1; rw [ungray_len r]
theorem ungray_bits : ∀ l, Bits (ungray l)
  | [] => Bits.nil
  | t :: r => Bits.cons (by omega) (ungray_bits r)
theorem ungray_gray : ∀ l, Bits l → ungray (grayF l) = l
  | [], _ => rfl
  | b :: r, h => by
    show ((ungray (grayF r)).headD 0 + (b + r.headD 0) % 2) % 2 :: ungray (grayF r) = b :: r
    rw [ungray_gray r h.tail]
    have h1 := h.head
    have h2 := h.tail.hd0
    rw [show (r.headD 0 + (b + r.headD 0) % 2) % 2 = b by omega]
theorem gray_ungray : ∀ l, Bits l → grayF (ungray l) = l
  | [], _ => rfl
  | t :: r, h => by
    show (((ungray r).headD 0 + t) % 2 + (ungray r).headD 0) % 2 :: grayF (ungray r) = t :: r
    rw [gray_ungray r h.tail]
    have h1 := h.head
    have h2 := (ungray_bits r).hd0
    rw [show (((ungray r).headD 0 + t) % 2 + (ungray r).headD 0) % 2 = t by omega]
def valF : List Int → Int
  | [] => 0
  | b :: r => 2 * valF r + b
theorem valF_bits : ∀ n x, 0 ≤ x → x < p2 n → valF (bitsF n x) = x
  | 0, x, h0, h1 => by have h2 : x < 1 := h1
                       show (0 : Int) = x
                       omega
  | n + 1, x, h0, h1 => by
    rw [p2_succ] at h1
    show 2 * valF (bitsF n (x / 2)) + x % 2 = x
    rw [valF_bits n (x / 2) (by omega) (by omega)]
    omega
theorem valF_range : ∀ l, Bits l → 0 ≤ valF l ∧ valF l < p2 l.length
  | [], _ => ⟨Int.le_refl _, by decide⟩
  | b :: r, h => by
    obtain ⟨h1, h2⟩ := valF_range r h.tail
    have h3 := h.head
    show 0 ≤ 2 * valF r + b ∧ 2 * valF r + b < 2 * p2 r.length
    omega
theorem bits_valF : ∀ l, Bits l → bitsF l.length (valF l) = l
  | [], _ => rfl
  | b :: r, h => by
    have h3 := h.head
    show (2 * valF r + b) % 2 :: bitsF r.length ((2 * valF r + b) / 2) = b :: r
    rw [show (2 * valF r + b) / 2 = valF r by omega, show (2 * valF r + b) % 2 = b by omega, bits_valF r h.tail]
def swFound (t : List Int) : Int := valF (ungray t)
theorem swFound_range (t : List Int) : 0 ≤ swFound t ∧ swFound t < p2 t.length := by
  have h := valF_range (ungray t) (ungray_bits t)
  rw [ungray_len] at h
  exact h
theorem swFound_put {n : Nat} {x : Int} (h0 : 0 ≤ x) (h1 : x < p2 n) : swFound (swPut n x) = x := by
  unfold swFound swPut
  rw [ungray_gray _ (bitsF_bits n x), valF_bits n x h0 h1]
theorem swPut_found {t : List Int} (h : Bits t) : swPut t.length (swFound t) = t := by
  unfold swFound swPut
  have e := bits_valF (ungray t) (ungray_bits t)
  rw [ungray_len] at e
  rw [e, gray_ungray t h]
/-! ### the place that changes -/
/-- how many ones stand at the end, at most n - 1 -/
def chg : Nat → Int → Nat
  | 0, _ => 0
  | 1, _ => 0
  | n + 2, x => if x % 2 = 1 then chg (n + 1) (x / 2) + 1 else 0
theorem chg_lt : ∀ n x, chg (n + 1) x < n + 1
  | 0, _ => by show 0 < 1; decide
  | n + 1, x => by
    show (if x % 2 = 1 then chg (n + 1) (x / 2) + 1 else 0) < n + 2
    split
    · have := chg_lt n (x / 2); omega
    · omega
/-- b is a with the place j otherwise -/
def flip : List Int → Nat → List Int
  | [], _ => []
  | b :: r, 0 => (1 - b) :: r
  | b :: r, j + 1 => b :: flip r j
theorem flip_len : ∀ l j, (flip l j).length = l.length
  | [], _ => rfl
  | _ :: _, 0 => rfl
  | _ :: r, j + 1 => by show (flip r j).length + 1 = r.length + 1; rw [flip_len r j]
theorem flip_flip : ∀ l j, flip (flip l j) j = l
  | [], _ => rfl
  | b :: r, 0 => by show (1 - (1 - b)) :: r = b :: r
                    rw [show 1 - (1 - b) = b by omega]
  | b :: r, j + 1 => by show b :: flip (flip r j) j = b :: r
                        rw [flip_flip r j]
theorem flip_bits : ∀ l j, Bits l → Bits (flip l j)
  | [], _, h => h
  | b :: r, 0, h => Bits.cons (by have := h.head; omega) h.tail
  | b :: r, j + 1, h => Bits.cons h.head (flip_bits r j h.tail)
theorem flip_get : ∀ l j k, (flip l j)[k]? = if k = j then l[k]?.map (1 - ·) else l[k]?
  | [], j, k => by simp [flip]
  | b :: r, 0, 0 => by simp [flip]
  | b :: r, 0, k + 1 => by simp [flip]
  | b :: r, j + 1, 0 => by simp [flip]
  | b :: r, j + 1, k + 1 => by
    show (flip r j)[k]? = _
    rw [flip_get r j k]
    simp
theorem next_odd {n : Nat} {x : Int} (h0 : 0 ≤ x) (h1 : x < p2 (n + 1)) (ho : x % 2 = 1) : (x + 1) % p2 (n + 1) % 2 = 0 ∧ (x + 1) % p2 (n + 1) / 2 = (x / 2 + 1) % p2 n := by
  rw [p2_succ] at h1 ⊢
  have hp := p2_pos n
  by_cases h : x + 1 < 2 * p2 n
  · rw [Int.emod_eq_of_lt (by omega) h, Int.emod_eq_of_lt (b := p2 n) (by omega) (by omega)]
    omega
  · have e : x + 1 = 2 * p2 n := by omega
    have e2 : x / 2 + 1 = p2 n := by omega
    rw [e, e2, Int.emod_self, Int.emod_self]
    decide
/-- THE LAW of the change: the thing of the next number is that of the number, with the place chg otherwise -/
theorem swPut_next : ∀ (n : Nat) (x : Int), 0 ≤ x → x < p2 (n + 1) → swPut (n + 1) ((x + 1) % p2 (n + 1)) = flip (swPut (n + 1) x) (chg (n + 1) x)
  | 0, x, h0, h1 => by
    have h2 : x < 2 := h1
    rw [swPut_one, swPut_one]
    show [(x + 1) % 2 % 2] = [1 - x % 2]
    rw [show (x + 1) % 2 % 2 = 1 - x % 2 by omega]
  | n + 1, x, h0, h1 => by
    by_cases ho : x % 2 = 1
    · obtain ⟨a, b⟩ := next_odd h0 h1 ho
      have h1' := h1
      rw [p2_succ] at h1'
      have ih := swPut_next n (x / 2) (by omega) (by omega)
      rw [swPut_succ, swPut_succ, a, b, ih]
      show _ = flip (_ :: _) (if x % 2 = 1 then chg (n + 1) (x / 2) + 1 else 0)
      rw [if_pos ho]
      show _ = _ :: flip _ _
      have e : (x / 2 + 1) % p2 (n + 1) % 2 = (x / 2 + 1) % 2 := by
        exact Int.emod_emod_of_dvd _ ⟨p2 n, rfl⟩
      rw [e, show (0 + (x / 2 + 1) % 2) % 2 = (x % 2 + x / 2 % 2) % 2 by omega]
    · have hp := p2_pos n
      have h1' := h1
      rw [p2_succ, p2_succ] at h1'
      have e : (x + 1) % p2 (n + 2) = x + 1 := Int.emod_eq_of_lt (by omega) (by rw [p2_succ, p2_succ]; omega)
      rw [show n + 1 + 1 = n + 2 from rfl, e, swPut_succ, swPut_succ]
      show _ = flip (_ :: _) (if x % 2 = 1 then chg (n + 1) (x / 2) + 1 else 0)
      rw [if_neg ho]
      show _ = (1 - _) :: _
      rw [show (x + 1) / 2 = x / 2 by omega, show ((x + 1) % 2 + x / 2 % 2) % 2 = 1 - (x % 2 + x / 2 % 2) % 2 by omega]
/-! ### by the last switch -/
theorem swPut_low : ∀ (n : Nat) (x : Int), 0 ≤ x → x < p2 n → swPut (n + 1) x = swPut n x ++ [0]
  | 0, x, h0, h1 => by
    have h2 : x < 1 := h1
    rw [swPut_one, swPut_zero, show x = 0 by omega]
    rfl
  | 1, x, h0, h1 => by
    have h2 : x < 2 := h1
    rw [swPut_succ, swPut_one, swPut_one, show x / 2 = 0 by omega, show (x % 2 + 0 % 2) % 2 = x % 2 by omega]
    rfl
  | n + 2, x, h0, h1 => by
    rw [p2_succ] at h1
    rw [swPut_succ (n + 1), swPut_low (n + 1) (x / 2) (by omega) (by omega), swPut_succ n]
    rfl
theorem swPut_high : ∀ (n : Nat) (x : Int), p2 n ≤ x → x < p2 (n + 1) → swPut (n + 1) x = swPut n (p2 (n + 1) - 1 - x) ++ [1]
  | 0, x, h0, h1 => by
    have h2 : x < 2 := h1
    have h3 : 1 ≤ x := h0
    rw [swPut_one, swPut_zero, show x = 1 by omega]
    rfl
  | 1, x, h0, h1 => by
    have h2 : x < 4 := h1
    have h3 : 2 ≤ x := h0
    rw [show p2 (1 + 1) = 4 from rfl, swPut_succ, swPut_one, swPut_one, show x / 2 = 1 by omega, show (x % 2 + 1 % 2) % 2 = (4 - 1 - x) % 2 by omega]
    rfl
  | n + 2, x, h0, h1 => by
    have e : p2 (n + 2 + 1) = 2 * p2 (n + 2) := p2_succ (n + 2)
    have e2 : p2 (n + 2) = 2 * p2 (n + 1) := p2_succ (n + 1)
    have e3 : p2 (n + 1 + 1) = p2 (n + 2) := rfl
    rw [swPut_succ (n + 1), swPut_high (n + 1) (x / 2) (by omega) (by omega), swPut_succ n]
    rw [show (p2 (n + 2 + 1) - 1 - x) / 2 = p2 (n + 1 + 1) - 1 - x / 2 by omega,
      show ((p2 (n + 2 + 1) - 1 - x) % 2 + (p2 (n + 1 + 1) - 1 - x / 2) % 2) % 2 = (x % 2 + x / 2 % 2) % 2 by omega]
    rfl
/-! ### all on, all off, the last one alone -/
theorem hd_ones : ∀ n : Nat, (ungray (List.replicate n 1)).headD 0 = (n : Int) % 2
  | 0 => rfl
  | n + 1 => by
    show ((ungray (List.replicate n 1)).headD 0 + 1) % 2 = ((n + 1 : Nat) : Int) % 2
    rw [hd_ones n]
    omega
theorem sw_ones : ∀ n : Nat, 3 * swFound (List.replicate n 1) = 2 * p2 n - 1 - (if (n : Int) % 2 = 0 then 1 else 0)
  | 0 => rfl
  | n + 1 => by
    have ih := sw_ones n
    have h := hd_ones n
    show 3 * (2 * swFound (List.replicate n 1) + ((ungray (List.replicate n 1)).headD 0 + 1) % 2) = 2 * (2 * p2 n) - 1 - _
    rw [h]
    by_cases e : (n : Int) % 2 = 0
    · rw [if_pos e] at ih
      rw [if_neg (by omega)]
      omega
    · rw [if_neg e] at ih
      rw [if_pos (by omega)]
      omega
theorem hd_zeros : ∀ n : Nat, (ungray (List.replicate n 0)).headD 0 = 0
  | 0 => rfl
  | n + 1 => by
    show ((ungray (List.replicate n 0)).headD 0 + 0) % 2 = 0
    rw [hd_zeros n]
    rfl
theorem sw_zeros : ∀ n : Nat, swFound (List.replicate n 0) = 0
  | 0 => rfl
  | n + 1 => by
    show 2 * swFound (List.replicate n 0) + ((ungray (List.replicate n 0)).headD 0 + 0) % 2 = 0
    rw [sw_zeros n, hd_zeros n]
    rfl
theorem hd_last : ∀ n : Nat, (ungray (List.replicate n 0 ++ [1])).headD 0 = 1
  | 0 => rfl
  | n + 1 => by
    show ((ungray (List.replicate n 0 ++ [1])).headD 0 + 0) % 2 = 1
    rw [hd_last n]
    rfl
theorem sw_last : ∀ n : Nat, swFound (List.replicate n 0 ++ [1]) = p2 (n + 1) - 1
  | 0 => rfl
  | n + 1 => by
    show 2 * swFound (List.replicate n 0 ++ [1]) + ((ungray (List.replicate n 0 ++ [1])).headD 0 + 0) % 2 = 2 * p2 (n + 1) - 1
    rw [sw_last n, hd_last n]
    omega
end Oc
/-! Rings: the plain law. -/
namespace Oc
def bI (b : Bool) : Int := if b then 1 else 0
theorem bI_bits (bs : List Bool) : Bits (bs.map bI) := fun v hv => by
  obtain ⟨b, _, rfl⟩ := List.mem_map.mp hv
  cases b
  · exact .inl rfl
  · exact .inr rfl
def nb (bs : List Bool) : Int := swFound (bs.map bI)
theorem hd_mod : ∀ l : List Int, (ungray l).headD 0 = swFound l % 2
  | [] => rfl
  | t :: r => by
    show ((ungray r).headD 0 + t) % 2 = (2 * valF (ungray r) + ((ungray r).headD 0 + t) % 2) % 2
    omega
theorem nb_cons (b : Bool) (r : List Bool) : nb (b :: r) = 2 * nb r + (nb r % 2 + bI b) % 2 := by
  show 2 * valF (ungray (r.map bI)) + ((ungray (r.map bI)).headD 0 + bI b) % 2 = _
  rw [hd_mod]
  rfl
theorem nb_range (bs : List Bool) : 0 ≤ nb bs ∧ nb bs < p2 bs.length := by
  have h := swFound_range (bs.map bI)
  rw [List.length_map] at h
  exact h
/-- the state with one ring otherwise -/
def tog : List Bool → Nat → List Bool
  | [], _ => []
  | g :: t, 0 => (!g) :: t
  | g :: t, r + 1 => g :: tog t r
theorem tog_len : ∀ bs r, (tog bs r).length = bs.length
  | [], _ => rfl
  | _ :: _, 0 => rfl
  | _ :: t, r + 1 => by show (tog t r).length + 1 = t.length + 1; rw [tog_len t r]
theorem tog_tog : ∀ bs r, tog (tog bs r) r = bs
  | [], _ => rfl
  | g :: t, 0 => by show (!(!g)) :: t = g :: t; rw [Bool.not_not]
  | g :: t, r + 1 => by show g :: tog (tog t r) r = g :: t; rw [tog_tog t r]
theorem tog_set : ∀ (bs : List Bool) (r : Nat), tog bs r = bs.set r (!bs.getD r false)
  | [], _ => rfl
  | g :: t, 0 => rfl
  | g :: t, r + 1 => by show g :: tog t r = g :: t.set r (!t.getD r false); rw [tog_set t r]
theorem tog_flip : ∀ (bs : List Bool) (r : Nat), (tog bs r).map bI = flip (bs.map bI) r
  | [], _ => rfl
  | g :: t, 0 => by cases g <;> rfl
  | g :: t, r + 1 => by show bI g :: (tog t r).map bI = bI g :: flip (t.map bI) r; rw [tog_flip t r]
/-- the ring can be moved -/
def freeB : List Bool → Nat → Bool
  | [], _ => false
  | _ :: _, 0 => true
  | g :: t, 1 => g && !t.isEmpty
  | g :: t, r + 2 => !g && freeB t (r + 1)
theorem freeB_lt : ∀ {bs : List Bool} {r : Nat}, freeB bs r = true → r < bs.length
  | [], _, h => by cases h
  | _ :: _, 0, _ => Nat.succ_pos _
  | g :: [], 1, h => by simp [freeB] at h
  | g :: a :: t, 1, _ => by simp
  | g :: t, r + 2, h => by
    have h1 : (!g && freeB t (r + 1)) = true := h
    have := freeB_lt (Bool.and_eq_true_iff.mp h1).2
    show r + 2 < t.length + 1
    omega
theorem freeB_eq : ∀ {bs : List Bool} {r : Nat}, r < bs.length → freeB bs r = (decide (r = 0) || (bs.getD (r - 1) false && !(bs.take (r - 1)).contains true))
  | [], _, h => absurd h (Nat.not_lt_zero _)
  | _ :: _, 0, _ => rfl
  | g :: [], 1, h => absurd h (by simp)
  | g :: a :: t, 1, _ => by simp [freeB]
  | g :: t, r + 2, h => by
    have ih := freeB_eq (bs := t) (r := r + 1) (by have h2 : r + 2 < t.length + 1 := h; omega)
    show (!g && freeB t (r + 1)) = _
    rw [ih]
    cases g <;> simp
theorem tog_free : ∀ (bs : List Bool) (r : Nat), freeB (tog bs r) r = freeB bs r
  | [], _ => rfl
  | _ :: _, 0 => rfl
  | g :: [], 1 => rfl
  | g :: a :: t, 1 => rfl
  | g :: t, r + 2 => by
    show (!g && freeB (tog t (r + 1)) (r + 1)) = (!g && freeB t (r + 1))
    rw [tog_free t (r + 1)]
theorem nb_tog : ∀ (bs : List Bool) (r : Nat), freeB bs r = true → (r = 0 → nb (tog bs r) = if nb bs % 2 = 0 then nb bs + 1 else nb bs - 1) ∧ (r ≠ 0 → nb (tog bs r) = if nb bs % 2 = 0 then nb bs - 1 else nb bs + 1)
  | [], _, h => by cases h
  | g :: t, 0, _ => by
    refine ⟨fun _ => ?_, fun z => absurd rfl z⟩
    show nb ((!g) :: t) = _
    rw [nb_cons, nb_cons]
    cases g
    · show 2 * nb t + (nb t % 2 + 1) % 2 = if (2 * nb t + (nb t % 2 + 0) % 2) % 2 = 0 then 2 * nb t + (nb t % 2 + 0) % 2 + 1 else 2 * nb t + (nb t % 2 + 0) % 2 - 1
      generalize nb t = v
      split <;> omega
    · show 2 * nb t + (nb t % 2 + 0) % 2 = if (2 * nb t + (nb t % 2 + 1) % 2) % 2 = 0 then 2 * nb t + (nb t % 2 + 1) % 2 + 1 else 2 * nb t + (nb t % 2 + 1) % 2 - 1
      generalize nb t = v
      split <;> omega
  | g :: [], 1, h => by simp [freeB] at h
  | g :: a :: t, 1, h => by
    refine ⟨(fun z => by cases z), fun _ => ?_⟩
    have hg : g = true := by simpa [freeB] using h
    subst hg
    obtain ⟨i1, _⟩ := nb_tog (a :: t) 0 rfl
    have i := i1 rfl
    show nb (true :: tog (a :: t) 0) = _
    rw [nb_cons, nb_cons, i]
    show 2 * (if nb (a :: t) % 2 = 0 then nb (a :: t) + 1 else nb (a :: t) - 1) + ((if nb (a :: t) % 2 = 0 then nb (a :: t) + 1 else nb (a :: t) - 1) % 2 + 1) % 2 = if (2 * nb (a :: t) + (nb (a :: t) % 2 + 1) % 2) % 2 = 0 then 2 * nb (a :: t) + (nb (a :: t) % 2 + 1) % 2 - 1 else 2 * nb (a :: t) + (nb (a :: t) % 2 + 1) % 2 + 1
    generalize nb (a :: t) = v
    split <;> split <;> omega
  | g :: t, r + 2, h => by
    refine ⟨fun z => by omega, fun _ => ?_⟩
    have h1 : (!g && freeB t (r + 1)) = true := h
    obtain ⟨hg, hf⟩ := Bool.and_eq_true_iff.mp h1
    have hg : g = false := by simpa using hg
    subst hg
    obtain ⟨_, i2⟩ := nb_tog t (r + 1) hf
    have i := i2 (by omega)
    show nb (false :: tog t (r + 1)) = _
    rw [nb_cons, nb_cons, i]
    show 2 * (if nb t % 2 = 0 then nb t - 1 else nb t + 1) + ((if nb t % 2 = 0 then nb t - 1 else nb t + 1) % 2 + 0) % 2 = if (2 * nb t + (nb t % 2 + 0) % 2) % 2 = 0 then 2 * nb t + (nb t % 2 + 0) % 2 - 1 else 2 * nb t + (nb t % 2 + 0) % 2 + 1
    generalize nb t = v
    split <;> split <;> omega
theorem nb_step {bs : List Bool} {r : Nat} (h : freeB bs r = true) : nb (tog bs r) = nb bs + 1 ∨ nb (tog bs r) = nb bs - 1 := by
  obtain ⟨a, b⟩ := nb_tog bs r h
  by_cases e : r = 0
  · have q := a e
    split at q
    · exact .inl q
    · exact .inr q
  · have q := b e
    split at q
    · exact .inr q
    · exact .inl q
/-! ### the state of a number -/
def stOf (n : Nat) (x : Int) : List Bool := (swPut n x).map fun v => decide (v = 1)
theorem st_len (n : Nat) (x : Int) : (stOf n x).length = n := by unfold stOf; rw [List.length_map, swPut_len]
theorem bits_back : ∀ {l : List Int}, Bits l → (l.map fun v => decide (v = 1)).map bI = l
  | [], _ => rfl
  | b :: r, h => by
    show bI (decide (b = 1)) :: (r.map fun v => decide (v = 1)).map bI = b :: r
    rw [bits_back h.tail]
    rcases h.head with e | e <;> rw [e] <;> rfl
theorem bI_back : ∀ bs : List Bool, (bs.map bI).map (fun v => decide (v = 1)) = bs
  | [] => rfl
  | b :: r => by
    show decide (bI b = 1) :: (r.map bI).map (fun v => decide (v = 1)) = b :: r
    rw [bI_back r]
    cases b <;> rfl
theorem st_map (n : Nat) (x : Int) : (stOf n x).map bI = swPut n x := bits_back (swPut_bits n x)
theorem nb_st {n : Nat} {x : Int} (h0 : 0 ≤ x) (h1 : x < p2 n) : nb (stOf n x) = x := by
  unfold nb
  rw [st_map]
  exact swFound_put h0 h1
theorem st_nb (bs : List Bool) : stOf bs.length (nb bs) = bs := by
  have h := swPut_found (bI_bits bs)
  rw [List.length_map] at h
  unfold stOf nb
  rw [h, bI_back]
theorem nb_inj {a b : List Bool} (hl : a.length = b.length) (h : nb a = nb b) : a = b := by rw [← st_nb a, ← st_nb b, hl, h]
theorem st_next {n : Nat} {x : Int} (h0 : 0 ≤ x) (h1 : x + 1 < p2 n) : stOf n (x + 1) = tog (stOf n x) (chg n x) := by
  obtain ⟨m, rfl⟩ : ∃ m, n = m + 1 := by
    cases n with
    | zero =>
      have : x + 1 < 1 := h1
      omega
    | succ m => exact ⟨m, rfl⟩
  have h := swPut_next m x h0 (by omega)
  rw [Int.emod_eq_of_lt (by omega) h1, ← st_map, ← st_map, ← tog_flip] at h
  rw [← bI_back (stOf (m + 1) (x + 1)), h, bI_back]
theorem chg_step' {r : Nat} {y : Int} : chg (r + 2) y = if y % 2 = 1 then chg (r + 1) (y / 2) + 1 else 0 := rfl
theorem st_succ (n : Nat) (x : Int) : stOf (n + 2) x = decide ((x % 2 + x / 2 % 2) % 2 = 1) :: stOf (n + 1) (x / 2) := rfl
theorem chg_free : ∀ (n : Nat) (x : Int), 0 ≤ x → x + 1 < p2 n → freeB (stOf n x) (chg n x) = true
  | 0, x, h0, h1 => by
    have : x + 1 < 1 := h1
    omega
  | 1, x, _, _ => rfl
  | n + 2, x, h0, h1 => by
    have hp : p2 (n + 2) = 2 * p2 (n + 1) := rfl
    rw [st_succ, chg_step']
    split
    · rename_i c
      have ih := chg_free (n + 1) (x / 2) (by omega) (by omega)
      have hl := st_len (n + 1) (x / 2)
      cases hr : chg (n + 1) (x / 2) with
      | zero =>
        have he : x / 2 % 2 = 0 := by
          cases n with
          | zero =>
            have : x + 1 < 4 := h1
            omega
          | succ n =>
            rw [chg_step'] at hr
            split at hr
            · cases hr
            · omega
        cases ht : stOf (n + 1) (x / 2) with
        | nil => rw [ht] at hl; cases hl
        | cons a t =>
          show (decide ((x % 2 + x / 2 % 2) % 2 = 1) && !(a :: t).isEmpty) = true
          rw [decide_eq_true (show (x % 2 + x / 2 % 2) % 2 = 1 by omega)]
          rfl
      | succ k =>
        have ho : x / 2 % 2 = 1 := by
          cases n with
          | zero => cases hr
          | succ n =>
            rw [chg_step'] at hr
            split at hr
            · assumption
            · cases hr
        rw [hr] at ih
        show (!decide ((x % 2 + x / 2 % 2) % 2 = 1) && freeB (stOf (n + 1) (x / 2)) (k + 1)) = true
        rw [ih, decide_eq_false (show ¬ (x % 2 + x / 2 % 2) % 2 = 1 by omega)]
        rfl
    · rfl
/-! ### the way -/
def wayF (n : Nat) (x y : Int) : List Nat := if x ≤ y then (List.range (y - x).toNat).map fun i : Nat => chg n (x + (i : Int)) else (List.range (x - y).toNat).map fun i : Nat => chg n (x - 1 - (i : Int))
theorem way_len (n : Nat) (x y : Int) : (wayF n x y).length = (if y - x < 0 then -(y - x) else y - x).toNat := by
  unfold wayF
  split
  · rw [List.length_map, List.length_range, if_neg (by omega)]
  · rw [List.length_map, List.length_range, if_pos (by omega)]
    congr 1
    omega
def walkB : List Bool → List Nat → Option (List Bool)
  | bs, [] => some bs
  | bs, r :: rs => if freeB bs r = true then walkB (tog bs r) rs else none
theorem range_cons {α : Type} (d : Nat) (f : Nat → α) : (List.range (d + 1)).map f = f 0 :: (List.range d).map fun i => f (i + 1) := by
  rw [List.range_succ_eq_map, List.map_cons, List.map_map]
  rfl
theorem walk_up {n : Nat} : ∀ (d : Nat) (x : Int), 0 ≤ x → x + d < p2 n → walkB (stOf n x) ((List.range d).map fun i : Nat => chg n (x + (i : Int))) = some (stOf n (x + d))
  | 0, x, _, _ => by
    show some (stOf n x) = some (stOf n (x + 0))
    rw [Int.add_zero]
  | d + 1, x, h0, h1 => by
    rw [range_cons]
    show (if freeB (stOf n x) (chg n (x + ((0 : Nat) : Int))) = true then _ else _) = _
    have e0 : x + ((0 : Nat) : Int) = x := Int.add_zero x
    rw [e0, if_pos (chg_free n x h0 (by omega)), ← st_next (n := n) h0 (by omega)]
    have ih := walk_up (n := n) d (x + 1) (by omega) (by omega)
    rw [show x + ((d + 1 : Nat) : Int) = x + 1 + (d : Int) by omega, ← ih]
    congr 1
    apply List.map_congr_left
    intro i _
    rw [show x + ((i + 1 : Nat) : Int) = x + 1 + (i : Int) by omega]
theorem walk_down {n : Nat} : ∀ (d : Nat) (x : Int), 0 ≤ x - d → x < p2 n → walkB (stOf n x) ((List.range d).map fun i : Nat => chg n (x - 1 - (i : Int))) = some (stOf n (x - d))
  | 0, x, _, _ => by
    show some (stOf n x) = some (stOf n (x - 0))
    rw [Int.sub_zero]
  | d + 1, x, h0, h1 => by
    rw [range_cons]
    show (if freeB (stOf n x) (chg n (x - 1 - ((0 : Nat) : Int))) = true then _ else _) = _
    have e0 : x - 1 - ((0 : Nat) : Int) = x - 1 := Int.sub_zero _
    have nx := st_next (n := n) (x := x - 1) (by omega) (by omega)
    rw [show x - 1 + 1 = x by omega] at nx
    have fr : freeB (stOf n x) (chg n (x - 1)) = true := by
      rw [nx, tog_free]
      exact chg_free n (x - 1) (by omega) (by omega)
    have bk : tog (stOf n x) (chg n (x - 1)) = stOf n (x - 1) := by rw [nx, tog_tog]
    rw [e0, if_pos fr, bk]
    have ih := walk_down (n := n) d (x - 1) (by omega) (by omega)
    rw [show x - ((d + 1 : Nat) : Int) = x - 1 - (d : Int) by omega, ← ih]
    congr 1
    apply List.map_congr_left
    intro i _
    rw [show x - 1 - ((i + 1 : Nat) : Int) = x - 1 - 1 - (i : Int) by omega]
theorem way_walk {n : Nat} {x y : Int} (hx : 0 ≤ x ∧ x < p2 n) (hy : 0 ≤ y ∧ y < p2 n) : walkB (stOf n x) (wayF n x y) = some (stOf n y) := by
  unfold wayF
  split
  · rw [walk_up (n := n) (y - x).toNat x hx.1 (by omega), show x + (((y - x).toNat : Nat) : Int) = y by omega]
  · rw [walk_down (n := n) (x - y).toNat x (by omega) hx.2, show x - (((x - y).toNat : Nat) : Int) = y by omega]
theorem way_back (n : Nat) (x y : Int) : wayF n y x = (wayF n x y).reverse := by
  have rv : ∀ (d : Nat) (f : Nat → Nat), ((List.range d).map f).reverse = (List.range d).map fun i => f (d - 1 - i) := fun d f => by
    apply List.ext_getElem
    · simp
    · intro i h1 h2
      simp [List.getElem_reverse]
  by_cases e : x = y
  · subst e
    unfold wayF
    rw [if_pos (Int.le_refl _), Int.sub_self]
    rfl
  · unfold wayF
    by_cases c : x ≤ y
    · rw [if_pos c, if_neg (by omega), rv]
      apply List.map_congr_left
      intro i hi
      have := List.mem_range.mp hi
      congr 1
      omega
    · rw [if_neg c, if_pos (by omega), rv]
      apply List.map_congr_left
      intro i hi
      have := List.mem_range.mp hi
      congr 1
      omega
theorem chg_ne {n : Nat} {x : Int} (hn : 2 ≤ n) : chg n x ≠ chg n (x + 1) := by
  obtain ⟨m, rfl⟩ : ∃ m, n = m + 2 := ⟨n - 2, by omega⟩
  rw [chg_step', chg_step']
  by_cases c : x % 2 = 1
  · rw [if_pos c, if_neg (by omega)]
    omega
  · rw [if_neg c, if_pos (by omega)]
    omega
/-- no ring comes twice running -/
theorem way_run {n : Nat} {x y : Int} (hx : 0 ≤ x ∧ x < p2 n) (hy : 0 ≤ y ∧ y < p2 n) {i : Nat} {a b : Nat} (h1 : (wayF n x y)[i]? = some a) (h2 : (wayF n x y)[i + 1]? = some b) : a ≠ b := by
  have hl := (List.getElem?_eq_some_iff.mp h2).1
  have n2 : 2 ≤ n := by
    rw [way_len] at hl
    have : 2 < p2 n := by split at hl <;> omega
    match n, this with
    | 0, q => exact absurd q (by decide)
    | 1, q => exact absurd q (by decide)
    | n + 2, _ => omega
  unfold wayF at h1 h2 hl
  by_cases c : x ≤ y
  · rw [if_pos c] at h1 h2 hl
    rw [List.length_map, List.length_range] at hl
    rw [List.getElem?_map, List.getElem?_range (by omega)] at h1 h2
    have e1 : chg n (x + (i : Int)) = a := Option.some.inj h1
    have e2 : chg n (x + ((i + 1 : Nat) : Int)) = b := Option.some.inj h2
    rw [← e1, ← e2, show x + ((i + 1 : Nat) : Int) = x + (i : Int) + 1 by omega]
    exact chg_ne n2
  · rw [if_neg c] at h1 h2 hl
    rw [List.length_map, List.length_range] at hl
    rw [List.getElem?_map, List.getElem?_range (by omega)] at h1 h2
    have e1 : chg n (x - 1 - (i : Int)) = a := Option.some.inj h1
    have e2 : chg n (x - 1 - ((i + 1 : Nat) : Int)) = b := Option.some.inj h2
    rw [← e1, ← e2, show x - 1 - (i : Int) = (x - 1 - ((i + 1 : Nat) : Int)) + 1 by omega]
    exact (chg_ne n2).symm
end Oc
/-! Rings: which can be moved, how many. -/
namespace Oc
theorem take_has {bs : List Bool} {m : Nat} : (bs.take m).contains true = true ↔ ∃ k, k < m ∧ bs.getD k false = true := by
  rw [List.contains_iff_mem, List.mem_iff_getElem?]
  constructor
  · rintro ⟨k, hk⟩
    rw [List.getElem?_take] at hk
    split at hk
    · rename_i h
      refine ⟨k, h, ?_⟩
      rw [List.getD_eq_getElem?_getD, hk]
      rfl
    · cases hk
  · rintro ⟨k, h, hk⟩
    refine ⟨k, ?_⟩
    rw [List.getElem?_take, if_pos h]
    rw [List.getD_eq_getElem?_getD] at hk
    cases e : bs[k]? with
    | none => rw [e] at hk; cases hk
    | some b => rw [e] at hk; exact congrArg some hk
/-- the rings that can be moved -/
def freeM (bs : List Bool) : List Nat := (List.range bs.length).filter (freeB bs)
theorem filt_two (i : Nat) : ∀ n : Nat, (List.range n).filter (fun r => decide (r = 0) || decide (r = i + 1)) = if n = 0 then [] else if n ≤ i + 1 then [0] else [0, i + 1]
  | 0 => rfl
  | n + 1 => by
    rw [List.range_succ, List.filter_append, filt_two i n]
    by_cases h0 : n = 0
    · subst h0
      rw [if_pos rfl, if_neg (by omega), if_pos (by omega)]
      rfl
    · by_cases h1 : n = i + 1
      · subst h1
        rw [if_neg (by omega), if_pos (by omega), if_neg (by omega), if_neg (by omega)]
        simp
      · have f : [n].filter (fun r => decide (r = 0) || decide (r = i + 1)) = [] := by simp [h0, h1]
        rw [f, List.append_nil, if_neg h0, if_neg (show ¬ n + 1 = 0 by omega)]
        by_cases h2 : n ≤ i + 1
        · rw [if_pos h2, if_pos (by omega)]
        · rw [if_neg h2, if_neg (by omega)]
theorem filt_eq {l : List Nat} {p q : Nat → Bool} (h : ∀ x ∈ l, p x = q x) : l.filter p = l.filter q := List.filter_congr h
theorem free_at {bs : List Bool} {i : Nat} (hi : i + 1 < bs.length) (h1 : bs.getD i false = true) (h0 : ∀ k, k < i → bs.getD k false = false) : freeM bs = [0, i + 1] := by
  unfold freeM
  rw [filt_eq (q := fun r => decide (r = 0) || decide (r = i + 1)) fun r hr => ?_, filt_two, if_neg (by omega), if_neg (by omega)]
  rw [freeB_eq (List.mem_range.mp hr)]
  by_cases e0 : r = 0
  · rw [decide_eq_true e0]; rfl
  · rw [decide_eq_false e0, Bool.false_or, Bool.false_or]
    by_cases e1 : r = i + 1
    · subst e1
      have n : (bs.take (i + 1 - 1)).contains true = false := by
        rw [Bool.eq_false_iff]
        intro z
        obtain ⟨k, hk, t⟩ := take_has.mp z
        rw [h0 k (by omega)] at t
        cases t
      rw [n, show i + 1 - 1 = i by omega, h1, decide_eq_true rfl]
      rfl
    · rw [decide_eq_false e1]
      by_cases e2 : r ≤ i
      · rw [h0 (r - 1) (by omega)]
        rfl
      · have n : (bs.take (r - 1)).contains true = true := take_has.mpr ⟨i, by omega, h1⟩
        rw [n]
        simp
theorem free_one {bs : List Bool} (hl : 0 < bs.length) (h0 : ∀ k, k + 1 < bs.length → bs.getD k false = false) : freeM bs = [0] := by
  unfold freeM
  rw [filt_eq (q := fun r => decide (r = 0) || decide (r = bs.length + 1)) fun r hr => ?_, filt_two, if_neg (by omega), if_pos (by omega)]
  have hr' := List.mem_range.mp hr
  rw [freeB_eq hr', decide_eq_false (show ¬ r = bs.length + 1 by omega)]
  by_cases e0 : r = 0
  · rw [decide_eq_true e0]; rfl
  · rw [h0 (r - 1) (by omega)]
    rfl
/-- the first ring that is on -/
theorem first_on (bs : List Bool) : ∀ n : Nat, (∀ k, k < n → bs.getD k false = false) ∨ ∃ i, i < n ∧ bs.getD i false = true ∧ ∀ k, k < i → bs.getD k false = false
  | 0 => .inl fun k h => by omega
  | n + 1 => by
    rcases first_on bs n with h | ⟨i, hi, h1, h0⟩
    · cases e : bs.getD n false with
      | true => exact .inr ⟨n, by omega, e, h⟩
      | false =>
        refine .inl fun k hk => ?_
        by_cases z : k = n
        · rw [z]
          exact e
        · exact h k (by omega)
    · exact .inr ⟨i, by omega, h1, h0⟩
theorem nb_end : ∀ bs : List Bool, 0 < bs.length → ((nb bs = 0 ∨ nb bs = p2 bs.length - 1) ↔ ∀ k, k + 1 < bs.length → bs.getD k false = false)
  | [], h => by cases h
  | [b], _ => by
    refine ⟨fun _ k hk => by simp at hk, fun _ => ?_⟩
    cases b
    · exact .inl (by decide)
    · exact .inr (by decide)
  | b :: c :: r, _ => by
    have ih := nb_end (c :: r) (Nat.succ_pos _)
    have rg := nb_range (c :: r)
    have ev : p2 (c :: r).length = 2 * p2 r.length := rfl
    have e2 : p2 (b :: c :: r).length = 2 * p2 (c :: r).length := rfl
    have cs : (∀ k, k + 1 < (b :: c :: r).length → (b :: c :: r).getD k false = false) ↔ (b = false ∧ ∀ k, k + 1 < (c :: r).length → (c :: r).getD k false = false) := by
      constructor
      · intro h
        refine ⟨h 0 (by simp), fun k hk => h (k + 1) (by simp at hk ⊢; omega)⟩
      · rintro ⟨hb, h⟩ k hk
        match k, hk with
        | 0, _ => exact hb
        | k + 1, hk => exact h k (by simp at hk ⊢; omega)
    rw [cs, ← ih, nb_cons, e2]
    rw [ev] at rg ⊢
    generalize nb (c :: r) = v at rg ⊢
    generalize p2 r.length = t at rg ⊢
    cases b
    · show (2 * v + (v % 2 + 0) % 2 = 0 ∨ 2 * v + (v % 2 + 0) % 2 = 2 * (2 * t) - 1) ↔ (false = false ∧ (v = 0 ∨ v = 2 * t - 1))
      constructor
      · intro h; exact ⟨rfl, by omega⟩
      · rintro ⟨_, h⟩; omega
    · show (2 * v + (v % 2 + 1) % 2 = 0 ∨ 2 * v + (v % 2 + 1) % 2 = 2 * (2 * t) - 1) ↔ (true = false ∧ (v = 0 ∨ v = 2 * t - 1))
      constructor
      · intro h; omega
      · rintro ⟨h, _⟩; cases h
/-- how many rings can be moved -/
theorem free_len (bs : List Bool) : (freeM bs).length = if bs.length = 0 then 0 else if nb bs = 0 ∨ nb bs = p2 bs.length - 1 then 1 else 2 := by
  by_cases hl : bs.length = 0
  · rw [if_pos hl]
    unfold freeM
    rw [hl]
    rfl
  · rw [if_neg hl]
    rcases first_on bs (bs.length - 1) with h | ⟨i, hi, h1, h0⟩
    · have h' : ∀ k, k + 1 < bs.length → bs.getD k false = false := fun k hk => h k (by omega)
      rw [if_pos ((nb_end bs (by omega)).mpr h'), free_one (by omega) h']
      rfl
    · rw [if_neg (fun z => ?_), free_at (by omega) h1 h0]
      · rfl
      · have := (nb_end bs (by omega)).mp z i (by omega)
        rw [h1] at this
        cases this
end Oc
namespace Oc
open PySem PySem.Spec PyProof.Rows L2 Evl
abbrev Stt := L2.St
/-! ### where a def stands, its promise -/
abbrev aG (K : PySem.W.Frag) (x : Str) : Addr := He.ga K x
abbrev aM (K : PySem.W.Frag) (c m : Str) : Addr := He.ma K (He.ga K c) m
/-- the def at f keeps sp -/
def Pr (P : Program) (w : World) (K : PySem.W.Frag) (mg : Str → Option Value) (base : Heap) (k : Nat) (f : Addr) (ps : List Str) (sp : Sp) : Prop :=
  ∃ fd : FuncData, FnOk P w K mg base (L2N.CX P w) k f fd ps sp ∧ Binds K fd ps [] ∧ PySem.W.keepIn K (.ref f) = true
/-- the def of the statement st stands at f -/
abbrev Df (K : PySem.W.Frag) (x qual : Str) (st : Stmt) (f : Addr) : Prop := ∃ fd : FuncData, FunD K x qual (defArgs st) (defBody st) (defScope st) [] [] f fd
/-- how its parameters are bound -/
abbrev Bd (x qual : Str) (st : Stmt) (ps : List Str) : Prop := ∀ (kV doc pm : Value) (an : Option Addr) (cdv ct : Value) (us : List Value), us.length = ps.length →
  bindArgs (PySem.W.fnOf x qual (defArgs st) (defBody st) (defScope st) .none kV doc pm an cdv ct) ⟨us, []⟩ = pure (ps.zip us)
section
variable {P : Program} {w : World} {K : PySem.W.Frag} {mg : Str → Option Value} {base : Heap}
theorem pr_mk {x qual : Str} {st : Stmt} {f : Addr} {N ps : List Str} {k : Nat} {sp : Sp} (D : Df K x qual st f) (S : FnScope N ps (defScope st)) (hb : Bd x qual st ps) (len : ∀ vs H Q E, sp vs H Q E → vs.length = ps.length)
    (body : ∀ (cdv : Value) (A : Around) (outer : List Env) (s : Shared) (H : Hp) (vs : List V) (Q : VK) (E : XK), Room k (A.deeper (envOfC qual (defScope st) s.heap.objs.size f cdv)) → sp vs H Q E →
      ∃ t, PSs (cxOf (L2N.CX P w) P w K mg base N qual (defScope st) f cdv A outer s H E) (defBody st) t ∧ t { nx := fun _ H' => Q .non H', rt := Q } (start N vs) H) : Pr P w K mg base (k + 1) f ps sp := by
  obtain ⟨fd, F⟩ := D
  exact ⟨fd, F.ok S len body, F.bindsN hb, F.kp⟩
/-- nothing is raised -/
theorem pr_mk0 {x qual : Str} {st : Stmt} {f : Addr} {N ps : List Str} {k : Nat} {sp : Sp} (D : Df K x qual st f) (S : FnScope N ps (defScope st)) (hb : Bd x qual st ps) (len : ∀ vs H Q E, sp vs H Q E → vs.length = ps.length)
    (body : ∀ (cdv : Value) (A : Around) (outer : List Env) (s : Shared) (H : Hp) (vs : List V) (Q : VK) (E : XK), Room k (A.deeper (envOfC qual (defScope st) s.heap.objs.size f cdv)) → sp vs H Q E →
      ∃ t, PSs (cxOf (L2N.CX P w) P w K mg base N qual (defScope st) f cdv A outer s H E).nox (defBody st) t ∧ t { nx := fun _ H' => Q .non H', rt := Q } (start N vs) H) : Pr P w K mg base (k + 1) f ps sp :=
  pr_mk D S hb len fun cdv A outer s H vs Q E hr h => by
    obtain ⟨t, p, q⟩ := body cdv A outer s H vs Q E hr h
    exact ⟨t, p.nox, q⟩
theorem Pr.mono {j k : Nat} {f : Addr} {ps : List Str} {sp : Sp} (p : Pr P w K mg base j f ps sp) (h : j ≤ k) : Pr P w K mg base k f ps sp := by
  obtain ⟨fd, G, b, kp⟩ := p
  exact ⟨fd, G.mono h, b, kp⟩
theorem Pr.imp {k : Nat} {f : Addr} {ps : List Str} {sp sp' : Sp} (p : Pr P w K mg base k f ps sp) (h : ∀ vs H Q E, sp' vs H Q E → sp vs H Q E) : Pr P w K mg base k f ps sp' := by
  obtain ⟨fd, G, b, kp⟩ := p
  exact ⟨fd, G.imp h, b, kp⟩
end
theorem cx_none {P : Program} {w : World} {outer : List Env} {H : Hp} {s : Shared} {e : Value} {s' : Shared} (h : L2N.CX P w outer H s E0 e s') : False := by
  obtain ⟨_, _, _, _, _, _, _, _, _, _, _, _, z⟩ := h
  exact z.elim
section
variable {P : Program} {w : World} {K : PySem.W.Frag} {mg : Str → Option Value} {base : Heap}
/-- a def that lets nothing out -/
theorem fn_calm {k : Nat} {f : Addr} {fd : FuncData} {ps : List Str} {sp : Sp} (F : FnOk P w K mg base (L2N.CX P w) k f fd ps sp) (h : ∀ vs H Q E, sp vs H Q E → sp vs H Q E0) : FnOk P w K mg base CX0 k f fd ps sp :=
  ⟨F.len, fun A outer s H args us vs Q E hr he hb hv hs => codeAny_mono (F.run A outer s H args us vs Q E0 hr he hb hv (h _ _ _ _ hs)) fun r s' hq => by
    cases r with
    | error e => exact (cx_none hq).elim
    | ok fl => cases fl <;> exact hq⟩
theorem fn_mk0 {x qual : Str} {st : Stmt} {f : Addr} {fd : FuncData} {N ps : List Str} {k : Nat} {sp : Sp} (F : FunD K x qual (defArgs st) (defBody st) (defScope st) [] [] f fd) (S : FnScope N ps (defScope st)) (len : ∀ vs H Q E, sp vs H Q E → vs.length = ps.length)
    (body : ∀ (cdv : Value) (A : Around) (outer : List Env) (s : Shared) (H : Hp) (vs : List V) (Q : VK) (E : XK), Room k (A.deeper (envOfC qual (defScope st) s.heap.objs.size f cdv)) → sp vs H Q E →
      ∃ t, PSs (cxOf (L2N.CX P w) P w K mg base N qual (defScope st) f cdv A outer s H E).nox (defBody st) t ∧ t { nx := fun _ H' => Q .non H', rt := Q } (start N vs) H) : FnOk P w K mg base (L2N.CX P w) (k + 1) f fd ps sp :=
  F.ok S len fun cdv A outer s H vs Q E hr h => by
    obtain ⟨t, p, q⟩ := body cdv A outer s H vs Q E hr h
    exact ⟨t, p.nox, q⟩
/-- what the law promises -/
def spLaw (K : PySem.W.Frag) : Sp := fun vs H Q _ => ∃ (a : Addr) (ns : List Int), vs = [.ref a] ∧ SqL K H a (ns.map V.int) ∧ ns.length ≤ 63 ∧ ∀ H', Q (.bl true) H'
end
/-! ### more facts of the head -/
/-- an instance of C is one of D -/
def IsL (K : PySem.W.Frag) (C D : Addr) : Prop := PySem.W.findIn K (.ref C) "__class__" = some (some (.builtin "object.__class__")) ∧ PySem.W.specialIn K (.builtin "object.__class__") "__get__" = some (some (.builtin "getset_descriptor.__get__")) ∧
  PySem.W.takesIn K (.builtin "object.__class__") = some true ∧ PySem.W.mroIn K C (.type "object") = some true ∧ PySem.W.kitOne K (.ref C) (.ref D) = some true
def isLB (x y : Str) (K : PySem.W.Frag) : Bool := He.eqO (PySem.W.findIn K (.ref (aG K x)) "__class__") (some (some (.builtin "object.__class__"))) && (He.eqO (PySem.W.specialIn K (.builtin "object.__class__") "__get__") (some (some (.builtin "getset_descriptor.__get__"))) &&
  (decide (PySem.W.takesIn K (.builtin "object.__class__") = some true) && (decide (PySem.W.mroIn K (aG K x) (.type "object") = some true) && decide (PySem.W.kitOne K (.ref (aG K x)) (.ref (aG K y)) = some true))))
theorem isL_ok {x y : Str} {K : PySem.W.Frag} (c : isLB x y K = true) : IsL K (aG K x) (aG K y) := by
  obtain ⟨c1, c⟩ := He.ba c
  obtain ⟨c2, c⟩ := He.ba c
  obtain ⟨c3, c⟩ := He.ba c
  obtain ⟨c4, c5⟩ := He.ba c
  exact ⟨He.eqO_ok c1, He.eqO_ok c2, of_decide_eq_true c3, of_decide_eq_true c4, of_decide_eq_true c5⟩
theorem xok {xl : List (PySem.W.Frag → Bool)} {K : PySem.W.Frag} (c : (xl.all fun f => f K) = true) (i : Nat) {f : PySem.W.Frag → Bool} (h : xl[i]? = some f) : f K = true := List.all_eq_true.mp c f (List.mem_of_getElem? h)
/-! ### what an expression gives: v with G -/
/-- a fresh address, if an address -/
def Frs (v : V) (H : Hp) : Prop := ∀ p, v = .ref p → H p = none
theorem Frs.int {i : Int} {H : Hp} : Frs (.int i) H := fun p e => by cases e
theorem Frs.bl {i : Bool} {H : Hp} : Frs (.bl i) H := fun p e => by cases e
theorem Frs.ref {p : Addr} {H : Hp} (h : H p = none) : Frs (.ref p) H := fun q e => by cases e; exact h
theorem Frs.back {v : V} {H H' : Hp} (e : Ex H H') (h : Frs v H') : Frs v H := fun p q => fresh_back e (h p q)
def EvX (te : TE) (σ : Stt) (H : Hp) (G : V → Hp → Prop) : Prop := ∀ H1, Ex H H1 → ∀ Q : VK, (∀ v H2, Ex H1 H2 → G v H2 → Q v H2) → te σ H1 Q
def EvN (te : TE) (σ : Stt) (H : Hp) (G : V → Hp → Prop) : Prop := ∀ H1, Ex H H1 → ∀ Q : VK, (∀ v H2, Ex H1 H2 → Frs v H1 → G v H2 → Q v H2) → te σ H1 Q
def RetX (G : V → Hp → Prop) (H : Hp) (Q : VK) : Prop := ∀ v H2, Ex H H2 → G v H2 → Q v H2
def RetN (G : V → Hp → Prop) (H : Hp) (Q : VK) : Prop := ∀ v H2, Ex H H2 → Frs v H → G v H2 → Q v H2
def SpX (sp : Sp) (vs : List V) (H : Hp) (G : V → Hp → Prop) : Prop := ∀ H1, Ex H H1 → ∀ Q : VK, (∀ v H2, Ex H1 H2 → G v H2 → Q v H2) → ∀ E : XK, sp vs H1 Q E
def SpN (sp : Sp) (vs : List V) (H : Hp) (G : V → Hp → Prop) : Prop := ∀ H1, Ex H H1 → ∀ Q : VK, (∀ v H2, Ex H1 H2 → Frs v H1 → G v H2 → Q v H2) → ∀ E : XK, sp vs H1 Q E
section
variable {K : PySem.W.Frag} {σ : Stt} {H H' : Hp} {ta tb te : TE} {t u : TT} {x y z v : V} {r : R2} {D : Ends} {tu tw tz : TS} {g : TG} {G : V → Hp → Prop} {xs : List V}
theorem RetV.ex {Q : VK} (k : RetV v H Q) (e : Ex H H') : RetV v H' Q := fun H2 e2 => k H2 (e.trans e2)
theorem RetX.ex {Q : VK} (k : RetX G H Q) (e : Ex H H') : RetX G H' Q := fun v H2 e2 g => k v H2 (e.trans e2) g
theorem RetN.ex {Q : VK} (k : RetN G H Q) (e : Ex H H') : RetN G H' Q := fun v H2 e2 f g => k v H2 (e.trans e2) (f.back e) g
theorem RetL.ex {Q : VK} (k : RetL xs H Q) (e : Ex H H') : RetL xs H' Q := fun p H2 f e2 g => k p H2 (fresh_back e f) (e.trans e2) g
/-! #### attributes, methods, instances -/
theorem ev_fld {p C dx : Addr} {fs : List (Str × V)} {f : Str} (h : Ev te σ H (.ref p)) (hi : H p = some (.ins C dx fs)) (c : Cls K C) (n : NoAttr K C f) (l : fs.lookup f = some v) : Ev (tFld K te f) σ H v := fun H1 e Q q =>
  h H1 e _ fun H2 e2 => ⟨p, C, dx, fs, v, rfl, (e.trans e2) _ _ hi, c, n, l, q H2 e2⟩
theorem ev_meth {p C dx : Addr} {fs : List (Str × V)} {m : Str} {sp : Sp} {E : XK} {ta : TA} {vs : List V} (h : Ev te σ H (.ref p)) (hi : H p = some (.ins C dx fs)) (l : fs.lookup m = none) (ha : EvA ta σ H vs) (hs : SpV sp (.ref p :: (vs ++ [])) H z) :
    Ev (tMeth C m sp [] E te ta) σ H z := fun H1 e Q q =>
  h H1 e _ fun H2 e2 => ⟨p, dx, fs, rfl, (e.trans e2) _ _ hi, l, ha H2 (e.trans e2) _ fun H3 e3 => hs H3 ((e.trans e2).trans e3) Q (fun H4 e4 => q H4 ((e2.trans e3).trans e4)) E⟩
theorem el_meth {p C dx : Addr} {fs : List (Str × V)} {m : Str} {sp : Sp} {E : XK} {ta : TA} {vs : List V} (h : Ev te σ H (.ref p)) (hi : H p = some (.ins C dx fs)) (l : fs.lookup m = none) (ha : EvA ta σ H vs) (hs : SpL sp (.ref p :: (vs ++ [])) H xs) :
    EvL (tMeth C m sp [] E te ta) σ H xs := fun H1 e Q q =>
  h H1 e _ fun H2 e2 => ⟨p, dx, fs, rfl, (e.trans e2) _ _ hi, l, ha H2 (e.trans e2) _ fun H3 e3 => hs H3 ((e.trans e2).trans e3) Q (fun r H4 f e4 h4 => q r H4 (fresh_back (e2.trans e3) f) ((e2.trans e3).trans e4) h4) E⟩
theorem en_call {sp : Sp} {E : XK} {ta : TA} {vs : List V} (h : EvA ta σ H vs) (hs : SpN sp (vs ++ []) H G) : EvN (tCall sp [] E ta) σ H G := fun H1 e Q q =>
  h H1 e _ fun H2 e2 => hs H2 (e.trans e2) Q (fun v H3 e3 f h3 => q v H3 (e2.trans e3) (f.back e2) h3) E
theorem ex_call {sp : Sp} {E : XK} {ta : TA} {vs : List V} (h : EvA ta σ H vs) (hs : SpX sp (vs ++ []) H G) : EvX (tCall sp [] E ta) σ H G := fun H1 e Q q =>
  h H1 e _ fun H2 e2 => hs H2 (e.trans e2) Q (fun v H3 e3 h3 => q v H3 (e2.trans e3) h3) E
/-- C(..): what __init__ promises of the new instance -/
def InitN (C : Addr) (sp : Sp) (vs : List V) (H : Hp) (G : V → Hp → Prop) : Prop := ∀ H1, Ex H H1 → ∀ x dx, H1 x = none → H1 dx = none → dx ≠ x → ∀ Q : VK, (∀ H2, Ex H1 H2 → G (.ref x) H2 → Q .non H2) → ∀ E : XK,
  sp (.ref x :: (vs ++ [])) (upd (upd H1 dx (.own x)) x (.ins C dx [])) Q E
theorem en_make {C : Addr} {sp : Sp} {E : XK} {ta : TA} {vs : List V} (h : EvA ta σ H vs) (hs : InitN C sp vs H G) : EvN (tMake C sp [] E ta) σ H G := fun H1 e Q q =>
  h H1 e _ fun H2 e2 x dx hx hd ne => hs H2 (e.trans e2) x dx hx hd ne _ (fun H3 e3 g3 => ⟨rfl, q (.ref x) H3 (e2.trans e3) ((Frs.ref hx).back e2) g3⟩) E
/-! #### statements -/
theorem s_asgN {i : Nat} (h : EvN te σ H G) (k : ∀ v H1, Frs v H → Ex H H1 → G v H1 → D.nx (σ.set i (some v)) H1) : tAsg te (gName i) D σ H := h H (Ex.refl H) _ fun v H1 e f g => k v H1 f e g
theorem q_asgN {i : Nat} (h : EvN te σ H G) (k : ∀ v H1, Frs v H → Ex H H1 → G v H1 → tz D (σ.set i (some v)) H1) : tSeq (tAsg te (gName i)) tz D σ H := s_asgN (D := { D with nx := tz D }) h k
theorem s_asgX {i : Nat} (h : EvX te σ H G) (k : ∀ v H1, Ex H H1 → G v H1 → D.nx (σ.set i (some v)) H1) : tAsg te (gName i) D σ H := h H (Ex.refl H) _ fun v H1 e g => k v H1 e g
theorem q_asgX {i : Nat} (h : EvX te σ H G) (k : ∀ v H1, Ex H H1 → G v H1 → tz D (σ.set i (some v)) H1) : tSeq (tAsg te (gName i)) tz D σ H := s_asgX (D := { D with nx := tz D }) h k
theorem s_retX (h : EvX te σ H G) (k : ∀ v H1, Ex H H1 → G v H1 → D.rt v H1) : tRet te D σ H := h H (Ex.refl H) _ fun v H1 e g => k v H1 e g
theorem s_retN (h : EvN te σ H G) (k : ∀ v H1, Frs v H → Ex H H1 → G v H1 → D.rt v H1) : tRet te D σ H := h H (Ex.refl H) _ fun v H1 e f g => k v H1 f e g
theorem s_retv {Q : VK} (h : Ev te σ H v) (k : RetV v H Q) (hq : D.rt = Q := by rfl) : tRet te D σ H := by
  subst hq
  exact h H (Ex.refl H) _ fun H1 e => k H1 e
theorem s_retl {Q : VK} (h : EvL te σ H xs) (k : RetL xs H Q) (hq : D.rt = Q := by rfl) : tRet te D σ H := by
  subst hq
  exact h H (Ex.refl H) _ fun p H1 f e g => k p H1 f e g
/-! #### more values -/
theorem rv_idiv {i j : Int} (h : CDiv i j) : RV (rI CDiv fun i j => .int (i / j)) (.int i) (.int j) H (.int (i / j)) := rv_I h
theorem ev_int1 {i : Int} (h : Ev te σ H (.int i)) : Ev (tCB (fun xs H Q => (∃ i, xs = [.int i] ∧ Q (.int i) H) ∨ ∃ k, xs = [.bl k] ∧ Q (.int (if k then 1 else 0)) H) (tCons te tNil)) σ H (.int i) := fun H1 e Q q =>
  h H1 e _ fun H2 e2 => .inl ⟨i, rfl, q H2 e2⟩
theorem ev_int1b {b : Bool} (h : Ev te σ H (.bl b)) : Ev (tCB (fun xs H Q => (∃ i, xs = [.int i] ∧ Q (.int i) H) ∨ ∃ k, xs = [.bl k] ∧ Q (.int (if k then 1 else 0)) H) (tCons te tNil)) σ H (.int (if b then 1 else 0)) := fun H1 e Q q =>
  h H1 e _ fun H2 e2 => .inr ⟨b, rfl, q H2 e2⟩
/-- isinstance -/
theorem ev_isi {c : V} {tv cv : Value} {b : Bool} (h : Ev ta σ H x) (hc : Ev tb σ H c) (k : ClsV c cv) (ty : ∀ H1, Ex H H1 → TyX K H1 x tv) (e : PySem.W.kitOne K tv cv = some b) : Ev (tCB (rIsi K) (tCons ta (tCons tb tNil))) σ H (.bl b) := fun H1 e1 Q q =>
  h H1 e1 _ fun H2 e2 => hc H2 (e1.trans e2) _ fun H3 e3 => ⟨x, c, tv, cv, b, rfl, k, ty H3 ((e1.trans e2).trans e3), e, q H3 (e2.trans e3)⟩
/-- xs + ys of two new lists -/
theorem el_cat {as bs : List V} (ha : EvL ta σ H as) (hb : EvL tb σ H bs) (hz : as.length + bs.length ≤ 100000) : EvL (tOp rCat ta tb) σ H (as ++ bs) := fun H1 e Q q =>
  ha H1 e _ fun p H2 f e2 hp => hb H2 (e.trans e2) _ fun p' H3 f' e3 hp' => ⟨p, p', as, bs, rfl, rfl, e3 _ _ hp, hp', sz_of hz, fun a ha' => q a _ (fresh_back (e2.trans e3) ha') ((e2.trans e3).trans (Ex.new ha')) upd_same⟩
/-- .. of one that stands -/
theorem el_catV {p : Addr} {as bs : List V} (ha : Ev ta σ H (.ref p)) (hp : H p = some (.lst as)) (hb : EvL tb σ H bs) (hz : as.length + bs.length ≤ 100000) : EvL (tOp rCat ta tb) σ H (as ++ bs) := fun H1 e Q q =>
  ha H1 e _ fun H2 e2 => hb H2 (e.trans e2) _ fun p' H3 f' e3 hp' => ⟨p, p', as, bs, rfl, rfl, ((e.trans e2).trans e3) _ _ hp, hp', sz_of hz, fun a ha' => q a _ (fresh_back (e2.trans e3) ha') ((e2.trans e3).trans (Ex.new ha')) upd_same⟩
theorem EvL.toN (h : EvL te σ H xs) : EvN te σ H (fun v H2 => ∃ p, v = .ref p ∧ H2 p = some (.lst xs)) := fun H1 e Q q => h H1 e _ fun p H2 f e2 h2 => q _ H2 e2 (Frs.ref f) ⟨p, rfl, h2⟩
theorem EvN.toX (h : EvN te σ H G) : EvX te σ H G := fun H1 e Q q => h H1 e _ fun v H2 e2 _ h2 => q v H2 e2 h2
end
/-! ### arguments, some of them new lists -/
def EvAX (ta : TA) (σ : Stt) (H : Hp) (G : List V → Hp → Prop) : Prop := ∀ H1, Ex H H1 → ∀ Q : List V → Hp → Prop, (∀ vs H2, Ex H1 H2 → G vs H2 → Q vs H2) → ta σ H1 Q
section
variable {K : PySem.W.Frag} {σ : Stt} {H : Hp} {ta : TA} {te tl : TE} {x y z v : V} {G : V → Hp → Prop} {GA : List V → Hp → Prop} {xs ys : List V} {sp : Sp} {E : XK} {tt : TT}
theorem eax_nil (h : ∀ H1, Ex H H1 → GA [] H1) : EvAX tNil σ H GA := fun H1 e Q q => q [] H1 (Ex.refl H1) (h H1 e)
theorem eax_cons (h : Ev te σ H x) (hr : EvAX ta σ H (fun vs H2 => GA (x :: vs) H2)) : EvAX (tCons te ta) σ H GA := fun H1 e Q q =>
  h H1 e _ fun H2 e2 => hr H2 (e.trans e2) _ fun vs H3 e3 g => q _ H3 (e2.trans e3) g
theorem eax_consX (h : EvX te σ H G) (hr : ∀ v H1, Ex H H1 → G v H1 → EvAX ta σ H1 (fun vs H2 => GA (v :: vs) H2)) : EvAX (tCons te ta) σ H GA := fun H1 e Q q =>
  h H1 e _ fun v H2 e2 g => hr v H2 (e.trans e2) g H2 (Ex.refl H2) _ fun vs H3 e3 g3 => q _ H3 (e2.trans e3) g3
theorem eax_consL (h : EvL te σ H xs) (hr : ∀ p H1, H p = none → Ex H H1 → H1 p = some (.lst xs) → EvAX ta σ H1 (fun vs H2 => GA (.ref p :: vs) H2)) : EvAX (tCons te ta) σ H GA := fun H1 e Q q =>
  h H1 e _ fun p H2 f e2 g => hr p H2 (fresh_back e f) (e.trans e2) g H2 (Ex.refl H2) _ fun vs H3 e3 g3 => q _ H3 (e2.trans e3) g3
theorem ev_callX (h : EvAX ta σ H (fun vs H2 => SpV sp (vs ++ []) H2 z)) : Ev (tCall sp [] E ta) σ H z := fun H1 e Q q =>
  h H1 e _ fun vs H2 e2 hs => hs H2 (Ex.refl H2) Q (fun H3 e3 => q H3 (e2.trans e3)) E
theorem el_callX (h : EvAX ta σ H (fun vs H2 => SpL sp (vs ++ []) H2 xs)) : EvL (tCall sp [] E ta) σ H xs := fun H1 e Q q =>
  h H1 e _ fun vs H2 e2 hs => hs H2 (Ex.refl H2) Q (fun p H3 f e3 g => q p H3 (fresh_back e2 f) (e2.trans e3) g) E
theorem ex_callX (h : EvAX ta σ H (fun vs H2 => SpX sp (vs ++ []) H2 G)) : EvX (tCall sp [] E ta) σ H G := fun H1 e Q q =>
  h H1 e _ fun vs H2 e2 hs => hs H2 (Ex.refl H2) Q (fun v H3 e3 g => q v H3 (e2.trans e3) g) E
theorem en_callX (h : EvAX ta σ H (fun vs H2 => SpN sp (vs ++ []) H2 G)) : EvN (tCall sp [] E ta) σ H G := fun H1 e Q q =>
  h H1 e _ fun vs H2 e2 hs => hs H2 (Ex.refl H2) Q (fun v H3 e3 f g => q v H3 (e2.trans e3) (f.back e2) g) E
theorem ev_methX {C : Addr} {m : Str} (h : EvX te σ H G) (hs : ∀ v H1, Ex H H1 → G v H1 → ∃ p dx fs, v = .ref p ∧ H1 p = some (.ins C dx fs) ∧ fs.lookup m = none ∧ EvAX ta σ H1 (fun vs H2 => SpV sp (.ref p :: (vs ++ [])) H2 z)) :
    Ev (tMeth C m sp [] E te ta) σ H z := fun H1 e Q q =>
  h H1 e _ fun v H2 e2 g => by
    obtain ⟨p, dx, fs, rfl, hi, l, ha⟩ := hs v H2 (e.trans e2) g
    exact ⟨p, dx, fs, rfl, hi, l, ha H2 (Ex.refl H2) _ fun vs H3 e3 k => k H3 (Ex.refl H3) Q (fun H4 e4 => q H4 ((e2.trans e3).trans e4)) E⟩
theorem el_methX {C : Addr} {m : Str} (h : EvX te σ H G) (hs : ∀ v H1, Ex H H1 → G v H1 → ∃ p dx fs, v = .ref p ∧ H1 p = some (.ins C dx fs) ∧ fs.lookup m = none ∧ EvAX ta σ H1 (fun vs H2 => SpL sp (.ref p :: (vs ++ [])) H2 xs)) :
    EvL (tMeth C m sp [] E te ta) σ H xs := fun H1 e Q q =>
  h H1 e _ fun v H2 e2 g => by
    obtain ⟨p, dx, fs, rfl, hi, l, ha⟩ := hs v H2 (e.trans e2) g
    exact ⟨p, dx, fs, rfl, hi, l, ha H2 (Ex.refl H2) _ fun vs H3 e3 k => k H3 (Ex.refl H3) Q (fun r H4 f e4 g4 => q r H4 (fresh_back (e2.trans e3) f) ((e2.trans e3).trans e4) g4) E⟩
/-! #### comprehensions -/
theorem et_yes : EvT tYes σ H true := fun H1 e Q q => q H1 (Ex.refl H1)
theorem given_all {n : Nat} {v : Nat → V} : given n (fun _ => true) v = (List.range n).map v := by
  unfold given
  rw [List.filter_eq_self.mpr fun _ _ => rfl]
theorem range_map_at {α : Type} (l : List α) (d : α) : (List.range l.length).map (fun i => l.getD i d) = l := by
  apply List.ext_getElem?
  intro i
  rw [List.getElem?_map]
  by_cases h : i < l.length
  · rw [List.getElem?_range h, List.getElem?_eq_getElem h]
    simp [List.getD, h]
  · rw [List.getElem?_eq_none (by rw [List.length_range]; omega), List.getElem?_eq_none (by omega)]
    rfl
/-- [e for x in a list] -/
theorem el_map {a : Addr} {j : Nat} {vs : List Nat} (g : V → V) (h : Ev tl σ H (.ref a)) (hx : SqL K H a xs) (hz : xs.length ≤ 40000) (hw : ∀ x, wipe ((wipe σ vs).set j (some x)) vs = wipe σ vs)
    (he : ∀ x ∈ xs, ∀ H1, Ex H H1 → Ev te ((wipe σ vs).set j (some x)) H1 (g x)) : EvL (tLc (iList K tl) (gName j) tYes te vs) σ H (xs.map g) := by
  have q := el_lcL (K := K) (σ := σ) (H := H) (te := te) (t := tYes) (fun _ => true) (fun i => g (xs.getD i .non)) h hx hz hw (fun i x H1 e hi => et_yes) (fun i x H1 e hi _ => by
    have e1 : xs.getD i .non = x := by simp [List.getD, hi]
    rw [e1]
    exact he x (List.mem_of_getElem? hi) H1 e)
  rw [given_all] at q
  have e2 : (List.range xs.length).map (fun i => g (xs.getD i .non)) = xs.map g := by
    rw [show (fun i => g (xs.getD i V.non)) = g ∘ (fun i => xs.getD i V.non) from rfl, ← List.map_map, range_map_at]
  rw [e2] at q
  exact q
/-- [e for k in range(n)] -/
theorem el_mapR {j : Nat} {vs : List Nat} {n : Int} (g : Nat → V) (h : EvA ta σ H [.int n]) (hn : 0 ≤ n ∧ n ≤ 40000) (hw : ∀ x, wipe ((wipe σ vs).set j (some x)) vs = wipe σ vs)
    (he : ∀ (i : Nat) H1, Ex H H1 → (i : Int) < n → Ev te ((wipe σ vs).set j (some (.int (i : Int)))) H1 (g i)) : EvL (tLc (iRng1 ta) (gName j) tYes te vs) σ H ((List.range n.toNat).map g) := by
  have q := el_lcR1 (σ := σ) (H := H) (te := te) (t := tYes) (fun _ => true) g h hn hw (fun i H1 e hi => et_yes) (fun i H1 e hi _ => he i H1 e hi)
  rw [given_all] at q
  exact q
end
section
variable {K : PySem.W.Frag} {σ : Stt} {H : Hp} {te tl : TE} {t : TT} {xs : List V} {ns : List Int}
theorem given_ints (ns : List Int) (p : Int → Bool) : given ns.length (fun i => p (ns.getD i 0)) (fun i => .int (ns.getD i 0)) = (ns.filter p).map V.int := by
  unfold given
  have h := range_map_at ns 0
  conv => rhs; rw [← h, List.filter_map, List.map_map]
  rfl
theorem ints_at {i : Nat} {x : V} (h : (ns.map V.int)[i]? = some x) : x = .int (ns.getD i 0) := by
  rw [List.getElem?_map] at h
  obtain ⟨z, h1, rfl⟩ := Option.map_eq_some_iff.mp h
  simp [List.getD, h1]
/-- [x for x in a list of whole numbers if p] -/
theorem el_filt {a : Addr} {j : Nat} {vs : List Nat} (p : Int → Bool) (h : Ev tl σ H (.ref a)) (hx : SqL K H a (ns.map V.int)) (hz : ns.length ≤ 40000) (hw : ∀ x, wipe ((wipe σ vs).set j (some x)) vs = wipe σ vs)
    (ht : ∀ (z : Int) H1, Ex H H1 → EvT t ((wipe σ vs).set j (some (.int z))) H1 (p z)) (he : ∀ (z : Int) H1, Ex H H1 → Ev te ((wipe σ vs).set j (some (.int z))) H1 (.int z)) : EvL (tLc (iList K tl) (gName j) t te vs) σ H ((ns.filter p).map V.int) := by
  have q := el_lcL (K := K) (σ := σ) (H := H) (te := te) (t := t) (fun i => p (ns.getD i 0)) (fun i => .int (ns.getD i 0)) h hx (by rw [List.length_map]; exact hz) hw
    (fun i x H1 e hi => by rw [ints_at hi]; exact ht _ H1 e) (fun i x H1 e hi _ => by rw [ints_at hi]; exact he _ H1 e)
  rw [List.length_map, given_ints] at q
  exact q
theorem el_filtN {j : Nat} {vs : List Nat} (p : Int → Bool) (h : EvL tl σ H (ns.map V.int)) (hz : ns.length ≤ 40000) (hw : ∀ x, wipe ((wipe σ vs).set j (some x)) vs = wipe σ vs)
    (ht : ∀ (z : Int) H1, Ex H H1 → EvT t ((wipe σ vs).set j (some (.int z))) H1 (p z)) (he : ∀ (z : Int) H1, Ex H H1 → Ev te ((wipe σ vs).set j (some (.int z))) H1 (.int z)) : EvL (tLc (iList K tl) (gName j) t te vs) σ H ((ns.filter p).map V.int) := by
  have q := el_lcNL (K := K) (σ := σ) (H := H) (te := te) (t := t) (fun i => p (ns.getD i 0)) (fun i => .int (ns.getD i 0)) h (by rw [List.length_map]; exact hz) hw
    (fun i x H1 e hi => by rw [ints_at hi]; exact ht _ H1 e) (fun i x H1 e hi _ => by rw [ints_at hi]; exact he _ H1 e)
  rw [List.length_map, given_ints] at q
  exact q
theorem cut_from (xs : List V) (j : Nat) : cutV xs (some (j : Int)) none = xs.drop j := by
  unfold cutV
  rw [HT.sIx_none, HT.sIx_nat]
  by_cases h : j ≤ xs.length
  · rw [Nat.min_eq_left h, List.take_of_length_le (by rw [List.length_drop]; omega)]
  · rw [Nat.min_eq_right (by omega), List.drop_of_length_le (by omega), List.drop_of_length_le (by omega), List.take_nil]
theorem cut_last (xs : List V) (x : V) : cutV (xs ++ [x]) none (some (-1)) = xs := by
  unfold cutV
  have h : HT.sIx (xs ++ [x]).length (xs ++ [x]).length (some (-1)) = xs.length := by
    show (if (-1 : Int) < 0 then ((-1 : Int) + (((xs ++ [x]).length : Nat) : Int)).toNat else min (-1 : Int).toNat (xs ++ [x]).length) = _
    rw [if_pos (by decide), List.length_append]
    show ((-1 : Int) + ((xs.length + 1 : Nat) : Int)).toNat = xs.length
    omega
  rw [HT.sIx_none, h, List.drop_zero, Nat.sub_zero, List.take_left']
  rfl
theorem at_last (xs : List V) (x : V) : atI (xs ++ [x]) (-1) = some x := by
  unfold atI ixN
  rw [if_neg (by decide), if_pos (by rw [List.length_append]; show -(((xs.length + 1 : Nat)) : Int) ≤ -1; omega)]
  show (xs ++ [x])[((-1 : Int) + ((xs ++ [x]).length : Int)).toNat]? = some x
  rw [List.length_append]
  show (xs ++ [x])[((-1 : Int) + ((xs.length + 1 : Nat) : Int)).toNat]? = some x
  rw [show ((-1 : Int) + ((xs.length + 1 : Nat) : Int)).toNat = xs.length by omega]
  simp
theorem cut_to (xs : List V) (j : Nat) : cutV xs none (some (j : Int)) = xs.take j := by
  unfold cutV
  rw [HT.sIx_none, HT.sIx_nat, List.drop_zero, Nat.sub_zero]
  by_cases h : j ≤ xs.length
  · rw [Nat.min_eq_left h]
  · rw [Nat.min_eq_right (by omega), List.take_of_length_le (Nat.le_refl _), List.take_of_length_le (by omega)]
end
section
variable {K : PySem.W.Frag} {σ : Stt} {H : Hp} {te : TE} {ta : TA} {j : Nat} {vs : List Nat}
/-- [e for k in range(lo, hi)] -/
theorem el_mapR2 {lo hi : Int} (g : Nat → V) (h : EvA ta σ H [.int lo, .int hi]) (b : -(2 ^ 62) ≤ lo ∧ lo < 2 ^ 62 ∧ -(2 ^ 62) ≤ hi ∧ hi < 2 ^ 62) (hz : (hi - lo).toNat ≤ 40000) (hw : ∀ x, wipe ((wipe σ vs).set j (some x)) vs = wipe σ vs)
    (he : ∀ (i : Nat) H1, Ex H H1 → lo + (i : Int) < hi → Ev te ((wipe σ vs).set j (some (.int (lo + (i : Int))))) H1 (g i)) : EvL (tLc (iRng2 ta) (gName j) tYes te vs) σ H ((List.range (hi - lo).toNat).map g) := fun H0 e Q q => h H0 e _ fun H1 e1 => ⟨lo, hi, rfl, b, fun Dl hD =>
  lc_range (lo := lo) (n := (hi - lo).toNat) (Cw H1 (fun _ => true) g Dl) ⟨hD, Ex.new hD, upd_same⟩ (fun i H' hi' p => ⟨hw _, cw_turn p (by omega) et_yes fun _ => he i H1 (e.trans e1) (by omega)⟩) (fun H' p => by
    have z := p.2.2
    rw [given_all] at z
    exact q Dl H' (fresh_back e1 p.1) (e1.trans p.2.1) z)⟩
/-- [e for k in range(lo, hi, -1)] -/
theorem el_mapD {lo hi : Int} (g : Nat → V) (h : EvA ta σ H [.int lo, .int hi, .int (-1)]) (b : -(2 ^ 62) ≤ lo ∧ lo < 2 ^ 62 ∧ -(2 ^ 62) ≤ hi ∧ hi < 2 ^ 62) (hz : (lo - hi).toNat ≤ 40000) (hw : ∀ x, wipe ((wipe σ vs).set j (some x)) vs = wipe σ vs)
    (he : ∀ (i : Nat) H1, Ex H H1 → hi < lo - (i : Int) → Ev te ((wipe σ vs).set j (some (.int (lo - (i : Int))))) H1 (g i)) : EvL (tLc (iRng3 ta) (gName j) tYes te vs) σ H ((List.range (lo - hi).toNat).map g) := fun H0 e Q q => h H0 e _ fun H1 e1 =>
  ⟨lo, hi, -1, (lo - hi).toNat, rfl, RgC.neg b.1 b.2.1 b.2.2.1 b.2.2.2, fun Dl hD => by
    refine ⟨fun i m H' => m = (lo - hi).toNat - i ∧ i ≤ (lo - hi).toNat ∧ Cw H1 (fun _ => true) g Dl i H', ⟨_, rfl, Nat.zero_le _, hD, Ex.new hD, upd_same⟩, fun i m H' hW => ?_⟩
    obtain ⟨rfl, hi', p⟩ := hW
    by_cases hlt : i < (lo - hi).toNat
    · refine .inr ⟨hlt, Cw H1 (fun _ => true) g Dl (i + 1), fun H2 p2 => ⟨_, by omega, rfl, hlt, p2⟩, fun x H2 y => ?_⟩
      obtain ⟨y1, y2⟩ := y
      subst y1 y2
      have e2 : lo + (i : Int) * (-1) = lo - (i : Int) := by omega
      rw [e2]
      exact ⟨hw _, cw_turn p (by omega) et_yes fun _ => he i H1 (e.trans e1) (by omega)⟩
    · obtain rfl : i = (lo - hi).toNat := by omega
      have z := p.2.2
      rw [given_all] at z
      exact .inl ⟨Nat.le_refl _, q Dl H' (fresh_back e1 p.1) (e1.trans p.2.1) z⟩⟩
end
/-! ### more loops -/
section
variable {K : PySem.W.Frag} {σ : Stt} {H : Hp} {ta : TA} {te : TE} {tu tz : TS} {D : Ends} {xs ys : List V} {j : Nat}
/-- for x in reversed(a list that stands) -/
theorem q_forV {a : Addr} (h : EvA ta σ H [.ref a]) (hx : SqL K H a xs) (Pv : Nat → Stt → Hp → Prop) (h0 : ∀ H1, Ex H H1 → Pv 0 σ H1) (hl : ∀ i σ' H', Pv i σ' H' → SqL K H' a xs)
    (hs : ∀ i x σ' H', i < xs.length → xs[xs.length - 1 - i]? = some x → Pv i σ' H' → tu { D with nx := Pv (i + 1), ct := Pv (i + 1), bk := tz D } (σ'.set j (some x)) H') (hd : ∀ σ' H', Pv xs.length σ' H' → tz D σ' H') :
    tSeq (tFor (iRev K ta) (gName j) tu) tz D σ H :=
  h H (Ex.refl H) _ fun H1 e => ⟨a, xs, rfl, ex_l e hx, RT.for_Itv (D := { D with nx := tz D }) Pv (h0 H1 e) hl hs hd⟩
/-- .. a new list -/
theorem q_forNV (h : EvL te σ H xs) (Pv : Addr → Nat → Stt → Hp → Prop) (h0 : ∀ a H1, H a = none → Ex H H1 → H1 a = some (.lst xs) → Pv a 0 σ H1) (hl : ∀ a i σ' H', Pv a i σ' H' → SqL K H' a xs)
    (hs : ∀ a i x σ' H', i < xs.length → xs[xs.length - 1 - i]? = some x → Pv a i σ' H' → tu { D with nx := Pv a (i + 1), ct := Pv a (i + 1), bk := tz D } (σ'.set j (some x)) H') (hd : ∀ a σ' H', Pv a xs.length σ' H' → tz D σ' H') :
    tSeq (tFor (iRev K (tCons te tNil)) (gName j) tu) tz D σ H :=
  h H (Ex.refl H) _ fun a H1 f e h1 => ⟨a, xs, rfl, sq_of h1, RT.for_Itv (D := { D with nx := tz D }) (Pv a) (h0 a H1 f e h1) (hl a) (hs a) (hd a)⟩
/-- for x in range(lo, hi, -1) -/
theorem q_forD {lo hi : Int} (h : EvA ta σ H [.int lo, .int hi, .int (-1)]) (b : -(2 ^ 62) ≤ lo ∧ lo < 2 ^ 62 ∧ -(2 ^ 62) ≤ hi ∧ hi < 2 ^ 62) (Pv : Nat → Stt → Hp → Prop) (h0 : ∀ H1, Ex H H1 → Pv 0 σ H1)
    (hs : ∀ (i : Nat) σ' H', hi < lo - i → Pv i σ' H' → tu { D with nx := Pv (i + 1), ct := Pv (i + 1), bk := tz D } (σ'.set j (some (.int (lo - i)))) H') (hd : ∀ σ' H', Pv (lo - hi).toNat σ' H' → tz D σ' H') :
    tSeq (tFor (iRng3 ta) (gName j) tu) tz D σ H :=
  h H (Ex.refl H) _ fun H1 e => ⟨lo, hi, -1, (lo - hi).toNat, rfl, RgC.neg b.1 b.2.1 b.2.2.1 b.2.2.2, for_rangeC (lo := lo) (c := -1) (n := (lo - hi).toNat) (D := { D with nx := tz D }) Pv (h0 H1 e) (fun i σ' H' hi' p => by
    have q := hs i σ' H' (by omega) p
    have e2 : lo + (i : Int) * (-1) = lo - i := by omega
    show tu _ (σ'.set j (some (.int (lo + (i : Int) * (-1))))) H'
    rw [e2]
    exact q) hd⟩
end
section
variable {K : PySem.W.Frag} {σ : Stt} {H : Hp} {ta : TA} {te : TE} {tu tz : TS} {D : Ends} {xs ys : List V} {i j : Nat}
/-- for x, y in zip of two lists of one length -/
theorem q_forZ {a b : Addr} (h : EvA ta σ H [.ref a, .ref b]) (hx : SqL K H a xs) (hy : SqL K H b ys) (hl : xs.length = ys.length) (Pv : Nat → Stt → Hp → Prop) (h0 : ∀ H1, Ex H H1 → Pv 0 σ H1)
    (hq : ∀ n σ' H', Pv n σ' H' → SqL K H' a xs ∧ SqL K H' b ys)
    (hs : ∀ n x y σ' H' H2, xs[n]? = some x → ys[n]? = some y → Pv n σ' H' → Ex H' H2 → tu { D with nx := Pv (n + 1), ct := Pv (n + 1), bk := tz D } ((σ'.set i (some x)).set j (some y)) H2) (hd : ∀ σ' H', Pv xs.length σ' H' → tz D σ' H') :
    tSeq (tFor (iZip K ta) (gTup K 2 (gCons (gName i) (gCons (gName j) gNil))) tu) tz D σ H :=
  h H (Ex.refl H) _ fun H1 e => ⟨a, b, xs, ys, rfl, ex_l e hx, ex_l e hy, RZ.for_zipL (D := { D with nx := tz D }) hl Pv (h0 H1 e) hq (fun n x y T σ' H' h1 h2 p hT =>
    ⟨T, [x, y], rfl, .inl (.inl upd_same), rfl, x, [y], rfl, y, [], rfl, rfl, hs n x y σ' H' _ h1 h2 p (Ex.new hT)⟩) hd⟩
end
/-! ### insert, index, sorted, list(range(n)) -/
def rInsert : V → List V → Hp → VK → Prop := fun x vs H Q => ∃ (l : Addr) (xs : List V) (i : Int) (y : V), x = .ref l ∧ vs = [.int i, y] ∧ H l = some (.lst xs) ∧ xs.length < sizeLine ∧ 0 ≤ i ∧ i < 2 ^ 63 ∧
  Q .non (upd H l (.lst (xs.take i.toNat ++ [y] ++ xs.drop i.toNat)))
section
variable {K : PySem.W.Frag} {σ : Stt} {H : Hp} {ta ti te tl : TE} {x y z v : V} {tu tz : TS} {D : Ends} {xs : List V}
theorem s_ins {l : Addr} {i : Int} (hl : H l = some (.lst xs)) (ha : Ev ta σ H (.ref l)) (hi : Ev ti σ H (.int i)) (h : Ev te σ H v) (hz : xs.length < 100000) (h0 : 0 ≤ i) (h1 : i < 1000) (k : ∀ H1, Ex H H1 → D.nx σ (upd H1 l (.lst (xs.take i.toNat ++ [v] ++ xs.drop i.toNat)))) :
    tDrop (tBM K "list" rInsert ta (tCons ti (tCons te tNil))) D σ H := ha H (Ex.refl H) _ fun H1 e1 =>
  ⟨Or.inl ⟨rfl, xs, sq_of (e1 l _ hl)⟩, hi H1 e1 _ fun H2 e2 => h H2 (e1.trans e2) _ fun H3 e3 => ⟨l, xs, i, v, rfl, rfl, ((e1.trans e2).trans e3) l _ hl, sz_lt hz, h0, by omega, k H3 ((e1.trans e2).trans e3)⟩⟩
theorem q_ins {l : Addr} {i : Int} (hl : H l = some (.lst xs)) (ha : Ev ta σ H (.ref l)) (hi : Ev ti σ H (.int i)) (h : Ev te σ H v) (hz : xs.length < 100000) (h0 : 0 ≤ i) (h1 : i < 1000) (k : ∀ H1, Ex H H1 → tz D σ (upd H1 l (.lst (xs.take i.toNat ++ [v] ++ xs.drop i.toNat)))) :
    tSeq (tDrop (tBM K "list" rInsert ta (tCons ti (tCons te tNil)))) tz D σ H := s_ins (D := { D with nx := tz D }) hl ha hi h hz h0 h1 k
theorem flat_ints (ns : List Int) : (ns.map V.int).all flatV = true := by
  rw [List.all_eq_true]
  intro v hv
  obtain ⟨n, _, rfl⟩ := List.mem_map.mp hv
  rfl
theorem ev_index {p : Addr} {ns : List Int} {n : Int} {j : Nat} (ha : Ev ta σ H (.ref p)) (hp : SqL K H p (ns.map V.int)) (h : Ev te σ H (.int n)) (hj : ns[j]? = some n) (hf : ∀ m z, m < j → ns[m]? = some z → z ≠ n) :
    Ev (tBM K "list" (rIndex K) ta (tCons te tNil)) σ H (.int (j : Nat)) := fun H1 e Q q =>
  ha H1 e _ fun H2 e2 => ⟨Or.inl ⟨rfl, _, ex_l (e.trans e2) hp⟩, h H2 (e.trans e2) _ fun H3 e3 => ⟨p, ns.map V.int, .int n, j, .int n, rfl, rfl, ex_l ((e.trans e2).trans e3) hp, rfl, flat_ints ns, by rw [List.getElem?_map, hj]; rfl, by simp [eqV],
    fun m z' hm hz => by
      rw [List.getElem?_map] at hz
      obtain ⟨z, h1, rfl⟩ := Option.map_eq_some_iff.mp hz
      show (z == n) = false
      rw [beq_eq_false_iff_ne]
      exact hf m z hm h1, q H3 (e2.trans e3)⟩⟩
theorem en_sorted {p : Addr} {ns : List Int} (ha : Ev ta σ H (.ref p)) (hp : SqL K H p (ns.map V.int)) (hz : ns.length < 64) : EvN (tCB (rSorted K) (tCons ta tNil)) σ H (fun v H2 => ∃ (r : Addr) (ms : List Int), v = .ref r ∧ ms.Perm ns ∧ ms.Pairwise (· ≤ ·) ∧ H2 r = some (.lst (ms.map V.int))) := fun H1 e Q q =>
  ha H1 e _ fun H2 e2 => ⟨p, ns, rfl, ex_l (e.trans e2) hp, hz, fun ms r h1 h2 hr => q _ _ (e2.trans (Ex.new hr)) (Frs.ref (fresh_back e2 hr)) ⟨r, ms, rfl, h1, h2, upd_same⟩⟩
theorem en_sortedN {ns : List Int} (ha : EvL ta σ H (ns.map V.int)) (hz : ns.length < 64) : EvN (tCB (rSorted K) (tCons ta tNil)) σ H (fun v H2 => ∃ (r : Addr) (ms : List Int), v = .ref r ∧ ms.Perm ns ∧ ms.Pairwise (· ≤ ·) ∧ H2 r = some (.lst (ms.map V.int))) := fun H1 e Q q =>
  ha H1 e _ fun p H2 f e2 hp => ⟨p, ns, rfl, sq_of hp, hz, fun ms r h1 h2 hr => q _ _ (e2.trans (Ex.new hr)) (Frs.ref (fresh_back e2 hr)) ⟨r, ms, rfl, h1, h2, upd_same⟩⟩
theorem rgV_nat (n : Nat) : rgV 0 (n : Int) = (List.range n).map fun k : Nat => V.int (k : Int) := by
  unfold rgV
  rw [Int.sub_zero, Int.toNat_natCast]
  congr 1
  funext k
  rw [Int.zero_add]
theorem el_listRg {n : Nat} (h : Ev te σ H (.int (n : Int))) (hn : n ≤ 10000) : EvL (tLstRg (tRg1 te)) σ H ((List.range n).map fun k : Nat => V.int (k : Int)) := fun H1 e Q q =>
  h H1 e _ fun H2 e2 => ⟨(n : Int), rfl, RgOk.of_le (by omega) (by omega) (by omega) (by omega), fun r hr => q r _ (fresh_back e2 hr) (e2.trans (Ex.new hr)) (by rw [rgV_nat]; exact upd_same)⟩
/-- two operands, the first with G -/
theorem ev_opN {r : R2} {G : V → Hp → Prop} (ha : EvX ta σ H G) (hb : ∀ v H1, Ex H H1 → G v H1 → EvX te σ H1 (fun u H2 => RV r v u H2 z)) : Ev (tOp r ta te) σ H z := fun H1 e Q q =>
  ha H1 e _ fun v H2 e2 g => hb v H2 (e.trans e2) g H2 (Ex.refl H2) _ fun u H3 e3 g3 => g3 H3 (Ex.refl H3) Q fun H4 e4 => q H4 ((e2.trans e3).trans e4)
theorem EvL.is {ys : List V} (h : EvL te σ H xs) (e : xs = ys) : EvL te σ H ys := by rw [← e]; exact h
theorem EvL.toX (h : EvL te σ H xs) : EvX te σ H (fun v H2 => ∃ p, v = .ref p ∧ H2 p = some (.lst xs)) := fun H1 e Q q => h H1 e _ fun p H2 f e2 h2 => q _ H2 e2 ⟨p, rfl, h2⟩
theorem Ev.toX (h : Ev te σ H v) : EvX te σ H (fun u _ => u = v) := fun H1 e Q q => h H1 e _ fun H2 e2 => q _ H2 e2 rfl
theorem EvN.imp {G G' : V → Hp → Prop} (h : EvN te σ H G) (k : ∀ v H1, Ex H H1 → G v H1 → G' v H1) : EvN te σ H G' := fun H1 e Q q => h H1 e _ fun v H2 e2 f g => q v H2 e2 f (k v H2 (e.trans e2) g)
theorem EvX.imp {G G' : V → Hp → Prop} (h : EvX te σ H G) (k : ∀ v H1, Ex H H1 → G v H1 → G' v H1) : EvX te σ H G' := fun H1 e Q q => h H1 e _ fun v H2 e2 g => q v H2 e2 (k v H2 (e.trans e2) g)
end
theorem in_ints (x : Int) (ys : List Int) : inV (.int x) (ys.map V.int) = decide (x ∈ ys) := by
  unfold inV
  rw [List.any_map, Bool.eq_iff_iff, List.any_eq_true, decide_eq_true_eq]
  refine ⟨fun ⟨y, hy, e⟩ => ?_, fun h => ⟨x, h, ?_⟩⟩
  · have q : (y == x) = true := e
    rw [← eq_of_beq q]
    exact hy
  · show (x == x) = true
    exact beq_self_eq_true x
theorem rv_inI {K : PySem.W.Frag} {H : Hp} {p : Addr} {x : Int} {ys : List Int} (h : SqL K H p (ys.map V.int)) : RV (rIn K false) (.int x) (.ref p) H (.bl (decide (x ∈ ys))) := by
  have q := rv_isL (K := K) (x := .int x) h rfl (flat_ints ys)
  rw [in_ints] at q
  exact q
theorem rv_niI {K : PySem.W.Frag} {H : Hp} {p : Addr} {x : Int} {ys : List Int} (h : SqL K H p (ys.map V.int)) : RV (rIn K true) (.int x) (.ref p) H (.bl (!decide (x ∈ ys))) := by
  have q := rv_niL (K := K) (x := .int x) h rfl (flat_ints ys)
  rw [in_ints] at q
  exact q
theorem ev_abs {σ : Stt} {H : Hp} {ta : TE} {i : Int} (ha : Ev ta σ H (.int i)) : Ev (tCB (fun xs H Q => ∃ i, xs = [.int i] ∧ Q (.int (if i < 0 then -i else i)) H) (tCons ta tNil)) σ H (.int (if i < 0 then -i else i)) := fun H1 e Q q =>
  ha H1 e _ fun H2 e2 => ⟨i, rfl, q H2 e2⟩
/-- none is left by a filter -/
theorem none_left (ts : List Int) (p : Int → Bool) : decide ((((ts.filter p).map V.int).length : Int) = 0) = ts.all fun v => !p v := by
  rw [Bool.eq_iff_iff, decide_eq_true_eq, List.all_eq_true, List.length_map]
  constructor
  · intro h v hv
    have z : ts.filter p = [] := List.eq_nil_of_length_eq_zero (by omega)
    have q := List.filter_eq_nil_iff.mp z v hv
    simpa using q
  · intro h
    rw [List.filter_eq_nil_iff.mpr fun v hv => by simpa using h v hv]
    rfl
theorem none_given (n : Nat) (f : Nat → Bool) (v : Nat → V) : decide (((given n f v).length : Int) = 0) = (List.range n).all fun i => !f i := by
  unfold given
  rw [Bool.eq_iff_iff, decide_eq_true_eq, List.all_eq_true, List.length_map]
  constructor
  · intro h i hi
    have z : (List.range n).filter f = [] := List.eq_nil_of_length_eq_zero (by omega)
    have q := List.filter_eq_nil_iff.mp z i hi
    simpa using q
  · intro h
    rw [List.filter_eq_nil_iff.mpr fun v hv => by simpa using h v hv]
    rfl
/-! ### branches that are known -/
section
variable {K : PySem.W.Frag} {σ : Stt} {H : Hp} {t : TT} {ta tb te : TE} {tu tw tz : TS} {D : Ends} {b : Bool} {G : V → Hp → Prop} {xs : List V}
theorem q_take (h : EvT t σ H b) (hb : b = true) (k : ∀ H1, Ex H H1 → tu { D with nx := tz D } σ H1) : tSeq (tIfS t tu tNext) tz D σ H := q_when h (fun _ => k) fun z => by
  rw [hb] at z
  cases z
theorem q_skip (h : EvT t σ H b) (hb : b = false) (k : ∀ H1, Ex H H1 → tz D σ H1) : tSeq (tIfS t tu tNext) tz D σ H := q_when h (fun z => by
  rw [hb] at z
  cases z) fun _ => k
theorem et_eqI {i j : Int} (ha : Ev ta σ H (.int i)) (hb : Ev tb σ H (.int j)) : EvT (tTest (tOp rEq ta tb)) σ H (decide (i = j)) := et_is (et_test (ev_op ha hb (rv_eq rfl))) (by
  by_cases e : i = j
  · rw [e, decide_eq_true rfl, decide_eq_true rfl]
  · rw [decide_eq_false e, decide_eq_false fun z => e (V.int.inj z)])
theorem et_neI {i j : Int} (ha : Ev ta σ H (.int i)) (hb : Ev tb σ H (.int j)) : EvT (tTest (tOp rNe ta tb)) σ H (!decide (i = j)) := et_is (et_test (ev_op ha hb (rv_ne rfl))) (by
  by_cases e : i = j
  · rw [e, decide_eq_true rfl, decide_eq_true rfl]
  · rw [decide_eq_false e, decide_eq_false fun z => e (V.int.inj z)])
theorem ev_eqI {i j : Int} (ha : Ev ta σ H (.int i)) (hb : Ev tb σ H (.int j)) : Ev (tOp rEq ta tb) σ H (.bl (decide (i = j))) := ev_is (ev_op ha hb (rv_eq rfl)) (by
  by_cases e : i = j
  · rw [e, decide_eq_true rfl, decide_eq_true rfl]
  · rw [decide_eq_false e, decide_eq_false fun z => e (V.int.inj z)])
theorem q_ifAsgX {i : Nat} (h : EvT t σ H b) (h1 : b = true → EvX te σ H G) (h2 : b = false → ∃ v, σ.set i (some v) = σ ∧ ∀ H1, Ex H H1 → G v H1) (k : ∀ v H1, Ex H H1 → G v H1 → tz D (σ.set i (some v)) H1) : tSeq (tIfS t (tAsg te (gName i)) tNext) tz D σ H :=
  q_when h (fun hb H1 e1 => h1 hb H1 e1 _ fun v H2 e2 g => k v H2 (e1.trans e2) g) fun hb H1 e1 => by
    obtain ⟨v, hs, g⟩ := h2 hb
    have z := k v H1 e1 (g H1 e1)
    rw [hs] at z
    exact z
/-- if c: a suite; what both ways leave is M -/
theorem q_join {M : Stt → Hp → Prop} (h : EvT t σ H b) (k : ∀ σ' H', M σ' H' → tz D σ' H') (h1 : (∀ σ' H', M σ' H' → tz D σ' H') → b = true → ∀ H1, Ex H H1 → tu { D with nx := tz D } σ H1) (h2 : b = false → ∀ H1, Ex H H1 → M σ H1) : tSeq (tIfS t tu tNext) tz D σ H :=
  q_when h (h1 k) fun hb H1 e1 => k _ _ (h2 hb H1 e1)
/-- [a new list, another one] -/
theorem en_pair {ys : List V} (ha : EvL ta σ H xs) (hb : EvL tb σ H ys) : EvN (tLst (tCons ta (tCons tb tNil))) σ H (fun v H2 => ∃ (p a b : Addr), v = .ref p ∧ H2 p = some (.lst [.ref a, .ref b]) ∧ H2 a = some (.lst xs) ∧ H2 b = some (.lst ys)) := fun H1 e Q q =>
  ha H1 e _ fun a H2 fa e2 h2 => hb H2 (e.trans e2) _ fun b H3 fb e3 h3 => ⟨sz_of (by show 2 ≤ 100000; decide), fun p hp => q _ _ ((e2.trans e3).trans (Ex.new hp)) (Frs.ref (fresh_back (e2.trans e3) hp)) ⟨p, a, b, rfl, upd_same, (Ex.new hp) _ _ (e3 _ _ h2), (Ex.new hp) _ _ h3⟩⟩
/-- a <= b < c -/
theorem et_chain {r r' : R2} {tc : TE} {x y z : V} {b b' : Bool} (ha : Ev ta σ H x) (hb : Ev tb σ H y) (hc : Ev tc σ H z) (h1 : RV r x y H (.bl b)) (h2 : RV r' y z H (.bl b')) : EvT (tTest (tChain r r' ta tb tc)) σ H (b && b') := fun H1 e Q q =>
  ha H1 e _ fun H2 e2 => hb H2 (e.trans e2) _ fun H3 e3 => h1 H3 ((e.trans e2).trans e3) _ fun H4 e4 => ⟨b, rfl, by
    cases b with
    | false => exact ⟨false, rfl, q H4 ((e2.trans e3).trans e4)⟩
    | true =>
      have e' := (e.trans e2).trans (e3.trans e4)
      exact hc H4 e' _ fun H5 e5 => h2 H5 (e'.trans e5) _ fun H6 e6 => ⟨b', rfl, q H6 ((e2.trans (e3.trans e4)).trans (e5.trans e6))⟩⟩
theorem s_retG {Q : VK} (h : EvN te σ H G) (k : RetN G H Q) (hq : D.rt = Q := by rfl) : tRet te D σ H := by
  subst hq
  exact h H (Ex.refl H) _ fun v H1 e f g => k v H1 e f g
/-- C(..), the arguments new objects -/
theorem en_makeX {C : Addr} {sp : Sp} {E : XK} {ta : TA} (h : EvAX ta σ H (fun vs H2 => InitN C sp vs H2 G)) : EvN (tMake C sp [] E ta) σ H G := fun H1 e Q q =>
  h H1 e _ fun vs H2 e2 hs x dx hx hd ne => hs H2 (Ex.refl H2) x dx hx hd ne _ (fun H3 e3 g3 => ⟨rfl, q (.ref x) H3 (e2.trans e3) ((Frs.ref hx).back e2) g3⟩) E
/-- what __init__ promises where it may refuse -/
def InitB (C : Addr) (sp : Sp) (vs : List V) (H : Hp) (G : V → Hp → Prop) (good : Prop) (c : Addr) : Prop := ∀ H1, Ex H H1 → ∀ x dx, H1 x = none → H1 dx = none → dx ≠ x → ∀ (Q : VK) (E : XK), (good → ∀ H2, Ex H1 H2 → G (.ref x) H2 → Q .non H2) → (¬ good → ∀ H2, Ex H1 H2 → E (.ref c) none H2) →
  sp (.ref x :: (vs ++ [])) (upd (upd H1 dx (.own x)) x (.ins C dx [])) Q E
theorem InitB.calm {C : Addr} {sp : Sp} {vs : List V} {good : Prop} {c : Addr} (h : InitB C sp vs H G good c) (g : good) : InitN C sp vs H G := fun H1 e1 x dx hx hd ne Q k E => h H1 e1 x dx hx hd ne Q E (fun _ => k) fun z => absurd g z
theorem InitB.ex {C : Addr} {sp : Sp} {vs : List V} {good : Prop} {c : Addr} {H' : Hp} (h : InitB C sp vs H G good c) (e : Ex H H') : InitB C sp vs H' G good c := fun H1 e1 => h H1 (e.trans e1)
theorem s_retMake {C : Addr} {sp : Sp} {E : XK} {ta : TA} {good : Prop} {c : Addr} {Q : VK} (h : EvAX ta σ H (fun vs H2 => InitB C sp vs H2 G good c)) (k : good → RetN G H Q) (kE : ¬ good → ∀ H2, Ex H H2 → E (.ref c) none H2) (hq : D.rt = Q := by rfl) : tRet (tMake C sp [] E ta) D σ H := by
  subst hq
  exact h H (Ex.refl H) _ fun vs H2 e2 hs x dx hx hd ne => hs H2 (Ex.refl H2) x dx hx hd ne _ E (fun g H3 e3 g3 => ⟨rfl, k g (.ref x) H3 (e2.trans e3) ((Frs.ref hx).back e2) g3⟩) fun z H3 e3 => kE z H3 (e2.trans e3)
theorem EvA.toX {ta : TA} {vs : List V} {GA : List V → Hp → Prop} (h : EvA ta σ H vs) (k : ∀ H1, Ex H H1 → GA vs H1) : EvAX ta σ H GA := fun H1 e Q q => h H1 e _ fun H2 e2 => q vs H2 e2 (k H2 (e.trans e2))
end
/-! ### what a fresh instance leaves -/
theorem ex_made {H : Hp} {x dx C : Addr} (nx : H x = none) (nd : H dx = none) : Ex H (upd (upd H dx (.own x)) x (.ins C dx [])) := fun a o h => by
  rw [upd_ne (ne_of_none h nx), upd_ne (ne_of_none h nd)]
  exact h
/-- an object that stood stays when a fresh one is written -/
theorem ex_upd {H H' : Hp} {p : Addr} {o : HO} (e : Ex H H') (h : H p = none) : Ex H (upd H' p o) := Ex.mut e h
end Oc
/-! list(reversed(xs)): the layer has tuple(reversed(xs)) alone. -/
namespace Oc
open PySem PySem.Spec PyProof.Rows L2 Evl
section
variable {prog : Program} {w : World} {A : Around} {E : Value → Shared → Prop} {s : Shared}
abbrev noItems : Obj := { cls := .type "list", data := .seq #[] }
/-- the new list S takes the items of the backward iterator it over l -/
theorem rev_taken {R : Result → Shared → Prop} {it l S : Addr} {items : Array Value} {c0 : Nat} (hh : A.handled = none) (hit : s.heap.IsRevIter it l ((items.size : Int) - 1)) (hl : s.heap.IsList l items) (hne : l ≠ it)
    (hn : items.size ≤ sizeLine) (hS : s.heap.get? S = some { cls := .type "list", data := .seq #[] c0 }) (hSi : S ≠ it) (hSl : S ≠ l) (res : Value)
    (hR : ∀ (h' : Heap) (tk : Nat) (acc : Array Value) (c' : Nat), (∀ b o, b ≠ S → b ≠ it → s.heap.get? b = some o → h'.get? b = some o) → h'.get? S = some { cls := .type "list", dict := none, data := .seq acc c', slots := #[] } →
      ItemsOf (fun i v => items[items.size - 1 - i]? = some v) acc items.size → R (.ok (.ret res)) { s with heap := h', toks := tk }) :
    wpAny (model prog w) A.in1 (Builtin.List.listExtendWith (.ref S) (.ref it) res)
      (fun fin s' => match fin with | .done f => R (.ok f) s' | .again c' => c'.quiet = true ∧ codeAny (model prog w) A c' R s') (fun e s' => R (.error e) s') s := by
  have W := (Walks.listRev (prog := prog) (w := w) (A := A.in1) hh it l hne items).toS
  have hSf : S ∉ [it, l] := fun q => by
    rcases List.mem_cons.mp q with q | q
    · exact hSi q
    · exact hSl (List.mem_singleton.mp q)
  have hT : s.TypeIs (.ref it) "list_reverseiterator" := hit.typeIs
  have e0 : ((items.size : Nat) : Int) - 1 - ((0 : Nat) : Int) = (items.size : Int) - 1 := by omega
  have same : Builtin.List.listSameRef (.ref S) (.ref it) = false := by simp [Builtin.List.listSameRef, hSi]
  unfold Builtin.List.listExtendWith
  refine wpAny_bind (wpAny_typeOf hT ?_)
  rw [if_neg (by rw [same]; decide)]
  refine wpAny_bind (wpAny_pyIter_revIter hit (wpAny_bind (wpAny_holding ?_)))
  unfold Builtin.List.listLengthHint
  refine wpAny_bind (wpAny_specialOf hT RT.nolen_lri ?_)
  show wpAny _ A.in1 (specialOf _ (Str.ofString "__length_hint__") >>= _) _ _ _
  refine wpAny_bind (wpAny_specialOf hT RT.hint_lri ?_)
  generalize q : ("list_reverseiterator.__length_hint__" : String) = idd
  wp_delta
  rw [show splitId idd = some ("list_reverseiterator", "__length_hint__") from by subst q; decide +kernel]
  subst q
  refine wpAny_bind (wpAny_isInstance (b := true) hT (by rw [isSubtype_type]; kernel_rfl) (wpAny_pure ?_))
  rw [if_neg (by decide)]
  refine wpAny_pure ⟨plainId_quiet F.plain_extend_loop _, codeAny_extend_loopS W hn S hSf res items.size 0 _ #[] c0 rfl (Nat.zero_le _) ⟨Nat.zero_le _, by rw [e0]; exact hit, hl⟩ hS (ItemsOf.nil _) fun s' acc' c' hm hS' hacc => ?_⟩
  rw [Moved.eq_with hm]
  refine hR s'.heap s'.toks acc' c' (fun b o b1 b2 e => hm.heap b o (fun z => ?_) e) hS' hacc
  rcases List.mem_cons.mp z with z | z
  · exact b1 z
  · exact b2 (List.mem_singleton.mp z)
theorem list_of_rev {Q : Value → Shared → Prop} {it l : Addr} {items : Array Value} (hh : A.handled = none) (hit : s.heap.IsRevIter it l ((items.size : Int) - 1)) (hl : s.heap.IsList l items) (hne : l ≠ it) (hn : items.size ≤ sizeLine)
    (hQ : ∀ (h' : Heap) (tk : Nat) (acc : Array Value) (c' : Nat), (∀ b o, b ≠ it → s.heap.get? b = some o → h'.get? b = some o) → h'.get? s.heap.objs.size = some { cls := .type "list", dict := none, data := .seq acc c', slots := #[] } →
      ItemsOf (fun i v => items[items.size - 1 - i]? = some v) acc items.size → Q (.ref s.heap.objs.size) { s with heap := h', toks := tk }) :
    wpAny (model prog w) A (call (.type "list") [.ref it]) Q E s := by
  refine callType_codes (Q₁ := fun obj s₁ => obj = .ref s.heap.objs.size ∧ s₁ = { s with heap := s.heap.push noItems }) F.called_list (F.typeCall_list_1 _) F.entry_list_init (code_list_new _ ⟨rfl, rfl⟩) fun obj s₁ h₁ => ?_
  obtain ⟨rfl, rfl⟩ := h₁
  have hS : (s.heap.push noItems).get? s.heap.objs.size = some noItems := Heap.get?_push_size _ rfl
  obtain ⟨oi, hoi, _⟩ := id hit
  obtain ⟨ol, hol, _⟩ := id hl
  have hSi : s.heap.objs.size ≠ it := Nat.ne_of_gt (Heap.lt_size hoi)
  have hSl : s.heap.objs.size ≠ l := Nat.ne_of_gt (Heap.lt_size hol)
  refine ⟨⟨_, hS, rfl⟩, F.args_list_init_2 _ _, ?_⟩
  show wpAny _ _ (do let old ← Builtin.List.listItems (.ref s.heap.objs.size); Builtin.List.listUpdate (.ref s.heap.objs.size) (fun _ => #[]); letGo old.toList.reverse; Builtin.List.listExtendWith (.ref s.heap.objs.size) (.ref it) .none) _ _ _
  refine wpAny_bind ?_
  unfold Builtin.List.listItems
  refine wpAny_bind (wpAny_seqItems hS rfl (wpAny_pure ?_))
  show wpAny _ _ (updateSeq s.heap.objs.size (fun _ => #[]) >>= fun _ => letGo (#[] : Array Value).toList.reverse >>= fun _ => Builtin.List.listExtendWith (.ref s.heap.objs.size) (.ref it) .none) _ _ _
  refine wpAny_bind (wpAny_updateSeq hS rfl (wpAny_bind (wpAny_letGo ?_)))
  have hS2 := Heap.get?_update_self (Obj.mapSeq (fun _ => (#[] : Array Value))) hS rfl
  have oth : ∀ b o, b ≠ s.heap.objs.size → s.heap.get? b = some o → ((s.heap.push noItems).update s.heap.objs.size (Obj.mapSeq (fun _ => (#[] : Array Value)))).get? b = some o := fun b o hb e =>
    (Heap.get?_update_other _ _ (Ne.symm hb)).trans (Heap.get?_push_of_some _ e)
  have k1 := hit.at (h' := (s.heap.push noItems).update s.heap.objs.size (Obj.mapSeq (fun _ => (#[] : Array Value)))) fun o e => oth it o (Ne.symm hSi) e
  have k2 : ((s.heap.push noItems).update s.heap.objs.size (Obj.mapSeq (fun _ => (#[] : Array Value)))).IsList l items := by
    obtain ⟨o, e, r⟩ := hl
    exact ⟨o, oth l o (Ne.symm hSl) e, r⟩
  refine rev_taken (A := A.in1) hh k1 k2 hne hn hS2 hSi hSl .none fun h' tk acc c' hk hS' hacc => ?_
  exact ⟨rfl, hQ h' tk acc c' (fun b o hb e => hk b o (Nat.ne_of_lt (Heap.lt_size e)) hb (oth b o (Nat.ne_of_lt (Heap.lt_size e)) e)) hS' hacc⟩
end
section
variable {X : Cx}
def tListRev (K : PySem.W.Frag) (te : TE) : TE := fun σ H Q => te σ H fun v H1 => ∃ (a : Addr) (xs : List V), v = .ref a ∧ SqL K H1 a xs ∧ ∀ q, H1 q = none → Q (.ref q) (upd H1 q (.lst xs.reverse))
theorem pe_listRev {e : Expr} {te : TE} {p p2 pos pos2 : Pos} (hc : X.calm = true) (hg : Gl X "list") (hm : X.mg "list" = none) (hg2 : Gl X "reversed") (hm2 : X.mg "reversed" = none) (he : PE X e te)
    (hs : starEach [e] X.env = (false, eval e X.env) :: starEach [] X.env := by rfl)
    (hs2 : starEach [.Call (.Name "reversed" p2) [e] [] pos2] X.env = (false, eval (.Call (.Name "reversed" p2) [e] [] pos2) X.env) :: starEach [] X.env := by rfl) :
    PE X (.Call (.Name "list" p) [.Call (.Name "reversed" p2) [e] [] pos2] [] pos) (tListRev X.K te) := by
  refine ⟨fun pins s σ H Q I h => ?_⟩
  refine Call_ (ld_blt I hg hm boot_list (PyProof.Rows.callWith_type1 (args_cons (Call_ (ld_blt I hg2 hm2 boot_reversed (PyProof.Rows.callWith_type1
    (args_cons (thn (he.run pins s σ H _ I h) fun u s1 ⟨v, H1, I1, r1, q1⟩ => args_nil ?_) hs) hs rfl))) hs2) hs2 rfl))
  obtain ⟨a, xs, ev, hq, q⟩ := q1
  subst ev
  obtain rfl : u = Value.ref a := r1
  obtain ⟨its, rv, p', hz⟩ := I1.list hq
  refine call_reversed_list p'.isList (args_nil ?_)
  have hl := p'.isList
  obtain ⟨ol, hol, _⟩ := id hl
  have hne : a ≠ s1.heap.objs.size := Nat.ne_of_lt (Heap.lt_size hol)
  have hn : its.toArray.size ≤ sizeLine := by rw [List.size_toArray, ← rv.length]; exact hz
  have k0 : ∀ b o, s1.heap.get? b = some o → (s1.heap.push (revObj a ((its.toArray.size : Int) - 1))).get? b = some o := fun b o z => Heap.get?_push_of_some _ z
  have I2 : Inv X pins σ H1 { s1 with heap := s1.heap.push (revObj a ((its.toArray.size : Int) - 1)) } := I1.kept (t' := s1.toks) k0
  obtain ⟨f0, f1, f2, f3, f4, f5⟩ := I1.fpOk (H' := H1) (b := s1.heap.objs.size) (Nat.le_refl _) (I1.hok.fresh (Nat.le_refl _))
  refine list_of_rev (s := { s1 with heap := s1.heap.push (revObj a ((its.toArray.size : Int) - 1)) }) (I1.ok.hd hc) ⟨_, Heap.get?_push_size _ rfl, rfl, rfl⟩ (hl.push _) hne hn fun h' tk acc c' hk hS hi => ?_
  have hSn : (s1.heap.push (revObj a ((its.toArray.size : Int) - 1))).objs.size ≤ (s1.heap.push (revObj a ((its.toArray.size : Int) - 1))).objs.size := Nat.le_refl _
  have nf : ∀ b ∈ [s1.heap.objs.size], FpOk X pins H1 b := fun b hb => by
    rw [List.mem_singleton.mp hb]
    exact ⟨f0, f1, f2, f3, f4, f5⟩
  refine ⟨.ref _, _, I2.turnedNew (ch := [s1.heap.objs.size]) (t' := tk) (ob := .lst xs.reverse) (fun b o hb z => hk b o (fun y => hb (List.mem_singleton.mpr y)) z) nf hSn ?_, rfl, q _ (I2.hok.fresh hSn)⟩
  refine ⟨by rw [List.length_reverse]; exact hz, acc.toList, c', RT.vals_rev rv hi, ?_⟩
  rw [Array.toArray_toList]
  exact hS
end
section
variable {K : PySem.W.Frag} {σ : Stt} {H : Hp} {te : TE} {xs : List V}
theorem el_listRev {p : Addr} (h : Ev te σ H (.ref p)) (hp : SqL K H p xs) : EvL (tListRev K te) σ H xs.reverse := fun H1 e Q q =>
  h H1 e _ fun H2 e2 => ⟨p, xs, rfl, ex_l (e.trans e2) hp, fun a ha => q a _ (fresh_back e2 ha) (e2.trans (Ex.new ha)) upd_same⟩
theorem el_revL {p : Addr} (h : Ev te σ H (.ref p)) (hp : SqL K H p xs) : EvL (tRevL K te) σ H xs.reverse := fun H1 e Q q =>
  h H1 e _ fun H2 e2 => ⟨p, xs, rfl, ex_l (e.trans e2) hp, fun a ha => q a _ (fresh_back e2 ha) (e2.trans (Ex.new ha)) upd_same⟩
end
end Oc
namespace Oc
open PySem PySem.Spec PyProof.Rows L2 Evl
/-! ### == of lists of ints, of truth values -/
theorem dec_cons {α : Type} [DecidableEq α] (x y : α) (xs ys : List α) : decide (x :: xs = y :: ys) = (decide (x = y) && decide (xs = ys)) := by
  by_cases h1 : x = y
  · by_cases h2 : xs = ys
    · simp [h1, h2]
    · simp [h1, h2]
  · simp [h1]
theorem eqv_ints : ∀ xs ys : List Int, PyData.eqvAll (xs.map PyData.int) (ys.map PyData.int) = decide (xs = ys)
  | [], [] => by simp [PyData.eqvAll]
  | [], _ :: _ => by simp [PyData.eqvAll]
  | _ :: _, [] => by simp [PyData.eqvAll]
  | x :: xs, y :: ys => by
    rw [dec_cons, ← eqv_ints xs ys, List.map_cons, List.map_cons, PyData.eqvAll]
    congr 1
theorem eqv_bls : ∀ xs ys : List Bool, PyData.eqvAll (xs.map PyData.bool) (ys.map PyData.bool) = decide (xs = ys)
  | [], [] => by simp [PyData.eqvAll]
  | [], _ :: _ => by simp [PyData.eqvAll]
  | _ :: _, [] => by simp [PyData.eqvAll]
  | x :: xs, y :: ys => by
    rw [dec_cons, ← eqv_bls xs ys, List.map_cons, List.map_cons, PyData.eqvAll]
    congr 1
theorem lay_ints : ∀ xs : List Int, PyData.canLayAll0 (xs.map PyData.int) = true
  | [] => by simp [PyData.canLayAll0]
  | x :: xs => by simp [PyData.canLayAll0, PyData.canLay0, lay_ints xs]
theorem lay_bls : ∀ xs : List Bool, PyData.canLayAll0 (xs.map PyData.bool) = true
  | [] => by simp [PyData.canLayAll0]
  | x :: xs => by simp [PyData.canLayAll0, PyData.canLay0, lay_bls xs]
theorem depth_ints : ∀ xs : List Int, PyData.depthAll (xs.map PyData.int) ≤ 1
  | [] => by simp [PyData.depthAll]
  | x :: xs => by
    have := depth_ints xs
    simp [PyData.depthAll, PyData.depth]
    omega
theorem depth_bls : ∀ xs : List Bool, PyData.depthAll (xs.map PyData.bool) ≤ 1
  | [] => by simp [PyData.depthAll]
  | x :: xs => by
    have := depth_bls xs
    simp [PyData.depthAll, PyData.depth]
    omega
theorem shaped_ints (xs : List Int) : SeqAt.shaped (.list (xs.map PyData.int)) = true := by
  have h1 := lay_ints xs
  have h2 := depth_ints xs
  unfold SeqAt.shaped
  simp only [PyData.canLay0, PyData.depth, h1, Bool.true_and, decide_eq_true_eq]
  apply decide_eq_true
  omega
theorem shaped_bls (xs : List Bool) : SeqAt.shaped (.list (xs.map PyData.bool)) = true := by
  have h1 := lay_bls xs
  have h2 := depth_bls xs
  unfold SeqAt.shaped
  simp only [PyData.canLay0, PyData.depth, h1, Bool.true_and, decide_eq_true_eq]
  apply decide_eq_true
  omega
theorem shaped_pair (bs cs : List Bool) : SeqAt.shaped (.list [.list (bs.map PyData.bool), .list (cs.map PyData.bool)]) = true := by
  have h1 := lay_bls bs
  have h2 := lay_bls cs
  have h3 := depth_bls bs
  have h4 := depth_bls cs
  unfold SeqAt.shaped
  simp only [PyData.canLay0, PyData.canLayAll0, PyData.depth, PyData.depthAll, h1, h2, Bool.true_and, Bool.and_true, decide_eq_true_eq]
  apply decide_eq_true
  omega
section
variable {K : PySem.W.Frag} {H : Hp} {p q : Addr}
theorem dp_ints : ∀ xs : List Int, DpAll K H (xs.map V.int) (xs.map PyData.int)
  | [] => .nil
  | x :: xs => .cons (.int x) (dp_ints xs)
theorem dp_bls : ∀ xs : List Bool, DpAll K H (xs.map V.bl) (xs.map PyData.bool)
  | [] => .nil
  | x :: xs => .cons (.bl x) (dp_bls xs)
theorem rv_eqI {xs ys : List Int} (h : SqL K H p (xs.map V.int)) (h' : SqL K H q (ys.map V.int)) : RV (rEqD K) (.ref p) (.ref q) H (.bl (decide (xs = ys))) := fun H1 e Q k =>
  ⟨_, _, .lst (ex_l e h) (dp_ints xs), .lst (ex_l e h') (dp_ints ys), shaped_ints xs, shaped_ints ys, by rw [PyData.eqv, eqv_ints]; exact k H1 (Ex.refl H1)⟩
theorem rv_neI {xs ys : List Int} (h : SqL K H p (xs.map V.int)) (h' : SqL K H q (ys.map V.int)) : RV (rNeD K) (.ref p) (.ref q) H (.bl (!decide (xs = ys))) := fun H1 e Q k =>
  ⟨_, _, .lst (ex_l e h) (dp_ints xs), .lst (ex_l e h') (dp_ints ys), shaped_ints xs, shaped_ints ys, by rw [PyData.eqv, eqv_ints]; exact k H1 (Ex.refl H1)⟩
theorem rv_eqB {xs ys : List Bool} (h : SqL K H p (xs.map V.bl)) (h' : SqL K H q (ys.map V.bl)) : RV (rEqD K) (.ref p) (.ref q) H (.bl (decide (xs = ys))) := fun H1 e Q k =>
  ⟨_, _, .lst (ex_l e h) (dp_bls xs), .lst (ex_l e h') (dp_bls ys), shaped_bls xs, shaped_bls ys, by rw [PyData.eqv, eqv_bls]; exact k H1 (Ex.refl H1)⟩
theorem rv_neB {xs ys : List Bool} (h : SqL K H p (xs.map V.bl)) (h' : SqL K H q (ys.map V.bl)) : RV (rNeD K) (.ref p) (.ref q) H (.bl (!decide (xs = ys))) := fun H1 e Q k =>
  ⟨_, _, .lst (ex_l e h) (dp_bls xs), .lst (ex_l e h') (dp_bls ys), shaped_bls xs, shaped_bls ys, by rw [PyData.eqv, eqv_bls]; exact k H1 (Ex.refl H1)⟩
/-- two lists of two states each, alike -/
theorem rv_nePair {a b c d : Addr} {bs cs : List Bool} (h : SqL K H p [.ref a, .ref b]) (h' : SqL K H q [.ref c, .ref d]) (ha : SqL K H a (bs.map V.bl)) (hb : SqL K H b (cs.map V.bl)) (hc : SqL K H c (bs.map V.bl)) (hd : SqL K H d (cs.map V.bl)) : RV (rNeD K) (.ref p) (.ref q) H (.bl false) := fun H1 e Q k =>
  ⟨_, _, .lst (ex_l e h) (.cons (.lst (ex_l e ha) (dp_bls bs)) (.cons (.lst (ex_l e hb) (dp_bls cs)) .nil)), .lst (ex_l e h') (.cons (.lst (ex_l e hc) (dp_bls bs)) (.cons (.lst (ex_l e hd) (dp_bls cs)) .nil)), shaped_pair bs cs, shaped_pair bs cs, by
    rw [PyData.eqv, PyData.eqvAll, PyData.eqvAll, PyData.eqvAll, PyData.eqv, PyData.eqv, eqv_bls, eqv_bls, decide_eq_true rfl, decide_eq_true rfl]
    exact k H1 (Ex.refl H1)⟩
end
end Oc
/-! Within an except suite: defs that know the handled exception's class, isinstance of it, a comprehension over range. -/
namespace Oc
open PySem PySem.Spec PyProof.Rows L2 Evl L2H HotX
/-! ### the classes of exceptions -/
def excNm : List Str := ["NoListing", "NoThing", "NoNumber", "NoState", "NoMove", "TooFar"]
abbrev excA (K : PySem.W.Frag) (i : Nat) : Addr := aG K (excNm.getD i "")
/-- what is asked of the i-th class -/
structure ExcK (K : PySem.W.Frag) (i : Nat) : Prop where
  c : ExcC K (excA K i)
  kit : ∀ j, j < 6 → PySem.W.kitOne K (.ref (excA K i)) (.ref (excA K j)) = some (decide (i = j))
  ve : PySem.W.kitOne K (.ref (excA K i)) (.type "ValueError") = some true
  exm : PySem.W.exmOne K (.ref (excA K i)) (.ref (aG K "ChangeError")) = some true
def excKB (i : Nat) (K : PySem.W.Frag) : Bool :=
  He.eqO (PySem.W.findIn K (.ref (excA K i)) "__getattribute__") (some (some (.builtin "BaseException.__getattribute__"))) && (He.eqO (PySem.W.findIn K (.ref (excA K i)) "__getattr__") (some none) && (decide (PySem.W.subIn K (.ref (excA K i)) (.type "BaseException") = some true) &&
  (PySem.W.hasDictIn K (excA K i) && (He.eqO (PySem.W.findIn K (.ref (excA K i)) "__class__") (some (some (.builtin "object.__class__"))) && (He.eqO (PySem.W.specialIn K (.builtin "object.__class__") "__get__") (some (some (.builtin "getset_descriptor.__get__"))) &&
  (decide (PySem.W.takesIn K (.builtin "object.__class__") = some true) && (decide (PySem.W.mroIn K (excA K i) (.type "object") = some true) && (((List.range 6).all fun j => decide (PySem.W.kitOne K (.ref (excA K i)) (.ref (excA K j)) = some (decide (i = j)))) &&
  (decide (PySem.W.kitOne K (.ref (excA K i)) (.type "ValueError") = some true) && decide (PySem.W.exmOne K (.ref (excA K i)) (.ref (aG K "ChangeError")) = some true))))))))))
theorem excK_ok {i : Nat} {K : PySem.W.Frag} (h : excKB i K = true) : ExcK K i := by
  obtain ⟨h1, h⟩ := He.ba h
  obtain ⟨h2, h⟩ := He.ba h
  obtain ⟨h3, h⟩ := He.ba h
  obtain ⟨h4, h⟩ := He.ba h
  obtain ⟨h5, h⟩ := He.ba h
  obtain ⟨h6, h⟩ := He.ba h
  obtain ⟨h7, h⟩ := He.ba h
  obtain ⟨h8, h⟩ := He.ba h
  obtain ⟨h9, h⟩ := He.ba h
  obtain ⟨h10, h11⟩ := He.ba h
  exact ⟨⟨He.eqO_ok h1, He.eqO_ok h2, of_decide_eq_true h3, h4, He.eqO_ok h5, He.eqO_ok h6, of_decide_eq_true h7, of_decide_eq_true h8⟩, fun j hj => of_decide_eq_true (List.all_eq_true.mp h9 j (List.mem_range.mpr hj)), of_decide_eq_true h10, of_decide_eq_true h11⟩
theorem passLN {X : Cx} : Passes (L2N.CX X.prog X.w) X E0 := fun _ _ _ _ _ _ _ z => by
  obtain ⟨_, _, _, _, _, _, _, _, _, _, _, _, nope⟩ := z
  exact False.elim nope
/-! ### a def that knows the handled exception: where it stands, its class -/
structure FnE (P : Program) (w : World) (K : PySem.W.Frag) (mg : Str → Option Value) (base : Heap) (k : Nat) (f : Addr) (fd : FuncData) (ps : List Str) (sp : Addr → Value → Option Addr → Sp) : Prop where
  len : ∀ a c d vs H Q E, sp a c d vs H Q E → vs.length = ps.length
  run : ∀ (A : Around) (outer : List Env) (s : Shared) (H : Hp) (args : Args) (us : List Value) (vs : List V) (Q : VK) (E : XK) (p : Addr × Obj) (c : Value) (d : Option Addr), RoomH k A → Hot1 A p → Zc c d p.2 → PinOk outer H s p →
    Env0 P w K mg base A outer s H → BindsTo s fd args (ps.zip us) → Vals vs us → sp p.1 c d vs H Q E → codeAny (model P w) A (.call (.ref f) args) (CR (L2N.CX P w) outer P w H s Q E) s
theorem fnE_of {P : Program} {w : World} {K : PySem.W.Frag} {mg : Str → Option Value} {base : Heap} {x qual : Str} {st : Stmt} {f : Addr} {fd : FuncData} {k : Nat} {N ps : List Str} {sp : Addr → Value → Option Addr → Sp}
    (F : FunD K x qual (defArgs st) (defBody st) (defScope st) [] [] f fd) (S : FnScope N ps (defScope st)) (len : ∀ a c d vs H Q E, sp a c d vs H Q E → vs.length = ps.length)
    (body : ∀ (cdv : Value) (A : Around) (outer : List Env) (s : Shared) (H : Hp) (vs : List V) (Q : VK) (E : XK) (p : Addr × Obj) (c : Value) (d : Option Addr), Hot1 A p → Zc c d p.2 → RoomH k (A.deeper (envOfC qual (defScope st) s.heap.objs.size f cdv)) → sp p.1 c d vs H Q E →
      ∃ t, PSs (cxH (L2N.CX P w) P w K mg base N qual (defScope st) f cdv A outer s H E p) (defBody st) t ∧ t { nx := fun _ H' => Q .non H', rt := Q } (L2.start N vs) H) : FnE P w K mg base (k + 1) f fd ps sp := by
  obtain ⟨oc, od, dV, kV, doc, pm, an, cdv, ct, osl, efd, lk, hcd, _, _⟩ := F.ex
  subst efd
  refine ⟨len, ?_⟩
  intro A outer s H args us vs Q E p c d room hot zc pin env bnd vals hsp
  have ln := len _ _ _ _ _ _ _ hsp
  have inS : K.In s.heap := env.mod.kin.keeps fun b o e => (env.bs b o e).1
  have noLim : s.heap.NoLimit := env.mod.nolimit.keeps fun b o e => (env.bs b o e).1
  have kinds : ∀ y ∈ ps.zip us, (defScope st).names.lookup y.1 = some .local ∨ ((defScope st).names.lookup y.1 = some .cell ∧ ((cellsFrom (s.heap.objs.size + 1) (defScope st).names []).lookup y.1).isSome = true) := by
    intro y hy
    obtain ⟨n, v⟩ := y
    rcases S.par n (List.of_mem_zip hy).1 with q | q
    · exact Or.inl q
    · exact Or.inr ⟨q, PySem.W.cellsFrom_some _ _ _ (Or.inl q)⟩
  refine codeAny_call_function room.depth (inS _ _ lk) rfl S.co S.gen rfl (PySem.W.codeRec_of inS hcd) (bnd _ _ _ _ ?_)
  refine wpAny_newFunctionEnv_cells S.kind kinds fun ev hev s' xs => ?_
  subst hev
  refine ⟨noLim.keeps xs.toInCall.keep, codeAny_func ?_⟩
  obtain ⟨t, pss, red⟩ := body cdv A outer s H vs Q E p c d hot zc (room.deeper _) hsp
  have I := inv_startH (CX := L2N.CX P w) (qual := qual) (f := f) (cd := cdv) (E := E) S pin env ln vals xs
  refine wpAny_mono (pss.run [] s' (L2.start N vs) H _ I red) (fun flow s2 hs => ?_) fun e s2 hs => hs
  have done : ∀ {σ' : Stt} {H' : Hp} {v : V} {u : Value}, Inv (cxH (L2N.CX P w) P w K mg base N qual (defScope st) f cdv A outer s H E p) [] σ' H' s2 → RelV v u → Q v H' → CE outer P w H s Q u s2 := by
    intro σ' H' v u J rv q
    exact ⟨v, H', J.os, J.bare, J.base, J.hok, rv, q⟩
  match flow, hs with
  | .ret u, ⟨v, σ', H', J, rv, q⟩ => exact done J rv q
  | .next, ⟨σ', H', J, q⟩ => exact done (v := V.non) (u := Value.none) J rfl q
  | .brk, ⟨_, _, _, q⟩ => exact q.elim
  | .cont, ⟨_, _, _, q⟩ => exact q.elim
section
variable {X : Cx}
theorem pe_callE {k : Nat} {f : Addr} {fd : FuncData} {ps : List Str} {sp : Addr → Value → Option Addr → Sp} {x : Str} {q pos : Pos} {e : Expr} {es : List Expr} {t : TA} {p : Addr × Obj} {c : Value} {d : Option Addr} (F : FnE X.prog X.w X.K X.mg X.base k f fd ps sp) (hr : RoomH k X.A)
    (hot : Hot1 X.A p) (hp : p ∈ X.pn) (hz : Zc c d p.2) (hg : Gl X x) (hm : X.mg x = some (.ref f)) (hk : PySem.W.keepIn X.K (.ref f) = true) (hb : Binds X.K fd ps []) (ha : PA X (e :: es) t) (hdb : (x == ("__debug__" : Str)) = false := by decide)
    (he : starEach (e :: es) X.env = (false, eval e X.env) :: starEach es X.env := by rfl) (hpl : (backTo pos (starEach es X.env)).any (·.1) = false := by rfl) : PE X (.Call (.Name x q) (e :: es) [] pos) (tCallS (sp p.1 c d) (fun _ => E0) t) := by
  refine ⟨fun pins s σ H Q I red => ?_⟩
  refine wpAny_Call_Name_kw (ld_glob I hg hm ?_ hdb)
  refine PySem.W.callWith_K (h₀ := X.base) I.ok.mod.kin hk (thn (ha.run pos pins s σ H _ I red) fun us s' ⟨vs, H', J, vals, hsp⟩ => ⟨J.kIn, ?_⟩) he hpl
  have ln : us.length = ps.length := by rw [← vals.length]; exact F.len _ _ _ _ _ _ _ hsp
  have bnd := hb s' us J.kIn (by rw [List.append_nil]; exact ln)
  rw [List.append_nil] at bnd
  obtain ⟨g1, g2, g3, g4, g5⟩ := J.pin p (List.mem_append_left _ hp)
  have pin : PinOk X.stack H' s' p := ⟨g1, g2, fun z => (List.mem_cons.mp (J.stkSub p.1 z)).elim g3 g4, g5⟩
  refine wpAny_call (codeAny_mono (F.run X.A X.stack s' H' ⟨us, []⟩ us vs Q E0 p c d hr hot hz pin J.env0 bnd vals hsp) fun r s2 hq => ?_)
  match r, hq with
  | .error e, z =>
    obtain ⟨_, _, _, _, _, _, _, _, _, _, _, _, nope⟩ := z
    exact False.elim nope
  | .ok (.ret u), z => exact J.after z
  | .ok .next, z => exact z.elim
  | .ok .brk, z => exact z.elim
  | .ok .cont, z => exact z.elim
/-- isinstance(e, c), e the handled exception -/
theorem call_isEH {a D : Addr} {oe : Obj} (C : ExcC X.K D) (hp : (a, oe) ∈ X.pn) (hz : Zc (.ref D) none oe) (hf : ∃ vs, oe.data = .fields vs) : CallR X (.builtin "isinstance") (rIsE X.K D a) := by
  intro pins s σ H xs us Q I vals red
  obtain ⟨c, cv, b, rfl, only, kit, q⟩ := red
  obtain ⟨u1, u2, rfl, r1, r2⟩ := vals2 vals
  obtain rfl := only _ r2
  obtain rfl : u1 = Value.ref a := r1
  have g := (I.pin (a, oe) (List.mem_append_left _ hp)).1
  have at_ : PySem.W.InstAt s.heap a oe D none := by
    obtain ⟨vs, hv⟩ := hf
    obtain ⟨o1, o2, o3, o4⟩ := oe
    obtain ⟨z1, z2⟩ := hz
    dsimp only at z1 z2 hv
    subst z1 z2 hv
    exact ⟨g, rfl, rfl, trivial⟩
  exact PySem.W.kia_one (PySem.W.handS_kitx_exc C.hg C.hk C.hs C.hd C.ha C.hn C.ht C.hm) I.kIn at_ kit (fun z => nomatch z) fun tk => ⟨.bl b, H, I.kept (t' := tk) fun _ _ z => z, rfl, q⟩
/-- a method that may raise, within try -/
theorem pe_methW {CX : CXT} {k : Nat} {f C : Addr} {fd : FuncData} {ps : List Str} {sp : Sp} {E : Stt → XK} {m : Str} {pos apos : Pos} {e o : Expr} {es : List Expr} {ta : TE} {t : TA} {pl : Sem Bool} (he : PE X o ta) (c : Cls X.K C) (hm : Meth X.K C m f) (F : FnOk X.prog X.w X.K X.mg X.base CX k f fd ps sp) (hr : Room k X.A) (hb : Binds X.K fd ps [])
    (hx : ∀ σ, PassesAt CX X σ (E σ)) (ha : PA X (e :: es) t) (hst : starEach (e :: es) X.env = (false, eval e X.env) :: starEach es X.env := by rfl) (hpl : (backTo pos (starEach es X.env)).any (·.1) = false := by rfl)
    (ht : eval (.Call (.Attribute o m apos) (e :: es) [] pos) X.env = (do
      let ov ← eval o X.env
      standAt apos.atName
      let (f, first) ← holding [ov] (getMethod ov m pl)
      callWith pos f first (backTo pos (starEach (e :: es) X.env)) (backToKw pos (keywordEach [] X.env))) := by rfl) : PE X (.Call (.Attribute o m apos) (e :: es) [] pos) (tMethH C m sp E ta t) := by
  refine ⟨fun pins s σ H Q I red => ?_⟩
  refine PySem.W.methodCall_KW (pl := pl) (thn (he.run pins s σ H _ I red) fun u s' ⟨x, H', J, rx, a, dx, fs, ex, ea, no, more⟩ => ?_) ht
  subst ex
  obtain rfl : u = Value.ref a := rx
  refine getmeth_ok J ea c hm no ?_
  refine PySem.W.callWith_K (first := [.ref a]) (h₀ := X.base) J.ok.mod.kin hm.kp (thn (ha.run pos pins s' σ H' _ J more) fun us s2 ⟨vs, H2, J2, vals, hsp⟩ => ⟨J2.kIn, ?_⟩) hst hpl
  exact run_fnS (us := .ref a :: us) (vs := .ref a :: vs) F hr hb (hx σ) J2 (.cons rfl vals) hsp
end
/-! ### lists walked there -/
section
variable {prog : Program} {w : World} {A : Around} {E : Value → Shared → Prop} {s : Shared}
theorem list_end_hot {it l x1 : Addr} {i : Nat} {items : Array Value} {Q : Option Value → Shared → Prop} (hot : HotAt A x1 s.heap) (nx : x1 ≠ it) (iti : s.heap.IsListIter it l i) (isl : s.heap.IsList l items) (out : items[i]? = none)
    (k : ∀ h', (∀ b o, b ≠ it → s.heap.get? b = some o → h'.get? b = some o) → Q none { s with heap := h' }) : wpAny (model prog w) A (pyNext (.ref it)) Q E s := by
  obtain ⟨oi, gi, ci, di⟩ := id iti
  obtain ⟨ol, gl, _, nl, dl⟩ := isl
  obtain ⟨hh, o1, vs1, g1, d1, c1⟩ := hot
  unfold pyNext
  refine wpAny_bind (wpAny_attempt (wpAny_callSpecial?_slot (name := Str.ofString "__next__") iti.typeIs slot_listiter_next (wpAny_call_entry slot_listiter_next iti.typeIs entry_listiter_next ?_ (args_listiter_next _))))
  show wpAny _ _ (field (Value.ref it) 0 >>= _) _ _ s
  refine wpAny_bind (wpAny_field gi di (x := Value.ref l) rfl ?_)
  show wpAny _ _ (if (Value.ref l == Value.none) = true then _ else _) _ _ s
  rw [if_neg (show ¬ (Value.ref l == Value.none) = true from Bool.false_ne_true)]
  show wpAny _ _ (field (Value.ref it) 1 >>= _) _ _ s
  refine wpAny_bind (wpAny_field gi di (x := Value.int i 0) rfl ?_)
  show wpAny _ _ (seqItems? (Value.ref l) >>= _) _ _ s
  refine wpAny_bind (wpAny_seqItems gl dl ?_)
  simp only [Int.toNat_natCast, out]
  refine wpAny_bind (wpAny_rule (wpAny_bind (wpAny_setField gi di (by simp) ?_)))
  show wpAny _ _ (newExc (Value.type "StopIteration") [] >>= _) _ _ _
  refine wpAny_bind ?_
  simp only [newExc, newTuple]
  refine wpAny_bind (wpAny_newObj_type ?_ (by size_fits))
  refine wpAny_bind (m := firstArgMember _ _) (wpAny_of_eq (a := Value.none) (by first | rfl | (simp only [firstArgMember]; rfl)) ?_)
  refine wpAny_newObj_type ?_ (by size_fits)
  have keep : ∀ b o, b ≠ it → s.heap.get? b = some o → ∀ f : Obj → Obj, ∀ o1 o2 : Obj, (((s.heap.update it f).push o1).push o2).get? b = some o := by
    intro b o nb g f o1 o2
    exact Heap.get?_push_of_some _ (Heap.get?_push_of_some _ ((Heap.get?_update_other _ _ (Ne.symm nb)).trans g))
  refine raiseNew_hot ⟨hh, o1, vs1, keep _ _ nx g1 _ _ _, d1, c1⟩ (Nat.ne_of_lt (Heap.lt_size (Heap.get?_push_of_some _ ((Heap.get?_update_other _ _ (Ne.symm nx)).trans g1)))) (Heap.get?_push_size _ rfl) rfl (by first | (simp; done) | (simp; omega) | (simp only [Array.size_append]; simp; omega)) ?_
  refine wpAny_bind (wpAny_isInstance (T := "StopIteration") (b := true) ⟨_, Heap.get?_update_self _ (Heap.get?_push_size _ rfl) rfl, rfl⟩ isSubtype_stop ?_)
  refine wpAny_pure (k _ fun b o nb g => ?_)
  have g2 := (Heap.get?_update_other s.heap (Obj.mapFields (·.setIfInBounds 0 Value.none)) (Ne.symm nb)).trans g
  rw [Heap.get?_update_other _ _ (Nat.ne_of_gt (Heap.lt_size (Heap.get?_push_of_some _ g2)))]
  exact keep _ _ nb g _ _ _
end
theorem turn_listH {P : Program} {w : World} {K : PySem.W.Frag} {tg : Expr} (a it : Addr) : TurnH P w K tg (Itl K a) [it] it (fun i h => h.IsListIter it a i) where
  mem := List.mem_singleton.mpr rfl
  obj := by
    intro i h st b hb
    obtain rfl := List.mem_singleton.mp hb
    obtain ⟨o, g, c, d⟩ := st
    exact ⟨o, g, fun v z => by rw [d] at z; cases z⟩
  keep := by
    intro i h h' st k
    exact st.at fun o g => k it (List.mem_singleton.mpr rfl) o g
  item := by
    intro X eP ew eK hc i pins s σ H E I ok st go
    subst eP ew eK
    obtain ⟨xs, x, hq, hx⟩ := go
    obtain ⟨its, rv, pl, hz⟩ := I.list hq
    obtain ⟨u, hu, ru⟩ := rv.get hx
    obtain ⟨f0, f1, f2, f3, f4, f5⟩ := ok it (List.mem_singleton.mpr rfl)
    refine wpAny_pyNext_list_item st pl.isList (x := u) (by simpa using hu) fun h' st' but => ?_
    have J : Inv X pins σ H { s with heap := h' } := I.turned (t' := s.toks) (fun b o hb g => (but.2 b hb).trans g) f0 f1 f3 f4 f5
    obtain ⟨o, g, c, d⟩ := id st'
    refine ⟨u, rfl, go_of (s := { s with heap := h' }) g c d (by decide) ⟨x, H, J, ru, ⟨rfl, fun ys hy => ?_⟩, st', fun b hb => (ok b hb).1⟩⟩
    rw [I.list_inj hy hq]
    exact hx
  done := by
    intro X eP ew eK hc i pins s σ H E I ok st stop
    subst eP ew eK
    obtain ⟨xs, hq, hx⟩ := stop
    obtain ⟨its, rv, pl, hz⟩ := I.list hq
    obtain ⟨f0, f1, f2, f3, f4, f5⟩ := ok it (List.mem_singleton.mpr rfl)
    have ln := rv.length
    obtain ⟨p, ⟨hh, v1, e1, c1⟩, hp⟩ := hc
    have hp2 : p ∈ X.pn ++ pins := List.mem_append_left _ hp
    exact list_end_hot ⟨hh, p.2, v1, (I.pin p hp2).1, e1, c1⟩ (f5 p hp2) st pl.isList (by simp; omega) fun h' keep => ⟨rfl, I.turned (t' := s.toks) (fun b o hb g => keep b o hb g) f0 f1 f3 f4 f5⟩
  self := fun _ _ _ _ _ st q => wpAny_pyIter_listiter st q
theorem pi_listH {X : Cx} {tg l : Expr} {tl : TE} (hl : PE X l tl) : PIH X tg l (iList X.K tl) := by
  refine ⟨fun pins s σ H R I red => ?_⟩
  refine thn (hl.run pins s σ H _ I red) fun v s' hv => ?_
  obtain ⟨x, H', J, rx, a, ea, ⟨xs, hq⟩, q⟩ := hv
  subst ea
  obtain rfl : v = Value.ref a := rx
  obtain ⟨its, rv, pl, hz⟩ := J.list hq
  refine wpAny_pyIter_list pl.isList ?_
  refine ⟨s'.heap.objs.size, [s'.heap.objs.size], _, _, H', rfl, J.kept (t' := s'.toks) fun b o g => Heap.get?_push_of_some _ g, turn_listH a _, ⟨_, Heap.get?_push_size _ rfl, rfl, rfl⟩, fun b hb => ?_, q⟩
  obtain rfl := List.mem_singleton.mp hb
  exact J.fpOk (Nat.le_refl _) (J.hok.fresh (Nat.le_refl _))
/-! ### a comprehension there -/
section
variable {X : Cx}
/-- the handled exception, pinned for the iterator's sake -/
theorem pin_in {Y : Cx} {pins : List (Addr × Obj)} {σ : Stt} {H : Hp} {s : Shared} {p : Addr × Obj} (I : Inv Y pins σ H s) (e : Y.pn = []) (h : s.heap.get? p.1 = some p.2 ∧ H p.1 = none ∧ p.1 ≠ Y.env.locals ∧ p.1 ∉ Y.fs ∧ ∀ v, p.2.data ≠ .cell v) : Inv (Y.tr [p] Y.xe) [] σ H s := by
  have J : Inv Y [p] σ H s := I.pins_of fun q hq => by
    rw [List.mem_singleton.mp hq]
    exact h
  have J2 := J.toTry Y.xe
  rw [e] at J2
  exact J2
theorem pin_out {Y : Cx} {pins : List (Addr × Obj)} {σ : Stt} {H : Hp} {s : Shared} {p : Addr × Obj} (ok : Y.Ok) (e : Y.pn = []) (I : Inv (Y.tr [p] Y.xe) pins σ H s) : Inv Y [] σ H s := by
  have e2 : [p] = Y.pn ++ [p] := by rw [e]; rfl
  rw [e2] at I
  exact (I.ofTry ok).pins_of fun q hq => by cases hq
theorem pe_lcH {elt tg iter : Expr} {ifs : List Expr} {scope : Scope} {own : List (Str × Nat)} {pos : Pos} {wi : TI} {g : TG} {tt : TT} {te : TE} {p : Addr × Obj} (hot : Hot1 X.A p) (hp : p ∈ X.pn) (hN : X.N.Nodup) (hi : PIH X tg iter wi) (ok : BlkOk X.N X.env.scope scope own)
    (hg : ∀ (s : Shared) (H : Hp) (C : Addr) (cl : List (Str × Addr)) (fp : List Addr), PG (X.blk s H scope (compEnvC scope cl C X.env) fp) tg g) (ht : ∀ (s : Shared) (H : Hp) (C : Addr) (cl : List (Str × Addr)) (fp : List Addr), PTs (X.blk s H scope (compEnvC scope cl C X.env) fp) ifs tt)
    (he : ∀ (s : Shared) (H : Hp) (C : Addr) (cl : List (Str × Addr)) (fp : List Addr), PE (X.blk s H scope (compEnvC scope cl C X.env) fp) elt te) (hs : ∀ x, foldedSetIterable iter X.env x = pure x := by intro _; rfl) : PE X (.ListComp elt [⟨tg, iter, ifs, 0⟩] scope pos) (tLc wi g tt te (own.map (·.2))) := by
  refine ⟨fun pins s σ H Q I red => ?_⟩
  rw [eval_ListComp]
  have frees : ∀ y ∈ scope.names, y.2 = .free → ∃ c, X.env.cells.lookup y.1 = some c := by
    intro y hy hf
    cases ok.free y hy hf with
    | inl z => exact I.ok.has _ (Or.inl z)
    | inr z => exact I.ok.has _ (Or.inr z)
  refine wpAny_comprehension_free (use := none) rfl hs (closure_ok frees) ok.kind (fun y hy z => by rw [ok.uniq y hy, z]) (thn (hi.run pins s σ H _ I red) fun xv sA hA => thn hA fun itv sB hB => ?_)
  obtain ⟨it, fp, tn, J, HB, eit, IB, T, tnB, fpB, loopB⟩ := hB
  subst eit
  refine wpAny_newObj_type (newEnv_comp ?_) (by show 0 ≤ sizeLine; decide)
  generalize eD : sB.heap.objs.size = D
  obtain ⟨W, ⟨m0, w0⟩, turn⟩ := loopB D (IB.hok.fresh (Nat.le_of_eq eD))
  -- with the new list
  generalize eC : ({ sB with heap := sB.heap.push { cls := .type "list", data := .seq ([] : List Value).toArray } } : Shared) = sC
  have hC : sC.heap = sB.heap.push { cls := .type "list", data := .seq ([] : List Value).toArray } := by rw [← eC]
  have IC : Inv X pins σ (upd HB D (.lst [])) sC := by
    rw [← eC]
    refine IB.laid (t' := sB.toks) (fun b o z => Heap.get?_push_of_some _ z) (Nat.le_of_eq eD) ⟨Nat.zero_le _, [], 0, .nil, ?_⟩
    rw [← eD]
    exact Heap.get?_push_size _ rfl
  have small : ∀ b ∈ fp, b < sB.heap.objs.size := by
    intro b hb
    obtain ⟨o, z, _⟩ := T.obj _ _ tnB b hb
    exact Heap.lt_size z
  have fpC : ∀ b ∈ fp, FpOk X pins (upd HB D (.lst [])) b ∧ b < sC.heap.objs.size := by
    intro b hb
    have lt := small b hb
    constructor
    · refine ⟨?_, (fpB b hb).2⟩
      rw [upd_ne (by rw [← eD]; exact Nat.ne_of_lt lt)]
      exact (fpB b hb).1
    · rw [hC, Heap.size_push]
      exact Nat.lt_succ_of_lt lt
  have tnC : tn 0 sC.heap := T.keep _ _ _ tnB fun b _ o z => by
    rw [hC]
    exact Heap.get?_push_of_some _ z
  have pinC := IC.pin p (List.mem_append_left _ hp)
  have ID := block_start IC ok hN fpC
  have rg := hg sC (upd HB D (.lst [])) sC.heap.objs.size (cellsFrom (sC.heap.objs.size + 1) scope.names (cloFrom X.env.cells scope.names [])) fp
  have rt := ht sC (upd HB D (.lst [])) sC.heap.objs.size (cellsFrom (sC.heap.objs.size + 1) scope.names (cloFrom X.env.cells scope.names [])) fp
  have re := he sC (upd HB D (.lst [])) sC.heap.objs.size (cellsFrom (sC.heap.objs.size + 1) scope.names (cloFrom X.env.cells scope.names [])) fp
  show codeAny _ _ (.compStart (.ListComp elt [⟨tg, iter, ifs, 0⟩] scope pos) 0 (.ref it) (.ref D)
    (compEnvC scope (cellsFrom (sC.heap.objs.size + 1) scope.names (cloFrom X.env.cells scope.names [])) sC.heap.objs.size X.env)) (compPost (model X.prog X.w) X.A X.xe none (EP X pins σ Q) (.ref D) sC.heap.objs.size)
      { sC with heap := pushCells (sC.heap.push { cls := .type "dict", data := .dict #[] }) scope.names }
  have fpN : ∀ b ∈ fp, (upd HB D (.lst [])) b = none := fun b hb => (fpC b hb).1.1
  generalize eE : compEnvC scope (cellsFrom (sC.heap.objs.size + 1) scope.names (cloFrom X.env.cells scope.names [])) sC.heap.objs.size X.env = en at ID rg rt re ⊢
  have enL : en.locals = sC.heap.objs.size := by
    subst eE
    rfl
  generalize eH : upd HB D (.lst []) = HC at IC ID rg rt re w0 fpN fpC pinC
  generalize eS : ({ sC with heap := pushCells (sC.heap.push { cls := .type "dict", data := .dict #[] }) scope.names } : Shared) = sD at ID ⊢
  have tnD : tn 0 sD.heap := T.keep _ _ _ tnC fun b _ o z => by
    rw [← eS]
    exact pushCells_keeps _ _ _ _ (Heap.get?_push_of_some _ z)
  -- the handled exception in the block
  have inFp : ∀ b ∈ fp, p.1 ≠ b := fun b hb => (fpC b hb).1.2.2.2.2.2 p (List.mem_append_left _ hp)
  have notFs : p.1 ∉ (X.blk sC HC scope en fp).fs := fun z => (List.mem_cons.mp (IC.stkSub p.1 z)).elim pinC.2.2.1 pinC.2.2.2.1
  have held : ∀ {σ' : Stt} {H' : Hp} {s' : Shared} {q : List (Addr × Obj)}, Inv (X.blk sC HC scope en fp) q σ' H' s' → s'.heap.get? p.1 = some p.2 ∧ H' p.1 = none ∧ p.1 ≠ (X.blk sC HC scope en fp).env.locals ∧ p.1 ∉ (X.blk sC HC scope en fp).fs ∧ ∀ v, p.2.data ≠ .cell v := by
    intro σ' H' s' q I'
    refine ⟨I'.base.keep _ _ pinC.1 pinC.2.1 notFs fun z => inFp _ z rfl, I'.base.free _ _ pinC.1 pinC.2.1 fun z => inFp _ z rfl, ?_, notFs, pinC.2.2.2.2⟩
    show p.1 ≠ en.locals
    rw [enL]
    exact Nat.ne_of_lt (Heap.lt_size pinC.1)
  have hotY : HotC ((X.blk sC HC scope en fp).tr [p] (X.blk sC HC scope en fp).xe) := ⟨p, hot, List.mem_singleton.mpr rfl⟩
  have still : ∀ {σ' : Stt} {H' : Hp} {s' : Shared}, Inv (X.blk sC HC scope en fp) [] σ' H' s' → (∀ b ∈ fp, H' b = none) → ∀ b ∈ fp, FpOk ((X.blk sC HC scope en fp).tr [p] (X.blk sC HC scope en fp).xe) [] H' b := by
    intro σ' H' s' I' hn b hb
    refine ⟨hn b hb, (I'.ok.exf b hb).1, I'.ok.exfs b hb, Or.inl hb, fun x c z => (I'.ok.exf b hb).2 x c z, fun q hq => ?_⟩
    have hq2 : q ∈ [p] ++ ([] : List (Addr × Obj)) := hq
    rw [List.append_nil] at hq2
    rw [List.mem_singleton.mp hq2]
    exact inFp b hb
  have still0 : ∀ {σ' : Stt} {H' : Hp} {s' : Shared}, Inv (X.blk sC HC scope en fp) [] σ' H' s' → (∀ b ∈ fp, H' b = none) → ∀ b ∈ fp, FpOk (X.blk sC HC scope en fp) [] H' b := by
    intro σ' H' s' I' hn b hb
    exact ⟨hn b hb, (I'.ok.exf b hb).1, I'.ok.exfs b hb, Or.inl hb, fun x c z => (I'.ok.exf b hb).2 x c z, fun q hq => by cases hq⟩
  have run : codeAny (model X.prog X.w) X.A (.compLoop (.ListComp elt [⟨tg, iter, ifs, 0⟩] scope pos) 0 (.ref it) (.ref D) en) (compPost (model X.prog X.w) X.A X.xe none (EP X pins σ Q) (.ref D) sC.heap.objs.size) sD := by
    refine compLoop_any (fun n s' => ∃ i H', Inv (X.blk sC HC scope en fp) [] (wipe σ (own.map (·.2))) H' s' ∧ tn i s'.heap ∧ (∀ b ∈ fp, H' b = none) ∧ W i n H') ?_ m0 ⟨0, HC, ID, tnD, fpN, w0⟩
    intro n s5 hinv
    obtain ⟨i, H5, I5, tn5, n5, w5⟩ := hinv
    have P5 := pin_in I5 rfl (held I5)
    cases turn i n H5 w5 with
    | inl z =>
      obtain ⟨stop, qq⟩ := z
      refine thnF (T.done ((X.blk sC HC scope en fp).tr [p] (X.blk sC HC scope en fp).xe) rfl rfl rfl hotY i [] s5 _ H5 (fun _ _ => False) P5 (still I5 n5) tn5 stop) fun r s6 h6 => ?_
      obtain ⟨er, P6⟩ := h6
      subst er
      have I6 := pin_out I5.ok rfl P6
      have I7 : Inv X pins σ H5 s6 := IC.call' (ch := fp) I6.os I6.base I6.hok I6.bare fun b hb => ⟨(fpC b hb).1.2.2.2.1, (fpC b hb).1.2.1, (fpC b hb).1.2.2.2.2.1, (fpC b hb).1.2.2.2.2.2⟩
      have free : H5 sC.heap.objs.size = none := by
        have z : H5 en.locals = none := I6.free
        rw [enL] at z
        exact z
      obtain ⟨m, hn, _⟩ := I6.loc
      have hn2 : s6.heap.Ns en.locals m := hn
      rw [enL] at hn2
      obtain ⟨f0, f1, f2, f3, f4, f5⟩ := IC.fpOk (H' := H5) (Nat.le_refl _) free
      exact ⟨m, hn2, fun h' sb => ⟨.ref D, H5, I7.turned (t' := s6.toks) (fun b o hb z => (sb.2 b hb).trans z) f0 f1 f3 f4 f5, rfl, qq⟩⟩
    | inr z =>
      obtain ⟨go, Nx, hNx, step⟩ := z
      refine thnF (T.item ((X.blk sC HC scope en fp).tr [p] (X.blk sC HC scope en fp).xe) rfl rfl rfl hotY i [] s5 _ H5 (fun _ _ => False) P5 (still I5 n5) tn5 go) fun r s6 h6 => ?_
      obtain ⟨u, er, h6⟩ := h6
      subst er
      refine thnF h6 fun _ s7 h7 => ?_
      obtain ⟨x, H7, P7, r7, y7, tn7, n7⟩ := h7
      have I7 := pin_out I5.ok rfl P7
      have I7p := I7.pinned (still0 I7 n7) (T.obj _ _ tn7)
      refine thnF (rg.run _ s7 _ H7 x u _ I7p r7 (step x H7 y7)) fun _ s8 h8 => ?_
      obtain ⟨σ8, H8, I8, hw8, q8⟩ := h8
      refine thnF (rt.run _ s8 σ8 H8 _ I8 q8) fun b s9 h9 => ?_
      obtain ⟨H9, I9, q9⟩ := h9
      have fin : ∀ {s' : Shared} {H' : Hp}, Inv (X.blk sC HC scope en fp) ([] ++ pinsAt fp s7.heap) σ8 H' s' → Nx H' → ∃ m, m < n ∧ ∃ i H', Inv (X.blk sC HC scope en fp) [] (wipe σ (own.map (·.2))) H' s' ∧ tn i s'.heap ∧ (∀ b ∈ fp, H' b = none) ∧ W i m H' := by
        intro s' H' I' nx
        obtain ⟨m', lt, w'⟩ := hNx H' nx
        have pinned : ∀ b ∈ fp, ∀ o, s7.heap.get? b = some o → s'.heap.get? b = some o ∧ H' b = none := by
          intro b hb o z
          have q := I'.pin (b, o) (List.mem_append_right _ (List.mem_append_right _ (mem_pinsAt hb z)))
          exact ⟨q.1, q.2.1⟩
        have len : (wipe σ (own.map (·.2))).length = σ8.length := by rw [← hw8, wipe_length]
        refine ⟨m', lt, i + 1, H', (I'.unpinned (pins := [])).weak len (fun j v z => ?_), T.keep _ _ _ tn7 fun b hb o z => (pinned b hb o z).1, fun b hb => ?_, w'⟩
        · rw [← hw8] at z
          exact (wipe_some z).1
        · obtain ⟨o, z, _⟩ := T.obj _ _ tn7 b hb
          exact (pinned b hb o z).2
      cases b with
      | false =>
        simp only [Bool.false_eq_true, if_false] at q9 ⊢
        exact fin I9 q9
      | true =>
        simp only [if_true] at q9 ⊢
        refine thnF (re.run _ s9 σ8 H9 _ I9 q9) fun z s10 h10 => ?_
        obtain ⟨yv, H10, I10, r10, acc, hD10, hz10, nx⟩ := h10
        exact app_ok (X := X.blk sC HC scope en fp) I10 hD10 hz10 r10 fun s11 I11 => fin I11 nx
  exact codeAny_compStart_list run (T.self X.A 0 _ _ _ tnD run)
end
/-! ### readings -/
theorem roomH_units {k : Nat} {A : Around} (h : RoomH k A) : A.units + 64 < cLine := by
  have := h.un
  omega
theorem roomH_mark {k : Nat} {A : Around} {v : Option Value} (h : Room k A) : RoomH k (A.mark v) := ⟨h.dp, h.un⟩
theorem hot_suite {X : Cx} {a : Addr} {oe : Obj} {pn : List (Addr × Obj)} {cls : Value} {d : Option Addr} (hz : L2N.Zn cls d oe) (hv : ∃ vs, oe.data = .fields vs) : Hot1 (X.suite a ((a, oe) :: pn)).A (a, oe) := by
  obtain ⟨vs, e⟩ := hv
  exact ⟨rfl, vs, e, hz.2.2 vs e⟩
section
variable {K : PySem.W.Frag} {σ : Stt} {H : Hp} {ta : TA} {te tb : TE} {z : V} {D : Ends} {tz : TS}
theorem ev_callS {sp : Sp} {E : Stt → XK} {vs : List V} (h : EvA ta σ H vs) (hs : SpV sp vs H z) : Ev (tCallS sp E ta) σ H z := fun H1 e Q q => h H1 e _ fun H2 e2 => hs H2 (e.trans e2) Q (fun H3 e3 => q H3 (e2.trans e3)) _
theorem ev_isE {D a : Addr} {c : V} {cv : Value} {b : Bool} (h : Ev te σ H (.ref a)) (hc : Ev tb σ H c) (only : ∀ u, RelV c u → u = cv) (kit : PySem.W.kitOne K (.ref D) cv = some b) : Ev (tCB (rIsE K D a) (tCons te (tCons tb tNil))) σ H (.bl b) := fun H1 e Q q =>
  h H1 e _ fun H2 e2 => hc H2 (e.trans e2) _ fun H3 e3 => ⟨c, cv, b, rfl, only, kit, q H3 (e2.trans e3)⟩
theorem q_try {tr : TS} (h : tr { D with nx := tz D } σ H) : tSeq tr tz D σ H := h
end
end Oc
namespace Oc
open PySem PySem.Spec PyProof.Rows L2 Evl L2H HotX
def topS (i : Nat) : Stmt := PySem.Challenge.pw_onechange_k09_rings_moved.main.body.getD i (.Pass ⟨0, 0, 0, 0⟩)
abbrev s_asked_state : Stmt := topS 10
abbrev s_moves : Stmt := topS 11
abbrev s_moved : Stmt := topS 12
abbrev s__law_cell_at : Stmt := topS 14
abbrev s__law_whole : Stmt := topS 15
abbrev s__law_numbers_like : Stmt := topS 16
abbrev s__law_state_by : Stmt := topS 17
abbrev s__law_free : Stmt := topS 18
abbrev s__law_other : Stmt := topS 19
abbrev s__law_told : Stmt := topS 20
abbrev s__law_state_like : Stmt := topS 21
abbrev s_law : Stmt := topS 22
theorem sc_asked_state : FnScope ["state"] ["state"] (defScope s_asked_state) := ⟨rfl, rfl, rfl, by decide +kernel, rfl, by decide +kernel, by decide +kernel⟩
theorem sc_moves : FnScope ["state", "found", "ring"] ["state"] (defScope s_moves) := ⟨rfl, rfl, rfl, by decide +kernel, rfl, by decide +kernel, by decide +kernel⟩
theorem sc_moved : FnScope ["state", "ring", "k", "one"] ["state", "ring"] (defScope s_moved) := ⟨rfl, rfl, rfl, by decide +kernel, rfl, by decide +kernel, by decide +kernel⟩
theorem sc__law_cell_at : FnScope ["script", "k"] ["script", "k"] (defScope s__law_cell_at) := ⟨rfl, rfl, rfl, by decide +kernel, rfl, by decide +kernel, by decide +kernel⟩
theorem sc__law_whole : FnScope ["found"] ["found"] (defScope s__law_whole) := ⟨rfl, rfl, rfl, by decide +kernel, rfl, by decide +kernel, by decide +kernel⟩
theorem sc__law_numbers_like : FnScope ["found", "due", "one", "other"] ["found", "due"] (defScope s__law_numbers_like) := ⟨rfl, rfl, rfl, by decide +kernel, rfl, by decide +kernel, by decide +kernel⟩
theorem sc__law_state_by : FnScope ["script", "k", "many", "state", "ring"] ["script", "k", "many"] (defScope s__law_state_by) := ⟨rfl, rfl, rfl, by decide +kernel, rfl, by decide +kernel, by decide +kernel⟩
theorem sc__law_free : FnScope ["state", "found", "ring"] ["state"] (defScope s__law_free) := ⟨rfl, rfl, rfl, by decide +kernel, rfl, by decide +kernel, by decide +kernel⟩
theorem sc__law_other : FnScope ["e", "wanted", "kinds", "k"] ["e", "wanted"] (defScope s__law_other) := ⟨rfl, rfl, rfl, by decide +kernel, rfl, by decide +kernel, by decide +kernel⟩
theorem sc__law_told : FnScope ["state", "ring", "which", "e", "wanted"] ["state", "ring", "which"] (defScope s__law_told) := ⟨rfl, rfl, rfl, by decide +kernel, rfl, by decide +kernel, by decide +kernel⟩
theorem sc__law_state_like : FnScope ["found", "due", "one", "other"] ["found", "due"] (defScope s__law_state_like) := ⟨rfl, rfl, rfl, by decide +kernel, rfl, by decide +kernel, by decide +kernel⟩
theorem sc_law : FnScope ["script", "many", "state", "ring", "free", "handed", "one", "two", "due", "k"] ["script"] (defScope s_law) := ⟨rfl, rfl, rfl, by decide +kernel, rfl, by decide +kernel, by decide +kernel⟩
structure Txt (K : PySem.W.Frag) (mg : Str → Option Value) : Prop where
  q_NoListing : ExcK K 0
  q_NoThing : ExcK K 1
  q_NoNumber : ExcK K 2
  q_NoState : ExcK K 3
  q_NoMove : ExcK K 4
  q_TooFar : ExcK K 5
  z_ValueError : mg "ValueError" = none
  z_bool : mg "bool" = none
  z_enumerate : mg "enumerate" = none
  z_int : mg "int" = none
  z_isinstance : mg "isinstance" = none
  z_len : mg "len" = none
  z_list : mg "list" = none
  z_range : mg "range" = none
  z_zip : mg "zip" = none
  g_ChangeError : mg "ChangeError" = some (.ref (aG K "ChangeError"))
  g_NoListing : mg "NoListing" = some (.ref (aG K "NoListing"))
  g_NoThing : mg "NoThing" = some (.ref (aG K "NoThing"))
  g_NoNumber : mg "NoNumber" = some (.ref (aG K "NoNumber"))
  g_NoState : mg "NoState" = some (.ref (aG K "NoState"))
  g_NoMove : mg "NoMove" = some (.ref (aG K "NoMove"))
  g_TooFar : mg "TooFar" = some (.ref (aG K "TooFar"))
  g_asked_state : mg "asked_state" = some (.ref (aG K "asked_state"))
  g_moves : mg "moves" = some (.ref (aG K "moves"))
  g_moved : mg "moved" = some (.ref (aG K "moved"))
  g__law_cell_at : mg "_law_cell_at" = some (.ref (aG K "_law_cell_at"))
  g__law_whole : mg "_law_whole" = some (.ref (aG K "_law_whole"))
  g__law_numbers_like : mg "_law_numbers_like" = some (.ref (aG K "_law_numbers_like"))
  g__law_state_by : mg "_law_state_by" = some (.ref (aG K "_law_state_by"))
  g__law_free : mg "_law_free" = some (.ref (aG K "_law_free"))
  g__law_other : mg "_law_other" = some (.ref (aG K "_law_other"))
  g__law_told : mg "_law_told" = some (.ref (aG K "_law_told"))
  g__law_state_like : mg "_law_state_like" = some (.ref (aG K "_law_state_like"))
  g_law : mg "law" = some (.ref (aG K "law"))
  i_MOST_RINGS : ∃ t, mg "MOST_RINGS" = some (.int 40 t)
  e_ChangeError : PySem.W.excIn K (aG K "ChangeError") He.veBase "ValueError.__new__" = true ∧ PySem.W.keepIn K (.ref (aG K "ChangeError")) = true ∧ PySem.W.subIn K (.ref (aG K "ChangeError")) (.type "BaseException") = some true ∧ PySem.W.typeIn K (.ref (aG K "ChangeError")) = some (.type "type")
  e_NoListing : PySem.W.excIn K (aG K "NoListing") He.veBase "ValueError.__new__" = true ∧ PySem.W.keepIn K (.ref (aG K "NoListing")) = true ∧ PySem.W.subIn K (.ref (aG K "NoListing")) (.type "BaseException") = some true ∧ PySem.W.typeIn K (.ref (aG K "NoListing")) = some (.type "type")
  e_NoThing : PySem.W.excIn K (aG K "NoThing") He.veBase "ValueError.__new__" = true ∧ PySem.W.keepIn K (.ref (aG K "NoThing")) = true ∧ PySem.W.subIn K (.ref (aG K "NoThing")) (.type "BaseException") = some true ∧ PySem.W.typeIn K (.ref (aG K "NoThing")) = some (.type "type")
  e_NoNumber : PySem.W.excIn K (aG K "NoNumber") He.veBase "ValueError.__new__" = true ∧ PySem.W.keepIn K (.ref (aG K "NoNumber")) = true ∧ PySem.W.subIn K (.ref (aG K "NoNumber")) (.type "BaseException") = some true ∧ PySem.W.typeIn K (.ref (aG K "NoNumber")) = some (.type "type")
  e_NoState : PySem.W.excIn K (aG K "NoState") He.veBase "ValueError.__new__" = true ∧ PySem.W.keepIn K (.ref (aG K "NoState")) = true ∧ PySem.W.subIn K (.ref (aG K "NoState")) (.type "BaseException") = some true ∧ PySem.W.typeIn K (.ref (aG K "NoState")) = some (.type "type")
  e_NoMove : PySem.W.excIn K (aG K "NoMove") He.veBase "ValueError.__new__" = true ∧ PySem.W.keepIn K (.ref (aG K "NoMove")) = true ∧ PySem.W.subIn K (.ref (aG K "NoMove")) (.type "BaseException") = some true ∧ PySem.W.typeIn K (.ref (aG K "NoMove")) = some (.type "type")
  e_TooFar : PySem.W.excIn K (aG K "TooFar") He.veBase "ValueError.__new__" = true ∧ PySem.W.keepIn K (.ref (aG K "TooFar")) = true ∧ PySem.W.subIn K (.ref (aG K "TooFar")) (.type "BaseException") = some true ∧ PySem.W.typeIn K (.ref (aG K "TooFar")) = some (.type "type")
  d_asked_state : Df K "asked_state" "asked_state" s_asked_state (aG K "asked_state")
  d_moves : Df K "moves" "moves" s_moves (aG K "moves")
  d_moved : Df K "moved" "moved" s_moved (aG K "moved")
  d__law_cell_at : Df K "_law_cell_at" "_law_cell_at" s__law_cell_at (aG K "_law_cell_at")
  d__law_whole : Df K "_law_whole" "_law_whole" s__law_whole (aG K "_law_whole")
  d__law_numbers_like : Df K "_law_numbers_like" "_law_numbers_like" s__law_numbers_like (aG K "_law_numbers_like")
  d__law_state_by : Df K "_law_state_by" "_law_state_by" s__law_state_by (aG K "_law_state_by")
  d__law_free : Df K "_law_free" "_law_free" s__law_free (aG K "_law_free")
  d__law_other : Df K "_law_other" "_law_other" s__law_other (aG K "_law_other")
  d__law_told : Df K "_law_told" "_law_told" s__law_told (aG K "_law_told")
  d__law_state_like : Df K "_law_state_like" "_law_state_like" s__law_state_like (aG K "_law_state_like")
  d_law : Df K "law" "law" s_law (aG K "law")
end Oc
namespace Oc
open PySem PySem.Spec PyProof.Rows L2 Evl L2H HotX
/-! ### a listing: where it stands, how many things, the thing of a number, whether a list is a thing, a thing's number -/
structure Lst where
  C : Addr
  At : Hp → Addr → Prop
  N : Int
  put : Int → List Int
  th : List Int → Bool
  fnd : List Int → Int
def lsMeths : List Str := ["size", "put", "is_thing", "found", "many", "asked_number", "thing_at", "number_of", "after", "changed"]
theorem lk_none : ∀ {fs : List (Str × V)} {m : Str}, m ∉ fs.map (·.1) → fs.lookup m = none
  | [], _, _ => rfl
  | (k, v) :: r, m, h => by
    have h1 : ¬ m = k := fun e => h (by rw [e]; exact List.mem_cons_self)
    have h2 : (m == k) = false := by simpa using h1
    simp only [List.lookup, h2]
    exact lk_none fun z => h (List.mem_cons_of_mem _ z)
structure LsB (K : PySem.W.Frag) (I : Lst) : Prop where
  cl : Cls K I.C
  ins : ∀ {H : Hp} {p : Addr}, I.At H p → ∃ dx fs, H p = some (.ins I.C dx fs) ∧ ∀ m ∈ lsMeths, fs.lookup m = none
  mono : ∀ {H H' : Hp} {p : Addr}, Ex H H' → I.At H p → I.At H' p
  pos : 0 < I.N
/-- an error of the class at c -/
def RetE (c : Addr) (H : Hp) (E : XK) : Prop := ∀ H2, Ex H H2 → E (.ref c) none H2
theorem RetE.ex {c : Addr} {H H' : Hp} {E : XK} (k : RetE c H E) (e : Ex H H') : RetE c H' E := fun H2 e2 => k H2 (e.trans e2)
def InN (I : Lst) (x : Int) : Prop := 0 ≤ x ∧ x < I.N
def spSize (I : Lst) : Sp := fun vs H Q _ => ∃ p, vs = [.ref p] ∧ I.At H p ∧ RetV (.int I.N) H Q
def spPut (I : Lst) : Sp := fun vs H Q _ => ∃ p x, vs = [.ref p, .int x] ∧ I.At H p ∧ InN I x ∧ RetL ((I.put x).map V.int) H Q
def spTh (K : PySem.W.Frag) (I : Lst) : Sp := fun vs H Q _ => ∃ p a ts, vs = [.ref p, .ref a] ∧ I.At H p ∧ SqL K H a (ts.map V.int) ∧ ts.length ≤ 63 ∧ RetV (.bl (I.th ts)) H Q
def spFound (K : PySem.W.Frag) (I : Lst) : Sp := fun vs H Q _ => ∃ p a ts, vs = [.ref p, .ref a] ∧ I.At H p ∧ SqL K H a (ts.map V.int) ∧ I.th ts = true ∧ RetV (.int (I.fnd ts)) H Q
def spAsked (c : Addr) (I : Lst) : Sp := fun vs H Q E => ∃ p x, vs = [.ref p, .int x] ∧ I.At H p ∧ (InN I x → RetV .non H Q) ∧ (¬ InN I x → RetE c H E)
def spThing (c : Addr) (I : Lst) : Sp := fun vs H Q E => ∃ p x, vs = [.ref p, .int x] ∧ I.At H p ∧ (InN I x → RetL ((I.put x).map V.int) H Q) ∧ (¬ InN I x → RetE c H E)
def spNumb (K : PySem.W.Frag) (c : Addr) (I : Lst) : Sp := fun vs H Q E => ∃ p a ts, vs = [.ref p, .ref a] ∧ I.At H p ∧ SqL K H a (ts.map V.int) ∧ ts.length ≤ 63 ∧ (I.th ts = true → RetV (.int (I.fnd ts)) H Q) ∧ (I.th ts = false → RetE c H E)
def spAfter (K : PySem.W.Frag) (c : Addr) (I : Lst) : Sp := fun vs H Q E => ∃ p a ts, vs = [.ref p, .ref a] ∧ I.At H p ∧ SqL K H a (ts.map V.int) ∧ ts.length ≤ 63 ∧ (I.th ts = true → RetL ((I.put ((I.fnd ts + 1) % I.N)).map V.int) H Q) ∧ (I.th ts = false → RetE c H E)
section
variable {P : Program} {w : World} {K : PySem.W.Frag} {mg : Str → Option Value} {base : Heap} {I : Lst} {H : Hp} {p : Addr}
theorem sv_size (B : LsB K I) (hp : I.At H p) : SpV (spSize I) [.ref p] H (.int I.N) := fun H1 e Q q E => ⟨p, rfl, B.mono e hp, q⟩
theorem sl_put (B : LsB K I) (hp : I.At H p) {x : Int} (hx : InN I x) : SpL (spPut I) [.ref p, .int x] H ((I.put x).map V.int) := fun H1 e Q q E => ⟨p, x, rfl, B.mono e hp, hx, q⟩
theorem sv_th (B : LsB K I) (hp : I.At H p) {a : Addr} {ts : List Int} (ha : SqL K H a (ts.map V.int)) (hl : ts.length ≤ 63) : SpV (spTh K I) [.ref p, .ref a] H (.bl (I.th ts)) := fun H1 e Q q E => ⟨p, a, ts, rfl, B.mono e hp, ex_l e ha, hl, q⟩
theorem sv_found (B : LsB K I) (hp : I.At H p) {a : Addr} {ts : List Int} (ha : SqL K H a (ts.map V.int)) (ht : I.th ts = true) : SpV (spFound K I) [.ref p, .ref a] H (.int (I.fnd ts)) := fun H1 e Q q E => ⟨p, a, ts, rfl, B.mono e hp, ex_l e ha, ht, q⟩
theorem sv_asked {c : Addr} (B : LsB K I) (hp : I.At H p) {x : Int} (hx : InN I x) : SpV (spAsked c I) [.ref p, .int x] H .non := fun H1 e Q q E => ⟨p, x, rfl, B.mono e hp, fun _ => q, fun n => absurd hx n⟩
theorem sl_thing {c : Addr} (B : LsB K I) (hp : I.At H p) {x : Int} (hx : InN I x) : SpL (spThing c I) [.ref p, .int x] H ((I.put x).map V.int) := fun H1 e Q q E => ⟨p, x, rfl, B.mono e hp, fun _ => q, fun n => absurd hx n⟩
theorem sv_numb {c : Addr} (B : LsB K I) (hp : I.At H p) {a : Addr} {ts : List Int} (ha : SqL K H a (ts.map V.int)) (hl : ts.length ≤ 63) (ht : I.th ts = true) : SpV (spNumb K c I) [.ref p, .ref a] H (.int (I.fnd ts)) := fun H1 e Q q E =>
  ⟨p, a, ts, rfl, B.mono e hp, ex_l e ha, hl, fun _ => q, fun z => by rw [ht] at z; cases z⟩
theorem sl_after {c : Addr} (B : LsB K I) (hp : I.At H p) {a : Addr} {ts : List Int} (ha : SqL K H a (ts.map V.int)) (hl : ts.length ≤ 63) (ht : I.th ts = true) : SpL (spAfter K c I) [.ref p, .ref a] H ((I.put ((I.fnd ts + 1) % I.N)).map V.int) := fun H1 e Q q E =>
  ⟨p, a, ts, rfl, B.mono e hp, ex_l e ha, hl, fun _ => q, fun z => by rw [ht] at z; cases z⟩
end
section
variable {P : Program} {w : World} {K : PySem.W.Frag} {mg : Str → Option Value} {base : Heap} {I : Lst} {f fz fp ft fo fa fn : Addr}
end
end Oc
namespace Oc
open PySem PySem.Spec PyProof.Rows L2 Evl L2H HotX
theorem take_snoc {α : Type} {l : List α} {i : Nat} {x : α} (h : l[i]? = some x) : l.take (i + 1) = l.take i ++ [x] := by
  rw [List.take_add_one, h]
  rfl
theorem at_int {ts : List Int} {i : Nat} {x : V} (h : (ts.map V.int)[i]? = some x) : ∃ t, ts[i]? = some t ∧ x = .int t := by
  rw [List.getElem?_map] at h
  obtain ⟨t, h1, h2⟩ := Option.map_eq_some_iff.mp h
  exact ⟨t, h1, h2.symm⟩
end Oc
namespace Oc
open PySem PySem.Spec PyProof.Rows L2 Evl L2H HotX
/-! ### the laws' small helpers -/
/-- a cell of the script -/
def cell (ns : List Int) (k : Int) : Int := ns.getD k.toNat 0
section
variable {P : Program} {w : World} {K : PySem.W.Frag} {mg : Str → Option Value} {base : Heap} {H : Hp} {p a : Addr}
def spCell (K : PySem.W.Frag) : Sp := fun vs H Q _ => ∃ a ns k, vs = [.ref a, .int k] ∧ SqL K H a (ns.map V.int) ∧ 0 ≤ k ∧ RetV (.int (cell ns k)) H Q
theorem sv_cell {ns : List Int} {k : Int} (h : SqL K H a (ns.map V.int)) (hk : 0 ≤ k) : SpV (spCell K) [.ref a, .int k] H (.int (cell ns k)) := fun H1 e Q q E => ⟨a, ns, k, rfl, ex_l e h, hk, q⟩
theorem ok_cell (T : Txt K mg) : Pr P w K mg base 1 (aG K "_law_cell_at") ["script", "k"] (spCell K) := by
  refine pr_mk0 T.d__law_cell_at sc__law_cell_at (fun _ _ _ _ _ _ us hl => match us, hl with | [_, _], _ => rfl) (fun vs H Q E h => ?_) (fun cdv A outer s H vs Q E hr h => ?_)
  · obtain ⟨a, ns, k, rfl, _⟩ := h
    rfl
  · obtain ⟨a, ns, i, rfl, hS, hi, k⟩ := h
    refine ⟨_, (pss_cons (ps_if (pt_cmpR op_lt (pv 1) (pe_callB (r := rLenS K) call_len_seq (by rfl) T.z_len PySem.boot_len (pa_cons (pv 0) pa_nil)) (nomark _)) (pss_one (ps_ret (pe_ix (r := rIxL K) ix_list (pv 0) (pv 1) (fun _ _ => rfl)))) pss_nil)
  (pss_one (ps_ret pe_int))), ?_⟩
    refine q_when (et_test (ev_op (ev_var rfl) (ev_len (ev_var rfl) hS) rv_I0)) (fun hb H1 e1 => ?_) (fun hb H1 e1 => ?_)
    · rw [decide_eq_true_eq, List.length_map] at hb
      obtain ⟨j, rfl⟩ : ∃ j : Nat, i = (j : Int) := ⟨i.toNat, by omega⟩
      have hj : j < ns.length := by omega
      have q : cell ns (j : Int) = ns[j] := by
        unfold cell
        rw [Int.toNat_natCast, List.getD_eq_getElem?_getD, List.getElem?_eq_getElem hj]
        rfl
      rw [q] at k
      exact s_retv (ev_op (ev_var rfl) (ev_var rfl) (rv_ixL (ex_l e1 hS) (atI_nat (by rw [List.getElem?_map, List.getElem?_eq_getElem hj]; rfl)))) (RetV.ex k e1)
    · rw [decide_eq_false_iff_not, List.length_map] at hb
      have q : cell ns i = 0 := by
        unfold cell
        rw [List.getD_eq_getElem?_getD, List.getElem?_eq_none (by omega)]
        rfl
      rw [q] at k
      exact s_retv ev_c (RetV.ex k e1)
def spWhole : Sp := fun vs H Q _ => ∃ i, vs = [.int i] ∧ RetV (.bl true) H Q
theorem sv_whole {i : Int} : SpV spWhole [.int i] H (.bl true) := fun H1 e Q q E => ⟨i, rfl, q⟩
theorem ok_whole (T : Txt K mg) : Pr P w K mg base 1 (aG K "_law_whole") ["found"] spWhole := by
  refine pr_mk0 T.d__law_whole sc__law_whole (fun _ _ _ _ _ _ us hl => match us, hl with | [_], _ => rfl) (fun vs H Q E h => ?_) (fun cdv A outer s H vs Q E hr h => ?_)
  · obtain ⟨i, rfl, _⟩ := h
    rfl
  · obtain ⟨i, rfl, k⟩ := h
    refine ⟨_, (pss_one (ps_ret (pe_and (pe_callB (r := rIsi K) call_isi (by rfl) T.z_isinstance boot_isinstance (pa_cons (pv 0) (pa_cons (pe_bltn (v := .ty "int") rfl T.z_int boot_int rfl) pa_nil))) (pe_one (pe_not (pe_callB (r := rIsi K) call_isi (by rfl) T.z_isinstance boot_isinstance (pa_cons (pv 0) (pa_cons (pe_bltn (v := .ty "bool") rfl T.z_bool boot_bool rfl) pa_nil)))))))), ?_⟩
    exact s_retv (ev_andV (ev_isi (ev_var rfl) ev_c (.ty "int") (fun H1 _ => .base (.int i)) (kit_ty (r := true) (by decide +kernel))) fun _ => ev_notV (ev_isi (ev_var rfl) ev_c (.ty "bool") (fun H1 _ => .base (.int i)) (kit_ty (r := false) (by decide +kernel)))) k
def spLike (K : PySem.W.Frag) : Sp := fun vs H Q _ => ∃ (p q : Addr) (fs ds : List Int), vs = [.ref p, .ref q] ∧ H p = some (.lst (fs.map V.int)) ∧ SqL K H q (ds.map V.int) ∧ RetV (.bl (decide (fs = ds))) H Q
theorem sv_like {p q : Addr} {fs ds : List Int} (h : H p = some (.lst (fs.map V.int))) (h2 : SqL K H q (ds.map V.int)) : SpV (spLike K) [.ref p, .ref q] H (.bl (decide (fs = ds))) := fun H1 e Q q' E => ⟨p, q, fs, ds, rfl, e _ _ h, ex_l e h2, q'⟩
theorem ok_like (T : Txt K mg) : Pr P w K mg base 1 (aG K "_law_numbers_like") ["found", "due"] (spLike K) := by
  refine pr_mk0 T.d__law_numbers_like sc__law_numbers_like (fun _ _ _ _ _ _ us hl => match us, hl with | [_, _], _ => rfl) (fun vs H Q E h => ?_) (fun cdv A outer s H vs Q E hr h => ?_)
  · obtain ⟨p, q, fs, ds, rfl, _⟩ := h
    rfl
  · obtain ⟨p, q, fs, ds, rfl, hp, hq, k⟩ := h
    have k0 : fs ≠ ds → RetV (.bl false) H Q := fun ne => by
      rw [decide_eq_false ne] at k
      exact k
    refine ⟨_, (pss_cons (ps_if (PW.pt (pw_or (pt_not (pt_val (pe_callB (r := rIsi K) call_isi (by rfl) T.z_isinstance boot_isinstance (pa_cons (pv 0) (pa_cons (pe_bltn (v := .ty "list") rfl T.z_list boot_list rfl) pa_nil))))) (pw_or1 (pt_cmpR op_ne (pe_callB (r := rLenS K) call_len_seq (by rfl) T.z_len PySem.boot_len (pa_cons (pv 0) pa_nil)) (pe_callB (r := rLenS K) call_len_seq (by rfl) T.z_len PySem.boot_len (pa_cons (pv 1) pa_nil)) (nomark _))))) (pss_one (ps_ret pe_bl)) pss_nil)
  (pss_cons (ps_for PassesOwn.never rfl (pi_zip (by rfl) T.z_zip (pa_cons (pv 0) (pa_cons (pv 1) pa_nil))) (pg_tup rfl (pgs_cons (pg_name (i := 2) sc__law_numbers_like.nd rfl (Or.inl rfl)) (pgs_cons (pg_name (i := 3) sc__law_numbers_like.nd rfl (Or.inl rfl)) pgs_nil)))
    (pss_one (ps_if (PW.pt (pw_or (pt_not (pt_val (pe_callB (r := rIsi K) call_isi (by rfl) T.z_isinstance boot_isinstance (pa_cons (pv 2) (pa_cons (pe_bltn (v := .ty "int") rfl T.z_int boot_int rfl) pa_nil))))) (pw_or (pt_val (pe_callB (r := rIsi K) call_isi (by rfl) T.z_isinstance boot_isinstance (pa_cons (pv 2) (pa_cons (pe_bltn (v := .ty "bool") rfl T.z_bool boot_bool rfl) pa_nil)))) (pw_or1 (pt_cmpR op_ne (pv 2) (pv 3) (nomark _)))))) (pss_one (ps_ret pe_bl)) pss_nil)))
  (pss_one (ps_ret pe_bl)))), ?_⟩
    refine q_when (et_or (et_not (et_B (ev_isi (ev_var rfl) ev_c (.ty "list") (fun H1 e1 => .base (.lst (e1 _ _ hp))) (kit_ty (r := true) (by decide +kernel))))) fun _ => et_neI (ev_len (ev_var rfl) (sq_of hp)) (ev_len (ev_var rfl) hq)) (fun hb H1 e1 => ?_) (fun hb H1 e1 => ?_)
    · refine s_retv ev_c (RetV.ex (k0 fun z => ?_) e1)
      rw [z] at hb
      simp at hb
    · have hlen : fs.length = ds.length := by
        simp only [Bool.not_true, Bool.false_or, Bool.not_eq_false', decide_eq_true_eq, List.length_map] at hb
        omega
      have hp1 := e1 _ _ hp
      have hq1 := ex_l e1 hq
      refine q_forZ (ea_cons (ev_var rfl) (ea_cons (ev_var rfl) ea_nil)) (sq_of hp1) hq1 (by rw [List.length_map, List.length_map, hlen])
        (fun i σ' H' => ∃ y z, σ' = [some (.ref p), some (.ref q), y, z] ∧ Ex H1 H' ∧ fs.take i = ds.take i) (fun H2 e2 => ⟨none, none, rfl, e2, rfl⟩) (fun i σ' H' ⟨y, z, _, e, _⟩ => ⟨ex_l e (sq_of hp1), ex_l e hq1⟩) ?_ ?_
      · rintro i v1 v2 σ' H' H2 hv1 hv2 ⟨y, z, rfl, e, ht⟩ e2
        obtain ⟨f, hf, rfl⟩ := at_int hv1
        obtain ⟨g, hg, rfl⟩ := at_int hv2
        refine s_when (et_or (et_not (et_B (ev_isi (ev_var rfl) ev_c (.ty "int") (fun H1 _ => .base (.int f)) (kit_ty (r := true) (by decide +kernel))))) fun _ => et_or (et_B (ev_isi (ev_var rfl) ev_c (.ty "bool") (fun H1 _ => .base (.int f)) (kit_ty (r := false) (by decide +kernel)))) fun _ => et_neI (ev_var rfl) (ev_var rfl)) (fun hb2 H3 e3 => ?_) (fun hb2 H3 e3 => ?_)
        · simp only [Bool.not_true, Bool.false_or, Bool.not_eq_true', decide_eq_false_iff_not] at hb2
          refine s_retv ev_c (RetV.ex (k0 fun z => hb2 ?_) (((e1.trans e).trans e2).trans e3))
          rw [z, hg] at hf
          exact (Option.some.inj hf).symm
        · simp only [Bool.not_true, Bool.false_or, Bool.not_eq_false', decide_eq_true_eq] at hb2
          refine ⟨_, _, rfl, (e.trans e2).trans e3, ?_⟩
          rw [take_snoc hf, take_snoc hg, ht, hb2]
      · rintro σ' H' ⟨y, z, rfl, e, ht⟩
        rw [List.length_map, List.take_length, hlen, List.take_length] at ht
        rw [decide_eq_true ht] at k
        exact s_retv ev_c (RetV.ex (RetV.ex k e1) e)
end
end Oc
namespace Oc
open PySem PySem.Spec PyProof.Rows L2 Evl L2H HotX
/-! ### rings -/
section
variable {P : Program} {w : World} {K : PySem.W.Frag} {mg : Str → Option Value} {base : Heap} {H : Hp} {p a : Addr}
def spAsk (K : PySem.W.Frag) : Sp := fun vs H Q E => ∃ a xs, vs = [.ref a] ∧ SqL K H a xs ∧ (xs.length ≤ 40 → RetV .non H Q) ∧ (40 < xs.length → RetE (aG K "NoState") H E)
theorem ok_ask (T : Txt K mg) : Pr P w K mg base 1 (aG K "asked_state") ["state"] (spAsk K) := by
  refine pr_mk T.d_asked_state sc_asked_state (fun _ _ _ _ _ _ us hl => match us, hl with | [_], _ => rfl) (fun vs H Q E h => ?_) (fun cdv A outer s H vs Q E hr h => ?_)
  · obtain ⟨a, xs, rfl, _⟩ := h
    rfl
  · obtain ⟨a, xs, rfl, ha, k, kE⟩ := h
    refine ⟨_, (pss_one (ps_if (pt_cmpR op_gt (pe_callB (r := rLenS K) call_len_seq (by rfl) T.z_len PySem.boot_len (pa_cons (pv 0) pa_nil)) (pe_glob (v := .int 40) rfl T.i_MOST_RINGS.choose_spec ⟨_, rfl⟩) (nomark _)) (pss_one (L2N.ps_raise rfl (L2N.takes_of rfl rfl rfl rfl) (L2N.pmk_own PySem.F.excBase_ValueError T.e_NoState.1 T.g_NoState T.e_NoState.2.1 (raises_own T.e_NoState.2.2.1 T.e_NoState.2.2.2) rfl))) pss_nil)), ?_⟩
    refine s_when (et_test (ev_op (ev_len (ev_var rfl) ha) ev_c rv_I0)) (fun hb H1 e1 => ?_) (fun hb H1 e1 => ?_)
    · rw [decide_eq_true_eq] at hb
      exact kE (by omega) H1 e1
    · rw [decide_eq_false_iff_not] at hb
      exact k (by omega) H1 e1
end
end Oc
namespace Oc
open PySem PySem.Spec PyProof.Rows L2 Evl L2H HotX
/-! ### states -/
theorem at_bl {bs : List Bool} {i : Nat} {x : V} (h : (bs.map V.bl)[i]? = some x) : ∃ b, bs[i]? = some b ∧ x = .bl b := by
  rw [List.getElem?_map] at h
  obtain ⟨b, h1, h2⟩ := Option.map_eq_some_iff.mp h
  exact ⟨b, h1, h2.symm⟩
theorem getB {bs : List Bool} {i : Nat} (h : i < bs.length) : (bs.map V.bl)[i]? = some (.bl (bs.getD i false)) := by
  rw [List.getElem?_map, List.getElem?_eq_getElem h, List.getD_eq_getElem?_getD, List.getElem?_eq_getElem h]
  rfl
theorem in_bls (b : Bool) (ys : List Bool) : inV (.bl b) (ys.map V.bl) = ys.contains b := by
  unfold inV
  rw [List.any_map, Bool.eq_iff_iff, List.any_eq_true, List.contains_iff_mem]
  refine ⟨fun ⟨y, hy, e⟩ => ?_, fun h => ⟨b, h, ?_⟩⟩
  · have q : (y == b) = true := e
    rw [← eq_of_beq q]
    exact hy
  · show (b == b) = true
    exact beq_self_eq_true b
theorem flat_bls (bs : List Bool) : (bs.map V.bl).all flatV = true := by
  rw [List.all_eq_true]
  intro v hv
  obtain ⟨n, _, rfl⟩ := List.mem_map.mp hv
  rfl
theorem set_tog {bs : List Bool} {r : Nat} : (bs.map V.bl).set r (.bl (!bs.getD r false)) = (tog bs r).map V.bl := by
  rw [tog_set, ← List.map_set]
/-- the rings that can be moved -/
def freeL (bs : List Bool) : List Nat := (List.range bs.length).filter (freeB bs)
theorem freeL_mem {bs : List Bool} {r : Nat} : r ∈ freeL bs ↔ freeB bs r = true := by
  unfold freeL
  rw [List.mem_filter, List.mem_range]
  exact ⟨fun h => h.2, fun h => ⟨freeB_lt h, h⟩⟩
def vN (l : List Nat) : List V := l.map fun r : Nat => V.int (r : Int)
theorem vN_at {l : List Nat} {i : Nat} {r : Nat} (h : l[i]? = some r) : (vN l)[i]? = some (.int (r : Int)) := by
  unfold vN
  rw [List.getElem?_map, h]
  rfl
def gBs (n : Nat) : V → Hp → Prop := fun v H2 => ∃ (p : Addr) (bs : List Bool), v = .ref p ∧ bs.length = n ∧ H2 p = some (.lst (bs.map V.bl))
section
variable {P : Program} {w : World} {K : PySem.W.Frag} {mg : Str → Option Value} {base : Heap} {σ : Stt} {H : Hp} {p a : Addr}
def spState (K : PySem.W.Frag) : Sp := fun vs H Q _ => ∃ (a : Addr) (ns : List Int) (k : Int) (n : Nat), vs = [.ref a, .int k, .int (n : Int)] ∧ SqL K H a (ns.map V.int) ∧ 0 ≤ k ∧ n ≤ 100 ∧ RetX (gBs n) H Q
theorem sx_state {ns : List Int} {k : Int} {n : Nat} (h : SqL K H a (ns.map V.int)) (hk : 0 ≤ k) (hn : n ≤ 100) : SpX (spState K) [.ref a, .int k, .int (n : Int)] H (gBs n) := fun H1 e Q q E => ⟨a, ns, k, n, rfl, ex_l e h, hk, hn, q⟩
theorem ok_state (T : Txt K mg) : Pr P w K mg base 2 (aG K "_law_state_by") ["script", "k", "many"] (spState K) := by
  obtain ⟨_, G__law_cell_at, b__law_cell_at, kp__law_cell_at⟩ := ok_cell (P := P) (w := w) (base := base) T
  refine pr_mk0 T.d__law_state_by sc__law_state_by (fun _ _ _ _ _ _ us hl => match us, hl with | [_, _, _], _ => rfl) (fun vs H Q E h => ?_) (fun cdv A outer s H vs Q E hr h => ?_)
  · obtain ⟨a, ns, k, n, rfl, _⟩ := h
    rfl
  · obtain ⟨a, ns, j, n, rfl, hS, hj, hn, k⟩ := h
    refine ⟨_, (pss_cons (ps_set (i := 3) sc__law_state_by.nd rfl (Or.inl rfl) (pe_lst pa_nil))
  (pss_cons (ps_for PassesOwn.never rfl (pi_range1 rfl T.z_range (pa_cons (pv 2) pa_nil)) (pg_name (i := 4) sc__law_state_by.nd rfl (Or.inl rfl))
    (pss_one (ps_expr (pe_bm PySem.F.plainAttrs_list PySem.F.slot_list_append PySem.F.type_list_append mt_append (pv 3) (pa_cons (pe_cmpR op_eq (pe_op op_mod (pe_op op_fdiv (pe_call G__law_cell_at (hr.mono (by decide)) rfl T.g__law_cell_at kp__law_cell_at b__law_cell_at .nil passLN (pa_cons (pv 0) (pa_cons (pe_op op_add (pv 1) (pv 4)) pa_nil))) pe_int) pe_int) pe_int (nomark _)) pa_nil)))))
  (pss_cons (ps_if (pt_cmpR op_eq (pe_op op_mod (pe_call G__law_cell_at (hr.mono (by decide)) rfl T.g__law_cell_at kp__law_cell_at b__law_cell_at .nil passLN (pa_cons (pv 0) (pa_cons (pv 1) pa_nil))) pe_int) pe_int (nomark _)) (pss_one (ps_setLc (i := 3) (own := [("ring", 4)]) rfl sc__law_state_by.nd rfl rfl (sw_true rfl rfl rfl (by decide +kernel)) (pi_list (pv 3)) (blkOk_by (own := [("ring", 4)]) (N := ["script", "k", "many", "state", "ring"]) (sc := defScope s__law_state_by) (by decide +kernel)) (fun _ _ _ _ _ => (pg_name (i := 4) sc__law_state_by.nd rfl (Or.inl rfl))) (fun _ _ _ _ _ => pts_nil) (fun _ _ _ _ _ => pe_bl))) pss_nil)
  (pss_cons (ps_if (PW.pt (pw_and (pt_cmpR op_eq (pe_op op_mod (pe_call G__law_cell_at (hr.mono (by decide)) rfl T.g__law_cell_at kp__law_cell_at b__law_cell_at .nil passLN (pa_cons (pv 0) (pa_cons (pv 1) pa_nil))) pe_int) pe_int (nomark _)) (pw_and1 (pt_cmpR op_gt (pv 2) pe_int (nomark _))))) (pss_one (ps_setLc (i := 3) (own := [("ring", 4)]) rfl sc__law_state_by.nd rfl rfl (sw_true rfl rfl rfl (by decide +kernel)) (pi_range1 rfl T.z_range (pa_cons (pv 2) pa_nil)) (blkOk_by (own := [("ring", 4)]) (N := ["script", "k", "many", "state", "ring"]) (sc := defScope s__law_state_by) (by decide +kernel)) (fun _ _ _ _ _ => (pg_name (i := 4) sc__law_state_by.nd rfl (Or.inl rfl))) (fun _ _ _ _ _ => pts_nil) (fun _ _ _ _ _ => (pe_cmpR op_eq (pv 4) (pe_op op_mod (pe_op op_fdiv (pe_call G__law_cell_at (hr.mono (by decide)) rfl T.g__law_cell_at kp__law_cell_at b__law_cell_at .nil passLN (pa_cons (pv 0) (pa_cons (pv 1) pa_nil))) pe_int) (pv 2)) (nomark _))))) pss_nil)
  (pss_one (ps_ret (pv 3))))))), ?_⟩
    have cl : ∀ {i : Int} {H1 : Hp} {te : TE} {σ : Stt} {E : XK}, 0 ≤ i → Ex H H1 → σ[0]? = some (some (.ref a)) → Ev te σ H1 (.int i) → Ev (tCall (spCell K) [] E (tCons (tVar 0) (tCons te tNil))) σ H1 (.int (cell ns i)) := fun hj e1 h0 hj2 => ev_call (ea_cons (ev_var h0) (ea_cons hj2 ea_nil)) (sv_cell (ex_l e1 hS) hj)
    refine q_asgL (el_lst ea_nil (by decide)) fun o H1 fo e1 ho => ?_
    refine q_forR1 (n := (n : Int)) (ea_cons (ev_var rfl) ea_nil) ⟨by omega, by omega⟩ (fun i σ' H' => ∃ (bs : List Bool) (y : Option V), σ' = [some (V.ref a), some (.int j), some (.int (n : Int)), some (.ref o), y] ∧ Ex H H' ∧ H' o = some (.lst (bs.map V.bl)) ∧ bs.length = i) (fun H2 e2 => ⟨[], none, rfl, e1.trans e2, e2 _ _ ho, rfl⟩) ?_ ?_
    · rintro i σ' H' hi ⟨bs, y, rfl, e, ho', hl⟩
      refine s_app (v := .bl (decide (cell ns (j + (i : Int)) / 2 % 2 = 1))) ho' (ev_var rfl) (ev_eqI (ev_op (ev_op (cl (by omega) e rfl (ev_op (ev_var rfl) (ev_var rfl) rv_I0)) ev_c (rv_I ⟨by decide, by decide⟩)) ev_c (rv_I (by decide))) ev_c) (by rw [List.length_map]; omega) fun H3 e3 => ?_
      refine ⟨bs ++ [decide (cell ns (j + (i : Int)) / 2 % 2 = 1)], some (.int (i : Int)), rfl, ex_upd (e.trans e3) fo, ?_, by rw [List.length_append, hl]; rfl⟩
      rw [upd_same, List.map_append]
      rfl
    · rintro σ' H' ⟨bs, y, rfl, e, ho', hl⟩
      rw [Int.toNat_natCast] at hl
      refine q_ifAsgX (G := gBs n) (et_eqI (ev_op (cl hj e rfl (ev_var rfl)) ev_c (rv_I (by decide))) ev_c) (fun _ => ?_) (fun _ => ⟨.ref o, rfl, fun H2 e2 => ⟨o, bs, rfl, hl, e2 _ _ ho'⟩⟩) fun v H2 e2 g => ?_
      · refine EvX.imp (EvL.toX (el_map (fun _ => .bl false) (ev_var rfl) (sq_of ho') (by rw [List.length_map]; omega) (fun x => rfl) fun x hx H2 e2 => ev_c)) fun v H2 e2 ⟨q, hv, hq⟩ => ⟨q, bs.map fun _ => false, hv, by rw [List.length_map, hl], ?_⟩
        rw [hq, List.map_map, List.map_map]
        rfl
      · obtain ⟨p1, bs1, rfl, hl1, h1⟩ := g
        have e02 := e.trans e2
        refine q_ifAsgX (G := gBs n) (et_and (et_eqI (ev_op (cl hj e02 rfl (ev_var rfl)) ev_c (rv_I (by decide))) ev_c) fun _ => et_test (ev_op (ev_var rfl) ev_c rv_I0)) (fun hb => ?_) (fun _ => ⟨.ref p1, rfl, fun H3 e3 => ⟨p1, bs1, rfl, hl1, e3 _ _ h1⟩⟩) fun v H3 e3 g => ?_
        · have hn0 : (n : Int) > 0 := of_decide_eq_true (Bool.and_eq_true_iff.mp hb).2
          refine EvX.imp (EvL.toX (el_mapR (n := (n : Int)) (fun i : Nat => .bl (decide ((i : Int) = cell ns j / 8 % (n : Int)))) (ea_cons (ev_var rfl) ea_nil) ⟨by omega, by omega⟩ (fun x => rfl) fun i H3 e3 hi => ev_eqI (ev_var rfl) (ev_op (ev_op (cl hj (e02.trans e3) rfl (ev_var rfl)) ev_c (rv_I ⟨by decide, by decide⟩)) (ev_var rfl) (rv_I hn0)))) fun v H3 e3 ⟨q, hv, hq⟩ => ⟨q, (List.range n).map fun i : Nat => decide ((i : Int) = cell ns j / 8 % (n : Int)), hv, by rw [List.length_map, List.length_range], ?_⟩
          rw [hq, List.map_map, Int.toNat_natCast]
          rfl
        · obtain ⟨p2', bs2, rfl, hl2, h2⟩ := g
          exact ⟨_, rfl, k (.ref p2') H3 (e02.trans e3) ⟨p2', bs2, rfl, hl2, h2⟩⟩
def spFree (K : PySem.W.Frag) : Sp := fun vs H Q _ => ∃ (a : Addr) (bs : List Bool), vs = [.ref a] ∧ SqL K H a (bs.map V.bl) ∧ bs.length ≤ 100 ∧ RetL (vN (freeL bs)) H Q
theorem sl_free {bs : List Bool} (h : SqL K H a (bs.map V.bl)) (hl : bs.length ≤ 100) : SpL (spFree K) [.ref a] H (vN (freeL bs)) := fun H1 e Q q E => ⟨a, bs, rfl, ex_l e h, hl, q⟩
theorem ok_free (T : Txt K mg) : Pr P w K mg base 1 (aG K "_law_free") ["state"] (spFree K) := by
  refine pr_mk0 T.d__law_free sc__law_free (fun _ _ _ _ _ _ us hl => match us, hl with | [_], _ => rfl) (fun vs H Q E h => ?_) (fun cdv A outer s H vs Q E hr h => ?_)
  · obtain ⟨a, bs, rfl, _⟩ := h
    rfl
  · obtain ⟨a, bs, rfl, ha, hl, k⟩ := h
    refine ⟨_, (pss_cons (ps_set (i := 1) sc__law_free.nd rfl (Or.inl rfl) (pe_lst pa_nil))
  (pss_cons (ps_for PassesOwn.never rfl (pi_range1 rfl T.z_range (pa_cons (pe_callB (r := rLenS K) call_len_seq (by rfl) T.z_len PySem.boot_len (pa_cons (pv 0) pa_nil)) pa_nil)) (pg_name (i := 2) sc__law_free.nd rfl (Or.inl rfl))
    (pss_one (ps_if (PW.pt (pw_or (pt_cmpR op_eq (pv 2) pe_int (nomark _)) (pw_or1 (PW.pt (pw_and (pt_val (pe_ix (r := rIxL K) ix_list (pv 0) (pe_op op_sub (pv 2) pe_int) (fun _ _ => rfl))) (pw_and1 (pt_cmpR (r := rIn K true) op_notIn_seq pe_bl (pe_slice (r := rSlL K) sl_list (pv 0) po_none (po_some (pe_op op_sub (pv 2) pe_int))) (by rfl)))))))) (pss_one (ps_expr (pe_bm PySem.F.plainAttrs_list PySem.F.slot_list_append PySem.F.type_list_append mt_append (pv 1) (pa_cons (pv 2) pa_nil)))) pss_nil)))
  (pss_one (ps_ret (pv 1))))), ?_⟩
    refine q_asgL (el_lst ea_nil (by decide)) fun o H1 fo e1 ho => ?_
    refine q_forR1 (n := ((bs.map V.bl).length : Int)) (ea_cons (ev_len (ev_var rfl) (ex_l e1 ha)) ea_nil) ⟨by omega, by rw [List.length_map]; omega⟩ (fun i σ' H' => ∃ y, σ' = [some (V.ref a), some (.ref o), y] ∧ Ex H H' ∧ H' o = some (.lst (vN ((List.range i).filter (freeB bs)))) ∧ i ≤ bs.length) (fun H2 e2 => ⟨none, rfl, e1.trans e2, e2 _ _ ho, Nat.zero_le _⟩) ?_ ?_
    · rintro i σ' H' hi ⟨y, rfl, e, ho', hib⟩
      rw [List.length_map] at hi
      have hi' : i < bs.length := by omega
      have ha' := ex_l (K := K) e ha
      have hm1 : ∀ {H2 : Hp} {σ : Stt}, i ≠ 0 → σ[2]? = some (some (.int (i : Int))) → Ev (tOp (rI0 fun i j => .int (i - j)) (tVar 2) (tC (.int 1))) σ H2 (.int ((i - 1 : Nat) : Int)) := fun h0 h2 => ev_is (ev_op (ev_var h2) ev_c rv_I0) (by congr 1; omega)
      refine s_when (b := freeB bs i) (et_is (et_or (b := bs.getD (i - 1) false && !(bs.take (i - 1)).contains true) (et_eqI (ev_var rfl) ev_c) fun h0 => ?_) ?_) (fun hb H2 e2 => ?_) (fun hb H2 e2 => ?_)
      · have h0' : i ≠ 0 := fun z => by
          have := of_decide_eq_false h0
          omega
        refine et_and (et_B (ev_op (ev_var rfl) (hm1 h0' rfl) (rv_ixL ha' (atI_nat (getB (by omega)))))) fun _ => et_test (ev_opL ev_c (el_sl (hi := some ((i - 1 : Nat) : Int)) (ev_var rfl) eo_none (eo_some (hm1 h0' rfl)) ha') fun q H3 hq e3 => ?_)
        have z := rv_niL (K := K) (x := .bl true) (sq_of hq) rfl (by rw [cut_to, ← List.map_take]; exact flat_bls _)
        rw [cut_to, ← List.map_take, in_bls] at z
        exact z
      · rw [freeB_eq hi']
        congr 1
        exact decide_eq_decide.mpr (by omega)
      · have st : (List.range (i + 1)).filter (freeB bs) = (List.range i).filter (freeB bs) ++ [i] := by rw [List.range_succ, List.filter_append, List.filter_cons_of_pos hb]; rfl
        refine s_app (e2 _ _ ho') (ev_var rfl) (ev_var rfl) ?_ fun H3 e3 => ⟨some (.int (i : Int)), rfl, ex_upd ((e.trans e2).trans e3) fo, ?_, by omega⟩
        · unfold vN
          rw [List.length_map]
          have := List.length_filter_le (freeB bs) (List.range i)
          rw [List.length_range] at this
          omega
        · rw [upd_same, st]
          unfold vN
          rw [List.map_append]
          rfl
      · have st : (List.range (i + 1)).filter (freeB bs) = (List.range i).filter (freeB bs) := by
          rw [List.range_succ, List.filter_append, List.filter_cons_of_neg (by rw [hb]; decide)]
          exact List.append_nil _
        refine ⟨some (.int (i : Int)), rfl, e.trans e2, ?_, by omega⟩
        rw [st]
        exact e2 _ _ ho'
    · rintro σ' H' ⟨y, rfl, e, ho', _⟩
      rw [Int.toNat_natCast, List.length_map] at ho'
      exact ⟨_, rfl, k o H' fo e ho'⟩
end
end Oc
namespace Oc
open PySem PySem.Spec PyProof.Rows L2 Evl L2H HotX
/-! ### moves -/
theorem tog_range (bs : List Bool) (r : Nat) : (List.range bs.length).map (fun k => bs.getD k false != decide (k = r)) = tog bs r := by
  rw [tog_set]
  apply List.ext_getElem
  · simp
  · intro i h1 h2
    have hi : i < bs.length := by simpa using h1
    rw [List.getElem_map, List.getElem_range, List.getElem_set]
    by_cases e : r = i
    · subst e
      rw [if_pos rfl, decide_eq_true rfl]
      simp
    · rw [if_neg e, decide_eq_false (fun z => e z.symm)]
      simp [List.getD, hi]
theorem vN_int (l : List Nat) : vN l = (l.map fun r : Nat => (r : Int)).map V.int := by
  unfold vN
  rw [List.map_map]
  rfl
section
variable {K : PySem.W.Frag} {σ : Stt} {H : Hp} {te : TE} {ta : TA} {xs : List V}
theorem pg_tupK {X : Cx} {es : List Expr} {k : Nat} {pos : Pos} {t : TGs} {n : Nat} (hK : X.K = K) (hc : X.calm = true) (h : PGs X es t)
    (hn : (assignEach es X.env).length = n := by rfl) (hst : (assignEach es X.env).findIdx? (·.1) = none := by rfl) : PG X (.Tuple es k pos) (gTup K n t) := by
  subst hK
  exact pg_tup hc h hn hst
/-- [e for i, x in enumerate(a list)] -/
theorem el_enum {a : Addr} {i j : Nat} {vs : List Nat} (g : Nat → V) (h : EvA ta σ H [.ref a]) (hx : SqL K H a xs) (hz : xs.length ≤ 40000) (hw : ∀ x y, wipe (((wipe σ vs).set i (some x)).set j (some y)) vs = wipe σ vs)
    (he : ∀ (n : Nat) (x : V) H1, Ex H H1 → xs[n]? = some x → Ev te (((wipe σ vs).set i (some (.int (n : Int)))).set j (some x)) H1 (g n)) :
    EvL (tLc (iEnum K ta) (gTup K 2 (gCons (gName i) (gCons (gName j) gNil))) tYes te vs) σ H ((List.range xs.length).map g) := fun H0 e Q q => h H0 e _ fun H1 e1 => ⟨a, xs, rfl, ex_l (e.trans e1) hx, fun Dl hD => by
    refine ⟨fun n m H' => m = xs.length - n ∧ n ≤ xs.length ∧ Cw H1 (fun _ => true) g Dl n H', ⟨_, rfl, Nat.zero_le _, hD, Ex.new hD, upd_same⟩, fun n m H' hW => ?_⟩
    obtain ⟨rfl, hn, p⟩ := hW
    have hx' := ex_l (K := K) ((e.trans e1).trans p.2.1) hx
    by_cases hlt : n < xs.length
    · refine .inr ⟨⟨xs, xs[n], hx', List.getElem?_eq_getElem hlt⟩, Cw H1 (fun _ => true) g Dl (n + 1), fun H2 p2 => ⟨_, by omega, rfl, hlt, p2⟩, fun v H2 y => ?_⟩
      obtain ⟨T, x, rfl, hT, rfl, hall⟩ := y
      have hi := hall xs hx'
      refine ⟨T, [.int (n : Int), x], rfl, .inl (.inl upd_same), rfl, .int (n : Int), [x], rfl, x, [], rfl, rfl, hw _ _, ?_⟩
      exact cw_turn (H' := upd H' T (.tup [.int (n : Int), x])) ⟨p.1, p.2.1.trans (Ex.new hT), Ex.new hT _ _ p.2.2⟩ (by omega) et_yes fun _ => he n x H1 (e.trans e1) hi
    · obtain rfl : n = xs.length := by omega
      have z := p.2.2
      rw [given_all] at z
      exact .inl ⟨⟨xs, hx', Nat.le_refl _⟩, q Dl H' (fresh_back e1 p.1) (e1.trans p.2.1) z⟩⟩
end
section
variable {P : Program} {w : World} {K : PySem.W.Frag} {mg : Str → Option Value} {base : Heap} {σ : Stt} {H : Hp} {p a : Addr}
def spMoves (K : PySem.W.Frag) : Sp := fun vs H Q E => ∃ (a : Addr) (bs : List Bool), vs = [.ref a] ∧ SqL K H a (bs.map V.bl) ∧ (bs.length ≤ 40 → RetL (vN (freeL bs)) H Q) ∧ (40 < bs.length → RetE (aG K "NoState") H E)
theorem sl_moves {bs : List Bool} (h : SqL K H a (bs.map V.bl)) (hl : bs.length ≤ 40) : SpL (spMoves K) [.ref a] H (vN (freeL bs)) := fun H1 e Q q E => ⟨a, bs, rfl, ex_l e h, fun _ => q, fun z => absurd z (by omega)⟩
theorem ok_moves (T : Txt K mg) : Pr P w K mg base 2 (aG K "moves") ["state"] (spMoves K) := by
  obtain ⟨_, G_asked_state, b_asked_state, kp_asked_state⟩ := ok_ask (P := P) (w := w) (base := base) T
  refine pr_mk T.d_moves sc_moves (fun _ _ _ _ _ _ us hl => match us, hl with | [_], _ => rfl) (fun vs H Q E h => ?_) (fun cdv A outer s H vs Q E hr h => ?_)
  · obtain ⟨a, bs, rfl, _⟩ := h
    rfl
  · obtain ⟨a, bs, rfl, ha, k, kE⟩ := h
    refine ⟨_, (pss_cons (ps_expr (pe_call G_asked_state (hr.mono (by decide)) rfl T.g_asked_state kp_asked_state b_asked_state .nil (L2N.passes_call (L2N.takes_of rfl rfl rfl rfl) (fun _ _ _ _ h => h)) (pa_cons (pv 0) pa_nil)))
  (pss_cons (ps_if (pt_cmpR op_eq (pe_callB (r := rLenS K) call_len_seq (by rfl) T.z_len PySem.boot_len (pa_cons (pv 0) pa_nil)) pe_int (nomark _)) (pss_one (ps_ret (pe_lst pa_nil))) pss_nil)
  (pss_cons (ps_set (i := 1) sc_moves.nd rfl (Or.inl rfl) (pe_lst (pa_cons pe_int pa_nil)))
  (pss_cons (ps_for (passes_of rfl) rfl (pi_range1 rfl T.z_range (pa_cons (pe_op op_sub (pe_callB (r := rLenS K) call_len_seq (by rfl) T.z_len PySem.boot_len (pa_cons (pv 0) pa_nil)) pe_int) pa_nil)) (pg_name (i := 2) sc_moves.nd rfl (Or.inl rfl))
    (pss_one (ps_if (pt_val (pe_ix (r := rIxL K) ix_list (pv 0) (pv 2) (fun _ _ => rfl))) (pss_cons (ps_expr (pe_bm PySem.F.plainAttrs_list PySem.F.slot_list_append PySem.F.type_list_append mt_append (pv 1) (pa_cons (pe_op op_add (pv 2) pe_int) pa_nil)))
  (pss_one ps_break)) pss_nil)))
  (pss_one (ps_ret (pv 1))))))), ?_⟩
    refine ⟨_, rfl, a, _, rfl, ha, fun hl H1 e1 => ?_, fun hl => kE (by rw [List.length_map] at hl; exact hl)⟩
    rw [List.length_map] at hl
    have k := k hl
    have ln : (((bs.map V.bl).length : Nat) : Int) = (bs.length : Int) := by rw [List.length_map]
    refine q_when (et_eqI (ev_len (ev_var rfl) (ex_l e1 ha)) ev_c) (fun hb H2 e2 => ?_) (fun hb H2 e2 => ?_)
    · have hb := of_decide_eq_true hb
      have z : bs = [] := List.eq_nil_of_length_eq_zero (by omega)
      subst z
      exact s_retl (EvL.is (el_lst ea_nil (by decide)) rfl) (RetL.ex k (e1.trans e2))
    · have hb := of_decide_eq_false hb
      have e12 := e1.trans e2
      have k := RetL.ex k e12
      refine q_asgL (el_lst (ea_cons ev_c ea_nil) (by show 1 ≤ 100000; decide)) fun o H3 fo e3 ho => ?_
      refine q_forR1 (n := ((bs.map V.bl).length : Int) - 1) (ea_cons (ev_op (ev_len (ev_var rfl) (ex_l (e12.trans e3) ha)) ev_c rv_I0) ea_nil) ⟨by omega, by omega⟩ (fun i σ' H' => ∃ y, σ' = [some (V.ref a), some (.ref o), y] ∧ Ex H2 H' ∧ H' o = some (.lst [.int 0]) ∧ i + 1 ≤ bs.length ∧ ∀ j, j < i → bs.getD j false = false) (fun H4 e4 => ⟨none, rfl, e3.trans e4, e4 _ _ ho, by omega, fun j z => by omega⟩) ?_ ?_
      · rintro i σ' H' hi ⟨y, rfl, e, ho', hib, h0⟩
        have hi' : i + 1 < bs.length := by omega
        refine s_when (et_B (ev_op (ev_var rfl) (ev_var rfl) (rv_ixL (ex_l (e12.trans e) ha) (atI_nat (getB (by omega)))))) (fun ht H4 e4 => ?_) (fun ht H4 e4 => ?_)
        · refine q_app (e4 _ _ ho') (ev_var rfl) (ev_op (ev_var rfl) ev_c rv_I0) (by show 1 < 100000; decide) fun H5 e5 => ?_
          have f : freeL bs = [0, i + 1] := free_at hi' ht h0
          exact ⟨_, rfl, k o _ fo (ex_upd ((e.trans e4).trans e5) fo) (by
            rw [upd_same, f]
            rfl)⟩
        · refine ⟨some (.int (i : Int)), rfl, e.trans e4, e4 _ _ ho', by omega, fun j hj => ?_⟩
          by_cases z : j = i
          · rw [z]
            exact ht
          · exact h0 j (by omega)
      · rintro σ' H' ⟨y, rfl, e, ho', hib, h0⟩
        have f : freeL bs = [0] := free_one (bs := bs) (by omega) fun j hj => h0 j (by omega)
        exact ⟨_, rfl, k o _ fo e (by
          rw [ho', f]
          rfl)⟩
def spMoved (K : PySem.W.Frag) : Sp := fun vs H Q E => ∃ (a : Addr) (bs : List Bool) (r : Int), vs = [.ref a, .int r] ∧ SqL K H a (bs.map V.bl) ∧ (bs.length ≤ 40 → ∀ n : Nat, r = (n : Int) → freeB bs n = true → RetL ((tog bs n).map V.bl) H Q) ∧
  (bs.length ≤ 40 → (∀ n : Nat, r = (n : Int) → freeB bs n = false) → RetE (aG K "NoMove") H E) ∧ (40 < bs.length → RetE (aG K "NoState") H E)
theorem sl_moved {bs : List Bool} {n : Nat} (h : SqL K H a (bs.map V.bl)) (hl : bs.length ≤ 40) (hf : freeB bs n = true) : SpL (spMoved K) [.ref a, .int (n : Int)] H ((tog bs n).map V.bl) := fun H1 e Q q E =>
  ⟨a, bs, _, rfl, ex_l e h, (fun _ m hm _ => by
    obtain rfl : n = m := by omega
    exact q), (fun _ z => absurd hf (by rw [z n rfl]; decide)), fun z => absurd z (by omega)⟩
theorem ok_moved (T : Txt K mg) : Pr P w K mg base 3 (aG K "moved") ["state", "ring"] (spMoved K) := by
  obtain ⟨_, G_moves, b_moves, kp_moves⟩ := ok_moves (P := P) (w := w) (base := base) T
  refine pr_mk T.d_moved sc_moved (fun _ _ _ _ _ _ us hl => match us, hl with | [_, _], _ => rfl) (fun vs H Q E h => ?_) (fun cdv A outer s H vs Q E hr h => ?_)
  · obtain ⟨a, bs, r, rfl, _⟩ := h
    rfl
  · obtain ⟨a, bs, r, rfl, ha, k, kF, kE⟩ := h
    refine ⟨_, (pss_cons (ps_if (pt_cmpR (r := rIn K true) op_notIn_seq (pv 1) (pe_call G_moves (hr.mono (by decide)) rfl T.g_moves kp_moves b_moves .nil (L2N.passes_call (L2N.takes_of rfl rfl rfl rfl) (fun _ _ _ _ h => h)) (pa_cons (pv 0) pa_nil)) (by rfl)) (pss_one (L2N.ps_raise rfl (L2N.takes_of rfl rfl rfl rfl) (L2N.pmk_own PySem.F.excBase_ValueError T.e_NoMove.1 T.g_NoMove T.e_NoMove.2.1 (raises_own T.e_NoMove.2.2.1 T.e_NoMove.2.2.2) rfl))) pss_nil)
  (pss_one (ps_ret (pe_lc (own := [("k", 2), ("one", 3)]) rfl sc_moved.nd (pi_enum (by rfl) T.z_enumerate (pa_cons (pv 0) pa_nil)) (blkOk_by (own := [("k", 2), ("one", 3)]) (N := ["state", "ring", "k", "one"]) (sc := defScope s_moved) (by decide +kernel)) (fun _ _ _ _ _ => (pg_tupK (K := K) (n := 2) rfl rfl (pgs_cons (pg_name (i := 2) sc_moved.nd rfl (Or.inl rfl)) (pgs_cons (pg_name (i := 3) sc_moved.nd rfl (Or.inl rfl)) pgs_nil)))) (fun _ _ _ _ _ => pts_nil) (fun _ _ _ _ _ => (pe_cmpR op_ne (pv 3) (pe_cmpR op_eq (pv 2) (pv 1) (nomark _)) (nomark _))))))), ?_⟩
    by_cases hl : bs.length ≤ 40
    · refine q_when (et_test (ev_opL (ev_var rfl) (EvL.is (el_call (ea_cons (ev_var rfl) ea_nil) (sl_moves ha hl)) (vN_int _)) fun u H1 hu e1 => rv_niI (sq_of hu))) (fun hb H1 e1 => ?_) (fun hb H1 e1 => ?_)
      · refine RetE.ex (kF hl fun n hn => ?_) (Ex.refl H) H1 e1
        cases hf : freeB bs n with
        | false => rfl
        | true =>
          have m : r ∈ (freeL bs).map fun r : Nat => (r : Int) := List.mem_map.mpr ⟨n, freeL_mem.mpr hf, hn.symm⟩
          rw [decide_eq_true m] at hb
          cases hb
      · have m : r ∈ (freeL bs).map fun r : Nat => (r : Int) := by
          by_cases m : r ∈ (freeL bs).map fun r : Nat => (r : Int)
          · exact m
          · rw [decide_eq_false m] at hb
            cases hb
        obtain ⟨n, hn, rfl⟩ := List.mem_map.mp m
        have k := RetL.ex (k hl n rfl (freeL_mem.mp hn)) e1
        refine s_retl (EvL.is (el_enum (fun i => .bl (bs.getD i false != decide (i = n))) (ea_cons (ev_var rfl) ea_nil) (ex_l e1 ha) (by rw [List.length_map]; omega) (fun x y => rfl) fun i x H2 e2 hi => ?_) ?_) k
        · obtain ⟨b, hb2, rfl⟩ := at_bl hi
          have gb : bs.getD i false = b := by rw [List.getD_eq_getElem?_getD, hb2]; rfl
          rw [gb]
          refine ev_is (ev_op (ev_var rfl) (ev_eqI (ev_var rfl) (ev_var rfl)) (rv_ne rfl)) ?_
          rw [dec_bl, show decide ((i : Int) = (n : Int)) = decide (i = n) from decide_eq_decide.mpr (by omega)]
          rfl
        · rw [List.length_map, ← tog_range, List.map_map]
          rfl
    · exact ⟨_, rfl, _, rfl, a, bs, rfl, ha, fun z => absurd z hl, fun _ => kE (by omega)⟩
end
end Oc
namespace Oc
open PySem PySem.Spec PyProof.Rows L2 Evl L2H HotX
/-! ### which exception -/
section
variable {P : Program} {w : World} {K : PySem.W.Frag} {mg : Str → Option Value} {base : Heap} {H : Hp} {a : Addr}
theorem Txt.q (T : Txt K mg) : ∀ i, i < 6 → ExcK K i := fun i hi => match i, hi with
  | 0, _ => T.q_NoListing
  | 1, _ => T.q_NoThing
  | 2, _ => T.q_NoNumber
  | 3, _ => T.q_NoState
  | 4, _ => T.q_NoMove
  | 5, _ => T.q_TooFar
def spOther (K : PySem.W.Frag) : Addr → Value → Option Addr → Sp := fun a c d vs H Q _ => ∃ i w : Nat, i < 6 ∧ w < 6 ∧ c = .ref (excA K i) ∧ d = none ∧ vs = [.ref a, .int (w : Int)] ∧ RetV (.bl (!decide (i = w))) H Q
theorem sv_other {i w : Nat} (hi : i < 6) (hw : w < 6) : SpV (spOther K a (.ref (excA K i)) none) [.ref a, .int (w : Int)] H (.bl (!decide (i = w))) := fun H1 e Q q E => ⟨i, w, hi, hw, rfl, rfl, rfl, q⟩
theorem kinds_eq {i w : Nat} (hi : i < 6) (hw : w < 6) : decide ((List.range 6).map (fun j => decide (i = j)) = (List.range 6).map fun k : Nat => decide ((k : Int) = (w : Int))) = decide (i = w) := by
  refine decide_eq_decide.mpr ⟨fun h => ?_, fun h => ?_⟩
  · have g := congrArg (fun l : List Bool => l[i]?) h
    simp only [List.getElem?_map, List.getElem?_range hi, Option.map_some] at g
    have g2 := Option.some.inj g
    have g3 := (decide_eq_decide.mp g2).mp trivial
    omega
  · apply List.map_congr_left
    intro j _
    exact decide_eq_decide.mpr (by omega)
theorem ok_other (T : Txt K mg) : ∃ fd, FnE P w K mg base 1 (aG K "_law_other") fd ["e", "wanted"] (spOther K) ∧ Binds K fd ["e", "wanted"] [] ∧ PySem.W.keepIn K (.ref (aG K "_law_other")) = true := by
  obtain ⟨fd, F⟩ := T.d__law_other
  refine ⟨fd, ?_, F.bindsN (fun _ _ _ _ _ _ us hl => match us, hl with | [_, _], _ => rfl), F.kp⟩
  refine fnE_of F sc__law_other (fun a c d vs H Q E h => ?_) (fun cdv A outer s H vs Q E p c d hot zc hr h => ?_)
  · obtain ⟨i, w, _, _, _, _, rfl, _⟩ := h
    rfl
  · obtain ⟨i, w, hi, hw, rfl, rfl, rfl, k⟩ := h
    have hvs : ∃ vs, p.2.data = .fields vs := by
      obtain ⟨_, vs, e, _⟩ := hot
      exact ⟨vs, e⟩
    refine ⟨_, (pss_cons (ps_set (i := 2) sc__law_other.nd rfl (Or.inl rfl) (pe_lst (pa_cons (pe_callB (r := rIsE K (excA K i) p.1) (call_isEH (T.q i hi).c (List.mem_singleton.mpr rfl) zc hvs) (by rfl) T.z_isinstance boot_isinstance (pa_cons (pv 0) (pa_cons (pe_glob (v := .ref (aG K "NoListing")) rfl T.g_NoListing rfl) pa_nil))) (pa_cons (pe_callB (r := rIsE K (excA K i) p.1) (call_isEH (T.q i hi).c (List.mem_singleton.mpr rfl) zc hvs) (by rfl) T.z_isinstance boot_isinstance (pa_cons (pv 0) (pa_cons (pe_glob (v := .ref (aG K "NoThing")) rfl T.g_NoThing rfl) pa_nil))) (pa_cons (pe_callB (r := rIsE K (excA K i) p.1) (call_isEH (T.q i hi).c (List.mem_singleton.mpr rfl) zc hvs) (by rfl) T.z_isinstance boot_isinstance (pa_cons (pv 0) (pa_cons (pe_glob (v := .ref (aG K "NoNumber")) rfl T.g_NoNumber rfl) pa_nil))) (pa_cons (pe_callB (r := rIsE K (excA K i) p.1) (call_isEH (T.q i hi).c (List.mem_singleton.mpr rfl) zc hvs) (by rfl) T.z_isinstance boot_isinstance (pa_cons (pv 0) (pa_cons (pe_glob (v := .ref (aG K "NoState")) rfl T.g_NoState rfl) pa_nil))) pa_nil))))))
  (pss_cons (ps_set (i := 2) sc__law_other.nd rfl (Or.inl rfl) (pe_op op_cat (pv 2) (pe_lst (pa_cons (pe_callB (r := rIsE K (excA K i) p.1) (call_isEH (T.q i hi).c (List.mem_singleton.mpr rfl) zc hvs) (by rfl) T.z_isinstance boot_isinstance (pa_cons (pv 0) (pa_cons (pe_glob (v := .ref (aG K "NoMove")) rfl T.g_NoMove rfl) pa_nil))) (pa_cons (pe_callB (r := rIsE K (excA K i) p.1) (call_isEH (T.q i hi).c (List.mem_singleton.mpr rfl) zc hvs) (by rfl) T.z_isinstance boot_isinstance (pa_cons (pv 0) (pa_cons (pe_glob (v := .ref (aG K "TooFar")) rfl T.g_TooFar rfl) pa_nil))) pa_nil)))))
  (pss_one (ps_ret (pe_or (pe_cmpR (r := rNeD K) (op_neD (roomH_units hr)) (pv 2) (pe_lcH (own := [("k", 3)]) hot (List.mem_singleton.mpr rfl) sc__law_other.nd (pi_range1H rfl T.z_range (pa_cons pe_int pa_nil)) (blkOk_by (own := [("k", 3)]) (N := ["e", "wanted", "kinds", "k"]) (sc := defScope s__law_other) (by decide +kernel)) (fun _ _ _ _ _ => (pg_name (i := 3) sc__law_other.nd rfl (Or.inl rfl))) (fun _ _ _ _ _ => pts_nil) (fun _ _ _ _ _ => (pe_cmpR op_eq (pv 3) (pv 1) (nomark _)))) (nomark _)) (pe_one (pe_not (pe_callB (r := rIsE K (excA K i) p.1) (call_isEH (T.q i hi).c (List.mem_singleton.mpr rfl) zc hvs) (by rfl) T.z_isinstance boot_isinstance (pa_cons (pv 0) (pa_cons (pe_bltn (v := .ty "ValueError") rfl T.z_ValueError (by decide +kernel) rfl) pa_nil)))))))))), ?_⟩
    have q := T.q i hi
    have is : ∀ (j : Nat), j < 6 → ∀ {te : TE} {σ : Stt} {H1 : Hp}, Ev te σ H1 (.ref p.1) → Ev (tCB (rIsE K (excA K i) p.1) (tCons te (tCons (tC (.ref (excA K j))) tNil))) σ H1 (.bl (decide (i = j))) := fun j hj {te σ H1} h => ev_isE h ev_c (fun u h => h) (q.kit j hj)
    refine q_asgL (el_lst (ea_cons (is 0 (by decide) (ev_var rfl)) (ea_cons (is 1 (by decide) (ev_var rfl)) (ea_cons (is 2 (by decide) (ev_var rfl)) (ea_cons (is 3 (by decide) (ev_var rfl)) ea_nil)))) (by show 4 ≤ 100000; decide)) fun r H1 _ e1 h1 => ?_
    refine q_asgL (xs := ((List.range 6).map fun j => decide (i = j)).map V.bl) (EvL.is (el_catV (ev_var rfl) h1 (el_lst (ea_cons (is 4 (by decide) (ev_var rfl)) (ea_cons (is 5 (by decide) (ev_var rfl)) ea_nil)) (by show 2 ≤ 100000; decide)) (by show 4 + 2 ≤ 100000; decide)) rfl) fun r2 H2 _ e2 h2 => ?_
    refine s_retv (ev_is (ev_orV (ev_opL (ev_var rfl) (EvL.is (el_mapR (n := 6) (fun k : Nat => V.bl (decide ((k : Int) = (w : Int)))) (ea_cons ev_c ea_nil) ⟨by decide, by decide⟩ (fun x => rfl) fun j H3 e3 hj => ev_eqI (ev_var rfl) (ev_var rfl)) (show _ = ((List.range 6).map fun k : Nat => decide ((k : Int) = (w : Int))).map V.bl by rw [List.map_map]; rfl)) fun u H3 hu e3 => rv_neB (sq_of (e3 _ _ h2)) (sq_of hu)) fun _ => ev_notV (ev_isE (ev_var rfl) ev_c (fun u h => h) q.ve)) ?_) (RetV.ex k (e1.trans e2))
    rw [kinds_eq hi hw]
    simp
end
end Oc
namespace Oc
open PySem PySem.Spec PyProof.Rows L2 Evl L2H HotX
/-! ### the law -/
section
variable {P : Program} {w : World} {K : PySem.W.Frag} {mg : Str → Option Value} {base : Heap} {σ : Stt} {H : Hp} {p a : Addr}
theorem et_neB {ta tb : TE} {i j : Bool} (ha : Ev ta σ H (.bl i)) (hb : Ev tb σ H (.bl j)) : EvT (tTest (tOp rNe ta tb)) σ H (!decide (i = j)) := et_is (et_test (ev_op ha hb (rv_ne rfl))) (by
  congr 1
  exact decide_eq_decide.mpr ⟨fun h => by injection h, fun h => by rw [h]⟩)
def spSLike (K : PySem.W.Frag) : Sp := fun vs H Q _ => ∃ (p q : Addr) (fs ds : List Bool), vs = [.ref p, .ref q] ∧ H p = some (.lst (fs.map V.bl)) ∧ SqL K H q (ds.map V.bl) ∧ RetV (.bl (decide (fs = ds))) H Q
theorem sv_slike {p q : Addr} {fs ds : List Bool} (h : H p = some (.lst (fs.map V.bl))) (h2 : SqL K H q (ds.map V.bl)) : SpV (spSLike K) [.ref p, .ref q] H (.bl (decide (fs = ds))) := fun H1 e Q q' E => ⟨p, q, fs, ds, rfl, e _ _ h, ex_l e h2, q'⟩
theorem take_snocB {l : List Bool} {i : Nat} {x : Bool} (h : l[i]? = some x) : l.take (i + 1) = l.take i ++ [x] := by
  rw [List.take_add_one, h]
  rfl
theorem ok_slike (T : Txt K mg) : Pr P w K mg base 1 (aG K "_law_state_like") ["found", "due"] (spSLike K) := by
  refine pr_mk0 T.d__law_state_like sc__law_state_like (fun _ _ _ _ _ _ us hl => match us, hl with | [_, _], _ => rfl) (fun vs H Q E h => ?_) (fun cdv A outer s H vs Q E hr h => ?_)
  · obtain ⟨p, q, fs, ds, rfl, _⟩ := h
    rfl
  · obtain ⟨p, q, fs, ds, rfl, hp, hq, k⟩ := h
    have k0 : fs ≠ ds → RetV (.bl false) H Q := fun ne => by
      rw [decide_eq_false ne] at k
      exact k
    refine ⟨_, (pss_cons (ps_if (PW.pt (pw_or (pt_not (pt_val (pe_callB (r := rIsi K) call_isi (by rfl) T.z_isinstance boot_isinstance (pa_cons (pv 0) (pa_cons (pe_bltn (v := .ty "list") rfl T.z_list boot_list rfl) pa_nil))))) (pw_or1 (pt_cmpR op_ne (pe_callB (r := rLenS K) call_len_seq (by rfl) T.z_len PySem.boot_len (pa_cons (pv 0) pa_nil)) (pe_callB (r := rLenS K) call_len_seq (by rfl) T.z_len PySem.boot_len (pa_cons (pv 1) pa_nil)) (nomark _))))) (pss_one (ps_ret pe_bl)) pss_nil)
  (pss_cons (ps_for PassesOwn.never rfl (pi_zip (by rfl) T.z_zip (pa_cons (pv 0) (pa_cons (pv 1) pa_nil))) (pg_tup rfl (pgs_cons (pg_name (i := 2) sc__law_state_like.nd rfl (Or.inl rfl)) (pgs_cons (pg_name (i := 3) sc__law_state_like.nd rfl (Or.inl rfl)) pgs_nil)))
    (pss_one (ps_if (PW.pt (pw_or (pt_not (pt_val (pe_callB (r := rIsi K) call_isi (by rfl) T.z_isinstance boot_isinstance (pa_cons (pv 2) (pa_cons (pe_bltn (v := .ty "bool") rfl T.z_bool boot_bool rfl) pa_nil))))) (pw_or1 (pt_cmpR op_ne (pv 2) (pv 3) (nomark _))))) (pss_one (ps_ret pe_bl)) pss_nil)))
  (pss_one (ps_ret pe_bl)))), ?_⟩
    refine q_when (et_or (et_not (et_B (ev_isi (ev_var rfl) ev_c (.ty "list") (fun H1 e1 => .base (.lst (e1 _ _ hp))) (kit_ty (r := true) (by decide +kernel))))) fun _ => et_neI (ev_len (ev_var rfl) (sq_of hp)) (ev_len (ev_var rfl) hq)) (fun hb H1 e1 => ?_) (fun hb H1 e1 => ?_)
    · refine s_retv ev_c (RetV.ex (k0 fun z => ?_) e1)
      rw [z] at hb
      simp at hb
    · have hlen : fs.length = ds.length := by
        simp only [Bool.not_true, Bool.false_or, Bool.not_eq_false', decide_eq_true_eq, List.length_map] at hb
        omega
      have hp1 := e1 _ _ hp
      have hq1 := ex_l e1 hq
      refine q_forZ (ea_cons (ev_var rfl) (ea_cons (ev_var rfl) ea_nil)) (sq_of hp1) hq1 (by rw [List.length_map, List.length_map, hlen])
        (fun i σ' H' => ∃ y z, σ' = [some (.ref p), some (.ref q), y, z] ∧ Ex H1 H' ∧ fs.take i = ds.take i) (fun H2 e2 => ⟨none, none, rfl, e2, rfl⟩) (fun i σ' H' ⟨y, z, _, e, _⟩ => ⟨ex_l e (sq_of hp1), ex_l e hq1⟩) ?_ ?_
      · rintro i v1 v2 σ' H' H2 hv1 hv2 ⟨y, z, rfl, e, ht⟩ e2
        obtain ⟨f, hf, rfl⟩ := at_bl hv1
        obtain ⟨g, hg, rfl⟩ := at_bl hv2
        refine s_when (et_or (et_not (et_B (ev_isi (ev_var rfl) ev_c (.ty "bool") (fun H1 _ => .base (.bl f)) (kit_ty (r := true) (by decide +kernel))))) fun _ => et_neB (ev_var rfl) (ev_var rfl)) (fun hb2 H3 e3 => ?_) (fun hb2 H3 e3 => ?_)
        · simp only [Bool.not_true, Bool.false_or, Bool.not_eq_true', decide_eq_false_iff_not] at hb2
          refine s_retv ev_c (RetV.ex (k0 fun z => hb2 ?_) (((e1.trans e).trans e2).trans e3))
          rw [z, hg] at hf
          exact (Option.some.inj hf).symm
        · simp only [Bool.not_true, Bool.false_or, Bool.not_eq_false', decide_eq_true_eq] at hb2
          refine ⟨_, _, rfl, (e.trans e2).trans e3, ?_⟩
          rw [take_snocB hf, take_snocB hg, ht, hb2]
      · rintro σ' H' ⟨y, z, rfl, e, ht⟩
        rw [List.length_map, List.take_length, hlen, List.take_length] at ht
        rw [decide_eq_true ht] at k
        exact s_retv ev_c (RetV.ex (RetV.ex k e1) e)
/-- what is told: the code, the list where there is one -/
def OutC (bs : List Bool) (r wh c : Int) (xs : List V) : Prop :=
  (40 < bs.length → c = 3) ∧ (bs.length ≤ 40 → wh = 0 → c = 0 ∧ xs = vN (freeL bs)) ∧ (bs.length ≤ 40 → wh ≠ 0 → (∀ n : Nat, r = (n : Int) → freeB bs n = true → c = 0 ∧ xs = (tog bs n).map V.bl) ∧ ((∀ n : Nat, r = (n : Int) → freeB bs n = false) → c = 4))
theorem out_ex (bs : List Bool) (r wh : Int) : ∃ c xs, OutC bs r wh c xs := by
  by_cases h : bs.length ≤ 40
  · by_cases hw : wh = 0
    · exact ⟨0, vN (freeL bs), fun z => by omega, fun _ _ => ⟨rfl, rfl⟩, fun _ z => absurd hw z⟩
    · by_cases hf : ∃ n : Nat, r = (n : Int) ∧ freeB bs n = true
      · obtain ⟨n, hn, hf⟩ := hf
        refine ⟨0, (tog bs n).map V.bl, fun z => by omega, fun _ z => absurd z hw, fun _ _ => ⟨fun m hm _ => ?_, fun z => ?_⟩⟩
        · obtain rfl : n = m := by omega
          exact ⟨rfl, rfl⟩
        · rw [z n hn] at hf
          cases hf
      · refine ⟨4, [], fun z => by omega, fun _ z => absurd z hw, fun _ _ => ⟨fun m hm z => absurd ⟨m, hm, z⟩ hf, fun _ => rfl⟩⟩
  · exact ⟨3, [], fun _ => rfl, fun z => absurd z h, fun z => absurd z h⟩
def gOut (H0 : Hp) (c : Int) (xs : List V) : V → Hp → Prop := fun v H => ∃ (p : Addr) (y : V), v = .ref p ∧ H p = some (.tup [.int c, y]) ∧ (c = 0 → ∃ q, y = .ref q ∧ H0 q = none ∧ H q = some (.lst xs))
def spTold (K : PySem.W.Frag) : Sp := fun vs H Q _ => ∃ (a : Addr) (bs : List Bool) (r wh c : Int) (xs : List V), vs = [.ref a, .int r, .int wh] ∧ SqL K H a (bs.map V.bl) ∧ OutC bs r wh c xs ∧ RetX (gOut H c xs) H Q
theorem sx_told {bs : List Bool} {r wh c : Int} {xs : List V} (ha : SqL K H a (bs.map V.bl)) (hc : OutC bs r wh c xs) : SpX (spTold K) [.ref a, .int r, .int wh] H (gOut H c xs) := fun H1 e Q q E => ⟨a, bs, r, wh, c, xs, rfl, ex_l e ha, hc, fun v H2 e2 ⟨p, y, hv, ht, hy⟩ => q v H2 e2 ⟨p, y, hv, ht, fun z => by
  obtain ⟨q, h1, h2, h3⟩ := hy z
  exact ⟨q, h1, fresh_back e h2, h3⟩⟩⟩
theorem ok_told (T : Txt K mg) : Pr P w K mg base 4 (aG K "_law_told") ["state", "ring", "which"] (spTold K) := by
  obtain ⟨_, G__law_other_h, b__law_other_h, kp__law_other_h⟩ := ok_other (P := P) (w := w) (base := base) T
  obtain ⟨_, G_moves, b_moves, kp_moves⟩ := ok_moves (P := P) (w := w) (base := base) T
  obtain ⟨_, G_moved, b_moved, kp_moved⟩ := ok_moved (P := P) (w := w) (base := base) T
  refine pr_mk T.d__law_told sc__law_told (fun _ _ _ _ _ _ us hl => match us, hl with | [_, _, _], _ => rfl) (fun vs H Q E h => ?_) (fun cdv A outer s H vs Q E hr h => ?_)
  · obtain ⟨a, bs, r, wh, c, xs, rfl, _⟩ := h
    rfl
  · obtain ⟨a, bs, r, wh, c, xs, rfl, ha, hc, k⟩ := h
    refine ⟨_, (pss_one (L2N.ps_try_as (ts := fun a cls d => tSeq (tFor (iList K (tLst (tCons (tC (.int 3)) (tCons (tC (.int 4)) tNil)))) (gName 4) (tIfS (tNot (tB (tCallS (spOther K a cls d) (fun _ => E0) (tCons (tVar 3) (tCons (tVar 4) tNil))))) (tRet (tTup (tCons (tVar 4) (tCons (tC .non) tNil)))) tNext)) (tRet (tTup (tCons (tC (.int 9)) (tCons (tC .non) tNil))))) (i := 3) rfl rfl sc__law_told.nd rfl rfl (by exact ⟨rfl, by decide, .inl T.g_ChangeError⟩) (L2N.takes_of rfl rfl rfl rfl) (by exact fun W pn xe tk po => (pss_cons (ps_if (pt_cmpR op_eq (pv 2) pe_int (nomark _)) (pss_one (ps_ret (pe_tup (pa_cons pe_int (pa_cons (pe_callS G_moves (hr.mono (by decide)) rfl T.g_moves kp_moves b_moves (fun σ => L2N.passAt tk σ) (pa_cons (pv 0) pa_nil)) pa_nil))))) pss_nil)
  (pss_one (ps_ret (pe_tup (pa_cons pe_int (pa_cons (pe_callS G_moved (hr.mono (by decide)) rfl T.g_moved kp_moved b_moved (fun σ => L2N.passAt tk σ) (pa_cons (pv 0) (pa_cons (pv 1) pa_nil))) pa_nil))))))) (by exact fun a oe cls d pn hz hv => (pss_cons (ps_forH PassesOwn.never ⟨_, (hot_suite hz hv), List.mem_cons_self⟩ (pi_listH (pe_lst (pa_cons pe_int (pa_cons pe_int pa_nil)))) (pg_name (i := 4) sc__law_told.nd rfl (Or.inl rfl))
    (pss_one (ps_if (pt_not (pt_val (pe_callE (p := (a, oe)) G__law_other_h (roomH_mark (hr.mono (by decide))) (hot_suite hz hv) List.mem_cons_self (L2N.Zn.zc hz) rfl T.g__law_other kp__law_other_h b__law_other_h (pa_cons (pv 3) (pa_cons (pv 4) pa_nil))))) (pss_one (ps_ret (pe_tup (pa_cons (pv 4) (pa_cons pe_non pa_nil))))) pss_nil)))
  (pss_one (ps_ret (pe_tup (pa_cons pe_int (pa_cons pe_non pa_nil))))))))), ?_⟩
    have caught : ∀ {D : Ends} {H1 : Hp} {W : WX} {i : Nat}, (i = 3 ∨ i = 4) → c = (i : Int) → Ex H H1 → D.rt = Q → wAs K (.ref (aG K "ChangeError")) 3 (fun a cls d => tSeq (tFor (iList K (tLst (tCons (tC (.int 3)) (tCons (tC (.int 4)) tNil)))) (gName 4) (tIfS (tNot (tB (tCallS (spOther K a cls d) (fun _ => E0) (tCons (tVar 3) (tCons (tVar 4) tNil))))) (tRet (tTup (tCons (tVar 4) (tCons (tC .non) tNil)))) tNext)) (tRet (tTup (tCons (tC (.int 9)) (tCons (tC .non) tNil))))) W D (.ref (excA K i)) none [some (V.ref a), some (.int r), some (.int wh), none, none] H1 := fun {D H1 W i} hi ci e1 hD => by
      have hi6 : i < 6 := by omega
      refine ⟨true, (T.q i hi6).exm, fun _ x ha => ?_, (fun z => by cases z)⟩
      refine q_forNLn (el_lst (ea_cons ev_c (ea_cons ev_c ea_nil)) (by show 2 ≤ 100000; decide)) (fun p j σ' H' => ∃ y, σ' = [some (V.ref a), some (.int r), some (.int wh), some (.ref x), y] ∧ Ex H1 H' ∧ H' p = some (.lst [.int 3, .int 4]) ∧ (j = 0 ∨ (j = 1 ∧ i = 4))) (fun p H2 _ e2 hp => ⟨none, rfl, e2, hp, .inl rfl⟩) (fun p j σ' H' _ ⟨_, _, _, hp, _⟩ => sq_of hp) ?_ ?_
      · rintro p j x0 σ' H' hx ⟨y, rfl, e2, hp, hj⟩
        obtain ⟨wt, hw, hwt, rfl⟩ : ∃ wt : Nat, wt < 6 ∧ (i = wt ∨ (j = 0 ∧ i = 4)) ∧ x0 = .int (wt : Int) := by
          rcases hj with rfl | ⟨rfl, h5⟩
          · have := Option.some.inj hx
            exact ⟨3, by decide, by omega, this.symm⟩
          · have := Option.some.inj hx
            exact ⟨4, by decide, .inl h5, this.symm⟩
        refine s_when (et_not (et_B (ev_callS (ea_cons (ev_var rfl) (ea_cons (ev_var rfl) ea_nil)) (sv_other (i := i) (w := wt) hi6 hw)))) (fun hb H3 e3 => ?_) (fun hb H3 e3 => ?_)
        · have hiw : i = wt := by simpa using hb
          subst hiw
          refine s_retU (eu_tup (ea_cons (ev_var rfl) (ea_cons ev_c ea_nil)) (by show 2 ≤ 100000; decide)) fun p2 H4 _ e4 h4 => ?_
          show D.rt _ _
          rw [hD]
          exact k (.ref p2) H4 (e1.trans (e2.trans (e3.trans e4))) ⟨p2, .non, rfl, by rw [h4, ci], fun z => by omega⟩
        · have hiw : ¬ i = wt := by simpa using hb
          rcases hwt with z | ⟨rfl, h5⟩
          · exact absurd z hiw
          · exact ⟨_, rfl, e2.trans e3, e3 _ _ hp, .inr ⟨rfl, h5⟩⟩
      · rintro p σ' H' ⟨y, rfl, e2, hp, hj⟩
        exact absurd hj (by show ¬ (2 = 0 ∨ (2 = 1 ∧ i = 4)); omega)
    refine q_when (et_eqI (ev_var rfl) ev_c) (fun hb H1 e1 => ?_) (fun hb H1 e1 => ?_)
    · have hb := of_decide_eq_true hb
      exact ⟨_, rfl, a, bs, rfl, ex_l e1 ha, (fun hl p1 H2 f2 e2 h2 => ⟨by show 2 ≤ sizeLine; decide, fun p2 hp2 => k (.ref p2) _ (e1.trans (e2.trans (Ex.new hp2))) ⟨p2, .ref p1, rfl, by rw [upd_same, (hc.2.1 hl hb).1], fun _ => ⟨p1, rfl, fresh_back e1 f2, by rw [(hc.2.1 hl hb).2]; exact Ex.new hp2 _ _ h2⟩⟩⟩), (fun hl H2 e2 => caught (i := 3) (.inl rfl) (hc.1 hl) (e1.trans e2) rfl)⟩
    · have hb := of_decide_eq_false hb
      exact ⟨_, rfl, _, rfl, a, bs, r, rfl, ex_l e1 ha, (fun hl n hn hf p1 H2 f2 e2 h2 => ⟨by show 2 ≤ sizeLine; decide, fun p2 hp2 => k (.ref p2) _ (e1.trans (e2.trans (Ex.new hp2))) ⟨p2, .ref p1, rfl, by rw [upd_same, ((hc.2.2 hl hb).1 n hn hf).1], fun _ => ⟨p1, rfl, fresh_back e1 f2, by rw [((hc.2.2 hl hb).1 n hn hf).2]; exact Ex.new hp2 _ _ h2⟩⟩⟩),
        (fun hl hf H2 e2 => caught (i := 4) (.inr rfl) ((hc.2.2 hl hb).2 hf) (e1.trans e2) rfl), (fun hl H2 e2 => caught (i := 3) (.inl rfl) (hc.1 hl) (e1.trans e2) rfl)⟩
theorem ok_law {f : Addr} {fd : FuncData} (T : Txt K mg) (F : FunD K "law" "law" (defArgs s_law) (defBody s_law) (defScope s_law) [] [] f fd) : FnOk P w K mg base (L2N.CX P w) 6 f fd ["script"] (spLaw K) := by
  obtain ⟨_, G__law_cell_at, b__law_cell_at, kp__law_cell_at⟩ := ok_cell (P := P) (w := w) (base := base) T
  obtain ⟨_, G__law_state_by, b__law_state_by, kp__law_state_by⟩ := ok_state (P := P) (w := w) (base := base) T
  obtain ⟨_, G__law_free, b__law_free, kp__law_free⟩ := ok_free (P := P) (w := w) (base := base) T
  obtain ⟨_, G__law_numbers_like, b__law_numbers_like, kp__law_numbers_like⟩ := ok_like (P := P) (w := w) (base := base) T
  obtain ⟨_, G__law_state_like, b__law_state_like, kp__law_state_like⟩ := ok_slike (P := P) (w := w) (base := base) T
  obtain ⟨_, G__law_told, b__law_told, kp__law_told⟩ := ok_told (P := P) (w := w) (base := base) T
  obtain ⟨_, G_moves, b_moves, kp_moves⟩ := ok_moves (P := P) (w := w) (base := base) T
  refine fn_mk0 F sc_law (fun vs H Q E h => ?_) (fun cdv A outer s H vs Q E hr h => ?_)
  · obtain ⟨a, ns, rfl, _⟩ := h
    rfl
  · obtain ⟨a, ns, rfl, hS, hl, k⟩ := h
    refine ⟨_, (pss_cons (ps_set (i := 1) sc_law.nd rfl (Or.inl rfl) (pe_op op_mod (pe_call G__law_cell_at (hr.mono (by decide)) rfl T.g__law_cell_at kp__law_cell_at b__law_cell_at .nil passLN (pa_cons (pv 0) (pa_cons pe_int pa_nil))) pe_int))
  (pss_cons (ps_if (pt_cmpR op_eq (pe_op op_mod (pe_call G__law_cell_at (hr.mono (by decide)) rfl T.g__law_cell_at kp__law_cell_at b__law_cell_at .nil passLN (pa_cons (pv 0) (pa_cons pe_int pa_nil))) pe_int) pe_int (nomark _)) (pss_one (ps_set (i := 1) sc_law.nd rfl (Or.inl rfl) (pe_op op_add pe_int (pe_op op_mod (pe_call G__law_cell_at (hr.mono (by decide)) rfl T.g__law_cell_at kp__law_cell_at b__law_cell_at .nil passLN (pa_cons (pv 0) (pa_cons pe_int pa_nil))) pe_int)))) pss_nil)
  (pss_cons (ps_set (i := 2) sc_law.nd rfl (Or.inr rfl) (pe_call G__law_state_by (hr.mono (by decide)) rfl T.g__law_state_by kp__law_state_by b__law_state_by .nil passLN (pa_cons (pv 0) (pa_cons pe_int (pa_cons (pv 1) pa_nil)))))
  (pss_cons (ps_set (i := 3) sc_law.nd rfl (Or.inr rfl) (pe_ix (r := rIxL K) ix_list (pe_lst (pa_cons (pe_op op_sub (pe_op op_mod (pe_op op_fdiv (pe_call G__law_cell_at (hr.mono (by decide)) rfl T.g__law_cell_at kp__law_cell_at b__law_cell_at .nil passLN (pa_cons (pv 0) (pa_cons pe_int pa_nil))) pe_int) pe_int) pe_int) (pa_cons (pe_op op_sub (pe_op op_pow pe_int pe_int) pe_int) pa_nil))) (pe_callTy call_int1 (by rfl) T.z_int boot_int (pa_cons (pe_cmpR op_eq (pe_op op_mod (pe_call G__law_cell_at (hr.mono (by decide)) rfl T.g__law_cell_at kp__law_cell_at b__law_cell_at .nil passLN (pa_cons (pv 0) (pa_cons pe_int pa_nil))) pe_int) pe_int (nomark _)) pa_nil)) (fun _ _ => rfl)))
  (pss_cons (ps_set (i := 4) sc_law.nd rfl (Or.inl rfl) (pe_call G__law_free (hr.mono (by decide)) rfl T.g__law_free kp__law_free b__law_free .nil passLN (pa_cons (pv 2) pa_nil)))
  (pss_cons (ps_if (PW.pt (pw_and (pt_cmpR op_gt (pe_callB (r := rLenS K) call_len_seq (by rfl) T.z_len PySem.boot_len (pa_cons (pv 4) pa_nil)) pe_int (nomark _)) (pw_and1 (pt_cmpR op_eq (pe_op op_mod (pe_call G__law_cell_at (hr.mono (by decide)) rfl T.g__law_cell_at kp__law_cell_at b__law_cell_at .nil passLN (pa_cons (pv 0) (pa_cons pe_int pa_nil))) pe_int) pe_int (nomark _))))) (pss_one (ps_set (i := 3) sc_law.nd rfl (Or.inr rfl) (pe_ix (r := rIxL K) ix_list (pv 4) (pe_op op_mod (pe_op op_fdiv (pe_call G__law_cell_at (hr.mono (by decide)) rfl T.g__law_cell_at kp__law_cell_at b__law_cell_at .nil passLN (pa_cons (pv 0) (pa_cons pe_int pa_nil))) pe_int) (pe_callB (r := rLenS K) call_len_seq (by rfl) T.z_len PySem.boot_len (pa_cons (pv 4) pa_nil))) (fun _ _ => rfl)))) pss_nil)
  (pss_cons (ps_set (i := 5) sc_law.nd rfl (Or.inl rfl) (pe_callTy (r := rListS K) call_list_of (by rfl) T.z_list boot_list (pa_cons (pv 2) pa_nil)))
  (pss_cons (ps_set (i := 6) sc_law.nd rfl (Or.inl rfl) (pe_call G__law_told (hr.mono (by decide)) rfl T.g__law_told kp__law_told b__law_told .nil passLN (pa_cons (pv 5) (pa_cons (pv 3) (pa_cons pe_int pa_nil)))))
  (pss_cons (ps_set (i := 7) sc_law.nd rfl (Or.inl rfl) (pe_call G__law_told (hr.mono (by decide)) rfl T.g__law_told kp__law_told b__law_told .nil passLN (pa_cons (pv 5) (pa_cons (pv 3) (pa_cons pe_int pa_nil)))))
  (pss_cons (ps_if (pt_cmpR (r := rNeD K) (op_neD hr.units) (pv 5) (pv 2) (nomark _)) (pss_one (ps_ret pe_bl)) pss_nil)
  (pss_cons (ps_if (pt_cmpR op_gt (pv 1) pe_int (nomark _)) (pss_one (ps_ret (pe_and (pe_cmpR op_eq (pe_ix (r := rIxT K) ix_tup (pv 6) pe_int (fun _ _ => rfl)) pe_int (nomark _)) (pe_one (pe_cmpR op_eq (pe_ix (r := rIxT K) ix_tup (pv 7) pe_int (fun _ _ => rfl)) pe_int (nomark _)))))) pss_nil)
  (pss_cons (ps_if (PW.pt (pw_or (pt_cmpR op_ne (pe_ix (r := rIxT K) ix_tup (pv 6) pe_int (fun _ _ => rfl)) pe_int (nomark _)) (pw_or1 (pt_not (pt_val (pe_call G__law_numbers_like (hr.mono (by decide)) rfl T.g__law_numbers_like kp__law_numbers_like b__law_numbers_like .nil passLN (pa_cons (pe_ix (r := rIxT K) ix_tup (pv 6) pe_int (fun _ _ => rfl)) (pa_cons (pv 4) pa_nil)))))))) (pss_one (ps_ret pe_bl)) pss_nil)
  (pss_cons (ps_expr (pe_bm PySem.F.plainAttrs_list PySem.F.slot_list_append PySem.F.type_list_append mt_append (pe_ix (r := rIxT K) ix_tup (pv 6) pe_int (fun _ _ => rfl)) (pa_cons pe_int pa_nil)))
  (pss_cons (ps_if (pt_not (pt_val (pe_call G__law_numbers_like (hr.mono (by decide)) rfl T.g__law_numbers_like kp__law_numbers_like b__law_numbers_like .nil passLN (pa_cons (pe_call G_moves (hr.mono (by decide)) rfl T.g_moves kp_moves b_moves .nil passLN (pa_cons (pv 5) pa_nil)) (pa_cons (pv 4) pa_nil))))) (pss_one (ps_ret pe_bl)) pss_nil)
  (pss_cons (ps_if (pt_cmpR (r := rIn K true) op_notIn_seq (pv 3) (pv 4) (by rfl)) (pss_one (ps_ret (pe_cmpR op_eq (pe_ix (r := rIxT K) ix_tup (pv 7) pe_int (fun _ _ => rfl)) pe_int (nomark _)))) pss_nil)
  (pss_cons (ps_setLc (i := 8) (own := [("k", 9)]) rfl sc_law.nd rfl rfl (sw_true rfl rfl rfl (by decide +kernel)) (pi_range1 rfl T.z_range (pa_cons (pv 1) pa_nil)) (blkOk_by (own := [("k", 9)]) (N := ["script", "many", "state", "ring", "free", "handed", "one", "two", "due", "k"]) (sc := defScope s_law) (by decide +kernel)) (fun _ _ _ _ _ => (pg_name (i := 9) sc_law.nd rfl (Or.inl rfl))) (fun _ _ _ _ _ => pts_nil) (fun _ _ _ _ _ => (pe_cmpR op_ne (pe_ix (r := rIxL K) ix_list (pv 2) (pv 9) (fun _ _ => rfl)) (pe_cmpR op_eq (pv 9) (pv 3) (nomark _)) (nomark _))))
  (pss_cons (ps_if (PW.pt (pw_or (pt_cmpR op_ne (pe_ix (r := rIxT K) ix_tup (pv 7) pe_int (fun _ _ => rfl)) pe_int (nomark _)) (pw_or1 (pt_not (pt_val (pe_call G__law_state_like (hr.mono (by decide)) rfl T.g__law_state_like kp__law_state_like b__law_state_like .nil passLN (pa_cons (pe_ix (r := rIxT K) ix_tup (pv 7) pe_int (fun _ _ => rfl)) (pa_cons (pv 8) pa_nil)))))))) (pss_one (ps_ret pe_bl)) pss_nil)
  (pss_cons (ps_expr (pe_bm PySem.F.plainAttrs_list PySem.F.slot_list_append PySem.F.type_list_append mt_append (pe_ix (r := rIxT K) ix_tup (pv 7) pe_int (fun _ _ => rfl)) (pa_cons pe_bl pa_nil)))
  (pss_one (ps_ret (pe_cmpR (r := rEqD K) (op_eqD hr.units) (pv 5) (pv 2) (nomark _)))))))))))))))))))))), ?_⟩
    have cl : ∀ {j : Int} {H1 : Hp} {σ : Stt} {E : XK}, 0 ≤ j → Ex H H1 → σ[0]? = some (some (.ref a)) → Ev (tCall (spCell K) [] E (tCons (tVar 0) (tCons (tC (.int j)) tNil))) σ H1 (.int (cell ns j)) := fun hj e1 h0 => ev_call (ea_cons (ev_var h0) (ea_cons ev_c ea_nil)) (sv_cell (ex_l e1 hS) hj)
    refine q_asg (ev_op (cl (by decide) (Ex.refl H) rfl) ev_c (rv_I (by decide))) fun H1 e1 => ?_
    obtain ⟨m, hm, hm60⟩ : ∃ m : Nat, (if cell ns 1 % 9 = 4 then 41 + cell ns 0 % 20 else cell ns 0 % 41) = (m : Int) ∧ m ≤ 60 := by
      split
      · exact ⟨(41 + cell ns 0 % 20).toNat, by omega, by omega⟩
      · exact ⟨(cell ns 0 % 41).toNat, by omega, by omega⟩
    refine q_ifAsg (v := .int (m : Int)) (et_eqI (ev_op (cl (by decide) e1 rfl) ev_c (rv_I (by decide))) ev_c) (fun hb => ?_) (fun hb => ?_) fun H2 e2 => ?_
    · rw [← hm, if_pos (of_decide_eq_true hb)]
      exact ev_op ev_c (ev_op (cl (by decide) e1 rfl) ev_c (rv_I (by decide))) rv_I0
    · rw [← hm, if_neg (of_decide_eq_false hb)]
      rfl
    have e12 := e1.trans e2
    refine q_asgX (ex_call (ea_cons (ev_var rfl) (ea_cons ev_c (ea_cons (ev_var rfl) ea_nil))) (sx_state (ex_l e12 hS) (by decide) (by omega))) fun v H3 e3 g => ?_
    obtain ⟨st, bs, rfl, hl0, hst⟩ := g
    have e13 := e12.trans e3
    obtain ⟨r0, hat⟩ : ∃ r0 : Int, atI [V.int (cell ns 1 / 9 % 45 - 2), .int (10 ^ (30 : Int).toNat - 1)] (if decide (cell ns 1 % 11 = 7) = true then 1 else 0) = some (.int r0) := by
      split
      · exact ⟨_, rfl⟩
      · exact ⟨_, rfl⟩
    refine q_asg (v := .int r0) (ev_opL1 (el_lst (ea_cons (ev_op (ev_op (ev_op (cl (by decide) e13 rfl) ev_c (rv_I ⟨by decide, by decide⟩)) ev_c (rv_I (by decide))) ev_c rv_I0) (ea_cons (ev_op (ev_op ev_c ev_c (rv_I ⟨by decide, by decide, by decide⟩)) ev_c rv_I0) ea_nil)) (by show 2 ≤ 100000; decide)) (fun H4 e4 => ev_int1b (ev_eqI (ev_op (cl (by decide) (e13.trans e4) rfl) ev_c (rv_I (by decide))) ev_c)) fun q H4 hq e4 => rv_ixL (sq_of hq) hat) fun H4 e4 => ?_
    refine q_asgL (el_call (ea_cons (ev_var rfl) ea_nil) (sl_free (sq_of (e4 _ _ hst)) (by omega))) fun fr H5 _ e5 hfr => ?_
    have e15 := e13.trans (e4.trans e5)
    refine q_ifAsgX (G := fun v _ => ∃ r : Int, v = .int r) (et_and (et_test (ev_op (ev_len (ev_var rfl) (sq_of hfr)) ev_c rv_I0)) fun _ => et_eqI (ev_op (cl (by decide) e15 rfl) ev_c (rv_I (by decide))) ev_c) (fun hb => ?_) (fun _ => ⟨.int r0, rfl, fun _ _ => ⟨r0, rfl⟩⟩) fun v H6 e6 g => ?_
    · have hp : ((vN (freeL bs)).length : Int) > 0 := of_decide_eq_true (Bool.and_eq_true_iff.mp hb).1
      have b1 := Int.emod_nonneg (cell ns 1 / 9) (show ((vN (freeL bs)).length : Int) ≠ 0 by omega)
      have b2 := Int.emod_lt_of_pos (cell ns 1 / 9) hp
      obtain ⟨r, hr2⟩ : ∃ r : Int, atI (vN (freeL bs)) (cell ns 1 / 9 % ((vN (freeL bs)).length : Int)) = some (.int r) := by
        obtain ⟨j, hj⟩ : ∃ j : Nat, cell ns 1 / 9 % ((vN (freeL bs)).length : Int) = (j : Int) := ⟨(cell ns 1 / 9 % ((vN (freeL bs)).length : Int)).toNat, by omega⟩
        rw [hj] at b2 ⊢
        have vl : (vN (freeL bs)).length = (freeL bs).length := by unfold vN; rw [List.length_map]
        have hjl : j < (freeL bs).length := by omega
        exact ⟨_, atI_nat (vN_at (List.getElem?_eq_getElem hjl))⟩
      exact EvX.imp (Ev.toX (ev_op (ev_var rfl) (ev_op (ev_op (cl (by decide) e15 rfl) ev_c (rv_I ⟨by decide, by decide⟩)) (ev_len (ev_var rfl) (sq_of hfr)) (rv_I hp)) (rv_ixL (sq_of hfr) hr2))) fun v H7 e7 h => ⟨r, h⟩
    obtain ⟨r, rfl⟩ := g
    have e16 := e15.trans e6
    have hst6 := (e4.trans (e5.trans e6)) _ _ hst
    have hfr6 := e6 _ _ hfr
    refine q_asgL (el_list (ev_var rfl) (sq_of hst6)) fun h H7 fh e7 hh => ?_
    have hst7 := e7 _ _ hst6
    have hfr7 := e7 _ _ hfr6
    obtain ⟨c1, xs1, o1⟩ := out_ex bs r 0
    obtain ⟨c2, xs2, o2⟩ := out_ex bs r 1
    refine q_asgX (ex_call (ea_cons (ev_var rfl) (ea_cons (ev_var rfl) (ea_cons ev_c ea_nil))) (sx_told (sq_of hh) o1)) fun v H8 e8 g => ?_
    obtain ⟨t1, y1, rfl, ht1, hy1⟩ := g
    refine q_asgX (ex_call (ea_cons (ev_var rfl) (ea_cons (ev_var rfl) (ea_cons ev_c ea_nil))) (sx_told (sq_of (e8 _ _ hh)) o2)) fun v H9 e9 g => ?_
    obtain ⟨t2, y2, rfl, ht2, hy2⟩ := g
    have e79 := e8.trans e9
    refine q_skip (et_test (ev_op (ev_var rfl) (ev_var rfl) (rv_neB (sq_of (e79 _ _ hh)) (sq_of (e79 _ _ hst7))))) (by simp) fun HA eA => ?_
    have f0 : ∀ {i : Nat} {t : Addr} {c : Int} {y : V} {HD : Hp} {σ : Stt}, HD t = some (.tup [.int c, y]) → σ[i]? = some (some (.ref t)) → Ev (tOp (rIxT K) (tVar i) (tC (.int 0))) σ HD (.int c) := fun h h0 => ev_op (ev_var h0) ev_c (rv_ixT (st_of h) (atI_nat (j := 0) rfl))
    have f1 : ∀ {i : Nat} {t : Addr} {c : Int} {y : V} {HD : Hp} {σ : Stt}, HD t = some (.tup [.int c, y]) → σ[i]? = some (some (.ref t)) → Ev (tOp (rIxT K) (tVar i) (tC (.int 1))) σ HD y := fun h h0 => ev_op (ev_var h0) ev_c (rv_ixT (st_of h) (atI_nat (j := 1) rfl))
    refine q_when (et_test (ev_op (ev_var rfl) ev_c rv_I0)) (fun hk HB eB => ?_) fun hk HB eB => ?_
    · have hk : (m : Int) > 40 := of_decide_eq_true hk
      have eAB := eA.trans eB
      refine s_ret (v := .bl true) (ev_is (ev_andV (ev_eqI (f0 ((e9.trans eAB) _ _ ht1) rfl) ev_c) fun _ => ev_eqI (f0 (eAB _ _ ht2) rfl) ev_c) ?_) fun HC _ => k HC
      rw [o1.1 (by omega), o2.1 (by omega)]
      rfl
    have hk : ¬ (m : Int) > 40 := of_decide_eq_false hk
    have hle : bs.length ≤ 40 := by omega
    obtain ⟨rfl, rfl⟩ := o1.2.1 hle rfl
    obtain ⟨q1, rfl, nq1, hq1⟩ := hy1 rfl
    have e9B := e9.trans (eA.trans eB)
    have e7B := e8.trans e9B
    have hq1' := hq1
    rw [vN_int] at hq1'
    have hfr7' := hfr7
    rw [vN_int] at hfr7'
    refine q_skip (et_or (et_neI (f0 (e9B _ _ ht1) rfl) ev_c) fun _ => et_not (et_B (ev_call (ea_cons (f1 (e9B _ _ ht1) rfl) (ea_cons (ev_var rfl) ea_nil)) (sv_like (e9B _ _ hq1') (sq_of (e7B _ _ hfr7')))))) (by simp) fun HC eC => ?_
    have vl : (vN (freeL bs)).length ≤ 40 := by
      have hlf := List.length_filter_le (freeB bs) (List.range bs.length)
      rw [List.length_range] at hlf
      have : (vN (freeL bs)).length = (freeL bs).length := by unfold vN; rw [List.length_map]
      have : (freeL bs).length ≤ bs.length := hlf
      omega
    have e9C := e9B.trans eC
    refine q_app (e9C _ _ hq1) (f1 (e9C _ _ ht1) rfl) ev_c (by omega) fun HD eD => ?_
    have e7D : Ex H7 HD := e8.trans (e9C.trans eD)
    have e9D : Ex H9 HD := ((eA.trans eB).trans eC).trans eD
    have eU := ex_upd (o := .lst (vN (freeL bs) ++ [.int 3])) e7D nq1
    have ne2 : t2 ≠ q1 := fun z => by
      rw [z, e9 _ _ hq1] at ht2
      cases ht2
    have ht2U : upd HD q1 (.lst (vN (freeL bs) ++ [.int 3])) t2 = some (.tup [.int c2, y2]) := by
      rw [upd_ne ne2]
      exact e9D _ _ ht2
    have hy2U : c2 = 0 → ∃ q, y2 = .ref q ∧ H7 q = none ∧ upd HD q1 (.lst (vN (freeL bs) ++ [.int 3])) q = some (.lst xs2) := fun z => by
      obtain ⟨q, h1, h2, h3⟩ := hy2 z
      refine ⟨q, h1, fresh_back e8 h2, ?_⟩
      rw [upd_ne (fun w => by rw [w, hq1] at h2; cases h2)]
      exact e9D _ _ h3
    generalize upd HD q1 (.lst (vN (freeL bs) ++ [.int 3])) = HU at eU ht2U hy2U
    refine q_skip (et_not (et_B (ev_callX (eax_consL (EvL.is (el_call (ea_cons (ev_var rfl) ea_nil) (sl_moves (sq_of (eU _ _ hh)) hle)) (vN_int _)) fun q HE _ eE hq => eax_cons (ev_var rfl) (eax_nil fun HF eF => sv_like (eF _ _ hq) (sq_of ((eU.trans (eE.trans eF)) _ _ hfr7'))))))) (by simp) fun HE eE => ?_
    have e7E := eU.trans eE
    refine q_when (et_test (ev_op (ev_var rfl) (ev_var rfl) (rv_niI (sq_of (e7E _ _ hfr7'))))) (fun hb HF eF => ?_) (fun hb HF eF => ?_)
    · have c4 := (o2.2.2 hle (by decide)).2 fun n hn => by
        cases hf : freeB bs n with
        | false => rfl
        | true =>
          have mm : r ∈ (freeL bs).map fun r : Nat => (r : Int) := List.mem_map.mpr ⟨n, freeL_mem.mpr hf, hn.symm⟩
          rw [decide_eq_true mm] at hb
          cases hb
      refine s_ret (v := .bl true) (ev_is (ev_eqI (f0 ((eE.trans eF) _ _ ht2U) rfl) ev_c) ?_) fun HC _ => k HC
      rw [c4]
      rfl
    have mm : r ∈ (freeL bs).map fun r : Nat => (r : Int) := by
      by_cases mm : r ∈ (freeL bs).map fun r : Nat => (r : Int)
      · exact mm
      · rw [decide_eq_false mm] at hb
        cases hb
    obtain ⟨n, hn, rfl⟩ := List.mem_map.mp mm
    obtain ⟨rfl, rfl⟩ := (o2.2.2 hle (by decide)).1 n rfl (freeL_mem.mp hn)
    obtain ⟨q2, rfl, nq2, hq2⟩ := hy2U rfl
    have e7F := e7E.trans eF
    have hst' := e7F _ _ hst7
    refine q_asgL (xs := (tog bs n).map V.bl) (EvL.is (el_mapR (n := (m : Int)) (fun i : Nat => .bl (bs.getD i false != decide (i = n))) (ea_cons (ev_var rfl) ea_nil) ⟨by omega, by omega⟩ (fun x => rfl) fun i HG eG hi => ?_) ?_) fun du HG _ eG hdu => ?_
    · refine ev_is (ev_op (ev_op (ev_var rfl) (ev_var rfl) (rv_ixL (sq_of (eG _ _ hst')) (atI_nat (getB (by omega))))) (ev_eqI (ev_var rfl) (ev_var rfl)) (rv_ne rfl)) ?_
      rw [dec_bl, show decide ((i : Int) = (n : Int)) = decide (i = n) from decide_eq_decide.mpr (by omega)]
      rfl
    · rw [Int.toNat_natCast, ← hl0, ← tog_range, List.map_map]
      rfl
    have eUG := eE.trans (eF.trans eG)
    refine q_skip (et_or (et_neI (f0 (eUG _ _ ht2U) rfl) ev_c) fun _ => et_not (et_B (ev_call (ea_cons (f1 (eUG _ _ ht2U) rfl) (ea_cons (ev_var rfl) ea_nil)) (sv_slike (eUG _ _ hq2) (sq_of hdu))))) (by simp) fun HI eI => ?_
    refine q_app ((eUG.trans eI) _ _ hq2) (f1 ((eUG.trans eI) _ _ ht2U) rfl) ev_c (by rw [List.length_map, tog_len]; omega) fun HJ eJ => ?_
    have eW := ex_upd (o := .lst ((tog bs n).map V.bl ++ [.bl true])) ((eU.trans (eUG.trans eI)).trans eJ) nq2
    refine s_ret (v := .bl true) (ev_is (ev_op (ev_var rfl) (ev_var rfl) (rv_eqB (sq_of (eW _ _ hh)) (sq_of (eW _ _ hst7)))) (by simp)) fun HC _ => k HC
end
end Oc
namespace Oc
open PySem PySem.Spec PyProof.Rows L2 Evl L2H HotX
def dd_ (at_ : Str × Option Str) (x q : Str) (s : Stmt) : He.DefD := ⟨at_, x, q, defArgs s, defBody s, defScope s, [], []⟩
def fn0 : List He.DefD := [dd_ ("asked_state", none) "asked_state" "asked_state" s_asked_state, dd_ ("moves", none) "moves" "moves" s_moves, dd_ ("moved", none) "moved" "moved" s_moved, dd_ ("_law_cell_at", none) "_law_cell_at" "_law_cell_at" s__law_cell_at, dd_ ("_law_whole", none) "_law_whole" "_law_whole" s__law_whole, dd_ ("_law_numbers_like", none) "_law_numbers_like" "_law_numbers_like" s__law_numbers_like, dd_ ("_law_state_by", none) "_law_state_by" "_law_state_by" s__law_state_by, dd_ ("_law_free", none) "_law_free" "_law_free" s__law_free, dd_ ("_law_other", none) "_law_other" "_law_other" s__law_other, dd_ ("_law_told", none) "_law_told" "_law_told" s__law_told, dd_ ("_law_state_like", none) "_law_state_like" "_law_state_like" s__law_state_like, dd_ ("law", none) "law" "law" s_law]
def fn : List He.DefD := fn0
def fa0 : List He.Fa := [.free "ValueError", .free "bool", .free "enumerate", .free "int", .free "isinstance", .free "len", .free "list", .free "range", .free "zip", .glo "ChangeError", .glo "NoListing", .glo "NoThing", .glo "NoNumber", .glo "NoState", .glo "NoMove", .glo "TooFar", .glo "asked_state", .glo "moves", .glo "moved", .glo "_law_cell_at", .glo "_law_whole", .glo "_law_numbers_like", .glo "_law_state_by", .glo "_law_free", .glo "_law_other", .glo "_law_told", .glo "_law_state_like", .glo "law", .int "MOST_RINGS" 40, .exc "ChangeError"]
def fa1 : List He.Fa := [.exc "NoListing", .exc "NoThing", .exc "NoNumber", .exc "NoState", .exc "NoMove", .exc "TooFar"]
def fa : List He.Fa := fa0 ++ fa1
def loose0 : List Str := ["ChangeError", "NoListing", "NoThing", "NoNumber", "NoState", "NoMove", "TooFar", "MOST_RINGS", "asked_state", "moves", "moved", "_law_cell_at", "_law_whole", "_law_numbers_like", "_law_state_by", "_law_free", "_law_other", "_law_told", "_law_state_like"]
def loose : List Str := loose0
abbrev RR : PySem.W.OpenRow := PySem.W.OpenLaw.row PySem.Challenge.rw_onechange_k09_rings_moved
def xl0 : List (PySem.W.Frag → Bool) := [excKB 0, excKB 1, excKB 2, excKB 3, excKB 4, excKB 5]
def xl : List (PySem.W.Frag → Bool) := xl0
theorem txt_of {K : PySem.W.Frag} {h : Heap} {mg : Str → Option Value} (X : K.In h) (G : h.Ns mainGlobals mg) (c : He.SaysD fa fn K)(x : (xl.all fun f => f K) = true) : Txt K mg := ⟨excK_ok (xok x 0 (f := excKB 0) rfl),
  excK_ok (xok x 1 (f := excKB 1) rfl),
  excK_ok (xok x 2 (f := excKB 2) rfl),
  excK_ok (xok x 3 (f := excKB 3) rfl),
  excK_ok (xok x 4 (f := excKB 4) rfl),
  excK_ok (xok x 5 (f := excKB 5) rfl),
  He.free_ok X G (c.fact 0 (f := .free "ValueError") rfl),
  He.free_ok X G (c.fact 1 (f := .free "bool") rfl),
  He.free_ok X G (c.fact 2 (f := .free "enumerate") rfl),
  He.free_ok X G (c.fact 3 (f := .free "int") rfl),
  He.free_ok X G (c.fact 4 (f := .free "isinstance") rfl),
  He.free_ok X G (c.fact 5 (f := .free "len") rfl),
  He.free_ok X G (c.fact 6 (f := .free "list") rfl),
  He.free_ok X G (c.fact 7 (f := .free "range") rfl),
  He.free_ok X G (c.fact 8 (f := .free "zip") rfl),
  He.glo_ok X G (c.fact 9 (f := .glo "ChangeError") rfl),
  He.glo_ok X G (c.fact 10 (f := .glo "NoListing") rfl),
  He.glo_ok X G (c.fact 11 (f := .glo "NoThing") rfl),
  He.glo_ok X G (c.fact 12 (f := .glo "NoNumber") rfl),
  He.glo_ok X G (c.fact 13 (f := .glo "NoState") rfl),
  He.glo_ok X G (c.fact 14 (f := .glo "NoMove") rfl),
  He.glo_ok X G (c.fact 15 (f := .glo "TooFar") rfl),
  He.glo_ok X G (c.fact 16 (f := .glo "asked_state") rfl),
  He.glo_ok X G (c.fact 17 (f := .glo "moves") rfl),
  He.glo_ok X G (c.fact 18 (f := .glo "moved") rfl),
  He.glo_ok X G (c.fact 19 (f := .glo "_law_cell_at") rfl),
  He.glo_ok X G (c.fact 20 (f := .glo "_law_whole") rfl),
  He.glo_ok X G (c.fact 21 (f := .glo "_law_numbers_like") rfl),
  He.glo_ok X G (c.fact 22 (f := .glo "_law_state_by") rfl),
  He.glo_ok X G (c.fact 23 (f := .glo "_law_free") rfl),
  He.glo_ok X G (c.fact 24 (f := .glo "_law_other") rfl),
  He.glo_ok X G (c.fact 25 (f := .glo "_law_told") rfl),
  He.glo_ok X G (c.fact 26 (f := .glo "_law_state_like") rfl),
  He.glo_ok X G (c.fact 27 (f := .glo "law") rfl),
  He.int_ok X G (c.fact 28 (f := .int "MOST_RINGS" 40) rfl),
  He.exc_ok (c.fact 29 (f := .exc "ChangeError") rfl),
  He.exc_ok (c.fact 30 (f := .exc "NoListing") rfl),
  He.exc_ok (c.fact 31 (f := .exc "NoThing") rfl),
  He.exc_ok (c.fact 32 (f := .exc "NoNumber") rfl),
  He.exc_ok (c.fact 33 (f := .exc "NoState") rfl),
  He.exc_ok (c.fact 34 (f := .exc "NoMove") rfl),
  He.exc_ok (c.fact 35 (f := .exc "TooFar") rfl),
  c.def_ 0 (d := dd_ ("asked_state", none) "asked_state" "asked_state" s_asked_state) rfl,
  c.def_ 1 (d := dd_ ("moves", none) "moves" "moves" s_moves) rfl,
  c.def_ 2 (d := dd_ ("moved", none) "moved" "moved" s_moved) rfl,
  c.def_ 3 (d := dd_ ("_law_cell_at", none) "_law_cell_at" "_law_cell_at" s__law_cell_at) rfl,
  c.def_ 4 (d := dd_ ("_law_whole", none) "_law_whole" "_law_whole" s__law_whole) rfl,
  c.def_ 5 (d := dd_ ("_law_numbers_like", none) "_law_numbers_like" "_law_numbers_like" s__law_numbers_like) rfl,
  c.def_ 6 (d := dd_ ("_law_state_by", none) "_law_state_by" "_law_state_by" s__law_state_by) rfl,
  c.def_ 7 (d := dd_ ("_law_free", none) "_law_free" "_law_free" s__law_free) rfl,
  c.def_ 8 (d := dd_ ("_law_other", none) "_law_other" "_law_other" s__law_other) rfl,
  c.def_ 9 (d := dd_ ("_law_told", none) "_law_told" "_law_told" s__law_told) rfl,
  c.def_ 10 (d := dd_ ("_law_state_like", none) "_law_state_like" "_law_state_like" s__law_state_like) rfl,
  c.def_ 11 (d := dd_ ("law", none) "law" "law" s_law) rfl⟩
def xB (K : PySem.W.Frag) : Bool := xl.all fun f => f K
def hk : PySem.W.Hook where
  α := He.AlD × Bool
  obs := fun s => (He.obsDG 5 fa fn s.heap.get?, xB (He.frG s.heap.get? (He.asD s.heap.get? 5)))
  val := fun _ => (He.valD fn, true)
  says := fun _ h => ∃ K : PySem.W.Frag, K.In h ∧ He.SaysD fa fn K ∧ xB K = true
  of := fun _ _ e => ⟨_, He.frG_in, congrArg Prod.fst e, congrArg Prod.snd e⟩
  keeps := fun _ _ _ ⟨K, hK, c⟩ k => ⟨K, PySem.W.Frag.In.keeps hK k, c⟩
def ob (s : PySem.W.SharedT) : He.AlD × Bool := (He.obsDG 5 fa fn (HandSHeadRun.getT s), xB (He.frG (HandSHeadRun.getT s) (He.asD (HandSHeadRun.getT s) 5)))
theorem ob_eq (s : PySem.W.SharedT) : ob s = hk.obs s.abs := by
  have e : HandSHeadRun.getT s = s.abs.heap.get? := funext (HandSHeadRun.getT_eq s)
  show (He.obsDG 5 fa fn (HandSHeadRun.getT s), xB (He.frG (HandSHeadRun.getT s) (He.asD (HandSHeadRun.getT s) 5))) = (He.obsDG 5 fa fn s.abs.heap.get?, xB (He.frG s.abs.heap.get? (He.asD s.abs.heap.get? 5)))
  rw [e]
theorem run (w : World) : HandSHeadRun.RunEq RR (PySem.W.view RR.prog [22]) hk ob 60000 loose w := by
  intro os
  kernel_rfl
theorem facts {P : Program} {w : World} {K : PySem.W.Frag} {h : Heap} {mg : Str → Option Value} {f : Addr} (X : K.In h) (G : h.Ns mainGlobals mg) (hfa : mg ("law" : Str) = some (.ref f)) (c : He.SaysD fa fn K) (x : xB K = true) :
    ∃ fd : FuncData, (∀ (s : Shared) (v : Value), BindsTo s fd ⟨[v], []⟩ [("script", v)]) ∧ ∀ base : Heap, K.In base → base.Ns mainGlobals mg → FnOk P w K mg base CX0 6 f fd ["script"] (spLaw K) := by
  have T := txt_of X G c x
  obtain ⟨fd, F⟩ := T.d_law
  have e := hfa.symm.trans T.g_law
  cases e
  have b := FunD.bindsA (ps := ["script"]) F fun _ _ _ _ _ _ us hl => match us, hl with | [_], _ => rfl
  exact ⟨fd, fun s v => b s [v] rfl, fun base _ _ => fn_calm (ok_law T F) fun _ _ _ _ h => h⟩
end Oc
open PySem PySem.W PySem.Calls PyProof.Rows
theorem PySem.Challenge.cw_onechange_k09_rings_moved_holds : PySem.Challenge.rw_onechange_k09_rings_moved.Holds := by
  w_on; o_law
  refine HandSHeadRun.head_any (r := OpenLaw.row PySem.Challenge.rw_onechange_k09_rings_moved) (q := view (OpenLaw.row PySem.Challenge.rw_onechange_k09_rings_moved).prog [22]) (H := Oc.hk) (ob := Oc.ob) (M := 60000) (loose := Oc.loose)
    (d := HandSHeadRun.topDef (OpenLaw.row PySem.Challenge.rw_onechange_k09_rings_moved).prog 22) (kwd := []) Oc.ob_eq (by kernel_rfl) (fun s => by kernel_rfl) Oc.run (by kernel_rfl) (by kernel_rfl) (by kernel_rfl) (by rfl) (by first | assumption | decide +kernel) (by decide +kernel) ⟨rfl, rfl, rfl, rfl, rfl, by decide +kernel⟩ ?hw ?hc
  case hw => w_witness2
  case hc =>
    refine L2.walk_ofE (l := PySem.Challenge.rw_onechange_k09_rings_moved) (n := 63) (k := 6) (x := "script") (CX := L2.CX0) rfl (by decide) (by kernel_rfl) ⟨rfl, by decide, by decide⟩ ?F (fun _ _ _ _ z => z)
    intro w mg fa h Y G hmg0
    obtain ⟨K, KX, c, x⟩ := Y
    have hmg : mg ("law" : PySem.Str) = some (.ref fa) := by
      have e : (HandSHeadRun.topDef (OpenLaw.row PySem.Challenge.rw_onechange_k09_rings_moved).prog 22).name = ("law" : PySem.Str) := by kernel_rfl
      rw [← e]
      exact hmg0
    obtain ⟨fd, hb, hF⟩ := Oc.facts (P := (PySem.Challenge.rw_onechange_k09_rings_moved).prog) (w := w) KX G hmg c x
    exact ⟨K, fd, Oc.spLaw K, KX, hb, fun H a ns hl _ hS => ⟨a, ns, rfl, hS, hl, fun _ => rfl⟩, hF⟩
