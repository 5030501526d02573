import PyProof.Rows.All
import Wide.All
import OpenK.AllK
import Wide.FinOn
import KE.KStateDown
import HandS.ForMost
import HandS.ForExc
import HandS.Evl
import HandS.Defaults
import HandS.IsInst
import HandS.Conv
import HandS.Style
import HandS.Wide
import HandS.Rev
import HandS.Zip
import HandS.More
import HandS.Head0
import HandS.Head1
import HandS.Head2
import HandS.HeadEnd
import HandS.HeadHook1
import HandS.HeadHook2
import PySem.Challenge.RW_onechange_k08_changed
set_option Elab.async false
set_option linter.all false
set_option maxRecDepth 100000
set_option maxHeartbeats 4000000
/-! Switches: the plain law. -/
namespace Oc
/-! ### powers of two, bits -/
def p2 : Nat → Int
  | 0 => 1
  | n + 1 => 2 * p2 n
theorem p2_pos : ∀ n, 0 < p2 n
  | 0 => by decide
  | n + 1 => by have := p2_pos n; show 0 < 2 * p2 n; omega
theorem p2_succ (n : Nat) : p2 (n + 1) = 2 * p2 n := rfl
theorem p2_le {n m : Nat} (h : n ≤ m) : p2 n ≤ p2 m := by
  induction m with
  | zero => have e : n = 0 := by omega
            rw [e]; exact Int.le_refl _
  | succ k ih =>
    by_cases e : n = k + 1
    · rw [e]; exact Int.le_refl _
    · have h1 := ih (by omega)
      have h2 := p2_pos k
      rw [p2_succ]; omega
theorem p2_40 : p2 40 = 1099511627776 := by decide +kernel
/-- the figures of x, the least one first -/
def bitsF : Nat → Int → List Int
  | 0, _ => []
  | n + 1, x => x % 2 :: bitsF n (x / 2)
theorem bitsF_len : ∀ n x, (bitsF n x).length = n
  | 0, _ => rfl
  | n + 1, x => by show (bitsF n (x / 2)).length + 1 = n + 1; rw [bitsF_len n]
/-- neighbours' sums -/
def grayF : List Int → List Int
  | [] => []
  | b :: r => (b + r.headD 0) % 2 :: grayF r
theorem grayF_len : ∀ l, (grayF l).length = l.length
  | [] => rfl
  | _ :: r => by show (grayF r).length + 1 = r.length + 1; rw [grayF_len r]
def swPut (n : Nat) (x : Int) : List Int := grayF (bitsF n x)
theorem swPut_len (n : Nat) (x : Int) : (swPut n x).length = n := by unfold swPut; rw [grayF_len, bitsF_len]
theorem swPut_zero (x : Int) : swPut 0 x = [] := rfl
theorem swPut_one (x : Int) : swPut 1 x = [x % 2] := by
  show [(x % 2 + 0) % 2] = [x % 2]
  rw [show (x % 2 + 0) % 2 = x % 2 by omega]
theorem swPut_succ (n : Nat) (x : Int) : swPut (n + 2) x = (x % 2 + x / 2 % 2) % 2 :: swPut (n + 1) (x / 2) := rfl
/-- a list of figures -/
def Bits (l : List Int) : Prop := ∀ v ∈ l, v = 0 ∨ v = 1
theorem Bits.nil : Bits [] := fun v h => nomatch h
theorem Bits.cons {b : Int} {l : List Int} (h : b = 0 ∨ b = 1) (t : Bits l) : Bits (b :: l) := fun v hv => by
  rcases List.mem_cons.mp hv with e | hv
  · rw [e]; exact h
  · exact t v hv
theorem Bits.tail {b : Int} {l : List Int} (h : Bits (b :: l)) : Bits l := fun v hv => h v (List.mem_cons_of_mem _ hv)
theorem Bits.head {b : Int} {l : List Int} (h : Bits (b :: l)) : b = 0 ∨ b = 1 := h b List.mem_cons_self
theorem Bits.hd0 : ∀ {l : List Int}, Bits l → l.headD 0 = 0 ∨ l.headD 0 = 1
  | [], _ => .inl rfl
  | _ :: _, h => h.head
theorem bitsF_bits : ∀ n x, Bits (bitsF n x)
  | 0, _ => Bits.nil
  | n + 1, x => Bits.cons (by omega) (bitsF_bits n (x / 2))
theorem grayF_bits : ∀ l, Bits (grayF l)
  | [] => Bits.nil
  | b :: r => Bits.cons (by omega) (grayF_bits r)
theorem swPut_bits (n : Nat) (x : Int) : Bits (swPut n x) := grayF_bits _
/-! ### back -/
def ungray : List Int → List Int
  | [] => []
  | t :: r => ((ungray r).headD 0 + t) % 2 :: ungray r
theorem ungray_len : ∀ l, (ungray l).length = l.length
  | [] => rfl
  | _ :: r => by show (ungray r).length + 1 = r.length + 1; rw [ungray_len r]
theorem ungray_bits : ∀ l, Bits (ungray l)
  | [] => Bits.nil
  | t :: r => Bits.cons (by omega) (ungray_bits r)
theorem ungray_gray : ∀ l, Bits l → ungray (grayF l) = l
  | [], _ => rfl
  | b :: r, h => by
    show ((ungray (grayF r)).headD 0 + (b + r.headD 0) % 2) % 2 :: ungray (grayF r) = b :: r
    rw [ungray_gray r h.tail]
    have h1 := h.head
    have h2 := h.tail.hd0
    rw [show (r.headD 0 + (b + r.headD 0) % 2) % 2 = b by omega]
theorem gray_ungray : ∀ l, Bits l → grayF (ungray l) = l
  | [], _ => rfl
  | t :: r, h => by
    show (((ungray r).headD 0 + t) % 2 + (ungray r).headD 0) % 2 :: grayF (ungray r) = t :: r
    rw [gray_ungray r h.tail]
    have h1 := h.head
    have h2 := (ungray_bits r).hd0
    rw [show (((ungray r).headD 0 + t) % 2 + (ungray r).headD 0) % 2 = t by omega]
def valF : List Int → Int
  | [] => 0
  | b :: r => 2 * valF r + b
theorem valF_bits : ∀ n x, 0 ≤ x → x < p2 n → valF (bitsF n x) = x
  | 0, x, h0, h1 => by have h2 : x < 1 := h1
                       show (0 : Int) = x
                       omega
  | n + 1, x, h0, h1 => by
    rw [p2_succ] at h1
    show 2 * valF (bitsF n (x / 2)) + x % 2 = x
    rw [valF_bits n (x / 2) (by omega) (by omega)]
    omega
theorem valF_range : ∀ l, Bits l → 0 ≤ valF l ∧ valF l < p2 l.length
  | [], _ => ⟨Int.le_refl _, by decide⟩
  | b :: r, h => by
    obtain ⟨h1, h2⟩ := valF_range r h.tail
    have h3 := h.head
    show 0 ≤ 2 * valF r + b ∧ 2 * valF r + b < 2 * p2 r.length
    omega
theorem bits_valF : ∀ l, Bits l → bitsF l.length (valF l) = l
  | [], _ => rfl
  | b :: r, h => by
    have h3 := h.head
    show (2 * valF r + b) % 2 :: bitsF r.length ((2 * valF r + b) / 2) = b :: r
    rw [show (2 * valF r + b) / 2 = valF r by omega, show (2 * valF r + b) % 2 = b by omega, bits_valF r h.tail]
def swFound (t : List Int) : Int := valF (ungray t)
theorem swFound_range (t : List Int) : 0 ≤ swFound t ∧ swFound t < p2 t.length := by
  have h := valF_range (ungray t) (ungray_bits t)
  rw [ungray_len] at h
  exact h
theorem swFound_put {n : Nat} {x : Int} (h0 : 0 ≤ x) (h1 : x < p2 n) : swFound (swPut n x) = x := by
  unfold swFound swPut
  rw [ungray_gray _ (bitsF_bits n x), valF_bits n x h0 h1]
theorem swPut_found {t : List Int} (h : Bits t) : swPut t.length (swFound t) = t := by
  unfold swFound swPut
  have e := bits_valF (ungray t) (ungray_bits t)
  rw [ungray_len] at e
  rw [e, gray_ungray t h]
/-! ### the place that changes -/
/-- how many ones stand at the end, at most n - 1 -/
def chg : Nat → Int → Nat
  | 0, _ => 0
  | 1, _ => 0
  | n + 2, x => if x % 2 = 1 then chg (n + 1) (x / 2) + 1 else 0
theorem chg_lt : ∀ n x, chg (n + 1) x < n + 1
  | 0, _ => by show 0 < 1; decide
  | n + 1, x => by
    show (if x % 2 = 1 then chg (n + 1) (x / 2) + 1 else 0) < n + 2
    split
    · have := chg_lt n (x / 2); omega
    · omega
/-- b is a with the place j otherwise -/
def flip : List Int → Nat → List Int
  | [], _ => []
  | b :: r, 0 => (1 - b) :: r
  | b :: r, j + 1 => b :: flip r j
theorem flip_len : ∀ l j, (flip l j).length = l.length
  | [], _ => rfl
  | _ :: _, 0 => rfl
  | _ :: r, j + 1 => by show (flip r j).length + 1 = r.length + 1; rw [flip_len r j]
theorem flip_flip : ∀ l j, flip (flip l j) j = l
  | [], _ => rfl
  | b :: r, 0 => by show (1 - (1 - b)) :: r = b :: r
                    rw [show 1 - (1 - b) = b by omega]
  | b :: r, j + 1 => by show b :: flip (flip r j) j = b :: r
                        rw [flip_flip r j]
theorem flip_bits : ∀ l j, Bits l → Bits (flip l j)
  | [], _, h => h
  | b :: r, 0, h => Bits.cons (by have := h.head; omega) h.tail
  | b :: r, j + 1, h => Bits.cons h.head (flip_bits r j h.tail)
theorem flip_get : ∀ l j k, (flip l j)[k]? = if k = j then l[k]?.map (1 - ·) else l[k]?
  | [], j, k => by simp [flip]
  | b :: r, 0, 0 => by simp [flip]
  | b :: r, 0, k + 1 => by simp [flip]
  | b :: r, j + 1, 0 => by simp [flip]
  | b :: r, j + 1, k + 1 => by
    show (flip r j)[k]? = _
    rw [flip_get r j k]
    simp
theorem next_odd {n : Nat} {x : Int} (h0 : 0 ≤ x) (h1 : x < p2 (n + 1)) (ho : x % 2 = 1) : (x + 1) % p2 (n + 1) % 2 = 0 ∧ (x + 1) % p2 (n + 1) / 2 = (x / 2 + 1) % p2 n := by
  rw [p2_succ] at h1 ⊢
  have hp := p2_pos n
  by_cases h : x + 1 < 2 * p2 n
  · rw [Int.emod_eq_of_lt (by omega) h, Int.emod_eq_of_lt (b := p2 n) (by omega) (by omega)]
    omega
  · have e : x + 1 = 2 * p2 n := by omega
    have e2 : x / 2 + 1 = p2 n := by omega
    rw [e, e2, Int.emod_self, Int.emod_self]
    decide
/-- THE LAW of the change: the thing of the next number is that of the number, with the place chg otherwise -/
theorem swPut_next : ∀ (n : Nat) (x : Int), 0 ≤ x → x < p2 (n + 1) → swPut (n + 1) ((x + 1) % p2 (n + 1)) = flip (swPut (n + 1) x) (chg (n + 1) x)
  | 0, x, h0, h1 => by
    have h2 : x < 2 := h1
    rw [swPut_one, swPut_one]
    show [(x + 1) % 2 % 2] = [1 - x % 2]
    rw [show (x + 1) % 2 % 2 = 1 - x % 2 by omega]
  | n + 1, x, h0, h1 => by
    by_cases ho : x % 2 = 1
    · obtain ⟨a, b⟩ := next_odd h0 h1 ho
      have h1' := h1
      rw [p2_succ] at h1'
      have ih := swPut_next n (x / 2) (by omega) (by omega)
      rw [swPut_succ, swPut_succ, a, b, ih]
      show _ = flip (_ :: _) (if x % 2 = 1 then chg (n + 1) (x / 2) + 1 else 0)
      rw [if_pos ho]
      show _ = _ :: flip _ _
      have e : (x / 2 + 1) % p2 (n + 1) % 2 = (x / 2 + 1) % 2 := by
        exact Int.emod_emod_of_dvd _ ⟨p2 n, rfl⟩
      rw [e, show (0 + (x / 2 + 1) % 2) % 2 = (x % 2 + x / 2 % 2) % 2 by omega]
    · have hp := p2_pos n
      have h1' := h1
      rw [p2_succ, p2_succ] at h1'
      have e : (x + 1) % p2 (n + 2) = x + 1 := Int.emod_eq_of_lt (by omega) (by rw [p2_succ, p2_succ]; omega)
      rw [show n + 1 + 1 = n + 2 from rfl, e, swPut_succ, swPut_succ]
      show _ = flip (_ :: _) (if x % 2 = 1 then chg (n + 1) (x / 2) + 1 else 0)
      rw [if_neg ho]
      show _ = (1 - _) :: _
      rw [show (x + 1) / 2 = x / 2 by omega, show ((x + 1) % 2 + x / 2 % 2) % 2 = 1 - (x % 2 + x / 2 % 2) % 2 by omega]
/-! ### by the last switch -/
theorem swPut_low : ∀ (n : Nat) (x : Int), 0 ≤ x → x < p2 n → swPut (n + 1) x = swPut n x ++ [0]
  | 0, x, h0, h1 => by
    have h2 : x < 1 := h1
    rw [swPut_one, swPut_zero, show x = 0 by omega]
    rfl
  | 1, x, h0, h1 => by
    have h2 : x < 2 := h1
    rw [swPut_succ, swPut_one, swPut_one, show x / 2 = 0 by omega, show (x % 2 + 0 % 2) % 2 = x % 2 by omega]
    rfl
  | n + 2, x, h0, h1 => by
    rw [p2_succ] at h1
    rw [swPut_succ (n + 1), swPut_low (n + 1) (x / 2) (by omega) (by omega), swPut_succ n]
    rfl
theorem swPut_high : ∀ (n : Nat) (x : Int), p2 n ≤ x → x < p2 (n + 1) → swPut (n + 1) x = swPut n (p2 (n + 1) - 1 - x) ++ [1]
  | 0, x, h0, h1 => by
    have h2 : x < 2 := h1
    have h3 : 1 ≤ x := h0
    rw [swPut_one, swPut_zero, show x = 1 by omega]
    rfl
  | 1, x, h0, h1 => by
    have h2 : x < 4 := h1
    have h3 : 2 ≤ x := h0
    rw [show p2 (1 + 1) = 4 from rfl, swPut_succ, swPut_one, swPut_one, show x / 2 = 1 by omega, show (x % 2 + 1 % 2) % 2 = (4 - 1 - x) % 2 by omega]
    rfl
  | n + 2, x, h0, h1 => by
    have e : p2 (n + 2 + 1) = 2 * p2 (n + 2) := p2_succ (n + 2)
    have e2 : p2 (n + 2) = 2 * p2 (n + 1) := p2_succ (n + 1)
    have e3 : p2 (n + 1 + 1) = p2 (n + 2) := rfl
    rw [swPut_succ (n + 1), swPut_high (n + 1) (x / 2) (by omega) (by omega), swPut_succ n]
    rw [show (p2 (n + 2 + 1) - 1 - x) / 2 = p2 (n + 1 + 1) - 1 - x / 2 by omega,
      show ((p2 (n + 2 + 1) - 1 - x) % 2 + (p2 (n + 1 + 1) - 1 - x / 2) % 2) % 2 = (x % 2 + x / 2 % 2) % 2 by omega]
    rfl
/-! ### all on, all off, the last one alone -/
theorem hd_ones : ∀ n : Nat, (ungray (List.replicate n 1)).headD 0 = (n : Int) % 2
  | 0 => rfl
  | n + 1 => by
    show ((ungray (List.replicate n 1)).headD 0 + 1) % 2 = ((n + 1 : Nat) : Int) % 2
    rw [hd_ones n]
    omega
theorem sw_ones : ∀ n : Nat, 3 * swFound (List.replicate n 1) = 2 * p2 n - 1 - (if (n : Int) % 2 = 0 then 1 else 0)
  | 0 => rfl
  | n + 1 => by
    have ih := sw_ones n
    have h := hd_ones n
    show 3 * (2 * swFound (List.replicate n 1) + ((ungray (List.replicate n 1)).headD 0 + 1) % 2) = 2 * (2 * p2 n) - 1 - _
    rw [h]
    by_cases e : (n : Int) % 2 = 0
    · rw [if_pos e] at ih
      rw [if_neg (by omega)]
      omega
    · rw [if_neg e] at ih
      rw [if_pos (by omega)]
      omega
theorem hd_zeros : ∀ n : Nat, (ungray (List.replicate n 0)).headD 0 = 0
  | 0 => rfl
  | n + 1 => by
    show ((ungray (List.replicate n 0)).headD 0 + 0) % 2 = 0
    rw [hd_zeros n]
    rfl
theorem sw_zeros : ∀ n : Nat, swFound (List.replicate n 0) = 0
  | 0 => rfl
  | n + 1 => by
    show 2 * swFound (List.replicate n 0) + ((ungray (List.replicate n 0)).headD 0 + 0) % 2 = 0
    rw [sw_zeros n, hd_zeros n]
    rfl
theorem hd_last : ∀ n : Nat, (ungray (List.replicate n 0 ++ [1])).headD 0 = 1
  | 0 => rfl
  | n + 1 => by
    show ((ungray (List.replicate n 0 ++ [1])).headD 0 + 0) % 2 = 1
    rw [hd_last n]
    rfl
theorem sw_last : ∀ n : Nat, swFound (List.replicate n 0 ++ [1]) = p2 (n + 1) - 1
  | 0 => rfl
  | n + 1 => by
    show 2 * swFound (List.replicate n 0 ++ [1]) + ((ungray (List.replicate n 0 ++ [1])).headD 0 + 0) % 2 = 2 * p2 (n + 1) - 1
    rw [sw_last n, hd_last n]
    omega
end Oc
namespace Oc
open PySem PySem.Spec PyProof.Rows L2 Evl
abbrev Stt := L2.St
/-! ### where a def stands, its promise -/
abbrev aG (K : PySem.W.Frag) (x : Str) : Addr := He.ga K x
abbrev aM (K : PySem.W.Frag) (c m : Str) : Addr := He.ma K (He.ga K c) m
/-- the def at f keeps sp -/
def Pr (P : Program) (w : World) (K : PySem.W.Frag) (mg : Str → Option Value) (base : Heap) (k : Nat) (f : Addr) (ps : List Str) (sp : Sp) : Prop :=
  ∃ fd : FuncData, FnOk P w K mg base (L2.CX P w) k f fd ps sp ∧ Binds K fd ps [] ∧ PySem.W.keepIn K (.ref f) = true
/-- the def of the statement st stands at f -/
abbrev Df (K : PySem.W.Frag) (x qual : Str) (st : Stmt) (f : Addr) : Prop := ∃ fd : FuncData, FunD K x qual (defArgs st) (defBody st) (defScope st) [] [] f fd
/-- how its parameters are bound -/
abbrev Bd (x qual : Str) (st : Stmt) (ps : List Str) : Prop := ∀ (kV doc pm : Value) (an : Option Addr) (cdv ct : Value) (us : List Value), us.length = ps.length →
  bindArgs (PySem.W.fnOf x qual (defArgs st) (defBody st) (defScope st) .none kV doc pm an cdv ct) ⟨us, []⟩ = pure (ps.zip us)
section
variable {P : Program} {w : World} {K : PySem.W.Frag} {mg : Str → Option Value} {base : Heap}
theorem pr_mk {x qual : Str} {st : Stmt} {f : Addr} {N ps : List Str} {k : Nat} {sp : Sp} (D : Df K x qual st f) (S : FnScope N ps (defScope st)) (hb : Bd x qual st ps) (len : ∀ vs H Q E, sp vs H Q E → vs.length = ps.length)
    (body : ∀ (cdv : Value) (A : Around) (outer : List Env) (s : Shared) (H : Hp) (vs : List V) (Q : VK) (E : XK), Room k (A.deeper (envOfC qual (defScope st) s.heap.objs.size f cdv)) → sp vs H Q E →
      ∃ t, PSs (cxOf (L2.CX P w) P w K mg base N qual (defScope st) f cdv A outer s H E) (defBody st) t ∧ t { nx := fun _ H' => Q .non H', rt := Q } (start N vs) H) : Pr P w K mg base (k + 1) f ps sp := by
  obtain ⟨fd, F⟩ := D
  exact ⟨fd, F.ok S len body, F.bindsN hb, F.kp⟩
/-- nothing is raised -/
theorem pr_mk0 {x qual : Str} {st : Stmt} {f : Addr} {N ps : List Str} {k : Nat} {sp : Sp} (D : Df K x qual st f) (S : FnScope N ps (defScope st)) (hb : Bd x qual st ps) (len : ∀ vs H Q E, sp vs H Q E → vs.length = ps.length)
    (body : ∀ (cdv : Value) (A : Around) (outer : List Env) (s : Shared) (H : Hp) (vs : List V) (Q : VK) (E : XK), Room k (A.deeper (envOfC qual (defScope st) s.heap.objs.size f cdv)) → sp vs H Q E →
      ∃ t, PSs (cxOf (L2.CX P w) P w K mg base N qual (defScope st) f cdv A outer s H E).nox (defBody st) t ∧ t { nx := fun _ H' => Q .non H', rt := Q } (start N vs) H) : Pr P w K mg base (k + 1) f ps sp :=
  pr_mk D S hb len fun cdv A outer s H vs Q E hr h => by
    obtain ⟨t, p, q⟩ := body cdv A outer s H vs Q E hr h
    exact ⟨t, p.nox, q⟩
theorem Pr.mono {j k : Nat} {f : Addr} {ps : List Str} {sp : Sp} (p : Pr P w K mg base j f ps sp) (h : j ≤ k) : Pr P w K mg base k f ps sp := by
  obtain ⟨fd, G, b, kp⟩ := p
  exact ⟨fd, G.mono h, b, kp⟩
theorem Pr.imp {k : Nat} {f : Addr} {ps : List Str} {sp sp' : Sp} (p : Pr P w K mg base k f ps sp) (h : ∀ vs H Q E, sp' vs H Q E → sp vs H Q E) : Pr P w K mg base k f ps sp' := by
  obtain ⟨fd, G, b, kp⟩ := p
  exact ⟨fd, G.imp h, b, kp⟩
end
theorem cx_none {P : Program} {w : World} {outer : List Env} {H : Hp} {s : Shared} {e : Value} {s' : Shared} (h : L2.CX P w outer H s E0 e s') : False := by
  obtain ⟨_, _, _, _, _, _, _, _, _, _, _, _, z⟩ := h
  exact z.elim
section
variable {P : Program} {w : World} {K : PySem.W.Frag} {mg : Str → Option Value} {base : Heap}
/-- a def that lets nothing out -/
theorem fn_calm {k : Nat} {f : Addr} {fd : FuncData} {ps : List Str} {sp : Sp} (F : FnOk P w K mg base (L2.CX P w) k f fd ps sp) (h : ∀ vs H Q E, sp vs H Q E → sp vs H Q E0) : FnOk P w K mg base CX0 k f fd ps sp :=
  ⟨F.len, fun A outer s H args us vs Q E hr he hb hv hs => codeAny_mono (F.run A outer s H args us vs Q E0 hr he hb hv (h _ _ _ _ hs)) fun r s' hq => by
    cases r with
    | error e => exact (cx_none hq).elim
    | ok fl => cases fl <;> exact hq⟩
theorem fn_mk0 {x qual : Str} {st : Stmt} {f : Addr} {fd : FuncData} {N ps : List Str} {k : Nat} {sp : Sp} (F : FunD K x qual (defArgs st) (defBody st) (defScope st) [] [] f fd) (S : FnScope N ps (defScope st)) (len : ∀ vs H Q E, sp vs H Q E → vs.length = ps.length)
    (body : ∀ (cdv : Value) (A : Around) (outer : List Env) (s : Shared) (H : Hp) (vs : List V) (Q : VK) (E : XK), Room k (A.deeper (envOfC qual (defScope st) s.heap.objs.size f cdv)) → sp vs H Q E →
      ∃ t, PSs (cxOf (L2.CX P w) P w K mg base N qual (defScope st) f cdv A outer s H E).nox (defBody st) t ∧ t { nx := fun _ H' => Q .non H', rt := Q } (start N vs) H) : FnOk P w K mg base (L2.CX P w) (k + 1) f fd ps sp :=
  F.ok S len fun cdv A outer s H vs Q E hr h => by
    obtain ⟨t, p, q⟩ := body cdv A outer s H vs Q E hr h
    exact ⟨t, p.nox, q⟩
/-- what the law promises -/
def spLaw (K : PySem.W.Frag) : Sp := fun vs H Q _ => ∃ (a : Addr) (ns : List Int), vs = [.ref a] ∧ SqL K H a (ns.map V.int) ∧ ns.length ≤ 63 ∧ ∀ H', Q (.bl true) H'
end
/-! ### what an expression gives: v with G -/
/-- a fresh address, if an address -/
def Frs (v : V) (H : Hp) : Prop := ∀ p, v = .ref p → H p = none
theorem Frs.int {i : Int} {H : Hp} : Frs (.int i) H := fun p e => by cases e
theorem Frs.bl {i : Bool} {H : Hp} : Frs (.bl i) H := fun p e => by cases e
theorem Frs.ref {p : Addr} {H : Hp} (h : H p = none) : Frs (.ref p) H := fun q e => by cases e; exact h
theorem Frs.back {v : V} {H H' : Hp} (e : Ex H H') (h : Frs v H') : Frs v H := fun p q => fresh_back e (h p q)
def EvX (te : TE) (σ : Stt) (H : Hp) (G : V → Hp → Prop) : Prop := ∀ H1, Ex H H1 → ∀ Q : VK, (∀ v H2, Ex H1 H2 → G v H2 → Q v H2) → te σ H1 Q
def EvN (te : TE) (σ : Stt) (H : Hp) (G : V → Hp → Prop) : Prop := ∀ H1, Ex H H1 → ∀ Q : VK, (∀ v H2, Ex H1 H2 → Frs v H1 → G v H2 → Q v H2) → te σ H1 Q
def RetX (G : V → Hp → Prop) (H : Hp) (Q : VK) : Prop := ∀ v H2, Ex H H2 → G v H2 → Q v H2
def RetN (G : V → Hp → Prop) (H : Hp) (Q : VK) : Prop := ∀ v H2, Ex H H2 → Frs v H → G v H2 → Q v H2
def SpX (sp : Sp) (vs : List V) (H : Hp) (G : V → Hp → Prop) : Prop := ∀ H1, Ex H H1 → ∀ Q : VK, (∀ v H2, Ex H1 H2 → G v H2 → Q v H2) → ∀ E : XK, sp vs H1 Q E
def SpN (sp : Sp) (vs : List V) (H : Hp) (G : V → Hp → Prop) : Prop := ∀ H1, Ex H H1 → ∀ Q : VK, (∀ v H2, Ex H1 H2 → Frs v H1 → G v H2 → Q v H2) → ∀ E : XK, sp vs H1 Q E
section
variable {K : PySem.W.Frag} {σ : Stt} {H H' : Hp} {ta tb te : TE} {t u : TT} {x y z v : V} {r : R2} {D : Ends} {tu tw tz : TS} {g : TG} {G : V → Hp → Prop} {xs : List V}
theorem RetV.ex {Q : VK} (k : RetV v H Q) (e : Ex H H') : RetV v H' Q := fun H2 e2 => k H2 (e.trans e2)
theorem RetX.ex {Q : VK} (k : RetX G H Q) (e : Ex H H') : RetX G H' Q := fun v H2 e2 g => k v H2 (e.trans e2) g
theorem RetN.ex {Q : VK} (k : RetN G H Q) (e : Ex H H') : RetN G H' Q := fun v H2 e2 f g => k v H2 (e.trans e2) (f.back e) g
theorem RetL.ex {Q : VK} (k : RetL xs H Q) (e : Ex H H') : RetL xs H' Q := fun p H2 f e2 g => k p H2 (fresh_back e f) (e.trans e2) g
/-! #### attributes, methods, instances -/
theorem ev_fld {p C dx : Addr} {fs : List (Str × V)} {f : Str} (h : Ev te σ H (.ref p)) (hi : H p = some (.ins C dx fs)) (c : Cls K C) (n : NoAttr K C f) (l : fs.lookup f = some v) : Ev (tFld K te f) σ H v := fun H1 e Q q =>
  h H1 e _ fun H2 e2 => ⟨p, C, dx, fs, v, rfl, (e.trans e2) _ _ hi, c, n, l, q H2 e2⟩
theorem ev_meth {p C dx : Addr} {fs : List (Str × V)} {m : Str} {sp : Sp} {E : XK} {ta : TA} {vs : List V} (h : Ev te σ H (.ref p)) (hi : H p = some (.ins C dx fs)) (l : fs.lookup m = none) (ha : EvA ta σ H vs) (hs : SpV sp (.ref p :: (vs ++ [])) H z) :
    Ev (tMeth C m sp [] E te ta) σ H z := fun H1 e Q q =>
  h H1 e _ fun H2 e2 => ⟨p, dx, fs, rfl, (e.trans e2) _ _ hi, l, ha H2 (e.trans e2) _ fun H3 e3 => hs H3 ((e.trans e2).trans e3) Q (fun H4 e4 => q H4 ((e2.trans e3).trans e4)) E⟩
theorem el_meth {p C dx : Addr} {fs : List (Str × V)} {m : Str} {sp : Sp} {E : XK} {ta : TA} {vs : List V} (h : Ev te σ H (.ref p)) (hi : H p = some (.ins C dx fs)) (l : fs.lookup m = none) (ha : EvA ta σ H vs) (hs : SpL sp (.ref p :: (vs ++ [])) H xs) :
    EvL (tMeth C m sp [] E te ta) σ H xs := fun H1 e Q q =>
  h H1 e _ fun H2 e2 => ⟨p, dx, fs, rfl, (e.trans e2) _ _ hi, l, ha H2 (e.trans e2) _ fun H3 e3 => hs H3 ((e.trans e2).trans e3) Q (fun r H4 f e4 h4 => q r H4 (fresh_back (e2.trans e3) f) ((e2.trans e3).trans e4) h4) E⟩
theorem en_call {sp : Sp} {E : XK} {ta : TA} {vs : List V} (h : EvA ta σ H vs) (hs : SpN sp (vs ++ []) H G) : EvN (tCall sp [] E ta) σ H G := fun H1 e Q q =>
  h H1 e _ fun H2 e2 => hs H2 (e.trans e2) Q (fun v H3 e3 f h3 => q v H3 (e2.trans e3) (f.back e2) h3) E
theorem ex_call {sp : Sp} {E : XK} {ta : TA} {vs : List V} (h : EvA ta σ H vs) (hs : SpX sp (vs ++ []) H G) : EvX (tCall sp [] E ta) σ H G := fun H1 e Q q =>
  h H1 e _ fun H2 e2 => hs H2 (e.trans e2) Q (fun v H3 e3 h3 => q v H3 (e2.trans e3) h3) E
/-- C(..): what __init__ promises of the new instance -/
def InitN (C : Addr) (sp : Sp) (vs : List V) (H : Hp) (G : V → Hp → Prop) : Prop := ∀ H1, Ex H H1 → ∀ x dx, H1 x = none → H1 dx = none → dx ≠ x → ∀ Q : VK, (∀ H2, Ex H1 H2 → G (.ref x) H2 → Q .non H2) → ∀ E : XK,
  sp (.ref x :: (vs ++ [])) (upd (upd H1 dx (.own x)) x (.ins C dx [])) Q E
theorem en_make {C : Addr} {sp : Sp} {E : XK} {ta : TA} {vs : List V} (h : EvA ta σ H vs) (hs : InitN C sp vs H G) : EvN (tMake C sp [] E ta) σ H G := fun H1 e Q q =>
  h H1 e _ fun H2 e2 x dx hx hd ne => hs H2 (e.trans e2) x dx hx hd ne _ (fun H3 e3 g3 => ⟨rfl, q (.ref x) H3 (e2.trans e3) ((Frs.ref hx).back e2) g3⟩) E
/-! #### statements -/
theorem s_asgN {i : Nat} (h : EvN te σ H G) (k : ∀ v H1, Frs v H → Ex H H1 → G v H1 → D.nx (σ.set i (some v)) H1) : tAsg te (gName i) D σ H := h H (Ex.refl H) _ fun v H1 e f g => k v H1 f e g
theorem q_asgN {i : Nat} (h : EvN te σ H G) (k : ∀ v H1, Frs v H → Ex H H1 → G v H1 → tz D (σ.set i (some v)) H1) : tSeq (tAsg te (gName i)) tz D σ H := s_asgN (D := { D with nx := tz D }) h k
theorem s_asgX {i : Nat} (h : EvX te σ H G) (k : ∀ v H1, Ex H H1 → G v H1 → D.nx (σ.set i (some v)) H1) : tAsg te (gName i) D σ H := h H (Ex.refl H) _ fun v H1 e g => k v H1 e g
theorem q_asgX {i : Nat} (h : EvX te σ H G) (k : ∀ v H1, Ex H H1 → G v H1 → tz D (σ.set i (some v)) H1) : tSeq (tAsg te (gName i)) tz D σ H := s_asgX (D := { D with nx := tz D }) h k
theorem s_retX (h : EvX te σ H G) (k : ∀ v H1, Ex H H1 → G v H1 → D.rt v H1) : tRet te D σ H := h H (Ex.refl H) _ fun v H1 e g => k v H1 e g
theorem s_retN (h : EvN te σ H G) (k : ∀ v H1, Frs v H → Ex H H1 → G v H1 → D.rt v H1) : tRet te D σ H := h H (Ex.refl H) _ fun v H1 e f g => k v H1 f e g
theorem s_retv {Q : VK} (h : Ev te σ H v) (k : RetV v H Q) (hq : D.rt = Q := by rfl) : tRet te D σ H := by
  subst hq
  exact h H (Ex.refl H) _ fun H1 e => k H1 e
theorem s_retl {Q : VK} (h : EvL te σ H xs) (k : RetL xs H Q) (hq : D.rt = Q := by rfl) : tRet te D σ H := by
  subst hq
  exact h H (Ex.refl H) _ fun p H1 f e g => k p H1 f e g
/-! #### more values -/
theorem rv_idiv {i j : Int} (h : CDiv i j) : RV (rI CDiv fun i j => .int (i / j)) (.int i) (.int j) H (.int (i / j)) := rv_I h
theorem ev_int1 {i : Int} (h : Ev te σ H (.int i)) : Ev (tCB (fun xs H Q => (∃ i, xs = [.int i] ∧ Q (.int i) H) ∨ ∃ k, xs = [.bl k] ∧ Q (.int (if k then 1 else 0)) H) (tCons te tNil)) σ H (.int i) := fun H1 e Q q =>
  h H1 e _ fun H2 e2 => .inl ⟨i, rfl, q H2 e2⟩
theorem ev_int1b {b : Bool} (h : Ev te σ H (.bl b)) : Ev (tCB (fun xs H Q => (∃ i, xs = [.int i] ∧ Q (.int i) H) ∨ ∃ k, xs = [.bl k] ∧ Q (.int (if k then 1 else 0)) H) (tCons te tNil)) σ H (.int (if b then 1 else 0)) := fun H1 e Q q =>
  h H1 e _ fun H2 e2 => .inr ⟨b, rfl, q H2 e2⟩
/-- isinstance -/
theorem ev_isi {c : V} {tv cv : Value} {b : Bool} (h : Ev ta σ H x) (hc : Ev tb σ H c) (k : ClsV c cv) (ty : ∀ H1, Ex H H1 → TyX K H1 x tv) (e : PySem.W.kitOne K tv cv = some b) : Ev (tCB (rIsi K) (tCons ta (tCons tb tNil))) σ H (.bl b) := fun H1 e1 Q q =>
  h H1 e1 _ fun H2 e2 => hc H2 (e1.trans e2) _ fun H3 e3 => ⟨x, c, tv, cv, b, rfl, k, ty H3 ((e1.trans e2).trans e3), e, q H3 (e2.trans e3)⟩
/-- xs + ys of two new lists -/
theorem el_cat {as bs : List V} (ha : EvL ta σ H as) (hb : EvL tb σ H bs) (hz : as.length + bs.length ≤ 100000) : EvL (tOp rCat ta tb) σ H (as ++ bs) := fun H1 e Q q =>
  ha H1 e _ fun p H2 f e2 hp => hb H2 (e.trans e2) _ fun p' H3 f' e3 hp' => ⟨p, p', as, bs, rfl, rfl, e3 _ _ hp, hp', sz_of hz, fun a ha' => q a _ (fresh_back (e2.trans e3) ha') ((e2.trans e3).trans (Ex.new ha')) upd_same⟩
/-- .. of one that stands -/
theorem el_catV {p : Addr} {as bs : List V} (ha : Ev ta σ H (.ref p)) (hp : H p = some (.lst as)) (hb : EvL tb σ H bs) (hz : as.length + bs.length ≤ 100000) : EvL (tOp rCat ta tb) σ H (as ++ bs) := fun H1 e Q q =>
  ha H1 e _ fun H2 e2 => hb H2 (e.trans e2) _ fun p' H3 f' e3 hp' => ⟨p, p', as, bs, rfl, rfl, ((e.trans e2).trans e3) _ _ hp, hp', sz_of hz, fun a ha' => q a _ (fresh_back (e2.trans e3) ha') ((e2.trans e3).trans (Ex.new ha')) upd_same⟩
theorem EvL.toN (h : EvL te σ H xs) : EvN te σ H (fun v H2 => ∃ p, v = .ref p ∧ H2 p = some (.lst xs)) := fun H1 e Q q => h H1 e _ fun p H2 f e2 h2 => q _ H2 e2 (Frs.ref f) ⟨p, rfl, h2⟩
theorem EvN.toX (h : EvN te σ H G) : EvX te σ H G := fun H1 e Q q => h H1 e _ fun v H2 e2 _ h2 => q v H2 e2 h2
end
/-! ### arguments, some of them new lists -/
def EvAX (ta : TA) (σ : Stt) (H : Hp) (G : List V → Hp → Prop) : Prop := ∀ H1, Ex H H1 → ∀ Q : List V → Hp → Prop, (∀ vs H2, Ex H1 H2 → G vs H2 → Q vs H2) → ta σ H1 Q
section
variable {K : PySem.W.Frag} {σ : Stt} {H : Hp} {ta : TA} {te tl : TE} {x y z v : V} {G : V → Hp → Prop} {GA : List V → Hp → Prop} {xs ys : List V} {sp : Sp} {E : XK} {tt : TT}
theorem eax_nil (h : ∀ H1, Ex H H1 → GA [] H1) : EvAX tNil σ H GA := fun H1 e Q q => q [] H1 (Ex.refl H1) (h H1 e)
theorem eax_cons (h : Ev te σ H x) (hr : EvAX ta σ H (fun vs H2 => GA (x :: vs) H2)) : EvAX (tCons te ta) σ H GA := fun H1 e Q q =>
  h H1 e _ fun H2 e2 => hr H2 (e.trans e2) _ fun vs H3 e3 g => q _ H3 (e2.trans e3) g
theorem eax_consX (h : EvX te σ H G) (hr : ∀ v H1, Ex H H1 → G v H1 → EvAX ta σ H1 (fun vs H2 => GA (v :: vs) H2)) : EvAX (tCons te ta) σ H GA := fun H1 e Q q =>
  h H1 e _ fun v H2 e2 g => hr v H2 (e.trans e2) g H2 (Ex.refl H2) _ fun vs H3 e3 g3 => q _ H3 (e2.trans e3) g3
theorem eax_consL (h : EvL te σ H xs) (hr : ∀ p H1, H p = none → Ex H H1 → H1 p = some (.lst xs) → EvAX ta σ H1 (fun vs H2 => GA (.ref p :: vs) H2)) : EvAX (tCons te ta) σ H GA := fun H1 e Q q =>
  h H1 e _ fun p H2 f e2 g => hr p H2 (fresh_back e f) (e.trans e2) g H2 (Ex.refl H2) _ fun vs H3 e3 g3 => q _ H3 (e2.trans e3) g3
theorem ev_callX (h : EvAX ta σ H (fun vs H2 => SpV sp (vs ++ []) H2 z)) : Ev (tCall sp [] E ta) σ H z := fun H1 e Q q =>
  h H1 e _ fun vs H2 e2 hs => hs H2 (Ex.refl H2) Q (fun H3 e3 => q H3 (e2.trans e3)) E
theorem el_callX (h : EvAX ta σ H (fun vs H2 => SpL sp (vs ++ []) H2 xs)) : EvL (tCall sp [] E ta) σ H xs := fun H1 e Q q =>
  h H1 e _ fun vs H2 e2 hs => hs H2 (Ex.refl H2) Q (fun p H3 f e3 g => q p H3 (fresh_back e2 f) (e2.trans e3) g) E
theorem ex_callX (h : EvAX ta σ H (fun vs H2 => SpX sp (vs ++ []) H2 G)) : EvX (tCall sp [] E ta) σ H G := fun H1 e Q q =>
  h H1 e _ fun vs H2 e2 hs => hs H2 (Ex.refl H2) Q (fun v H3 e3 g => q v H3 (e2.trans e3) g) E
theorem en_callX (h : EvAX ta σ H (fun vs H2 => SpN sp (vs ++ []) H2 G)) : EvN (tCall sp [] E ta) σ H G := fun H1 e Q q =>
  h H1 e _ fun vs H2 e2 hs => hs H2 (Ex.refl H2) Q (fun v H3 e3 f g => q v H3 (e2.trans e3) (f.back e2) g) E
theorem ev_methX {C : Addr} {m : Str} (h : EvX te σ H G) (hs : ∀ v H1, Ex H H1 → G v H1 → ∃ p dx fs, v = .ref p ∧ H1 p = some (.ins C dx fs) ∧ fs.lookup m = none ∧ EvAX ta σ H1 (fun vs H2 => SpV sp (.ref p :: (vs ++ [])) H2 z)) :
    Ev (tMeth C m sp [] E te ta) σ H z := fun H1 e Q q =>
  h H1 e _ fun v H2 e2 g => by
    obtain ⟨p, dx, fs, rfl, hi, l, ha⟩ := hs v H2 (e.trans e2) g
    exact ⟨p, dx, fs, rfl, hi, l, ha H2 (Ex.refl H2) _ fun vs H3 e3 k => k H3 (Ex.refl H3) Q (fun H4 e4 => q H4 ((e2.trans e3).trans e4)) E⟩
theorem el_methX {C : Addr} {m : Str} (h : EvX te σ H G) (hs : ∀ v H1, Ex H H1 → G v H1 → ∃ p dx fs, v = .ref p ∧ H1 p = some (.ins C dx fs) ∧ fs.lookup m = none ∧ EvAX ta σ H1 (fun vs H2 => SpL sp (.ref p :: (vs ++ [])) H2 xs)) :
    EvL (tMeth C m sp [] E te ta) σ H xs := fun H1 e Q q =>
  h H1 e _ fun v H2 e2 g => by
    obtain ⟨p, dx, fs, rfl, hi, l, ha⟩ := hs v H2 (e.trans e2) g
    exact ⟨p, dx, fs, rfl, hi, l, ha H2 (Ex.refl H2) _ fun vs H3 e3 k => k H3 (Ex.refl H3) Q (fun r H4 f e4 g4 => q r H4 (fresh_back (e2.trans e3) f) ((e2.trans e3).trans e4) g4) E⟩
/-! #### comprehensions -/
theorem et_yes : EvT tYes σ H true := fun H1 e Q q => q H1 (Ex.refl H1)
theorem given_all {n : Nat} {v : Nat → V} : given n (fun _ => true) v = (List.range n).map v := by
  unfold given
  rw [List.filter_eq_self.mpr fun _ _ => rfl]
theorem range_map_at {α : Type} (l : List α) (d : α) : (List.range l.length).map (fun i => l.getD i d) = l := by
  apply List.ext_getElem?
  intro i
  rw [List.getElem?_map]
  by_cases h : i < l.length
  · rw [List.getElem?_range h, List.getElem?_eq_getElem h]
    simp [List.getD, h]
  · rw [List.getElem?_eq_none (by rw [List.length_range]; omega), List.getElem?_eq_none (by omega)]
    rfl
/-- [e for x in a list] -/
theorem el_map {a : Addr} {j : Nat} {vs : List Nat} (g : V → V) (h : Ev tl σ H (.ref a)) (hx : SqL K H a xs) (hz : xs.length ≤ 40000) (hw : ∀ x, wipe ((wipe σ vs).set j (some x)) vs = wipe σ vs)
    (he : ∀ x ∈ xs, ∀ H1, Ex H H1 → Ev te ((wipe σ vs).set j (some x)) H1 (g x)) : EvL (tLc (iList K tl) (gName j) tYes te vs) σ H (xs.map g) := by
  have q := el_lcL (K := K) (σ := σ) (H := H) (te := te) (t := tYes) (fun _ => true) (fun i => g (xs.getD i .non)) h hx hz hw (fun i x H1 e hi => et_yes) (fun i x H1 e hi _ => by
    have e1 : xs.getD i .non = x := by simp [List.getD, hi]
    rw [e1]
    exact he x (List.mem_of_getElem? hi) H1 e)
  rw [given_all] at q
  have e2 : (List.range xs.length).map (fun i => g (xs.getD i .non)) = xs.map g := by
    rw [show (fun i => g (xs.getD i V.non)) = g ∘ (fun i => xs.getD i V.non) from rfl, ← List.map_map, range_map_at]
  rw [e2] at q
  exact q
/-- [e for k in range(n)] -/
theorem el_mapR {j : Nat} {vs : List Nat} {n : Int} (g : Nat → V) (h : EvA ta σ H [.int n]) (hn : 0 ≤ n ∧ n ≤ 40000) (hw : ∀ x, wipe ((wipe σ vs).set j (some x)) vs = wipe σ vs)
    (he : ∀ (i : Nat) H1, Ex H H1 → (i : Int) < n → Ev te ((wipe σ vs).set j (some (.int (i : Int)))) H1 (g i)) : EvL (tLc (iRng1 ta) (gName j) tYes te vs) σ H ((List.range n.toNat).map g) := by
  have q := el_lcR1 (σ := σ) (H := H) (te := te) (t := tYes) (fun _ => true) g h hn hw (fun i H1 e hi => et_yes) (fun i H1 e hi _ => he i H1 e hi)
  rw [given_all] at q
  exact q
end
/-! ### more loops -/
section
variable {K : PySem.W.Frag} {σ : Stt} {H : Hp} {ta : TA} {te : TE} {tu tz : TS} {D : Ends} {xs ys : List V} {j : Nat}
/-- for x in reversed(a list that stands) -/
theorem q_forV {a : Addr} (h : EvA ta σ H [.ref a]) (hx : SqL K H a xs) (Pv : Nat → Stt → Hp → Prop) (h0 : ∀ H1, Ex H H1 → Pv 0 σ H1) (hl : ∀ i σ' H', Pv i σ' H' → SqL K H' a xs)
    (hs : ∀ i x σ' H', i < xs.length → xs[xs.length - 1 - i]? = some x → Pv i σ' H' → tu { D with nx := Pv (i + 1), ct := Pv (i + 1), bk := tz D } (σ'.set j (some x)) H') (hd : ∀ σ' H', Pv xs.length σ' H' → tz D σ' H') :
    tSeq (tFor (iRev K ta) (gName j) tu) tz D σ H :=
  h H (Ex.refl H) _ fun H1 e => ⟨a, xs, rfl, ex_l e hx, RT.for_Itv (D := { D with nx := tz D }) Pv (h0 H1 e) hl hs hd⟩
/-- .. a new list -/
theorem q_forNV (h : EvL te σ H xs) (Pv : Addr → Nat → Stt → Hp → Prop) (h0 : ∀ a H1, H a = none → Ex H H1 → H1 a = some (.lst xs) → Pv a 0 σ H1) (hl : ∀ a i σ' H', Pv a i σ' H' → SqL K H' a xs)
    (hs : ∀ a i x σ' H', i < xs.length → xs[xs.length - 1 - i]? = some x → Pv a i σ' H' → tu { D with nx := Pv a (i + 1), ct := Pv a (i + 1), bk := tz D } (σ'.set j (some x)) H') (hd : ∀ a σ' H', Pv a xs.length σ' H' → tz D σ' H') :
    tSeq (tFor (iRev K (tCons te tNil)) (gName j) tu) tz D σ H :=
  h H (Ex.refl H) _ fun a H1 f e h1 => ⟨a, xs, rfl, sq_of h1, RT.for_Itv (D := { D with nx := tz D }) (Pv a) (h0 a H1 f e h1) (hl a) (hs a) (hd a)⟩
/-- for x in range(lo, hi, -1) -/
theorem q_forD {lo hi : Int} (h : EvA ta σ H [.int lo, .int hi, .int (-1)]) (b : -(2 ^ 62) ≤ lo ∧ lo < 2 ^ 62 ∧ -(2 ^ 62) ≤ hi ∧ hi < 2 ^ 62) (Pv : Nat → Stt → Hp → Prop) (h0 : ∀ H1, Ex H H1 → Pv 0 σ H1)
    (hs : ∀ (i : Nat) σ' H', hi < lo - i → Pv i σ' H' → tu { D with nx := Pv (i + 1), ct := Pv (i + 1), bk := tz D } (σ'.set j (some (.int (lo - i)))) H') (hd : ∀ σ' H', Pv (lo - hi).toNat σ' H' → tz D σ' H') :
    tSeq (tFor (iRng3 ta) (gName j) tu) tz D σ H :=
  h H (Ex.refl H) _ fun H1 e => ⟨lo, hi, -1, (lo - hi).toNat, rfl, RgC.neg b.1 b.2.1 b.2.2.1 b.2.2.2, for_rangeC (lo := lo) (c := -1) (n := (lo - hi).toNat) (D := { D with nx := tz D }) Pv (h0 H1 e) (fun i σ' H' hi' p => by
    have q := hs i σ' H' (by omega) p
    have e2 : lo + (i : Int) * (-1) = lo - i := by omega
    show tu _ (σ'.set j (some (.int (lo + (i : Int) * (-1))))) H'
    rw [e2]
    exact q) hd⟩
end
/-! ### what a fresh instance leaves -/
theorem ex_made {H : Hp} {x dx C : Addr} (nx : H x = none) (nd : H dx = none) : Ex H (upd (upd H dx (.own x)) x (.ins C dx [])) := fun a o h => by
  rw [upd_ne (ne_of_none h nx), upd_ne (ne_of_none h nd)]
  exact h
/-- an object that stood stays when a fresh one is written -/
theorem ex_upd {H H' : Hp} {p : Addr} {o : HO} (e : Ex H H') (h : H p = none) : Ex H (upd H' p o) := Ex.mut e h
end Oc
/-! list(reversed(xs)): the layer has tuple(reversed(xs)) alone. -/
namespace Oc
open PySem PySem.Spec PyProof.Rows L2 Evl
section
variable {prog : Program} {w : World} {A : Around} {E : Value → Shared → Prop} {s : Shared}
abbrev noItems : Obj := { cls := .type "list", data := .seq #[] }
/-- the new list S takes the items of the backward iterator it over l -/
theorem rev_taken {R : Result → Shared → Prop} {it l S : Addr} {items : Array Value} {c0 : Nat} (hh : A.handled = none) (hit : s.heap.IsRevIter it l ((items.size : Int) - 1)) (hl : s.heap.IsList l items) (hne : l ≠ it)
    (hn : items.size ≤ sizeLine) (hS : s.heap.get? S = some { cls := .type "list", data := .seq #[] c0 }) (hSi : S ≠ it) (hSl : S ≠ l) (res : Value)
    (hR : ∀ (h' : Heap) (tk : Nat) (acc : Array Value) (c' : Nat), (∀ b o, b ≠ S → b ≠ it → s.heap.get? b = some o → h'.get? b = some o) → h'.get? S = some { cls := .type "list", dict := none, data := .seq acc c', slots := #[] } →
      ItemsOf (fun i v => items[items.size - 1 - i]? = some v) acc items.size → R (.ok (.ret res)) { s with heap := h', toks := tk }) :
    wpAny (model prog w) A.in1 (Builtin.List.listExtendWith (.ref S) (.ref it) res)
      (fun fin s' => match fin with | .done f => R (.ok f) s' | .again c' => c'.quiet = true ∧ codeAny (model prog w) A c' R s') (fun e s' => R (.error e) s') s := by
  have W := (Walks.listRev (prog := prog) (w := w) (A := A.in1) hh it l hne items).toS
  have hSf : S ∉ [it, l] := fun q => by
    rcases List.mem_cons.mp q with q | q
    · exact hSi q
    · exact hSl (List.mem_singleton.mp q)
  have hT : s.TypeIs (.ref it) "list_reverseiterator" := hit.typeIs
  have e0 : ((items.size : Nat) : Int) - 1 - ((0 : Nat) : Int) = (items.size : Int) - 1 := by omega
  have same : Builtin.List.listSameRef (.ref S) (.ref it) = false := by simp [Builtin.List.listSameRef, hSi]
  unfold Builtin.List.listExtendWith
  refine wpAny_bind (wpAny_typeOf hT ?_)
  rw [if_neg (by rw [same]; decide)]
  refine wpAny_bind (wpAny_pyIter_revIter hit (wpAny_bind (wpAny_holding ?_)))
  unfold Builtin.List.listLengthHint
  refine wpAny_bind (wpAny_specialOf hT RT.nolen_lri ?_)
  show wpAny _ A.in1 (specialOf _ (Str.ofString "__length_hint__") >>= _) _ _ _
  refine wpAny_bind (wpAny_specialOf hT RT.hint_lri ?_)
  generalize q : ("list_reverseiterator.__length_hint__" : String) = idd
  wp_delta
  rw [show splitId idd = some ("list_reverseiterator", "__length_hint__") from by subst q; decide +kernel]
  subst q
  refine wpAny_bind (wpAny_isInstance (b := true) hT (by rw [isSubtype_type]; kernel_rfl) (wpAny_pure ?_))
  rw [if_neg (by decide)]
  refine wpAny_pure ⟨plainId_quiet F.plain_extend_loop _, codeAny_extend_loopS W hn S hSf res items.size 0 _ #[] c0 rfl (Nat.zero_le _) ⟨Nat.zero_le _, by rw [e0]; exact hit, hl⟩ hS (ItemsOf.nil _) fun s' acc' c' hm hS' hacc => ?_⟩
  rw [Moved.eq_with hm]
  refine hR s'.heap s'.toks acc' c' (fun b o b1 b2 e => hm.heap b o (fun z => ?_) e) hS' hacc
  rcases List.mem_cons.mp z with z | z
  · exact b1 z
  · exact b2 (List.mem_singleton.mp z)
theorem list_of_rev {Q : Value → Shared → Prop} {it l : Addr} {items : Array Value} (hh : A.handled = none) (hit : s.heap.IsRevIter it l ((items.size : Int) - 1)) (hl : s.heap.IsList l items) (hne : l ≠ it) (hn : items.size ≤ sizeLine)
    (hQ : ∀ (h' : Heap) (tk : Nat) (acc : Array Value) (c' : Nat), (∀ b o, b ≠ it → s.heap.get? b = some o → h'.get? b = some o) → h'.get? s.heap.objs.size = some { cls := .type "list", dict := none, data := .seq acc c', slots := #[] } →
      ItemsOf (fun i v => items[items.size - 1 - i]? = some v) acc items.size → Q (.ref s.heap.objs.size) { s with heap := h', toks := tk }) :
    wpAny (model prog w) A (call (.type "list") [.ref it]) Q E s := by
  refine callType_codes (Q₁ := fun obj s₁ => obj = .ref s.heap.objs.size ∧ s₁ = { s with heap := s.heap.push noItems }) F.called_list (F.typeCall_list_1 _) F.entry_list_init (code_list_new _ ⟨rfl, rfl⟩) fun obj s₁ h₁ => ?_
  obtain ⟨rfl, rfl⟩ := h₁
  have hS : (s.heap.push noItems).get? s.heap.objs.size = some noItems := Heap.get?_push_size _ rfl
  obtain ⟨oi, hoi, _⟩ := id hit
  obtain ⟨ol, hol, _⟩ := id hl
  have hSi : s.heap.objs.size ≠ it := Nat.ne_of_gt (Heap.lt_size hoi)
  have hSl : s.heap.objs.size ≠ l := Nat.ne_of_gt (Heap.lt_size hol)
  refine ⟨⟨_, hS, rfl⟩, F.args_list_init_2 _ _, ?_⟩
  show wpAny _ _ (do let old ← Builtin.List.listItems (.ref s.heap.objs.size); Builtin.List.listUpdate (.ref s.heap.objs.size) (fun _ => #[]); letGo old.toList.reverse; Builtin.List.listExtendWith (.ref s.heap.objs.size) (.ref it) .none) _ _ _
  refine wpAny_bind ?_
  unfold Builtin.List.listItems
  refine wpAny_bind (wpAny_seqItems hS rfl (wpAny_pure ?_))
  show wpAny _ _ (updateSeq s.heap.objs.size (fun _ => #[]) >>= fun _ => letGo (#[] : Array Value).toList.reverse >>= fun _ => Builtin.List.listExtendWith (.ref s.heap.objs.size) (.ref it) .none) _ _ _
  refine wpAny_bind (wpAny_updateSeq hS rfl (wpAny_bind (wpAny_letGo ?_)))
  have hS2 := Heap.get?_update_self (Obj.mapSeq (fun _ => (#[] : Array Value))) hS rfl
  have oth : ∀ b o, b ≠ s.heap.objs.size → s.heap.get? b = some o → ((s.heap.push noItems).update s.heap.objs.size (Obj.mapSeq (fun _ => (#[] : Array Value)))).get? b = some o := fun b o hb e =>
    (Heap.get?_update_other _ _ (Ne.symm hb)).trans (Heap.get?_push_of_some _ e)
  have k1 := hit.at (h' := (s.heap.push noItems).update s.heap.objs.size (Obj.mapSeq (fun _ => (#[] : Array Value)))) fun o e => oth it o (Ne.symm hSi) e
  have k2 : ((s.heap.push noItems).update s.heap.objs.size (Obj.mapSeq (fun _ => (#[] : Array Value)))).IsList l items := by
    obtain ⟨o, e, r⟩ := hl
    exact ⟨o, oth l o (Ne.symm hSl) e, r⟩
  refine rev_taken (A := A.in1) hh k1 k2 hne hn hS2 hSi hSl .none fun h' tk acc c' hk hS' hacc => ?_
  exact ⟨rfl, hQ h' tk acc c' (fun b o hb e => hk b o (Nat.ne_of_lt (Heap.lt_size e)) hb (oth b o (Nat.ne_of_lt (Heap.lt_size e)) e)) hS' hacc⟩
end
section
variable {X : Cx}
def tListRev (K : PySem.W.Frag) (te : TE) : TE := fun σ H Q => te σ H fun v H1 => ∃ (a : Addr) (xs : List V), v = .ref a ∧ SqL K H1 a xs ∧ ∀ q, H1 q = none → Q (.ref q) (upd H1 q (.lst xs.reverse))
theorem pe_listRev {e : Expr} {te : TE} {p p2 pos pos2 : Pos} (hc : X.calm = true) (hg : Gl X "list") (hm : X.mg "list" = none) (hg2 : Gl X "reversed") (hm2 : X.mg "reversed" = none) (he : PE X e te)
    (hs : starEach [e] X.env = (false, eval e X.env) :: starEach [] X.env := by rfl)
    (hs2 : starEach [.Call (.Name "reversed" p2) [e] [] pos2] X.env = (false, eval (.Call (.Name "reversed" p2) [e] [] pos2) X.env) :: starEach [] X.env := by rfl) :
    PE X (.Call (.Name "list" p) [.Call (.Name "reversed" p2) [e] [] pos2] [] pos) (tListRev X.K te) := by
  refine ⟨fun pins s σ H Q I h => ?_⟩
  refine Call_ (ld_blt I hg hm boot_list (PyProof.Rows.callWith_type1 (args_cons (Call_ (ld_blt I hg2 hm2 boot_reversed (PyProof.Rows.callWith_type1
    (args_cons (thn (he.run pins s σ H _ I h) fun u s1 ⟨v, H1, I1, r1, q1⟩ => args_nil ?_) hs) hs rfl))) hs2) hs2 rfl))
  obtain ⟨a, xs, ev, hq, q⟩ := q1
  subst ev
  obtain rfl : u = Value.ref a := r1
  obtain ⟨its, rv, p', hz⟩ := I1.list hq
  refine call_reversed_list p'.isList (args_nil ?_)
  have hl := p'.isList
  obtain ⟨ol, hol, _⟩ := id hl
  have hne : a ≠ s1.heap.objs.size := Nat.ne_of_lt (Heap.lt_size hol)
  have hn : its.toArray.size ≤ sizeLine := by rw [List.size_toArray, ← rv.length]; exact hz
  have k0 : ∀ b o, s1.heap.get? b = some o → (s1.heap.push (revObj a ((its.toArray.size : Int) - 1))).get? b = some o := fun b o z => Heap.get?_push_of_some _ z
  have I2 : Inv X pins σ H1 { s1 with heap := s1.heap.push (revObj a ((its.toArray.size : Int) - 1)) } := I1.kept (t' := s1.toks) k0
  obtain ⟨f0, f1, f2, f3, f4, f5⟩ := I1.fpOk (H' := H1) (b := s1.heap.objs.size) (Nat.le_refl _) (I1.hok.fresh (Nat.le_refl _))
  refine list_of_rev (s := { s1 with heap := s1.heap.push (revObj a ((its.toArray.size : Int) - 1)) }) (I1.ok.hd hc) ⟨_, Heap.get?_push_size _ rfl, rfl, rfl⟩ (hl.push _) hne hn fun h' tk acc c' hk hS hi => ?_
  have hSn : (s1.heap.push (revObj a ((its.toArray.size : Int) - 1))).objs.size ≤ (s1.heap.push (revObj a ((its.toArray.size : Int) - 1))).objs.size := Nat.le_refl _
  have nf : ∀ b ∈ [s1.heap.objs.size], FpOk X pins H1 b := fun b hb => by
    rw [List.mem_singleton.mp hb]
    exact ⟨f0, f1, f2, f3, f4, f5⟩
  refine ⟨.ref _, _, I2.turnedNew (ch := [s1.heap.objs.size]) (t' := tk) (ob := .lst xs.reverse) (fun b o hb z => hk b o (fun y => hb (List.mem_singleton.mpr y)) z) nf hSn ?_, rfl, q _ (I2.hok.fresh hSn)⟩
  refine ⟨by rw [List.length_reverse]; exact hz, acc.toList, c', RT.vals_rev rv hi, ?_⟩
  rw [Array.toArray_toList]
  exact hS
end
section
variable {K : PySem.W.Frag} {σ : Stt} {H : Hp} {te : TE} {xs : List V}
theorem el_listRev {p : Addr} (h : Ev te σ H (.ref p)) (hp : SqL K H p xs) : EvL (tListRev K te) σ H xs.reverse := fun H1 e Q q =>
  h H1 e _ fun H2 e2 => ⟨p, xs, rfl, ex_l (e.trans e2) hp, fun a ha => q a _ (fresh_back e2 ha) (e2.trans (Ex.new ha)) upd_same⟩
theorem el_revL {p : Addr} (h : Ev te σ H (.ref p)) (hp : SqL K H p xs) : EvL (tRevL K te) σ H xs.reverse := fun H1 e Q q =>
  h H1 e _ fun H2 e2 => ⟨p, xs, rfl, ex_l (e.trans e2) hp, fun a ha => q a _ (fresh_back e2 ha) (e2.trans (Ex.new ha)) upd_same⟩
end
end Oc
namespace Oc
open PySem PySem.Spec PyProof.Rows L2 Evl
/-! ### == of lists of ints, of truth values -/
theorem dec_cons {α : Type} [DecidableEq α] (x y : α) (xs ys : List α) : decide (x :: xs = y :: ys) = (decide (x = y) && decide (xs = ys)) := by
  by_cases h1 : x = y
  · by_cases h2 : xs = ys
    · simp [h1, h2]
    · simp [h1, h2]
  · simp [h1]
theorem eqv_ints : ∀ xs ys : List Int, PyData.eqvAll (xs.map PyData.int) (ys.map PyData.int) = decide (xs = ys)
  | [], [] => by simp [PyData.eqvAll]
  | [], _ :: _ => by simp [PyData.eqvAll]
  | _ :: _, [] => by simp [PyData.eqvAll]
  | x :: xs, y :: ys => by
    rw [dec_cons, ← eqv_ints xs ys, List.map_cons, List.map_cons, PyData.eqvAll]
    congr 1
theorem eqv_bls : ∀ xs ys : List Bool, PyData.eqvAll (xs.map PyData.bool) (ys.map PyData.bool) = decide (xs = ys)
  | [], [] => by simp [PyData.eqvAll]
  | [], _ :: _ => by simp [PyData.eqvAll]
  | _ :: _, [] => by simp [PyData.eqvAll]
  | x :: xs, y :: ys => by
    rw [dec_cons, ← eqv_bls xs ys, List.map_cons, List.map_cons, PyData.eqvAll]
    congr 1
theorem lay_ints : ∀ xs : List Int, PyData.canLayAll0 (xs.map PyData.int) = true
  | [] => by simp [PyData.canLayAll0]
  | x :: xs => by simp [PyData.canLayAll0, PyData.canLay0, lay_ints xs]
theorem lay_bls : ∀ xs : List Bool, PyData.canLayAll0 (xs.map PyData.bool) = true
  | [] => by simp [PyData.canLayAll0]
  | x :: xs => by simp [PyData.canLayAll0, PyData.canLay0, lay_bls xs]
theorem depth_ints : ∀ xs : List Int, PyData.depthAll (xs.map PyData.int) ≤ 1
  | [] => by simp [PyData.depthAll]
  | x :: xs => by
    have := depth_ints xs
    simp [PyData.depthAll, PyData.depth]
    omega
theorem depth_bls : ∀ xs : List Bool, PyData.depthAll (xs.map PyData.bool) ≤ 1
  | [] => by simp [PyData.depthAll]
  | x :: xs => by
    have := depth_bls xs
    simp [PyData.depthAll, PyData.depth]
    omega
theorem shaped_ints (xs : List Int) : SeqAt.shaped (.list (xs.map PyData.int)) = true := by
  have h1 := lay_ints xs
  have h2 := depth_ints xs
  unfold SeqAt.shaped
  simp only [PyData.canLay0, PyData.depth, h1, Bool.true_and, decide_eq_true_eq]
  apply decide_eq_true
  omega
theorem shaped_bls (xs : List Bool) : SeqAt.shaped (.list (xs.map PyData.bool)) = true := by
  have h1 := lay_bls xs
  have h2 := depth_bls xs
  unfold SeqAt.shaped
  simp only [PyData.canLay0, PyData.depth, h1, Bool.true_and, decide_eq_true_eq]
  apply decide_eq_true
  omega
section
variable {K : PySem.W.Frag} {H : Hp} {p q : Addr}
theorem dp_ints : ∀ xs : List Int, DpAll K H (xs.map V.int) (xs.map PyData.int)
  | [] => .nil
  | x :: xs => .cons (.int x) (dp_ints xs)
theorem dp_bls : ∀ xs : List Bool, DpAll K H (xs.map V.bl) (xs.map PyData.bool)
  | [] => .nil
  | x :: xs => .cons (.bl x) (dp_bls xs)
theorem rv_eqI {xs ys : List Int} (h : SqL K H p (xs.map V.int)) (h' : SqL K H q (ys.map V.int)) : RV (rEqD K) (.ref p) (.ref q) H (.bl (decide (xs = ys))) := fun H1 e Q k =>
  ⟨_, _, .lst (ex_l e h) (dp_ints xs), .lst (ex_l e h') (dp_ints ys), shaped_ints xs, shaped_ints ys, by rw [PyData.eqv, eqv_ints]; exact k H1 (Ex.refl H1)⟩
theorem rv_neI {xs ys : List Int} (h : SqL K H p (xs.map V.int)) (h' : SqL K H q (ys.map V.int)) : RV (rNeD K) (.ref p) (.ref q) H (.bl (!decide (xs = ys))) := fun H1 e Q k =>
  ⟨_, _, .lst (ex_l e h) (dp_ints xs), .lst (ex_l e h') (dp_ints ys), shaped_ints xs, shaped_ints ys, by rw [PyData.eqv, eqv_ints]; exact k H1 (Ex.refl H1)⟩
theorem rv_eqB {xs ys : List Bool} (h : SqL K H p (xs.map V.bl)) (h' : SqL K H q (ys.map V.bl)) : RV (rEqD K) (.ref p) (.ref q) H (.bl (decide (xs = ys))) := fun H1 e Q k =>
  ⟨_, _, .lst (ex_l e h) (dp_bls xs), .lst (ex_l e h') (dp_bls ys), shaped_bls xs, shaped_bls ys, by rw [PyData.eqv, eqv_bls]; exact k H1 (Ex.refl H1)⟩
theorem rv_neB {xs ys : List Bool} (h : SqL K H p (xs.map V.bl)) (h' : SqL K H q (ys.map V.bl)) : RV (rNeD K) (.ref p) (.ref q) H (.bl (!decide (xs = ys))) := fun H1 e Q k =>
  ⟨_, _, .lst (ex_l e h) (dp_bls xs), .lst (ex_l e h') (dp_bls ys), shaped_bls xs, shaped_bls ys, by rw [PyData.eqv, eqv_bls]; exact k H1 (Ex.refl H1)⟩
end
end Oc
namespace Oc
open PySem PySem.Spec PyProof.Rows L2 Evl
def topS (i : Nat) : Stmt := PySem.Challenge.pw_onechange_k08_changed.main.body.getD i (.Pass ⟨0, 0, 0, 0⟩)
abbrev s_Listing_many : Stmt := inClass (topS 6) 4
abbrev s_Listing_asked_number : Stmt := inClass (topS 6) 5
abbrev s_Listing_thing_at : Stmt := inClass (topS 6) 6
abbrev s_gray_of : Stmt := topS 8
abbrev s_bits_of : Stmt := topS 9
abbrev s_Switches___init__ : Stmt := inClass (topS 10) 0
abbrev s_Switches_size : Stmt := inClass (topS 10) 1
abbrev s_Switches_put : Stmt := inClass (topS 10) 2
abbrev s_Switches_found : Stmt := inClass (topS 10) 4
abbrev s_Switches_changed : Stmt := inClass (topS 10) 5
abbrev s__law_cell_at : Stmt := topS 12
abbrev s__law_whole : Stmt := topS 13
abbrev s_law : Stmt := topS 14
theorem sc_Listing_many : FnScope ["self"] ["self"] (defScope s_Listing_many) := ⟨rfl, rfl, rfl, by decide +kernel, rfl, by decide +kernel, by decide +kernel⟩
theorem sc_Listing_asked_number : FnScope ["self", "number"] ["self", "number"] (defScope s_Listing_asked_number) := ⟨rfl, rfl, rfl, by decide +kernel, rfl, by decide +kernel, by decide +kernel⟩
theorem sc_Listing_thing_at : FnScope ["self", "number"] ["self", "number"] (defScope s_Listing_thing_at) := ⟨rfl, rfl, rfl, by decide +kernel, rfl, by decide +kernel, by decide +kernel⟩
theorem sc_gray_of : FnScope ["bits", "found", "k", "above"] ["bits"] (defScope s_gray_of) := ⟨rfl, rfl, rfl, by decide +kernel, rfl, by decide +kernel, by decide +kernel⟩
theorem sc_bits_of : FnScope ["thing", "found", "above", "one"] ["thing"] (defScope s_bits_of) := ⟨rfl, rfl, rfl, by decide +kernel, rfl, by decide +kernel, by decide +kernel⟩
theorem sc_Switches___init__ : FnScope ["self", "many"] ["self", "many"] (defScope s_Switches___init__) := ⟨rfl, rfl, rfl, by decide +kernel, rfl, by decide +kernel, by decide +kernel⟩
theorem sc_Switches_size : FnScope ["self", "total", "k"] ["self"] (defScope s_Switches_size) := ⟨rfl, rfl, rfl, by decide +kernel, rfl, by decide +kernel, by decide +kernel⟩
theorem sc_Switches_put : FnScope ["self", "number", "bits", "k"] ["self", "number"] (defScope s_Switches_put) := ⟨rfl, rfl, rfl, by decide +kernel, rfl, by decide +kernel, by decide +kernel⟩
theorem sc_Switches_found : FnScope ["self", "thing", "total", "bit"] ["self", "thing"] (defScope s_Switches_found) := ⟨rfl, rfl, rfl, by decide +kernel, rfl, by decide +kernel, by decide +kernel⟩
theorem sc_Switches_changed : FnScope ["self", "number", "place"] ["self", "number"] (defScope s_Switches_changed) := ⟨rfl, rfl, rfl, by decide +kernel, rfl, by decide +kernel, by decide +kernel⟩
theorem sc__law_cell_at : FnScope ["script", "k"] ["script", "k"] (defScope s__law_cell_at) := ⟨rfl, rfl, rfl, by decide +kernel, rfl, by decide +kernel, by decide +kernel⟩
theorem sc__law_whole : FnScope ["found"] ["found"] (defScope s__law_whole) := ⟨rfl, rfl, rfl, by decide +kernel, rfl, by decide +kernel, by decide +kernel⟩
theorem sc_law : FnScope ["script", "many", "top", "k", "at", "listing", "first", "second", "place"] ["script"] (defScope s_law) := ⟨rfl, rfl, rfl, by decide +kernel, rfl, by decide +kernel, by decide +kernel⟩
structure Txt (K : PySem.W.Frag) (mg : Str → Option Value) : Prop where
  z_bool : mg "bool" = none
  z_int : mg "int" = none
  z_isinstance : mg "isinstance" = none
  z_len : mg "len" = none
  z_list : mg "list" = none
  z_range : mg "range" = none
  z_reversed : mg "reversed" = none
  g_ChangeError : mg "ChangeError" = some (.ref (aG K "ChangeError"))
  g_NoListing : mg "NoListing" = some (.ref (aG K "NoListing"))
  g_NoNumber : mg "NoNumber" = some (.ref (aG K "NoNumber"))
  g_Listing : mg "Listing" = some (.ref (aG K "Listing"))
  g_Switches : mg "Switches" = some (.ref (aG K "Switches"))
  g_gray_of : mg "gray_of" = some (.ref (aG K "gray_of"))
  g_bits_of : mg "bits_of" = some (.ref (aG K "bits_of"))
  g__law_cell_at : mg "_law_cell_at" = some (.ref (aG K "_law_cell_at"))
  g__law_whole : mg "_law_whole" = some (.ref (aG K "_law_whole"))
  g_law : mg "law" = some (.ref (aG K "law"))
  e_ChangeError : PySem.W.excIn K (aG K "ChangeError") He.veBase "ValueError.__new__" = true ∧ PySem.W.keepIn K (.ref (aG K "ChangeError")) = true ∧ PySem.W.subIn K (.ref (aG K "ChangeError")) (.type "BaseException") = some true ∧ PySem.W.typeIn K (.ref (aG K "ChangeError")) = some (.type "type")
  e_NoListing : PySem.W.excIn K (aG K "NoListing") He.veBase "ValueError.__new__" = true ∧ PySem.W.keepIn K (.ref (aG K "NoListing")) = true ∧ PySem.W.subIn K (.ref (aG K "NoListing")) (.type "BaseException") = some true ∧ PySem.W.typeIn K (.ref (aG K "NoListing")) = some (.type "type")
  e_NoNumber : PySem.W.excIn K (aG K "NoNumber") He.veBase "ValueError.__new__" = true ∧ PySem.W.keepIn K (.ref (aG K "NoNumber")) = true ∧ PySem.W.subIn K (.ref (aG K "NoNumber")) (.type "BaseException") = some true ∧ PySem.W.typeIn K (.ref (aG K "NoNumber")) = some (.type "type")
  c_Switches : Cls K (aG K "Switches")
  k_Switches : Mk K (aG K "Switches") (aM K "Switches" "__init__")
  n_Switches_length : NoAttr K (aG K "Switches") "length"
  m_Switches_many : Meth K (aG K "Switches") "many" (aM K "Switches" "many")
  m_Switches_asked_number : Meth K (aG K "Switches") "asked_number" (aM K "Switches" "asked_number")
  m_Switches_thing_at : Meth K (aG K "Switches") "thing_at" (aM K "Switches" "thing_at")
  m_Switches_size : Meth K (aG K "Switches") "size" (aM K "Switches" "size")
  m_Switches_put : Meth K (aG K "Switches") "put" (aM K "Switches" "put")
  m_Switches_found : Meth K (aG K "Switches") "found" (aM K "Switches" "found")
  m_Switches_changed : Meth K (aG K "Switches") "changed" (aM K "Switches" "changed")
  d_gray_of : Df K "gray_of" "gray_of" s_gray_of (aG K "gray_of")
  d_bits_of : Df K "bits_of" "bits_of" s_bits_of (aG K "bits_of")
  d__law_cell_at : Df K "_law_cell_at" "_law_cell_at" s__law_cell_at (aG K "_law_cell_at")
  d__law_whole : Df K "_law_whole" "_law_whole" s__law_whole (aG K "_law_whole")
  d_law : Df K "law" "law" s_law (aG K "law")
  d_Switches_many : Df K "many" "Listing.many" s_Listing_many (aM K "Switches" "many")
  d_Switches_asked_number : Df K "asked_number" "Listing.asked_number" s_Listing_asked_number (aM K "Switches" "asked_number")
  d_Switches_thing_at : Df K "thing_at" "Listing.thing_at" s_Listing_thing_at (aM K "Switches" "thing_at")
  d_Switches___init__ : Df K "__init__" "Switches.__init__" s_Switches___init__ (aM K "Switches" "__init__")
  d_Switches_size : Df K "size" "Switches.size" s_Switches_size (aM K "Switches" "size")
  d_Switches_put : Df K "put" "Switches.put" s_Switches_put (aM K "Switches" "put")
  d_Switches_found : Df K "found" "Switches.found" s_Switches_found (aM K "Switches" "found")
  d_Switches_changed : Df K "changed" "Switches.changed" s_Switches_changed (aM K "Switches" "changed")
end Oc
namespace Oc
open PySem PySem.Spec PyProof.Rows L2 Evl
/-! ### a listing: where it stands, how many things, the thing of a number, whether a list is a thing, a thing's number -/
structure Lst where
  C : Addr
  At : Hp → Addr → Prop
  N : Int
  put : Int → List Int
  th : List Int → Bool
  fnd : List Int → Int
def lsMeths : List Str := ["size", "put", "is_thing", "found", "many", "asked_number", "thing_at", "number_of", "after", "changed"]
theorem lk_none : ∀ {fs : List (Str × V)} {m : Str}, m ∉ fs.map (·.1) → fs.lookup m = none
  | [], _, _ => rfl
  | (k, v) :: r, m, h => by
    have h1 : ¬ m = k := fun e => h (by rw [e]; exact List.mem_cons_self)
    have h2 : (m == k) = false := by simpa using h1
    simp only [List.lookup, h2]
    exact lk_none fun z => h (List.mem_cons_of_mem _ z)
structure LsB (K : PySem.W.Frag) (I : Lst) : Prop where
  cl : Cls K I.C
  ins : ∀ {H : Hp} {p : Addr}, I.At H p → ∃ dx fs, H p = some (.ins I.C dx fs) ∧ ∀ m ∈ lsMeths, fs.lookup m = none
  mono : ∀ {H H' : Hp} {p : Addr}, Ex H H' → I.At H p → I.At H' p
  pos : 0 < I.N
/-- an error of the class at c -/
def RetE (c : Addr) (H : Hp) (E : XK) : Prop := ∀ H2, Ex H H2 → E (.ref c) none H2
theorem RetE.ex {c : Addr} {H H' : Hp} {E : XK} (k : RetE c H E) (e : Ex H H') : RetE c H' E := fun H2 e2 => k H2 (e.trans e2)
def InN (I : Lst) (x : Int) : Prop := 0 ≤ x ∧ x < I.N
def spSize (I : Lst) : Sp := fun vs H Q _ => ∃ p, vs = [.ref p] ∧ I.At H p ∧ RetV (.int I.N) H Q
def spPut (I : Lst) : Sp := fun vs H Q _ => ∃ p x, vs = [.ref p, .int x] ∧ I.At H p ∧ InN I x ∧ RetL ((I.put x).map V.int) H Q
def spTh (K : PySem.W.Frag) (I : Lst) : Sp := fun vs H Q _ => ∃ p a ts, vs = [.ref p, .ref a] ∧ I.At H p ∧ SqL K H a (ts.map V.int) ∧ ts.length ≤ 63 ∧ RetV (.bl (I.th ts)) H Q
def spFound (K : PySem.W.Frag) (I : Lst) : Sp := fun vs H Q _ => ∃ p a ts, vs = [.ref p, .ref a] ∧ I.At H p ∧ SqL K H a (ts.map V.int) ∧ I.th ts = true ∧ RetV (.int (I.fnd ts)) H Q
def spAsked (c : Addr) (I : Lst) : Sp := fun vs H Q E => ∃ p x, vs = [.ref p, .int x] ∧ I.At H p ∧ (InN I x → RetV .non H Q) ∧ (¬ InN I x → RetE c H E)
def spThing (c : Addr) (I : Lst) : Sp := fun vs H Q E => ∃ p x, vs = [.ref p, .int x] ∧ I.At H p ∧ (InN I x → RetL ((I.put x).map V.int) H Q) ∧ (¬ InN I x → RetE c H E)
def spNumb (K : PySem.W.Frag) (c : Addr) (I : Lst) : Sp := fun vs H Q E => ∃ p a ts, vs = [.ref p, .ref a] ∧ I.At H p ∧ SqL K H a (ts.map V.int) ∧ ts.length ≤ 63 ∧ (I.th ts = true → RetV (.int (I.fnd ts)) H Q) ∧ (I.th ts = false → RetE c H E)
def spAfter (K : PySem.W.Frag) (c : Addr) (I : Lst) : Sp := fun vs H Q E => ∃ p a ts, vs = [.ref p, .ref a] ∧ I.At H p ∧ SqL K H a (ts.map V.int) ∧ ts.length ≤ 63 ∧ (I.th ts = true → RetL ((I.put ((I.fnd ts + 1) % I.N)).map V.int) H Q) ∧ (I.th ts = false → RetE c H E)
section
variable {P : Program} {w : World} {K : PySem.W.Frag} {mg : Str → Option Value} {base : Heap} {I : Lst} {H : Hp} {p : Addr}
theorem sv_size (B : LsB K I) (hp : I.At H p) : SpV (spSize I) [.ref p] H (.int I.N) := fun H1 e Q q E => ⟨p, rfl, B.mono e hp, q⟩
theorem sl_put (B : LsB K I) (hp : I.At H p) {x : Int} (hx : InN I x) : SpL (spPut I) [.ref p, .int x] H ((I.put x).map V.int) := fun H1 e Q q E => ⟨p, x, rfl, B.mono e hp, hx, q⟩
theorem sv_th (B : LsB K I) (hp : I.At H p) {a : Addr} {ts : List Int} (ha : SqL K H a (ts.map V.int)) (hl : ts.length ≤ 63) : SpV (spTh K I) [.ref p, .ref a] H (.bl (I.th ts)) := fun H1 e Q q E => ⟨p, a, ts, rfl, B.mono e hp, ex_l e ha, hl, q⟩
theorem sv_found (B : LsB K I) (hp : I.At H p) {a : Addr} {ts : List Int} (ha : SqL K H a (ts.map V.int)) (ht : I.th ts = true) : SpV (spFound K I) [.ref p, .ref a] H (.int (I.fnd ts)) := fun H1 e Q q E => ⟨p, a, ts, rfl, B.mono e hp, ex_l e ha, ht, q⟩
theorem sv_asked {c : Addr} (B : LsB K I) (hp : I.At H p) {x : Int} (hx : InN I x) : SpV (spAsked c I) [.ref p, .int x] H .non := fun H1 e Q q E => ⟨p, x, rfl, B.mono e hp, fun _ => q, fun n => absurd hx n⟩
theorem sl_thing {c : Addr} (B : LsB K I) (hp : I.At H p) {x : Int} (hx : InN I x) : SpL (spThing c I) [.ref p, .int x] H ((I.put x).map V.int) := fun H1 e Q q E => ⟨p, x, rfl, B.mono e hp, fun _ => q, fun n => absurd hx n⟩
theorem sv_numb {c : Addr} (B : LsB K I) (hp : I.At H p) {a : Addr} {ts : List Int} (ha : SqL K H a (ts.map V.int)) (hl : ts.length ≤ 63) (ht : I.th ts = true) : SpV (spNumb K c I) [.ref p, .ref a] H (.int (I.fnd ts)) := fun H1 e Q q E =>
  ⟨p, a, ts, rfl, B.mono e hp, ex_l e ha, hl, fun _ => q, fun z => by rw [ht] at z; cases z⟩
theorem sl_after {c : Addr} (B : LsB K I) (hp : I.At H p) {a : Addr} {ts : List Int} (ha : SqL K H a (ts.map V.int)) (hl : ts.length ≤ 63) (ht : I.th ts = true) : SpL (spAfter K c I) [.ref p, .ref a] H ((I.put ((I.fnd ts + 1) % I.N)).map V.int) := fun H1 e Q q E =>
  ⟨p, a, ts, rfl, B.mono e hp, ex_l e ha, hl, fun _ => q, fun z => by rw [ht] at z; cases z⟩
end
section
variable {P : Program} {w : World} {K : PySem.W.Frag} {mg : Str → Option Value} {base : Heap} {I : Lst} {f fz fp ft fo fa fn : Addr}
theorem ok_many (B : LsB K I) (D : Df K "many" "Listing.many" s_Listing_many f) (M_size : Meth K I.C "size" fz) (Pz : Pr P w K mg base 2 fz ["self"] (spSize I)) : Pr P w K mg base 3 f ["self"] (spSize I) := by
  obtain ⟨_, G_size, b_size, _⟩ := Pz
  have c_self := B.cl
  refine pr_mk0 D sc_Listing_many (fun _ _ _ _ _ _ us hl => match us, hl with | [_], _ => rfl) (fun vs H Q E h => ?_) (fun cdv A outer s H vs Q E hr h => ?_)
  · obtain ⟨p, rfl, _⟩ := h
    rfl
  · obtain ⟨p, rfl, hp, k⟩ := h
    obtain ⟨dx, fs, hi, hm⟩ := B.ins hp
    refine ⟨_, (pss_one (ps_ret (pe_meth0 (pv 0) c_self M_size G_size (hr.mono (by decide)) b_size .nil passL))), ?_⟩
    exact s_retv (ev_meth (ev_var rfl) hi (hm _ (by decide +kernel)) ea_nil (sv_size B hp)) k
theorem ok_asked (T : Txt K mg) (B : LsB K I) (D : Df K "asked_number" "Listing.asked_number" s_Listing_asked_number f) (M_size : Meth K I.C "size" fz) (Pz : Pr P w K mg base 2 fz ["self"] (spSize I)) :
    Pr P w K mg base 3 f ["self", "number"] (spAsked (aG K "NoNumber") I) := by
  obtain ⟨_, G_size, b_size, _⟩ := Pz
  have c_self := B.cl
  refine pr_mk D sc_Listing_asked_number (fun _ _ _ _ _ _ us hl => match us, hl with | [_, _], _ => rfl) (fun vs H Q E h => ?_) (fun cdv A outer s H vs Q E hr h => ?_)
  · obtain ⟨p, x, rfl, _⟩ := h
    rfl
  · obtain ⟨p, x, rfl, hp, k, kE⟩ := h
    obtain ⟨dx, fs, hi, hm⟩ := B.ins hp
    refine ⟨_, (pss_one (ps_if (PW.pt (pw_or (pt_cmpR op_lt (pv 1) pe_int (nomark _)) (pw_or1 (pt_cmpR op_ge (pv 1) (pe_meth0 (pv 0) c_self M_size G_size (hr.mono (by decide)) b_size .nil (passes_call (takes_of rfl rfl rfl rfl) (fun _ _ _ _ h => h))) (nomark _))))) (pss_one (ps_raise rfl (takes_of rfl rfl rfl rfl) (pmk_own PySem.F.excBase_ValueError T.e_NoNumber.1 T.g_NoNumber T.e_NoNumber.2.1 (raises_own T.e_NoNumber.2.2.1 T.e_NoNumber.2.2.2) rfl))) pss_nil)), ?_⟩
    refine s_if (et_or (et_test (ev_op (ev_var rfl) ev_c rv_I0)) fun _ => et_test (ev_op (ev_var rfl) (ev_meth (ev_var rfl) hi (hm _ (by decide +kernel)) ea_nil (sv_size B hp)) rv_I0)) (fun hb H1 e1 => ?_) (fun hb H1 e1 => ?_)
    · refine kE (fun z => ?_) H1 e1
      obtain ⟨z1, z2⟩ := z
      simp only [Bool.or_eq_true, decide_eq_true_eq] at hb
      omega
    · refine k ?_ H1 e1
      simp only [Bool.or_eq_false_iff, decide_eq_false_iff_not] at hb
      exact ⟨by omega, by omega⟩
theorem ok_thing {c : Addr} (B : LsB K I) (D : Df K "thing_at" "Listing.thing_at" s_Listing_thing_at f) (M_asked_number : Meth K I.C "asked_number" fa) (Pa : Pr P w K mg base 3 fa ["self", "number"] (spAsked c I))
    (M_put : Meth K I.C "put" fp) (Pp : Pr P w K mg base 3 fp ["self", "number"] (spPut I)) : Pr P w K mg base 4 f ["self", "number"] (spThing c I) := by
  obtain ⟨_, G_asked_number, b_asked_number, _⟩ := Pa
  obtain ⟨_, G_put, b_put, _⟩ := Pp
  have c_self := B.cl
  refine pr_mk D sc_Listing_thing_at (fun _ _ _ _ _ _ us hl => match us, hl with | [_, _], _ => rfl) (fun vs H Q E h => ?_) (fun cdv A outer s H vs Q E hr h => ?_)
  · obtain ⟨p, x, rfl, _⟩ := h
    rfl
  · obtain ⟨p, x, rfl, hp, k, kE⟩ := h
    obtain ⟨dx, fs, hi, hm⟩ := B.ins hp
    refine ⟨_, (pss_cons (ps_expr (pe_meth (pv 0) c_self M_asked_number G_asked_number (hr.mono (by decide)) b_asked_number .nil (passes_call (takes_of rfl rfl rfl rfl) (fun _ _ _ _ h => h)) (pa_cons (pv 1) pa_nil)))
  (pss_one (ps_ret (pe_meth (pv 0) c_self M_put G_put (hr.mono (by decide)) b_put .nil (passes_call (takes_of rfl rfl rfl rfl) (fun _ _ _ _ h => h)) (pa_cons (pv 1) pa_nil))))), ?_⟩
    refine ⟨_, rfl, p, dx, fs, rfl, hi, hm _ (by decide +kernel), _, rfl, p, x, rfl, hp, fun hx H1 e1 => ?_, fun hx => kE hx⟩
    exact s_retl (el_meth (ev_var rfl) (e1 _ _ hi) (hm _ (by decide +kernel)) (ea_cons (ev_var rfl) ea_nil) (sl_put B (B.mono e1 hp) hx)) (RetL.ex (k hx) e1)
end
end Oc
namespace Oc
open PySem PySem.Spec PyProof.Rows L2 Evl
/-! ### switches -/
section
variable {P : Program} {w : World} {K : PySem.W.Frag} {mg : Str → Option Value} {base : Heap} {H : Hp} {p : Addr}
def swTh (n : Nat) (ts : List Int) : Bool := decide (ts.length = n) && ts.all fun v => decide (v = 0) || decide (v = 1)
def lenF (n : Nat) : List (Str × V) := [("length", .int n)]
def swL (K : PySem.W.Frag) (n : Nat) : Lst := ⟨aG K "Switches", fun H p => ∃ dx, H p = some (.ins (aG K "Switches") dx (lenF n)), p2 n, swPut n, swTh n, swFound⟩
theorem sw_keys : ∀ m ∈ lsMeths, m ∉ ([("length" : Str)] : List Str) := by decide +kernel
theorem swB (T : Txt K mg) (n : Nat) : LsB K (swL K n) where
  cl := T.c_Switches
  ins := fun ⟨dx, h⟩ => ⟨dx, _, h, fun m hm => lk_none (sw_keys m hm)⟩
  mono := fun e ⟨dx, h⟩ => ⟨dx, e _ _ h⟩
  pos := p2_pos n
theorem len_at (n : Nat) : List.lookup ("length" : Str) (lenF n) = some (V.int n) := by simp [lenF, List.lookup]
theorem swTh_iff {n : Nat} {ts : List Int} : swTh n ts = true ↔ ts.length = n ∧ Bits ts := by
  unfold swTh Bits
  rw [Bool.and_eq_true, List.all_eq_true, decide_eq_true_eq]
  simp only [Bool.or_eq_true, decide_eq_true_eq]
/-- __init__ -/
def spSwI (K : PySem.W.Frag) : Sp := fun vs H Q E => ∃ x dx n, vs = [.ref x, .int n] ∧ H x = some (.ins (aG K "Switches") dx []) ∧
  (0 ≤ n ∧ n ≤ 40 → ∀ H2, (∀ b o, b ≠ x → H b = some o → H2 b = some o) → H2 x = some (.ins (aG K "Switches") dx (lenF n.toNat)) → Q .non H2) ∧ (¬ (0 ≤ n ∧ n ≤ 40) → RetE (aG K "NoListing") H E)
theorem ok_sw_init (T : Txt K mg) : Pr P w K mg base 1 (aM K "Switches" "__init__") ["self", "many"] (spSwI K) := by
  refine pr_mk T.d_Switches___init__ sc_Switches___init__ (fun _ _ _ _ _ _ us hl => match us, hl with | [_, _], _ => rfl) (fun vs H Q E h => ?_) (fun cdv A outer s H vs Q E hr h => ?_)
  · obtain ⟨x, dx, n, rfl, _⟩ := h
    rfl
  · obtain ⟨x, dx, n, rfl, hx, k, kE⟩ := h
    refine ⟨_, (pss_cons (ps_if (PW.pt (pw_or (pt_cmpR op_lt (pv 1) pe_int (nomark _)) (pw_or1 (pt_cmpR op_gt (pv 1) pe_int (nomark _))))) (pss_one (ps_raise rfl (takes_of rfl rfl rfl rfl) (pmk_own PySem.F.excBase_ValueError T.e_NoListing.1 T.g_NoListing T.e_NoListing.2.1 (raises_own T.e_NoListing.2.2.1 T.e_NoListing.2.2.2) rfl))) pss_nil)
  (pss_one (ps_fld (pv 0) (pv 1) rfl))), ?_⟩
    refine q_when (et_or (et_test (ev_op (ev_var rfl) ev_c rv_I0)) fun _ => et_test (ev_op (ev_var rfl) ev_c rv_I0)) (fun hb H1 e1 => ?_) (fun hb H1 e1 => ?_)
    · simp only [Bool.or_eq_true, decide_eq_true_eq] at hb
      exact kE (by omega) H1 e1
    · simp only [Bool.or_eq_false_iff, decide_eq_false_iff_not] at hb
      refine ⟨_, rfl, _, rfl, x, _, dx, _, rfl, e1 _ _ hx, T.c_Switches, T.n_Switches_length, (by show 0 < 1000; decide), ?_⟩
      refine k (by omega) _ (fun b o hb' hb2 => ?_) ?_
      · rw [upd_ne hb']
        exact e1 _ _ hb2
      · rw [upd_same]
        show some (HO.ins _ _ [(_, V.int n)]) = some (HO.ins _ _ [(_, V.int ((n.toNat : Nat) : Int))])
        rw [show ((n.toNat : Nat) : Int) = n by omega]
theorem in_sw {n : Int} (hn : 0 ≤ n ∧ n ≤ 40) : InitN (aG K "Switches") (spSwI K) [.int n] H (fun v H2 => ∃ q, v = .ref q ∧ (swL K n.toNat).At H2 q) := fun H1 e1 x dx hx hd ne Q k E => by
  refine ⟨x, dx, n, rfl, upd_same, fun _ H2 kp h2 => k H2 (fun b o h => ?_) ⟨x, rfl, dx, h2⟩, fun z => absurd hn z⟩
  exact kp b o (ne_of_none h hx) (ex_made hx hd b o h)
theorem ok_sw_size (T : Txt K mg) (n : Nat) (hn : n ≤ 40) : Pr P w K mg base 1 (aM K "Switches" "size") ["self"] (spSize (swL K n)) := by
  refine pr_mk0 T.d_Switches_size sc_Switches_size (fun _ _ _ _ _ _ us hl => match us, hl with | [_], _ => rfl) (fun vs H Q E h => ?_) (fun cdv A outer s H vs Q E hr h => ?_)
  · obtain ⟨p, rfl, _⟩ := h
    rfl
  · obtain ⟨p, rfl, ⟨dx, hp⟩, k⟩ := h
    refine ⟨_, (pss_cons (ps_set (i := 1) sc_Switches_size.nd rfl (Or.inl rfl) pe_int)
  (pss_cons (ps_for PassesOwn.never rfl (pi_range1 rfl T.z_range (pa_cons (pe_fld (pv 0) rfl) pa_nil)) (pg_name (i := 2) sc_Switches_size.nd rfl (Or.inl rfl))
    (pss_one (ps_set (i := 1) sc_Switches_size.nd rfl (Or.inl rfl) (pe_op op_mul (pv 1) pe_int))))
  (pss_one (ps_ret (pv 1))))), ?_⟩
    refine q_asg ev_c fun H1 e1 => ?_
    refine q_forR1 (n := n) (ea_cons (ev_fld (ev_var rfl) (e1 _ _ hp) T.c_Switches T.n_Switches_length (len_at _)) ea_nil) ⟨by omega, by omega⟩ (fun i σ' H' => ∃ y, σ' = [some (.ref p), some (.int (p2 i)), y] ∧ Ex H H') (fun H2 e2 => ⟨none, rfl, e1.trans e2⟩) ?_ ?_
    · rintro i σ' H' hi ⟨y, rfl, e⟩
      refine s_asg (ev_op (ev_var rfl) ev_c (rv_I (Or.inr ⟨by omega, by omega⟩))) fun H3 e3 => ⟨some (.int i), ?_, e.trans e3⟩
      rw [p2_succ, Int.mul_comm]
      rfl
    · rintro σ' H' ⟨y, rfl, e⟩
      exact s_retv (ev_var rfl) (RetV.ex k e)
def spGray (K : PySem.W.Frag) : Sp := fun vs H Q _ => ∃ a bs, vs = [.ref a] ∧ SqL K H a (bs.map V.int) ∧ bs.length ≤ 63 ∧ RetL ((grayF bs).map V.int) H Q
theorem sl_gray {a : Addr} {bs : List Int} (h : SqL K H a (bs.map V.int)) (hl : bs.length ≤ 63) : SpL (spGray K) [.ref a] H ((grayF bs).map V.int) := fun H1 e Q q E => ⟨a, bs, rfl, ex_l e h, hl, q⟩
theorem gray_at : ∀ (bs : List Int) (i : Nat) (b : Int), bs[i]? = some b → (grayF bs)[i]? = some ((b + (bs.drop (i + 1)).headD 0) % 2)
  | [], i, b, h => by simp at h
  | c :: r, 0, b, h => by
    have e : c = b := Option.some.inj h
    subst e
    rfl
  | c :: r, i + 1, b, h => by
    show (grayF r)[i]? = _
    exact gray_at r i b h
theorem take_snoc {α : Type} {l : List α} {i : Nat} {x : α} (h : l[i]? = some x) : l.take (i + 1) = l.take i ++ [x] := by
  rw [List.take_add_one, h]
  rfl
theorem map_at {ns : List Int} {i : Nat} {n : Int} (h : ns[i]? = some n) : (ns.map V.int)[i]? = some (.int n) := by
  rw [List.getElem?_map, h]
  rfl
theorem ok_gray (T : Txt K mg) : Pr P w K mg base 1 (aG K "gray_of") ["bits"] (spGray K) := by
  refine pr_mk0 T.d_gray_of sc_gray_of (fun _ _ _ _ _ _ us hl => match us, hl with | [_], _ => rfl) (fun vs H Q E h => ?_) (fun cdv A outer s H vs Q E hr h => ?_)
  · obtain ⟨a, bs, rfl, _⟩ := h
    rfl
  · obtain ⟨a, bs, rfl, ha, hl, k⟩ := h
    refine ⟨_, (pss_cons (ps_set (i := 1) sc_gray_of.nd rfl (Or.inl rfl) (pe_lst pa_nil))
  (pss_cons (ps_for PassesOwn.never rfl (pi_range1 rfl T.z_range (pa_cons (pe_callB (r := rLenS K) call_len_seq (by rfl) T.z_len PySem.boot_len (pa_cons (pv 0) pa_nil)) pa_nil)) (pg_name (i := 2) sc_gray_of.nd rfl (Or.inl rfl))
    (pss_cons (ps_set (i := 3) sc_gray_of.nd rfl (Or.inl rfl) pe_int)
  (pss_cons (ps_if (pt_cmpR op_lt (pe_op op_add (pv 2) pe_int) (pe_callB (r := rLenS K) call_len_seq (by rfl) T.z_len PySem.boot_len (pa_cons (pv 0) pa_nil)) (nomark _)) (pss_one (ps_set (i := 3) sc_gray_of.nd rfl (Or.inl rfl) (pe_ix (r := rIxL K) ix_list (pv 0) (pe_op op_add (pv 2) pe_int) (fun _ _ => rfl)))) pss_nil)
  (pss_one (ps_expr (pe_bm PySem.F.plainAttrs_list PySem.F.slot_list_append PySem.F.type_list_append mt_append (pv 1) (pa_cons (pe_op op_mod (pe_op op_add (pe_ix (r := rIxL K) ix_list (pv 0) (pv 2) (fun _ _ => rfl)) (pv 3)) pe_int) pa_nil)))))))
  (pss_one (ps_ret (pv 1))))), ?_⟩
    refine q_asgL (el_lst ea_nil (by decide)) fun o H1 fo e1 ho => ?_
    refine q_forR1 (n := (bs.map V.int).length) (ea_cons (ev_len (ev_var rfl) (ex_l e1 ha)) ea_nil) ⟨by omega, by rw [List.length_map]; omega⟩
      (fun i σ' H' => ∃ y z, σ' = [some (.ref a), some (.ref o), y, z] ∧ Ex H H' ∧ H' o = some (.lst (((grayF bs).take i).map V.int))) (fun H2 e2 => ⟨none, none, rfl, e1.trans e2, e2 _ _ ho⟩) ?_ ?_
    · rintro i σ' H' hi ⟨y, z, rfl, e, ho'⟩
      rw [List.length_map] at hi
      have hi' : i < bs.length := by omega
      have hb := List.getElem?_eq_getElem hi'
      refine q_asg ev_c fun H2 e2 => ?_
      refine q_ifAsg (v := .int ((bs.drop (i + 1)).headD 0)) (et_test (ev_op (ev_op (ev_var rfl) ev_c rv_I0) (ev_len (ev_var rfl) (ex_l (e.trans e2) ha)) rv_I0)) (fun hb2 => ?_) (fun hb2 => ?_) fun H3 e3 => ?_
      · rw [decide_eq_true_eq, List.length_map] at hb2
        refine ev_op (ev_var rfl) (ev_op (ev_var rfl) ev_c rv_I0) (rv_ixL (ex_l (e.trans e2) ha) ?_)
        have hi2 : i + 1 < bs.length := by omega
        rw [List.drop_eq_getElem_cons hi2]
        exact atI_nat (j := i + 1) (map_at (List.getElem?_eq_getElem hi2))
      · rw [decide_eq_false_iff_not, List.length_map] at hb2
        rw [List.drop_eq_nil_of_le (by omega)]
        rfl
      · have e' := (e.trans e2).trans e3
        refine s_app (e3 _ _ (e2 _ _ ho')) (ev_var rfl) (ev_op (ev_op (ev_op (ev_var rfl) (ev_var rfl) (rv_ixL (ex_l e' ha) (atI_nat (map_at hb)))) (ev_var rfl) rv_I0) ev_c (rv_I (by decide))) ?_ fun H4 e4 => ?_
        · rw [List.length_map, List.length_take]
          omega
        · refine ⟨_, _, rfl, ex_upd (e'.trans e4) (by
            cases q : H o with
            | none => rfl
            | some u => exact absurd rfl (ne_of_none q fo)), ?_⟩
          rw [upd_same, take_snoc (gray_at bs i _ hb), List.map_append]
          rfl
    · rintro σ' H' ⟨y, z, rfl, e, ho'⟩
      rw [Int.toNat_natCast, List.length_map, ← grayF_len bs, List.take_length] at ho'
      refine s_ret (ev_var rfl) fun H2 e2 => k o H2 fo (e.trans e2) (e2 _ _ ho')
theorem bitsF_snoc : ∀ (n : Nat) (x : Int), bitsF (n + 1) x = bitsF n x ++ [x / p2 n % 2]
  | 0, x => by
    show [x % 2] = [x / 1 % 2]
    rw [Int.ediv_one]
  | n + 1, x => by
    show x % 2 :: bitsF (n + 1) (x / 2) = x % 2 :: (bitsF n (x / 2) ++ [_])
    rw [bitsF_snoc n (x / 2), Int.ediv_ediv_of_nonneg (by decide)]
    rfl
theorem half_p2 (x : Int) (n : Nat) : x / p2 n / 2 = x / p2 (n + 1) := by
  have h := p2_pos n
  rw [Int.ediv_ediv_of_nonneg (by omega), Int.mul_comm]
  rfl
theorem ok_sw_put (T : Txt K mg) (n : Nat) (hn : n ≤ 40) : Pr P w K mg base 2 (aM K "Switches" "put") ["self", "number"] (spPut (swL K n)) := by
  obtain ⟨_, G_gray_of, b_gray_of, kp_gray_of⟩ := ok_gray (P := P) (w := w) (base := base) T
  refine pr_mk0 T.d_Switches_put sc_Switches_put (fun _ _ _ _ _ _ us hl => match us, hl with | [_, _], _ => rfl) (fun vs H Q E h => ?_) (fun cdv A outer s H vs Q E hr h => ?_)
  · obtain ⟨p, x, rfl, _⟩ := h
    rfl
  · obtain ⟨p, x, rfl, ⟨dx, hp⟩, hx, k⟩ := h
    refine ⟨_, (pss_cons (ps_set (i := 2) sc_Switches_put.nd rfl (Or.inl rfl) (pe_lst pa_nil))
  (pss_cons (ps_for PassesOwn.never rfl (pi_range1 rfl T.z_range (pa_cons (pe_fld (pv 0) rfl) pa_nil)) (pg_name (i := 3) sc_Switches_put.nd rfl (Or.inl rfl))
    (pss_cons (ps_expr (pe_bm PySem.F.plainAttrs_list PySem.F.slot_list_append PySem.F.type_list_append mt_append (pv 2) (pa_cons (pe_op op_mod (pv 1) pe_int) pa_nil)))
  (pss_one (ps_set (i := 1) sc_Switches_put.nd rfl (Or.inl rfl) (pe_op op_fdiv (pv 1) pe_int)))))
  (pss_one (ps_ret (pe_call G_gray_of (hr.mono (by decide)) rfl T.g_gray_of kp_gray_of b_gray_of .nil passL (pa_cons (pv 2) pa_nil)))))), ?_⟩
    refine q_asgL (el_lst ea_nil (by decide)) fun o H1 fo e1 ho => ?_
    refine q_forR1 (n := n) (ea_cons (ev_fld (ev_var rfl) (e1 _ _ hp) T.c_Switches T.n_Switches_length (len_at _)) ea_nil) ⟨by omega, by omega⟩
      (fun i σ' H' => ∃ y, σ' = [some (.ref p), some (.int (x / p2 i)), some (.ref o), y] ∧ Ex H H' ∧ H' o = some (.lst ((bitsF i x).map V.int))) (fun H2 e2 => ⟨none, ?_, e1.trans e2, e2 _ _ ho⟩) ?_ ?_
    · show _ = [some (V.ref p), some (V.int (x / 1)), some (V.ref o), none]
      rw [Int.ediv_one]
      rfl
    · rintro i σ' H' hi ⟨y, rfl, e, ho'⟩
      refine q_app ho' (ev_var rfl) (ev_op (ev_var rfl) ev_c (rv_I (by decide))) ?_ fun H2 e2 => ?_
      · rw [List.length_map, bitsF_len]
        omega
      · refine s_asg (ev_op (ev_var rfl) ev_c (rv_I ⟨by decide, by decide⟩)) fun H3 e3 => ⟨some (.int i), ?_, (ex_upd (e.trans e2) fo).trans e3, ?_⟩
        · rw [half_p2]
          rfl
        · refine e3 _ _ ?_
          rw [upd_same, bitsF_snoc, List.map_append]
          rfl
    · rintro σ' H' ⟨y, rfl, e, ho'⟩
      refine s_retl (el_call (ea_cons (ev_var rfl) ea_nil) (sl_gray (sq_of ho') ?_)) (RetL.ex k e)
      rw [bitsF_len]
      omega
def spBits (K : PySem.W.Frag) : Sp := fun vs H Q _ => ∃ a ts, vs = [.ref a] ∧ SqL K H a (ts.map V.int) ∧ ts.length ≤ 63 ∧ RetL ((ungray ts).map V.int) H Q
theorem sl_bits {a : Addr} {ts : List Int} (h : SqL K H a (ts.map V.int)) (hl : ts.length ≤ 63) : SpL (spBits K) [.ref a] H ((ungray ts).map V.int) := fun H1 e Q q E => ⟨a, ts, rfl, ex_l e h, hl, q⟩
theorem ungray_drop {ts : List Int} {j : Nat} {t : Int} (h : ts[j]? = some t) : ungray (ts.drop j) = ((ungray (ts.drop (j + 1))).headD 0 + t) % 2 :: ungray (ts.drop (j + 1)) := by
  obtain ⟨hj, e⟩ := List.getElem?_eq_some_iff.mp h
  rw [List.drop_eq_getElem_cons hj, e]
  rfl
theorem ok_bits (T : Txt K mg) : Pr P w K mg base 1 (aG K "bits_of") ["thing"] (spBits K) := by
  refine pr_mk0 T.d_bits_of sc_bits_of (fun _ _ _ _ _ _ us hl => match us, hl with | [_], _ => rfl) (fun vs H Q E h => ?_) (fun cdv A outer s H vs Q E hr h => ?_)
  · obtain ⟨a, ts, rfl, _⟩ := h
    rfl
  · obtain ⟨a, ts, rfl, ha, hl, k⟩ := h
    refine ⟨_, (pss_cons (ps_set (i := 1) sc_bits_of.nd rfl (Or.inl rfl) (pe_lst pa_nil))
  (pss_cons (ps_set (i := 2) sc_bits_of.nd rfl (Or.inl rfl) pe_int)
  (pss_cons (ps_for PassesOwn.never rfl (pi_reversed rfl T.z_reversed (pa_cons (pv 0) pa_nil)) (pg_name (i := 3) sc_bits_of.nd rfl (Or.inl rfl))
    (pss_cons (ps_set (i := 2) sc_bits_of.nd rfl (Or.inl rfl) (pe_op op_mod (pe_op op_add (pv 2) (pv 3)) pe_int))
  (pss_one (ps_expr (pe_bm PySem.F.plainAttrs_list PySem.F.slot_list_append PySem.F.type_list_append mt_append (pv 1) (pa_cons (pv 2) pa_nil))))))
  (pss_one (ps_ret (pe_listRev rfl rfl T.z_list rfl T.z_reversed (pv 1))))))), ?_⟩
    refine q_asgL (el_lst ea_nil (by decide)) fun o H1 fo e1 ho => ?_
    refine q_asg ev_c fun H2 e2 => ?_
    refine q_forV (ea_cons (ev_var rfl) ea_nil) (ex_l (e1.trans e2) ha)
      (fun i σ' H' => ∃ y, σ' = [some (.ref a), some (.ref o), some (.int ((ungray (ts.drop (ts.length - i))).headD 0)), y] ∧ Ex H H' ∧ H' o = some (.lst ((ungray (ts.drop (ts.length - i))).reverse.map V.int))) (fun H3 e3 => ⟨none, ?_, (e1.trans e2).trans e3, ?_⟩) (fun i σ' H' ⟨y, _, e, _⟩ => ex_l e ha) ?_ ?_
    · rw [Nat.sub_zero, List.drop_length]
      rfl
    · rw [Nat.sub_zero, List.drop_length]
      exact e3 _ _ (e2 _ _ ho)
    · rintro i x σ' H' hi hx ⟨y, rfl, e, ho'⟩
      rw [List.length_map] at hi hx
      obtain ⟨t, ht, rfl⟩ : ∃ t, ts[ts.length - 1 - i]? = some t ∧ V.int t = x := by
        rw [List.getElem?_map] at hx
        obtain ⟨t, h1, h2⟩ := Option.map_eq_some_iff.mp hx
        exact ⟨t, h1, h2⟩
      have q := ungray_drop ht
      rw [show ts.length - 1 - i = ts.length - (i + 1) by omega, show ts.length - (i + 1) + 1 = ts.length - i by omega] at q
      refine q_asg (ev_op (ev_op (ev_var rfl) (ev_var rfl) rv_I0) ev_c (rv_I (by decide))) fun H3 e3 => ?_
      refine s_app (e3 _ _ ho') (ev_var rfl) (ev_var rfl) ?_ fun H4 e4 => ⟨some (.int t), ?_, ex_upd ((e.trans e3).trans e4) fo, ?_⟩
      · rw [List.length_map, List.length_reverse, ungray_len, List.length_drop]
        omega
      · rw [q]
        rfl
      · rw [upd_same, q, List.reverse_cons, List.map_append]
        rfl
    · rintro σ' H' ⟨y, rfl, e, ho'⟩
      rw [List.length_map, Nat.sub_self, List.drop_zero] at ho'
      have q := el_listRev (K := K) (σ := [some (V.ref a), some (.ref o), some (.int ((ungray (ts.drop (ts.length - (ts.map V.int).length))).headD 0)), y]) (te := tVar 1) (ev_var rfl) (sq_of ho')
      rw [← List.map_reverse, List.reverse_reverse] at q
      exact s_retl q (RetL.ex k e)
theorem ok_sw_found (T : Txt K mg) (n : Nat) (hn : n ≤ 40) : Pr P w K mg base 2 (aM K "Switches" "found") ["self", "thing"] (spFound K (swL K n)) := by
  obtain ⟨_, G_bits_of, b_bits_of, kp_bits_of⟩ := ok_bits (P := P) (w := w) (base := base) T
  refine pr_mk0 T.d_Switches_found sc_Switches_found (fun _ _ _ _ _ _ us hl => match us, hl with | [_, _], _ => rfl) (fun vs H Q E h => ?_) (fun cdv A outer s H vs Q E hr h => ?_)
  · obtain ⟨p, a, ts, rfl, _⟩ := h
    rfl
  · obtain ⟨p, a, ts, rfl, ⟨dx, hp⟩, ha, ht, k⟩ := h
    have hl : ts.length = n := (swTh_iff.mp ht).1
    refine ⟨_, (pss_cons (ps_set (i := 2) sc_Switches_found.nd rfl (Or.inl rfl) pe_int)
  (pss_cons (ps_for PassesOwn.never rfl (pi_reversed rfl T.z_reversed (pa_cons (pe_call G_bits_of (hr.mono (by decide)) rfl T.g_bits_of kp_bits_of b_bits_of .nil passL (pa_cons (pv 1) pa_nil)) pa_nil)) (pg_name (i := 3) sc_Switches_found.nd rfl (Or.inl rfl))
    (pss_one (ps_set (i := 2) sc_Switches_found.nd rfl (Or.inl rfl) (pe_op op_add (pe_op op_mul pe_int (pv 2)) (pv 3)))))
  (pss_one (ps_ret (pv 2))))), ?_⟩
    refine q_asg ev_c fun H1 e1 => ?_
    refine q_forNV (el_call (ea_cons (ev_var rfl) ea_nil) (sl_bits (ex_l e1 ha) (by omega)))
      (fun u i σ' H' => ∃ y, σ' = [some (.ref p), some (.ref a), some (.int (valF ((ungray ts).drop ((ungray ts).length - i)))), y] ∧ Ex H H' ∧ H' u = some (.lst ((ungray ts).map V.int))) (fun u H2 fu e2 hu => ⟨none, ?_, e1.trans e2, hu⟩) (fun u i σ' H' ⟨y, _, e, hu⟩ => sq_of hu) ?_ ?_
    · rw [Nat.sub_zero, List.drop_length]
      rfl
    · rintro u i x σ' H' hi hx ⟨y, rfl, e, hu⟩
      rw [List.length_map] at hi hx
      obtain ⟨t, ht, rfl⟩ : ∃ t, (ungray ts)[(ungray ts).length - 1 - i]? = some t ∧ V.int t = x := by
        rw [List.getElem?_map] at hx
        obtain ⟨t, h1, h2⟩ := Option.map_eq_some_iff.mp hx
        exact ⟨t, h1, h2⟩
      obtain ⟨hj, ej⟩ := List.getElem?_eq_some_iff.mp ht
      refine s_asg (ev_op (ev_op ev_c (ev_var rfl) (rv_I (Or.inl ⟨by decide, by decide⟩))) (ev_var rfl) rv_I0) fun H3 e3 => ⟨some (.int t), ?_, e.trans e3, e3 _ _ hu⟩
      rw [show (ungray ts).length - (i + 1) = (ungray ts).length - 1 - i by omega, List.drop_eq_getElem_cons hj, ej, show (ungray ts).length - 1 - i + 1 = (ungray ts).length - i by omega]
      rfl
    · rintro u σ' H' ⟨y, rfl, e, hu⟩
      rw [List.length_map, Nat.sub_self, List.drop_zero]
      exact s_retv (ev_var rfl) (RetV.ex k e)
end
end Oc
namespace Oc
open PySem PySem.Spec PyProof.Rows L2 Evl
/-! ### the place that changes -/
section
variable {P : Program} {w : World} {K : PySem.W.Frag} {mg : Str → Option Value} {base : Heap} {H : Hp} {p : Addr}
def spChg (K : PySem.W.Frag) (n : Nat) : Sp := fun vs H Q E => ∃ p x, vs = [.ref p, .int x] ∧ (swL K n).At H p ∧ (1 ≤ n ∧ 0 ≤ x ∧ x < p2 n → RetV (.int (chg n x)) H Q) ∧ (¬ (1 ≤ n ∧ 0 ≤ x ∧ x < p2 n) → RetE (aG K "NoNumber") H E)
theorem sv_chg {n : Nat} (hp : (swL K n).At H p) {x : Int} (hn : 1 ≤ n) (h0 : 0 ≤ x) (h1 : x < p2 n) : SpV (spChg K n) [.ref p, .int x] H (.int (chg n x)) := fun H1 e Q q E => by
  obtain ⟨dx, hp⟩ := hp
  exact ⟨p, x, rfl, ⟨dx, e _ _ hp⟩, fun _ => q, fun z => absurd ⟨hn, h0, h1⟩ z⟩
theorem chg_step {r : Nat} {y : Int} : chg (r + 2) y = if y % 2 = 1 then chg (r + 1) (y / 2) + 1 else 0 := rfl
theorem ok_chg (T : Txt K mg) (n : Nat) (hn : n ≤ 40) (Pa : Pr P w K mg base 3 (aM K "Switches" "asked_number") ["self", "number"] (spAsked (aG K "NoNumber") (swL K n))) : Pr P w K mg base 4 (aM K "Switches" "changed") ["self", "number"] (spChg K n) := by
  obtain ⟨_, G_asked_number, b_asked_number, _⟩ := Pa
  have c_self := T.c_Switches
  have M_asked_number := T.m_Switches_asked_number
  refine pr_mk T.d_Switches_changed sc_Switches_changed (fun _ _ _ _ _ _ us hl => match us, hl with | [_, _], _ => rfl) (fun vs H Q E h => ?_) (fun cdv A outer s H vs Q E hr h => ?_)
  · obtain ⟨p, x, rfl, _⟩ := h
    rfl
  · obtain ⟨p, x, rfl, ⟨dx, hp⟩, k, kE⟩ := h
    refine ⟨_, (pss_cons (ps_if (pt_cmpR op_eq (pe_fld (pv 0) rfl) pe_int (nomark _)) (pss_one (ps_set (i := 1) sc_Switches_changed.nd rfl (Or.inl rfl) (pe_un un_neg pe_int))) pss_nil)
  (pss_cons (ps_expr (pe_meth (pv 0) c_self M_asked_number G_asked_number (hr.mono (by decide)) b_asked_number .nil (passes_call (takes_of rfl rfl rfl rfl) (fun _ _ _ _ h => h)) (pa_cons (pv 1) pa_nil)))
  (pss_cons (ps_set (i := 2) sc_Switches_changed.nd rfl (Or.inl rfl) pe_int)
  (pss_cons (ps_while (passes_of rfl) (PW.pt (pw_and (pt_cmpR op_eq (pe_op op_mod (pv 1) pe_int) pe_int (nomark _)) (pw_and1 (pt_cmpR op_lt (pv 2) (pe_op op_sub (pe_fld (pv 0) rfl) pe_int) (nomark _)))))
    (pss_cons (ps_set (i := 1) sc_Switches_changed.nd rfl (Or.inl rfl) (pe_op op_fdiv (pv 1) pe_int))
  (pss_one (ps_set (i := 2) sc_Switches_changed.nd rfl (Or.inl rfl) (pe_op op_add (pv 2) pe_int)))))
  (pss_one (ps_ret (pv 2))))))), ?_⟩
    refine q_ifAsg (v := .int (if n = 0 then -1 else x)) (et_test (ev_op (ev_fld (ev_var rfl) hp T.c_Switches T.n_Switches_length (len_at _)) ev_c (rv_eq rfl))) (fun hb => ?_) (fun hb => ?_) fun H1 e1 => ?_
    · rw [dec_int] at hb
      have e0 : n = 0 := by
        have := eq_of_beq hb
        omega
      rw [if_pos e0]
      exact ev_un ev_c ru_neg
    · rw [dec_int] at hb
      have e0 : ¬ n = 0 := fun z => by rw [z] at hb; simp at hb
      rw [if_neg e0]
      rfl
    · refine ⟨_, rfl, p, dx, _, rfl, e1 _ _ hp, lk_none (sw_keys _ (by decide +kernel)), _, rfl, p, _, rfl, ⟨dx, e1 _ _ hp⟩, fun hx H2 e2 => ?_, fun hx => RetE.ex (kE fun z => hx ?_) e1⟩
      · have hp2 := e2 _ _ (e1 _ _ hp)
        have hx' : 1 ≤ n ∧ 0 ≤ x ∧ x < p2 n := by
          obtain ⟨h0, h1⟩ := hx
          by_cases e0 : n = 0
          · rw [if_pos e0] at h0
            omega
          · rw [if_neg e0] at h0 h1
            exact ⟨by omega, h0, h1⟩
        rw [if_neg (show ¬ n = 0 by omega)]
        refine q_asg ev_c fun H3 e3 => ?_
        refine q_while (fun m σ' H' => ∃ j : Nat, σ' = [some (.ref p), some (.int (x / p2 j)), some (.int j)] ∧ Ex H H' ∧ H' p = some (.ins (aG K "Switches") dx (lenF n)) ∧ j < n ∧ m = n - j ∧ chg n x = j + chg (n - j) (x / p2 j)) n ⟨0, ?_, ((e1.trans e2).trans e3), e3 _ _ hp2, by omega, by omega, ?_⟩ ?_
        · show _ = [some (V.ref p), some (V.int (x / 1)), some (V.int ((0 : Nat) : Int))]
          rw [Int.ediv_one]
          rfl
        · show chg n x = 0 + chg n (x / 1)
          rw [Int.ediv_one, Nat.zero_add]
        · rintro m σ' H' ⟨j, rfl, e, hp', hj, rfl, hc⟩
          refine ⟨_, et_and (et_test (ev_op (ev_op (ev_var rfl) ev_c (rv_I (by decide))) ev_c (rv_eq rfl))) fun _ => et_test (ev_op (ev_var rfl) (ev_op (ev_fld (ev_var rfl) hp' T.c_Switches T.n_Switches_length (len_at _)) ev_c rv_I0) rv_I0), fun hb H4 e4 => ?_, fun hb H4 e4 => ?_⟩
          · rw [dec_int] at hb
            simp only [Bool.and_eq_true, decide_eq_true_eq, beq_iff_eq] at hb
            refine ⟨fun σ2 H2 => ∃ y : Int, ∃ z : Nat, σ2 = [some (.ref p), some (.int y), some (.int z)] ∧ y = x / p2 (j + 1) ∧ z = j + 1 ∧ Ex H H2 ∧ H2 p = some (.ins (aG K "Switches") dx (lenF n)), fun σ2 H2 hN => ?_, ?_⟩
            · obtain ⟨y, z, rfl, rfl, rfl, eN, hN⟩ := hN
              refine ⟨n - (j + 1), by omega, j + 1, rfl, eN, hN, by omega, rfl, ?_⟩
              obtain ⟨r, hr⟩ : ∃ r, n - j = r + 2 := ⟨n - j - 2, by omega⟩
              rw [hc, hr, chg_step, if_pos hb.1, half_p2, show n - (j + 1) = r + 1 by omega]
              omega
            · refine q_asg (ev_op (ev_var rfl) ev_c (rv_I ⟨by decide, by decide⟩)) fun H5 e5 => ?_
              refine s_asg (ev_op (ev_var rfl) ev_c rv_I0) fun H6 e6 => ⟨_, j + 1, ?_, rfl, rfl, ((e.trans e4).trans e5).trans e6, e6 _ _ (e5 _ _ (e4 _ _ hp'))⟩
              rw [half_p2]
              rfl
          · refine s_retv (ev_var rfl) ?_
            have q : chg n x = j := by
              rw [dec_int] at hb
              obtain ⟨r, hr⟩ : ∃ r, n - j = r + 1 := ⟨n - j - 1, by omega⟩
              rw [hc, hr]
              cases r with
              | zero => rfl
              | succ r =>
                rw [chg_step, if_neg ?_]
                · rfl
                · intro z
                  rw [z] at hb
                  simp at hb
                  omega
            have k2 := k hx'
            rw [q] at k2
            exact RetV.ex k2 (e.trans e4)
      · obtain ⟨z1, z2, z3⟩ := z
        rw [if_neg (by omega)]
        exact ⟨z2, z3⟩
theorem sw_asked (T : Txt K mg) (n : Nat) (hn : n ≤ 40) : Pr P w K mg base 3 (aM K "Switches" "asked_number") ["self", "number"] (spAsked (aG K "NoNumber") (swL K n)) :=
  ok_asked T (swB T n) T.d_Switches_asked_number T.m_Switches_size ((ok_sw_size T n hn).mono (by decide))
theorem sw_thing (T : Txt K mg) (n : Nat) (hn : n ≤ 40) : Pr P w K mg base 4 (aM K "Switches" "thing_at") ["self", "number"] (spThing (aG K "NoNumber") (swL K n)) :=
  ok_thing (swB T n) T.d_Switches_thing_at T.m_Switches_asked_number (sw_asked T n hn) T.m_Switches_put ((ok_sw_put T n hn).mono (by decide))
end
end Oc
namespace Oc
open PySem PySem.Spec PyProof.Rows L2 Evl
/-! ### the laws' small helpers -/
/-- a cell of the script -/
def cell (ns : List Int) (k : Int) : Int := ns.getD k.toNat 0
section
variable {P : Program} {w : World} {K : PySem.W.Frag} {mg : Str → Option Value} {base : Heap} {H : Hp} {p a : Addr}
def spCell (K : PySem.W.Frag) : Sp := fun vs H Q _ => ∃ a ns k, vs = [.ref a, .int k] ∧ SqL K H a (ns.map V.int) ∧ 0 ≤ k ∧ RetV (.int (cell ns k)) H Q
theorem sv_cell {ns : List Int} {k : Int} (h : SqL K H a (ns.map V.int)) (hk : 0 ≤ k) : SpV (spCell K) [.ref a, .int k] H (.int (cell ns k)) := fun H1 e Q q E => ⟨a, ns, k, rfl, ex_l e h, hk, q⟩
theorem ok_cell (T : Txt K mg) : Pr P w K mg base 1 (aG K "_law_cell_at") ["script", "k"] (spCell K) := by
  refine pr_mk0 T.d__law_cell_at sc__law_cell_at (fun _ _ _ _ _ _ us hl => match us, hl with | [_, _], _ => rfl) (fun vs H Q E h => ?_) (fun cdv A outer s H vs Q E hr h => ?_)
  · obtain ⟨a, ns, k, rfl, _⟩ := h
    rfl
  · obtain ⟨a, ns, i, rfl, hS, hi, k⟩ := h
    refine ⟨_, (pss_cons (ps_if (pt_cmpR op_lt (pv 1) (pe_callB (r := rLenS K) call_len_seq (by rfl) T.z_len PySem.boot_len (pa_cons (pv 0) pa_nil)) (nomark _)) (pss_one (ps_ret (pe_ix (r := rIxL K) ix_list (pv 0) (pv 1) (fun _ _ => rfl)))) pss_nil)
  (pss_one (ps_ret pe_int))), ?_⟩
    refine q_when (et_test (ev_op (ev_var rfl) (ev_len (ev_var rfl) hS) rv_I0)) (fun hb H1 e1 => ?_) (fun hb H1 e1 => ?_)
    · rw [decide_eq_true_eq, List.length_map] at hb
      obtain ⟨j, rfl⟩ : ∃ j : Nat, i = (j : Int) := ⟨i.toNat, by omega⟩
      have hj : j < ns.length := by omega
      have q : cell ns (j : Int) = ns[j] := by
        unfold cell
        rw [Int.toNat_natCast, List.getD_eq_getElem?_getD, List.getElem?_eq_getElem hj]
        rfl
      rw [q] at k
      exact s_retv (ev_op (ev_var rfl) (ev_var rfl) (rv_ixL (ex_l e1 hS) (atI_nat (by rw [List.getElem?_map, List.getElem?_eq_getElem hj]; rfl)))) (RetV.ex k e1)
    · rw [decide_eq_false_iff_not, List.length_map] at hb
      have q : cell ns i = 0 := by
        unfold cell
        rw [List.getD_eq_getElem?_getD, List.getElem?_eq_none (by omega)]
        rfl
      rw [q] at k
      exact s_retv ev_c (RetV.ex k e1)
def spWhole : Sp := fun vs H Q _ => ∃ i, vs = [.int i] ∧ RetV (.bl true) H Q
theorem sv_whole {i : Int} : SpV spWhole [.int i] H (.bl true) := fun H1 e Q q E => ⟨i, rfl, q⟩
theorem ok_whole (T : Txt K mg) : Pr P w K mg base 1 (aG K "_law_whole") ["found"] spWhole := by
  refine pr_mk0 T.d__law_whole sc__law_whole (fun _ _ _ _ _ _ us hl => match us, hl with | [_], _ => rfl) (fun vs H Q E h => ?_) (fun cdv A outer s H vs Q E hr h => ?_)
  · obtain ⟨i, rfl, _⟩ := h
    rfl
  · obtain ⟨i, rfl, k⟩ := h
    refine ⟨_, (pss_one (ps_ret (pe_and (pe_callB (r := rIsi K) call_isi (by rfl) T.z_isinstance boot_isinstance (pa_cons (pv 0) (pa_cons (pe_bltn (v := .ty "int") rfl T.z_int boot_int rfl) pa_nil))) (pe_one (pe_not (pe_callB (r := rIsi K) call_isi (by rfl) T.z_isinstance boot_isinstance (pa_cons (pv 0) (pa_cons (pe_bltn (v := .ty "bool") rfl T.z_bool boot_bool rfl) pa_nil)))))))), ?_⟩
    exact s_retv (ev_andV (ev_isi (ev_var rfl) ev_c (.ty "int") (fun H1 _ => .base (.int i)) (kit_ty (r := true) (by decide +kernel))) fun _ => ev_notV (ev_isi (ev_var rfl) ev_c (.ty "bool") (fun H1 _ => .base (.int i)) (kit_ty (r := false) (by decide +kernel)))) k
end
end Oc
namespace Oc
open PySem PySem.Spec PyProof.Rows L2 Evl
/-! ### the law -/
/-- one of three -/
theorem pick3 (x y z : V) {i : Int} (h : 0 ≤ i ∧ i < 3) : ∃ j : Nat, j < 3 ∧ i = j ∧ atI [x, y, z] i = some ([x, y, z].getD j .non) := by
  obtain ⟨j, rfl⟩ : ∃ j : Nat, i = (j : Int) := ⟨i.toNat, by omega⟩
  have hj : j < 3 := by omega
  refine ⟨j, hj, rfl, atI_nat ?_⟩
  match j, hj with
  | 0, _ => rfl
  | 1, _ => rfl
  | 2, _ => rfl
theorem flip_ne : ∀ (l : List Int) (j : Nat), Bits l → ∀ k, k < l.length → (l[k]? ≠ (flip l j)[k]? ↔ k = j)
  | l, j, hb, k, hk => by
    rw [flip_get]
    have hx := List.getElem?_eq_getElem hk
    by_cases e : k = j
    · rw [if_pos e, hx]
      have b := hb l[k] (List.getElem_mem hk)
      constructor
      · exact fun _ => e
      · intro _ z
        have z2 : l[k] = 1 - l[k] := Option.some.inj z
        omega
    · rw [if_neg e]
      exact ⟨fun z => absurd rfl z, fun z => absurd z e⟩
theorem filter_one : ∀ (n j : Nat), j < n → (List.range n).filter (fun k => decide (k = j)) = [j]
  | 0, j, h => absurd h (Nat.not_lt_zero _)
  | n + 1, j, h => by
    rw [List.range_succ, List.filter_append]
    by_cases e : j = n
    · subst e
      have z : (List.range j).filter (fun k => decide (k = j)) = [] := by
        rw [List.filter_eq_nil_iff]
        intro k hk
        have := List.mem_range.mp hk
        simp only [decide_eq_true_eq]
        omega
      rw [z]
      simp
    · rw [filter_one n j (by omega)]
      have z : decide (n = j) = false := decide_eq_false (fun q => e q.symm)
      simp [z]
section
variable {P : Program} {w : World} {K : PySem.W.Frag} {mg : Str → Option Value} {base : Heap}
theorem ok_law {f : Addr} {fd : FuncData} (T : Txt K mg) (F : FunD K "law" "law" (defArgs s_law) (defBody s_law) (defScope s_law) [] [] f fd) : FnOk P w K mg base (L2.CX P w) 5 f fd ["script"] (spLaw K) := by
  obtain ⟨_, G__law_cell_at, b__law_cell_at, kp__law_cell_at⟩ := ok_cell (P := P) (w := w) (base := base) T
  obtain ⟨_, G__law_whole, b__law_whole, kp__law_whole⟩ := ok_whole (P := P) (w := w) (base := base) T
  obtain ⟨_, G_Switches, b_Switches, _⟩ := ok_sw_init (P := P) (w := w) (base := base) T
  have c_L := T.c_Switches
  have M_thing_at := T.m_Switches_thing_at
  have M_changed := T.m_Switches_changed
  refine fn_mk0 F sc_law (fun vs H Q E h => ?_) (fun cdv A outer s H vs Q E hr h => ?_)
  · obtain ⟨a, ns, rfl, _⟩ := h
    rfl
  · obtain ⟨a, ns, rfl, hS, hl, k⟩ := h
    obtain ⟨m, hm⟩ : ∃ m : Nat, 1 + cell ns 0 % 40 = ((m + 1 : Nat) : Int) := ⟨(cell ns 0 % 40).toNat, by omega⟩
    have hm2 : m + 1 ≤ 40 := by omega
    have B := swB T (m + 1)
    obtain ⟨_, G_thing_at, b_thing_at, _⟩ := sw_thing (P := P) (w := w) (base := base) T (m + 1) hm2
    obtain ⟨_, G_changed, b_changed, _⟩ := ok_chg (P := P) (w := w) (base := base) T (m + 1) hm2 (sw_asked T (m + 1) hm2)
    refine ⟨_, (pss_cons (ps_set (i := 1) sc_law.nd rfl (Or.inl rfl) (pe_op op_add pe_int (pe_op op_mod (pe_call G__law_cell_at (hr.mono (by decide)) rfl T.g__law_cell_at kp__law_cell_at b__law_cell_at .nil passL (pa_cons (pv 0) (pa_cons pe_int pa_nil))) pe_int)))
  (pss_cons (ps_set (i := 2) sc_law.nd rfl (Or.inl rfl) pe_int)
  (pss_cons (ps_for PassesOwn.never rfl (pi_range1 rfl T.z_range (pa_cons (pv 1) pa_nil)) (pg_name (i := 3) sc_law.nd rfl (Or.inl rfl))
    (pss_one (ps_set (i := 2) sc_law.nd rfl (Or.inl rfl) (pe_op op_mul (pv 2) pe_int))))
  (pss_cons (ps_set (i := 4) sc_law.nd rfl (Or.inl rfl) (pe_op op_mod (pe_call G__law_cell_at (hr.mono (by decide)) rfl T.g__law_cell_at kp__law_cell_at b__law_cell_at .nil passL (pa_cons (pv 0) (pa_cons pe_int pa_nil))) (pv 2)))
  (pss_cons (ps_if (pt_cmpR op_eq (pe_op op_mod (pe_call G__law_cell_at (hr.mono (by decide)) rfl T.g__law_cell_at kp__law_cell_at b__law_cell_at .nil passL (pa_cons (pv 0) (pa_cons pe_int pa_nil))) pe_int) pe_int (nomark _)) (pss_one (ps_set (i := 4) sc_law.nd rfl (Or.inl rfl) (pe_ix (r := rIxL K) ix_list (pe_lst (pa_cons (pe_op op_sub (pv 2) pe_int) (pa_cons (pe_op op_fdiv (pv 2) pe_int) (pa_cons (pe_op op_sub (pe_op op_fdiv (pv 2) pe_int) pe_int) pa_nil)))) (pe_op op_mod (pe_op op_fdiv (pe_call G__law_cell_at (hr.mono (by decide)) rfl T.g__law_cell_at kp__law_cell_at b__law_cell_at .nil passL (pa_cons (pv 0) (pa_cons pe_int pa_nil))) pe_int) pe_int) (fun _ _ => rfl)))) pss_nil)
  (pss_cons (ps_set (i := 5) sc_law.nd rfl (Or.inl rfl) (pe_make T.k_Switches G_Switches (hr.mono (by decide)) rfl T.g_Switches b_Switches .nil passL (pa_cons (pv 1) pa_nil)))
  (pss_cons (ps_set (i := 6) sc_law.nd rfl (Or.inr rfl) (pe_meth (pv 5) c_L M_thing_at G_thing_at (hr.mono (by decide)) b_thing_at .nil passL (pa_cons (pv 4) pa_nil)))
  (pss_cons (ps_set (i := 7) sc_law.nd rfl (Or.inr rfl) (pe_meth (pv 5) c_L M_thing_at G_thing_at (hr.mono (by decide)) b_thing_at .nil passL (pa_cons (pe_op op_mod (pe_op op_add (pv 4) pe_int) (pv 2)) pa_nil)))
  (pss_cons (ps_set (i := 8) sc_law.nd rfl (Or.inl rfl) (pe_meth (pv 5) c_L M_changed G_changed (hr.mono (by decide)) b_changed .nil passL (pa_cons (pv 4) pa_nil)))
  (pss_cons (ps_if (PW.pt (pw_or (pt_not (pt_val (pe_callB (r := rIsi K) call_isi (by rfl) T.z_isinstance boot_isinstance (pa_cons (pv 6) (pa_cons (pe_bltn (v := .ty "list") rfl T.z_list boot_list rfl) pa_nil))))) (pw_or (pt_not (pt_val (pe_callB (r := rIsi K) call_isi (by rfl) T.z_isinstance boot_isinstance (pa_cons (pv 7) (pa_cons (pe_bltn (v := .ty "list") rfl T.z_list boot_list rfl) pa_nil))))) (pw_or (pt_cmpR op_ne (pe_callB (r := rLenS K) call_len_seq (by rfl) T.z_len PySem.boot_len (pa_cons (pv 6) pa_nil)) (pv 1) (nomark _)) (pw_or1 (pt_cmpR op_ne (pe_callB (r := rLenS K) call_len_seq (by rfl) T.z_len PySem.boot_len (pa_cons (pv 7) pa_nil)) (pv 1) (nomark _))))))) (pss_one (ps_ret pe_bl)) pss_nil)
  (pss_one (ps_ret (pe_and (pe_call G__law_whole (hr.mono (by decide)) rfl T.g__law_whole kp__law_whole b__law_whole .nil passL (pa_cons (pv 8) pa_nil)) (pe_one (pe_cmpR (r := rEqD K) (op_eqD hr.units) (pe_lc (own := [("k", 3)]) rfl sc_law.nd (pi_range1 rfl T.z_range (pa_cons (pv 1) pa_nil)) (blkOk_by (own := [("k", 3)]) (N := ["script", "many", "top", "k", "at", "listing", "first", "second", "place"]) (sc := defScope s_law) (by decide +kernel)) (fun _ _ _ _ _ => (pg_name (i := 3) sc_law.nd rfl (Or.inl rfl))) (fun _ _ _ _ _ => (pts_one (pt_cmpR op_ne (pe_ix (r := rIxL K) ix_list (pv 6) (pv 3) (fun _ _ => rfl)) (pe_ix (r := rIxL K) ix_list (pv 7) (pv 3) (fun _ _ => rfl)) (nomark _)))) (fun _ _ _ _ _ => (pv 3))) (pe_lst (pa_cons (pv 8) pa_nil)) (nomark _)))))))))))))))), ?_⟩
    have hp := p2_pos m
    have hp1 : p2 (m + 1) = 2 * p2 m := rfl
    refine q_asg (v := .int ((m + 1 : Nat) : Int)) (ev_is (ev_op ev_c (ev_op (ev_call (ea_cons (ev_var rfl) (ea_cons ev_c ea_nil)) (sv_cell hS (by decide))) ev_c (rv_I (by decide))) rv_I0) (by rw [hm])) fun H1 e1 => ?_
    refine q_asg ev_c fun H2 e2 => ?_
    refine q_forR1 (n := ((m + 1 : Nat) : Int)) (ea_cons (ev_var rfl) ea_nil) ⟨by omega, by omega⟩ (fun i σ' H' => ∃ y, σ' = [some (.ref a), some (.int ((m + 1 : Nat) : Int)), some (.int (p2 i)), y, none, none, none, none, none] ∧ Ex H H') (fun H3 e3 => ⟨none, rfl, (e1.trans e2).trans e3⟩) ?_ ?_
    · rintro i σ' H' hi ⟨y, rfl, e⟩
      refine s_asg (ev_op (ev_var rfl) ev_c (rv_I (Or.inr ⟨by decide, by decide⟩))) fun H3 e3 => ⟨some (.int i), ?_, e.trans e3⟩
      rw [p2_succ, Int.mul_comm]
      rfl
    · rintro σ' H' ⟨y, rfl, e⟩
      rw [Int.toNat_natCast]
      -- at
      refine q_asg (ev_op (ev_call (ea_cons (ev_var rfl) (ea_cons ev_c ea_nil)) (sv_cell (ex_l e hS) (by decide))) (ev_var rfl) (rv_I (p2_pos _))) fun H3 e3 => ?_
      obtain ⟨j, hj, ej, hat⟩ := pick3 (.int (p2 (m + 1) - 1)) (.int (p2 (m + 1) / 2)) (.int (p2 (m + 1) / 2 - 1)) (i := cell ns 2 / 4 % 3) (by omega)
      obtain ⟨z, hz, ez⟩ : ∃ z : Int, InN (swL K (m + 1)) z ∧ [V.int (p2 (m + 1) - 1), .int (p2 (m + 1) / 2), .int (p2 (m + 1) / 2 - 1)].getD j .non = .int z := by
        match j, hj with
        | 0, _ => exact ⟨_, ⟨by omega, by show _ < p2 (m + 1); omega⟩, rfl⟩
        | 1, _ => exact ⟨_, ⟨by omega, by show _ < p2 (m + 1); omega⟩, rfl⟩
        | 2, _ => exact ⟨_, ⟨by omega, by show _ < p2 (m + 1); omega⟩, rfl⟩
      rw [ez] at hat
      obtain ⟨u, hu, eu⟩ : ∃ u : Int, InN (swL K (m + 1)) u ∧ (if cell ns 2 % 4 = 1 then z else cell ns 1 % p2 (m + 1)) = u := by
        refine ⟨_, ?_, rfl⟩
        split
        · exact hz
        · exact ⟨Int.emod_nonneg _ (by omega), Int.emod_lt_of_pos _ (p2_pos _)⟩
      refine q_ifAsg (v := .int u) (et_test (ev_op (ev_op (ev_call (ea_cons (ev_var rfl) (ea_cons ev_c ea_nil)) (sv_cell (ex_l (e.trans e3) hS) (by decide))) ev_c (rv_I (by decide))) ev_c (rv_eq rfl))) (fun hb => ?_) (fun hb => ?_) fun H4 e4 => ?_
      · rw [dec_int, beq_iff_eq] at hb
        rw [if_pos hb] at eu
        rw [← eu]
        exact ev_opL1 (el_lst (ea_cons (ev_op (ev_var rfl) ev_c rv_I0) (ea_cons (ev_op (ev_var rfl) ev_c (rv_I ⟨by decide, by decide⟩)) (ea_cons (ev_op (ev_op (ev_var rfl) ev_c (rv_I ⟨by decide, by decide⟩)) ev_c rv_I0) ea_nil))) (by show 3 ≤ 100000; decide))
          (fun H5 e5 => ev_op (ev_op (ev_call (ea_cons (ev_var rfl) (ea_cons ev_c ea_nil)) (sv_cell (ex_l ((e.trans e3).trans e5) hS) (by decide))) ev_c (rv_I ⟨by decide, by decide⟩)) ev_c (rv_I (by decide))) fun p H5 hp5 e5 => rv_ixL (sq_of hp5) hat
      · rw [dec_int] at hb
        rw [if_neg (fun q => by rw [q] at hb; simp at hb)] at eu
        rw [← eu]
        rfl
      have e' := (e.trans e3).trans e4
      -- listing
      refine q_asgN (en_make (ea_cons (ev_var rfl) ea_nil) (in_sw (n := ((m + 1 : Nat) : Int)) ⟨by omega, by omega⟩)) fun v H5 _ e5 g => ?_
      obtain ⟨q, rfl, hq⟩ := g
      rw [Int.toNat_natCast] at hq
      obtain ⟨dx, fs, hi, hmm⟩ := B.ins hq
      have hu2 : InN (swL K (m + 1)) ((u + 1) % p2 (m + 1)) := ⟨Int.emod_nonneg _ (by omega), Int.emod_lt_of_pos _ (p2_pos _)⟩
      refine q_asgL (el_meth (ev_var rfl) hi (hmm _ (by decide +kernel)) (ea_cons (ev_var rfl) ea_nil) (sl_thing B hq hu)) fun p1 H6 _ e6 h1 => ?_
      refine q_asgL (el_meth (ev_var rfl) (e6 _ _ hi) (hmm _ (by decide +kernel)) (ea_cons (ev_op (ev_op (ev_var rfl) ev_c rv_I0) (ev_var rfl) (rv_I (p2_pos _))) ea_nil) (sl_thing B (B.mono e6 hq) hu2)) fun p2' H7 _ e7 h2 => ?_
      refine q_asg (ev_meth (ev_var rfl) (e7 _ _ (e6 _ _ hi)) (hmm _ (by decide +kernel)) (ea_cons (ev_var rfl) ea_nil) (sv_chg (B.mono (e6.trans e7) hq) (by omega) hu.1 hu.2)) fun H8 e8 => ?_
      have h1' := (e7.trans e8) _ _ h1
      have h2' := e8 _ _ h2
      have l1 : ((((swL K (m + 1)).put u).map V.int).length : Int) = ((m + 1 : Nat) : Int) := by
        rw [List.length_map]
        show ((swPut (m + 1) u).length : Int) = _
        rw [swPut_len]
      have l2 : ((((swL K (m + 1)).put ((u + 1) % p2 (m + 1))).map V.int).length : Int) = ((m + 1 : Nat) : Int) := by
        rw [List.length_map]
        show ((swPut (m + 1) _).length : Int) = _
        rw [swPut_len]
      refine q_when (b := false) (et_is (et_or (et_not (et_B (ev_isi (ev_var rfl) ev_c (.ty "list") (fun H9 e9 => .base (.lst (e9 _ _ h1'))) (kit_ty (r := true) (by decide +kernel))))) fun _ => et_or (et_not (et_B (ev_isi (ev_var rfl) ev_c (.ty "list") (fun H9 e9 => .base (.lst (e9 _ _ h2'))) (kit_ty (r := true) (by decide +kernel))))) fun _ =>
        et_or (et_test (ev_op (ev_len (ev_var rfl) (sq_of h1')) (ev_var rfl) (rv_ne rfl))) fun _ => et_test (ev_op (ev_len (ev_var rfl) (sq_of h2')) (ev_var rfl) (rv_ne rfl))) ?_) (fun hb => by cases hb) fun _ H9 e9 => ?_
      · rw [l1, l2]
        simp only [dec_int, beq_self_eq_true]
        rfl
      have s1 := sq_of (K := K) (e9 _ _ h1')
      have s2 := sq_of (K := K) (e9 _ _ h2')
      have nx : swPut (m + 1) ((u + 1) % p2 (m + 1)) = flip (swPut (m + 1) u) (chg (m + 1) u) := swPut_next m u hu.1 hu.2
      have ga : ∀ (x : Int) (i : Nat), i < m + 1 → ∃ y, (swPut (m + 1) x)[i]? = some y := fun x i hi => ⟨_, List.getElem?_eq_getElem (by rw [swPut_len]; exact hi)⟩
      refine s_ret (v := .bl true) (ev_is (ev_andV (ev_call (ea_cons (ev_var rfl) ea_nil) sv_whole) fun _ =>
        ev_opLL (xs := [V.int (chg (m + 1) u)]) (ys := [V.int (chg (m + 1) u)]) ?_ (el_lst (ea_cons (ev_var rfl) ea_nil) (by show 1 ≤ 100000; decide)) fun pa pb HA ha hb _ => rv_eqI (xs := [(chg (m + 1) u : Int)]) (ys := [(chg (m + 1) u : Int)]) (sq_of ha) (sq_of hb)) ?_) fun HB eB => k HB
      · have q := el_lcR1 (σ := [some (V.ref a), some (.int ((m + 1 : Nat) : Int)), some (.int (p2 (m + 1))), y, some (.int u), some (.ref q), some (.ref p1), some (.ref p2'), some (.int (chg (m + 1) u))]) (H := H9) (j := 3) (vs := [3])
          (te := tVar 3) (ta := tCons (tVar 1) tNil) (n := ((m + 1 : Nat) : Int)) (t := tTest (tOp rNe (tOp (rIxL K) (tVar 6) (tVar 3)) (tOp (rIxL K) (tVar 7) (tVar 3)))) (fun i => decide (i = chg (m + 1) u)) (fun i => .int (i : Nat))
          (ea_cons (ev_var rfl) ea_nil) ⟨by omega, by omega⟩ (fun _ => rfl) (fun i H1 e1 hi => ?_) (fun i H1 e1 hi _ => ev_var rfl)
        · rw [Int.toNat_natCast] at q
          unfold given at q
          rw [filter_one (m + 1) _ (chg_lt m u)] at q
          exact q
        · have hi' : i < m + 1 := by omega
          obtain ⟨y1, hy1⟩ := ga u i hi'
          obtain ⟨y2, hy2⟩ := ga ((u + 1) % p2 (m + 1)) i hi'
          refine et_is (et_test (ev_op (ev_op (ev_var rfl) (ev_var rfl) (rv_ixL (ex_l e1 s1) (atI_nat (map_at hy1)))) (ev_op (ev_var rfl) (ev_var rfl) (rv_ixL (ex_l e1 s2) (atI_nat (map_at hy2)))) (rv_ne rfl))) ?_
          have fl := flip_ne (swPut (m + 1) u) (chg (m + 1) u) (swPut_bits _ _) i (by rw [swPut_len]; exact hi')
          rw [← nx, hy1, hy2] at fl
          rw [dec_int]
          by_cases c : i = chg (m + 1) u
          · have n2 := fl.mpr c
            rw [decide_eq_true c]
            have n3 : ¬ y1 = y2 := fun q => n2 (by rw [q])
            simpa using n3
          · have n2 : y1 = y2 := Classical.byContradiction fun q => c (fl.mp (fun z => q (Option.some.inj z)))
            rw [decide_eq_false c, n2]
            simp
      · simp
end
end Oc
namespace Oc
open PySem PySem.Spec PyProof.Rows L2 Evl
def dd_ (at_ : Str × Option Str) (x q : Str) (s : Stmt) : He.DefD := ⟨at_, x, q, defArgs s, defBody s, defScope s, [], []⟩
def fn0 : List He.DefD := [dd_ ("gray_of", none) "gray_of" "gray_of" s_gray_of, dd_ ("bits_of", none) "bits_of" "bits_of" s_bits_of, dd_ ("_law_cell_at", none) "_law_cell_at" "_law_cell_at" s__law_cell_at, dd_ ("_law_whole", none) "_law_whole" "_law_whole" s__law_whole, dd_ ("law", none) "law" "law" s_law, dd_ ("Switches", some "many") "many" "Listing.many" s_Listing_many, dd_ ("Switches", some "asked_number") "asked_number" "Listing.asked_number" s_Listing_asked_number, dd_ ("Switches", some "thing_at") "thing_at" "Listing.thing_at" s_Listing_thing_at, dd_ ("Switches", some "__init__") "__init__" "Switches.__init__" s_Switches___init__, dd_ ("Switches", some "size") "size" "Switches.size" s_Switches_size, dd_ ("Switches", some "put") "put" "Switches.put" s_Switches_put, dd_ ("Switches", some "found") "found" "Switches.found" s_Switches_found, dd_ ("Switches", some "changed") "changed" "Switches.changed" s_Switches_changed]
def fn : List He.DefD := fn0
def fa0 : List He.Fa := [.free "bool", .free "int", .free "isinstance", .free "len", .free "list", .free "range", .free "reversed", .glo "ChangeError", .glo "NoListing", .glo "NoNumber", .glo "Listing", .glo "Switches", .glo "gray_of", .glo "bits_of", .glo "_law_cell_at", .glo "_law_whole", .glo "law", .exc "ChangeError", .exc "NoListing", .exc "NoNumber", .cls "Switches", .mkr "Switches", .noat "Switches" "length", .meth "Switches" "many", .meth "Switches" "asked_number", .meth "Switches" "thing_at", .meth "Switches" "size", .meth "Switches" "put", .meth "Switches" "found", .meth "Switches" "changed"]
def fa : List He.Fa := fa0
def loose0 : List Str := ["_wall", "ChangeError", "NoListing", "NoNumber", "Listing", "gray_of", "bits_of", "Switches", "_law_cell_at", "_law_whole"]
def loose : List Str := loose0
abbrev RR : PySem.W.OpenRow := PySem.W.OpenLaw.row PySem.Challenge.rw_onechange_k08_changed
theorem txt_of {K : PySem.W.Frag} {h : Heap} {mg : Str → Option Value} (X : K.In h) (G : h.Ns mainGlobals mg) (c : He.SaysD fa fn K) : Txt K mg := ⟨He.free_ok X G (c.fact 0 (f := .free "bool") rfl),
  He.free_ok X G (c.fact 1 (f := .free "int") rfl),
  He.free_ok X G (c.fact 2 (f := .free "isinstance") rfl),
  He.free_ok X G (c.fact 3 (f := .free "len") rfl),
  He.free_ok X G (c.fact 4 (f := .free "list") rfl),
  He.free_ok X G (c.fact 5 (f := .free "range") rfl),
  He.free_ok X G (c.fact 6 (f := .free "reversed") rfl),
  He.glo_ok X G (c.fact 7 (f := .glo "ChangeError") rfl),
  He.glo_ok X G (c.fact 8 (f := .glo "NoListing") rfl),
  He.glo_ok X G (c.fact 9 (f := .glo "NoNumber") rfl),
  He.glo_ok X G (c.fact 10 (f := .glo "Listing") rfl),
  He.glo_ok X G (c.fact 11 (f := .glo "Switches") rfl),
  He.glo_ok X G (c.fact 12 (f := .glo "gray_of") rfl),
  He.glo_ok X G (c.fact 13 (f := .glo "bits_of") rfl),
  He.glo_ok X G (c.fact 14 (f := .glo "_law_cell_at") rfl),
  He.glo_ok X G (c.fact 15 (f := .glo "_law_whole") rfl),
  He.glo_ok X G (c.fact 16 (f := .glo "law") rfl),
  He.exc_ok (c.fact 17 (f := .exc "ChangeError") rfl),
  He.exc_ok (c.fact 18 (f := .exc "NoListing") rfl),
  He.exc_ok (c.fact 19 (f := .exc "NoNumber") rfl),
  He.cls_ok (c.fact 20 (f := .cls "Switches") rfl),
  He.mkr_ok (c.fact 21 (f := .mkr "Switches") rfl),
  He.noat_ok (c.fact 22 (f := .noat "Switches" "length") rfl),
  He.meth_ok (c.fact 23 (f := .meth "Switches" "many") rfl),
  He.meth_ok (c.fact 24 (f := .meth "Switches" "asked_number") rfl),
  He.meth_ok (c.fact 25 (f := .meth "Switches" "thing_at") rfl),
  He.meth_ok (c.fact 26 (f := .meth "Switches" "size") rfl),
  He.meth_ok (c.fact 27 (f := .meth "Switches" "put") rfl),
  He.meth_ok (c.fact 28 (f := .meth "Switches" "found") rfl),
  He.meth_ok (c.fact 29 (f := .meth "Switches" "changed") rfl),
  c.def_ 0 (d := dd_ ("gray_of", none) "gray_of" "gray_of" s_gray_of) rfl,
  c.def_ 1 (d := dd_ ("bits_of", none) "bits_of" "bits_of" s_bits_of) rfl,
  c.def_ 2 (d := dd_ ("_law_cell_at", none) "_law_cell_at" "_law_cell_at" s__law_cell_at) rfl,
  c.def_ 3 (d := dd_ ("_law_whole", none) "_law_whole" "_law_whole" s__law_whole) rfl,
  c.def_ 4 (d := dd_ ("law", none) "law" "law" s_law) rfl,
  c.def_ 5 (d := dd_ ("Switches", some "many") "many" "Listing.many" s_Listing_many) rfl,
  c.def_ 6 (d := dd_ ("Switches", some "asked_number") "asked_number" "Listing.asked_number" s_Listing_asked_number) rfl,
  c.def_ 7 (d := dd_ ("Switches", some "thing_at") "thing_at" "Listing.thing_at" s_Listing_thing_at) rfl,
  c.def_ 8 (d := dd_ ("Switches", some "__init__") "__init__" "Switches.__init__" s_Switches___init__) rfl,
  c.def_ 9 (d := dd_ ("Switches", some "size") "size" "Switches.size" s_Switches_size) rfl,
  c.def_ 10 (d := dd_ ("Switches", some "put") "put" "Switches.put" s_Switches_put) rfl,
  c.def_ 11 (d := dd_ ("Switches", some "found") "found" "Switches.found" s_Switches_found) rfl,
  c.def_ 12 (d := dd_ ("Switches", some "changed") "changed" "Switches.changed" s_Switches_changed) rfl⟩
abbrev hk : PySem.W.Hook := He.hookD 5 fa fn
def ob (s : PySem.W.SharedT) : He.AlD := He.obsDG 5 fa fn (HandSHeadRun.getT s)
theorem ob_eq (s : PySem.W.SharedT) : ob s = hk.obs s.abs := He.obsDG_eq (HandSHeadRun.getT_eq s)
theorem run (w : World) : HandSHeadRun.RunEq RR (PySem.W.view RR.prog [14]) hk ob 60000 loose w := by
  intro os
  kernel_rfl
theorem facts {P : Program} {w : World} {K : PySem.W.Frag} {h : Heap} {mg : Str → Option Value} {f : Addr} (X : K.In h) (G : h.Ns mainGlobals mg) (hfa : mg ("law" : Str) = some (.ref f)) (c : He.SaysD fa fn K) :
    ∃ fd : FuncData, (∀ (s : Shared) (v : Value), BindsTo s fd ⟨[v], []⟩ [("script", v)]) ∧ ∀ base : Heap, K.In base → base.Ns mainGlobals mg → FnOk P w K mg base CX0 5 f fd ["script"] (spLaw K) := by
  have T := txt_of X G c
  obtain ⟨fd, F⟩ := T.d_law
  have e := hfa.symm.trans T.g_law
  cases e
  have b := FunD.bindsA (ps := ["script"]) F fun _ _ _ _ _ _ us hl => match us, hl with | [_], _ => rfl
  exact ⟨fd, fun s v => b s [v] rfl, fun base _ _ => fn_calm (ok_law T F) fun _ _ _ _ h => h⟩
end Oc
open PySem PySem.W PySem.Calls PyProof.Rows
theorem PySem.Challenge.cw_onechange_k08_changed_holds : PySem.Challenge.rw_onechange_k08_changed.Holds := by
  w_on; o_law
  refine HandSHeadRun.head_any (r := OpenLaw.row PySem.Challenge.rw_onechange_k08_changed) (q := view (OpenLaw.row PySem.Challenge.rw_onechange_k08_changed).prog [14]) (H := Oc.hk) (ob := Oc.ob) (M := 60000) (loose := Oc.loose)
    (d := HandSHeadRun.topDef (OpenLaw.row PySem.Challenge.rw_onechange_k08_changed).prog 14) (kwd := []) Oc.ob_eq (by kernel_rfl) (fun s => by kernel_rfl) Oc.run (by kernel_rfl) (by kernel_rfl) (by kernel_rfl) (by rfl) (by first | assumption | decide +kernel) (by decide +kernel) ⟨rfl, rfl, rfl, rfl, rfl, by decide +kernel⟩ ?hw ?hc
  case hw => w_witness2
  case hc =>
    refine L2.walk_ofE (l := PySem.Challenge.rw_onechange_k08_changed) (n := 63) (k := 5) (x := "script") (CX := L2.CX0) rfl (by decide) (by kernel_rfl) ⟨rfl, by decide, by decide⟩ ?F (fun _ _ _ _ z => z)
    intro w mg fa h Y G hmg0
    obtain ⟨K, KX, c⟩ := Y
    have hmg : mg ("law" : PySem.Str) = some (.ref fa) := by
      have e : (HandSHeadRun.topDef (OpenLaw.row PySem.Challenge.rw_onechange_k08_changed).prog 14).name = ("law" : PySem.Str) := by kernel_rfl
      rw [← e]
      exact hmg0
    obtain ⟨fd, hb, hF⟩ := Oc.facts (P := (PySem.Challenge.rw_onechange_k08_changed).prog) (w := w) KX G hmg c
    exact ⟨K, fd, Oc.spLaw K, KX, hb, fun H a ns hl _ hS => ⟨a, ns, rfl, hS, hl, fun _ => rfl⟩, hF⟩
