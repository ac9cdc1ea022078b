/-
  Several texts in one: Plain arithmetic behind divideStep: Knuth's estimate of a quotient's digit, and the subtraction.
-/
import Derived.Test.YtjgihmmeimfheaaGreatK1
import Derived.Test.YtjgihmmeimfheaaGreatK3
namespace Go.Proofs.YtjgihmmeimfheaaGreat

/-- The estimate: B a base, E a power of it; V = (top B + sec) E + vl the divisor, U = (head B + u0) E + ul the dividend. A digit with digit top + rest = head whose product with sec is small enough is at most one too great. -/
theorem est_upper {B E top sec vl head u0 ul digit rest V U : Nat} (hV : V = (top * B + sec) * E + vl) (hU : U = (head * B + u0) * E + ul)
  (hvl : vl < E) (htop : 0 < top) (hd : digit < B) (hr : digit * top + rest = head) (ht : digit * sec ≤ rest * B + u0) : digit * V < U + V := by
 have h1 : digit * (top * B + sec) ≤ head * B + u0 := by
  rw [← hr, Nat.mul_add, Nat.add_mul, ← Nat.mul_assoc]
  omega
 have h2 : digit * (top * B + sec) * E ≤ (head * B + u0) * E := Nat.mul_le_mul_right E h1
 have h3 : digit * vl ≤ digit * E := Nat.mul_le_mul_left _ (by omega)
 have h4 : digit * E ≤ (B - 1) * E := Nat.mul_le_mul_right E (by omega)
 have h5 : B * E ≤ (top * B + sec) * E := Nat.mul_le_mul_right E (by
  have : 1 * B ≤ top * B := Nat.mul_le_mul_right B htop
  omega)
 have h6 : (B - 1) * E = B * E - E := Nat.sub_one_mul ..
 have h7 : digit * V = digit * (top * B + sec) * E + digit * vl := by rw [hV, Nat.mul_add, Nat.mul_assoc]
 have h8 : E ≤ B * E := Nat.le_mul_of_pos_left _ (by omega)
 omega
/-- A digit whose product with sec is too great is greater than the quotient. -/
theorem est_down {B E top sec vl head u0 ul digit rest V U : Nat} (hV : V = (top * B + sec) * E + vl) (hU : U = (head * B + u0) * E + ul)
  (hul : ul < E) (hr : digit * top + rest = head) (ht : rest * B + u0 < digit * sec) : U < digit * V := by
 have h1 : head * B + u0 + 1 ≤ digit * (top * B + sec) := by
  rw [← hr, Nat.mul_add, Nat.add_mul, ← Nat.mul_assoc]
  omega
 have h2 : (head * B + u0 + 1) * E ≤ digit * (top * B + sec) * E := Nat.mul_le_mul_right E h1
 have h7 : digit * V = digit * (top * B + sec) * E + digit * vl := by rw [hV, Nat.mul_add, Nat.mul_assoc]
 have h8 : (head * B + u0 + 1) * E = (head * B + u0) * E + E := Nat.succ_mul ..
 omega
/-- The first digits of the dividend are not too great. -/
theorem head_bound {B E top sec vl head u0 ul V U : Nat} (hV : V = (top * B + sec) * E + vl) (hU : U = (head * B + u0) * E + ul) (hvl : vl < E) (hsec : sec < B) (hUV : U < V * B) : head < top * B + B := by
 have h1 : V < (top * B + B) * E := by
  have h2 : (top * B + sec + 1) * E ≤ (top * B + B) * E := Nat.mul_le_mul_right E (by omega)
  have h3 : (top * B + sec + 1) * E = (top * B + sec) * E + E := Nat.succ_mul ..
  omega
 have h4 : head * B * E < (top * B + B) * B * E := by
  have h5 : V * B ≤ (top * B + B) * E * B := Nat.mul_le_mul_right B (by omega)
  have h6 : (head * B + u0) * E = head * B * E + u0 * E := Nat.add_mul ..
  have h7 : (top * B + B) * E * B = (top * B + B) * B * E := Nat.mul_right_comm ..
  have h8 : V * B < (top * B + B) * E * B := by
   rcases Nat.eq_zero_or_pos B with h0 | h0
   · subst h0; omega
   · exact Nat.mul_lt_mul_of_pos_right h1 h0
  omega
 have h9 := Nat.lt_of_mul_lt_mul_right (a := E) h4
 exact Nat.lt_of_mul_lt_mul_right (a := B) h9

/-- The carry and the borrow of a multiplication that is subtracted. -/
def mcr (d : Nat) (v : Nat → Nat) : Nat → Nat
 | 0 => 0
 | k + 1 => (d * v k + mcr d v k) / 4294967296
def mlo (d : Nat) (v : Nat → Nat) (k : Nat) : Nat := (d * v k + mcr d v k) % 4294967296
def mbo (d : Nat) (u v : Nat → Nat) : Nat → Nat
 | 0 => 0
 | k + 1 => subB (u k) (mlo d v k) (mbo d u v k)
def mdi (d : Nat) (u v : Nat → Nat) (k : Nat) : Nat := subD (u k) (mlo d v k) (mbo d u v k)
theorem mcr_lt {d : Nat} {v : Nat → Nat} (hd : d < 4294967296) (hv : ∀ i, v i < 4294967296) (k : Nat) : mcr d v k < 4294967296 := by
 induction k with
 | zero => simp [mcr]
 | succ k ih =>
  have h1 := mul_digit hd (hv k)
  rw [mcr]
  generalize d * v k = z at *
  omega
theorem mlo_lt (d : Nat) (v : Nat → Nat) (k : Nat) : mlo d v k < 4294967296 := Nat.mod_lt _ (by decide)
theorem mbo_le (d : Nat) (u v : Nat → Nat) (k : Nat) : mbo d u v k ≤ 1 := by
 cases k with
 | zero => exact Nat.zero_le _
 | succ k => exact subB_le ..
theorem mdi_lt (d : Nat) (u v : Nat → Nat) (k : Nat) : mdi d u v k < 4294967296 := subD_lt ..
theorem mdi_sum {d : Nat} {u v : Nat → Nat} (hu : ∀ i, u i < 4294967296) (n : Nat) :
  vs b32 (mdi d u v) n + d * vs b32 v n = vs b32 u n + b32 ^ n * (mcr d v n + mbo d u v n) := by
 induction n with
 | zero => simp [vs, mcr, mbo]
 | succ n ih =>
  have h1 := sub_eq (hu n) (mlo_lt d v n) (mbo_le d u v n)
  have h2 : mlo d v n + 4294967296 * mcr d v (n + 1) = d * v n + mcr d v n := Nat.mod_add_div _ _
  have h3 : mdi d u v n + d * v n + (mcr d v n + mbo d u v n) = u n + b32 * (mcr d v (n + 1) + mbo d u v (n + 1)) := by
   have e1 : mbo d u v (n + 1) = subB (u n) (mlo d v n) (mbo d u v n) := rfl
   have e2 : mdi d u v n = subD (u n) (mlo d v n) (mbo d u v n) := rfl
   rw [Nat.mul_add, e1, e2, show b32 = 4294967296 by rfl]
   omega
  have h4 : b32 ^ n * (mdi d u v n + d * v n + (mcr d v n + mbo d u v n)) = b32 ^ n * (u n + b32 * (mcr d v (n + 1) + mbo d u v (n + 1))) := by rw [h3]
  have h5 : d * (vs b32 v n + b32 ^ n * v n) = d * vs b32 v n + b32 ^ n * (d * v n) := by rw [Nat.mul_add, Nat.mul_left_comm]
  rw [vs_succ, vs_succ, vs_succ, h5, Nat.pow_succ, Nat.mul_assoc]
  rw [Nat.mul_add (b32 ^ n) (mdi d u v n + d * v n), Nat.mul_add (b32 ^ n) (mdi d u v n), Nat.mul_add (b32 ^ n) (u n)] at h4
  generalize b32 ^ n * (b32 * (mcr d v (n + 1) + mbo d u v (n + 1))) = z1 at *
  generalize b32 ^ n * (mcr d v n + mbo d u v n) = z2 at *
  generalize b32 ^ n * (d * v n) = z3 at *
  omega

theorem mcr_int (d : Nat) (v : Nat → Nat) (k : Nat) : ((d : Int) * (v k : Nat) + (mcr d v k : Nat)) / 4294967296 = ((mcr d v (k + 1) : Nat) : Int) := by
 rw [mcr, ← Int.natCast_mul, ← Int.natCast_add]; rfl
theorem mlo_int (d : Nat) (v : Nat → Nat) (k : Nat) : ((d : Int) * (v k : Nat) + (mcr d v k : Nat)) % 4294967296 = ((mlo d v k : Nat) : Int) := by
 rw [mlo, ← Int.natCast_mul, ← Int.natCast_add]; rfl
/-- The carry of adding back. -/
def acr (f v : Nat → Nat) : Nat → Nat
 | 0 => 0
 | k + 1 => (f k + v k + acr f v k) / 4294967296
def adg (f v : Nat → Nat) (k : Nat) : Nat := (f k + v k + acr f v k) % 4294967296
theorem acr_le {f v : Nat → Nat} (hf : ∀ i, f i < 4294967296) (hv : ∀ i, v i < 4294967296) (k : Nat) : acr f v k ≤ 1 := by
 induction k with
 | zero => exact Nat.zero_le _
 | succ k ih =>
  have := hf k
  have := hv k
  rw [acr]; omega
theorem adg_lt (f v : Nat → Nat) (k : Nat) : adg f v k < 4294967296 := Nat.mod_lt _ (by decide)
theorem adg_sum (f v : Nat → Nat) (n : Nat) : vs b32 (adg f v) n + b32 ^ n * acr f v n = vs b32 f n + vs b32 v n := by
 induction n with
 | zero => simp [vs, acr]
 | succ n ih =>
  have h := carry_step (t := f n + v n) ih (show adg f v n = (f n + v n + acr f v n) % b32 by rfl)
  rw [Nat.mul_add] at h
  rw [vs_succ b32 f, vs_succ b32 v]
  have e : acr f v (n + 1) = (f n + v n + acr f v n) / b32 := rfl
  rw [e]
  omega

/-- The quotient and remainder of a division step, where the digit is right (no borrow at the end). -/
theorem step_right {d n V : Nat} {u v : Nat → Nat} (hu : ∀ i, u i < 4294967296) (hV : vs b32 v n = V) (hlo : vs b32 u (n + 1) / V ≤ d) (hV0 : 0 < V)
  (hnb : mcr d v n + mbo d u v n ≤ u n) : vs b32 u (n + 1) / V = d ∧ vs b32 u (n + 1) % V = vs b32 (mdi d u v) n + b32 ^ n * (u n - (mcr d v n + mbo d u v n)) := by
 have h1 := mdi_sum (d := d) (v := v) hu n
 rw [hV] at h1
 have h2 := vs_succ b32 u n
 have h3 : b32 ^ n * (u n - (mcr d v n + mbo d u v n)) + b32 ^ n * (mcr d v n + mbo d u v n) = b32 ^ n * u n := by rw [← Nat.mul_add]; congr 1; omega
 have h4 : vs b32 u (n + 1) = d * V + (vs b32 (mdi d u v) n + b32 ^ n * (u n - (mcr d v n + mbo d u v n))) := by omega
 have h5 : d ≤ vs b32 u (n + 1) / V := by rw [Nat.le_div_iff_mul_le hV0]; omega
 have h6 : vs b32 u (n + 1) / V = d := Nat.le_antisymm hlo h5
 refine ⟨h6, ?_⟩
 have h7 := Nat.div_add_mod (vs b32 u (n + 1)) V
 rw [h6, Nat.mul_comm V d] at h7
 omega
/-- Where the digit is one too great, adding the divisor back gives the remainder. -/
theorem step_back {d n V : Nat} {u v : Nat → Nat} (hu : ∀ i, u i < 4294967296) (hv : ∀ i, v i < 4294967296) (hV : vs b32 v n = V) (hup : d * V < vs b32 u (n + 1) + V)
  (hb : u n < mcr d v n + mbo d u v n) (hd : d < 4294967296) :
  0 < d ∧ vs b32 u (n + 1) / V = d - 1 ∧ vs b32 u (n + 1) % V = vs b32 (adg (mdi d u v) v) n + b32 ^ n * ((subD (u n) (mcr d v n) (mbo d u v n) + acr (mdi d u v) v n) % 4294967296) := by
 have hmc := mcr_lt hd hv n
 have hmb := mbo_le d u v n
 have h1 := mdi_sum (d := d) (v := v) hu n
 rw [hV] at h1
 have h2 := vs_succ b32 u n
 have hun := hu n
 have hbig : b32 ^ n * (u n + 1) ≤ b32 ^ n * (mcr d v n + mbo d u v n) := Nat.mul_le_mul_left _ hb
 rw [Nat.mul_add, Nat.mul_one] at hbig
 have hmd : vs b32 (mdi d u v) n < b32 ^ n := vs_lt fun j _ => mdi_lt ..
 have hgt : vs b32 u (n + 1) < d * V := by omega
 have hV0 : 0 < V := by
  rcases Nat.eq_zero_or_pos V with h0 | h0
  · rw [h0] at hgt; omega
  · exact h0
 have hd0 : 0 < d := by
  rcases Nat.eq_zero_or_pos d with h0 | h0
  · rw [h0] at hgt; omega
  · exact h0
 have hdm : d * V = (d - 1) * V + V := by rw [← Nat.succ_mul]; congr 1; omega
 have hq1 : vs b32 u (n + 1) / V < d := by rw [Nat.div_lt_iff_lt_mul hV0]; exact hgt
 have hq2 : d - 1 ≤ vs b32 u (n + 1) / V := by rw [Nat.le_div_iff_mul_le hV0]; omega
 have hq : vs b32 u (n + 1) / V = d - 1 := by omega
 refine ⟨hd0, hq, ?_⟩
 have h7 := Nat.div_add_mod (vs b32 u (n + 1)) V
 rw [hq, Nat.mul_comm V (d - 1)] at h7
 have hmod := Nat.mod_lt (vs b32 u (n + 1)) hV0
 have h8 := adg_sum (mdi d u v) v n
 rw [hV] at h8
 have hac := acr_le (fun i => mdi_lt d u v i) hv n
 have had : vs b32 (adg (mdi d u v) v) n < b32 ^ n := vs_lt fun j _ => adg_lt ..
 have hVn : V < b32 ^ n := by rw [← hV]; exact vs_lt fun j _ => hv j
 -- the remainder R: R + b32 ^ n * (carry + borrow) = (sum) + b32 ^ n * (carry back + u n)
 have h9 : vs b32 u (n + 1) % V + b32 ^ n * (mcr d v n + mbo d u v n) = vs b32 (adg (mdi d u v) v) n + b32 ^ n * (acr (mdi d u v) v n + u n) := by
  rw [Nat.mul_add (b32 ^ n) (acr _ _ _)]
  omega
 -- so the top digit comes to 0
 have h10 : mcr d v n + mbo d u v n = acr (mdi d u v) v n + u n := by
  rcases Nat.lt_trichotomy (mcr d v n + mbo d u v n) (acr (mdi d u v) v n + u n) with h | h | h
  · omega
  · exact h
  ·
   have h11 : b32 ^ n * (acr (mdi d u v) v n + u n + 1) ≤ b32 ^ n * (mcr d v n + mbo d u v n) := Nat.mul_le_mul_left _ h
   rw [Nat.mul_add (b32 ^ n) (acr _ _ _ + _), Nat.mul_one] at h11
   omega
 have h12 : (subD (u n) (mcr d v n) (mbo d u v n) + acr (mdi d u v) v n) % 4294967296 = 0 := by unfold subD; omega
 rw [h12]
 rw [h10] at h9
 omega
theorem dec2 (f : Nat → Nat) (m : Nat) : vs b32 f (m + 2) = (f (m + 1) * b32 + f m) * b32 ^ m + vs b32 f m := by
 rw [vs_succ, vs_succ, Nat.pow_succ, Nat.add_mul]
 have e1 : f (m + 1) * b32 * b32 ^ m = b32 ^ m * b32 * f (m + 1) := by rw [Nat.mul_comm (f (m + 1)) b32, Nat.mul_assoc, Nat.mul_comm (f (m + 1)), ← Nat.mul_assoc, Nat.mul_comm b32]
 have e2 : f m * b32 ^ m = b32 ^ m * f m := Nat.mul_comm ..
 omega
theorem dec3 (f : Nat → Nat) (m : Nat) : vs b32 f (m + 3) = ((4294967296 * f (m + 2) + f (m + 1)) * b32 + f m) * b32 ^ m + vs b32 f m := by
 have h := dec2 f m
 have h2 : vs b32 f (m + 3) = vs b32 f (m + 2) + b32 ^ (m + 2) * f (m + 2) := vs_succ b32 f (m + 2)
 have e : b32 ^ (m + 2) * f (m + 2) = 4294967296 * f (m + 2) * b32 * b32 ^ m := by
  show b32 ^ (m + 2) * f (m + 2) = b32 * f (m + 2) * b32 * b32 ^ m
  rw [Nat.pow_succ, Nat.pow_succ, Nat.mul_right_comm b32 (f (m + 2)) b32, Nat.mul_right_comm (b32 * b32) (f (m + 2)) (b32 ^ m), Nat.mul_assoc (b32 ^ m), Nat.mul_comm (b32 ^ m)]
 have e3 : (4294967296 * f (m + 2) + f (m + 1)) * b32 = 4294967296 * f (m + 2) * b32 + f (m + 1) * b32 := Nat.add_mul ..
 rw [e3, Nat.add_assoc, Nat.add_mul, ← e]
 omega
/-- What the estimate is made of. -/
structure EstCtx (U V top sec HD u0 : Nat) : Prop where
 ex : ∃ E vl ul, V = (top * b32 + sec) * E + vl ∧ U = (HD * b32 + u0) * E + ul ∧ vl < E ∧ ul < E
 lt : U < V * b32
 top : 2147483648 ≤ top
 sec : sec < 4294967296
 u0 : u0 < 4294967296
def EstInv (U V top HD dg rs : Nat) : Prop := dg * top + rs = HD ∧ rs < 4294967296 ∧ U / V ≤ dg
def EstPost (U V dg : Nat) : Prop := U / V ≤ dg ∧ dg * V < U + V ∧ dg < 4294967296
section
variable {U V top sec HD u0 dg rs : Nat}
theorem EstInv.le (h : EstInv U V top HD dg rs) (ht : 0 < top) : dg ≤ HD := by
 have h1 := Nat.le_mul_of_pos_right dg ht
 have h2 := h.1
 omega
theorem EstCtx.pos (h : EstCtx U V top sec HD u0) : 0 < V := by
 have := h.lt
 rcases Nat.eq_zero_or_pos V with e | e
 · rw [e, Nat.zero_mul] at this; omega
 · exact e
theorem EstCtx.q_lt (h : EstCtx U V top sec HD u0) : U / V < 4294967296 := by
 rw [Nat.div_lt_iff_lt_mul h.pos, Nat.mul_comm]; exact h.lt
theorem EstCtx.start (h : EstCtx U V top sec HD u0) (ht : top < 4294967296) : EstInv U V top HD (HD / top) (HD % top) := by
 have h0 := h.top
 have hm := Nat.mod_lt HD (show 0 < top by omega)
 have hdm := Nat.div_add_mod HD top
 obtain ⟨E, vl, ul, hV, hU, hvl, hul⟩ := h.ex
 refine ⟨by rw [Nat.mul_comm]; exact hdm, by omega, ?_⟩
 have h1 : U < (HD / top + 1) * V := by
  have h2 : HD + 1 ≤ (HD / top + 1) * top := by rw [Nat.add_mul, Nat.one_mul, Nat.mul_comm]; omega
  have h3 : (HD * b32 + u0 + 1) * E ≤ ((HD / top + 1) * top * b32) * E := Nat.mul_le_mul_right E (by
   have h4 := Nat.mul_le_mul_right b32 h2
   have h5 : (HD + 1) * b32 = HD * b32 + b32 := Nat.succ_mul ..
   have h6 := h.u0
   have h7 : b32 = 4294967296 := rfl
   omega)
  have h4 : (HD * b32 + u0 + 1) * E = (HD * b32 + u0) * E + E := Nat.succ_mul ..
  have h5 : (HD / top + 1) * (top * b32 * E) ≤ (HD / top + 1) * V := Nat.mul_le_mul_left _ (by
   have : (top * b32 + sec) * E = top * b32 * E + sec * E := Nat.add_mul ..
   omega)
  have h6 : (HD / top + 1) * (top * b32 * E) = (HD / top + 1) * top * b32 * E := by rw [← Nat.mul_assoc, ← Nat.mul_assoc]
  omega
 have h5 : U / V < HD / top + 1 := by rwa [Nat.div_lt_iff_lt_mul h.pos]
 exact Nat.le_of_lt_succ h5
theorem EstCtx.stay (h : EstCtx U V top sec HD u0) (hi : EstInv U V top HD dg rs) (hc : 4294967296 ≤ dg ∨ rs * 4294967296 + u0 < dg * sec) : 0 < dg ∧ (dg - 1) * top + (rs + top) = HD ∧ U / V ≤ dg - 1 := by
 obtain ⟨h1, h2, h3⟩ := hi
 have h0 := h.q_lt
 obtain ⟨E, vl, ul, hV, hU, hvl, hul⟩ := h.ex
 have h4 : U / V < dg := by
  rcases hc with hc | hc
  · exact Nat.lt_of_lt_of_le h0 hc
  ·
   rw [Nat.div_lt_iff_lt_mul h.pos]
   exact est_down hV hU hul h1 hc
 refine ⟨Nat.lt_of_le_of_lt (Nat.zero_le _) h4, ?_, Nat.le_sub_one_of_lt h4⟩
 have h5 : 0 < dg := Nat.lt_of_le_of_lt (Nat.zero_le _) h4
 have : dg * top = (dg - 1) * top + top := by rw [← Nat.succ_mul]; congr 1; omega
 omega
theorem EstCtx.leave (h : EstCtx U V top sec HD u0) (hr : dg * top + rs = HD) (hq : U / V ≤ dg) (hd : dg < 4294967296) (ht : dg * sec ≤ rs * 4294967296 + u0) : EstPost U V dg := by
 obtain ⟨E, vl, ul, hV, hU, hvl, hul⟩ := h.ex
 exact ⟨hq, est_upper hV hU hvl (by have := h.top; omega) hd hr ht, hd⟩
theorem EstCtx.broke (h : EstCtx U V top sec HD u0) (hr : dg * top + rs = HD) (hq : U / V ≤ dg) (hrs : 4294967296 ≤ rs) : EstPost U V dg := by
 obtain ⟨E, vl, ul, hV, hU, hvl, hul⟩ := h.ex
 have h1 := head_bound hV hU hvl h.sec h.lt
 have htop := h.top
 have hd : dg < 4294967296 := by
  have h2 : dg * top < top * 4294967296 := by
   have : top * b32 + b32 = top * 4294967296 + 4294967296 := rfl
   omega
  rw [Nat.mul_comm top] at h2
  exact Nat.lt_of_mul_lt_mul_right h2
 refine h.leave hr hq hd ?_
 have h3 := mul_digit hd h.sec
 omega
end
end Go.Proofs.YtjgihmmeimfheaaGreat
