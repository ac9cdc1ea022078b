/-
  Several texts in one: The walk of whole.divideStep.
-/
import Derived.Test.YtjgihmmeimfheaaGreatK4
import Derived.Test.YtjgihmmeimfheaaGreatK6
import Derived.Deep.DeepCutAuto
import Derived.Deep.CutBlock
namespace Go.Proofs.YtjgihmmeimfheaaGreat
open Go.RowKit

theorem grown_drewN {w : World} (n : Nat) (r : Option Nat) : w.grownBy (w.drewN n) r := ⟨rfl, rfl, rfl, Nat.le_refl _, fun _ _ _ => rfl⟩
theorem grown_set {w w' : World} {g : Nat} (h : w.grownBy w' (some g)) (i : Nat) (u : Value) : w.grownBy (w'.setCell ⟨g, i, none⟩ u) (some g) :=
 ⟨h.os, h.tape, h.output, by simpa [World.setCell] using h.size, fun k hk hne => (Below.heap_setCell w' ⟨g, i, none⟩ u k (fun e => hne (by rw [e]))).trans (h.block k hk hne)⟩
theorem grown_drew {w w' : World} {r : Option Nat} (h : w.grownBy w' r) (n : Nat) : w.grownBy (w'.drewN n) r := ⟨h.os, h.tape, h.output, h.size, h.block⟩

theorem est_ctx {F fv : Nat → Nat} {j n : Nat} (hF : ∀ i, F i < 4294967296) (hfv : ∀ i, fv i < 4294967296) (hn : 2 ≤ n) (htop : 2147483648 ≤ fv (n - 1)) (hUV : vs b32 (fun i => F (j + i)) (n + 1) < vs b32 fv n * b32)
  {HD : Nat} (hHD : HD = 4294967296 * F (j + n) + F (j + (n - 1))) : EstCtx (vs b32 (fun i => F (j + i)) (n + 1)) (vs b32 fv n) (fv (n - 1)) (fv (n - 2)) HD (F (j + (n - 2))) := by
 refine ⟨⟨b32 ^ (n - 2), vs b32 fv (n - 2), vs b32 (fun i => F (j + i)) (n - 2), ?_, ?_, vs_lt fun i _ => hfv i, vs_lt fun i _ => hF _⟩, hUV, htop, hfv _, hF _⟩
 ·
  have h := dec2 fv (n - 2)
  rw [show n - 2 + 2 = n by omega, show n - 2 + 1 = n - 1 by omega] at h
  exact h
 ·
  have h := dec3 (fun i => F (j + i)) (n - 2)
  rw [show n - 2 + 3 = n + 1 by omega, show n - 2 + 2 = n by omega, show n - 2 + 1 = n - 1 by omega] at h
  rw [hHD]
  exact h

/-- The dividend's words after k rounds of the subtraction. -/
def fst_ (j dg : Nat) (F fv : Nat → Nat) (k q : Nat) : Nat := if j ≤ q ∧ q < j + k then mdi dg (fun i => F (j + i)) fv (q - j) else F q

theorem sub64_top {x y b : Nat} (hx : x < 4294967296) (hy : y < 4294967296) (hb : b ≤ 1) : IntKind.u64.wrap (IntKind.u64.wrap ((x : Int) - y) - b) / 9223372036854775808 = ((subB x y b : Nat) : Int) := by
 rw [IntKind.wrap_u64, IntKind.wrap_u64]
 unfold subB; split <;> omega
theorem sub64_low {x y b : Nat} (hx : x < 4294967296) (hy : y < 4294967296) (hb : b ≤ 1) : IntKind.u64.wrap (IntKind.u64.wrap ((x : Int) - y) - b) % 4294967296 = ((subD x y b : Nat) : Int) := by
 rw [IntKind.wrap_u64, IntKind.wrap_u64]
 unfold subD; omega

/-- The words behind the subtraction's last step, and behind k rounds of adding back. -/
def fin_ (j n dg : Nat) (F fv : Nat → Nat) (q : Nat) : Nat := if q = j + n then subD (F (j + n)) (mcr dg fv n) (mbo dg (fun i => F (j + i)) fv n) else fst_ j dg F fv n q
def bck_ (j n dg : Nat) (F fv : Nat → Nat) (k q : Nat) : Nat := if j ≤ q ∧ q < j + k then adg (mdi dg (fun i => F (j + i)) fv) fv (q - j) else fin_ j n dg F fv q

theorem bck_lt {j n dg : Nat} {F fv : Nat → Nat} {k : Nat} (hF : ∀ i, F i < 4294967296) (q : Nat) : bck_ j n dg F fv k q < 4294967296 := by
 simp only [bck_, fin_, fst_]
 split
 · exact adg_lt ..
 ·
  split
  · exact subD_lt ..
  ·
   split
   · exact mdi_lt ..
   · exact hF q
/-- The call returned the quotient's digit; the dividend's words now hold the remainder. -/
def DStepPost (gu j n M : Nat) (F : Nat → Nat) (U V : Nat) (w : World) (e : Ending) (w' : World) : Prop :=
 ∃ F' : Nat → Nat, e = .returned (.int .u32 ((U / V : Nat) : Int)) ∧ Row w' gu 144 .u32 M M F' ∧ (∀ i, F' i < 4294967296) ∧ (∀ i, i < j ∨ j + n < i → F' i = F i) ∧
  vs b32 (fun i => F' (j + i)) (n + 1) = U % V ∧ w.grownBy w' (some gu)
set_option maxRecDepth 100000 in
set_option maxHeartbeats 2000000 in
theorem divStep_walk (gu j cu gv cv n M Mv : Nat) (F fv : Nat → Nat) (w : World) (hu : Row w gu 144 .u32 M M F) (hF : ∀ i, F i < 4294967296) (hv : Row w gv 144 .u32 Mv Mv fv) (hfv : ∀ i, fv i < 4294967296)
  (hne : gv ≠ gu) (hn : 2 ≤ n) (hn2 : n ≤ 1000000) (hj : j + n + 1 ≤ M) (hnv : n ≤ Mv) (htop : 2147483648 ≤ fv (n - 1)) (hUV : vs b32 (fun i => F (j + i)) (n + 1) < vs b32 fv n * b32) :
  Calls Tryz.prog 151 #[.slice (some ⟨gu, j, none⟩) (n + 1) cu, .slice (some ⟨gv, 0, none⟩) n cv] w (DStepPost gu j n M F (vs b32 (fun i => F (j + i)) (n + 1)) (vs b32 fv n) w) := by
 have a1 := hu.cell (i := j + n) (by omega)
 have a2 := hu.cell (i := j + (n - 1)) (by omega)
 have a3 := hu.cell (i := j + (n - 2)) (by omega)
 have a4 := hv.cell (i := n - 1) (by omega)
 have a5 := hv.cell (i := n - 2) (by omega)
 have b1 := hF (j + n)
 have b2 := hF (j + (n - 1))
 have b3 := hF (j + (n - 2))
 have b4 := hfv (n - 1)
 have b5 := hfv (n - 2)
 obtain ⟨HD, hHD⟩ : ∃ h, h = 4294967296 * F (j + n) + F (j + (n - 1)) := ⟨_, rfl⟩
 have hctx := est_ctx hF hfv hn htop hUV hHD
 obtain ⟨U, hU⟩ : ∃ U, U = vs b32 (fun i => F (j + i)) (n + 1) := ⟨_, rfl⟩
 obtain ⟨V, hV⟩ : ∃ V, V = vs b32 fv n := ⟨_, rfl⟩
 rw [← hU, ← hV] at hctx
 rw [← hU, ← hV] at hUV
 have o1 := u64_or_add b1 b2
 rw [← hHD, show ((4294967296 * F (j + n) : Nat) : Int) = (F (j + n) : Int) * 4294967296 by omega] at o1
 have hHD64 : HD < 18446744073709551616 := by omega
 have e8 : Value.int .u64 (IntKind.u64.wrap ((HD : Int) / (fv (n - 1) : Nat))) = .int .u64 ((HD / fv (n - 1) : Nat) : Int) := by
  have h1 : (HD : Int) / (fv (n - 1) : Nat) = ((HD / fv (n - 1) : Nat) : Int) := (Int.natCast_ediv ..).symm
  have h2 : HD / fv (n - 1) ≤ HD := Nat.div_le_self ..
  rw [h1, IntKind.wrap_u64]
  generalize HD / fv (n - 1) = z at *
  congr 1
  omega
 have E8 := Lib.hid e8
 have HU := Lib.hid hU
 have HV := Lib.hid hV
 have HHD := Lib.hid hHD
 have HUV := Lib.hid hUV
 have HFv := Lib.hid hfv
 have HF := Lib.hid hF
 have HX := Lib.hid hctx
 clear hHD hUV hfv hF hctx hU hV e8
 go_enter Tryz.func151, Tryz.ntmps151
 go_wp2_with fail
 go_quiet (fail)
 go_wp2_with fail
 go_quiet (fail)
 clear o1
 go_upto_block 0 with (fail)
 go_cut [8, 9] (fun d r wx => ∃ dg : Nat, d = .int .u64 (dg : Int) ∧ EstPost U V dg ∧ ∃ m, wx = w.drewN m)
 case first =>
  go_wp2_with fail
  go_loopw [8, 9] (fun d r wr => ∃ dg rs m : Nat, d = .int .u64 (dg : Int) ∧ r = .int .u64 (rs : Int) ∧ EstInv U V (fv (n - 1)) HD dg rs ∧ wr = w.drewN m) (fun d _ _ => (intOf d).toNat)
  case atStart => exact ⟨HD / fv (n - 1), HD % fv (n - 1), _, E8.out, rfl, HX.out.start b4, by rw [World.drewN_drewN]⟩
  case round =>
   obtain ⟨dg, rs, m, rfl, rfl, hinv, rfl⟩ := hrel
   have hrs := hinv.2.1
   have hdg := hinv.le (by omega)
   have HI := Lib.hid hinv
   clear hinv
   by_cases hD : 4294967296 ≤ dg
   ·
    obtain ⟨s1, s2, s3⟩ := HX.out.stay HI.out (.inl hD)
    have t1 : (4294967296 : Int) ≤ (dg : Int) := by omega
    have S2 := Lib.hid s2
    have S3 := Lib.hid s3
    clear s2 s3
    by_cases hB : 4294967296 ≤ rs + fv (n - 1)
    ·
     have t2 : (4294967296 : Int) ≤ (rs : Int) + (fv (n - 1) : Nat) := by omega
     go_wp2_with fail
     go_quiet (fail)
     go_wp2_with fail
     go_meet
     exact ⟨dg - 1, by congr 1; omega, HX.out.broke S2.out S3.out hB, _, rfl⟩
    ·
     have t2 : decide ((4294967296 : Int) ≤ (rs : Int) + (fv (n - 1) : Nat)) = false := decide_eq_false (by omega)
     go_wp2_with fail
     go_quiet (fail)
     go_wp2_with fail
     go_roundw
     case rel => exact ⟨dg - 1, rs + fv (n - 1), _, by congr 1; omega, by congr 1, ⟨S2.out, by omega, S3.out⟩, rfl⟩
     case measure => simp [intOf]; omega
   ·
    have t1 : ¬ (4294967296 : Int) ≤ (dg : Int) := by omega
    have t1' : decide ((4294967296 : Int) ≤ (dg : Int)) = false := by simpa using t1
    have o2 := u64_or_add hrs b3
    have eo : ((4294967296 * rs : Nat) : Int) = (rs : Int) * 4294967296 := by omega
    rw [eo] at o2
    obtain ⟨RS, hRS⟩ : ∃ h, h = 4294967296 * rs + F (j + (n - 2)) := ⟨_, rfl⟩
    rw [← hRS] at o2
    have hprod := mul_digit (show dg < 4294967296 by omega) b5
    have hpI : (dg : Int) * (fv (n - 2) : Nat) ≤ 18446744065119617025 := by rw [← Int.natCast_mul]; omega
    have hp0 : 0 ≤ (dg : Int) * (fv (n - 2) : Nat) := by rw [← Int.natCast_mul]; omega
    clear eo
    by_cases hT : RS < dg * fv (n - 2)
    ·
     have t3 : (RS : Int) < (dg : Int) * (fv (n - 2) : Nat) := by rw [← Int.natCast_mul]; omega
     obtain ⟨s1, s2, s3⟩ := HX.out.stay HI.out (.inr (by rw [Nat.mul_comm rs, ← hRS]; exact hT))
     have S2 := Lib.hid s2
     have S3 := Lib.hid s3
     clear s2 s3 hRS hprod
     by_cases hB : 4294967296 ≤ rs + fv (n - 1)
     ·
      have t2 : (4294967296 : Int) ≤ (rs : Int) + (fv (n - 1) : Nat) := by omega
      go_wp2_with fail
      go_quiet (fail)
      go_wp2_with fail
      go_meet
      exact ⟨dg - 1, by congr 1; omega, HX.out.broke S2.out S3.out hB, _, rfl⟩
     ·
      have t2 : decide ((4294967296 : Int) ≤ (rs : Int) + (fv (n - 1) : Nat)) = false := decide_eq_false (by omega)
      go_wp2_with fail
      go_quiet (fail)
      go_wp2_with fail
      go_roundw
      case rel => exact ⟨dg - 1, rs + fv (n - 1), _, by congr 1; omega, by congr 1, ⟨S2.out, by omega, S3.out⟩, rfl⟩
      case measure => simp [intOf]; omega
    ·
     have t3 : decide ((RS : Int) < (dg : Int) * (fv (n - 2) : Nat)) = false := decide_eq_false (by rw [← Int.natCast_mul]; omega)
     have hpost := HX.out.leave HI.out.1 HI.out.2.2 (by omega) (by rw [Nat.mul_comm rs, ← hRS]; omega)
     have HP := Lib.hid hpost
     clear hRS hprod hpost
     go_wp2_with fail
     go_quiet (fail)
     go_wp2_with fail
     go_meet
     exact ⟨dg, rfl, HP.out, _, World.drewN_drewN ..⟩
 case rest =>
  obtain ⟨dg, rfl, hpost, m, rfl⟩ := hcut
  have hdg := hpost.2.2
  have HP := Lib.hid hpost
  clear hpost
  go_wp2_with fail
  go_loopw [10, 11, 78] (fun cy bo i wr => ∃ k : Nat, k ≤ n ∧ i = .int .i64 k ∧ cy = .int .u64 (mcr dg fv k : Nat) ∧ bo = .int .u64 (mbo dg (fun i => F (j + i)) fv k : Nat) ∧ Row wr gu 144 .u32 M M (fst_ j dg F fv k) ∧ w.grownBy wr (some gu)) (fun _ _ i _ => n - (intOf i).toNat)
  case atStart => exact ⟨0, Nat.zero_le _, rfl, rfl, rfl, (hu.drewN _).congr fun q _ => by simp only [fst_]; rw [if_neg (by omega)], grown_drewN _ _⟩
  case round =>
   obtain ⟨k, hk, rfl, rfl, rfl, hrow, hgr⟩ := hrel
   have hvr := hv.grown hgr (by simpa using hne)
   by_cases hlt : k < n
   ·
    have c0 := hvr.cell (i := k) (by omega)
    have c1 := hrow.cell (i := j + k) (by omega)
    have c2 := hrow.frozen (j + k)
    rw [show fst_ j dg F fv k (j + k) = F (j + k) by simp [fst_]] at c1
    have d1 := HFv.out k
    have d2 := HF.out (j + k)
    have d3 := mcr_lt hdg HFv.out k
    have d4 := mbo_le dg (fun i => F (j + i)) fv k
    have hprod := mul_digit hdg d1
    have hpI : (dg : Int) * (fv k : Nat) ≤ 18446744065119617025 := by rw [← Int.natCast_mul]; omega
    have hp0 : 0 ≤ (dg : Int) * (fv k : Nat) := by rw [← Int.natCast_mul]; omega
    clear hprod
    go_wp2_with fail
    go_roundw
    case rel =>
     rw [mlo_int, mcr_int, sub64_top d2 (mlo_lt ..) d4, sub64_low d2 (mlo_lt ..) d4]
     refine ⟨k + 1, by omega, by go_num, rfl, rfl, hrow.set ?_ fun q _ hq => ?_, grown_set hgr _ _⟩
     · simp only [fst_]; rw [if_pos (by omega), show j + k - j = k by omega]; rfl
     · simp only [fst_, show (j ≤ q ∧ q < j + (k + 1)) ↔ (j ≤ q ∧ q < j + k) by omega]
    case measure => simp [intOf]; omega
   ·
    obtain rfl : k = n := by omega
    have c1 := hrow.cell (i := j + k) (by omega)
    have c2 := hrow.frozen (j + k)
    rw [show fst_ j dg F fv k (j + k) = F (j + k) by simp [fst_]] at c1
    have d3 := mcr_lt hdg HFv.out k
    have d4 := mbo_le dg (fun i => F (j + i)) fv k
    have l1 := sub64_low b1 d3 d4
    have l2 := sub64_top b1 d3 d4
    obtain ⟨X, hX⟩ : ∃ x : Int, x = IntKind.u64.wrap (IntKind.u64.wrap (((F (j + k) : Nat) : Int) - ((mcr dg fv k : Nat) : Int)) - ((mbo dg (fun i => F (j + i)) fv k : Nat) : Int)) := ⟨_, rfl⟩
    rw [← hX] at l1 l2
    by_cases hbo : F (j + k) < mcr dg fv k + mbo dg (fun i => F (j + i)) fv k
    ·
     have t1 : (X / 9223372036854775808 == 0) = false := by
      rw [l2]; unfold subB; rw [if_pos hbo]; rfl
     rw [hX] at t1 l1
     have L1 := Lib.hid l1
     clear l1 l2 hX
     obtain ⟨hd0, hq, hr⟩ := step_back (d := dg) (n := k) (V := V) (u := fun i => F (j + i)) (fun i => HF.out (j + i)) HFv.out HV.out.symm (by rw [← HU.out]; exact HP.out.2.1) hbo hdg
     have HQ := Lib.hid hq
     have HR := Lib.hid hr
     clear hq hr
     have hrow2 : Row (wr.setCell ⟨gu, j + k, none⟩ (.int .u32 (IntKind.u64.wrap (IntKind.u64.wrap (((F (j + k) : Nat) : Int) - ((mcr dg fv k : Nat) : Int)) - ((mbo dg (fun i => F (j + i)) fv k : Nat) : Int)) % 4294967296))) gu 144 .u32 M M (fin_ j k dg F fv) :=
      hrow.setI (by rw [L1.out]; simp only [fin_, if_true]) fun q _ hq => by simp only [fin_, if_neg hq]
     have hgr2 := grown_set hgr (j + k) (.int .u32 (IntKind.u64.wrap (IntKind.u64.wrap (((F (j + k) : Nat) : Int) - ((mcr dg fv k : Nat) : Int)) - ((mbo dg (fun i => F (j + i)) fv k : Nat) : Int)) % 4294967296))
     have R2 := Lib.hid hrow2
     have G2 := Lib.hid hgr2
     clear hrow2 hgr2
     go_wp2_with fail
     go_loopw [17, 131] (fun up i wx => ∃ q : Nat, q ≤ k ∧ i = .int .i64 q ∧ up = .int .u32 (acr (mdi dg (fun i => F (j + i)) fv) fv q : Nat) ∧ Row wx gu 144 .u32 M M (bck_ j k dg F fv q) ∧ w.grownBy wx (some gu)) (fun _ i _ => k - (intOf i).toNat)
     case atStart => exact ⟨0, Nat.zero_le _, rfl, rfl, R2.out.congr fun q _ => by simp only [bck_]; rw [if_neg (by omega)], G2.out⟩
     case round =>
      obtain ⟨q, hq, rfl, rfl, hrowq, hgrq⟩ := hrel
      have hvrq := hv.grown hgrq (by simpa using hne)
      have f4 := acr_le (fun i => mdi_lt dg (fun i => F (j + i)) fv i) HFv.out q
      by_cases hlq : q < k
      ·
       have c3 := hvrq.cell (i := q) (by omega)
       have c4 := hrowq.cell (i := j + q) (by omega)
       have c5 := hrowq.frozen (j + q)
       have ef : bck_ j k dg F fv q (j + q) = mdi dg (fun i => F (j + i)) fv q := by
        simp only [bck_, fin_, fst_]; rw [if_neg (by omega), if_neg (by omega), if_pos (by omega), show j + q - j = q by omega]
       rw [ef] at c4
       have f1 := HFv.out q
       have f2 := mdi_lt dg (fun i => F (j + i)) fv q
       have hadd := fun w => add32_any _ _ _ w f2 f1 f4
       have HA := Lib.hid hadd
       clear hadd ef
       go_wp2_with fail
       refine (HA.out _).mono ?_
       rintro e w2 ⟨rfl, rfl⟩
       go_wp2_with fail
       go_roundw
       case rel =>
        refine ⟨q + 1, by omega, by go_num, rfl, hrowq.setI ?_ fun p _ hp => ?_, grown_set hgrq _ _⟩
        · simp only [bck_]; rw [if_pos (by omega), show j + q - j = q by omega]; rfl
        · simp only [bck_, show (j ≤ p ∧ p < j + (q + 1)) ↔ (j ≤ p ∧ p < j + q) by omega]
       case measure => simp [intOf]; omega
      ·
       obtain rfl : q = k := by omega
       have c4 := hrowq.cell (i := j + q) (by omega)
       have c5 := hrowq.frozen (j + q)
       have ef : bck_ j q dg F fv q (j + q) = subD (F (j + q)) (mcr dg fv q) (mbo dg (fun i => F (j + i)) fv q) := by
        simp only [bck_, fin_]; rw [if_neg (by omega), if_pos trivial]
       rw [ef] at c4
       have f5 := subD_lt (F (j + q)) (mcr dg fv q) (mbo dg (fun i => F (j + i)) fv q)
       clear ef
       go_wp2_with fail
       go_ret
       refine ⟨fun p => if p = j + q then (subD (F (j + q)) (mcr dg fv q) (mbo dg (fun i => F (j + i)) fv q) + acr (mdi dg (fun i => F (j + i)) fv) fv q) % 4294967296 else bck_ j q dg F fv q p, ret_int ?_, hrowq.setI ?_ fun p _ hp => ?_, fun i => ?_, fun i hi => ?_, ?_, grown_set hgrq _ _⟩
       · rw [← HV.out, HQ.out]; omega
       · rw [if_pos rfl]; omega
       · rw [if_neg hp]
       ·
        show (if i = j + q then _ else _) < _
        split
        · exact Nat.mod_lt _ (by decide)
        · exact bck_lt HF.out i
       · simp only [bck_, fin_, fst_]; rw [if_neg (by omega), if_neg (by omega), if_neg (by omega), if_neg (by omega)]
       ·
        rw [← HV.out, HR.out, vs_succ]
        congr 1
        · exact vs_congr fun i hi => by simp only [bck_]; rw [if_neg (by omega), if_pos (by omega), show j + i - j = i by omega]
        · simp only [if_true]
    ·
     have t1 : (X / 9223372036854775808 == 0) = true := by
      rw [l2]; unfold subB; rw [if_neg hbo]; rfl
     rw [hX] at t1
     obtain ⟨hq, hr⟩ := step_right (d := dg) (n := k) (V := V) (u := fun i => F (j + i)) (fun i => HF.out (j + i)) HV.out.symm (by rw [← HU.out]; exact HP.out.1) HX.out.pos (by omega)
     have HQ := Lib.hid hq
     have HR := Lib.hid hr
     clear l1 l2 hX hq hr
     go_wp2_with fail
     go_ret
     refine ⟨fin_ j k dg F fv, ret_int ?_, hrow.setI ?_ fun q _ hq => ?_, fun i => ?_, fun i hi => ?_, ?_, grown_set hgr _ _⟩
     · rw [← HV.out, HQ.out]
     · simp only [fin_, if_true]; unfold subD; omega
     · simp only [fin_, if_neg hq]
     ·
      simp only [fin_, fst_]
      split
      · exact subD_lt ..
      ·
       split
       · exact mdi_lt ..
       · exact HF.out i
     · simp only [fin_, fst_]; rw [if_neg (by omega), if_neg (by omega)]
     ·
      rw [← HV.out, HR.out, vs_succ]
      congr 1
      · exact vs_congr fun i hi => by simp only [fin_, fst_]; rw [if_neg (by omega), if_pos (by omega), show j + i - j = i by omega]
      ·
       congr 1
       simp only [fin_, if_true]; unfold subD; omega
end Go.Proofs.YtjgihmmeimfheaaGreat
