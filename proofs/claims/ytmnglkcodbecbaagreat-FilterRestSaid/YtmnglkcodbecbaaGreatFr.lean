/- The plain law FilterRest: at rest nothing moves. -/
import Derived.Test.YtmnglkcodbecbaaGreatKp
import Derived.Test.YtmnglkcodbecbaaGreatRh
import Derived.Test.YtmnglkcodbecbaaGreatF0
import Derived.Test.YtmnglkcodbecbaaGreatGt
namespace Go.Proofs.YtmnglkcodbecbaaGreat
open Go Go.Sx
set_option linter.unusedVariables false
set_option linter.unusedSimpArgs false
set_option linter.constructorNameAsVariable false
set_option maxRecDepth 100000
set_option maxHeartbeats 8000000
theorem a170 {a b : Int} (a0 : -144115188075855872 ≤ a) (a1 : a ≤ 144115188075855872) (b0 : -144115188075855872 ≤ b) (b1 : b ≤ 144115188075855872) : f170 a b = (a + b, false) := by
  unfold f170
  rw [show f153 a = cl a from rfl, show f153 b = cl b from rfl, cl_in (n := a) (by omega) (by omega), cl_in (n := b) (by omega) (by omega), wS (by omega) (by omega), f82_eq]
  simp only [cl_in (n := a + b) (by omega) (by omega), bne_self_eq_false, Bool.or_self]
theorem m96 {a b : Int} (a0 : 0 ≤ a) (a1 : a ≤ 1125899906842624) (b0 : 0 ≤ b) (b1 : b ≤ 1073741824) : f96 a b = (rnd (a * b), false) ∧ 0 ≤ rnd (a * b) ∧ rnd (a * b) ≤ 281474976710656 := by
  have h0 : 0 ≤ a * b := Int.mul_nonneg a0 b0
  have h1 : a * b ≤ 1125899906842624 * 1073741824 := Int.mul_le_mul a1 b1 b0 (by omega)
  have hr : 0 ≤ rnd (a * b) ∧ rnd (a * b) ≤ 281474976710656 := by unfold rnd; omega
  refine ⟨?_, hr⟩
  rw [f96_eq, cl_in (n := a) (by omega) (by omega), cl_in (n := b) (by omega) (by omega), cl_in (n := rnd (a * b)) (by omega) (by omega)]
  simp
theorem rnd_le {a b m : Int} (a0 : 0 ≤ a) (b0 : 0 ≤ b) {A B : Int} (a1 : a ≤ A) (b1 : b ≤ B) (hm : A * B ≤ m * 4294967296) : rnd (a * b) ≤ m + 1 := by
  have h1 : a * b ≤ A * B := Int.mul_le_mul a1 b1 b0 (by omega)
  unfold rnd; omega
theorem zm96 {d : Int} (d0 : 0 ≤ d) (d1 : d ≤ 1073741824) : f96 0 d = (0, false) := by
  rw [(m96 (a := 0) (by omega) (by omega) d0 d1).1, Int.zero_mul]; rfl
/-- what is known of an axis at rest, k samples on -/
def Ar (k pp pv vv : Int) : Prop := 17592186044416 ≤ pp ∧ pp ≤ 17592186044416 + k * 17592186044416 ∧ 0 ≤ pv ∧ pv ≤ k * 2199023255552 ∧ 17592186044416 ≤ vv ∧ vv ≤ 17592186044416 + k * 134217728
theorem ar72 {k pp pv vv : Int} (h : Ar k pp pv vv) (h1 : k ≤ 31) (b : Bool) : f72 0 0 pp pv vv b = true := by
  unfold Ar at h
  unfold f72 f134 f114
  rw [show (f82 0).snd = false from rfl, f82_eq, cl_in (n := pv) (by omega) (by omega)]
  simp; omega
theorem pred_rest {k pp pv vv d : Int} (h : Ar k pp pv vv) (k0 : 0 ≤ k) (k1 : k ≤ 30) (d0 : 0 ≤ d) (d1 : d ≤ 268435456) : ∃ pp' pv' vv', f63 0 0 pp pv vv false 0 d 1073741824 = (0, 0, pp', pv', vv', false) ∧ Ar (k + 1) pp' pv' vv' := by
  have h72 := ar72 h (by omega) false
  obtain ⟨p0, p1, q0, q1, v0, v1⟩ := h
  have e2 : (!f114 0 || decide (d < 0) || decide (d > 1099511627776) || decide ((1073741824 : Int) < 0) || decide ((1073741824 : Int) > 1099511627776)) = false := by
    rw [show f114 0 = true from rfl, decide_eq_false (show ¬ d < 0 by omega), decide_eq_false (show ¬ d > 1099511627776 by omega)]; rfl
  have w2 : IntKind.i64.wrap (2 * d) = 2 * d := wS (by omega) (by omega)
  obtain ⟨eu, u0, -⟩ := m96 (a := vv) (b := d) (by omega) (by omega) d0 (by omega)
  have u1 : rnd (vv * d) ≤ 1099780063232 + 1 := rnd_le (by omega) d0 (A := 17596480489728) (B := 268435456) (by omega) d1 (by omega)
  obtain ⟨es, s0, -⟩ := m96 (a := pv) (b := 2 * d) (by omega) (by omega) (by omega) (by omega)
  have s1 : rnd (pv * (2 * d)) ≤ 8796093022208 + 1 := rnd_le (by omega) (by omega) (A := 70368744177664) (B := 536870912) (by omega) (by omega) (by omega)
  obtain ⟨er, r0, -⟩ := m96 (a := rnd (vv * d)) (b := d) (by omega) (by omega) d0 (by omega)
  have r1 : rnd (rnd (vv * d) * d) ≤ 137438953472 + 1 := rnd_le (by omega) d0 (A := 2199023255552) (B := 268435456) (by omega) d1 (by omega)
  obtain ⟨eq, t0, -⟩ := m96 (a := 1073741824) (b := d) (by omega) (by omega) d0 (by omega)
  have t1 : rnd (1073741824 * d) ≤ 67108864 + 1 := rnd_le (by omega) d0 (A := 1073741824) (B := 268435456) (by omega) d1 (by omega)
  have z0 : f170 0 0 = (0, false) := a170 (by omega) (by omega) (by omega) (by omega)
  have m1 : mxI 4096 (mnI (pp + rnd (pv * (2 * d)) + rnd (rnd (vv * d) * d)) 4503599627370496) = pp + rnd (pv * (2 * d)) + rnd (rnd (vv * d) * d) := by unfold mxI mnI; split <;> split <;> omega
  have m2 : mxI 4096 (mnI (vv + rnd (1073741824 * d)) 4503599627370496) = vv + rnd (1073741824 * d) := by unfold mxI mnI; split <;> split <;> omega
  refine ⟨pp + rnd (pv * (2 * d)) + rnd (rnd (vv * d) * d), pv + rnd (vv * d), vv + rnd (1073741824 * d), ?_, ?_⟩
  · unfold f63
    simp only [h72, e2, Bool.not_true, cond_false, zm96 d0 (show d ≤ 1073741824 by omega), z0, w2, eu, es, er, eq,
      a170 (a := pp) (b := rnd (pv * (2 * d))) (by omega) (by omega) (by omega) (by omega), a170 (a := pp + rnd (pv * (2 * d))) (b := rnd (rnd (vv * d) * d)) (by omega) (by omega) (by omega) (by omega),
      a170 (a := pv) (b := rnd (vv * d)) (by omega) (by omega) (by omega) (by omega), a170 (a := vv) (b := rnd (1073741824 * d)) (by omega) (by omega) (by omega) (by omega), m1, m2, bne_self_eq_false, Bool.or_self]
  · unfold Ar; omega
theorem move_rest {d : Int} (d0 : 0 ≤ d) (d1 : d ≤ 268435456) : f19 4294967296 0 0 0 0 0 0 false 0 0 0 d = (4294967296, 0, 0, 0, 0, 0, 0, false) := by
  have e51 : f51 0 0 0 d = (0, 0, 0, false) := by unfold f51; simp only [zm96 d0 (show d ≤ 1073741824 by omega)]; rfl
  have e44 : f44 4294967296 0 0 0 0 0 0 false = (4294967296, 0, 0, 0, 0, 0, 0, false) := by kernel_rfl
  have e52 : f52 0 0 0 0 0 0 = (0, 0, 0, false) := by kernel_rfl
  have e92 : f92 0 0 0 = (4294967296, 0, 0, 0, false) := by kernel_rfl
  have e85 : f85 4294967296 0 0 0 4294967296 0 0 0 = (4294967296, 0, 0, 0, false) := by kernel_rfl
  have e93 : f93 4294967296 0 0 0 = (4294967296, 0, 0, 0, false) := by kernel_rfl
  unfold f19
  simp only [e44, e52, e51, e92, e85, e93, decide_eq_false (show ¬ d < 0 by omega), decide_eq_false (show ¬ d > 68719476736 by omega), show (f82 0).snd = false from rfl, cond_false]
  rfl
theorem level_rest : f21 4294967296 0 0 0 0 0 0 false 0 0 42119241033 67108864 = (4294967296, 0, 0, 0, 0, 0, 0, false) := by kernel_rfl
theorem rot_rest : f42 4294967296 0 0 0 0 0 42119241033 = (0, 0, 42119241033, false) := by kernel_rfl
theorem acc_rest : f52 0 0 42119241033 0 0 42119241033 = (0, 0, 0, false) := by kernel_rfl
theorem cal_rest0 : f112 0 0 0 4294967296 4503599627370496 0 0 0 = (0, 0, 0, true) := by kernel_rfl
theorem cal_rest1 : f112 0 0 0 4294967296 4503599627370496 0 0 42119241033 = (0, 0, 42119241033, true) := by kernel_rfl
/-- the state k samples on -/
def Rst (t k : Int) (p : T29) : Prop := ∃ pp pv vv, Ar k pp pv vv ∧ p = (t, k, 0, 4294967296, 0, 0, 0, 0, 0, 0, false, 0, 0, pp, pv, vv, false, 0, 0, pp, pv, vv, false, 0, 0, pp, pv, vv, false)
def plainC : C20 := (0, 0, 0, 4294967296, 4503599627370496, 0, 0, 0, 4294967296, 4503599627370496, 0, 0, 0, 4294967296, 4503599627370496, 0, 0, 0, 4294967296, 4503599627370496)
theorem rst_sane {t k : Int} {p : T29} (h : Rst t k p) (k0 : 0 ≤ k) (k1 : k ≤ 31) (t0 : 0 ≤ t) (t1 : t ≤ 1000000) : Sn p := by
  obtain ⟨pp, pv, vv, h, rfl⟩ := h
  have h72 := ar72 h k1 false
  exact (f26_iff t k 0 4294967296 0 0 0 0 0 0 false 0 0 pp pv vv false 0 0 pp pv vv false 0 0 pp pv vv false).2 ⟨⟨t0, by omega⟩, ⟨k0, by omega⟩, ⟨by omega, by omega⟩, by kernel_rfl, h72, h72, h72⟩
theorem gap_rest {t step : Int} (t0 : 0 ≤ t) (t1 : t ≤ 1000000) (s0 : 0 ≤ step) (s1 : step ≤ 64) : IntKind.i64.wrap (mnI (IntKind.i64.wrap (t + step - t)) 16384 * 4194304) = step * 4194304 := by
  rw [show t + step - t = step by omega, wS (n := step) (by omega) (by omega)]
  have : mnI step 16384 = step := by unfold mnI; split <;> omega
  rw [this, wS (by omega) (by omega)]
theorem read_rest {t k step v2 : Int} {s : Int} (hs : s = 0 ∧ v2 = 0 ∨ s = 1 ∧ v2 = 42119241033) (t0 : 0 ≤ t) (t1 : t ≤ 1000000) (k0 : 0 ≤ k) (k1 : k ≤ 30) (s0 : 0 ≤ step) (s1 : step ≤ 64) (pp pv vv : Int) :
    f61 t k 0 4294967296 0 0 0 0 0 0 false 0 0 pp pv vv false 0 0 pp pv vv false 0 0 pp pv vv false 0 0 0 4294967296 4503599627370496 0 0 0 4294967296 4503599627370496 0 0 0 4294967296 4503599627370496 0 0 0 4294967296 4503599627370496 (t + step) s 0 0 v2 = (0, 0, v2, 0) := by
  have hk : (k == 1099511627776) = false := by simp; omega
  have hlt : decide (t + step < t) = false := decide_eq_false (by omega)
  rcases hs with ⟨rfl, rfl⟩ | ⟨rfl, rfl⟩
  · have e : f61 t k 0 4294967296 0 0 0 0 0 0 false 0 0 pp pv vv false 0 0 pp pv vv false 0 0 pp pv vv false 0 0 0 4294967296 4503599627370496 0 0 0 4294967296 4503599627370496 0 0 0 4294967296 4503599627370496 0 0 0 4294967296 4503599627370496 (t + step) 0 0 0 0 = f61p0 t k 0 4294967296 0 0 0 0 0 0 false 0 0 pp pv vv false 0 0 pp pv vv false 0 0 pp pv vv false 0 0 0 4294967296 4503599627370496 0 0 0 4294967296 4503599627370496 0 0 0 4294967296 4503599627370496 0 0 0 4294967296 4503599627370496 (t + step) 0 0 0 := rfl
    have h111 : f111 (t + step) 0 0 0 0 = true := by
      unfold f111; simp; omega
    rw [e]; unfold f61p0
    simp only [h111, hk, hlt, cal_rest0, Bool.not_true, Bool.or_self, cond_false]
    rfl
  · have e : f61 t k 0 4294967296 0 0 0 0 0 0 false 0 0 pp pv vv false 0 0 pp pv vv false 0 0 pp pv vv false 0 0 0 4294967296 4503599627370496 0 0 0 4294967296 4503599627370496 0 0 0 4294967296 4503599627370496 0 0 0 4294967296 4503599627370496 (t + step) 1 0 0 42119241033 = f61p1 t k 0 4294967296 0 0 0 0 0 0 false 0 0 pp pv vv false 0 0 pp pv vv false 0 0 pp pv vv false 0 0 0 4294967296 4503599627370496 0 0 0 4294967296 4503599627370496 0 0 0 4294967296 4503599627370496 0 0 0 4294967296 4503599627370496 (t + step) 0 0 42119241033 := rfl
    have h111 : f111 (t + step) 1 0 0 42119241033 = true := by
      unfold f111; simp; omega
    rw [e]; unfold f61p1
    simp only [h111, hk, hlt, cal_rest1, Bool.not_true, Bool.or_self, cond_false]
    rfl
theorem rest_step {t k step : Int} {p : T29} {s v2 : Int} (hs : s = 0 ∧ v2 = 0 ∨ s = 1 ∧ v2 = 42119241033) (h : Rst t k p) (t0 : 0 ≤ t) (t1 : t ≤ 100000) (k0 : 0 ≤ k) (k1 : k ≤ 29) (s0 : 0 ≤ step) (s1 : step ≤ 64) : Rst (t + step) (k + 1) (stepR plainC p (t + step, s, 0, 0, v2)) := by
  have hsn := rst_sane h k0 (by omega) t0 (by omega)
  obtain ⟨pp, pv, vv, h, rfl⟩ := h
  obtain ⟨pp', pv', vv', e63, h'⟩ := pred_rest h k0 (by omega) (d := step * 4194304) (by omega) (by omega)
  have hk := f60_as t k 0 4294967296 0 0 0 0 0 0 false 0 0 pp pv vv false 0 0 pp pv vv false 0 0 pp pv vv false hsn
  have hr := read_rest hs t0 (show t ≤ 1000000 by omega) k0 (show k ≤ 30 by omega) s0 s1 pp pv vv
  have hg := gap_rest t0 (show t ≤ 1000000 by omega) s0 s1
  have hw : IntKind.i64.wrap (k + 1) = k + 1 := wS (by omega) (by omega)
  refine ⟨pp', pv', vv', h', ?_⟩
  have hf : feed plainC (t, k, 0, 4294967296, 0, 0, 0, 0, 0, 0, false, 0, 0, pp, pv, vv, false, 0, 0, pp, pv, vv, false, 0, 0, pp, pv, vv, false) (t + step, s, 0, 0, v2) = (t + step, k + 1, 0, 4294967296, 0, 0, 0, 0, 0, 0, false, 0, 0, pp', pv', vv', false, 0, 0, pp', pv', vv', false, 0, 0, pp', pv', vv', false, 0) := by
    rcases hs with ⟨rfl, rfl⟩ | ⟨rfl, rfl⟩
    · have e : feed plainC (t, k, 0, 4294967296, 0, 0, 0, 0, 0, 0, false, 0, 0, pp, pv, vv, false, 0, 0, pp, pv, vv, false, 0, 0, pp, pv, vv, false) (t + step, 0, 0, 0, 0) = f24p0 t k 0 4294967296 0 0 0 0 0 0 false 0 0 pp pv vv false 0 0 pp pv vv false 0 0 pp pv vv false 0 0 0 4294967296 4503599627370496 0 0 0 4294967296 4503599627370496 0 0 0 4294967296 4503599627370496 0 0 0 4294967296 4503599627370496 (t + step) 0 0 0 := rfl
      rw [e]; unfold f24p0
      simp only [hk, hr, hg, e63, move_rest (d := step * 4194304) (by omega) (by omega), hw, bne_self_eq_false, cond_false]
    · have e : feed plainC (t, k, 0, 4294967296, 0, 0, 0, 0, 0, 0, false, 0, 0, pp, pv, vv, false, 0, 0, pp, pv, vv, false, 0, 0, pp, pv, vv, false) (t + step, 1, 0, 0, 42119241033) = f24p1 t k 0 4294967296 0 0 0 0 0 0 false 0 0 pp pv vv false 0 0 pp pv vv false 0 0 pp pv vv false 0 0 0 4294967296 4503599627370496 0 0 0 4294967296 4503599627370496 0 0 0 4294967296 4503599627370496 0 0 0 4294967296 4503599627370496 (t + step) 0 0 42119241033 := rfl
      rw [e]; unfold f24p1
      simp only [hk, hr, hg, rot_rest, acc_rest, e63, level_rest, hw, bne_self_eq_false, cond_false]
  unfold stepR
  rw [hf]
/-- the samples at rest -/
def smp (step : Int) (i : Nat) : S5 := (IntKind.i64.wrap (i * step), bif Nat.beq (i % 2) 1 then 1 else 0, 0, 0, bif Nat.beq (i % 2) 1 then 42119241033 else 0)
def restL (step : Int) (n : Nat) : List S5 := (List.range n).map fun k => smp step (k + 1)
theorem rest_all (step : Int) (s0 : 0 ≤ step) (s1 : step ≤ 64) : ∀ n : Nat, n ≤ 30 → Rst (n * step) n ((restL step n).foldl (stepR plainC) f28)
  | 0, _ => ⟨17592186044416, 0, 17592186044416, ⟨by omega, by omega, by omega, by omega, by omega, by omega⟩, by
      show f28 = _
      rw [show ((0 : Nat) : Int) * step = 0 by simp]; kernel_rfl⟩
  | n + 1, hn => by
    have ih := rest_all step s0 s1 n (by omega)
    have hm : (0 : Int) ≤ n * step := Int.mul_nonneg (by omega) s0
    have hm1 : (n : Int) * step ≤ 30 * 64 := Int.mul_le_mul (by omega) s1 s0 (by omega)
    have hmul : ((n + 1 : Nat) : Int) * step = n * step + step := by rw [show ((n + 1 : Nat) : Int) = (n : Int) + 1 from rfl, Int.add_mul, Int.one_mul]
    have hsmp : smp step (n + 1) = (n * step + step, bif Nat.beq ((n + 1) % 2) 1 then 1 else 0, 0, 0, bif Nat.beq ((n + 1) % 2) 1 then 42119241033 else 0) := by
      unfold smp; rw [hmul, wS (by omega) (by omega)]
    have hst := rest_step (t := n * step) (k := n) (step := step) (p := (restL step n).foldl (stepR plainC) f28) (s := bif Nat.beq ((n + 1) % 2) 1 then 1 else 0) (v2 := bif Nat.beq ((n + 1) % 2) 1 then 42119241033 else 0)
      (by cases Nat.beq ((n + 1) % 2) 1 with
          | true => exact .inr ⟨rfl, rfl⟩
          | false => exact .inl ⟨rfl, rfl⟩) ih hm (by omega) (by omega) (by omega) s0 s1
    have hl : restL step (n + 1) = restL step n ++ [smp step (n + 1)] := by simp [restL, List.range_succ]
    rw [hl, List.foldl_append, hmul]
    simp only [List.foldl_cons, List.foldl_nil]
    rw [hsmp]
    exact hst
end Go.Proofs.YtmnglkcodbecbaaGreat
