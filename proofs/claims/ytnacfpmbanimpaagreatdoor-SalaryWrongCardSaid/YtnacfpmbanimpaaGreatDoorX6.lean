/- Part 6 of a proof: Q8, Q9, Q10, Q14. -/
import Derived.Test.YtnacfpmbanimpaaGreatDoorX5
/- Law 9: the examples. -/
namespace An.S
open Go Go.Proofs An
set_option maxHeartbeats 2000000
set_option maxRecDepth 100000
theorem fi12 : FnI Tryz.prog 12 := ⟨_, Tryz.func12, by kernel_rfl, rfl⟩
theorem fi20 : FnI Tryz.prog 20 := ⟨_, Tryz.func20, by kernel_rfl, rfl⟩
theorem fi21 : FnI Tryz.prog 21 := ⟨_, Tryz.func21, by kernel_rfl, rfl⟩
theorem fi24 : FnI Tryz.prog 24 := ⟨_, Tryz.func24, by kernel_rfl, rfl⟩
theorem fi30 : FnI Tryz.prog 30 := ⟨_, Tryz.func30, by kernel_rfl, rfl⟩
theorem fi31 : FnI Tryz.prog 31 := ⟨_, Tryz.func31, by kernel_rfl, rfl⟩
theorem nOk3 : nOk 3 2700 := ⟨⟨by decide, by decide⟩, by decide, by decide⟩
theorem xc1_ok {n : Int} (h : 0 ≤ n) (h2 : n ≤ 900) : gOk 3 3 2700 (xc n 1) := (xc_ok (D := 3) (B := 2700) (n := n) (d := 1) (x := n * 3) (by decide) (by omega) (by decide) (by decide) (by omega) (by omega) (by decide)).1
theorem xg9 : isG 3 3 2700 exP := ⟨by decide +kernel, fun s hs => by
  simp only [exP, List.mem_cons, List.not_mem_nil, or_false] at hs
  rcases hs with rfl | rfl | rfl | rfl <;> exact xc1_ok (by decide) (by decide)⟩
theorem exAv : avR 3 exP 0 90 = (fr (kfr 362 3), 0) := by decide +kernel
theorem exAv2 : (avR 3 exP 0 121).2 = 6 := by decide +kernel
theorem exWi : winR exP 0 120 3 = ([0, 1], 0) := by decide +kernel
theorem c_exA : Ct Tryz.prog 12 [tL 8 true tTs exP, tI 0, tI 90] (tT [tFr (fr (kfr 362 3)), tI 0]) := by
  have h := c_Average 3 2700 exP 0 90 nOk3 xg9.dig (fun _ => xg9) (by decide)
  rw [exAv] at h; exact h
theorem c_exA2 : Ct Tryz.prog 12 [tL 8 true tTs exP, tI 0, tI 121] (tT [tFr (avR 3 exP 0 121).1, tI 6]) := by
  have h := c_Average 3 2700 exP 0 121 nOk3 xg9.dig (fun _ => xg9) (by decide)
  rw [exAv2] at h; exact h
theorem c_exW : Ct Tryz.prog 24 [tG KL (tL 8 true tTs exP), tI 0, tI 120, tI 3] (tT [tL 1 false tI [0, 1], tI 0]) := by
  have h := c_Windows 3 2700 exP 0 120 3 xg9.dig (fun _ => xg9) (by decide)
  rw [exWi] at h; exact h
theorem c_sameFv (f g : Fr) (e : f = g) : Ct Tryz.prog 16 [tFr f, tFr g] (tB true) := by
  have h := c_SameFrac f g
  rw [decide_eq_true e] at h; exact h
theorem c_sameIv (u w : List Int) (e : u = w) : Ct Tryz.prog 31 [tL 1 false tI u, tL 1 false tI w] (tB true) := by
  have h := c_SameInts u w
  rw [decide_eq_true e] at h; exact h
theorem exB1 : fO 3 exP ((1 : Int).toNat) (bO 3 exP 0 120 1) = fr (kfr 160 1) ∧ bE 3 exP 0 120 1 = 0 ∧ wM (bO 3 exP 0 120 1) = 2 := by decide +kernel
theorem c_exB1 : Ct Tryz.prog 20 [tG KL (tL 8 true tTs exP), tI 0, tI 120, tI 1] (tT [tFr (fr (kfr 160 1)), tI 0]) := by
  have h := c_Best 3 2700 exP 0 120 1 nOk3 xg9.dig (fun _ => xg9) (by decide)
  rw [exB1.1, exB1.2.1] at h; exact h
theorem c_exWB1 : Ct Tryz.prog 21 [tG KL (tL 8 true tTs exP), tI 0, tI 120, tI 1] (tT [tI 2, tI 0]) := by
  have h := c_When 3 2700 exP 0 120 1 nOk3 xg9.dig (fun _ => xg9) (by decide)
  rw [exB1.2.2, exB1.2.1] at h; exact h
theorem exB2 : fO 3 exP ((2 : Int).toNat) (bO 3 exP 0 120 2) = fr (kfr 8860 61) ∧ bE 3 exP 0 120 2 = 0 ∧ wM (bO 3 exP 0 120 2) = 2 := by decide +kernel
theorem c_exB2 : Ct Tryz.prog 20 [tG KL (tL 8 true tTs exP), tI 0, tI 120, tI 2] (tT [tFr (fr (kfr 8860 61)), tI 0]) := by
  have h := c_Best 3 2700 exP 0 120 2 nOk3 xg9.dig (fun _ => xg9) (by decide)
  rw [exB2.1, exB2.2.1] at h; exact h
theorem c_exWB2 : Ct Tryz.prog 21 [tG KL (tL 8 true tTs exP), tI 0, tI 120, tI 2] (tT [tI 2, tI 0]) := by
  have h := c_When 3 2700 exP 0 120 2 nOk3 xg9.dig (fun _ => xg9) (by decide)
  rw [exB2.2.2, exB2.2.1] at h; exact h
theorem exB3 : fO 3 exP ((4 : Int).toNat) (bO 3 exP 1 120 4) = fr0 ∧ bE 3 exP 1 120 4 = 6 ∧ wM (bO 3 exP 1 120 4) = 0 := by decide +kernel
theorem c_exB3 : Ct Tryz.prog 20 [tG KL (tL 8 true tTs exP), tI 1, tI 120, tI 4] (tT [tFr (fr0), tI 6]) := by
  have h := c_Best 3 2700 exP 1 120 4 nOk3 xg9.dig (fun _ => xg9) (by decide)
  rw [exB3.1, exB3.2.1] at h; exact h
theorem exB4 : fO 3 exP ((1 : Int).toNat) (bO 3 exP 0 200 1) = fr (kfr 900 1) ∧ bE 3 exP 0 200 1 = 0 ∧ wM (bO 3 exP 0 200 1) = 5 := by decide +kernel
theorem c_exB4 : Ct Tryz.prog 20 [tG KL (tL 8 true tTs exP), tI 0, tI 200, tI 1] (tT [tFr (fr (kfr 900 1)), tI 0]) := by
  have h := c_Best 3 2700 exP 0 200 1 nOk3 xg9.dig (fun _ => xg9) (by decide)
  rw [exB4.1, exB4.2.1] at h; exact h
theorem c_exWB4 : Ct Tryz.prog 21 [tG KL (tL 8 true tTs exP), tI 0, tI 200, tI 1] (tT [tI 5, tI 0]) := by
  have h := c_When 3 2700 exP 0 200 1 nOk3 xg9.dig (fun _ => xg9) (by decide)
  rw [exB4.2.2, exB4.2.1] at h; exact h
theorem c_awake09  :
    Ct0 KL Tryz.prog 9 (tB true) := by
  refine Ct0.intro 137 Tryz.func9 rfl Tryz.ntmps9 rfl ?_
  intro w F
  refine x6 ?_
  refine x8 ?_
  refine R1 x5 rfl ?_
  refine x7 (by kernel_rfl) ?_
  refine x4 ?_
  refine x6 ?_
  refine x8 ?_
  refine R0 (xa0 c_example fi30 rfl)  ?_
  refine R1 x5 rfl ?_
  refine x7 (by kernel_rfl) ?_
  refine x4 ?_
  refine x6 ?_
  refine x8 ?_
  refine R1 x3 rfl ?_
  refine R3 (xa0 c_exA fi12 rfl) rfl rfl rfl ?_
  refine R1 x3 rfl ?_
  refine R1 (xa2 rfl) rfl ?_
  refine R1 (xa2 rfl) rfl ?_
  refine RE (xb4 (k := 2) (n := 4) (agg := true) zr31.1 zr31.2 rfl) trivial trivial ⟨rfl, trivial⟩ ?_
  refine RE (xa3 (es := 4) (agg := true) (0) ti31 rfl rfl rfl) ⟨rfl, rfl, trivial⟩ ⟨rfl, trivial⟩ trivial ?_
  refine R1 x5 rfl ?_
  refine x7 (by kernel_rfl) ?_
  refine x4 ?_
  refine x6 ?_
  refine x8 ?_
  refine R1 x3 rfl ?_
  refine R3 (xa0 c_exA2 fi12 rfl) rfl rfl rfl ?_
  refine R1 x3 rfl ?_
  refine R1 (xa2 rfl) rfl ?_
  refine R1 (xa2 rfl) rfl ?_
  refine RE (xb4 (k := 4) (n := 4) (agg := true) zr31.1 zr31.2 rfl) trivial trivial ⟨rfl, trivial⟩ ?_
  refine RE (xa3 (es := 4) (agg := true) (0) ti31 rfl rfl rfl) ⟨rfl, rfl, trivial⟩ ⟨rfl, trivial⟩ trivial ?_
  refine R1 x5 rfl ?_
  refine x7 (by kernel_rfl) ?_
  refine x4 ?_
  refine x6 ?_
  refine x8 ?_
  refine R1 x3 rfl ?_
  refine RE (xg3 137 car_K c_exB1 fi20 rfl) ⟨rfl, rfl, rfl, rfl, rfl, trivial⟩ trivial trivial ?_
  refine R1 x3 rfl ?_
  refine R1 (xa2 rfl) rfl ?_
  refine R1 (xa2 rfl) rfl ?_
  refine RE (xb4 (k := 6) (n := 4) (agg := true) zr31.1 zr31.2 rfl) trivial trivial ⟨rfl, trivial⟩ ?_
  refine RE (xa3 (es := 4) (agg := true) (0) ti31 rfl rfl rfl) ⟨rfl, rfl, trivial⟩ ⟨rfl, trivial⟩ trivial ?_
  refine R1 x5 rfl ?_
  refine x7 (by kernel_rfl) ?_
  refine x4 ?_
  refine x6 ?_
  refine x8 ?_
  refine R1 x3 rfl ?_
  refine RE (xg3 137 car_K c_exB2 fi20 rfl) ⟨rfl, rfl, rfl, rfl, rfl, trivial⟩ trivial trivial ?_
  refine R1 x3 rfl ?_
  refine R1 (xa2 rfl) rfl ?_
  refine R1 (xa2 rfl) rfl ?_
  refine RE (xb4 (k := 8) (n := 4) (agg := true) zr31.1 zr31.2 rfl) trivial trivial ⟨rfl, trivial⟩ ?_
  refine RE (xa3 (es := 4) (agg := true) (0) ti31 rfl rfl rfl) ⟨rfl, rfl, trivial⟩ ⟨rfl, trivial⟩ trivial ?_
  refine R1 x5 rfl ?_
  refine x7 (by kernel_rfl) ?_
  refine x4 ?_
  refine x6 ?_
  refine x8 ?_
  refine R1 x3 rfl ?_
  refine RE (xg3 137 car_K c_exB3 fi20 rfl) ⟨rfl, rfl, rfl, rfl, rfl, trivial⟩ trivial trivial ?_
  refine R1 x3 rfl ?_
  refine R1 (xa2 rfl) rfl ?_
  refine R1 (xa2 rfl) rfl ?_
  refine RE (xb4 (k := 10) (n := 4) (agg := true) zr31.1 zr31.2 rfl) trivial trivial ⟨rfl, trivial⟩ ?_
  refine RE (xa3 (es := 4) (agg := true) (0) ti31 rfl rfl rfl) ⟨rfl, rfl, trivial⟩ ⟨rfl, trivial⟩ trivial ?_
  refine R1 x5 rfl ?_
  refine x7 (by kernel_rfl) ?_
  refine x4 ?_
  refine x6 ?_
  refine x8 ?_
  refine R1 x3 rfl ?_
  refine RE (xg3 137 car_K c_exB4 fi20 rfl) ⟨rfl, rfl, rfl, rfl, rfl, trivial⟩ trivial trivial ?_
  refine R1 x3 rfl ?_
  refine R1 (xa2 rfl) rfl ?_
  refine R1 (xa2 rfl) rfl ?_
  refine RE (xb4 (k := 12) (n := 4) (agg := true) zr31.1 zr31.2 rfl) trivial trivial ⟨rfl, trivial⟩ ?_
  refine RE (xa3 (es := 4) (agg := true) (0) ti31 rfl rfl rfl) ⟨rfl, rfl, trivial⟩ ⟨rfl, trivial⟩ trivial ?_
  refine R1 x5 rfl ?_
  refine x7 (by kernel_rfl) ?_
  refine x4 ?_
  refine x6 ?_
  refine x8 ?_
  refine R1 x3 rfl ?_
  refine RE (xg3 137 car_K c_exWB1 fi21 rfl) ⟨rfl, rfl, rfl, rfl, rfl, trivial⟩ trivial trivial ?_
  refine R1 x3 rfl ?_
  refine R1 (xa2 rfl) rfl ?_
  refine R1 (xa2 rfl) rfl ?_
  refine R1 x5 rfl ?_
  refine R1 x5 rfl ?_
  refine x7 (by kernel_rfl) ?_
  refine x4 ?_
  refine x6 ?_
  refine x8 ?_
  refine R1 x3 rfl ?_
  refine RE (xg3 137 car_K c_exWB2 fi21 rfl) ⟨rfl, rfl, rfl, rfl, rfl, trivial⟩ trivial trivial ?_
  refine R1 x3 rfl ?_
  refine R1 (xa2 rfl) rfl ?_
  refine R1 (xa2 rfl) rfl ?_
  refine R1 x5 rfl ?_
  refine R1 x5 rfl ?_
  refine x7 (by kernel_rfl) ?_
  refine x4 ?_
  refine x6 ?_
  refine x8 ?_
  refine R1 x3 rfl ?_
  refine RE (xg3 137 car_K c_exWB4 fi21 rfl) ⟨rfl, rfl, rfl, rfl, rfl, trivial⟩ trivial trivial ?_
  refine R1 x3 rfl ?_
  refine R1 (xa2 rfl) rfl ?_
  refine R1 (xa2 rfl) rfl ?_
  refine R1 x5 rfl ?_
  refine R1 x5 rfl ?_
  refine x7 (by kernel_rfl) ?_
  refine x4 ?_
  refine x6 ?_
  refine x8 ?_
  refine R1 x3 rfl ?_
  refine RE (xg3 137 car_K c_exW fi24 rfl) ⟨rfl, rfl, rfl, rfl, rfl, trivial⟩ trivial trivial ?_
  refine R1 x3 rfl ?_
  refine R1 (xa2 rfl) rfl ?_
  refine R1 (xa2 rfl) rfl ?_
  refine R1 x5 rfl ?_
  refine R1 x5 rfl ?_
  refine x7 (by kernel_rfl) ?_
  refine x4 ?_
  refine x6 ?_
  refine x6 ?_
  refine x8 ?_
  refine R1 x3 rfl ?_
  refine R1 x3 rfl ?_
  refine R2 (xb6 (wr64 (by omega) (by omega))) rfl rfl ?_
  refine R1 x3 rfl ?_
  refine R2 (xb6 (wr64 (by omega) (by omega))) rfl rfl ?_
  refine R1 x3 rfl ?_
  refine R2 (xb6 (wr64 (by omega) (by omega))) rfl rfl ?_
  refine R1 x3 rfl ?_
  refine R2 (xb6 (wr64 (by omega) (by omega))) rfl rfl ?_
  refine R1 x3 rfl ?_
  refine R2 (xb6 (wr64 (by omega) (by omega))) rfl rfl ?_
  refine R1 x3 rfl ?_
  refine R2 (xb6 (wr64 (by omega) (by omega))) rfl rfl ?_
  refine R1 x3 rfl ?_
  refine R2 (xb6 (wr64 (by omega) (by omega))) rfl rfl ?_
  refine R2 xf9 rfl rfl ?_
  refine R1 x3 rfl ?_
  refine RGon (decide_eq_false (by omega)) rfl x3 rfl ⟨rfl, trivial⟩ trivial trivial ?_
  refine RGon (decide_eq_false (by omega)) rfl xf9 rfl ⟨rfl, rfl, trivial⟩ trivial trivial ?_
  refine R2 (xb0 (decide_eq_false (by omega))) rfl rfl ?_
  refine R1 x3 rfl ?_
  refine RGon (decide_eq_false (by omega)) rfl x3 rfl ⟨rfl, trivial⟩ trivial trivial ?_
  refine RGon (decide_eq_false (by omega)) rfl xf9 rfl ⟨rfl, rfl, trivial⟩ trivial trivial ?_
  refine R2 (xb0 (decide_eq_false (by omega))) rfl rfl ?_
  refine R1 x3 rfl ?_
  refine RGon (decide_eq_false (by omega)) rfl x3 rfl ⟨rfl, trivial⟩ trivial trivial ?_
  refine RGon (decide_eq_false (by omega)) rfl xf9 rfl ⟨rfl, rfl, trivial⟩ trivial trivial ?_
  refine R2 (xb0 (decide_eq_false (by omega))) rfl rfl ?_
  refine R1 x3 rfl ?_
  refine RGon (decide_eq_false (by omega)) rfl x3 rfl ⟨rfl, trivial⟩ trivial trivial ?_
  refine RGon (decide_eq_false (by omega)) rfl xf9 rfl ⟨rfl, rfl, trivial⟩ trivial trivial ?_
  refine R2 (xb0 (decide_eq_false (by omega))) rfl rfl ?_
  refine R1 x3 rfl ?_
  refine RGon (decide_eq_false (by omega)) rfl x3 rfl ⟨rfl, trivial⟩ trivial trivial ?_
  refine RGon (decide_eq_false (by omega)) rfl xf9 rfl ⟨rfl, rfl, trivial⟩ trivial trivial ?_
  refine R2 (xb0 (decide_eq_false (by omega))) rfl rfl ?_
  refine R1 x3 rfl ?_
  refine RGon (decide_eq_false (by omega)) rfl x3 rfl ⟨rfl, trivial⟩ trivial trivial ?_
  refine RGon (decide_eq_false (by omega)) rfl (xf7 (n := 2) (f := fun n : Int => tI n) [0, 1] Tryz.underlying54 el3 zf3 rfl (fun _ => inferInstance) rfl rfl rfl) rfl ⟨rfl, rfl, trivial⟩ trivial trivial ?_
  refine RGon (decide_eq_false (by omega)) rfl (xa0 (c_sameIv _ _ rfl) fi31 rfl) rfl ⟨rfl, rfl, trivial⟩ trivial trivial ?_
  refine RGon (decide_eq_false (by omega)) rfl xe4 rfl ⟨rfl, trivial⟩ trivial trivial ?_
  refine R2 (xb0 (decide_eq_false (by omega))) rfl rfl ?_
  refine x7 (by kernel_rfl) ?_
  refine x4 ?_
  refine C_bF rfl rfl ?_
  refine xa5 ?_
  refine x4 ?_
  refine x6 ?_
  refine x8 ?_
  refine R1 x5 rfl ?_
  refine x7 (by kernel_rfl) ?_
  refine x4 ?_
  refine x6 ?_
  refine xd5 mixed ?_
  refine R1 x3 rfl ?_
  refine RE (xa8 (0) ti31 rfl rfl) ⟨rfl, trivial⟩ ⟨rfl, trivial⟩ trivial ?_
  refine R2 (xa0 (c_KFrac 362 3 (by decide) (by decide) (by decide) (by decide)) fi17 rfl) rfl rfl ?_
  refine R3 (d_callF (c_sameFv _ _ rfl) fi16 rfl) rfl rfl rfl ?_
  refine R1 x3 rfl ?_
  refine RGon rfl rfl x3 rfl ⟨rfl, trivial⟩ trivial trivial ?_
  refine RGon rfl rfl (xa8 (0) ti31 rfl rfl) rfl ⟨rfl, trivial⟩ ⟨rfl, trivial⟩ trivial ?_
  refine RGon rfl rfl (xa0 (c_KFrac 160 1 (by decide) (by decide) (by decide) (by decide)) fi17 rfl) rfl ⟨rfl, rfl, trivial⟩ trivial trivial ?_
  refine RGon rfl rfl (d_callF (c_sameFv _ _ rfl) fi16 rfl) rfl ⟨rfl, rfl, rfl, trivial⟩ trivial trivial ?_
  refine R2 (xb2 rfl) rfl rfl ?_
  refine R1 x3 rfl ?_
  refine RGon rfl rfl x3 rfl ⟨rfl, trivial⟩ trivial trivial ?_
  refine RGon rfl rfl (xa8 (0) ti31 rfl rfl) rfl ⟨rfl, trivial⟩ ⟨rfl, trivial⟩ trivial ?_
  refine RGon rfl rfl (xa0 (c_KFrac 8860 61 (by decide) (by decide) (by decide) (by decide)) fi17 rfl) rfl ⟨rfl, rfl, trivial⟩ trivial trivial ?_
  refine RGon rfl rfl (d_callF (c_sameFv _ _ rfl) fi16 rfl) rfl ⟨rfl, rfl, rfl, trivial⟩ trivial trivial ?_
  refine R2 (xb2 rfl) rfl rfl ?_
  refine R1 x3 rfl ?_
  refine RGon rfl rfl x3 rfl ⟨rfl, trivial⟩ trivial trivial ?_
  refine RGon rfl rfl (xa8 (0) ti31 rfl rfl) rfl ⟨rfl, trivial⟩ ⟨rfl, trivial⟩ trivial ?_
  refine RGon rfl rfl (xa0 (c_KFrac 900 1 (by decide) (by decide) (by decide) (by decide)) fi17 rfl) rfl ⟨rfl, rfl, trivial⟩ trivial trivial ?_
  refine RGon rfl rfl (d_callF (c_sameFv _ _ rfl) fi16 rfl) rfl ⟨rfl, rfl, rfl, trivial⟩ trivial trivial ?_
  refine R2 (xb2 rfl) rfl rfl ?_
  refine R1 x5 rfl ?_
  refine xd6 (by kernel_rfl) ?_
  refine x4 ?_
  refine xa1 ?_
  exact xa4 Plain.mk' rfl rfl Le.refl
end An.S

/- Law 9: SalaryMean. -/
namespace An.S
open Go Go.Proofs An
set_option maxHeartbeats 2000000
theorem fi9 : FnI Tryz.prog 9 := ⟨_, Tryz.func9, by kernel_rfl, rfl⟩
theorem fi10 : FnI Tryz.prog 10 := ⟨_, Tryz.func10, by kernel_rfl, rfl⟩
theorem fi14 : FnI Tryz.prog 14 := ⟨_, Tryz.func14, by kernel_rfl, rfl⟩
theorem nOk9 : nOk 3 999 := ⟨⟨by decide, by decide⟩, by decide, by decide⟩
def loP (l : List Tst) (p q : Int) (s : Tst) : Bool := decide (s.lo < q) && decide (p < s.hi) && decide (wt 3 s.v * (q - p) ≤ gS (wt 3) l p q)
def hiP (l : List Tst) (p q : Int) (s : Tst) : Bool := decide (s.lo < q) && decide (p < s.hi) && decide (gS (wt 3) l p q ≤ wt 3 s.v * (q - p))
def loB (l : List Tst) (p q : Int) (i : Nat) : Bool := (l.take i).any (loP l p q)
def hiB (l : List Tst) (p q : Int) (i : Nat) : Bool := (l.take i).any (hiP l p q)
theorem any_next {f : Tst → Bool} {l : List Tst} {i : Nat} (hi : i < l.length) : (l.take (i + 1)).any f = ((l.take i).any f || f (l.getD i tst0)) := by
  rw [List.take_succ_eq_append_getElem hi, List.any_append, List.getD_eq_getElem?_getD, List.getElem?_eq_getElem hi]; simp
end An.S

/- Law 9: SalaryWindows. -/
namespace An.S
open Go Go.Proofs An
set_option maxHeartbeats 2000000
end An.S

/- Law 9: SalaryWrong. -/
namespace An.S
open Go Go.Proofs An
set_option maxHeartbeats 2000000
theorem sl57 : SlI Tryz.prog 57 32 1 false := ⟨Tryz.underlying57, ti32⟩
theorem fi23 : FnI Tryz.prog 23 := ⟨_, Tryz.func23, by kernel_rfl, rfl⟩
theorem el32 : ElI Tryz.prog 32 1 8 false (.int .i64 0) := ⟨ti32, by kernel_rfl, by kernel_rfl⟩
theorem zr53 : (Tryz.prog.info? 53).bind (·.zero) = some (.agg #[.int .i64 0, .int .i64 0, .int .u8 0, .bool false, .slice none 0 0, .bool false, .slice none 0 0, .int .i64 0, .int .i64 0, .int .i64 0, .int .u8 0, .bool false, .slice none 0 0, .bool false, .slice none 0 0, .int .i64 0, .int .i64 0, .int .i64 0, .int .u8 0, .bool false, .slice none 0 0, .bool false, .slice none 0 0, .int .i64 0]) ∧ ∀ F w, (tS [⟨8, true, (tS [⟨1, false, (tE (.int .i64 0))⟩, ⟨1, false, (tE (.int .i64 0))⟩, ⟨6, true, (tS [⟨1, false, (tE (.int .u8 0))⟩, ⟨4, true, (tS [⟨2, true, (tS [⟨1, false, (tE (.bool false))⟩, ⟨1, false, (tLm [])⟩])⟩, ⟨2, true, (tS [⟨1, false, (tE (.bool false))⟩, ⟨1, false, (tLm [])⟩])⟩])⟩, ⟨1, false, (tE (.int .i64 0))⟩])⟩])⟩, ⟨8, true, (tS [⟨1, false, (tE (.int .i64 0))⟩, ⟨1, false, (tE (.int .i64 0))⟩, ⟨6, true, (tS [⟨1, false, (tE (.int .u8 0))⟩, ⟨4, true, (tS [⟨2, true, (tS [⟨1, false, (tE (.bool false))⟩, ⟨1, false, (tLm [])⟩])⟩, ⟨2, true, (tS [⟨1, false, (tE (.bool false))⟩, ⟨1, false, (tLm [])⟩])⟩])⟩, ⟨1, false, (tE (.int .i64 0))⟩])⟩])⟩, ⟨8, true, (tS [⟨1, false, (tE (.int .i64 0))⟩, ⟨1, false, (tE (.int .i64 0))⟩, ⟨6, true, (tS [⟨1, false, (tE (.int .u8 0))⟩, ⟨4, true, (tS [⟨2, true, (tS [⟨1, false, (tE (.bool false))⟩, ⟨1, false, (tLm [])⟩])⟩, ⟨2, true, (tS [⟨1, false, (tE (.bool false))⟩, ⟨1, false, (tLm [])⟩])⟩])⟩, ⟨1, false, (tE (.int .i64 0))⟩])⟩])⟩]).p F w (.agg #[.int .i64 0, .int .i64 0, .int .u8 0, .bool false, .slice none 0 0, .bool false, .slice none 0 0, .int .i64 0, .int .i64 0, .int .i64 0, .int .u8 0, .bool false, .slice none 0 0, .bool false, .slice none 0 0, .int .i64 0, .int .i64 0, .int .i64 0, .int .u8 0, .bool false, .slice none 0 0, .bool false, .slice none 0 0, .int .i64 0]) := ⟨by kernel_rfl, fun _ _ => ⟨_, rfl, rfl, ⟨fun h => Bool.noConfusion h, ⟨_, rfl, rfl, ⟨fun _ => rfl, rfl⟩, ⟨fun _ => rfl, rfl⟩, ⟨fun h => Bool.noConfusion h, ⟨_, rfl, rfl, ⟨fun _ => rfl, rfl⟩, ⟨fun h => Bool.noConfusion h, ⟨_, rfl, rfl, ⟨fun h => Bool.noConfusion h, ⟨_, rfl, rfl, ⟨fun _ => rfl, rfl⟩, ⟨fun _ => rfl, ⟨none, 0, rfl, Nat.le_refl _, by decide, .inl rfl⟩⟩, trivial⟩⟩, ⟨fun h => Bool.noConfusion h, ⟨_, rfl, rfl, ⟨fun _ => rfl, rfl⟩, ⟨fun _ => rfl, ⟨none, 0, rfl, Nat.le_refl _, by decide, .inl rfl⟩⟩, trivial⟩⟩, trivial⟩⟩, ⟨fun _ => rfl, rfl⟩, trivial⟩⟩, trivial⟩⟩, ⟨fun h => Bool.noConfusion h, ⟨_, rfl, rfl, ⟨fun _ => rfl, rfl⟩, ⟨fun _ => rfl, rfl⟩, ⟨fun h => Bool.noConfusion h, ⟨_, rfl, rfl, ⟨fun _ => rfl, rfl⟩, ⟨fun h => Bool.noConfusion h, ⟨_, rfl, rfl, ⟨fun h => Bool.noConfusion h, ⟨_, rfl, rfl, ⟨fun _ => rfl, rfl⟩, ⟨fun _ => rfl, ⟨none, 0, rfl, Nat.le_refl _, by decide, .inl rfl⟩⟩, trivial⟩⟩, ⟨fun h => Bool.noConfusion h, ⟨_, rfl, rfl, ⟨fun _ => rfl, rfl⟩, ⟨fun _ => rfl, ⟨none, 0, rfl, Nat.le_refl _, by decide, .inl rfl⟩⟩, trivial⟩⟩, trivial⟩⟩, ⟨fun _ => rfl, rfl⟩, trivial⟩⟩, trivial⟩⟩, ⟨fun h => Bool.noConfusion h, ⟨_, rfl, rfl, ⟨fun _ => rfl, rfl⟩, ⟨fun _ => rfl, rfl⟩, ⟨fun h => Bool.noConfusion h, ⟨_, rfl, rfl, ⟨fun _ => rfl, rfl⟩, ⟨fun h => Bool.noConfusion h, ⟨_, rfl, rfl, ⟨fun h => Bool.noConfusion h, ⟨_, rfl, rfl, ⟨fun _ => rfl, rfl⟩, ⟨fun _ => rfl, ⟨none, 0, rfl, Nat.le_refl _, by decide, .inl rfl⟩⟩, trivial⟩⟩, ⟨fun h => Bool.noConfusion h, ⟨_, rfl, rfl, ⟨fun _ => rfl, rfl⟩, ⟨fun _ => rfl, ⟨none, 0, rfl, Nat.le_refl _, by decide, .inl rfl⟩⟩, trivial⟩⟩, trivial⟩⟩, ⟨fun _ => rfl, rfl⟩, trivial⟩⟩, trivial⟩⟩, trivial⟩⟩
theorem bu53 : BuI Tryz.prog 53 (fun i => some (i * 8, 8)) (.agg #[.int .i64 0, .int .i64 0, .int .u8 0, .bool false, .slice none 0 0, .bool false, .slice none 0 0, .int .i64 0, .int .i64 0, .int .i64 0, .int .u8 0, .bool false, .slice none 0 0, .bool false, .slice none 0 0, .int .i64 0, .int .i64 0, .int .i64 0, .int .u8 0, .bool false, .slice none 0 0, .bool false, .slice none 0 0, .int .i64 0]) := BuI.array Tryz.underlying53 ti41 zr53.1
theorem zf32 : Flat 1 false (.int .i64 0) := xg0 rfl
section
variable {l : List Tst} {p q n : Int}
theorem c_AvX (p q : Int) (hD : ∀ s ∈ l, s.v.f.dig) (hl : l.length ≤ 200000) (h : askB l p q = false) : Ct Tryz.prog 12 [tL 8 true tTs l, tI p, tI q] (tT [tFr fr0, tI 2]) := by
  have h1 := c_Average 3 999 l p q nOk9 hD (fun h2 => by rw [h] at h2; cases h2) hl
  rw [avR, if_neg (by rw [h]; simp)] at h1; exact h1
theorem c_WinX (p q n : Int) (hD : ∀ s ∈ l, s.v.f.dig) (hl : l.length ≤ 200000) (hG : askB l p q = true → isG 3 3 999 l) (h : ¬ lenOk l p q n) : Ct Tryz.prog 24 [tG KL (tL 8 true tTs l), tI p, tI q, tI n] (tT [tL 1 false tI [], tI 2]) := by
  have h1 := c_Windows 3 999 l p q n hD hG hl
  rw [winR, if_neg h] at h1; exact h1
theorem c_WhX (p q n : Int) (hD : ∀ s ∈ l, s.v.f.dig) (hl : l.length ≤ 200000) (hG : askB l p q = true → isG 3 3 999 l) (h : ¬ lenOk l p q n) : Ct Tryz.prog 21 [tG KL (tL 8 true tTs l), tI p, tI q, tI n] (tT [tI 0, tI 2]) := by
  have h1 := c_When 3 999 l p q n nOk9 hD hG hl
  rw [bO, if_neg h, bE, if_neg h] at h1; exact h1
theorem c_BeX (p q n : Int) (hD : ∀ s ∈ l, s.v.f.dig) (hl : l.length ≤ 200000) (hG : askB l p q = true → isG 3 3 999 l) (h : ¬ lenOk l p q n) : Ct Tryz.prog 20 [tG KL (tL 8 true tTs l), tI p, tI q, tI n] (tT [tFr fr0, tI 2]) := by
  have h1 := c_Best 3 999 l p q n nOk9 hD hG hl
  rw [bO, if_neg h, bE, if_neg h] at h1; exact h1
end
def lastH (l : List Tst) : Int := if 0 < l.length then (l.getD (l.length - 1) tst0).hi else 0
def bad3 (t : Int) : List Tst := [⟨t, t + 1, ⟨2, fr (kfr 5 7), 0⟩⟩, ⟨t, t, xc 5 7⟩, ⟨t + 1, t + 2, An.va0⟩]
def spoil (l : List Tst) (t : Int) (u : Nat) : List Tst := l ++ [(bad3 t).getD (u % 3) tst0]
def badT (l : List Tst) (t : Int) (u : Nat) : List Tst := if (u : Int) % 3 = 0 then [⟨t, t + 1, ⟨2, fr (kfr 5 7), 0⟩⟩] else spoil l t u
theorem spoil_last {l : List Tst} {t : Int} {u : Nat} : (spoil l t u).getD l.length tst0 = (bad3 t).getD (u % 3) tst0 := by
  rw [spoil, List.getD_eq_getElem?_getD, List.getElem?_append_right (Nat.le_refl _), Nat.sub_self]; rfl
theorem spoil_len {l : List Tst} {t : Int} {u : Nat} : (spoil l t u).length = l.length + 1 := by simp [spoil]
theorem bad3_dig {t : Int} {i : Nat} (hi : i < 3) : ((bad3 t).getD i tst0).v.f.dig := by
  match i, hi with
  | 0, _ => exact dig_frG _
  | 1, _ => exact dig_frG _
  | 2, _ => exact ⟨fun x hx => (by cases hx), fun x hx => (by cases hx)⟩
theorem badT_ok {l : List Tst} {t : Int} {u : Nat} (h : isG 3 3 999 l) (hl : l.length ≤ 41) : payR (badT l t u) = false ∧ (∀ s ∈ badT l t u, s.v.f.dig) ∧ (badT l t u).length ≤ 42 := by
  unfold badT
  split
  · refine ⟨?_, fun s hs => ?_, by simp⟩
    · rw [payR, Bool.and_eq_false_iff]
      exact .inr rfl
    · rw [List.mem_singleton.1 hs]; exact dig_frG _
  · rename_i hu
    have hsp := spoil_last (l := l) (t := t) (u := u)
    refine ⟨?_, fun s hs => ?_, by rw [spoil_len]; omega⟩
    · rw [payR, Bool.and_eq_false_iff]
      refine .inl ?_
      cases hr : tRight (spoil l t u) with
      | false => rfl
      | true =>
        exfalso
        have hi : l.length < (spoil l t u).length := by rw [spoil_len]; omega
        have h1 := tRight_at hr hi
        have h2 := tRight_valid hr _ (xe6 hi)
        rw [hsp] at h1 h2
        rcases (show u % 3 = 1 ∨ u % 3 = 2 by omega) with e | e
        · rw [e] at h1; have := h1.2.1; simp [bad3] at this
        · rw [e] at h2; exact absurd h2 (by simp [bad3]; decide)
    · rcases List.mem_append.1 hs with h1 | h1
      · exact h.dig s h1
      · rw [List.mem_singleton.1 h1]; exact bad3_dig (by omega)
theorem eleven {i : Nat} (h : i < 11) : ([2, 2, 2, 2, 2, 2, 2, 2, 2, 2, 2] : List Int).getD i 0 = 2 := by
  have key : ∀ j : Fin 11, ([2, 2, 2, 2, 2, 2, 2, 2, 2, 2, 2] : List Int).getD j.val 0 = 2 := by decide
  exact key ⟨i, h⟩
theorem c_PRightG {l : List Tst} (h : isG 3 3 999 l) : Ct Tryz.prog 25 [tL 8 true tTs l] (tB true) := by
  have h1 := c_PRight l h.dig
  rw [h.pay] at h1; exact h1
theorem c_PRightX {l : List Tst} (hD : ∀ s ∈ l, s.v.f.dig) (h : payR l = false) : Ct Tryz.prog 25 [tL 8 true tTs l] (tB false) := by
  have h1 := c_PRight l hD
  rw [h] at h1; exact h1
theorem c_SalWr (m : List Nat) (hmm : ∀ i, m.getD i 0 < 65536) (u : Nat) (hu : u < 256) (lo hi : Int) :
    Ct Tryz.prog 5 [tG KL (tLm m), tE (.int .u8 (u : Int)), tI lo, tI hi] (tB true) := by
  obtain ⟨h, hll, hlast⟩ := pbT_ok m
  have hbt := c_Built09 m hmm
  generalize pbT m = l at *
  have hlb : 0 ≤ lastH l ∧ lastH l ≤ 17999 := by
    unfold lastH
    split
    · rename_i h0
      have := h.1.bd _ (xe6 (l := l) (i := l.length - 1) (by omega))
      have := hlast h0
      omega
    · exact ⟨by decide, by decide⟩
  refine Ct.intro Tryz.func5 rfl Tryz.ntmps5 rfl ?_
  intro w F
  refine C_know (i := 0) (q := 4) rfl rfl (x6 ?_)
  refine x8 ?_
  refine R1 x5 rfl (x7 (by kernel_rfl) (x4 (x6 (x6 ?_))))
  refine x8 ?_
  refine R1 (d_call0 4 car_K c_awake09 fi9) rfl (R1 xe4 rfl (x7 (by kernel_rfl) (x4 (C_bF rfl rfl (xa5 (x4 (x6 ?_)))))))
  refine x8 ?_
  refine R1 x3 rfl (R1 (xa0 hbt fi10 rfl) rfl (R1 x5 rfl (x7 (by kernel_rfl) (x4 (x6 ?_)))))
  refine x8 ?_
  refine R1 x5 rfl (x7 (by kernel_rfl) (x4 ?_))
  refine C_join (fun (t : Int) => t = lastH l) (fun (t : Int) => upd (upd (upd (upd (upd (upd (fun _ => none) 1 (some (.val (tE (.int .u8 (u : Int)))))) 2 (some (.val (tI lo)))) 3 (some (.val (tI hi)))) 4 (some (.val (tK KL)))) 9 (some (.val (tL 8 true tTs l)))) 10 (some (.val (tI t)))) (fun (t : Int) => fun _ => none) (nm []) ?_ ?_
  ·
    refine x6 ?_
    refine x8 ?_
    refine R1 x3 rfl (R1 (xc4 Tryz.underlying24) rfl (R2 d_gtr rfl rfl (x7 (by kernel_rfl) (x4 ?_))))
    refine xc0 rfl (fun h218 => ?_) (fun h218 => ?_)
    ·
      refine x8 ?_
      refine R1 x3 rfl (R1 x3 rfl (R1 (xc4 Tryz.underlying24) rfl (R2 (xd9 (wr64 (by omega) (by omega))) rfl rfl (R2 (xb9 sl24 (l.length - 1) (by omega) (gD (l := l) (n := l.length - 1) (d := tst0) (by omega))) rfl rfl (R1 (xh4 fo41_1 (At.f 1 rfl rfl) rfl) rfl (R1 (xc5 ti3) rfl (R1 x5 rfl ?_)))))))
      refine x7 (by kernel_rfl) ?_
      exact xc2 (_) (by rw [lastH, if_pos (by omega)]) (Sub.int rfl (by first | omega | rfl | (dsimp only; omega)) (Sub.cons rfl (Sub.cons rfl (Sub.int rfl (by first | omega | rfl | (dsimp only; omega)) (Sub.int rfl (by first | omega | rfl | (dsimp only; omega)) (Sub.int rfl (by first | omega | rfl | (dsimp only; omega)) Sub.nil)))))) SubK.nil (SupG.val (SupG.val (SupG.val (SupG.val (SupG.val (SupG.val SupG.nil)))))) SupH.nil (lkOk rfl)
    ·
      refine xa5 ?_
      exact xc2 (_) (by rw [lastH, if_neg (by omega)]) (Sub.int rfl (by first | omega | rfl | (dsimp only; omega)) (Sub.cons rfl (Sub.cons rfl (Sub.int rfl (by first | omega | rfl | (dsimp only; omega)) (Sub.int rfl (by first | omega | rfl | (dsimp only; omega)) (Sub.int rfl (by first | omega | rfl | (dsimp only; omega)) Sub.nil)))))) SubK.nil (SupG.val (SupG.val (SupG.val (SupG.val (SupG.val (SupG.val SupG.nil)))))) SupH.nil (lkOk rfl)
  ·
    intro t ht
    refine x6 ?_
    rw [← ht] at hlb
    clear ht
    refine x8 ?_
    refine R2 (xa0 (c_Cash 5 7 (by decide) (by decide) (by decide) (by decide)) fi22 rfl) rfl rfl (RE (xb4 (k := 11) (n := 6) (agg := true) zr39.1 zr39.2 rfl) trivial trivial ⟨rfl, trivial⟩ (RE (xa3 (es := 6) (agg := true) (0) ti39 rfl rfl rfl) ⟨rfl, rfl, trivial⟩ ⟨rfl, trivial⟩ trivial (x7 (by kernel_rfl) (x4 (x6 ?_)))))
    refine xd5 mixed ?_
    refine RE (d_empty (k := 52) Tryz.underlying24 el41 rfl (fun h => by cases h)) trivial trivial ⟨rfl, trivial⟩ (R1 x3 rfl (RE (xf6 (k := 52) (k' := 54) (f := tTs) (ys := l) (ts' := rV tTs l) Tryz.underlying24 el41 zf41 rfl rfl (fun _ => inferInstance) rfl (by simp; omega) (by simp; omega) (by simp [rV]) (n' := l.length) (by simp)) ⟨rfl, rfl, trivial⟩ ⟨rfl, trivial⟩ ⟨rfl, trivial⟩ (R1 x3 rfl (R1 x3 rfl (R2 (xb6 (wr64 (by omega) (by omega))) rfl rfl (R2 (xa0 (c_Num 5 7 (by decide) (by decide) (by decide) (by decide)) fi23 rfl) rfl rfl (R3 (xc8 (r := tS [⟨1, false, tI t⟩, ⟨1, false, tI (t + 1)⟩, ⟨6, true, tVa ⟨2, fr (kfr 5 7), 0⟩⟩]) (ts := [(0, tI t), (1, tI (t + 1)), (2, tVa ⟨2, fr (kfr 5 7), 0⟩)]) bu41 zr41.2 ⟨_, rfl⟩ rfl ⟨_, _, _, _, rfl, Up.f (fs := [⟨1, false, (tE (.int .i64 0))⟩, ⟨1, false, (tE (.int .i64 0))⟩, ⟨6, true, (tS [⟨1, false, (tE (.int .u8 0))⟩, ⟨4, true, (tS [⟨2, true, (tS [⟨1, false, (tE (.bool false))⟩, ⟨1, false, (tLm [])⟩])⟩, ⟨2, true, (tS [⟨1, false, (tE (.bool false))⟩, ⟨1, false, (tLm [])⟩])⟩])⟩, ⟨1, false, (tE (.int .i64 0))⟩])⟩]) (f := ⟨1, false, (tE (.int .i64 0))⟩) (fs' := [⟨1, false, tI t⟩, ⟨1, false, (tE (.int .i64 0))⟩, ⟨6, true, (tS [⟨1, false, (tE (.int .u8 0))⟩, ⟨4, true, (tS [⟨2, true, (tS [⟨1, false, (tE (.bool false))⟩, ⟨1, false, (tLm [])⟩])⟩, ⟨2, true, (tS [⟨1, false, (tE (.bool false))⟩, ⟨1, false, (tLm [])⟩])⟩])⟩, ⟨1, false, (tE (.int .i64 0))⟩])⟩]) 0 rfl rfl rfl, inferInstance, ⟨_, _, _, _, rfl, Up.f (fs := [⟨1, false, tI t⟩, ⟨1, false, (tE (.int .i64 0))⟩, ⟨6, true, (tS [⟨1, false, (tE (.int .u8 0))⟩, ⟨4, true, (tS [⟨2, true, (tS [⟨1, false, (tE (.bool false))⟩, ⟨1, false, (tLm [])⟩])⟩, ⟨2, true, (tS [⟨1, false, (tE (.bool false))⟩, ⟨1, false, (tLm [])⟩])⟩])⟩, ⟨1, false, (tE (.int .i64 0))⟩])⟩]) (f := ⟨1, false, (tE (.int .i64 0))⟩) (fs' := [⟨1, false, tI t⟩, ⟨1, false, tI (t + 1)⟩, ⟨6, true, (tS [⟨1, false, (tE (.int .u8 0))⟩, ⟨4, true, (tS [⟨2, true, (tS [⟨1, false, (tE (.bool false))⟩, ⟨1, false, (tLm [])⟩])⟩, ⟨2, true, (tS [⟨1, false, (tE (.bool false))⟩, ⟨1, false, (tLm [])⟩])⟩])⟩, ⟨1, false, (tE (.int .i64 0))⟩])⟩]) 1 rfl rfl rfl, inferInstance, ⟨_, _, _, _, rfl, Up.f (fs := [⟨1, false, tI t⟩, ⟨1, false, tI (t + 1)⟩, ⟨6, true, (tS [⟨1, false, (tE (.int .u8 0))⟩, ⟨4, true, (tS [⟨2, true, (tS [⟨1, false, (tE (.bool false))⟩, ⟨1, false, (tLm [])⟩])⟩, ⟨2, true, (tS [⟨1, false, (tE (.bool false))⟩, ⟨1, false, (tLm [])⟩])⟩])⟩, ⟨1, false, (tE (.int .i64 0))⟩])⟩]) (f := ⟨6, true, (tS [⟨1, false, (tE (.int .u8 0))⟩, ⟨4, true, (tS [⟨2, true, (tS [⟨1, false, (tE (.bool false))⟩, ⟨1, false, (tLm [])⟩])⟩, ⟨2, true, (tS [⟨1, false, (tE (.bool false))⟩, ⟨1, false, (tLm [])⟩])⟩])⟩, ⟨1, false, (tE (.int .i64 0))⟩])⟩) (fs' := [⟨1, false, tI t⟩, ⟨1, false, tI (t + 1)⟩, ⟨6, true, tVa ⟨2, fr (kfr 5 7), 0⟩⟩]) 2 rfl rfl rfl, inferInstance, Le.refl⟩⟩⟩) rfl rfl rfl ?_)))))))
    refine R1 x3 rfl (R1 x3 rfl (RE (xa8 (0) ti39 rfl rfl) ⟨rfl, trivial⟩ ⟨rfl, trivial⟩ trivial (R3 (xc8 (r := tS [⟨1, false, tI t⟩, ⟨1, false, tI t⟩, ⟨6, true, tVa (xc 5 7)⟩]) (ts := [(0, tI t), (1, tI t), (2, tVa (xc 5 7))]) bu41 zr41.2 ⟨_, rfl⟩ rfl ⟨_, _, _, _, rfl, Up.f (fs := [⟨1, false, (tE (.int .i64 0))⟩, ⟨1, false, (tE (.int .i64 0))⟩, ⟨6, true, (tS [⟨1, false, (tE (.int .u8 0))⟩, ⟨4, true, (tS [⟨2, true, (tS [⟨1, false, (tE (.bool false))⟩, ⟨1, false, (tLm [])⟩])⟩, ⟨2, true, (tS [⟨1, false, (tE (.bool false))⟩, ⟨1, false, (tLm [])⟩])⟩])⟩, ⟨1, false, (tE (.int .i64 0))⟩])⟩]) (f := ⟨1, false, (tE (.int .i64 0))⟩) (fs' := [⟨1, false, tI t⟩, ⟨1, false, (tE (.int .i64 0))⟩, ⟨6, true, (tS [⟨1, false, (tE (.int .u8 0))⟩, ⟨4, true, (tS [⟨2, true, (tS [⟨1, false, (tE (.bool false))⟩, ⟨1, false, (tLm [])⟩])⟩, ⟨2, true, (tS [⟨1, false, (tE (.bool false))⟩, ⟨1, false, (tLm [])⟩])⟩])⟩, ⟨1, false, (tE (.int .i64 0))⟩])⟩]) 0 rfl rfl rfl, inferInstance, ⟨_, _, _, _, rfl, Up.f (fs := [⟨1, false, tI t⟩, ⟨1, false, (tE (.int .i64 0))⟩, ⟨6, true, (tS [⟨1, false, (tE (.int .u8 0))⟩, ⟨4, true, (tS [⟨2, true, (tS [⟨1, false, (tE (.bool false))⟩, ⟨1, false, (tLm [])⟩])⟩, ⟨2, true, (tS [⟨1, false, (tE (.bool false))⟩, ⟨1, false, (tLm [])⟩])⟩])⟩, ⟨1, false, (tE (.int .i64 0))⟩])⟩]) (f := ⟨1, false, (tE (.int .i64 0))⟩) (fs' := [⟨1, false, tI t⟩, ⟨1, false, tI t⟩, ⟨6, true, (tS [⟨1, false, (tE (.int .u8 0))⟩, ⟨4, true, (tS [⟨2, true, (tS [⟨1, false, (tE (.bool false))⟩, ⟨1, false, (tLm [])⟩])⟩, ⟨2, true, (tS [⟨1, false, (tE (.bool false))⟩, ⟨1, false, (tLm [])⟩])⟩])⟩, ⟨1, false, (tE (.int .i64 0))⟩])⟩]) 1 rfl rfl rfl, inferInstance, ⟨_, _, _, _, rfl, Up.f (fs := [⟨1, false, tI t⟩, ⟨1, false, tI t⟩, ⟨6, true, (tS [⟨1, false, (tE (.int .u8 0))⟩, ⟨4, true, (tS [⟨2, true, (tS [⟨1, false, (tE (.bool false))⟩, ⟨1, false, (tLm [])⟩])⟩, ⟨2, true, (tS [⟨1, false, (tE (.bool false))⟩, ⟨1, false, (tLm [])⟩])⟩])⟩, ⟨1, false, (tE (.int .i64 0))⟩])⟩]) (f := ⟨6, true, (tS [⟨1, false, (tE (.int .u8 0))⟩, ⟨4, true, (tS [⟨2, true, (tS [⟨1, false, (tE (.bool false))⟩, ⟨1, false, (tLm [])⟩])⟩, ⟨2, true, (tS [⟨1, false, (tE (.bool false))⟩, ⟨1, false, (tLm [])⟩])⟩])⟩, ⟨1, false, (tE (.int .i64 0))⟩])⟩) (fs' := [⟨1, false, tI t⟩, ⟨1, false, tI t⟩, ⟨6, true, tVa (xc 5 7)⟩]) 2 rfl rfl rfl, inferInstance, Le.refl⟩⟩⟩) rfl rfl rfl (R1 x3 rfl (R2 (xb6 (wr64 (by omega) (by omega))) rfl rfl (R1 x3 rfl (R2 (xb6 (wr64 (by omega) (by omega))) rfl rfl ?_)))))))
    refine R2 (xc8 (r := tS [⟨1, false, tI (t + 1)⟩, ⟨1, false, tI (t + 2)⟩, ⟨6, true, (tS [⟨1, false, (tE (.int .u8 0))⟩, ⟨4, true, (tS [⟨2, true, (tS [⟨1, false, (tE (.bool false))⟩, ⟨1, false, (tLm [])⟩])⟩, ⟨2, true, (tS [⟨1, false, (tE (.bool false))⟩, ⟨1, false, (tLm [])⟩])⟩])⟩, ⟨1, false, (tE (.int .i64 0))⟩])⟩]) (ts := [(0, tI (t + 1)), (1, tI (t + 2))]) bu41 zr41.2 ⟨_, rfl⟩ rfl ⟨_, _, _, _, rfl, Up.f (fs := [⟨1, false, (tE (.int .i64 0))⟩, ⟨1, false, (tE (.int .i64 0))⟩, ⟨6, true, (tS [⟨1, false, (tE (.int .u8 0))⟩, ⟨4, true, (tS [⟨2, true, (tS [⟨1, false, (tE (.bool false))⟩, ⟨1, false, (tLm [])⟩])⟩, ⟨2, true, (tS [⟨1, false, (tE (.bool false))⟩, ⟨1, false, (tLm [])⟩])⟩])⟩, ⟨1, false, (tE (.int .i64 0))⟩])⟩]) (f := ⟨1, false, (tE (.int .i64 0))⟩) (fs' := [⟨1, false, tI (t + 1)⟩, ⟨1, false, (tE (.int .i64 0))⟩, ⟨6, true, (tS [⟨1, false, (tE (.int .u8 0))⟩, ⟨4, true, (tS [⟨2, true, (tS [⟨1, false, (tE (.bool false))⟩, ⟨1, false, (tLm [])⟩])⟩, ⟨2, true, (tS [⟨1, false, (tE (.bool false))⟩, ⟨1, false, (tLm [])⟩])⟩])⟩, ⟨1, false, (tE (.int .i64 0))⟩])⟩]) 0 rfl rfl rfl, inferInstance, ⟨_, _, _, _, rfl, Up.f (fs := [⟨1, false, tI (t + 1)⟩, ⟨1, false, (tE (.int .i64 0))⟩, ⟨6, true, (tS [⟨1, false, (tE (.int .u8 0))⟩, ⟨4, true, (tS [⟨2, true, (tS [⟨1, false, (tE (.bool false))⟩, ⟨1, false, (tLm [])⟩])⟩, ⟨2, true, (tS [⟨1, false, (tE (.bool false))⟩, ⟨1, false, (tLm [])⟩])⟩])⟩, ⟨1, false, (tE (.int .i64 0))⟩])⟩]) (f := ⟨1, false, (tE (.int .i64 0))⟩) (fs' := [⟨1, false, tI (t + 1)⟩, ⟨1, false, tI (t + 2)⟩, ⟨6, true, (tS [⟨1, false, (tE (.int .u8 0))⟩, ⟨4, true, (tS [⟨2, true, (tS [⟨1, false, (tE (.bool false))⟩, ⟨1, false, (tLm [])⟩])⟩, ⟨2, true, (tS [⟨1, false, (tE (.bool false))⟩, ⟨1, false, (tLm [])⟩])⟩])⟩, ⟨1, false, (tE (.int .i64 0))⟩])⟩]) 1 rfl rfl rfl, inferInstance, Le.refl⟩⟩) rfl rfl (R3 (xc8 (r := tS [⟨8, true, tTs ((bad3 t).getD 0 tst0)⟩, ⟨8, true, tTs ((bad3 t).getD 1 tst0)⟩, ⟨8, true, tTs ((bad3 t).getD 2 tst0)⟩]) (ts := [(0, tTs ((bad3 t).getD 0 tst0)), (1, tTs ((bad3 t).getD 1 tst0)), (2, tTs ((bad3 t).getD 2 tst0))]) bu53 zr53.2 ⟨_, rfl⟩ rfl ⟨_, _, _, _, rfl, Up.f (fs := [⟨8, true, (tS [⟨1, false, (tE (.int .i64 0))⟩, ⟨1, false, (tE (.int .i64 0))⟩, ⟨6, true, (tS [⟨1, false, (tE (.int .u8 0))⟩, ⟨4, true, (tS [⟨2, true, (tS [⟨1, false, (tE (.bool false))⟩, ⟨1, false, (tLm [])⟩])⟩, ⟨2, true, (tS [⟨1, false, (tE (.bool false))⟩, ⟨1, false, (tLm [])⟩])⟩])⟩, ⟨1, false, (tE (.int .i64 0))⟩])⟩])⟩, ⟨8, true, (tS [⟨1, false, (tE (.int .i64 0))⟩, ⟨1, false, (tE (.int .i64 0))⟩, ⟨6, true, (tS [⟨1, false, (tE (.int .u8 0))⟩, ⟨4, true, (tS [⟨2, true, (tS [⟨1, false, (tE (.bool false))⟩, ⟨1, false, (tLm [])⟩])⟩, ⟨2, true, (tS [⟨1, false, (tE (.bool false))⟩, ⟨1, false, (tLm [])⟩])⟩])⟩, ⟨1, false, (tE (.int .i64 0))⟩])⟩])⟩, ⟨8, true, (tS [⟨1, false, (tE (.int .i64 0))⟩, ⟨1, false, (tE (.int .i64 0))⟩, ⟨6, true, (tS [⟨1, false, (tE (.int .u8 0))⟩, ⟨4, true, (tS [⟨2, true, (tS [⟨1, false, (tE (.bool false))⟩, ⟨1, false, (tLm [])⟩])⟩, ⟨2, true, (tS [⟨1, false, (tE (.bool false))⟩, ⟨1, false, (tLm [])⟩])⟩])⟩, ⟨1, false, (tE (.int .i64 0))⟩])⟩])⟩]) (f := ⟨8, true, (tS [⟨1, false, (tE (.int .i64 0))⟩, ⟨1, false, (tE (.int .i64 0))⟩, ⟨6, true, (tS [⟨1, false, (tE (.int .u8 0))⟩, ⟨4, true, (tS [⟨2, true, (tS [⟨1, false, (tE (.bool false))⟩, ⟨1, false, (tLm [])⟩])⟩, ⟨2, true, (tS [⟨1, false, (tE (.bool false))⟩, ⟨1, false, (tLm [])⟩])⟩])⟩, ⟨1, false, (tE (.int .i64 0))⟩])⟩])⟩) (fs' := [⟨8, true, tTs ((bad3 t).getD 0 tst0)⟩, ⟨8, true, (tS [⟨1, false, (tE (.int .i64 0))⟩, ⟨1, false, (tE (.int .i64 0))⟩, ⟨6, true, (tS [⟨1, false, (tE (.int .u8 0))⟩, ⟨4, true, (tS [⟨2, true, (tS [⟨1, false, (tE (.bool false))⟩, ⟨1, false, (tLm [])⟩])⟩, ⟨2, true, (tS [⟨1, false, (tE (.bool false))⟩, ⟨1, false, (tLm [])⟩])⟩])⟩, ⟨1, false, (tE (.int .i64 0))⟩])⟩])⟩, ⟨8, true, (tS [⟨1, false, (tE (.int .i64 0))⟩, ⟨1, false, (tE (.int .i64 0))⟩, ⟨6, true, (tS [⟨1, false, (tE (.int .u8 0))⟩, ⟨4, true, (tS [⟨2, true, (tS [⟨1, false, (tE (.bool false))⟩, ⟨1, false, (tLm [])⟩])⟩, ⟨2, true, (tS [⟨1, false, (tE (.bool false))⟩, ⟨1, false, (tLm [])⟩])⟩])⟩, ⟨1, false, (tE (.int .i64 0))⟩])⟩])⟩]) 0 rfl rfl rfl, inferInstance, ⟨_, _, _, _, rfl, Up.f (fs := [⟨8, true, tTs ((bad3 t).getD 0 tst0)⟩, ⟨8, true, (tS [⟨1, false, (tE (.int .i64 0))⟩, ⟨1, false, (tE (.int .i64 0))⟩, ⟨6, true, (tS [⟨1, false, (tE (.int .u8 0))⟩, ⟨4, true, (tS [⟨2, true, (tS [⟨1, false, (tE (.bool false))⟩, ⟨1, false, (tLm [])⟩])⟩, ⟨2, true, (tS [⟨1, false, (tE (.bool false))⟩, ⟨1, false, (tLm [])⟩])⟩])⟩, ⟨1, false, (tE (.int .i64 0))⟩])⟩])⟩, ⟨8, true, (tS [⟨1, false, (tE (.int .i64 0))⟩, ⟨1, false, (tE (.int .i64 0))⟩, ⟨6, true, (tS [⟨1, false, (tE (.int .u8 0))⟩, ⟨4, true, (tS [⟨2, true, (tS [⟨1, false, (tE (.bool false))⟩, ⟨1, false, (tLm [])⟩])⟩, ⟨2, true, (tS [⟨1, false, (tE (.bool false))⟩, ⟨1, false, (tLm [])⟩])⟩])⟩, ⟨1, false, (tE (.int .i64 0))⟩])⟩])⟩]) (f := ⟨8, true, (tS [⟨1, false, (tE (.int .i64 0))⟩, ⟨1, false, (tE (.int .i64 0))⟩, ⟨6, true, (tS [⟨1, false, (tE (.int .u8 0))⟩, ⟨4, true, (tS [⟨2, true, (tS [⟨1, false, (tE (.bool false))⟩, ⟨1, false, (tLm [])⟩])⟩, ⟨2, true, (tS [⟨1, false, (tE (.bool false))⟩, ⟨1, false, (tLm [])⟩])⟩])⟩, ⟨1, false, (tE (.int .i64 0))⟩])⟩])⟩) (fs' := [⟨8, true, tTs ((bad3 t).getD 0 tst0)⟩, ⟨8, true, tTs ((bad3 t).getD 1 tst0)⟩, ⟨8, true, (tS [⟨1, false, (tE (.int .i64 0))⟩, ⟨1, false, (tE (.int .i64 0))⟩, ⟨6, true, (tS [⟨1, false, (tE (.int .u8 0))⟩, ⟨4, true, (tS [⟨2, true, (tS [⟨1, false, (tE (.bool false))⟩, ⟨1, false, (tLm [])⟩])⟩, ⟨2, true, (tS [⟨1, false, (tE (.bool false))⟩, ⟨1, false, (tLm [])⟩])⟩])⟩, ⟨1, false, (tE (.int .i64 0))⟩])⟩])⟩]) 1 rfl rfl rfl, inferInstance, ⟨_, _, _, _, rfl, Up.f (fs := [⟨8, true, tTs ((bad3 t).getD 0 tst0)⟩, ⟨8, true, tTs ((bad3 t).getD 1 tst0)⟩, ⟨8, true, (tS [⟨1, false, (tE (.int .i64 0))⟩, ⟨1, false, (tE (.int .i64 0))⟩, ⟨6, true, (tS [⟨1, false, (tE (.int .u8 0))⟩, ⟨4, true, (tS [⟨2, true, (tS [⟨1, false, (tE (.bool false))⟩, ⟨1, false, (tLm [])⟩])⟩, ⟨2, true, (tS [⟨1, false, (tE (.bool false))⟩, ⟨1, false, (tLm [])⟩])⟩])⟩, ⟨1, false, (tE (.int .i64 0))⟩])⟩])⟩]) (f := ⟨8, true, (tS [⟨1, false, (tE (.int .i64 0))⟩, ⟨1, false, (tE (.int .i64 0))⟩, ⟨6, true, (tS [⟨1, false, (tE (.int .u8 0))⟩, ⟨4, true, (tS [⟨2, true, (tS [⟨1, false, (tE (.bool false))⟩, ⟨1, false, (tLm [])⟩])⟩, ⟨2, true, (tS [⟨1, false, (tE (.bool false))⟩, ⟨1, false, (tLm [])⟩])⟩])⟩, ⟨1, false, (tE (.int .i64 0))⟩])⟩])⟩) (fs' := [⟨8, true, tTs ((bad3 t).getD 0 tst0)⟩, ⟨8, true, tTs ((bad3 t).getD 1 tst0)⟩, ⟨8, true, tTs ((bad3 t).getD 2 tst0)⟩]) 2 rfl rfl rfl, inferInstance, Le.refl⟩⟩⟩) rfl rfl rfl (R1 x3 rfl (R2 (d_remP (by omega) (by omega)) rfl rfl (R2 (d_indexV (es := 8) (agg := true) (t := tS ((bad3 t).map fun s => ⟨8, true, tTs s⟩)) (t' := tTs ((bad3 t).getD (u % 3) tst0)) Tryz.underlying53 ti41 (u % 3) (by omega) (by omega) (At.row (l := bad3 t) tst0 (show u % 3 < 3 by omega))) rfl rfl (R1 (xf7 (n := 1) (f := tTs) [((bad3 t).getD (u % 3) tst0)] Tryz.underlying24 el41 zf41 rfl (fun _ => inferInstance) rfl rfl rfl) rfl (RE (xf6 (k := 54) (k' := 74) (f := tTs) (ys := [((bad3 t).getD (u % 3) tst0)]) (ts' := rV tTs (spoil l t u)) Tryz.underlying24 el41 zf41 rfl rfl (fun _ => inferInstance) rV_len (by simp; omega) (by simp; omega) (by simp [rV, spoil]) (n' := (spoil l t u).length) (by simp [spoil])) ⟨rfl, rfl, trivial⟩ ⟨rfl, trivial⟩ ⟨rfl, trivial⟩ (R1 x5 rfl ?_)))))))
    refine xd6 (by kernel_rfl) (x4 ?_)
    refine C_join (fun (b : List Tst) => b = badT l t u) (fun (b : List Tst) => upd (upd (upd (upd (upd (fun _ => none) 2 (some (.val (tI lo)))) 3 (some (.val (tI hi)))) 4 (some (.val (tK KL)))) 9 (some (.val (tL 8 true tTs l)))) 12 (some (.val (tL 8 true tTs b)))) (fun (b : List Tst) => fun _ => none) (nm []) ?_ ?_
    ·
      refine x6 ?_
      have hsl := spoil_len (l := l) (t := t) (u := u)
      refine C_give (t := 12) (k := 74) (f := tTs) (xs := spoil l t u) rfl rfl (fun _ h => h) (rV_all rfl) rfl ?_
      refine x8 ?_
      refine R1 x3 rfl (R2 (d_remP (by omega) (by omega)) rfl rfl (R2 xe3 rfl rfl (x7 (by kernel_rfl) (x4 ?_))))
      refine xc0 rfl (fun h223 => ?_) (fun h223 => ?_)
      ·
        refine x8 ?_
        refine RE (d_empty (k := 78) Tryz.underlying24 el41 rfl (fun h => by cases h)) trivial trivial ⟨rfl, trivial⟩ (R1 x3 rfl (R1 x3 rfl (R1 (xc4 Tryz.underlying24) rfl (R2 (xd9 (wr64 (by omega) (by omega))) rfl rfl (R2 (xb9 sl24 (l.length) (by omega) (gD (l := (spoil l t u)) (n := l.length) (d := tst0) (by omega))) rfl rfl (R1 (xc5 ti41) rfl (R1 (xf7 (n := 1) (f := tTs) [(spoil l t u).getD l.length tst0] Tryz.underlying24 el41 zf41 rfl (fun _ => inferInstance) rfl rfl rfl) rfl ?_)))))))
        refine RE (xf6 (k := 78) (k' := 86) (f := tTs) (ys := [(spoil l t u).getD l.length tst0]) (ts' := rV tTs [(spoil l t u).getD l.length tst0]) Tryz.underlying24 el41 zf41 rfl rfl (fun _ => inferInstance) rfl (by simp) (by simp) (by simp [rV]) (n' := 1) (by simp)) ⟨rfl, rfl, trivial⟩ ⟨rfl, trivial⟩ ⟨rfl, trivial⟩ (RE (d_assignS (f := tTs) (xs := [(spoil l t u).getD l.length tst0]) (fun _ h => h) (rV_all rfl) rfl) ⟨rfl, trivial⟩ ⟨rfl, trivial⟩ trivial (x7 (by kernel_rfl) ?_))
        exact xc2 (_) (by rw [badT, if_pos h223, spoil_last, show u % 3 = 0 by omega]; rfl) (Sub.cons rfl (Sub.cons rfl (Sub.cons rfl (Sub.int rfl (by first | omega | rfl | (dsimp only; omega)) (Sub.int rfl (by first | omega | rfl | (dsimp only; omega)) Sub.nil))))) SubK.nil (SupG.val (SupG.val (SupG.val (SupG.val (SupG.val SupG.nil))))) SupH.nil (lkOk rfl)
      ·
        refine xa5 ?_
        exact xc2 (_) (by rw [badT, if_neg h223]) (Sub.cons rfl (Sub.cons rfl (Sub.cons rfl (Sub.int rfl (by first | omega | rfl | (dsimp only; omega)) (Sub.int rfl (by first | omega | rfl | (dsimp only; omega)) Sub.nil))))) SubK.nil (SupG.val (SupG.val (SupG.val (SupG.val (SupG.val SupG.nil))))) SupH.nil (lkOk rfl)
    ·
      intro b hb
      refine x6 ?_
      obtain ⟨hbR, hbD, hbl⟩ := badT_ok (t := t) (u := u) h.1 hll
      rw [← hb] at hbR hbD hbl
      clear hb
      have hbA : ∀ x y : Int, askB b x y = false := fun x y => by rw [askB, hbR]; rfl
      have hbG : ∀ x y : Int, askB b x y = true → isG 3 3 999 b := fun x y h9 => by rw [hbA] at h9; cases h9
      have hbN : ∀ x y n : Int, ¬ lenOk b x y n := fun x y n h9 => by have := h9.1; rw [hbA] at this; cases this
      have askN : ∀ {x y : Int}, ¬ ((0 ≤ x ∧ x ≤ 65536) ∧ 0 ≤ y ∧ y ≤ 65536) → askB l x y = false := fun hn => by
        cases hk : askB l _ _ with
        | false => rfl
        | true => exact absurd (askB_iff.1 hk).2 hn
      refine x8 ?_
      refine R1 x3 rfl (R2 d_min2 rfl rfl (R1 x3 rfl (R2 d_max2 rfl rfl (R1 x5 rfl (R1 x5 rfl (x7 (by kernel_rfl) (x4 ?_)))))))
      refine x6 ?_
      refine x8 ?_
      refine R1 x3 rfl (R3 (xa0 (c_AvX 0 9 hbD (by omega) (hbA 0 9)) fi12 rfl) rfl rfl rfl (R1 x3 rfl (R1 (xa2 rfl) rfl (R1 (xa2 rfl) rfl (RE (xb4 (k := 13) (n := 4) (agg := true) zr31.1 zr31.2 rfl) trivial trivial ⟨rfl, trivial⟩ (RE (xa3 (es := 4) (agg := true) (0) ti31 rfl rfl rfl) ⟨rfl, rfl, trivial⟩ ⟨rfl, trivial⟩ trivial (R1 x5 rfl ?_)))))))
      refine x7 (by kernel_rfl) (x4 (x6 ?_))
      refine x8 ?_
      refine R1 x3 rfl (RE (xg3 4 car_K (c_WinX 0 99 1 hbD (by omega) (hbG 0 99) (hbN 0 99 1)) fi24 rfl) ⟨rfl, rfl, rfl, rfl, rfl, trivial⟩ trivial trivial (R1 x3 rfl (R1 (xa2 rfl) rfl (R1 (xa2 rfl) rfl (R1 x5 rfl (R1 x5 rfl (x7 (by kernel_rfl) ?_)))))))
      refine x4 (x6 ?_)
      refine x8 ?_
      refine R1 x3 rfl (RE (xg3 4 car_K (c_WhX 0 99 1 hbD (by omega) (hbG 0 99) (hbN 0 99 1)) fi21 rfl) ⟨rfl, rfl, rfl, rfl, rfl, trivial⟩ trivial trivial (R1 x3 rfl (R1 (xa2 rfl) rfl (R1 (xa2 rfl) rfl (R1 x5 rfl (R1 x5 rfl (x7 (by kernel_rfl) ?_)))))))
      refine x4 (x6 ?_)
      refine x8 ?_
      refine R1 x3 rfl (RE (xg3 4 car_K (c_BeX 0 99 1 hbD (by omega) (hbG 0 99) (hbN 0 99 1)) fi20 rfl) ⟨rfl, rfl, rfl, rfl, rfl, trivial⟩ trivial trivial (R1 x3 rfl (R1 (xa2 rfl) rfl (R1 (xa2 rfl) rfl (RE (xb4 (k := 19) (n := 4) (agg := true) zr31.1 zr31.2 rfl) trivial trivial ⟨rfl, trivial⟩ (RE (xa3 (es := 4) (agg := true) (0) ti31 rfl rfl rfl) ⟨rfl, rfl, trivial⟩ ⟨rfl, trivial⟩ trivial (R1 x5 rfl ?_)))))))
      refine x7 (by kernel_rfl) (x4 (x6 ?_))
      refine x8 ?_
      refine R1 x3 rfl (R1 x3 rfl (R3 (xa0 (c_AvX (min lo (-1)) 9 h.1.dig (by omega) (askN (by omega))) fi12 rfl) rfl rfl rfl (R1 x3 rfl (R1 (xa2 rfl) rfl (R1 (xa2 rfl) rfl (RE (xb4 (k := 21) (n := 4) (agg := true) zr31.1 zr31.2 rfl) trivial trivial ⟨rfl, trivial⟩ (RE (xa3 (es := 4) (agg := true) (0) ti31 rfl rfl rfl) ⟨rfl, rfl, trivial⟩ ⟨rfl, trivial⟩ trivial ?_)))))))
      refine R1 x5 rfl (x7 (by kernel_rfl) (x4 (x6 ?_)))
      refine x8 ?_
      refine R1 x3 rfl (R1 x3 rfl (R3 (xa0 (c_AvX 9 (max hi 65537) h.1.dig (by omega) (askN (by omega))) fi12 rfl) rfl rfl rfl (R1 x3 rfl (R1 (xa2 rfl) rfl (R1 (xa2 rfl) rfl (RE (xb4 (k := 23) (n := 4) (agg := true) zr31.1 zr31.2 rfl) trivial trivial ⟨rfl, trivial⟩ (RE (xa3 (es := 4) (agg := true) (0) ti31 rfl rfl rfl) ⟨rfl, rfl, trivial⟩ ⟨rfl, trivial⟩ trivial ?_)))))))
      refine R1 x5 rfl (x7 (by kernel_rfl) (x4 (x6 ?_)))
      refine x8 ?_
      refine R1 x3 rfl (R1 x3 rfl (RE (xg3 4 car_K (c_WinX (max hi 65537) 9 1 h.1.dig (by omega) (fun _ => h.1) (fun h9 => by have := (askB_iff.1 h9.1).2; omega)) fi24 rfl) ⟨rfl, rfl, rfl, rfl, rfl, trivial⟩ trivial trivial (R1 x3 rfl (R1 (xa2 rfl) rfl (R1 (xa2 rfl) rfl (R1 x5 rfl (R1 x5 rfl ?_)))))))
      refine x7 (by kernel_rfl) (x4 (x6 ?_))
      refine x8 ?_
      refine R1 x3 rfl (R1 x3 rfl (R2 d_min2 rfl rfl (RE (xg3 4 car_K (c_WinX 0 99 (min (min lo (-1)) 0) h.1.dig (by omega) (fun _ => h.1) (fun h9 => by have := h9.2; omega)) fi24 rfl) ⟨rfl, rfl, rfl, rfl, rfl, trivial⟩ trivial trivial (R1 x3 rfl (R1 (xa2 rfl) rfl (R1 (xa2 rfl) rfl (R1 x5 rfl ?_)))))))
      refine R1 x5 rfl (x7 (by kernel_rfl) (x4 (x6 ?_)))
      refine x8 ?_
      refine R1 x3 rfl (R1 x3 rfl (R2 d_max2 rfl rfl (RE (xg3 4 car_K (c_BeX 0 99 (max (max hi 65537) 1201) h.1.dig (by omega) (fun _ => h.1) (fun h9 => by have := h9.2; omega)) fi20 rfl) ⟨rfl, rfl, rfl, rfl, rfl, trivial⟩ trivial trivial (R1 x3 rfl (R1 (xa2 rfl) rfl (R1 (xa2 rfl) rfl (RE (xb4 (k := 29) (n := 4) (agg := true) zr31.1 zr31.2 rfl) trivial trivial ⟨rfl, trivial⟩ ?_)))))))
      refine RE (xa3 (es := 4) (agg := true) (0) ti31 rfl rfl rfl) ⟨rfl, rfl, trivial⟩ ⟨rfl, trivial⟩ trivial (R1 x5 rfl (x7 (by kernel_rfl) (x4 (x6 ?_))))
      refine x8 ?_
      refine R1 x3 rfl (R1 x3 rfl (RE (xg3 4 car_K (c_WhX 0 (min lo (-1)) 1 h.1.dig (by omega) (fun _ => h.1) (fun h9 => by have := (askB_iff.1 h9.1).2; omega)) fi21 rfl) ⟨rfl, rfl, rfl, rfl, rfl, trivial⟩ trivial trivial (R1 x3 rfl (R1 (xa2 rfl) rfl (R1 (xa2 rfl) rfl (R1 x5 rfl (R1 x5 rfl ?_)))))))
      refine x7 (by kernel_rfl) (x4 (x6 ?_))
      refine x8 ?_
      refine R1 x3 rfl (RE (xg3 4 car_K (c_BeX 0 99 0 h.1.dig (by omega) (fun _ => h.1) (fun h9 => by have := h9.2; omega)) fi20 rfl) ⟨rfl, rfl, rfl, rfl, rfl, trivial⟩ trivial trivial (R1 x3 rfl (R1 (xa2 rfl) rfl (R1 (xa2 rfl) rfl (RE (xb4 (k := 33) (n := 4) (agg := true) zr31.1 zr31.2 rfl) trivial trivial ⟨rfl, trivial⟩ (RE (xa3 (es := 4) (agg := true) (0) ti31 rfl rfl rfl) ⟨rfl, rfl, trivial⟩ ⟨rfl, trivial⟩ trivial (R1 x5 rfl ?_)))))))
      refine x7 (by kernel_rfl) (x4 (x6 (x6 ?_)))
      refine x8 ?_
      refine R1 x3 rfl (R1 x3 rfl (R1 x3 rfl (R1 x3 rfl (R1 x3 rfl (R1 x3 rfl (R1 x3 rfl (R1 x3 rfl ?_)))))))
      refine R1 x3 rfl (R1 x3 rfl (R1 x3 rfl (RE (xf7 (n := 11) (f := fun n : Int => tI n) [2, 2, 2, 2, 2, 2, 2, 2, 2, 2, 2] Tryz.underlying57 el32 zf32 rfl (fun _ => inferInstance) rfl rfl rfl) ⟨rfl, rfl, rfl, rfl, rfl, rfl, rfl, rfl, rfl, rfl, rfl, trivial⟩ trivial trivial (R1 (xc4 Tryz.underlying57) rfl (R1 x3 rfl (x7 (by kernel_rfl) (x4 ?_)))))))
      refine xb3 ?_
      refine xe1 (fun (i : Nat) => i ≤ 11) (fun (i : Nat) => upd (upd (upd (upd (upd (upd (fun _ => none) 9 (some (.val (tL 8 true tTs l)))) 12 (some (.val (tL 8 true tTs b)))) 19 (some (.own (.ptr 19 0)))) 165 (some (.val (tL 1 false (fun n : Int => tI n) [2, 2, 2, 2, 2, 2, 2, 2, 2, 2, 2])))) 166 (some (.val (tI 11)))) 167 (some (.val (tI i)))) (fun (i : Nat) => upd (fun _ => none) 19 (some (⟨31, 4, true, [.val (tFr fr0)]⟩))) (nm [19]) (fun (i : Nat) => 11 - i) (0) (Nat.zero_le _) (Sub.int rfl (by first | omega | rfl | (dsimp only; omega)) (Sub.int rfl (by first | omega | rfl | (dsimp only; omega)) (Sub.cons rfl (Sub.cons rfl (Sub.cons rfl (Sub.cons rfl Sub.nil)))))) ((SubK.consI rfl ImpK.refl) SubK.nil) (SupG.val (SupG.val (SupG.val (SupG.own rfl (SupG.val (SupG.val SupG.nil)))))) (SupH.cons rfl (supJL rfl) SupH.nil) (lkOk rfl) ?_
      intro i hI
      refine x6 ?_
      refine x8 ?_
      refine R2 xd8 rfl rfl (x7 (by kernel_rfl) (x4 (x6 ?_)))
      refine xc0 rfl (fun h238 => ?_) (fun h238 => ?_)
      ·
        refine xa5 (x4 (x6 (xb3 (x6 ?_))))
        refine x8 ?_
        refine R2 (xb9 sl57 (i) (by omega) (gD (l := [2, 2, 2, 2, 2, 2, 2, 2, 2, 2, 2]) (n := i) (d := 0) (by simp; omega))) rfl rfl (R1 (xc5 ti32) rfl (R1 x5 rfl (x7 (by kernel_rfl) (x4 (x6 ?_)))))
        refine x8 ?_
        refine R1 x3 rfl (R2 xf9 rfl rfl (x7 (by kernel_rfl) (x4 (C_bF rfl (decide_eq_false (by have := eleven (i := i) (by omega); omega)) (xa5 (xc1 (x4 ?_)))))))
        refine x8 ?_
        refine R2 (xb6 (wr64 (by omega) (by omega))) rfl rfl (R1 x3 rfl (x7 (by kernel_rfl) ?_))
        exact xc2 (i + 1) ⟨(by omega), (by omega)⟩ (Sub.int rfl (by first | omega | rfl | (dsimp only; omega)) (Sub.int rfl (by first | omega | rfl | (dsimp only; omega)) (Sub.cons rfl (Sub.cons rfl (Sub.cons rfl (Sub.cons rfl Sub.nil)))))) ((SubK.consI rfl ImpK.refl) SubK.nil) (SupG.val (SupG.val (SupG.val (SupG.own rfl (SupG.val (SupG.val SupG.nil)))))) (SupH.cons rfl (supJL rfl) SupH.nil) (lkOk rfl)
      ·
        refine xd4 (xb8 (xb8 (xe0 (x4 (x6 ?_)))))
        refine x8 ?_
        refine RE (xa8 (0) ti31 rfl rfl) ⟨rfl, trivial⟩ ⟨rfl, trivial⟩ trivial (R1 (xa0 (c_Limbs fr0 (by decide) (by decide)) fi14 rfl) rfl (R2 xe3 rfl rfl (R1 x3 rfl (RGon (decide_eq_true (by rfl)) rfl x3 rfl ⟨rfl, trivial⟩ trivial trivial (RGon (decide_eq_true (by rfl)) rfl (xa0 (c_PRightG h.1) fi25 rfl) rfl ⟨rfl, trivial⟩ trivial trivial (R2 (xb2 (decide_eq_true (by rfl))) rfl rfl (R1 x3 rfl ?_)))))))
        refine RGon rfl rfl x3 rfl ⟨rfl, trivial⟩ trivial trivial (RGon rfl rfl (xa0 (c_PRightX hbD hbR) fi25 rfl) rfl ⟨rfl, trivial⟩ trivial trivial (RGon rfl rfl xe4 rfl ⟨rfl, trivial⟩ trivial trivial (R2 (xb2 rfl) rfl rfl (R1 x5 rfl (x7 (by kernel_rfl) (x4 (xa1 ?_)))))))
        exact xa4 Plain.mk' rfl rfl Le.refl
end An.S
