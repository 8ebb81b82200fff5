/- Part 6 of a proof: P3, O5, P4, P6, P8. -/
import Derived.Test.YtnacfpmbanimpaaGreatChecked
import Derived.Test.YtnacfpmbanimpaaGreatA5
/- Law 5: timelines are built; days and values without the program. -/
namespace An.S
open Go Go.Proofs An
set_option maxHeartbeats 2000000
theorem ti47 : TyI Tryz.prog 47 2 true := ⟨by kernel_rfl, by kernel_rfl⟩
theorem fi18 : FnI Tryz.prog 18 := ⟨_, Tryz.func18, by kernel_rfl, rfl⟩
theorem fi23 : FnI Tryz.prog 23 := ⟨_, Tryz.func23, by kernel_rfl, rfl⟩
theorem fi29 : FnI Tryz.prog 29 := ⟨_, Tryz.func29, by kernel_rfl, rfl⟩
theorem fi40 : FnI Tryz.prog 40 := ⟨_, Tryz.func40, by kernel_rfl, rfl⟩
theorem fi56 : FnI Tryz.prog 56 := ⟨_, Tryz.func56, by kernel_rfl, rfl⟩
theorem zr47 : (Tryz.prog.info? 47).bind (·.zero) = some (.agg #[.int .i64 0, .int .i64 0]) ∧ ∀ F w, (tS [⟨1, false, (tE (.int .i64 0))⟩, ⟨1, false, (tE (.int .i64 0))⟩]).p F w (.agg #[.int .i64 0, .int .i64 0]) := ⟨by kernel_rfl, fun _ _ => ⟨_, rfl, rfl, ⟨fun _ => rfl, rfl⟩, ⟨fun _ => rfl, rfl⟩, trivial⟩⟩
theorem zr113 : (Tryz.prog.info? 113).bind (·.zero) = some (.agg #[.int .i64 0, .int .i64 0, .int .i64 0, .int .i64 0, .int .i64 0, .int .i64 0, .int .i64 0, .int .i64 0, .int .i64 0, .int .i64 0, .int .i64 0, .int .i64 0, .int .i64 0, .int .i64 0, .int .i64 0, .int .i64 0]) ∧ ∀ F w, (tS [⟨2, true, (tS [⟨1, false, (tE (.int .i64 0))⟩, ⟨1, false, (tE (.int .i64 0))⟩])⟩, ⟨2, true, (tS [⟨1, false, (tE (.int .i64 0))⟩, ⟨1, false, (tE (.int .i64 0))⟩])⟩, ⟨2, true, (tS [⟨1, false, (tE (.int .i64 0))⟩, ⟨1, false, (tE (.int .i64 0))⟩])⟩, ⟨2, true, (tS [⟨1, false, (tE (.int .i64 0))⟩, ⟨1, false, (tE (.int .i64 0))⟩])⟩, ⟨2, true, (tS [⟨1, false, (tE (.int .i64 0))⟩, ⟨1, false, (tE (.int .i64 0))⟩])⟩, ⟨2, true, (tS [⟨1, false, (tE (.int .i64 0))⟩, ⟨1, false, (tE (.int .i64 0))⟩])⟩, ⟨2, true, (tS [⟨1, false, (tE (.int .i64 0))⟩, ⟨1, false, (tE (.int .i64 0))⟩])⟩, ⟨2, true, (tS [⟨1, false, (tE (.int .i64 0))⟩, ⟨1, false, (tE (.int .i64 0))⟩])⟩]).p F w (.agg #[.int .i64 0, .int .i64 0, .int .i64 0, .int .i64 0, .int .i64 0, .int .i64 0, .int .i64 0, .int .i64 0, .int .i64 0, .int .i64 0, .int .i64 0, .int .i64 0, .int .i64 0, .int .i64 0, .int .i64 0, .int .i64 0]) := ⟨by kernel_rfl, fun _ _ => ⟨_, rfl, rfl, ⟨fun h => Bool.noConfusion h, ⟨_, rfl, rfl, ⟨fun _ => rfl, rfl⟩, ⟨fun _ => rfl, rfl⟩, trivial⟩⟩, ⟨fun h => Bool.noConfusion h, ⟨_, rfl, rfl, ⟨fun _ => rfl, rfl⟩, ⟨fun _ => rfl, rfl⟩, trivial⟩⟩, ⟨fun h => Bool.noConfusion h, ⟨_, rfl, rfl, ⟨fun _ => rfl, rfl⟩, ⟨fun _ => rfl, rfl⟩, trivial⟩⟩, ⟨fun h => Bool.noConfusion h, ⟨_, rfl, rfl, ⟨fun _ => rfl, rfl⟩, ⟨fun _ => rfl, rfl⟩, trivial⟩⟩, ⟨fun h => Bool.noConfusion h, ⟨_, rfl, rfl, ⟨fun _ => rfl, rfl⟩, ⟨fun _ => rfl, rfl⟩, trivial⟩⟩, ⟨fun h => Bool.noConfusion h, ⟨_, rfl, rfl, ⟨fun _ => rfl, rfl⟩, ⟨fun _ => rfl, rfl⟩, trivial⟩⟩, ⟨fun h => Bool.noConfusion h, ⟨_, rfl, rfl, ⟨fun _ => rfl, rfl⟩, ⟨fun _ => rfl, rfl⟩, trivial⟩⟩, ⟨fun h => Bool.noConfusion h, ⟨_, rfl, rfl, ⟨fun _ => rfl, rfl⟩, ⟨fun _ => rfl, rfl⟩, trivial⟩⟩, trivial⟩⟩
theorem bu47 : BuI Tryz.prog 47 (fun i => some (i * 1, 1)) (.agg #[.int .i64 0, .int .i64 0]) := BuI.array Tryz.underlying47 ti3 zr47.1
theorem bu113 : BuI Tryz.prog 113 (fun i => some (i * 2, 2)) (.agg #[.int .i64 0, .int .i64 0, .int .i64 0, .int .i64 0, .int .i64 0, .int .i64 0, .int .i64 0, .int .i64 0, .int .i64 0, .int .i64 0, .int .i64 0, .int .i64 0, .int .i64 0, .int .i64 0, .int .i64 0, .int .i64 0]) := BuI.array Tryz.underlying113 ti47 zr113.1
theorem ar47 : ArI Tryz.prog 47 3 2 1 false := ⟨by kernel_rfl, ti3⟩
theorem c_SameStep (x y : Tst) :
  Ct Tryz.prog 56 [tTs x, tTs y] (tB (decide (x = y))) := by
 refine Ct.intro Tryz.func56 rfl Tryz.ntmps56 rfl ?_
 intro w F
 refine x6 ?_
 refine x8 ?_
 refine RE (xd9 (k := 2) ti56 rfl) ⟨rfl, trivial⟩ trivial ⟨rfl, trivial⟩ (RE (xd9 (k := 3) ti56 rfl) ⟨rfl, trivial⟩ trivial ⟨rfl, trivial⟩ (R1 x5 rfl (x7 (by kernel_rfl) (x4 (x6 ?_)))))
 refine x8 ?_
 refine R1 (x9 fo56_0 rfl) rfl (xa5 (0) ti3 rfl rfl rfl (At.g 0 rfl rfl) rfl (R1 (x9 fo56_0 rfl) rfl (xa5 (0) ti3 rfl rfl rfl (At.g 0 rfl rfl) rfl (R2 xe6 rfl rfl (R1 x3 rfl ?_)))))
 refine RGcaseD (t := 10) rfl (fun h196 => ?_) (fun h196 => ?_)
 ·
  refine RGon (decide_eq_true h196) rfl (x9 fo56_1 rfl) rfl ⟨rfl, trivial⟩ trivial trivial (xb5 (decide_eq_true h196) rfl rfl (0) ti3 rfl rfl rfl (At.g 1 rfl rfl) rfl (RGon (decide_eq_true h196) rfl (x9 fo56_1 rfl) rfl ⟨rfl, trivial⟩ trivial trivial (xb5 (decide_eq_true h196) rfl rfl (0) ti3 rfl rfl rfl (At.g 1 rfl rfl) rfl (RGon (decide_eq_true h196) rfl xe6 rfl ⟨rfl, rfl, trivial⟩ trivial trivial (R2 (xb3 (decide_eq_true h196)) rfl rfl (R1 x3 rfl ?_))))))
  refine RGcaseD (t := 17) rfl (fun h196_2 => ?_) (fun h196_2 => ?_)
  ·
   refine RGon (decide_eq_true h196_2) rfl (x9 fo56_2 rfl) rfl ⟨rfl, trivial⟩ trivial trivial (xb5 (decide_eq_true h196_2) rfl rfl (0) ti37 rfl rfl rfl (At.g 2 rfl rfl) rfl (RGon (decide_eq_true h196_2) rfl (x9 fo56_2 rfl) rfl ⟨rfl, trivial⟩ trivial trivial (xb5 (decide_eq_true h196_2) rfl rfl (0) ti37 rfl rfl rfl (At.g 2 rfl rfl) rfl (RGon (decide_eq_true h196_2) rfl (xa0 (c_SameValue _ _) fi18 rfl) rfl ⟨rfl, rfl, trivial⟩ trivial trivial (R2 (xb3 (decide_eq_true h196_2)) rfl rfl (R1 x5 rfl (x7 (by kernel_rfl) ?_)))))))
   refine x4 (xa1 ?_)
   exact xa6 Plain.mk' rfl rfl (Le.bool (by obtain ⟨a, b, e⟩ := x; obtain ⟨c, d, f⟩ := y; simp only [Tst.mk.injEq] at *; simp_all <;> omega))
  ·
   refine RGoff (decide_eq_false h196_2) rfl rfl (RGoff (decide_eq_false h196_2) rfl rfl (RGoff (decide_eq_false h196_2) rfl rfl (RGoff (decide_eq_false h196_2) rfl rfl (RGoff (decide_eq_false h196_2) rfl rfl (R2 (xa9 (decide_eq_false h196_2)) rfl rfl (R1 x5 rfl (x7 (by kernel_rfl) ?_)))))))
   refine x4 (xa1 ?_)
   exact xa6 Plain.mk' rfl rfl (Le.bool (by obtain ⟨a, b, e⟩ := x; obtain ⟨c, d, f⟩ := y; simp only [Tst.mk.injEq] at *; simp_all <;> omega))
 ·
  refine RGoff (decide_eq_false h196) rfl rfl (RGoff (decide_eq_false h196) rfl rfl (RGoff (decide_eq_false h196) rfl rfl (RGoff (decide_eq_false h196) rfl rfl (RGoff (decide_eq_false h196) rfl rfl (R2 (xa9 (decide_eq_false h196)) rfl rfl (R1 x3 rfl (RGoff0 rfl rfl ?_)))))))
  refine RGoff0 rfl rfl (RGoff0 rfl rfl (RGoff0 rfl rfl (RGoff0 rfl rfl (R2 (xa9 rfl) rfl rfl (R1 x5 rfl (x7 (by kernel_rfl) (x4 ?_)))))))
  refine xa1 ?_
  exact xa6 Plain.mk' rfl rfl (Le.bool (by obtain ⟨a, b, e⟩ := x; obtain ⟨c, d, f⟩ := y; simp only [Tst.mk.injEq] at *; simp_all <;> omega))
theorem take_succ_getT (l : List Tst) (k : Nat) (hk : k < l.length) : l.take (k + 1) = l.take k ++ [l.getD k tst0] := by
  rw [List.take_succ_eq_append_getElem hk, List.getD_eq_getElem?_getD, List.getElem?_eq_getElem hk]; rfl
theorem take_succ_getI (l : List Int) (k : Nat) (hk : k < l.length) : l.take (k + 1) = l.take k ++ [l.getD k 0] := by
  rw [List.take_succ_eq_append_getElem hk, List.getD_eq_getElem?_getD, List.getElem?_eq_getElem hk]; rfl
theorem c_SameSteps (xs ys : List Tst) :
  Ct Tryz.prog 22 [tL 8 true tTs xs, tL 8 true tTs ys] (tB (decide (xs = ys))) := by
 refine Ct.intro Tryz.func22 rfl Tryz.ntmps22 rfl ?_
 intro w F
 refine C_len (s := 0) rfl (fun hl0 => ?_)
 refine x6 ?_
 refine x8 ?_
 refine R1 x5 rfl (x7 (by kernel_rfl) (x4 (x6 (x6 ?_))))
 refine x8 ?_
 refine R1 x3 rfl (R1 (xc3 Tryz.underlying24) rfl (R1 x3 rfl (R1 (xc3 Tryz.underlying24) rfl (R2 d_neq rfl rfl (x7 (by kernel_rfl) (x4 ?_))))))
 refine xc1 rfl (fun h206 => ?_) (fun h206 => ?_)
 ·
  refine x6 ?_
  refine x8 ?_
  refine R1 x5 rfl (x7 (by kernel_rfl) (x4 (xa1 (xa7 ?_))))
  exact xa6 Plain.mk' rfl rfl (Le.bool (decide_eq_false (fun h => by rw [h] at h206; omega)).symm)
 ·
  have hll : xs.length = ys.length := by omega
  refine xa2 (x4 (x6 (x6 ?_)))
  refine x8 ?_
  refine R1 x5 rfl (x7 (by kernel_rfl) (x4 (xb1 ?_)))
  refine xe1 (fun (i : Nat) => i ≤ xs.length ∧ xs.take i = ys.take i) (fun (i : Nat) => upd (upd (upd (fun _ => none) 0 (some (.val (tL 8 true tTs xs)))) 1 (some (.val (tL 8 true tTs ys)))) 5 (some (.val (tI i)))) (fun (i : Nat) => fun _ => none) (nm []) (fun (i : Nat) => xs.length - i) (0) ⟨Nat.zero_le _, rfl⟩ (Sub.int rfl (by first | omega | rfl | (dsimp only; omega)) (Sub.cons rfl (Sub.cons rfl Sub.nil))) SubK.nil (SupG.val (SupG.val (SupG.val SupG.nil))) SupH.nil (lkOk rfl) ?_
  intro i hI
  obtain ⟨hi, ht⟩ := hI
  refine x6 (x6 ?_)
  refine x8 ?_
  refine R1 x3 rfl (R1 x3 rfl (R1 (xc3 Tryz.underlying24) rfl (R2 xe0 rfl rfl (x7 (by kernel_rfl) (x4 ?_)))))
  refine xc1 rfl (fun h209 => ?_) (fun h209 => ?_)
  ·
   refine xa2 (x4 (x6 (xb1 (x6 ?_))))
   refine xd7 mixed ?_
   refine R1 x3 rfl (R1 x3 rfl (R2 (xb4 sl24 i (by omega) (gD (d := tst0) (by omega))) rfl rfl (R1 (xc0 ti56) rfl (R1 x3 rfl (R1 x3 rfl (R2 (xb4 sl24 i (by omega) (gD (d := tst0) (by omega))) rfl rfl (R1 (xc0 ti56) rfl ?_)))))))
   refine R2 (xa0 (c_SameStep _ _) fi56 rfl) rfl rfl (R1 xe4 rfl (xd3 (by kernel_rfl) (x4 ?_)))
   refine C_ifn rfl (fun h210 => ?_) (fun h210 => ?_)
   ·
    refine x6 ?_
    refine x8 ?_
    refine R1 x5 rfl (x7 (by kernel_rfl) (x4 (xa1 (xc6 (xa7 (xa7 (xc6 ?_)))))))
    refine xa7 ?_
    exact xa6 Plain.mk' rfl rfl (Le.bool (decide_eq_false (fun h => by rw [h] at h210; exact (h210 rfl))).symm)
   ·
    refine xa2 (xc2 (x4 ?_))
    refine x8 ?_
    refine R1 x3 rfl (R2 (xb7 (wr64 (by omega) (by omega))) rfl rfl (R1 x5 rfl (x7 (by kernel_rfl) ?_)))
    exact xc5 (i + 1) ⟨⟨by omega, by rw [take_succ_getT xs i (by omega), take_succ_getT ys i (by omega), ht, show xs.getD i tst0 = ys.getD i tst0 from h210]⟩, (by omega)⟩ (Sub.int rfl (by first | omega | rfl | (dsimp only; omega)) (Sub.cons rfl (Sub.cons rfl Sub.nil))) SubK.nil (SupG.val (SupG.val (SupG.val SupG.nil))) SupH.nil (lkOk rfl)
  ·
   refine xd1 (xb8 (xb8 (xd8 (x4 (x6 ?_)))))
   refine x8 ?_
   refine R1 x5 rfl (x7 (by kernel_rfl) (x4 (xa1 ?_)))
   exact xa6 Plain.mk' rfl rfl (Le.bool (decide_eq_true (by rw [show i = xs.length by omega, List.take_length, hll, List.take_length] at ht; exact ht)).symm)
theorem c_SameInts (xs ys : List Int) :
  Ct Tryz.prog 45 [tL 1 false tI xs, tL 1 false tI ys] (tB (decide (xs = ys))) := by
 refine Ct.intro Tryz.func45 rfl Tryz.ntmps45 rfl ?_
 intro w F
 refine C_len (s := 0) rfl (fun hl0 => ?_)
 refine x6 ?_
 refine x8 ?_
 refine R1 x5 rfl (x7 (by kernel_rfl) (x4 (x6 (x6 ?_))))
 refine x8 ?_
 refine R1 x3 rfl (R1 (xc3 Tryz.underlying30) rfl (R1 x3 rfl (R1 (xc3 Tryz.underlying30) rfl (R2 d_neq rfl rfl (x7 (by kernel_rfl) (x4 ?_))))))
 refine xc1 rfl (fun h27 => ?_) (fun h27 => ?_)
 ·
  refine x6 ?_
  refine x8 ?_
  refine R1 x5 rfl (x7 (by kernel_rfl) (x4 (xa1 (xa7 ?_))))
  exact xa6 Plain.mk' rfl rfl (Le.bool (decide_eq_false (fun h => by rw [h] at h27; omega)).symm)
 ·
  have hll : xs.length = ys.length := by omega
  refine xa2 (x4 (x6 (x6 ?_)))
  refine x8 ?_
  refine R1 x5 rfl (x7 (by kernel_rfl) (x4 (xb1 ?_)))
  refine xe1 (fun (i : Nat) => i ≤ xs.length ∧ xs.take i = ys.take i) (fun (i : Nat) => upd (upd (upd (fun _ => none) 0 (some (.val (tL 1 false tI xs)))) 1 (some (.val (tL 1 false tI ys)))) 5 (some (.val (tI i)))) (fun (i : Nat) => fun _ => none) (nm []) (fun (i : Nat) => xs.length - i) (0) ⟨Nat.zero_le _, rfl⟩ (Sub.int rfl (by first | omega | rfl | (dsimp only; omega)) (Sub.cons rfl (Sub.cons rfl Sub.nil))) SubK.nil (SupG.val (SupG.val (SupG.val SupG.nil))) SupH.nil (lkOk rfl) ?_
  intro i hI
  obtain ⟨hi, ht⟩ := hI
  refine x6 (x6 ?_)
  refine x8 ?_
  refine R1 x3 rfl (R1 x3 rfl (R1 (xc3 Tryz.underlying30) rfl (R2 xe0 rfl rfl (x7 (by kernel_rfl) (x4 ?_)))))
  refine xc1 rfl (fun h30 => ?_) (fun h30 => ?_)
  ·
   refine xa2 (x4 (x6 (xb1 (x6 ?_))))
   refine xd7 mixed ?_
   refine R1 x3 rfl (R1 x3 rfl (R2 (xb4 sl30 i (by omega) (gD (d := 0) (by omega))) rfl rfl (R1 (xc0 ti3) rfl (R1 x3 rfl (R1 x3 rfl (R2 (xb4 sl30 i (by omega) (gD (d := 0) (by omega))) rfl rfl (R1 (xc0 ti3) rfl ?_)))))))
   refine R2 d_neq rfl rfl (xd3 (by kernel_rfl) (x4 ?_))
   refine xc1 rfl (fun h31 => ?_) (fun h31 => ?_)
   ·
    refine x6 ?_
    refine x8 ?_
    refine R1 x5 rfl (x7 (by kernel_rfl) (x4 (xa1 (xc6 (xa7 (xa7 (xc6 ?_)))))))
    refine xa7 ?_
    exact xa6 Plain.mk' rfl rfl (Le.bool (decide_eq_false (fun h => by rw [h] at h31; exact (h31 rfl))).symm)
   ·
    refine xa2 (xc2 (x4 ?_))
    refine x8 ?_
    refine R1 x3 rfl (R2 (xb7 (wr64 (by omega) (by omega))) rfl rfl (R1 x5 rfl (x7 (by kernel_rfl) ?_)))
    exact xc5 (i + 1) ⟨⟨by omega, by rw [take_succ_getI xs i (by omega), take_succ_getI ys i (by omega), ht, show xs.getD i 0 = ys.getD i 0 from (Decidable.of_not_not h31)]⟩, (by omega)⟩ (Sub.int rfl (by first | omega | rfl | (dsimp only; omega)) (Sub.cons rfl (Sub.cons rfl Sub.nil))) SubK.nil (SupG.val (SupG.val (SupG.val SupG.nil))) SupH.nil (lkOk rfl)
  ·
   refine xd1 (xb8 (xb8 (xd8 (x4 (x6 ?_)))))
   refine x8 ?_
   refine R1 x5 rfl (x7 (by kernel_rfl) (x4 (xa1 ?_)))
   exact xa6 Plain.mk' rfl rfl (Le.bool (decide_eq_true (by rw [show i = xs.length by omega, List.take_length, hll, List.take_length] at ht; exact ht)).symm)
theorem xh3 (a b n d : Int) (h1 : -9223372036854775808 ≤ n) (h2 : n ≤ 9223372036854775807) (h3 : -9223372036854775808 ≤ d) (h4 : d ≤ 9223372036854775807) :
  Ct Tryz.prog 44 [tI a, tI b, tI n, tI d] (tTs ⟨a, b, ⟨2, fr (kfr n d), 0⟩⟩) := by
 refine Ct.intro Tryz.func44 rfl Tryz.ntmps44 rfl ?_
 intro w F
 refine x6 ?_
 refine x8 ?_
 refine RE (xb9 (k := 8) (n := 8) (agg := true) zr56.1 zr56.2 rfl) trivial trivial ⟨rfl, trivial⟩ (x7 (by kernel_rfl) (x4 (x6 ?_)))
 refine x8 ?_
 refine R1 x3 rfl (R1 x3 rfl (R1 x3 rfl (R1 x3 rfl (R2 (xa0 (c_Num n d h1 h2 h3 h4) fi29 rfl) rfl rfl (R3 (xc8 (r := tS [⟨1, false, tI a⟩, ⟨1, false, tI b⟩, ⟨6, true, tVa ⟨2, fr (kfr n d), 0⟩⟩]) (ts := [(0, tI a), (1, tI b), (2, tVa ⟨2, fr (kfr n d), 0⟩)]) bu56 zr56.2 ⟨_, rfl⟩ rfl ⟨_, _, _, _, rfl, Up.f (fs := [⟨1, false, (tE (.int .i64 0))⟩, ⟨1, false, (tE (.int .i64 0))⟩, ⟨6, true, (tS [⟨1, false, (tE (.int .u8 0))⟩, ⟨4, true, (tS [⟨2, true, (tS [⟨1, false, (tE (.bool false))⟩, ⟨1, false, (tLm [])⟩])⟩, ⟨2, true, (tS [⟨1, false, (tE (.bool false))⟩, ⟨1, false, (tLm [])⟩])⟩])⟩, ⟨1, false, (tE (.int .i64 0))⟩])⟩]) (f := ⟨1, false, (tE (.int .i64 0))⟩) (fs' := [⟨1, false, tI a⟩, ⟨1, false, (tE (.int .i64 0))⟩, ⟨6, true, (tS [⟨1, false, (tE (.int .u8 0))⟩, ⟨4, true, (tS [⟨2, true, (tS [⟨1, false, (tE (.bool false))⟩, ⟨1, false, (tLm [])⟩])⟩, ⟨2, true, (tS [⟨1, false, (tE (.bool false))⟩, ⟨1, false, (tLm [])⟩])⟩])⟩, ⟨1, false, (tE (.int .i64 0))⟩])⟩]) 0 rfl rfl rfl, inferInstance, ⟨_, _, _, _, rfl, Up.f (fs := [⟨1, false, tI a⟩, ⟨1, false, (tE (.int .i64 0))⟩, ⟨6, true, (tS [⟨1, false, (tE (.int .u8 0))⟩, ⟨4, true, (tS [⟨2, true, (tS [⟨1, false, (tE (.bool false))⟩, ⟨1, false, (tLm [])⟩])⟩, ⟨2, true, (tS [⟨1, false, (tE (.bool false))⟩, ⟨1, false, (tLm [])⟩])⟩])⟩, ⟨1, false, (tE (.int .i64 0))⟩])⟩]) (f := ⟨1, false, (tE (.int .i64 0))⟩) (fs' := [⟨1, false, tI a⟩, ⟨1, false, tI b⟩, ⟨6, true, (tS [⟨1, false, (tE (.int .u8 0))⟩, ⟨4, true, (tS [⟨2, true, (tS [⟨1, false, (tE (.bool false))⟩, ⟨1, false, (tLm [])⟩])⟩, ⟨2, true, (tS [⟨1, false, (tE (.bool false))⟩, ⟨1, false, (tLm [])⟩])⟩])⟩, ⟨1, false, (tE (.int .i64 0))⟩])⟩]) 1 rfl rfl rfl, inferInstance, ⟨_, _, _, _, rfl, Up.f (fs := [⟨1, false, tI a⟩, ⟨1, false, tI b⟩, ⟨6, true, (tS [⟨1, false, (tE (.int .u8 0))⟩, ⟨4, true, (tS [⟨2, true, (tS [⟨1, false, (tE (.bool false))⟩, ⟨1, false, (tLm [])⟩])⟩, ⟨2, true, (tS [⟨1, false, (tE (.bool false))⟩, ⟨1, false, (tLm [])⟩])⟩])⟩, ⟨1, false, (tE (.int .i64 0))⟩])⟩]) (f := ⟨6, true, (tS [⟨1, false, (tE (.int .u8 0))⟩, ⟨4, true, (tS [⟨2, true, (tS [⟨1, false, (tE (.bool false))⟩, ⟨1, false, (tLm [])⟩])⟩, ⟨2, true, (tS [⟨1, false, (tE (.bool false))⟩, ⟨1, false, (tLm [])⟩])⟩])⟩, ⟨1, false, (tE (.int .i64 0))⟩])⟩) (fs' := [⟨1, false, tI a⟩, ⟨1, false, tI b⟩, ⟨6, true, tVa ⟨2, fr (kfr n d), 0⟩⟩]) 2 rfl rfl rfl, inferInstance, Le.refl⟩⟩⟩) rfl rfl rfl (RE (xa3 (es := 8) (agg := true) (0) ti56 rfl rfl rfl) ⟨rfl, rfl, trivial⟩ ⟨rfl, trivial⟩ trivial (x7 (by kernel_rfl) ?_)))))))
 refine x4 (xa1 ?_)
 exact xg4 Plain.mk' rfl ⟨_, _, _, _, _, rfl, rfl, ti56, Le.refl⟩
theorem c_steps (l : List Tst) :
  Ct Tryz.prog 43 [tL 8 true tTs l] (tL 8 true tTs l) := by
 refine Ct.intro Tryz.func43 rfl Tryz.ntmps43 rfl ?_
 intro w F
 refine x6 ?_
 refine x8 ?_
 refine R1 x5 rfl (x7 (by kernel_rfl) (x4 (x6 ?_)))
 refine x8 ?_
 refine R1 x3 rfl (R1 x5 rfl (x7 (by kernel_rfl) (x4 (xa1 ?_))))
 exact xa6 Plain.mk' rfl rfl Le.refl
abbrev tP2 (p : Int × Int) : Ty := tS [⟨1, false, tI p.1⟩, ⟨1, false, tI p.2⟩]
def plP : List (Int × Int) := [(0, 1), (1, 1), (1, 2), (-3, 4), (5, 3), (65537, 7), (-1, 1), (1099511627776, 1)]
def plQ (n : Nat) : Int × Int := plP.getD (n % 8) (0, 1)
def plV (n : Nat) : Va := ⟨2, fr (kfr (plQ n).1 (plQ n).2), 0⟩
theorem plQ_bd (n : Nat) : (-9223372036854775808 ≤ (plQ n).1 ∧ (plQ n).1 ≤ 9223372036854775807) ∧ -9223372036854775808 ≤ (plQ n).2 ∧ (plQ n).2 ≤ 9223372036854775807 := by
  have key : ∀ m : Fin 8, (-9223372036854775808 ≤ (plP.getD m.val (0, 1)).1 ∧ (plP.getD m.val (0, 1)).1 ≤ 9223372036854775807) ∧ -9223372036854775808 ≤ (plP.getD m.val (0, 1)).2 ∧ (plP.getD m.val (0, 1)).2 ≤ 9223372036854775807 := by decide
  exact key ⟨n % 8, Nat.mod_lt _ (by decide)⟩
theorem c_Pool (n : Nat) (hn : n < 65536) :
  Ct Tryz.prog 40 [tE (.int .u16 (n : Int))] (tVa (plV n)) := by
 obtain ⟨⟨q1, q2⟩, q3, q4⟩ := plQ_bd n
 refine Ct.intro Tryz.func40 rfl Tryz.ntmps40 rfl ?_
 intro w F
 refine x6 ?_
 refine x8 ?_
 refine RE (xb9 (k := 2) (n := 6) (agg := true) zr37.1 zr37.2 rfl) trivial trivial ⟨rfl, trivial⟩ (x7 (by kernel_rfl) (x4 (x6 ?_)))
 refine x8 ?_
 refine R2 (xc8 (r := tS [⟨1, false, tI (0)⟩, ⟨1, false, tI (1)⟩]) (ts := [(0, tI (0)), (1, tI (1))]) bu47 zr47.2 ⟨_, rfl⟩ rfl ⟨_, _, _, _, rfl, Up.f (fs := [⟨1, false, (tE (.int .i64 0))⟩, ⟨1, false, (tE (.int .i64 0))⟩]) (f := ⟨1, false, (tE (.int .i64 0))⟩) (fs' := [⟨1, false, tI (0)⟩, ⟨1, false, (tE (.int .i64 0))⟩]) 0 rfl rfl rfl, inferInstance, ⟨_, _, _, _, rfl, Up.f (fs := [⟨1, false, tI (0)⟩, ⟨1, false, (tE (.int .i64 0))⟩]) (f := ⟨1, false, (tE (.int .i64 0))⟩) (fs' := [⟨1, false, tI (0)⟩, ⟨1, false, tI (1)⟩]) 1 rfl rfl rfl, inferInstance, Le.refl⟩⟩) rfl rfl (R2 (xc8 (r := tS [⟨1, false, tI (1)⟩, ⟨1, false, tI (1)⟩]) (ts := [(0, tI (1)), (1, tI (1))]) bu47 zr47.2 ⟨_, rfl⟩ rfl ⟨_, _, _, _, rfl, Up.f (fs := [⟨1, false, (tE (.int .i64 0))⟩, ⟨1, false, (tE (.int .i64 0))⟩]) (f := ⟨1, false, (tE (.int .i64 0))⟩) (fs' := [⟨1, false, tI (1)⟩, ⟨1, false, (tE (.int .i64 0))⟩]) 0 rfl rfl rfl, inferInstance, ⟨_, _, _, _, rfl, Up.f (fs := [⟨1, false, tI (1)⟩, ⟨1, false, (tE (.int .i64 0))⟩]) (f := ⟨1, false, (tE (.int .i64 0))⟩) (fs' := [⟨1, false, tI (1)⟩, ⟨1, false, tI (1)⟩]) 1 rfl rfl rfl, inferInstance, Le.refl⟩⟩) rfl rfl (R2 (xc8 (r := tS [⟨1, false, tI (1)⟩, ⟨1, false, tI (2)⟩]) (ts := [(0, tI (1)), (1, tI (2))]) bu47 zr47.2 ⟨_, rfl⟩ rfl ⟨_, _, _, _, rfl, Up.f (fs := [⟨1, false, (tE (.int .i64 0))⟩, ⟨1, false, (tE (.int .i64 0))⟩]) (f := ⟨1, false, (tE (.int .i64 0))⟩) (fs' := [⟨1, false, tI (1)⟩, ⟨1, false, (tE (.int .i64 0))⟩]) 0 rfl rfl rfl, inferInstance, ⟨_, _, _, _, rfl, Up.f (fs := [⟨1, false, tI (1)⟩, ⟨1, false, (tE (.int .i64 0))⟩]) (f := ⟨1, false, (tE (.int .i64 0))⟩) (fs' := [⟨1, false, tI (1)⟩, ⟨1, false, tI (2)⟩]) 1 rfl rfl rfl, inferInstance, Le.refl⟩⟩) rfl rfl (R2 (xc8 (r := tS [⟨1, false, tI (-3)⟩, ⟨1, false, tI (4)⟩]) (ts := [(0, tI (-3)), (1, tI (4))]) bu47 zr47.2 ⟨_, rfl⟩ rfl ⟨_, _, _, _, rfl, Up.f (fs := [⟨1, false, (tE (.int .i64 0))⟩, ⟨1, false, (tE (.int .i64 0))⟩]) (f := ⟨1, false, (tE (.int .i64 0))⟩) (fs' := [⟨1, false, tI (-3)⟩, ⟨1, false, (tE (.int .i64 0))⟩]) 0 rfl rfl rfl, inferInstance, ⟨_, _, _, _, rfl, Up.f (fs := [⟨1, false, tI (-3)⟩, ⟨1, false, (tE (.int .i64 0))⟩]) (f := ⟨1, false, (tE (.int .i64 0))⟩) (fs' := [⟨1, false, tI (-3)⟩, ⟨1, false, tI (4)⟩]) 1 rfl rfl rfl, inferInstance, Le.refl⟩⟩) rfl rfl (R2 (xc8 (r := tS [⟨1, false, tI (5)⟩, ⟨1, false, tI (3)⟩]) (ts := [(0, tI (5)), (1, tI (3))]) bu47 zr47.2 ⟨_, rfl⟩ rfl ⟨_, _, _, _, rfl, Up.f (fs := [⟨1, false, (tE (.int .i64 0))⟩, ⟨1, false, (tE (.int .i64 0))⟩]) (f := ⟨1, false, (tE (.int .i64 0))⟩) (fs' := [⟨1, false, tI (5)⟩, ⟨1, false, (tE (.int .i64 0))⟩]) 0 rfl rfl rfl, inferInstance, ⟨_, _, _, _, rfl, Up.f (fs := [⟨1, false, tI (5)⟩, ⟨1, false, (tE (.int .i64 0))⟩]) (f := ⟨1, false, (tE (.int .i64 0))⟩) (fs' := [⟨1, false, tI (5)⟩, ⟨1, false, tI (3)⟩]) 1 rfl rfl rfl, inferInstance, Le.refl⟩⟩) rfl rfl (R2 (xc8 (r := tS [⟨1, false, tI (65537)⟩, ⟨1, false, tI (7)⟩]) (ts := [(0, tI (65537)), (1, tI (7))]) bu47 zr47.2 ⟨_, rfl⟩ rfl ⟨_, _, _, _, rfl, Up.f (fs := [⟨1, false, (tE (.int .i64 0))⟩, ⟨1, false, (tE (.int .i64 0))⟩]) (f := ⟨1, false, (tE (.int .i64 0))⟩) (fs' := [⟨1, false, tI (65537)⟩, ⟨1, false, (tE (.int .i64 0))⟩]) 0 rfl rfl rfl, inferInstance, ⟨_, _, _, _, rfl, Up.f (fs := [⟨1, false, tI (65537)⟩, ⟨1, false, (tE (.int .i64 0))⟩]) (f := ⟨1, false, (tE (.int .i64 0))⟩) (fs' := [⟨1, false, tI (65537)⟩, ⟨1, false, tI (7)⟩]) 1 rfl rfl rfl, inferInstance, Le.refl⟩⟩) rfl rfl (R2 (xc8 (r := tS [⟨1, false, tI (-1)⟩, ⟨1, false, tI (1)⟩]) (ts := [(0, tI (-1)), (1, tI (1))]) bu47 zr47.2 ⟨_, rfl⟩ rfl ⟨_, _, _, _, rfl, Up.f (fs := [⟨1, false, (tE (.int .i64 0))⟩, ⟨1, false, (tE (.int .i64 0))⟩]) (f := ⟨1, false, (tE (.int .i64 0))⟩) (fs' := [⟨1, false, tI (-1)⟩, ⟨1, false, (tE (.int .i64 0))⟩]) 0 rfl rfl rfl, inferInstance, ⟨_, _, _, _, rfl, Up.f (fs := [⟨1, false, tI (-1)⟩, ⟨1, false, (tE (.int .i64 0))⟩]) (f := ⟨1, false, (tE (.int .i64 0))⟩) (fs' := [⟨1, false, tI (-1)⟩, ⟨1, false, tI (1)⟩]) 1 rfl rfl rfl, inferInstance, Le.refl⟩⟩) rfl rfl (R2 (xc8 (r := tS [⟨1, false, tI (1099511627776)⟩, ⟨1, false, tI (1)⟩]) (ts := [(0, tI (1099511627776)), (1, tI (1))]) bu47 zr47.2 ⟨_, rfl⟩ rfl ⟨_, _, _, _, rfl, Up.f (fs := [⟨1, false, (tE (.int .i64 0))⟩, ⟨1, false, (tE (.int .i64 0))⟩]) (f := ⟨1, false, (tE (.int .i64 0))⟩) (fs' := [⟨1, false, tI (1099511627776)⟩, ⟨1, false, (tE (.int .i64 0))⟩]) 0 rfl rfl rfl, inferInstance, ⟨_, _, _, _, rfl, Up.f (fs := [⟨1, false, tI (1099511627776)⟩, ⟨1, false, (tE (.int .i64 0))⟩]) (f := ⟨1, false, (tE (.int .i64 0))⟩) (fs' := [⟨1, false, tI (1099511627776)⟩, ⟨1, false, tI (1)⟩]) 1 rfl rfl rfl, inferInstance, Le.refl⟩⟩) rfl rfl ?_)))))))
 refine RE (xc8 (r := tS [⟨2, true, tS [⟨1, false, tI (0)⟩, ⟨1, false, tI (1)⟩]⟩, ⟨2, true, tS [⟨1, false, tI (1)⟩, ⟨1, false, tI (1)⟩]⟩, ⟨2, true, tS [⟨1, false, tI (1)⟩, ⟨1, false, tI (2)⟩]⟩, ⟨2, true, tS [⟨1, false, tI (-3)⟩, ⟨1, false, tI (4)⟩]⟩, ⟨2, true, tS [⟨1, false, tI (5)⟩, ⟨1, false, tI (3)⟩]⟩, ⟨2, true, tS [⟨1, false, tI (65537)⟩, ⟨1, false, tI (7)⟩]⟩, ⟨2, true, tS [⟨1, false, tI (-1)⟩, ⟨1, false, tI (1)⟩]⟩, ⟨2, true, tS [⟨1, false, tI (1099511627776)⟩, ⟨1, false, tI (1)⟩]⟩]) (ts := [(0, tS [⟨1, false, tI (0)⟩, ⟨1, false, tI (1)⟩]), (1, tS [⟨1, false, tI (1)⟩, ⟨1, false, tI (1)⟩]), (2, tS [⟨1, false, tI (1)⟩, ⟨1, false, tI (2)⟩]), (3, tS [⟨1, false, tI (-3)⟩, ⟨1, false, tI (4)⟩]), (4, tS [⟨1, false, tI (5)⟩, ⟨1, false, tI (3)⟩]), (5, tS [⟨1, false, tI (65537)⟩, ⟨1, false, tI (7)⟩]), (6, tS [⟨1, false, tI (-1)⟩, ⟨1, false, tI (1)⟩]), (7, tS [⟨1, false, tI (1099511627776)⟩, ⟨1, false, tI (1)⟩])]) bu113 zr113.2 ⟨_, rfl⟩ rfl ⟨_, _, _, _, rfl, Up.f (fs := [⟨2, true, (tS [⟨1, false, (tE (.int .i64 0))⟩, ⟨1, false, (tE (.int .i64 0))⟩])⟩, ⟨2, true, (tS [⟨1, false, (tE (.int .i64 0))⟩, ⟨1, false, (tE (.int .i64 0))⟩])⟩, ⟨2, true, (tS [⟨1, false, (tE (.int .i64 0))⟩, ⟨1, false, (tE (.int .i64 0))⟩])⟩, ⟨2, true, (tS [⟨1, false, (tE (.int .i64 0))⟩, ⟨1, false, (tE (.int .i64 0))⟩])⟩, ⟨2, true, (tS [⟨1, false, (tE (.int .i64 0))⟩, ⟨1, false, (tE (.int .i64 0))⟩])⟩, ⟨2, true, (tS [⟨1, false, (tE (.int .i64 0))⟩, ⟨1, false, (tE (.int .i64 0))⟩])⟩, ⟨2, true, (tS [⟨1, false, (tE (.int .i64 0))⟩, ⟨1, false, (tE (.int .i64 0))⟩])⟩, ⟨2, true, (tS [⟨1, false, (tE (.int .i64 0))⟩, ⟨1, false, (tE (.int .i64 0))⟩])⟩]) (f := ⟨2, true, (tS [⟨1, false, (tE (.int .i64 0))⟩, ⟨1, false, (tE (.int .i64 0))⟩])⟩) (fs' := [⟨2, true, tS [⟨1, false, tI (0)⟩, ⟨1, false, tI (1)⟩]⟩, ⟨2, true, (tS [⟨1, false, (tE (.int .i64 0))⟩, ⟨1, false, (tE (.int .i64 0))⟩])⟩, ⟨2, true, (tS [⟨1, false, (tE (.int .i64 0))⟩, ⟨1, false, (tE (.int .i64 0))⟩])⟩, ⟨2, true, (tS [⟨1, false, (tE (.int .i64 0))⟩, ⟨1, false, (tE (.int .i64 0))⟩])⟩, ⟨2, true, (tS [⟨1, false, (tE (.int .i64 0))⟩, ⟨1, false, (tE (.int .i64 0))⟩])⟩, ⟨2, true, (tS [⟨1, false, (tE (.int .i64 0))⟩, ⟨1, false, (tE (.int .i64 0))⟩])⟩, ⟨2, true, (tS [⟨1, false, (tE (.int .i64 0))⟩, ⟨1, false, (tE (.int .i64 0))⟩])⟩, ⟨2, true, (tS [⟨1, false, (tE (.int .i64 0))⟩, ⟨1, false, (tE (.int .i64 0))⟩])⟩]) 0 rfl rfl rfl, inferInstance, ⟨_, _, _, _, rfl, Up.f (fs := [⟨2, true, tS [⟨1, false, tI (0)⟩, ⟨1, false, tI (1)⟩]⟩, ⟨2, true, (tS [⟨1, false, (tE (.int .i64 0))⟩, ⟨1, false, (tE (.int .i64 0))⟩])⟩, ⟨2, true, (tS [⟨1, false, (tE (.int .i64 0))⟩, ⟨1, false, (tE (.int .i64 0))⟩])⟩, ⟨2, true, (tS [⟨1, false, (tE (.int .i64 0))⟩, ⟨1, false, (tE (.int .i64 0))⟩])⟩, ⟨2, true, (tS [⟨1, false, (tE (.int .i64 0))⟩, ⟨1, false, (tE (.int .i64 0))⟩])⟩, ⟨2, true, (tS [⟨1, false, (tE (.int .i64 0))⟩, ⟨1, false, (tE (.int .i64 0))⟩])⟩, ⟨2, true, (tS [⟨1, false, (tE (.int .i64 0))⟩, ⟨1, false, (tE (.int .i64 0))⟩])⟩, ⟨2, true, (tS [⟨1, false, (tE (.int .i64 0))⟩, ⟨1, false, (tE (.int .i64 0))⟩])⟩]) (f := ⟨2, true, (tS [⟨1, false, (tE (.int .i64 0))⟩, ⟨1, false, (tE (.int .i64 0))⟩])⟩) (fs' := [⟨2, true, tS [⟨1, false, tI (0)⟩, ⟨1, false, tI (1)⟩]⟩, ⟨2, true, tS [⟨1, false, tI (1)⟩, ⟨1, false, tI (1)⟩]⟩, ⟨2, true, (tS [⟨1, false, (tE (.int .i64 0))⟩, ⟨1, false, (tE (.int .i64 0))⟩])⟩, ⟨2, true, (tS [⟨1, false, (tE (.int .i64 0))⟩, ⟨1, false, (tE (.int .i64 0))⟩])⟩, ⟨2, true, (tS [⟨1, false, (tE (.int .i64 0))⟩, ⟨1, false, (tE (.int .i64 0))⟩])⟩, ⟨2, true, (tS [⟨1, false, (tE (.int .i64 0))⟩, ⟨1, false, (tE (.int .i64 0))⟩])⟩, ⟨2, true, (tS [⟨1, false, (tE (.int .i64 0))⟩, ⟨1, false, (tE (.int .i64 0))⟩])⟩, ⟨2, true, (tS [⟨1, false, (tE (.int .i64 0))⟩, ⟨1, false, (tE (.int .i64 0))⟩])⟩]) 1 rfl rfl rfl, inferInstance, ⟨_, _, _, _, rfl, Up.f (fs := [⟨2, true, tS [⟨1, false, tI (0)⟩, ⟨1, false, tI (1)⟩]⟩, ⟨2, true, tS [⟨1, false, tI (1)⟩, ⟨1, false, tI (1)⟩]⟩, ⟨2, true, (tS [⟨1, false, (tE (.int .i64 0))⟩, ⟨1, false, (tE (.int .i64 0))⟩])⟩, ⟨2, true, (tS [⟨1, false, (tE (.int .i64 0))⟩, ⟨1, false, (tE (.int .i64 0))⟩])⟩, ⟨2, true, (tS [⟨1, false, (tE (.int .i64 0))⟩, ⟨1, false, (tE (.int .i64 0))⟩])⟩, ⟨2, true, (tS [⟨1, false, (tE (.int .i64 0))⟩, ⟨1, false, (tE (.int .i64 0))⟩])⟩, ⟨2, true, (tS [⟨1, false, (tE (.int .i64 0))⟩, ⟨1, false, (tE (.int .i64 0))⟩])⟩, ⟨2, true, (tS [⟨1, false, (tE (.int .i64 0))⟩, ⟨1, false, (tE (.int .i64 0))⟩])⟩]) (f := ⟨2, true, (tS [⟨1, false, (tE (.int .i64 0))⟩, ⟨1, false, (tE (.int .i64 0))⟩])⟩) (fs' := [⟨2, true, tS [⟨1, false, tI (0)⟩, ⟨1, false, tI (1)⟩]⟩, ⟨2, true, tS [⟨1, false, tI (1)⟩, ⟨1, false, tI (1)⟩]⟩, ⟨2, true, tS [⟨1, false, tI (1)⟩, ⟨1, false, tI (2)⟩]⟩, ⟨2, true, (tS [⟨1, false, (tE (.int .i64 0))⟩, ⟨1, false, (tE (.int .i64 0))⟩])⟩, ⟨2, true, (tS [⟨1, false, (tE (.int .i64 0))⟩, ⟨1, false, (tE (.int .i64 0))⟩])⟩, ⟨2, true, (tS [⟨1, false, (tE (.int .i64 0))⟩, ⟨1, false, (tE (.int .i64 0))⟩])⟩, ⟨2, true, (tS [⟨1, false, (tE (.int .i64 0))⟩, ⟨1, false, (tE (.int .i64 0))⟩])⟩, ⟨2, true, (tS [⟨1, false, (tE (.int .i64 0))⟩, ⟨1, false, (tE (.int .i64 0))⟩])⟩]) 2 rfl rfl rfl, inferInstance, ⟨_, _, _, _, rfl, Up.f (fs := [⟨2, true, tS [⟨1, false, tI (0)⟩, ⟨1, false, tI (1)⟩]⟩, ⟨2, true, tS [⟨1, false, tI (1)⟩, ⟨1, false, tI (1)⟩]⟩, ⟨2, true, tS [⟨1, false, tI (1)⟩, ⟨1, false, tI (2)⟩]⟩, ⟨2, true, (tS [⟨1, false, (tE (.int .i64 0))⟩, ⟨1, false, (tE (.int .i64 0))⟩])⟩, ⟨2, true, (tS [⟨1, false, (tE (.int .i64 0))⟩, ⟨1, false, (tE (.int .i64 0))⟩])⟩, ⟨2, true, (tS [⟨1, false, (tE (.int .i64 0))⟩, ⟨1, false, (tE (.int .i64 0))⟩])⟩, ⟨2, true, (tS [⟨1, false, (tE (.int .i64 0))⟩, ⟨1, false, (tE (.int .i64 0))⟩])⟩, ⟨2, true, (tS [⟨1, false, (tE (.int .i64 0))⟩, ⟨1, false, (tE (.int .i64 0))⟩])⟩]) (f := ⟨2, true, (tS [⟨1, false, (tE (.int .i64 0))⟩, ⟨1, false, (tE (.int .i64 0))⟩])⟩) (fs' := [⟨2, true, tS [⟨1, false, tI (0)⟩, ⟨1, false, tI (1)⟩]⟩, ⟨2, true, tS [⟨1, false, tI (1)⟩, ⟨1, false, tI (1)⟩]⟩, ⟨2, true, tS [⟨1, false, tI (1)⟩, ⟨1, false, tI (2)⟩]⟩, ⟨2, true, tS [⟨1, false, tI (-3)⟩, ⟨1, false, tI (4)⟩]⟩, ⟨2, true, (tS [⟨1, false, (tE (.int .i64 0))⟩, ⟨1, false, (tE (.int .i64 0))⟩])⟩, ⟨2, true, (tS [⟨1, false, (tE (.int .i64 0))⟩, ⟨1, false, (tE (.int .i64 0))⟩])⟩, ⟨2, true, (tS [⟨1, false, (tE (.int .i64 0))⟩, ⟨1, false, (tE (.int .i64 0))⟩])⟩, ⟨2, true, (tS [⟨1, false, (tE (.int .i64 0))⟩, ⟨1, false, (tE (.int .i64 0))⟩])⟩]) 3 rfl rfl rfl, inferInstance, ⟨_, _, _, _, rfl, Up.f (fs := [⟨2, true, tS [⟨1, false, tI (0)⟩, ⟨1, false, tI (1)⟩]⟩, ⟨2, true, tS [⟨1, false, tI (1)⟩, ⟨1, false, tI (1)⟩]⟩, ⟨2, true, tS [⟨1, false, tI (1)⟩, ⟨1, false, tI (2)⟩]⟩, ⟨2, true, tS [⟨1, false, tI (-3)⟩, ⟨1, false, tI (4)⟩]⟩, ⟨2, true, (tS [⟨1, false, (tE (.int .i64 0))⟩, ⟨1, false, (tE (.int .i64 0))⟩])⟩, ⟨2, true, (tS [⟨1, false, (tE (.int .i64 0))⟩, ⟨1, false, (tE (.int .i64 0))⟩])⟩, ⟨2, true, (tS [⟨1, false, (tE (.int .i64 0))⟩, ⟨1, false, (tE (.int .i64 0))⟩])⟩, ⟨2, true, (tS [⟨1, false, (tE (.int .i64 0))⟩, ⟨1, false, (tE (.int .i64 0))⟩])⟩]) (f := ⟨2, true, (tS [⟨1, false, (tE (.int .i64 0))⟩, ⟨1, false, (tE (.int .i64 0))⟩])⟩) (fs' := [⟨2, true, tS [⟨1, false, tI (0)⟩, ⟨1, false, tI (1)⟩]⟩, ⟨2, true, tS [⟨1, false, tI (1)⟩, ⟨1, false, tI (1)⟩]⟩, ⟨2, true, tS [⟨1, false, tI (1)⟩, ⟨1, false, tI (2)⟩]⟩, ⟨2, true, tS [⟨1, false, tI (-3)⟩, ⟨1, false, tI (4)⟩]⟩, ⟨2, true, tS [⟨1, false, tI (5)⟩, ⟨1, false, tI (3)⟩]⟩, ⟨2, true, (tS [⟨1, false, (tE (.int .i64 0))⟩, ⟨1, false, (tE (.int .i64 0))⟩])⟩, ⟨2, true, (tS [⟨1, false, (tE (.int .i64 0))⟩, ⟨1, false, (tE (.int .i64 0))⟩])⟩, ⟨2, true, (tS [⟨1, false, (tE (.int .i64 0))⟩, ⟨1, false, (tE (.int .i64 0))⟩])⟩]) 4 rfl rfl rfl, inferInstance, ⟨_, _, _, _, rfl, Up.f (fs := [⟨2, true, tS [⟨1, false, tI (0)⟩, ⟨1, false, tI (1)⟩]⟩, ⟨2, true, tS [⟨1, false, tI (1)⟩, ⟨1, false, tI (1)⟩]⟩, ⟨2, true, tS [⟨1, false, tI (1)⟩, ⟨1, false, tI (2)⟩]⟩, ⟨2, true, tS [⟨1, false, tI (-3)⟩, ⟨1, false, tI (4)⟩]⟩, ⟨2, true, tS [⟨1, false, tI (5)⟩, ⟨1, false, tI (3)⟩]⟩, ⟨2, true, (tS [⟨1, false, (tE (.int .i64 0))⟩, ⟨1, false, (tE (.int .i64 0))⟩])⟩, ⟨2, true, (tS [⟨1, false, (tE (.int .i64 0))⟩, ⟨1, false, (tE (.int .i64 0))⟩])⟩, ⟨2, true, (tS [⟨1, false, (tE (.int .i64 0))⟩, ⟨1, false, (tE (.int .i64 0))⟩])⟩]) (f := ⟨2, true, (tS [⟨1, false, (tE (.int .i64 0))⟩, ⟨1, false, (tE (.int .i64 0))⟩])⟩) (fs' := [⟨2, true, tS [⟨1, false, tI (0)⟩, ⟨1, false, tI (1)⟩]⟩, ⟨2, true, tS [⟨1, false, tI (1)⟩, ⟨1, false, tI (1)⟩]⟩, ⟨2, true, tS [⟨1, false, tI (1)⟩, ⟨1, false, tI (2)⟩]⟩, ⟨2, true, tS [⟨1, false, tI (-3)⟩, ⟨1, false, tI (4)⟩]⟩, ⟨2, true, tS [⟨1, false, tI (5)⟩, ⟨1, false, tI (3)⟩]⟩, ⟨2, true, tS [⟨1, false, tI (65537)⟩, ⟨1, false, tI (7)⟩]⟩, ⟨2, true, (tS [⟨1, false, (tE (.int .i64 0))⟩, ⟨1, false, (tE (.int .i64 0))⟩])⟩, ⟨2, true, (tS [⟨1, false, (tE (.int .i64 0))⟩, ⟨1, false, (tE (.int .i64 0))⟩])⟩]) 5 rfl rfl rfl, inferInstance, ⟨_, _, _, _, rfl, Up.f (fs := [⟨2, true, tS [⟨1, false, tI (0)⟩, ⟨1, false, tI (1)⟩]⟩, ⟨2, true, tS [⟨1, false, tI (1)⟩, ⟨1, false, tI (1)⟩]⟩, ⟨2, true, tS [⟨1, false, tI (1)⟩, ⟨1, false, tI (2)⟩]⟩, ⟨2, true, tS [⟨1, false, tI (-3)⟩, ⟨1, false, tI (4)⟩]⟩, ⟨2, true, tS [⟨1, false, tI (5)⟩, ⟨1, false, tI (3)⟩]⟩, ⟨2, true, tS [⟨1, false, tI (65537)⟩, ⟨1, false, tI (7)⟩]⟩, ⟨2, true, (tS [⟨1, false, (tE (.int .i64 0))⟩, ⟨1, false, (tE (.int .i64 0))⟩])⟩, ⟨2, true, (tS [⟨1, false, (tE (.int .i64 0))⟩, ⟨1, false, (tE (.int .i64 0))⟩])⟩]) (f := ⟨2, true, (tS [⟨1, false, (tE (.int .i64 0))⟩, ⟨1, false, (tE (.int .i64 0))⟩])⟩) (fs' := [⟨2, true, tS [⟨1, false, tI (0)⟩, ⟨1, false, tI (1)⟩]⟩, ⟨2, true, tS [⟨1, false, tI (1)⟩, ⟨1, false, tI (1)⟩]⟩, ⟨2, true, tS [⟨1, false, tI (1)⟩, ⟨1, false, tI (2)⟩]⟩, ⟨2, true, tS [⟨1, false, tI (-3)⟩, ⟨1, false, tI (4)⟩]⟩, ⟨2, true, tS [⟨1, false, tI (5)⟩, ⟨1, false, tI (3)⟩]⟩, ⟨2, true, tS [⟨1, false, tI (65537)⟩, ⟨1, false, tI (7)⟩]⟩, ⟨2, true, tS [⟨1, false, tI (-1)⟩, ⟨1, false, tI (1)⟩]⟩, ⟨2, true, (tS [⟨1, false, (tE (.int .i64 0))⟩, ⟨1, false, (tE (.int .i64 0))⟩])⟩]) 6 rfl rfl rfl, inferInstance, ⟨_, _, _, _, rfl, Up.f (fs := [⟨2, true, tS [⟨1, false, tI (0)⟩, ⟨1, false, tI (1)⟩]⟩, ⟨2, true, tS [⟨1, false, tI (1)⟩, ⟨1, false, tI (1)⟩]⟩, ⟨2, true, tS [⟨1, false, tI (1)⟩, ⟨1, false, tI (2)⟩]⟩, ⟨2, true, tS [⟨1, false, tI (-3)⟩, ⟨1, false, tI (4)⟩]⟩, ⟨2, true, tS [⟨1, false, tI (5)⟩, ⟨1, false, tI (3)⟩]⟩, ⟨2, true, tS [⟨1, false, tI (65537)⟩, ⟨1, false, tI (7)⟩]⟩, ⟨2, true, tS [⟨1, false, tI (-1)⟩, ⟨1, false, tI (1)⟩]⟩, ⟨2, true, (tS [⟨1, false, (tE (.int .i64 0))⟩, ⟨1, false, (tE (.int .i64 0))⟩])⟩]) (f := ⟨2, true, (tS [⟨1, false, (tE (.int .i64 0))⟩, ⟨1, false, (tE (.int .i64 0))⟩])⟩) (fs' := [⟨2, true, tS [⟨1, false, tI (0)⟩, ⟨1, false, tI (1)⟩]⟩, ⟨2, true, tS [⟨1, false, tI (1)⟩, ⟨1, false, tI (1)⟩]⟩, ⟨2, true, tS [⟨1, false, tI (1)⟩, ⟨1, false, tI (2)⟩]⟩, ⟨2, true, tS [⟨1, false, tI (-3)⟩, ⟨1, false, tI (4)⟩]⟩, ⟨2, true, tS [⟨1, false, tI (5)⟩, ⟨1, false, tI (3)⟩]⟩, ⟨2, true, tS [⟨1, false, tI (65537)⟩, ⟨1, false, tI (7)⟩]⟩, ⟨2, true, tS [⟨1, false, tI (-1)⟩, ⟨1, false, tI (1)⟩]⟩, ⟨2, true, tS [⟨1, false, tI (1099511627776)⟩, ⟨1, false, tI (1)⟩]⟩]) 7 rfl rfl rfl, inferInstance, Le.refl⟩⟩⟩⟩⟩⟩⟩⟩) ⟨rfl, rfl, rfl, rfl, rfl, rfl, rfl, rfl, trivial⟩ trivial trivial (R1 x3 rfl (R2 (d_remP (by omega) (by omega)) rfl rfl (R2 (d_indexV (es := 2) (agg := true) (t := tS (plP.map fun x => ⟨2, true, tP2 x⟩)) (t' := tP2 (plQ n)) Tryz.underlying113 ti47 (n % 8) (by omega) (by omega) (At.row (l := plP) (0, 1) (show n % 8 < 8 by omega))) rfl rfl (RE (xb9 (k := 3) (n := 2) (agg := true) zr47.1 zr47.2 rfl) trivial trivial ⟨rfl, trivial⟩ (RE (xa3 (es := 2) (agg := true) (0) ti47 rfl rfl rfl) ⟨rfl, rfl, trivial⟩ ⟨rfl, trivial⟩ trivial (x7 (by kernel_rfl) (x4 ?_)))))))
 refine x6 ?_
 refine x8 ?_
 refine R2 (d_indexA ar47 (by omega) (by omega) rfl) rfl rfl (xa5 (0) ti3 rfl rfl rfl (At.g 0 rfl rfl) rfl (R2 (d_indexA ar47 (by omega) (by omega) rfl) rfl rfl (xa5 (0) ti3 rfl rfl rfl (At.g 1 rfl rfl) rfl (R2 (xa0 (c_Num (plQ n).1 (plQ n).2 q1 q2 q3 q4) fi29 rfl) rfl rfl (RE (xa3 (es := 6) (agg := true) (0) ti37 rfl rfl rfl) ⟨rfl, rfl, trivial⟩ ⟨rfl, trivial⟩ trivial (x7 (by kernel_rfl) (x4 ?_)))))))
 refine xa1 ?_
 exact xg4 Plain.mk' rfl ⟨_, _, _, _, _, rfl, rfl, ti37, Le.refl⟩
def tbF (m : List Nat) (k : Nat) (t : Int) : Int := t + ((m.getD (3 * k) 0 : Nat) : Int) % 3000
def tbE (m : List Nat) (k : Nat) (t : Int) : Int := tbF m k t + 1 + ((m.getD (3 * k + 1) 0 : Nat) : Int) % 3000
def tbS (m : List Nat) (k : Nat) (t : Int) : Tst := ⟨tbF m k t, tbE m k t, plV (m.getD (3 * k + 2) 0)⟩
def tbRun (m : List Nat) : Nat → Nat → List Tst → Int → List Tst
  | 0, _, out, _ => out
  | f + 1, k, out, t => if 3 * k + 2 < m.length ∧ k < 40 then (if 65536 < tbE m k t then out else tbRun m f (k + 1) (pst1 out (tbS m k t)) (tbE m k t)) else out
def tbT (m : List Nat) : List Tst := tbRun m 41 0 [] 0
theorem tbRun_stop {m : List Nat} {k : Nat} {out : List Tst} {t : Int} {r : List Tst} (hk : k ≤ 40) (h : tbRun m (41 - k) k out t = r) (hs : ¬ (3 * k + 2 < m.length ∧ k < 40) ∨ 65536 < tbE m k t) : out = r := by
  rw [show 41 - k = (40 - k) + 1 by omega, tbRun] at h
  split at h
  · rw [if_pos (hs.resolve_left (fun h' => h' (by assumption)))] at h; exact h
  · exact h
theorem tbRun_next {m : List Nat} {k : Nat} {out : List Tst} {t : Int} {r : List Tst} (hk : k ≤ 40) (h : tbRun m (41 - k) k out t = r) (hs : 3 * k + 2 < m.length ∧ k < 40) (he : ¬ 65536 < tbE m k t) : tbRun m (41 - (k + 1)) (k + 1) (pst1 out (tbS m k t)) (tbE m k t) = r := by
  rw [show 41 - k = (41 - (k + 1)) + 1 by omega, tbRun, if_pos hs, if_neg he] at h; exact h
theorem tbS_lt {m : List Nat} {k : Nat} {t : Int} : (tbS m k t).lo < (tbS m k t).hi := by simp only [tbS, tbE]; omega
def eds4 (l : List Tst) : List Int := l.flatMap fun s => [s.lo - 1, s.lo, s.hi - 1, s.hi]
/-- The days about the ends of steps. -/
def lkT (a b : List Tst) (d : Int) : List Int := d :: [a, b].flatMap eds4
theorem c_Built05 (m : List Nat) (hm : ∀ i, m.getD i 0 < 65536) :
  Ct Tryz.prog 12 [tLm m] (tL 8 true tTs (tbT m)) := by
 refine Ct.intro Tryz.func12 rfl Tryz.ntmps12 rfl ?_
 intro w F
 refine C_len (s := 0) rfl (fun hl0 => ?_)
 refine x6 ?_
 refine x8 ?_
 refine R1 x5 rfl (x7 (by kernel_rfl) (x4 (x6 ?_)))
 refine x8 ?_
 refine RE (d_assignN (k := 3) 56 8 true rfl (fun h => by cases h)) trivial trivial ⟨rfl, trivial⟩ (x7 (by kernel_rfl) (x4 (x6 ?_)))
 refine x8 ?_
 refine R1 x5 rfl (x7 (by kernel_rfl) (x4 (x6 (x6 ?_))))
 refine x8 ?_
 refine R1 x5 rfl (x7 (by kernel_rfl) (x4 (xb1 ?_)))
 refine xe1 (fun (fm : (Nat) × (List Tst) × (Int)) => (fun (k : Nat) (xs : List Tst) (t : Int) => k ≤ 40 ∧ tbRun m (41 - k) k xs t = tbT m ∧ xs.length ≤ k ∧ 0 ≤ t ∧ t ≤ 65536) fm.1 fm.2.1 fm.2.2) (fun (fm : (Nat) × (List Tst) × (Int)) => (fun (k : Nat) (xs : List Tst) (t : Int) => upd (upd (upd (upd (fun _ => none) 0 (some (.val (tLm m)))) 3 (some (.own (.sl 3 8 0 xs.length)))) 4 (some (.val (tI t)))) 5 (some (.val (tI (3 * (k : Int)))))) fm.1 fm.2.1 fm.2.2) (fun (fm : (Nat) × (List Tst) × (Int)) => (fun (k : Nat) (xs : List Tst) (t : Int) => upd (fun _ => none) 3 (some (⟨56, 8, true, rV tTs xs⟩))) fm.1 fm.2.1 fm.2.2) (nm [3]) (fun (fm : (Nat) × (List Tst) × (Int)) => (fun (k : Nat) (xs : List Tst) (t : Int) => 41 - k) fm.1 fm.2.1 fm.2.2) ((0, [], 0)) (by dsimp only; exact ⟨Nat.zero_le _, rfl, Nat.le_refl _, by omega, by omega⟩) (Sub.int rfl (by first | omega | rfl | (dsimp only; omega)) (Sub.int rfl (by first | omega | rfl | (dsimp only; omega)) (Sub.cons rfl (Sub.cons rfl Sub.nil)))) ((SubK.consI rfl ImpK.refl) SubK.nil) (SupG.val (SupG.val (SupG.own rfl (SupG.val SupG.nil)))) (SupH.cons rfl (supJ xd2) SupH.nil) (lkOk rfl) ?_
 intro fm hI
 obtain ⟨k, xs, t⟩ := fm
 replace hI : k ≤ 40 ∧ tbRun m (41 - k) k xs t = tbT m ∧ xs.length ≤ k ∧ 0 ≤ t ∧ t ≤ 65536 := hI
 show wc _ _ _ _ (upd (upd (upd (upd (fun _ => none) 0 (some (.val (tLm m)))) 3 (some (.own (.sl 3 8 0 xs.length)))) 4 (some (.val (tI t)))) 5 (some (.val (tI (3 * (k : Int)))))) (upd (fun _ => none) 3 (some (⟨56, 8, true, rV tTs xs⟩))) _
 obtain ⟨hk, hb, hxl, ht0, ht1⟩ := hI
 have m0 := hm (3 * k)
 have m1 := hm (3 * k + 1)
 have m2 := hm (3 * k + 2)
 refine x6 (x6 ?_)
 refine x8 ?_
 refine R1 x3 rfl (R2 (xb7 (wr64 (by omega) (by omega))) rfl rfl (R1 x3 rfl (R1 (xc3 Tryz.underlying22) rfl (R2 xe0 rfl rfl (R1 x3 rfl ?_)))))
 refine RGcaseD (t := 15) rfl (fun h24 => ?_) (fun h24 => ?_)
 ·
  refine RGon (decide_eq_true h24) rfl x3 rfl ⟨rfl, trivial⟩ trivial trivial (RGon (decide_eq_true h24) rfl xe0 rfl ⟨rfl, rfl, trivial⟩ trivial trivial (R2 (xb3 (decide_eq_true h24)) rfl rfl (x7 (by kernel_rfl) (x4 ?_))))
  refine xc1 rfl (fun h24_2 => ?_) (fun h24_2 => ?_)
  ·
   refine xa2 (x4 (x6 (xb1 (x6 ?_))))
   refine x8 ?_
   refine R1 x3 rfl (R1 x3 rfl (R1 x3 rfl (R2 (xb4 sl22 (3 * k) (by omega) (gN (by omega))) rfl rfl (R1 (xc0 ti73) rfl (R1 (xb2 Tryz.underlying3 (isS Tryz.underlying73) (wr64 (by omega) (by omega))) rfl (R2 (d_remP (by omega) (by omega)) rfl rfl (R2 (xb7 (wr64 (by omega) (by omega))) rfl rfl ?_)))))))
   refine R1 x5 rfl (x7 (by kernel_rfl) (x4 (x6 ?_)))
   refine xd7 mixed ?_
   refine R1 x3 rfl (R2 (xb7 (wr64 (by omega) (by omega))) rfl rfl (R1 x3 rfl (R1 x3 rfl (R2 (xb7 (wr64 (by omega) (by omega))) rfl rfl (R2 (xb4 sl22 (3 * k + 1) (by omega) (gN (by omega))) rfl rfl (R1 (xc0 ti73) rfl (R1 (xb2 Tryz.underlying3 (isS Tryz.underlying73) (wr64 (by omega) (by omega))) rfl ?_)))))))
   refine R2 (d_remP (by omega) (by omega)) rfl rfl (R2 (xb7 (wr64 (by omega) (by omega))) rfl rfl (R1 x3 rfl (R1 x3 rfl (R2 (xb7 (wr64 (by omega) (by omega))) rfl rfl (R2 (xb4 sl22 (3 * k + 2) (by omega) (gN (by omega))) rfl rfl (R1 (xc0 ti73) rfl (R1 (xa0 (c_Pool (m.getD (3 * k + 2) 0) m2) fi40 rfl) rfl ?_)))))))
   refine RE (xb9 (k := 8) (n := 6) (agg := true) zr37.1 zr37.2 rfl) trivial trivial ⟨rfl, trivial⟩ (R1 x5 rfl (RE (xa3 (es := 6) (agg := true) (0) ti37 rfl rfl rfl) ⟨rfl, rfl, trivial⟩ ⟨rfl, trivial⟩ trivial (xd3 (by kernel_rfl) (x4 (x6 (x6 ?_))))))
   refine x8 ?_
   refine R1 x3 rfl (R2 d_gtr rfl rfl (x7 (by kernel_rfl) (x4 ?_)))
   refine xc1 rfl (fun h27 => ?_) (fun h27 => ?_)
   ·
    refine xd1 (xb8 (K_exO rfl (xb8 (xb8 (xd8 (x4 (x6 ?_)))))))
    refine x8 ?_
    refine R1 x3 rfl (RE (d_assignS (f := tTs) (xs := xs) (fun _ h => h) (rV_all rfl) rfl) ⟨rfl, trivial⟩ ⟨rfl, trivial⟩ trivial (x7 (by kernel_rfl) (x4 (xa1 ?_))))
    exact xa6 Plain.mk' rfl rfl (Le.of (by rw [tbRun_stop hk hb (.inr (by simp only [tbE, tbF]; omega))]))
   ·
    refine xa2 (x4 (x6 (x6 ?_)))
    refine x8 ?_
    refine R1 x3 rfl (R1 (d_lenO Tryz.underlying24) rfl (R2 (xe2 (wr64 (by omega) (by omega))) rfl rfl (R1 x5 rfl (x7 (by kernel_rfl) (x4 (x6 ?_))))))
    refine xd7 mixed ?_
    refine R1 x3 rfl (R2 d_geq rfl rfl (R1 x3 rfl ?_))
    refine RGcaseD (t := 52) rfl (fun h30 => ?_) (fun h30 => ?_)
    ·
     refine RGon (decide_eq_true h30) rfl x3 rfl ⟨rfl, trivial⟩ trivial trivial (RGon (decide_eq_true h30) rfl x3 rfl ⟨rfl, trivial⟩ trivial trivial (RGon (decide_eq_true h30) rfl (xd0 sl24 (by omega) (by omega) rfl) rfl ⟨rfl, rfl, trivial⟩ trivial trivial (RGon (decide_eq_true h30) rfl (x9 fo56_1 rfl) rfl ⟨rfl, trivial⟩ trivial trivial (RGon (decide_eq_true h30) rfl (d_loadF (es := 8) (o := 1) (xs.length - 1) ti3 (rV_getD (d := tst0) (by omega)) (At.g 1 rfl rfl) (by omega)) rfl ⟨rfl, trivial⟩ ⟨rfl, trivial⟩ trivial (RGon (decide_eq_true h30) rfl x3 rfl ⟨rfl, trivial⟩ trivial trivial (RGon (decide_eq_true h30) rfl xe6 rfl ⟨rfl, rfl, trivial⟩ trivial trivial (R2 (xb3 (decide_eq_true h30)) rfl rfl ?_)))))))
     refine R1 x3 rfl ?_
     refine RGcaseD (t := 61) rfl (fun h30_2 => ?_) (fun h30_2 => ?_)
     ·
      refine RGon (decide_eq_true h30_2) rfl x3 rfl ⟨rfl, trivial⟩ trivial trivial (RGon (decide_eq_true h30_2) rfl x3 rfl ⟨rfl, trivial⟩ trivial trivial (RGon (decide_eq_true h30_2) rfl (xd0 sl24 (by omega) (by omega) rfl) rfl ⟨rfl, rfl, trivial⟩ trivial trivial (RGon (decide_eq_true h30_2) rfl (x9 fo56_2 rfl) rfl ⟨rfl, trivial⟩ trivial trivial (RGon (decide_eq_true h30_2) rfl (d_loadF (es := 8) (o := 2) (xs.length - 1) ti37 (rV_getD (d := tst0) (by omega)) (At.g 2 rfl rfl) (by omega)) rfl ⟨rfl, trivial⟩ ⟨rfl, trivial⟩ trivial (RGon (decide_eq_true h30_2) rfl (xb0 (0) ti37 rfl rfl) rfl ⟨rfl, trivial⟩ ⟨rfl, trivial⟩ trivial (RGon (decide_eq_true h30_2) rfl (xa0 (c_SameValue _ _) fi18 rfl) rfl ⟨rfl, rfl, trivial⟩ trivial trivial (R2 (xb3 (decide_eq_true h30_2)) rfl rfl ?_)))))))
      refine xd3 (by kernel_rfl) (x4 ?_)
      refine xc1 rfl (fun h30_3 => ?_) (fun h30_3 => ?_)
      ·
       refine x8 ?_
       refine R1 x3 rfl (R1 x3 rfl (R1 x3 rfl (R2 (xd0 sl24 (by omega) (by omega) rfl) rfl rfl (R1 (x9 fo56_1 rfl) rfl (RE (d_storeF (es := 8) (o := 1) (t2 := tTs ⟨(xs.getD (xs.length - 1) tst0).lo, (tbS m k t).hi, (xs.getD (xs.length - 1) tst0).v⟩) (xs.length - 1) ti3 (rV_getD (d := tst0) (by omega)) (Up.g 1 rfl rfl rfl) (by omega) (rV_set rfl)) ⟨rfl, rfl, trivial⟩ ⟨rfl, trivial⟩ trivial (x7 (by kernel_rfl) (x4 ?_)))))))
       refine x8 ?_
       refine R1 x3 rfl (R1 x5 rfl (x7 (by kernel_rfl) (xc2 (x4 ?_))))
       refine x8 ?_
       refine R1 x3 rfl (R2 (xb7 (wr64 (by omega) (by omega))) rfl rfl (R1 x5 rfl (x7 (by kernel_rfl) ?_)))
       have hpx : pst1 xs (tbS m k t) = (xs.set (xs.length - 1) ⟨(xs.getD (xs.length - 1) tst0).lo, (tbS m k t).hi, (xs.getD (xs.length - 1) tst0).v⟩) := by
        have hlt := tbS_lt (m := m) (k := k) (t := t)
        rw [pst1, if_neg (by omega), if_pos ⟨by omega, by simp only [tbS, tbE, tbF]; omega, h30_3⟩]
       exact xc5 ((k + 1, (xs.set (xs.length - 1) ⟨(xs.getD (xs.length - 1) tst0).lo, (tbS m k t).hi, (xs.getD (xs.length - 1) tst0).v⟩), tbE m k t)) ⟨(by dsimp only; exact ⟨by omega, by rw [← hpx]; exact tbRun_next hk hb ⟨by omega, by omega⟩ (by simp only [tbE, tbF]; omega), by rw [List.length_set]; omega, by simp only [tbE, tbF]; omega, by simp only [tbE, tbF]; omega⟩), (by dsimp only; omega)⟩ (Sub.int rfl (by first | omega | rfl | (dsimp only; omega)) (Sub.int rfl (by first | omega | rfl | (dsimp only; omega)) ((Sub.consI rfl (Imp.of (by dsimp only; rw [List.length_set]))) (Sub.cons rfl Sub.nil)))) ((SubK.consI rfl ImpK.refl) SubK.nil) (SupG.val (SupG.val (SupG.own rfl (SupG.val SupG.nil)))) (SupH.cons rfl (supJ xd2) SupH.nil) (lkOk rfl)
      ·
       refine x8 ?_
       refine R1 x3 rfl (R1 x3 rfl (R1 x3 rfl (RE (xb0 (0) ti37 rfl rfl) ⟨rfl, trivial⟩ ⟨rfl, trivial⟩ trivial (R3 (xc8 (r := tS [⟨1, false, tI (tbS m k t).lo⟩, ⟨1, false, tI (tbS m k t).hi⟩, ⟨6, true, tVa (tbS m k t).v⟩]) (ts := [(0, tI (tbS m k t).lo), (1, tI (tbS m k t).hi), (2, tVa (tbS m k t).v)]) bu56 zr56.2 ⟨_, rfl⟩ rfl ⟨_, _, _, _, rfl, Up.f (fs := [⟨1, false, (tE (.int .i64 0))⟩, ⟨1, false, (tE (.int .i64 0))⟩, ⟨6, true, (tS [⟨1, false, (tE (.int .u8 0))⟩, ⟨4, true, (tS [⟨2, true, (tS [⟨1, false, (tE (.bool false))⟩, ⟨1, false, (tLm [])⟩])⟩, ⟨2, true, (tS [⟨1, false, (tE (.bool false))⟩, ⟨1, false, (tLm [])⟩])⟩])⟩, ⟨1, false, (tE (.int .i64 0))⟩])⟩]) (f := ⟨1, false, (tE (.int .i64 0))⟩) (fs' := [⟨1, false, tI (tbS m k t).lo⟩, ⟨1, false, (tE (.int .i64 0))⟩, ⟨6, true, (tS [⟨1, false, (tE (.int .u8 0))⟩, ⟨4, true, (tS [⟨2, true, (tS [⟨1, false, (tE (.bool false))⟩, ⟨1, false, (tLm [])⟩])⟩, ⟨2, true, (tS [⟨1, false, (tE (.bool false))⟩, ⟨1, false, (tLm [])⟩])⟩])⟩, ⟨1, false, (tE (.int .i64 0))⟩])⟩]) 0 rfl rfl rfl, inferInstance, ⟨_, _, _, _, rfl, Up.f (fs := [⟨1, false, tI (tbS m k t).lo⟩, ⟨1, false, (tE (.int .i64 0))⟩, ⟨6, true, (tS [⟨1, false, (tE (.int .u8 0))⟩, ⟨4, true, (tS [⟨2, true, (tS [⟨1, false, (tE (.bool false))⟩, ⟨1, false, (tLm [])⟩])⟩, ⟨2, true, (tS [⟨1, false, (tE (.bool false))⟩, ⟨1, false, (tLm [])⟩])⟩])⟩, ⟨1, false, (tE (.int .i64 0))⟩])⟩]) (f := ⟨1, false, (tE (.int .i64 0))⟩) (fs' := [⟨1, false, tI (tbS m k t).lo⟩, ⟨1, false, tI (tbS m k t).hi⟩, ⟨6, true, (tS [⟨1, false, (tE (.int .u8 0))⟩, ⟨4, true, (tS [⟨2, true, (tS [⟨1, false, (tE (.bool false))⟩, ⟨1, false, (tLm [])⟩])⟩, ⟨2, true, (tS [⟨1, false, (tE (.bool false))⟩, ⟨1, false, (tLm [])⟩])⟩])⟩, ⟨1, false, (tE (.int .i64 0))⟩])⟩]) 1 rfl rfl rfl, inferInstance, ⟨_, _, _, _, rfl, Up.f (fs := [⟨1, false, tI (tbS m k t).lo⟩, ⟨1, false, tI (tbS m k t).hi⟩, ⟨6, true, (tS [⟨1, false, (tE (.int .u8 0))⟩, ⟨4, true, (tS [⟨2, true, (tS [⟨1, false, (tE (.bool false))⟩, ⟨1, false, (tLm [])⟩])⟩, ⟨2, true, (tS [⟨1, false, (tE (.bool false))⟩, ⟨1, false, (tLm [])⟩])⟩])⟩, ⟨1, false, (tE (.int .i64 0))⟩])⟩]) (f := ⟨6, true, (tS [⟨1, false, (tE (.int .u8 0))⟩, ⟨4, true, (tS [⟨2, true, (tS [⟨1, false, (tE (.bool false))⟩, ⟨1, false, (tLm [])⟩])⟩, ⟨2, true, (tS [⟨1, false, (tE (.bool false))⟩, ⟨1, false, (tLm [])⟩])⟩])⟩, ⟨1, false, (tE (.int .i64 0))⟩])⟩) (fs' := [⟨1, false, tI (tbS m k t).lo⟩, ⟨1, false, tI (tbS m k t).hi⟩, ⟨6, true, tVa (tbS m k t).v⟩]) 2 rfl rfl rfl, inferInstance, Le.refl⟩⟩⟩) rfl rfl rfl (R1 (xe5 (n := 1) (f := tTs) [(tbS m k t)] Tryz.underlying24 el56 zf56 rfl (fun _ => inferInstance) rfl rfl rfl) rfl (RE (xf7 (k := 3) (k' := 81) (f := tTs) (ys := [(tbS m k t)]) (ts' := rV tTs (xs ++ [(tbS m k t)])) Tryz.underlying24 el56 zf56 rfl rfl (fun _ => inferInstance) xg6 (by simp; omega) (by simp; omega) (by simp [rV]) (n' := xs.length + 1) rfl) ⟨rfl, rfl, trivial⟩ ⟨rfl, trivial⟩ ⟨rfl, trivial⟩ (R1 x5 rfl ?_)))))))
       refine x7 (by kernel_rfl) (x4 ?_)
       refine x8 ?_
       refine R1 x3 rfl (R1 x5 rfl (x7 (by kernel_rfl) (xc2 (x4 ?_))))
       refine x8 ?_
       refine R1 x3 rfl (R2 (xb7 (wr64 (by omega) (by omega))) rfl rfl (R1 x5 rfl (x7 (by kernel_rfl) ?_)))
       have hpx : pst1 xs (tbS m k t) = xs ++ [(tbS m k t)] := by
        have hlt := tbS_lt (m := m) (k := k) (t := t)
        rw [pst1, if_neg (by omega), if_neg (fun h => h30_3 h.2.2)]
       exact K_famR (l := [3]) (fun j => cond (Nat.beq j 3) 81 (j)) ((k + 1, xs ++ [(tbS m k t)], tbE m k t)) ⟨(by dsimp only; exact ⟨by omega, by rw [← hpx]; exact tbRun_next hk hb ⟨by omega, by omega⟩ (by simp only [tbE, tbF]; omega), by rw [List.length_append]; simp; omega, by simp only [tbE, tbF]; omega, by simp only [tbE, tbF]; omega⟩), (by dsimp only; omega)⟩ (SubR.int rfl (by first | omega | rfl | (dsimp only; omega)) (SubR.int rfl (by first | omega | rfl | (dsimp only; omega)) ((SubR.consI rfl (Imp.of (by dsimp only; rw [List.length_append]; rfl))) (SubR.cons rfl SubR.nil)))) ((SubKR.consI rfl (ImpK.of xf0.symm)) SubKR.nil) (SupG.val (SupG.val (SupG.own rfl (SupG.val SupG.nil)))) (SupH.cons rfl (supJ xd2) SupH.nil) (lkOk rfl) rfl rfl (fun _ h => by cases h)
     ·
      refine RGoff (decide_eq_false h30_2) rfl rfl (RGoff (decide_eq_false h30_2) rfl rfl (RGoff (decide_eq_false h30_2) rfl rfl (RGoff (decide_eq_false h30_2) rfl rfl (RGoff (decide_eq_false h30_2) rfl rfl (RGoff (decide_eq_false h30_2) rfl rfl (RGoff (decide_eq_false h30_2) rfl rfl (R2 (xa9 (decide_eq_false h30_2)) rfl rfl ?_)))))))
      refine xd3 (by kernel_rfl) (x4 (C_bF rfl rfl ?_))
      refine x8 ?_
      refine R1 x3 rfl (R1 x3 rfl (R1 x3 rfl (RE (xb0 (0) ti37 rfl rfl) ⟨rfl, trivial⟩ ⟨rfl, trivial⟩ trivial (R3 (xc8 (r := tS [⟨1, false, tI (tbS m k t).lo⟩, ⟨1, false, tI (tbS m k t).hi⟩, ⟨6, true, tVa (tbS m k t).v⟩]) (ts := [(0, tI (tbS m k t).lo), (1, tI (tbS m k t).hi), (2, tVa (tbS m k t).v)]) bu56 zr56.2 ⟨_, rfl⟩ rfl ⟨_, _, _, _, rfl, Up.f (fs := [⟨1, false, (tE (.int .i64 0))⟩, ⟨1, false, (tE (.int .i64 0))⟩, ⟨6, true, (tS [⟨1, false, (tE (.int .u8 0))⟩, ⟨4, true, (tS [⟨2, true, (tS [⟨1, false, (tE (.bool false))⟩, ⟨1, false, (tLm [])⟩])⟩, ⟨2, true, (tS [⟨1, false, (tE (.bool false))⟩, ⟨1, false, (tLm [])⟩])⟩])⟩, ⟨1, false, (tE (.int .i64 0))⟩])⟩]) (f := ⟨1, false, (tE (.int .i64 0))⟩) (fs' := [⟨1, false, tI (tbS m k t).lo⟩, ⟨1, false, (tE (.int .i64 0))⟩, ⟨6, true, (tS [⟨1, false, (tE (.int .u8 0))⟩, ⟨4, true, (tS [⟨2, true, (tS [⟨1, false, (tE (.bool false))⟩, ⟨1, false, (tLm [])⟩])⟩, ⟨2, true, (tS [⟨1, false, (tE (.bool false))⟩, ⟨1, false, (tLm [])⟩])⟩])⟩, ⟨1, false, (tE (.int .i64 0))⟩])⟩]) 0 rfl rfl rfl, inferInstance, ⟨_, _, _, _, rfl, Up.f (fs := [⟨1, false, tI (tbS m k t).lo⟩, ⟨1, false, (tE (.int .i64 0))⟩, ⟨6, true, (tS [⟨1, false, (tE (.int .u8 0))⟩, ⟨4, true, (tS [⟨2, true, (tS [⟨1, false, (tE (.bool false))⟩, ⟨1, false, (tLm [])⟩])⟩, ⟨2, true, (tS [⟨1, false, (tE (.bool false))⟩, ⟨1, false, (tLm [])⟩])⟩])⟩, ⟨1, false, (tE (.int .i64 0))⟩])⟩]) (f := ⟨1, false, (tE (.int .i64 0))⟩) (fs' := [⟨1, false, tI (tbS m k t).lo⟩, ⟨1, false, tI (tbS m k t).hi⟩, ⟨6, true, (tS [⟨1, false, (tE (.int .u8 0))⟩, ⟨4, true, (tS [⟨2, true, (tS [⟨1, false, (tE (.bool false))⟩, ⟨1, false, (tLm [])⟩])⟩, ⟨2, true, (tS [⟨1, false, (tE (.bool false))⟩, ⟨1, false, (tLm [])⟩])⟩])⟩, ⟨1, false, (tE (.int .i64 0))⟩])⟩]) 1 rfl rfl rfl, inferInstance, ⟨_, _, _, _, rfl, Up.f (fs := [⟨1, false, tI (tbS m k t).lo⟩, ⟨1, false, tI (tbS m k t).hi⟩, ⟨6, true, (tS [⟨1, false, (tE (.int .u8 0))⟩, ⟨4, true, (tS [⟨2, true, (tS [⟨1, false, (tE (.bool false))⟩, ⟨1, false, (tLm [])⟩])⟩, ⟨2, true, (tS [⟨1, false, (tE (.bool false))⟩, ⟨1, false, (tLm [])⟩])⟩])⟩, ⟨1, false, (tE (.int .i64 0))⟩])⟩]) (f := ⟨6, true, (tS [⟨1, false, (tE (.int .u8 0))⟩, ⟨4, true, (tS [⟨2, true, (tS [⟨1, false, (tE (.bool false))⟩, ⟨1, false, (tLm [])⟩])⟩, ⟨2, true, (tS [⟨1, false, (tE (.bool false))⟩, ⟨1, false, (tLm [])⟩])⟩])⟩, ⟨1, false, (tE (.int .i64 0))⟩])⟩) (fs' := [⟨1, false, tI (tbS m k t).lo⟩, ⟨1, false, tI (tbS m k t).hi⟩, ⟨6, true, tVa (tbS m k t).v⟩]) 2 rfl rfl rfl, inferInstance, Le.refl⟩⟩⟩) rfl rfl rfl (R1 (xe5 (n := 1) (f := tTs) [(tbS m k t)] Tryz.underlying24 el56 zf56 rfl (fun _ => inferInstance) rfl rfl rfl) rfl (RE (xf7 (k := 3) (k' := 81) (f := tTs) (ys := [(tbS m k t)]) (ts' := rV tTs (xs ++ [(tbS m k t)])) Tryz.underlying24 el56 zf56 rfl rfl (fun _ => inferInstance) xg6 (by simp; omega) (by simp; omega) (by simp [rV]) (n' := xs.length + 1) rfl) ⟨rfl, rfl, trivial⟩ ⟨rfl, trivial⟩ ⟨rfl, trivial⟩ (R1 x5 rfl ?_)))))))
      refine x7 (by kernel_rfl) (x4 ?_)
      refine x8 ?_
      refine R1 x3 rfl (R1 x5 rfl (x7 (by kernel_rfl) (xc2 (x4 ?_))))
      refine x8 ?_
      refine R1 x3 rfl (R2 (xb7 (wr64 (by omega) (by omega))) rfl rfl (R1 x5 rfl (x7 (by kernel_rfl) ?_)))
      have hpx : pst1 xs (tbS m k t) = xs ++ [(tbS m k t)] := by
       have hlt := tbS_lt (m := m) (k := k) (t := t)
       rw [pst1, if_neg (by omega), if_neg (fun h => h30_2 (by have := h.2.1; simp only [tbS, tbF] at this; omega))]
      exact K_famR (l := [3]) (fun j => cond (Nat.beq j 3) 81 (j)) ((k + 1, xs ++ [(tbS m k t)], tbE m k t)) ⟨(by dsimp only; exact ⟨by omega, by rw [← hpx]; exact tbRun_next hk hb ⟨by omega, by omega⟩ (by simp only [tbE, tbF]; omega), by rw [List.length_append]; simp; omega, by simp only [tbE, tbF]; omega, by simp only [tbE, tbF]; omega⟩), (by dsimp only; omega)⟩ (SubR.int rfl (by first | omega | rfl | (dsimp only; omega)) (SubR.int rfl (by first | omega | rfl | (dsimp only; omega)) ((SubR.consI rfl (Imp.of (by dsimp only; rw [List.length_append]; rfl))) (SubR.cons rfl SubR.nil)))) ((SubKR.consI rfl (ImpK.of xf0.symm)) SubKR.nil) (SupG.val (SupG.val (SupG.own rfl (SupG.val SupG.nil)))) (SupH.cons rfl (supJ xd2) SupH.nil) (lkOk rfl) rfl rfl (fun _ h => by cases h)
    ·
     refine RGoff (decide_eq_false h30) rfl rfl (RGoff (decide_eq_false h30) rfl rfl (RGoff (decide_eq_false h30) rfl rfl (RGoff (decide_eq_false h30) rfl rfl (RGoff (decide_eq_false h30) rfl rfl (RGoff (decide_eq_false h30) rfl rfl (RGoff (decide_eq_false h30) rfl rfl (R2 (xa9 (decide_eq_false h30)) rfl rfl ?_)))))))
     refine R1 x3 rfl (RGoff0 rfl rfl (RGoff0 rfl rfl (RGoff0 rfl rfl (RGoff0 rfl rfl (RGoff0 rfl rfl (RGoff0 rfl rfl (RGoff0 rfl rfl ?_)))))))
     refine R2 (xa9 rfl) rfl rfl (xd3 (by kernel_rfl) (x4 (C_bF rfl rfl ?_)))
     refine x8 ?_
     refine R1 x3 rfl (R1 x3 rfl (R1 x3 rfl (RE (xb0 (0) ti37 rfl rfl) ⟨rfl, trivial⟩ ⟨rfl, trivial⟩ trivial (R3 (xc8 (r := tS [⟨1, false, tI (tbS m k t).lo⟩, ⟨1, false, tI (tbS m k t).hi⟩, ⟨6, true, tVa (tbS m k t).v⟩]) (ts := [(0, tI (tbS m k t).lo), (1, tI (tbS m k t).hi), (2, tVa (tbS m k t).v)]) bu56 zr56.2 ⟨_, rfl⟩ rfl ⟨_, _, _, _, rfl, Up.f (fs := [⟨1, false, (tE (.int .i64 0))⟩, ⟨1, false, (tE (.int .i64 0))⟩, ⟨6, true, (tS [⟨1, false, (tE (.int .u8 0))⟩, ⟨4, true, (tS [⟨2, true, (tS [⟨1, false, (tE (.bool false))⟩, ⟨1, false, (tLm [])⟩])⟩, ⟨2, true, (tS [⟨1, false, (tE (.bool false))⟩, ⟨1, false, (tLm [])⟩])⟩])⟩, ⟨1, false, (tE (.int .i64 0))⟩])⟩]) (f := ⟨1, false, (tE (.int .i64 0))⟩) (fs' := [⟨1, false, tI (tbS m k t).lo⟩, ⟨1, false, (tE (.int .i64 0))⟩, ⟨6, true, (tS [⟨1, false, (tE (.int .u8 0))⟩, ⟨4, true, (tS [⟨2, true, (tS [⟨1, false, (tE (.bool false))⟩, ⟨1, false, (tLm [])⟩])⟩, ⟨2, true, (tS [⟨1, false, (tE (.bool false))⟩, ⟨1, false, (tLm [])⟩])⟩])⟩, ⟨1, false, (tE (.int .i64 0))⟩])⟩]) 0 rfl rfl rfl, inferInstance, ⟨_, _, _, _, rfl, Up.f (fs := [⟨1, false, tI (tbS m k t).lo⟩, ⟨1, false, (tE (.int .i64 0))⟩, ⟨6, true, (tS [⟨1, false, (tE (.int .u8 0))⟩, ⟨4, true, (tS [⟨2, true, (tS [⟨1, false, (tE (.bool false))⟩, ⟨1, false, (tLm [])⟩])⟩, ⟨2, true, (tS [⟨1, false, (tE (.bool false))⟩, ⟨1, false, (tLm [])⟩])⟩])⟩, ⟨1, false, (tE (.int .i64 0))⟩])⟩]) (f := ⟨1, false, (tE (.int .i64 0))⟩) (fs' := [⟨1, false, tI (tbS m k t).lo⟩, ⟨1, false, tI (tbS m k t).hi⟩, ⟨6, true, (tS [⟨1, false, (tE (.int .u8 0))⟩, ⟨4, true, (tS [⟨2, true, (tS [⟨1, false, (tE (.bool false))⟩, ⟨1, false, (tLm [])⟩])⟩, ⟨2, true, (tS [⟨1, false, (tE (.bool false))⟩, ⟨1, false, (tLm [])⟩])⟩])⟩, ⟨1, false, (tE (.int .i64 0))⟩])⟩]) 1 rfl rfl rfl, inferInstance, ⟨_, _, _, _, rfl, Up.f (fs := [⟨1, false, tI (tbS m k t).lo⟩, ⟨1, false, tI (tbS m k t).hi⟩, ⟨6, true, (tS [⟨1, false, (tE (.int .u8 0))⟩, ⟨4, true, (tS [⟨2, true, (tS [⟨1, false, (tE (.bool false))⟩, ⟨1, false, (tLm [])⟩])⟩, ⟨2, true, (tS [⟨1, false, (tE (.bool false))⟩, ⟨1, false, (tLm [])⟩])⟩])⟩, ⟨1, false, (tE (.int .i64 0))⟩])⟩]) (f := ⟨6, true, (tS [⟨1, false, (tE (.int .u8 0))⟩, ⟨4, true, (tS [⟨2, true, (tS [⟨1, false, (tE (.bool false))⟩, ⟨1, false, (tLm [])⟩])⟩, ⟨2, true, (tS [⟨1, false, (tE (.bool false))⟩, ⟨1, false, (tLm [])⟩])⟩])⟩, ⟨1, false, (tE (.int .i64 0))⟩])⟩) (fs' := [⟨1, false, tI (tbS m k t).lo⟩, ⟨1, false, tI (tbS m k t).hi⟩, ⟨6, true, tVa (tbS m k t).v⟩]) 2 rfl rfl rfl, inferInstance, Le.refl⟩⟩⟩) rfl rfl rfl (R1 (xe5 (n := 1) (f := tTs) [(tbS m k t)] Tryz.underlying24 el56 zf56 rfl (fun _ => inferInstance) rfl rfl rfl) rfl (RE (xf7 (k := 3) (k' := 81) (f := tTs) (ys := [(tbS m k t)]) (ts' := rV tTs (xs ++ [(tbS m k t)])) Tryz.underlying24 el56 zf56 rfl rfl (fun _ => inferInstance) xg6 (by simp; omega) (by simp; omega) (by simp [rV]) (n' := xs.length + 1) rfl) ⟨rfl, rfl, trivial⟩ ⟨rfl, trivial⟩ ⟨rfl, trivial⟩ (R1 x5 rfl ?_)))))))
     refine x7 (by kernel_rfl) (x4 ?_)
     refine x8 ?_
     refine R1 x3 rfl (R1 x5 rfl (x7 (by kernel_rfl) (xc2 (x4 ?_))))
     refine x8 ?_
     refine R1 x3 rfl (R2 (xb7 (wr64 (by omega) (by omega))) rfl rfl (R1 x5 rfl (x7 (by kernel_rfl) ?_)))
     have hpx : pst1 xs (tbS m k t) = xs ++ [(tbS m k t)] := by
      have hlt := tbS_lt (m := m) (k := k) (t := t)
      rw [pst1, if_neg (by omega), if_neg (by omega)]
     exact K_famR (l := [3]) (fun j => cond (Nat.beq j 3) 81 (j)) ((k + 1, xs ++ [(tbS m k t)], tbE m k t)) ⟨(by dsimp only; exact ⟨by omega, by rw [← hpx]; exact tbRun_next hk hb ⟨by omega, by omega⟩ (by simp only [tbE, tbF]; omega), by rw [List.length_append]; simp; omega, by simp only [tbE, tbF]; omega, by simp only [tbE, tbF]; omega⟩), (by dsimp only; omega)⟩ (SubR.int rfl (by first | omega | rfl | (dsimp only; omega)) (SubR.int rfl (by first | omega | rfl | (dsimp only; omega)) ((SubR.consI rfl (Imp.of (by dsimp only; rw [List.length_append]; rfl))) (SubR.cons rfl SubR.nil)))) ((SubKR.consI rfl (ImpK.of xf0.symm)) SubKR.nil) (SupG.val (SupG.val (SupG.own rfl (SupG.val SupG.nil)))) (SupH.cons rfl (supJ xd2) SupH.nil) (lkOk rfl) rfl rfl (fun _ h => by cases h)
  ·
   refine xd1 (xb8 (xb8 (xd8 (x4 (x6 ?_)))))
   refine x8 ?_
   refine R1 x3 rfl (RE (d_assignS (f := tTs) (xs := xs) (fun _ h => h) (rV_all rfl) rfl) ⟨rfl, trivial⟩ ⟨rfl, trivial⟩ trivial (x7 (by kernel_rfl) (x4 (xa1 ?_))))
   exact xa6 Plain.mk' rfl rfl (Le.of (by rw [tbRun_stop hk hb (.inl (by omega))]))
 ·
  refine RGoff (decide_eq_false h24) rfl rfl (RGoff (decide_eq_false h24) rfl rfl (R2 (xa9 (decide_eq_false h24)) rfl rfl (x7 (by kernel_rfl) (x4 (C_bF rfl rfl (xd1 (xb8 ?_)))))))
  refine xb8 (xd8 (x4 (x6 ?_)))
  refine x8 ?_
  refine R1 x3 rfl (RE (d_assignS (f := tTs) (xs := xs) (fun _ h => h) (rV_all rfl) rfl) ⟨rfl, trivial⟩ ⟨rfl, trivial⟩ trivial (x7 (by kernel_rfl) (x4 (xa1 ?_))))
  exact xa6 Plain.mk' rfl rfl (Le.of (by rw [tbRun_stop hk hb (.inl (by omega))]))
theorem c_ends (x y : Int) :
  Ct Tryz.prog 19 [tI x, tI y] (tT [tI (min (x % 65537) (y % 65537)), tI (max (x % 65537) (y % 65537))]) := by
 refine Ct.intro Tryz.func19 rfl Tryz.ntmps19 rfl ?_
 intro w F
 refine x6 ?_
 refine x8 ?_
 refine R1 x5 rfl (R1 x5 rfl (x7 (by kernel_rfl) (x4 (x6 ?_))))
 refine x8 ?_
 refine R1 x3 rfl (R2 (xa0 (c_Pick x 65537 (by decide) (by decide)) fi23 rfl) rfl rfl (R1 x3 rfl (R2 (xa0 (c_Pick y 65537 (by decide) (by decide)) fi23 rfl) rfl rfl (R1 x5 rfl (R1 x5 rfl (x7 (by kernel_rfl) (x4 ?_)))))))
 refine x6 ?_
 refine x8 ?_
 refine R1 x3 rfl (R1 x3 rfl (R2 d_min2 rfl rfl (R1 x3 rfl (R1 x3 rfl (R2 d_max2 rfl rfl (R1 x5 rfl (R1 x5 rfl ?_)))))))
 refine x7 (by kernel_rfl) (x4 (xa1 ?_))
 exact xf3 Plain.mk' rfl rfl rfl Le.refl Le.refl
end An.S

/- What the readers of law 5 read: lists of numbers, numbers. -/
namespace An.S
open Go Go.Proofs An
open Go.ChangeShapes Go.WideShapes Go.ChangeAt Go.RowKit
set_option maxRecDepth 100000
theorem own : ownKnob Tryz.prog.godebug = none := by kernel_rfl
theorem laidOut : laidOutB Tryz.prog = true := by kernel_rfl
theorem oInt : Opn Tryz.prog 3 1 false (fun n : Int => tI n) (fun n => IntKind.i64.min ≤ n ∧ n ≤ IntKind.i64.max) := Opn.int Tryz.underlying3 (by kernel_rfl)
theorem oU16 : Opn Tryz.prog 73 1 false (fun n : Nat => tE (.int .u16 n)) (fun n => n < 65536) := Opn.nat Tryz.underlying73 (by kernel_rfl) rfl rfl
theorem oLm : Opn Tryz.prog 22 1 false (fun l : List Nat => tLm l) (fun l => Dig 65536 l) := (Opn.slice Tryz.underlying22 (by kernel_rfl) oU16).as id (fun _ => rfl) (fun _ h => h)
/-- What a contract says, as the frame of a statement wants it. -/
theorem walked {f : FuncId} {ts : List Ty} (h : Ct Tryz.prog f ts (tB true)) {vs : List Value} {W : World} (ha : Tup.all (Old W) W ts vs) : Calls Tryz.prog f vs.toArray W fun e W' => e = .returned (.bool true) ∧ Ext W W' :=
  (h (Old W) W vs ha).mono fun e W' ⟨v, h1, h2, h3⟩ => by
    have h3 : v = .bool true := h3
    subst h3; exact ⟨h1, h2⟩
end An.S

/- Law 5: what Built makes; contracts at timelines of one kind; the examples of the chapter. -/
namespace An.S
open Go Go.Proofs An
set_option maxHeartbeats 2000000
set_option maxRecDepth 100000
theorem fi13 : FnI Tryz.prog 13 := ⟨_, Tryz.func13, by kernel_rfl, rfl⟩
theorem fi17 : FnI Tryz.prog 17 := ⟨_, Tryz.func17, by kernel_rfl, rfl⟩
theorem fi21 : FnI Tryz.prog 21 := ⟨_, Tryz.func21, by kernel_rfl, rfl⟩
theorem fi22 : FnI Tryz.prog 22 := ⟨_, Tryz.func22, by kernel_rfl, rfl⟩
theorem fi24 : FnI Tryz.prog 24 := ⟨_, Tryz.func24, by kernel_rfl, rfl⟩
theorem fi32 : FnI Tryz.prog 32 := ⟨_, Tryz.func32, by kernel_rfl, rfl⟩
theorem fi34 : FnI Tryz.prog 34 := ⟨_, Tryz.func34, by kernel_rfl, rfl⟩
theorem fi35 : FnI Tryz.prog 35 := ⟨_, Tryz.func35, by kernel_rfl, rfl⟩
theorem fi37 : FnI Tryz.prog 37 := ⟨_, Tryz.func37, by kernel_rfl, rfl⟩
theorem fi43 : FnI Tryz.prog 43 := ⟨_, Tryz.func43, by kernel_rfl, rfl⟩
theorem fi44 : FnI Tryz.prog 44 := ⟨_, Tryz.func44, by kernel_rfl, rfl⟩
theorem fi45 : FnI Tryz.prog 45 := ⟨_, Tryz.func45, by kernel_rfl, rfl⟩
def plW : List Int := [0, 84, 42, -63, 140, 786444, -84, 92358976733184]
def tB5 : Int := 92358976733184
theorem plV_ok (n : Nat) : gOk 2 84 tB5 (plV n) := by
  have key : ∀ m : Fin 8, kfr (plP.getD m.val (0, 1)).1 (plP.getD m.val (0, 1)).2 = Rat.divInt (plW.getD m.val 0) 84 ∧ -92358976733184 ≤ plW.getD m.val 0 ∧ plW.getD m.val 0 ≤ 92358976733184 := by decide +kernel
  have h := key ⟨n % 8, Nat.mod_lt _ (by decide)⟩
  have e : kfr (plQ n).1 (plQ n).2 = Rat.divInt (plW.getD (n % 8) 0) 84 := h.1
  rw [plV, e]
  exact gOk.mk (.inl rfl) (by decide) (by decide) h.2.1 h.2.2 (by decide)
abbrev isT (l : List Tst) : Prop := isG 2 84 tB5 l
theorem tbRun_isG {m : List Nat} : ∀ (f k : Nat) (out : List Tst) (t : Int), isT out → 0 ≤ t → (0 < out.length → (out.getD (out.length - 1) tst0).hi ≤ t) → isT (tbRun m f k out t) ∧ (tbRun m f k out t).length ≤ out.length + f
  | 0, _, out, _, h, _, _ => ⟨h, Nat.le_refl _⟩
  | f + 1, k, out, t, h, ht, hl => by
    rw [tbRun]
    split
    · split
      · exact ⟨h, by omega⟩
      · rename_i he
        have hF : t ≤ tbF m k t := by simp only [tbF]; omega
        have hE : tbF m k t < tbE m k t := by simp only [tbE]; omega
        have h1 : isT (An.pst1 out (tbS m k t)) := h.pst1 (by show 0 ≤ tbF m k t; omega) (by show tbE m k t ≤ 65536; omega) (plV_ok _) fun hp => by have := hl hp; show _ ≤ tbF m k t; omega
        have h2 := pst1_last (l := out) (tbS_lt (m := m) (k := k) (t := t))
        have h3 := tbRun_isG (m := m) f (k + 1) _ (tbE m k t) h1 (by omega) fun _ => by rw [h2.2.1]; exact Int.le_refl _
        have h4 := pst1_len out (tbS m k t)
        exact ⟨h3.1, by omega⟩
    · exact ⟨h, by omega⟩
theorem tbT_ok (m : List Nat) : isT (tbT m) ∧ (tbT m).length ≤ 41 := by
  have := tbRun_isG (m := m) 41 0 [] 0 isG_nil (Int.le_refl _) fun h => by cases h
  exact ⟨this.1, by have := this.2; simp at this; exact this⟩
/-- Two ascending lists with the same members. -/
theorem asc_eq : ∀ {a b : List Int}, a.Pairwise (· < ·) → b.Pairwise (· < ·) → (∀ x, x ∈ a ↔ x ∈ b) → a = b
  | [], [], _, _, _ => rfl
  | [], y :: s, _, _, h => absurd ((h y).2 (List.mem_cons_self ..)) (List.not_mem_nil)
  | x :: r, [], _, _, h => absurd ((h x).1 (List.mem_cons_self ..)) (List.not_mem_nil)
  | x :: r, y :: s, ha, hb, h => by
    have pa := List.pairwise_cons.1 ha
    have pb := List.pairwise_cons.1 hb
    have hxy : x = y := by
      rcases List.mem_cons.1 ((h x).1 (List.mem_cons_self ..)) with e | h1
      · exact e
      · rcases List.mem_cons.1 ((h y).2 (List.mem_cons_self ..)) with e | h2
        · exact e.symm
        · have := pa.1 y h2; have := pb.1 x h1; omega
    subst hxy
    congr 1
    refine asc_eq pa.2 pb.2 fun z => ⟨fun hz => ?_, fun hz => ?_⟩
    · rcases List.mem_cons.1 ((h z).1 (List.mem_cons_of_mem _ hz)) with e | h1
      · have := pa.1 z hz; omega
      · exact h1
    · rcases List.mem_cons.1 ((h z).2 (List.mem_cons_of_mem _ hz)) with e | h1
      · have := pb.1 z hz; omega
      · exact h1
theorem brd_eq {xs l : List Int} (h : l.Pairwise (· < ·)) (hm : ∀ x, x ∈ l ↔ x ∈ xs) : brd xs = l := asc_eq (brd_spec xs).1 h fun x => ((brd_spec xs).2 x).trans (hm x).symm
/-! Contracts. -/
section
variable {K : Nat} {D B : Int} {l a b : List Tst}
theorem isG.kind (ha : isG K D B a) (hb : isG K D B b) : jnC a b := by
  refine ⟨⟨ha.1, hb.1⟩, fun h => h.2.2 ?_⟩
  rw [(ha.2 _ (xe8 (l := a) (i := 0) h.1)).1.2.1, (hb.2 _ (xe8 (l := b) (i := 0) h.2.1)).1.2.1]
theorem c_CutG (x y : Int) (h : isG K D B l) (hl : l.length ≤ 200000) (hxy : Sn.ok ⟨x, y⟩ = true) : Ct Tryz.prog 20 [tL 8 true tTs l, tI x, tI y] (tT [tL 8 true tTs (cutT l x y), tI 0]) := by
  have := c_Cut l x y (by omega) h.dig
  rw [if_pos ⟨h.1, hxy⟩, if_pos ⟨h.1, hxy⟩] at this; exact this
theorem c_WithoutG (x y : Int) (h : isG K D B l) (hl : l.length ≤ 200000) (hxy : Sn.ok ⟨x, y⟩ = true) : Ct Tryz.prog 21 [tL 8 true tTs l, tI x, tI y] (tT [tL 8 true tTs (woT l x y), tI 0]) := by
  have := c_Without l x y hl h.dig
  rw [if_pos ⟨h.1, hxy⟩, if_pos ⟨h.1, hxy⟩] at this; exact this
theorem c_JoinG (ha : isG K D B a) (hb : isG K D B b) (hla : a.length ≤ 200000) (hlb : b.length ≤ 200000) : Ct Tryz.prog 13 [tL 8 true tTs a, tL 8 true tTs b] (tT [tL 8 true tTs (jnT a b), tI 0]) := by
  have := c_TJoin a b hla hlb ha.dig hb.dig
  rw [if_pos (ha.kind hb), if_pos (ha.kind hb)] at this; exact this
theorem c_SumG (x y : Int) (hK : K = 2 ∨ K = 3) (hD : 0 < D) (hDb : D ≤ 9223372036854775807) (hB0 : 0 ≤ B) (hB : B ≤ 140737488355327) (h : isG K D B l) (hl : l.length ≤ 200000) (hxy : Sn.ok ⟨x, y⟩ = true) : Ct Tryz.prog 24 [tL 8 true tTs l, tI x, tI y] (tT [tFr (fr (Rat.divInt (gS (wt D) l x y) D)), tI 0]) := by
  have h2 := h.sum hK hD hDb hB0 hB hxy
  have := c_TSum l x y (by omega) h.dig
  rw [if_pos h2.1, if_pos h2.1, h2.2] at this; exact this
theorem c_CoversG (h : isG K D B l) (hl : l.length ≤ 200000) : Ct Tryz.prog 34 [tL 8 true tTs l] (tL 2 true tSn (cvT l)) := by
  have := c_Covers l hl h.dig
  rw [if_pos h.1] at this; exact this
theorem c_ChangesG (h : isG K D B l) (hl : l.length ≤ 200000) : Ct Tryz.prog 35 [tL 8 true tTs l] (tL 1 false tI (bds [l])) := by
  have := c_Changes l hl h.dig
  rw [if_pos h.1] at this; exact this
theorem c_DiffG (ha : isG K D B a) (hb : isG K D B b) (hla : a.length ≤ 200000) (hlb : b.length ≤ 200000) : Ct Tryz.prog 32 [tL 8 true tTs a, tL 8 true tTs b] (tT [tL 2 true tSn (dfS a b), tI 0]) := by
  have := c_TDiff a b hla hlb ha.dig hb.dig
  rw [if_pos ⟨ha.1, hb.1⟩, if_pos ⟨ha.1, hb.1⟩] at this; exact this
theorem c_AtG (d : Int) (h : isG K D B l) (hl : l.length ≤ 200000) : Ct Tryz.prog 17 [tL 8 true tTs l, tI d] (tT [tVa ((valT l d).getD An.va0), tB (valT l d).isSome]) := by
  have := c_At l d (by omega) h.dig
  rw [atR, if_pos h.1] at this; exact this
end
theorem c_sameFv (f g : Fr) (e : f = g) : Ct Tryz.prog 26 [tFr f, tFr g] (tB true) := by
  have h := c_SameFrac f g
  rw [decide_eq_true e] at h; exact h
theorem c_sameTv (u w : List Tst) (e : u = w) : Ct Tryz.prog 22 [tL 8 true tTs u, tL 8 true tTs w] (tB true) := by
  have h := c_SameSteps u w
  rw [decide_eq_true e] at h; exact h
theorem c_sameSv (u w : List Sn) (e : u = w) : Ct Tryz.prog 37 [tL 2 true tSn u, tL 2 true tSn w] (tB true) := by
  have h := c_SameSpans u w
  rw [decide_eq_true e] at h; exact h
theorem c_sameIv (u w : List Int) (e : u = w) : Ct Tryz.prog 45 [tL 1 false tI u, tL 1 false tI w] (tB true) := by
  have h := c_SameInts u w
  rw [decide_eq_true e] at h; exact h
theorem c_sameVv (u w : Va) (e : u = w) : Ct Tryz.prog 18 [tVa u, tVa w] (tB true) := by
  have h := c_SameValue u w
  rw [decide_eq_true e] at h; exact h
/-! The examples of the chapter. -/
def xv (n d : Int) : Va := ⟨2, fr (kfr n d), 0⟩
def exA : List Tst := [⟨0, 10, xv 1 2⟩, ⟨10, 30, xv 1 1⟩]
def exB : List Tst := [⟨8, 12, xv 0 1⟩]
def exC : List Tst := [⟨10, 12, xv 1 2⟩]
theorem xv_ok : gOk 2 84 tB5 (xv 1 2) ∧ gOk 2 84 tB5 (xv 1 1) ∧ gOk 2 84 tB5 (xv 0 1) := by
  have e1 : kfr 1 2 = Rat.divInt 42 84 := by decide +kernel
  have e2 : kfr 1 1 = Rat.divInt 84 84 := by decide +kernel
  have e3 : kfr 0 1 = Rat.divInt 0 84 := by decide +kernel
  rw [xv, xv, xv, e1, e2, e3]
  exact ⟨gOk.mk (.inl rfl) (by decide) (by decide) (by decide) (by decide) (by decide), gOk.mk (.inl rfl) (by decide) (by decide) (by decide) (by decide) (by decide), gOk.mk (.inl rfl) (by decide) (by decide) (by decide) (by decide) (by decide)⟩
theorem exA_ok : isT exA := ⟨by decide +kernel, fun s hs => by
  simp only [exA, List.mem_cons, List.not_mem_nil, or_false] at hs
  rcases hs with rfl | rfl
  · exact xv_ok.1
  · exact xv_ok.2.1⟩
theorem exB_ok : isT exB := ⟨by decide +kernel, fun s hs => by
  simp only [exB, List.mem_cons, List.not_mem_nil, or_false] at hs
  rcases hs with rfl
  exact xv_ok.2.2⟩
theorem exC_ok : isT exC := ⟨by decide +kernel, fun s hs => by
  simp only [exC, List.mem_cons, List.not_mem_nil, or_false] at hs
  rcases hs with rfl
  exact xv_ok.1⟩
theorem exCut : cutT exA 5 20 = [⟨5, 10, xv 1 2⟩, ⟨10, 20, xv 1 1⟩] := by decide +kernel
theorem exCut2 : cutT exA 0 12 = [⟨0, 10, xv 1 2⟩, ⟨10, 12, xv 1 1⟩] := by decide +kernel
theorem exWo : woT exA 5 20 = [⟨0, 5, xv 1 2⟩, ⟨20, 30, xv 1 1⟩] := by decide +kernel
theorem mem_dec {l xs : List Int} (h1 : l.all (fun x => decide (x ∈ xs)) = true) (h2 : xs.all (fun x => decide (x ∈ l)) = true) : ∀ x, x ∈ l ↔ x ∈ xs := fun x => ⟨fun h => of_decide_eq_true (List.all_eq_true.1 h1 x h), fun h => of_decide_eq_true (List.all_eq_true.1 h2 x h)⟩
theorem exJB : jnT exA exB = [⟨0, 8, xv 1 2⟩, ⟨8, 12, xv 0 1⟩, ⟨12, 30, xv 1 1⟩] := by
  have e : bds [exA, exB] = [0, 8, 10, 12, 30] := brd_eq (by decide) (mem_dec (by decide) (by decide))
  rw [jnT, e]; decide +kernel
theorem exJC : jnT exA exC = [⟨0, 12, xv 1 2⟩, ⟨12, 30, xv 1 1⟩] := by
  have e : bds [exA, exC] = [0, 10, 12, 30] := brd_eq (by decide) (mem_dec (by decide) (by decide))
  rw [jnT, e]; decide +kernel
theorem exCh : bds [exA] = [0, 10, 30] := brd_eq (by decide) (mem_dec (by decide) (by decide))
theorem exCv : cvT exA = [⟨0, 30⟩] := by
  rw [cvT, mkS_asc (cvS_asc exA_ok.1)]; decide +kernel
theorem exDf : dfS exA (cutT exA 0 12) = [⟨12, 30⟩] := by
  have e : bds [exA, [⟨0, 10, xv 1 2⟩, ⟨10, 12, xv 1 1⟩]] = [0, 10, 12, 30] := brd_eq (by decide) (mem_dec (by decide) (by decide))
  rw [dfS, mkS_asc (dfT_asc exA_ok.1 exA_ok.cut.1), dfT_map, exCut2, e]
  decide +kernel
theorem exSum : fr (Rat.divInt (gS (wt 84) exA 5 20) 84) = fr (kfr 25 2) := congrArg fr (by decide +kernel)
theorem c_awake05  :
  Ct Tryz.prog 11 [] (tB true) := by
 refine Ct.intro Tryz.func11 rfl Tryz.ntmps11 rfl ?_
 intro w F
 refine x6 ?_
 refine x8 ?_
 refine R1 x5 rfl (x7 (by kernel_rfl) (x4 (x6 ?_)))
 refine x8 ?_
 refine RE (xa0 (xh3 0 10 1 2 (by decide) (by decide) (by decide) (by decide)) fi44 rfl) ⟨rfl, rfl, rfl, rfl, trivial⟩ trivial trivial (RE (xa0 (xh3 10 30 1 1 (by decide) (by decide) (by decide) (by decide)) fi44 rfl) ⟨rfl, rfl, rfl, rfl, trivial⟩ trivial trivial (R2 (xe5 (n := 2) (f := tTs) [(⟨0, 10, xv 1 2⟩ : Tst), (⟨10, 30, xv 1 1⟩ : Tst)] Tryz.underlying24 el56 zf56 rfl (fun _ => inferInstance) rfl rfl rfl) rfl rfl (R1 (xa0 (c_steps [(⟨0, 10, xv 1 2⟩ : Tst), (⟨10, 30, xv 1 1⟩ : Tst)]) fi43 rfl) rfl (R1 x5 rfl (x7 (by kernel_rfl) (x4 (x6 ?_)))))))
 refine x8 ?_
 refine R1 x3 rfl (R2 (xa0 (c_AtG (l := exA) 9 exA_ok (by decide)) fi17 rfl) rfl rfl (R1 x3 rfl (R1 (xa4 rfl) rfl (R1 (xa4 rfl) rfl (RE (xb9 (k := 2) (n := 6) (agg := true) zr37.1 zr37.2 rfl) trivial trivial ⟨rfl, trivial⟩ (RE (xa3 (es := 6) (agg := true) (0) ti37 rfl rfl rfl) ⟨rfl, rfl, trivial⟩ ⟨rfl, trivial⟩ trivial (R1 x5 rfl ?_)))))))
 refine x7 (by kernel_rfl) (x4 (x6 ?_))
 refine x8 ?_
 refine R1 x3 rfl (R2 (xa0 (c_AtG (l := exA) 30 exA_ok (by decide)) fi17 rfl) rfl rfl (R1 x3 rfl (R1 (xa4 rfl) rfl (R1 (xa4 rfl) rfl (RE (xb9 (k := 4) (n := 6) (agg := true) zr37.1 zr37.2 rfl) trivial trivial ⟨rfl, trivial⟩ (RE (xa3 (es := 6) (agg := true) (0) ti37 rfl rfl rfl) ⟨rfl, rfl, trivial⟩ ⟨rfl, trivial⟩ trivial (R1 x5 rfl ?_)))))))
 refine x7 (by kernel_rfl) (x4 (x6 ?_))
 refine x8 ?_
 refine R1 x3 rfl (R3 (xa0 (c_SumG (l := exA) 5 20 (.inl rfl) (by decide) (by decide) (by decide) (by decide) exA_ok (by decide) (by decide)) fi24 rfl) rfl rfl rfl (R1 x3 rfl (R1 (xa4 rfl) rfl (R1 (xa4 rfl) rfl (RE (xb9 (k := 6) (n := 4) (agg := true) zr35.1 zr35.2 rfl) trivial trivial ⟨rfl, trivial⟩ (RE (xa3 (es := 4) (agg := true) (0) ti35 rfl rfl rfl) ⟨rfl, rfl, trivial⟩ ⟨rfl, trivial⟩ trivial (R1 x5 rfl ?_)))))))
 refine x7 (by kernel_rfl) (x4 (x6 ?_))
 refine x8 ?_
 refine R1 x3 rfl (R3 (xa0 (c_CutG (l := exA) 5 20 exA_ok (by decide) (by decide)) fi20 rfl) rfl rfl rfl (R1 x3 rfl (R1 (xa4 rfl) rfl (R1 (xa4 rfl) rfl (R1 x5 rfl (R1 x5 rfl (x7 (by kernel_rfl) ?_)))))))
 refine x4 (x6 ?_)
 refine x8 ?_
 refine R1 x3 rfl (R3 (xa0 (c_WithoutG (l := exA) 5 20 exA_ok (by decide) (by decide)) fi21 rfl) rfl rfl rfl (R1 x3 rfl (R1 (xa4 rfl) rfl (R1 (xa4 rfl) rfl (R1 x5 rfl (R1 x5 rfl (x7 (by kernel_rfl) ?_)))))))
 refine x4 (x6 ?_)
 refine x8 ?_
 refine R1 x3 rfl (RE (xa0 (xh3 8 12 0 1 (by decide) (by decide) (by decide) (by decide)) fi44 rfl) ⟨rfl, rfl, rfl, rfl, trivial⟩ trivial trivial (R1 (xe5 (n := 1) (f := tTs) [(⟨8, 12, xv 0 1⟩ : Tst)] Tryz.underlying24 el56 zf56 rfl (fun _ => inferInstance) rfl rfl rfl) rfl (R1 (xa0 (c_steps [(⟨8, 12, xv 0 1⟩ : Tst)]) fi43 rfl) rfl (R2 (xa0 (c_JoinG (a := exA) (b := exB) exA_ok exB_ok (by decide) (by decide)) fi13 rfl) rfl rfl (R1 x3 rfl (R1 (xa4 rfl) rfl (R1 (xa4 rfl) rfl ?_)))))))
 refine R1 x5 rfl (R1 x5 rfl (x7 (by kernel_rfl) (x4 (x6 ?_))))
 refine x8 ?_
 refine R1 x3 rfl (RE (xa0 (xh3 10 12 1 2 (by decide) (by decide) (by decide) (by decide)) fi44 rfl) ⟨rfl, rfl, rfl, rfl, trivial⟩ trivial trivial (R1 (xe5 (n := 1) (f := tTs) [(⟨10, 12, xv 1 2⟩ : Tst)] Tryz.underlying24 el56 zf56 rfl (fun _ => inferInstance) rfl rfl rfl) rfl (R1 (xa0 (c_steps [(⟨10, 12, xv 1 2⟩ : Tst)]) fi43 rfl) rfl (R2 (xa0 (c_JoinG (a := exA) (b := exC) exA_ok exC_ok (by decide) (by decide)) fi13 rfl) rfl rfl (R1 x3 rfl (R1 (xa4 rfl) rfl (R1 (xa4 rfl) rfl ?_)))))))
 refine R1 x5 rfl (R1 x5 rfl (x7 (by kernel_rfl) (x4 (x6 ?_))))
 refine x8 ?_
 refine R1 x3 rfl (R3 (xa0 (c_CutG (l := exA) 0 12 exA_ok (by decide) (by decide)) fi20 rfl) rfl rfl rfl (R1 x3 rfl (R1 (xa4 rfl) rfl (R1 (xa4 rfl) rfl (R1 x5 rfl (R1 x5 rfl (x7 (by kernel_rfl) ?_)))))))
 refine x4 (x6 ?_)
 refine x8 ?_
 refine R1 x3 rfl (R1 x3 rfl (R2 (xa0 (c_DiffG (a := exA) (b := cutT exA 0 12) exA_ok exA_ok.cut (by decide) (by rw [exCut2]; decide)) fi32 rfl) rfl rfl (R1 x3 rfl (R1 (xa4 rfl) rfl (R1 (xa4 rfl) rfl (R1 x5 rfl (R1 x5 rfl ?_)))))))
 refine x7 (by kernel_rfl) (x4 (x6 (x6 ?_)))
 refine xd7 mixed ?_
 refine R1 x3 rfl (R1 x3 rfl (R2 (xb7 (wr64 (by omega) (by omega))) rfl rfl (R1 x3 rfl (R2 (xb7 (wr64 (by omega) (by omega))) rfl rfl (R1 x3 rfl (R2 (xb7 (wr64 (by omega) (by omega))) rfl rfl (R1 x3 rfl ?_)))))))
 refine R2 (xb7 (wr64 (by omega) (by omega))) rfl rfl (R1 x3 rfl (R2 (xb7 (wr64 (by omega) (by omega))) rfl rfl (R1 x3 rfl (R2 (xb7 (wr64 (by omega) (by omega))) rfl rfl (R2 d_neq rfl rfl (R1 x3 rfl (RGon (decide_eq_false (by omega)) rfl x3 rfl ⟨rfl, trivial⟩ trivial trivial ?_)))))))
 refine RGon (decide_eq_false (by omega)) rfl xe4 rfl ⟨rfl, trivial⟩ trivial trivial (R2 (xa9 (decide_eq_false (by omega))) rfl rfl (R1 x3 rfl (RGon (by decide +kernel) rfl x3 rfl ⟨rfl, trivial⟩ trivial trivial (R2 (xa9 (by decide +kernel)) rfl rfl (R1 x3 rfl (RGon (by decide +kernel) rfl (xb0 (0) ti37 rfl rfl) rfl ⟨rfl, trivial⟩ ⟨rfl, trivial⟩ trivial (RGon (by decide +kernel) rfl (xa0 (c_Num 1 2 (by decide) (by decide) (by decide) (by decide)) fi29 rfl) rfl ⟨rfl, rfl, trivial⟩ trivial trivial ?_)))))))
 refine RGon (by decide +kernel) rfl (xa0 (c_sameVv _ _ (by decide +kernel)) fi18 rfl) rfl ⟨rfl, rfl, trivial⟩ trivial trivial (RGon (by decide +kernel) rfl xe4 rfl ⟨rfl, trivial⟩ trivial trivial (R2 (xa9 (by decide +kernel)) rfl rfl (R1 x3 rfl (RGon rfl rfl (xb0 (0) ti35 rfl rfl) rfl ⟨rfl, trivial⟩ ⟨rfl, trivial⟩ trivial (RGon rfl rfl (xa0 (c_KFrac 25 2 (by decide) (by decide) (by decide) (by decide)) fi27 rfl) rfl ⟨rfl, rfl, trivial⟩ trivial trivial (RGon rfl rfl (xa0 (c_sameFv _ _ exSum) fi26 rfl) rfl ⟨rfl, rfl, trivial⟩ trivial trivial (RGon rfl rfl xe4 rfl ⟨rfl, trivial⟩ trivial trivial ?_)))))))
 refine R2 (xa9 rfl) rfl rfl (xd3 (by kernel_rfl) (x4 (C_bF rfl rfl (xa2 (x4 (x6 ?_))))))
 refine x8 ?_
 refine R1 x5 rfl (x7 (by kernel_rfl) (x4 (x6 (x6 ?_))))
 refine x8 ?_
 refine R1 x3 rfl (R1 x3 rfl (RE (xa0 (xh3 5 10 1 2 (by decide) (by decide) (by decide) (by decide)) fi44 rfl) ⟨rfl, rfl, rfl, rfl, trivial⟩ trivial trivial (RE (xa0 (xh3 10 20 1 1 (by decide) (by decide) (by decide) (by decide)) fi44 rfl) ⟨rfl, rfl, rfl, rfl, trivial⟩ trivial trivial (R2 (xe5 (n := 2) (f := tTs) [(⟨5, 10, xv 1 2⟩ : Tst), (⟨10, 20, xv 1 1⟩ : Tst)] Tryz.underlying24 el56 zf56 rfl (fun _ => inferInstance) rfl rfl rfl) rfl rfl (R1 (xa0 (c_steps [(⟨5, 10, xv 1 2⟩ : Tst), (⟨10, 20, xv 1 1⟩ : Tst)]) fi43 rfl) rfl (R3 (d_callF (c_sameTv _ _ exCut) fi22 rfl) rfl rfl rfl (R1 xe4 rfl ?_)))))))
 refine R1 x3 rfl (RGon rfl rfl x3 rfl ⟨rfl, trivial⟩ trivial trivial (RGon rfl rfl x3 rfl ⟨rfl, trivial⟩ trivial trivial (RGon rfl rfl (xa0 (xh3 0 5 1 2 (by decide) (by decide) (by decide) (by decide)) fi44 rfl) rfl ⟨rfl, rfl, rfl, rfl, trivial⟩ trivial trivial (RGon rfl rfl (xa0 (xh3 20 30 1 1 (by decide) (by decide) (by decide) (by decide)) fi44 rfl) rfl ⟨rfl, rfl, rfl, rfl, trivial⟩ trivial trivial (RGon rfl rfl (xe5 (n := 2) (f := tTs) [(⟨0, 5, xv 1 2⟩ : Tst), (⟨20, 30, xv 1 1⟩ : Tst)] Tryz.underlying24 el56 zf56 rfl (fun _ => inferInstance) rfl rfl rfl) rfl ⟨rfl, rfl, trivial⟩ trivial trivial (RGon rfl rfl (xa0 (c_steps [(⟨0, 5, xv 1 2⟩ : Tst), (⟨20, 30, xv 1 1⟩ : Tst)]) fi43 rfl) rfl ⟨rfl, trivial⟩ trivial trivial (RGon rfl rfl (d_callF (c_sameTv _ _ exWo) fi22 rfl) rfl ⟨rfl, rfl, rfl, trivial⟩ trivial trivial ?_)))))))
 refine RGon rfl rfl xe4 rfl ⟨rfl, trivial⟩ trivial trivial (R2 (xa9 rfl) rfl rfl (R1 x3 rfl (RGon rfl rfl x3 rfl ⟨rfl, trivial⟩ trivial trivial (RGon rfl rfl x3 rfl ⟨rfl, trivial⟩ trivial trivial (RGon rfl rfl (xa0 (xh3 0 8 1 2 (by decide) (by decide) (by decide) (by decide)) fi44 rfl) rfl ⟨rfl, rfl, rfl, rfl, trivial⟩ trivial trivial (RGon rfl rfl (xa0 (xh3 8 12 0 1 (by decide) (by decide) (by decide) (by decide)) fi44 rfl) rfl ⟨rfl, rfl, rfl, rfl, trivial⟩ trivial trivial (RGon rfl rfl (xa0 (xh3 12 30 1 1 (by decide) (by decide) (by decide) (by decide)) fi44 rfl) rfl ⟨rfl, rfl, rfl, rfl, trivial⟩ trivial trivial ?_)))))))
 refine RGon rfl rfl (xe5 (n := 3) (f := tTs) [(⟨0, 8, xv 1 2⟩ : Tst), (⟨8, 12, xv 0 1⟩ : Tst), (⟨12, 30, xv 1 1⟩ : Tst)] Tryz.underlying24 el56 zf56 rfl (fun _ => inferInstance) rfl rfl rfl) rfl ⟨rfl, rfl, rfl, trivial⟩ trivial trivial (RGon rfl rfl (xa0 (c_steps [(⟨0, 8, xv 1 2⟩ : Tst), (⟨8, 12, xv 0 1⟩ : Tst), (⟨12, 30, xv 1 1⟩ : Tst)]) fi43 rfl) rfl ⟨rfl, trivial⟩ trivial trivial (RGon rfl rfl (d_callF (c_sameTv _ _ exJB) fi22 rfl) rfl ⟨rfl, rfl, rfl, trivial⟩ trivial trivial (RGon rfl rfl xe4 rfl ⟨rfl, trivial⟩ trivial trivial (R2 (xa9 rfl) rfl rfl (R1 x3 rfl (RGon rfl rfl x3 rfl ⟨rfl, trivial⟩ trivial trivial (RGon rfl rfl x3 rfl ⟨rfl, trivial⟩ trivial trivial ?_)))))))
 refine RGon rfl rfl (xa0 (xh3 0 12 1 2 (by decide) (by decide) (by decide) (by decide)) fi44 rfl) rfl ⟨rfl, rfl, rfl, rfl, trivial⟩ trivial trivial (RGon rfl rfl (xa0 (xh3 12 30 1 1 (by decide) (by decide) (by decide) (by decide)) fi44 rfl) rfl ⟨rfl, rfl, rfl, rfl, trivial⟩ trivial trivial (RGon rfl rfl (xe5 (n := 2) (f := tTs) [(⟨0, 12, xv 1 2⟩ : Tst), (⟨12, 30, xv 1 1⟩ : Tst)] Tryz.underlying24 el56 zf56 rfl (fun _ => inferInstance) rfl rfl rfl) rfl ⟨rfl, rfl, trivial⟩ trivial trivial (RGon rfl rfl (xa0 (c_steps [(⟨0, 12, xv 1 2⟩ : Tst), (⟨12, 30, xv 1 1⟩ : Tst)]) fi43 rfl) rfl ⟨rfl, trivial⟩ trivial trivial (RGon rfl rfl (d_callF (c_sameTv _ _ exJC) fi22 rfl) rfl ⟨rfl, rfl, rfl, trivial⟩ trivial trivial (RGon rfl rfl xe4 rfl ⟨rfl, trivial⟩ trivial trivial (R2 (xa9 rfl) rfl rfl (x7 (by kernel_rfl) ?_)))))))
 refine x4 (C_bF rfl rfl (xa2 (x4 (x6 ?_))))
 refine x8 ?_
 refine R1 x3 rfl (R1 (xa0 (c_ChangesG (l := exA) exA_ok (by decide)) fi35 rfl) rfl (R3 (xe5 (n := 3) (f := fun n : Int => tI n) [0, 10, 30] Tryz.underlying30 el3 zf3 rfl (fun _ => inferInstance) rfl rfl rfl) rfl rfl rfl (R2 (xa0 (c_sameIv _ _ exCh) fi45 rfl) rfl rfl (R1 x3 rfl (RGon rfl rfl x3 rfl ⟨rfl, trivial⟩ trivial trivial (RGon rfl rfl (xa0 (c_CoversG (l := exA) exA_ok (by decide)) fi34 rfl) rfl ⟨rfl, trivial⟩ trivial trivial (RGon rfl rfl (xc8 (r := tS [⟨1, false, tI 0⟩, ⟨1, false, tI 30⟩]) (ts := [(0, tI 0), (1, tI 30)]) bu72 zr72.2 ⟨_, rfl⟩ rfl ⟨_, _, _, _, rfl, Up.f (fs := [⟨1, false, (tE (.int .i64 0))⟩, ⟨1, false, (tE (.int .i64 0))⟩]) (f := ⟨1, false, (tE (.int .i64 0))⟩) (fs' := [⟨1, false, tI 0⟩, ⟨1, false, (tE (.int .i64 0))⟩]) 0 rfl rfl rfl, inferInstance, ⟨_, _, _, _, rfl, Up.f (fs := [⟨1, false, tI 0⟩, ⟨1, false, (tE (.int .i64 0))⟩]) (f := ⟨1, false, (tE (.int .i64 0))⟩) (fs' := [⟨1, false, tI 0⟩, ⟨1, false, tI 30⟩]) 1 rfl rfl rfl, inferInstance, Le.refl⟩⟩) rfl ⟨rfl, rfl, trivial⟩ trivial trivial ?_)))))))
 refine RGon rfl rfl (xe5 (n := 1) (f := tSn) [(⟨0, 30⟩ : Sn)] Tryz.underlying60 el72 zf72 rfl (fun _ => inferInstance) rfl rfl rfl) rfl ⟨rfl, trivial⟩ trivial trivial (RGon rfl rfl (xa0 (c_sameSv _ _ exCv) fi37 rfl) rfl ⟨rfl, rfl, trivial⟩ trivial trivial (R2 (xb3 rfl) rfl rfl (R1 x3 rfl (RGon rfl rfl x3 rfl ⟨rfl, trivial⟩ trivial trivial (RGon rfl rfl (xc8 (r := tS [⟨1, false, tI 12⟩, ⟨1, false, tI 30⟩]) (ts := [(0, tI 12), (1, tI 30)]) bu72 zr72.2 ⟨_, rfl⟩ rfl ⟨_, _, _, _, rfl, Up.f (fs := [⟨1, false, (tE (.int .i64 0))⟩, ⟨1, false, (tE (.int .i64 0))⟩]) (f := ⟨1, false, (tE (.int .i64 0))⟩) (fs' := [⟨1, false, tI 12⟩, ⟨1, false, (tE (.int .i64 0))⟩]) 0 rfl rfl rfl, inferInstance, ⟨_, _, _, _, rfl, Up.f (fs := [⟨1, false, tI 12⟩, ⟨1, false, (tE (.int .i64 0))⟩]) (f := ⟨1, false, (tE (.int .i64 0))⟩) (fs' := [⟨1, false, tI 12⟩, ⟨1, false, tI 30⟩]) 1 rfl rfl rfl, inferInstance, Le.refl⟩⟩) rfl ⟨rfl, rfl, trivial⟩ trivial trivial (RGon rfl rfl (xe5 (n := 1) (f := tSn) [(⟨12, 30⟩ : Sn)] Tryz.underlying60 el72 zf72 rfl (fun _ => inferInstance) rfl rfl rfl) rfl ⟨rfl, trivial⟩ trivial trivial (RGon rfl rfl (xa0 (c_sameSv _ _ exDf) fi37 rfl) rfl ⟨rfl, rfl, trivial⟩ trivial trivial ?_)))))))
 refine R2 (xb3 rfl) rfl rfl (R1 x5 rfl (x7 (by kernel_rfl) (x4 (xa1 ?_))))
 exact xa6 Plain.mk' rfl rfl Le.refl
end An.S

/- Law 5: TimelineParts. -/
namespace An.S
open Go Go.Proofs An
set_option maxHeartbeats 2000000
theorem fi11 : FnI Tryz.prog 11 := ⟨_, Tryz.func11, by kernel_rfl, rfl⟩
theorem fi12 : FnI Tryz.prog 12 := ⟨_, Tryz.func12, by kernel_rfl, rfl⟩
theorem fi19 : FnI Tryz.prog 19 := ⟨_, Tryz.func19, by kernel_rfl, rfl⟩
/-- The days that are looked at. -/
def lkP (l : List Tst) (d p q : Int) : List Int := lkT l [] d ++ [p - 1, p, q - 1, q]
end An.S

/- Law 5: TimelineAdds. -/
namespace An.S
open Go Go.Proofs An
set_option maxHeartbeats 2000000
set_option maxRecDepth 100000
/-- So many 84ths. -/
abbrev f84 (n : Int) : Fr := fr (Rat.divInt n 84)
def ok84 (n : Int) : Prop := -9223372036854775808 ≤ n ∧ n ≤ 9223372036854775807
theorem short84 {n : Int} (h : ok84 n) : short (Rat.divInt n 84) := short_dv (by decide) h.1 h.2 (by decide)
theorem c_Add84 (x y : Int) (hx : ok84 x) (hy : ok84 y) (hs : ok84 (x + y)) : Ct Tryz.prog 25 [tFr (f84 x), tFr (f84 y)] (tT [tFr (f84 (x + y)), tI 0]) := by
  have h := c_FAdd (Rat.divInt x 84) (Rat.divInt y 84) (short84 hx) (short84 hy)
  rw [addG (by decide), resF, resFE, if_pos (short84 hs), if_pos (short84 hs)] at h; exact h
theorem kfr_one (n : Int) : kfr n 1 = (n : Rat) := by rw [kfr_big (by decide), int_div]
theorem c_Mul84 (f : Fr) (x n : Int) (hf : f = f84 x) (hx : ok84 x) (hn : ok84 n) (hs : ok84 (x * n)) : Ct Tryz.prog 28 [tFr f, tFr (fr (kfr n 1))] (tT [tFr (f84 (x * n)), tI 0]) := by
  have hsn : short (n : Rat) := by rw [int_div]; exact short_dv (by decide) hn.1 hn.2 (by decide)
  have h := c_FMul (Rat.divInt x 84) (n : Rat) (short84 hx) hsn
  rw [kfr_one, hf]
  rw [mulG, resF, resFE, if_pos (short84 hs), if_pos (short84 hs)] at h; exact h
theorem c_Sum84 {l : List Tst} (x y : Int) (h : isT l) (hl : l.length ≤ 200000) (hxy : Sn.ok ⟨x, y⟩ = true) : Ct Tryz.prog 24 [tL 8 true tTs l, tI x, tI y] (tT [tFr (f84 (gS (wt 84) l x y)), tI 0]) :=
  c_SumG x y (.inl rfl) (by decide) (by decide) (by decide) (by decide) h hl hxy
theorem gS_ok {l : List Tst} {x y : Int} (h : isT l) (hxy : Sn.ok ⟨x, y⟩ = true) : ok84 (gS (wt 84) l x y) := by
  have hb : 0 ≤ x ∧ x ≤ y ∧ y ≤ 65536 := by simpa [Sn.ok, and_assoc] using hxy
  have h1 := gS_bd (D := 84) (B := tB5) (a := x) (b := y) (by decide) h.asc h.out h.wt hb.2.1
  have h2 : tB5 * (y - x) ≤ 92358976733184 * 65536 := Int.mul_le_mul (by decide) (by omega) (by omega) (by decide)
  exact ⟨by omega, by omega⟩
theorem wsG_ok {l : List Tst} (h : isT l) (i : Nat) : ok84 (wsG (wt 84) (l.take i)) := by
  have sub : ∀ s ∈ l.take i, s ∈ l := fun s hs => List.mem_of_mem_take hs
  have hd := dsG_le (xs := l.take i) (c := 0) (e := 65536) ⟨fun s hs => h.asc.1 s (sub s hs), h.asc.2.sublist (List.take_sublist ..)⟩ (fun s hs => h.out s (sub s hs)) (by decide)
  have hbd := wsG_bd (w := wt 84) (B := tB5) (xs := l.take i) fun s hs => ⟨h.asc.1 s (sub s hs), (h.wt s (sub s hs)).2⟩
  have h2 : tB5 * dsG (l.take i) ≤ 92358976733184 * 65536 := Int.mul_le_mul (by decide) hd.2 hd.1 (by decide)
  exact ⟨by omega, by omega⟩
theorem wsG_next {w : Va → Int} {l : List Tst} {i : Nat} (hi : i < l.length) : wsG w (l.take (i + 1)) = wsG w (l.take i) + w (l.getD i tst0).v * ((l.getD i tst0).hi - (l.getD i tst0).lo) := sum_nxT hi
theorem gS_full {w : Va → Int} {l : List Tst} (h : ∀ s ∈ l, 0 ≤ s.lo ∧ s.lo < s.hi ∧ s.hi ≤ 65536) : gS w l 0 65536 = wsG w l := by
  rw [gS, wsG]
  congr 1
  refine List.map_congr_left fun s hs => ?_
  have h1 := h s hs
  have e : dyG 0 65536 s = s.hi - s.lo := by simp only [dyG]; omega
  rw [gS1, e, if_neg (by omega)]
theorem isG_one {K : Nat} {D B : Int} {l : List Tst} (h : isG K D B l) {s : Tst} (hs : s ∈ l) : isG K D B [s] := by
  have hb := h.bd s hs
  exact isG_of ⟨fun x hx => by rw [List.mem_singleton.1 hx]; omega, List.pairwise_singleton ..⟩ trivial fun x hx => by rw [List.mem_singleton.1 hx]; exact ⟨⟨by omega, by omega⟩, h.2 s hs⟩
theorem one_at {l : List Tst} {i : Nat} (hi : i < l.length) : (l.take (i + 1)).drop i = [l.getD i tst0] := by
  rw [List.take_succ_eq_append_getElem hi, List.drop_append_of_le_length (by simp; omega), List.drop_of_length_le (by simp; omega), List.getD_eq_getElem?_getD, List.getElem?_eq_getElem hi]; rfl
theorem gS_one {w : Va → Int} {s : Tst} (h : 0 ≤ s.lo ∧ s.lo < s.hi ∧ s.hi ≤ 65536) : gS w [s] 0 65536 = w s.v * (s.hi - s.lo) := by
  rw [gS_full fun x hx => by rw [List.mem_singleton.1 hx]; exact h]; simp [wsG]
theorem mul_ok {l : List Tst} (h : isT l) {s : Tst} (hs : s ∈ l) : ok84 (wt 84 s.v * (s.hi - s.lo)) := by
  rw [← gS_one (h.bd s hs)]; exact gS_ok (isG_one h hs) (by decide)
theorem c_TlAdds (m : List Nat) (hmm : ∀ i, m.getD i 0 < 65536) (x y z : Int) :
  Ct Tryz.prog 6 [tLm m, tI x, tI y, tI z] (tB true) := by
 obtain ⟨ha, hla⟩ := tbT_ok m
 have hbta := c_Built05 m hmm
 generalize tbT m = a at *
 obtain ⟨p, hp⟩ : ∃ z, z = (min (x % 65537) (y % 65537)) := ⟨_, rfl⟩
 obtain ⟨q, hq⟩ : ∃ z, z = (max (x % 65537) (y % 65537)) := ⟨_, rfl⟩
 have he1 := c_ends x y
 rw [← hp, ← hq] at he1
 have hb1 : 0 ≤ p ∧ p ≤ q ∧ q ≤ 65536 := by omega
 have ho1 : Sn.ok ⟨p, q⟩ = true := by simp [Sn.ok]; omega
 clear hp hq
 have hr1 := Int.emod_nonneg z (show q - p + 1 ≠ 0 by omega)
 have hr2 := Int.emod_lt_of_pos z (show 0 < q - p + 1 by omega)
 have hadd := gS_add (w := wt 84) (l := a) (a := p) (c := (p + z % (q - p + 1))) (b := q) (fun s hs => (ha.bd s hs).2.1) (by omega) (by omega)
 have hz := gS_zero (w := wt 84) (l := a) (a := (p + z % (q - p + 1))) (b := (p + z % (q - p + 1))) (Int.le_refl _)
 have k1 := gS_ok (x := p) (y := (p + z % (q - p + 1))) ha (by simp [Sn.ok]; omega)
 have k2 := gS_ok (x := (p + z % (q - p + 1))) (y := q) ha (by simp [Sn.ok]; omega)
 have k3 := gS_ok (x := p) (y := q) ha (by simp [Sn.ok]; omega)
 refine Ct.intro Tryz.func6 rfl Tryz.ntmps6 rfl ?_
 intro w F
 refine x6 ?_
 refine x8 ?_
 refine R1 x5 rfl (x7 (by kernel_rfl) (x4 (x6 (x6 ?_))))
 refine x8 ?_
 refine R0 (xa0 c_awake05 fi11 rfl)  (R1 xe4 rfl (x7 (by kernel_rfl) (x4 (C_bF rfl rfl (xa2 (x4 (x6 ?_)))))))
 refine x8 ?_
 refine R1 x3 rfl (R1 (xa0 hbta fi12 rfl) rfl (R1 x5 rfl (x7 (by kernel_rfl) (x4 (x6 ?_)))))
 refine x8 ?_
 refine R1 x3 rfl (R1 x3 rfl (R2 (xa0 he1 fi19 rfl) rfl rfl (R1 x3 rfl (R1 (xa4 rfl) rfl (R1 (xa4 rfl) rfl (R1 x5 rfl (R1 x5 rfl ?_)))))))
 refine x7 (by kernel_rfl) (x4 (x6 ?_))
 refine x8 ?_
 refine R1 x3 rfl (R1 x3 rfl (R1 x3 rfl (R1 x3 rfl (R2 (xe2 (wr64 (by omega) (by omega))) rfl rfl (R2 (xb7 (wr64 (by omega) (by omega))) rfl rfl (R2 (xa0 (c_Pick z (q - p + 1) (by omega) (by omega)) fi23 rfl) rfl rfl (R2 (xb7 (wr64 (by omega) (by omega))) rfl rfl ?_)))))))
 refine R1 x5 rfl (x7 (by kernel_rfl) (x4 (x6 ?_)))
 refine x8 ?_
 refine R1 x3 rfl (R1 x3 rfl (R1 x3 rfl (R3 (xa0 (c_Sum84 p (p + z % (q - p + 1)) ha (by omega) (by simp [Sn.ok]; omega)) fi24 rfl) rfl rfl rfl (R1 x3 rfl (R1 (xa4 rfl) rfl (R1 (xa4 rfl) rfl (RE (xb9 (k := 10) (n := 4) (agg := true) zr35.1 zr35.2 rfl) trivial trivial ⟨rfl, trivial⟩ ?_)))))))
 refine RE (xa3 (es := 4) (agg := true) (0) ti35 rfl rfl rfl) ⟨rfl, rfl, trivial⟩ ⟨rfl, trivial⟩ trivial (R1 x5 rfl (x7 (by kernel_rfl) (x4 (x6 ?_))))
 refine x8 ?_
 refine R1 x3 rfl (R1 x3 rfl (R1 x3 rfl (R3 (xa0 (c_Sum84 (p + z % (q - p + 1)) q ha (by omega) (by simp [Sn.ok]; omega)) fi24 rfl) rfl rfl rfl (R1 x3 rfl (R1 (xa4 rfl) rfl (R1 (xa4 rfl) rfl (RE (xb9 (k := 12) (n := 4) (agg := true) zr35.1 zr35.2 rfl) trivial trivial ⟨rfl, trivial⟩ ?_)))))))
 refine RE (xa3 (es := 4) (agg := true) (0) ti35 rfl rfl rfl) ⟨rfl, rfl, trivial⟩ ⟨rfl, trivial⟩ trivial (R1 x5 rfl (x7 (by kernel_rfl) (x4 (x6 ?_))))
 refine x8 ?_
 refine R1 x3 rfl (R1 x3 rfl (R1 x3 rfl (R3 (xa0 (c_Sum84 p q ha (by omega) (by simp [Sn.ok]; omega)) fi24 rfl) rfl rfl rfl (R1 x3 rfl (R1 (xa4 rfl) rfl (R1 (xa4 rfl) rfl (RE (xb9 (k := 14) (n := 4) (agg := true) zr35.1 zr35.2 rfl) trivial trivial ⟨rfl, trivial⟩ ?_)))))))
 refine RE (xa3 (es := 4) (agg := true) (0) ti35 rfl rfl rfl) ⟨rfl, rfl, trivial⟩ ⟨rfl, trivial⟩ trivial (R1 x5 rfl (x7 (by kernel_rfl) (x4 (x6 ?_))))
 refine x8 ?_
 refine RE (xb0 (0) ti35 rfl rfl) ⟨rfl, trivial⟩ ⟨rfl, trivial⟩ trivial (RE (xb0 (0) ti35 rfl rfl) ⟨rfl, trivial⟩ ⟨rfl, trivial⟩ trivial (R2 (xa0 (c_Add84 (gS (wt 84) a p (p + z % (q - p + 1))) (gS (wt 84) a (p + z % (q - p + 1)) q) k1 k2 (by rw [hadd]; exact k3)) fi25 rfl) rfl rfl (R1 x3 rfl (R1 (xa4 rfl) rfl (R1 (xa4 rfl) rfl (RE (xb9 (k := 16) (n := 4) (agg := true) zr35.1 zr35.2 rfl) trivial trivial ⟨rfl, trivial⟩ (RE (xa3 (es := 4) (agg := true) (0) ti35 rfl rfl rfl) ⟨rfl, rfl, trivial⟩ ⟨rfl, trivial⟩ trivial ?_)))))))
 refine R1 x5 rfl (x7 (by kernel_rfl) (x4 (x6 ?_)))
 refine x8 ?_
 refine R1 x3 rfl (R1 x3 rfl (R1 x3 rfl (R3 (xa0 (c_Sum84 (p + z % (q - p + 1)) (p + z % (q - p + 1)) ha (by omega) (by simp [Sn.ok]; omega)) fi24 rfl) rfl rfl rfl (R1 x3 rfl (R1 (xa4 rfl) rfl (R1 (xa4 rfl) rfl (RE (xb9 (k := 18) (n := 4) (agg := true) zr35.1 zr35.2 rfl) trivial trivial ⟨rfl, trivial⟩ ?_)))))))
 refine RE (xa3 (es := 4) (agg := true) (0) ti35 rfl rfl rfl) ⟨rfl, rfl, trivial⟩ ⟨rfl, trivial⟩ trivial (R1 x5 rfl (x7 (by kernel_rfl) (x4 (x6 (x6 ?_)))))
 refine xd7 mixed ?_
 refine R1 x3 rfl (R1 x3 rfl (R2 (xb7 (wr64 (by omega) (by omega))) rfl rfl (R1 x3 rfl (R2 (xb7 (wr64 (by omega) (by omega))) rfl rfl (R1 x3 rfl (R2 (xb7 (wr64 (by omega) (by omega))) rfl rfl (R1 x3 rfl ?_)))))))
 refine R2 (xb7 (wr64 (by omega) (by omega))) rfl rfl (R2 d_neq rfl rfl (R1 x3 rfl (RGon (decide_eq_false (by omega)) rfl (xb0 (0) ti35 rfl rfl) rfl ⟨rfl, trivial⟩ ⟨rfl, trivial⟩ trivial (RGon (decide_eq_false (by omega)) rfl (xb0 (0) ti35 rfl rfl) rfl ⟨rfl, trivial⟩ ⟨rfl, trivial⟩ trivial (RGon (decide_eq_false (by omega)) rfl (xa0 (c_sameFv _ _ (by rw [hadd])) fi26 rfl) rfl ⟨rfl, rfl, trivial⟩ trivial trivial (RGon (decide_eq_false (by omega)) rfl xe4 rfl ⟨rfl, trivial⟩ trivial trivial (R2 (xa9 (decide_eq_false (by omega))) rfl rfl ?_)))))))
 refine R1 x3 rfl (RGon rfl rfl (xb0 (0) ti35 rfl rfl) rfl ⟨rfl, trivial⟩ ⟨rfl, trivial⟩ trivial (RGon rfl rfl (xa0 (c_KFrac 0 1 (by omega) (by omega) (by omega) (by omega)) fi27 rfl) rfl ⟨rfl, rfl, trivial⟩ trivial trivial (RGon rfl rfl (xa0 (c_sameFv _ _ (by rw [hz]; decide +kernel)) fi26 rfl) rfl ⟨rfl, rfl, trivial⟩ trivial trivial (RGon rfl rfl xe4 rfl ⟨rfl, trivial⟩ trivial trivial (R2 (xa9 rfl) rfl rfl (xd3 (by kernel_rfl) (x4 ?_)))))))
 refine C_bF rfl rfl (xa2 (x4 (x6 ?_)))
 refine x8 ?_
 refine R2 (xa0 (c_KFrac 0 1 (by omega) (by omega) (by omega) (by omega)) fi27 rfl) rfl rfl (RE (xb9 (k := 20) (n := 4) (agg := true) zr35.1 zr35.2 rfl) trivial trivial ⟨rfl, trivial⟩ (RE (xa3 (es := 4) (agg := true) (0) ti35 rfl rfl rfl) ⟨rfl, rfl, trivial⟩ ⟨rfl, trivial⟩ trivial (x7 (by kernel_rfl) (x4 (x6 (x6 ?_))))))
 refine x8 ?_
 refine R1 x3 rfl (R1 (xc3 Tryz.underlying24) rfl (R1 x3 rfl (x7 (by kernel_rfl) (x4 (xb1 ?_)))))
 refine xe1 (fun (i : Nat) => i ≤ a.length) (fun (i : Nat) => upd (upd (upd (upd (upd (fun _ => none) 9 (some (.val (tL 8 true tTs a)))) 20 (some (.own (.ptr 20 0)))) 105 (some (.val (tL 8 true tTs a)))) 106 (some (.val (tI a.length)))) 107 (some (.val (tI i)))) (fun (i : Nat) => upd (fun _ => none) 20 (some (⟨35, 4, true, [.val (tFr (f84 (wsG (wt 84) (a.take i))))]⟩))) (nm [20]) (fun (i : Nat) => a.length - i) (0) (Nat.zero_le _) (Sub.int rfl (by first | omega | rfl | (dsimp only; omega)) (Sub.int rfl (by first | omega | rfl | (dsimp only; omega)) (Sub.cons rfl (Sub.cons rfl (Sub.cons rfl Sub.nil))))) ((SubK.consI rfl (ImpK.of (by rw [List.take_zero]; exact congrArg (fun f => (⟨35, 4, true, [.val (tFr f)]⟩ : HEnt)) (show fr (kfr 0 1) = f84 0 by decide +kernel)))) SubK.nil) (SupG.val (SupG.val (SupG.val (SupG.own rfl (SupG.val SupG.nil))))) (SupH.cons rfl (supJL rfl) SupH.nil) (lkOk rfl) ?_
 intro i hI
 refine x6 ?_
 refine x8 ?_
 refine R2 xe0 rfl rfl (x7 (by kernel_rfl) (x4 (x6 ?_)))
 refine xc1 rfl (fun h161 => ?_) (fun h161 => ?_)
 ·
  refine xa2 (x4 (x6 (xb1 (x6 ?_))))
  refine x8 ?_
  refine R1 x3 rfl (R1 x5 rfl (x7 (by kernel_rfl) (x4 (x6 ?_))))
  refine x8 ?_
  refine R1 x3 rfl (R1 x3 rfl (R1 x3 rfl (R2 (xb7 (wr64 (by omega) (by omega))) rfl rfl ?_)))
  have hs := xe8 (l := a) (i := i) (by omega)
  have hsb := ha.bd _ hs
  have hso := mul_ok ha hs
  have hsw := ha.wt _ hs
  have hsf := (ha.2 _ hs).1.2.2.2.1
  rw [hsw.1] at hsf
  refine R3 (d_sliceFT sl24 i (i + 1) rfl (by omega) (by omega) (by omega) (one_at (l := a) (by omega))) rfl rfl rfl (R3 (xa0 (c_Sum84 0 65536 (isG_one ha hs) (by simp) (by decide)) fi24 rfl) rfl rfl rfl (R1 x3 rfl (R1 (xa4 rfl) rfl (R1 (xa4 rfl) rfl (RE (xb9 (k := 22) (n := 4) (agg := true) zr35.1 zr35.2 rfl) trivial trivial ⟨rfl, trivial⟩ (RE (xa3 (es := 4) (agg := true) (0) ti35 rfl rfl rfl) ⟨rfl, rfl, trivial⟩ ⟨rfl, trivial⟩ trivial (R1 x5 rfl ?_)))))))
  refine x7 (by kernel_rfl) (x4 (x6 ?_))
  refine xd7 mixed ?_
  refine R1 x3 rfl (R1 x3 rfl (R2 (xb4 sl24 (i) (by omega) (gD (l := a) (n := i) (d := tst0) (by omega))) rfl rfl (R1 (xf5 fo56_2 (At.f 2 rfl rfl) rfl) rfl (R1 (xf5 fo37_1 (At.f 1 rfl rfl) rfl) rfl (R1 (xc0 ti35) rfl (R1 x3 rfl (R1 x3 rfl ?_)))))))
  refine R2 (xb4 sl24 (i) (by omega) (gD (l := a) (n := i) (d := tst0) (by omega))) rfl rfl (R1 (xf5 fo56_1 (At.f 1 rfl rfl) rfl) rfl (R1 (xc0 ti3) rfl (R1 x3 rfl (R1 x3 rfl (R2 (xb4 sl24 (i) (by omega) (gD (l := a) (n := i) (d := tst0) (by omega))) rfl rfl (R1 (xf5 fo56_0 (At.f 0 rfl rfl) rfl) rfl (R1 (xc0 ti3) rfl ?_)))))))
  refine R2 (xe2 (wr64 (by omega) (by omega))) rfl rfl (R2 (xa0 (c_KFrac ((a.getD i tst0).hi - (a.getD i tst0).lo) 1 (by omega) (by omega) (by omega) (by omega)) fi27 rfl) rfl rfl (R2 (xa0 (c_Mul84 (a.getD i tst0).v.f (wt 84 (a.getD i tst0).v) ((a.getD i tst0).hi - (a.getD i tst0).lo) hsf ⟨by have := hsw.2.1; simp only [tB5] at this; omega, by have := hsw.2.2; simp only [tB5] at this; omega⟩ ⟨by omega, by omega⟩ hso) fi28 rfl) rfl rfl (R1 x3 rfl (R1 (xa4 rfl) rfl (R1 (xa4 rfl) rfl (RE (xb9 (k := 24) (n := 4) (agg := true) zr35.1 zr35.2 rfl) trivial trivial ⟨rfl, trivial⟩ (RE (xa3 (es := 4) (agg := true) (0) ti35 rfl rfl rfl) ⟨rfl, rfl, trivial⟩ ⟨rfl, trivial⟩ trivial ?_)))))))
  refine R1 x5 rfl (xd3 (by kernel_rfl) (x4 (x6 ?_)))
  refine x8 ?_
  refine RE (xb0 (0) ti35 rfl rfl) ⟨rfl, trivial⟩ ⟨rfl, trivial⟩ trivial (RE (xb0 (0) ti35 rfl rfl) ⟨rfl, trivial⟩ ⟨rfl, trivial⟩ trivial (R2 (xa0 (c_Add84 (wsG (wt 84) (a.take i)) (gS (wt 84) [(a.getD i tst0)] 0 65536) (wsG_ok ha i) (by rw [gS_one hsb]; exact hso) (by rw [gS_one hsb, ← wsG_next (by omega)]; exact wsG_ok ha (i + 1))) fi25 rfl) rfl rfl (R1 x3 rfl (R1 (xa4 rfl) rfl (R1 (xa4 rfl) rfl (RE (xb9 (k := 26) (n := 4) (agg := true) zr35.1 zr35.2 rfl) trivial trivial ⟨rfl, trivial⟩ (RE (xa3 (es := 4) (agg := true) (0) ti35 rfl rfl rfl) ⟨rfl, rfl, trivial⟩ ⟨rfl, trivial⟩ trivial ?_)))))))
  refine R1 x5 rfl (x7 (by kernel_rfl) (x4 (x6 (x6 ?_))))
  refine x8 ?_
  refine R1 x3 rfl (R1 x3 rfl (R2 (xb7 (wr64 (by omega) (by omega))) rfl rfl (R1 x3 rfl (R2 (xb7 (wr64 (by omega) (by omega))) rfl rfl (R2 d_neq rfl rfl (R1 x3 rfl (RGon (decide_eq_false (by omega)) rfl (xb0 (0) ti35 rfl rfl) rfl ⟨rfl, trivial⟩ ⟨rfl, trivial⟩ trivial ?_)))))))
  refine RGon (decide_eq_false (by omega)) rfl (xb0 (0) ti35 rfl rfl) rfl ⟨rfl, trivial⟩ ⟨rfl, trivial⟩ trivial (RGon (decide_eq_false (by omega)) rfl (xa0 (c_sameFv _ _ (by rw [gS_one hsb])) fi26 rfl) rfl ⟨rfl, rfl, trivial⟩ trivial trivial (RGon (decide_eq_false (by omega)) rfl xe4 rfl ⟨rfl, trivial⟩ trivial trivial (R2 (xa9 (decide_eq_false (by omega))) rfl rfl (x7 (by kernel_rfl) (x4 (C_bF rfl rfl (xa2 ?_)))))))
  refine x4 ?_
  refine x8 ?_
  refine RE (xb0 (0) ti35 rfl rfl) ⟨rfl, trivial⟩ ⟨rfl, trivial⟩ trivial (RE (xa3 (es := 4) (agg := true) (0) ti35 rfl rfl rfl) ⟨rfl, rfl, trivial⟩ ⟨rfl, trivial⟩ trivial (x7 (by kernel_rfl) (xc2 (x4 ?_))))
  refine x8 ?_
  refine R2 (xb7 (wr64 (by omega) (by omega))) rfl rfl (R1 x3 rfl (x7 (by kernel_rfl) ?_))
  exact xc5 (i + 1) ⟨(by omega), (by omega)⟩ (Sub.int rfl (by first | omega | rfl | (dsimp only; omega)) (Sub.int rfl (by first | omega | rfl | (dsimp only; omega)) (Sub.cons rfl (Sub.cons rfl (Sub.cons rfl Sub.nil))))) ((SubK.consI rfl (ImpK.of (by rw [wsG_next (by omega), gS_one hsb]; rfl))) SubK.nil) (SupG.val (SupG.val (SupG.val (SupG.own rfl (SupG.val SupG.nil))))) (SupH.cons rfl (supJL rfl) SupH.nil) (lkOk rfl)
 ·
  refine xd1 (xb8 (xb8 (xd8 (x4 (x6 ?_)))))
  refine x8 ?_
  refine R1 x3 rfl (R3 (xa0 (c_Sum84 0 65536 ha (by omega) (by decide)) fi24 rfl) rfl rfl rfl (R1 x3 rfl (R1 (xa4 rfl) rfl (R1 (xa4 rfl) rfl (RE (xb9 (k := 28) (n := 4) (agg := true) zr35.1 zr35.2 rfl) trivial trivial ⟨rfl, trivial⟩ (RE (xa3 (es := 4) (agg := true) (0) ti35 rfl rfl rfl) ⟨rfl, rfl, trivial⟩ ⟨rfl, trivial⟩ trivial (R1 x5 rfl ?_)))))))
  refine x7 (by kernel_rfl) (x4 (x6 ?_))
  refine x8 ?_
  refine R1 x3 rfl (R2 xe6 rfl rfl (R1 x3 rfl (RGon (decide_eq_true (by omega)) rfl (xb0 (0) ti35 rfl rfl) rfl ⟨rfl, trivial⟩ ⟨rfl, trivial⟩ trivial (RGon (decide_eq_true (by omega)) rfl (xb0 (0) ti35 rfl rfl) rfl ⟨rfl, trivial⟩ ⟨rfl, trivial⟩ trivial (RGon (decide_eq_true (by omega)) rfl (xa0 (c_sameFv _ _ (by rw [gS_full ha.bd, show i = a.length by omega, List.take_length])) fi26 rfl) rfl ⟨rfl, rfl, trivial⟩ trivial trivial (R2 (xb3 (decide_eq_true (by omega))) rfl rfl (R1 x5 rfl ?_)))))))
  refine x7 (by kernel_rfl) (x4 (xa1 ?_))
  exact xa6 Plain.mk' rfl rfl Le.refl
end An.S
