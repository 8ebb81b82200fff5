/- Part 6 of a proof: P3, O5, P4, P6, S17, S18, Sv2, P9. -/
import Derived.Test.YtnacfpmbanimpaaGreatChecked
import Derived.Test.YtnacfpmbanimpaaGreatCv5
/- Law 5: timelines are built; days and values without the program. -/
namespace An.S
open Go Go.Proofs An
set_option maxHeartbeats 2000000
theorem ti47 : TyI Tryz.prog 47 2 true := ⟨by kernel_rfl, by kernel_rfl⟩
theorem fi18 : FnI Tryz.prog 18 := ⟨_, Tryz.func18, by kernel_rfl, rfl⟩
theorem fi29 : FnI Tryz.prog 29 := ⟨_, Tryz.func29, by kernel_rfl, rfl⟩
theorem fi40 : FnI Tryz.prog 40 := ⟨_, Tryz.func40, by kernel_rfl, rfl⟩
theorem fi56 : FnI Tryz.prog 56 := ⟨_, Tryz.func56, by kernel_rfl, rfl⟩
theorem zr47 : (Tryz.prog.info? 47).bind (·.zero) = some (.agg #[.int .i64 0, .int .i64 0]) ∧ ∀ F w, (tS [⟨1, false, (tE (.int .i64 0))⟩, ⟨1, false, (tE (.int .i64 0))⟩]).p F w (.agg #[.int .i64 0, .int .i64 0]) := ⟨by kernel_rfl, fun _ _ => ⟨_, rfl, rfl, ⟨fun _ => rfl, rfl⟩, ⟨fun _ => rfl, rfl⟩, trivial⟩⟩
theorem zr113 : (Tryz.prog.info? 113).bind (·.zero) = some (.agg #[.int .i64 0, .int .i64 0, .int .i64 0, .int .i64 0, .int .i64 0, .int .i64 0, .int .i64 0, .int .i64 0, .int .i64 0, .int .i64 0, .int .i64 0, .int .i64 0, .int .i64 0, .int .i64 0, .int .i64 0, .int .i64 0]) ∧ ∀ F w, (tS [⟨2, true, (tS [⟨1, false, (tE (.int .i64 0))⟩, ⟨1, false, (tE (.int .i64 0))⟩])⟩, ⟨2, true, (tS [⟨1, false, (tE (.int .i64 0))⟩, ⟨1, false, (tE (.int .i64 0))⟩])⟩, ⟨2, true, (tS [⟨1, false, (tE (.int .i64 0))⟩, ⟨1, false, (tE (.int .i64 0))⟩])⟩, ⟨2, true, (tS [⟨1, false, (tE (.int .i64 0))⟩, ⟨1, false, (tE (.int .i64 0))⟩])⟩, ⟨2, true, (tS [⟨1, false, (tE (.int .i64 0))⟩, ⟨1, false, (tE (.int .i64 0))⟩])⟩, ⟨2, true, (tS [⟨1, false, (tE (.int .i64 0))⟩, ⟨1, false, (tE (.int .i64 0))⟩])⟩, ⟨2, true, (tS [⟨1, false, (tE (.int .i64 0))⟩, ⟨1, false, (tE (.int .i64 0))⟩])⟩, ⟨2, true, (tS [⟨1, false, (tE (.int .i64 0))⟩, ⟨1, false, (tE (.int .i64 0))⟩])⟩]).p F w (.agg #[.int .i64 0, .int .i64 0, .int .i64 0, .int .i64 0, .int .i64 0, .int .i64 0, .int .i64 0, .int .i64 0, .int .i64 0, .int .i64 0, .int .i64 0, .int .i64 0, .int .i64 0, .int .i64 0, .int .i64 0, .int .i64 0]) := ⟨by kernel_rfl, fun _ _ => ⟨_, rfl, rfl, ⟨fun h => Bool.noConfusion h, ⟨_, rfl, rfl, ⟨fun _ => rfl, rfl⟩, ⟨fun _ => rfl, rfl⟩, trivial⟩⟩, ⟨fun h => Bool.noConfusion h, ⟨_, rfl, rfl, ⟨fun _ => rfl, rfl⟩, ⟨fun _ => rfl, rfl⟩, trivial⟩⟩, ⟨fun h => Bool.noConfusion h, ⟨_, rfl, rfl, ⟨fun _ => rfl, rfl⟩, ⟨fun _ => rfl, rfl⟩, trivial⟩⟩, ⟨fun h => Bool.noConfusion h, ⟨_, rfl, rfl, ⟨fun _ => rfl, rfl⟩, ⟨fun _ => rfl, rfl⟩, trivial⟩⟩, ⟨fun h => Bool.noConfusion h, ⟨_, rfl, rfl, ⟨fun _ => rfl, rfl⟩, ⟨fun _ => rfl, rfl⟩, trivial⟩⟩, ⟨fun h => Bool.noConfusion h, ⟨_, rfl, rfl, ⟨fun _ => rfl, rfl⟩, ⟨fun _ => rfl, rfl⟩, trivial⟩⟩, ⟨fun h => Bool.noConfusion h, ⟨_, rfl, rfl, ⟨fun _ => rfl, rfl⟩, ⟨fun _ => rfl, rfl⟩, trivial⟩⟩, ⟨fun h => Bool.noConfusion h, ⟨_, rfl, rfl, ⟨fun _ => rfl, rfl⟩, ⟨fun _ => rfl, rfl⟩, trivial⟩⟩, trivial⟩⟩
theorem bu47 : BuI Tryz.prog 47 (fun i => some (i * 1, 1)) (.agg #[.int .i64 0, .int .i64 0]) := BuI.array Tryz.underlying47 ti3 zr47.1
theorem bu113 : BuI Tryz.prog 113 (fun i => some (i * 2, 2)) (.agg #[.int .i64 0, .int .i64 0, .int .i64 0, .int .i64 0, .int .i64 0, .int .i64 0, .int .i64 0, .int .i64 0, .int .i64 0, .int .i64 0, .int .i64 0, .int .i64 0, .int .i64 0, .int .i64 0, .int .i64 0, .int .i64 0]) := BuI.array Tryz.underlying113 ti47 zr113.1
theorem ar47 : ArI Tryz.prog 47 3 2 1 false := ⟨by kernel_rfl, ti3⟩
theorem c_SameStep (x y : Tst) :
  Ct Tryz.prog 56 [tTs x, tTs y] (tB (decide (x = y))) := by
 refine Ct.intro Tryz.func56 rfl Tryz.ntmps56 rfl ?_
 intro w F
 refine x6 ?_
 refine x8 ?_
 refine RE (xd8 (k := 2) ti56 rfl) ⟨rfl, trivial⟩ trivial ⟨rfl, trivial⟩ (RE (xd8 (k := 3) ti56 rfl) ⟨rfl, trivial⟩ trivial ⟨rfl, trivial⟩ (R1 x5 rfl (x7 (by kernel_rfl) (x4 (x6 ?_)))))
 refine x8 ?_
 refine R1 (x9 fo56_0 rfl) rfl (xa5 (0) ti3 rfl rfl rfl (At.g 0 rfl rfl) rfl (R1 (x9 fo56_0 rfl) rfl (xa5 (0) ti3 rfl rfl rfl (At.g 0 rfl rfl) rfl (R2 xe5 rfl rfl (R1 x3 rfl ?_)))))
 refine RGcaseD (t := 10) rfl (fun h196 => ?_) (fun h196 => ?_)
 ·
  refine RGon (decide_eq_true h196) rfl (x9 fo56_1 rfl) rfl ⟨rfl, trivial⟩ trivial trivial (xb7 (decide_eq_true h196) rfl rfl (0) ti3 rfl rfl rfl (At.g 1 rfl rfl) rfl (RGon (decide_eq_true h196) rfl (x9 fo56_1 rfl) rfl ⟨rfl, trivial⟩ trivial trivial (xb7 (decide_eq_true h196) rfl rfl (0) ti3 rfl rfl rfl (At.g 1 rfl rfl) rfl (RGon (decide_eq_true h196) rfl xe5 rfl ⟨rfl, rfl, trivial⟩ trivial trivial (R2 (xb2 (decide_eq_true h196)) rfl rfl (R1 x3 rfl ?_))))))
  refine RGcaseD (t := 17) rfl (fun h196_2 => ?_) (fun h196_2 => ?_)
  ·
   refine RGon (decide_eq_true h196_2) rfl (x9 fo56_2 rfl) rfl ⟨rfl, trivial⟩ trivial trivial (xb7 (decide_eq_true h196_2) rfl rfl (0) ti37 rfl rfl rfl (At.g 2 rfl rfl) rfl (RGon (decide_eq_true h196_2) rfl (x9 fo56_2 rfl) rfl ⟨rfl, trivial⟩ trivial trivial (xb7 (decide_eq_true h196_2) rfl rfl (0) ti37 rfl rfl rfl (At.g 2 rfl rfl) rfl (RGon (decide_eq_true h196_2) rfl (xa0 (c_SameValue _ _) fi18 rfl) rfl ⟨rfl, rfl, trivial⟩ trivial trivial (R2 (xb2 (decide_eq_true h196_2)) rfl rfl (R1 x5 rfl (x7 (by kernel_rfl) ?_)))))))
   refine x4 (xa1 ?_)
   exact xa6 Plain.mk' rfl rfl (Le.bool (by obtain ⟨a, b, e⟩ := x; obtain ⟨c, d, f⟩ := y; simp only [Tst.mk.injEq] at *; simp_all <;> omega))
  ·
   refine RGoff (decide_eq_false h196_2) rfl rfl (RGoff (decide_eq_false h196_2) rfl rfl (RGoff (decide_eq_false h196_2) rfl rfl (RGoff (decide_eq_false h196_2) rfl rfl (RGoff (decide_eq_false h196_2) rfl rfl (R2 (xa7 (decide_eq_false h196_2)) rfl rfl (R1 x5 rfl (x7 (by kernel_rfl) ?_)))))))
   refine x4 (xa1 ?_)
   exact xa6 Plain.mk' rfl rfl (Le.bool (by obtain ⟨a, b, e⟩ := x; obtain ⟨c, d, f⟩ := y; simp only [Tst.mk.injEq] at *; simp_all <;> omega))
 ·
  refine RGoff (decide_eq_false h196) rfl rfl (RGoff (decide_eq_false h196) rfl rfl (RGoff (decide_eq_false h196) rfl rfl (RGoff (decide_eq_false h196) rfl rfl (RGoff (decide_eq_false h196) rfl rfl (R2 (xa7 (decide_eq_false h196)) rfl rfl (R1 x3 rfl (RGoff0 rfl rfl ?_)))))))
  refine RGoff0 rfl rfl (RGoff0 rfl rfl (RGoff0 rfl rfl (RGoff0 rfl rfl (R2 (xa7 rfl) rfl rfl (R1 x5 rfl (x7 (by kernel_rfl) (x4 ?_)))))))
  refine xa1 ?_
  exact xa6 Plain.mk' rfl rfl (Le.bool (by obtain ⟨a, b, e⟩ := x; obtain ⟨c, d, f⟩ := y; simp only [Tst.mk.injEq] at *; simp_all <;> omega))
theorem take_succ_getT (l : List Tst) (k : Nat) (hk : k < l.length) : l.take (k + 1) = l.take k ++ [l.getD k tst0] := by
  rw [List.take_succ_eq_append_getElem hk, List.getD_eq_getElem?_getD, List.getElem?_eq_getElem hk]; rfl
theorem take_succ_getI (l : List Int) (k : Nat) (hk : k < l.length) : l.take (k + 1) = l.take k ++ [l.getD k 0] := by
  rw [List.take_succ_eq_append_getElem hk, List.getD_eq_getElem?_getD, List.getElem?_eq_getElem hk]; rfl
theorem c_SameSteps (xs ys : List Tst) :
  Ct Tryz.prog 22 [tL 8 true tTs xs, tL 8 true tTs ys] (tB (decide (xs = ys))) := by
 refine Ct.intro Tryz.func22 rfl Tryz.ntmps22 rfl ?_
 intro w F
 refine C_len (s := 0) rfl (fun hl0 => ?_)
 refine x6 ?_
 refine x8 ?_
 refine R1 x5 rfl (x7 (by kernel_rfl) (x4 (x6 (x6 ?_))))
 refine x8 ?_
 refine R1 x3 rfl (R1 (xc3 Tryz.underlying24) rfl (R1 x3 rfl (R1 (xc3 Tryz.underlying24) rfl (R2 d_neq rfl rfl (x7 (by kernel_rfl) (x4 ?_))))))
 refine xc1 rfl (fun h206 => ?_) (fun h206 => ?_)
 ·
  refine x6 ?_
  refine x8 ?_
  refine R1 x5 rfl (x7 (by kernel_rfl) (x4 (xa1 (xa3 ?_))))
  exact xa6 Plain.mk' rfl rfl (Le.bool (decide_eq_false (fun h => by rw [h] at h206; omega)).symm)
 ·
  have hll : xs.length = ys.length := by omega
  refine xa2 (x4 (x6 (x6 ?_)))
  refine x8 ?_
  refine R1 x5 rfl (x7 (by kernel_rfl) (x4 (xa9 ?_)))
  refine xd6 (fun (i : Nat) => i ≤ xs.length ∧ xs.take i = ys.take i) (fun (i : Nat) => upd (upd (upd (fun _ => none) 0 (some (.val (tL 8 true tTs xs)))) 1 (some (.val (tL 8 true tTs ys)))) 5 (some (.val (tI i)))) (fun (i : Nat) => fun _ => none) (nm []) (fun (i : Nat) => xs.length - i) (0) ⟨Nat.zero_le _, rfl⟩ (Sub.int rfl (by first | omega | rfl | (dsimp only; omega)) (Sub.cons rfl (Sub.cons rfl Sub.nil))) SubK.nil (SupG.val (SupG.val (SupG.val SupG.nil))) SupH.nil (lkOk rfl) ?_
  intro i hI
  obtain ⟨hi, ht⟩ := hI
  refine x6 (x6 ?_)
  refine x8 ?_
  refine R1 x3 rfl (R1 x3 rfl (R1 (xc3 Tryz.underlying24) rfl (R2 xd2 rfl rfl (x7 (by kernel_rfl) (x4 ?_)))))
  refine xc1 rfl (fun h209 => ?_) (fun h209 => ?_)
  ·
   refine xa2 (x4 (x6 (xa9 (x6 ?_))))
   refine xe1 mixed ?_
   refine R1 x3 rfl (R1 x3 rfl (R2 (xb3 sl24 i (by omega) (gD (d := tst0) (by omega))) rfl rfl (R1 (xb8 ti56) rfl (R1 x3 rfl (R1 x3 rfl (R2 (xb3 sl24 i (by omega) (gD (d := tst0) (by omega))) rfl rfl (R1 (xb8 ti56) rfl ?_)))))))
   refine R2 (xa0 (c_SameStep _ _) fi56 rfl) rfl rfl (R1 xe2 rfl (xd4 (by kernel_rfl) (x4 ?_)))
   refine C_ifn rfl (fun h210 => ?_) (fun h210 => ?_)
   ·
    refine x6 ?_
    refine x8 ?_
    refine R1 x5 rfl (x7 (by kernel_rfl) (x4 (xa1 (xc5 (xa3 (xa3 (xc5 ?_)))))))
    refine xa3 ?_
    exact xa6 Plain.mk' rfl rfl (Le.bool (decide_eq_false (fun h => by rw [h] at h210; exact (h210 rfl))).symm)
   ·
    refine xa2 (xc0 (x4 ?_))
    refine x8 ?_
    refine R1 x3 rfl (R2 (xb9 (wr64 (by omega) (by omega))) rfl rfl (R1 x5 rfl (x7 (by kernel_rfl) ?_)))
    exact xb6 (i + 1) ⟨⟨by omega, by rw [take_succ_getT xs i (by omega), take_succ_getT ys i (by omega), ht, show xs.getD i tst0 = ys.getD i tst0 from h210]⟩, (by omega)⟩ (Sub.int rfl (by first | omega | rfl | (dsimp only; omega)) (Sub.cons rfl (Sub.cons rfl Sub.nil))) SubK.nil (SupG.val (SupG.val (SupG.val SupG.nil))) SupH.nil (lkOk rfl)
  ·
   refine xd0 (xb5 (xb5 (xd5 (x4 (x6 ?_)))))
   refine x8 ?_
   refine R1 x5 rfl (x7 (by kernel_rfl) (x4 (xa1 ?_)))
   exact xa6 Plain.mk' rfl rfl (Le.bool (decide_eq_true (by rw [show i = xs.length by omega, List.take_length, hll, List.take_length] at ht; exact ht)).symm)
theorem c_SameInts (xs ys : List Int) :
  Ct Tryz.prog 45 [tL 1 false tI xs, tL 1 false tI ys] (tB (decide (xs = ys))) := by
 refine Ct.intro Tryz.func45 rfl Tryz.ntmps45 rfl ?_
 intro w F
 refine C_len (s := 0) rfl (fun hl0 => ?_)
 refine x6 ?_
 refine x8 ?_
 refine R1 x5 rfl (x7 (by kernel_rfl) (x4 (x6 (x6 ?_))))
 refine x8 ?_
 refine R1 x3 rfl (R1 (xc3 Tryz.underlying30) rfl (R1 x3 rfl (R1 (xc3 Tryz.underlying30) rfl (R2 d_neq rfl rfl (x7 (by kernel_rfl) (x4 ?_))))))
 refine xc1 rfl (fun h27 => ?_) (fun h27 => ?_)
 ·
  refine x6 ?_
  refine x8 ?_
  refine R1 x5 rfl (x7 (by kernel_rfl) (x4 (xa1 (xa3 ?_))))
  exact xa6 Plain.mk' rfl rfl (Le.bool (decide_eq_false (fun h => by rw [h] at h27; omega)).symm)
 ·
  have hll : xs.length = ys.length := by omega
  refine xa2 (x4 (x6 (x6 ?_)))
  refine x8 ?_
  refine R1 x5 rfl (x7 (by kernel_rfl) (x4 (xa9 ?_)))
  refine xd6 (fun (i : Nat) => i ≤ xs.length ∧ xs.take i = ys.take i) (fun (i : Nat) => upd (upd (upd (fun _ => none) 0 (some (.val (tL 1 false tI xs)))) 1 (some (.val (tL 1 false tI ys)))) 5 (some (.val (tI i)))) (fun (i : Nat) => fun _ => none) (nm []) (fun (i : Nat) => xs.length - i) (0) ⟨Nat.zero_le _, rfl⟩ (Sub.int rfl (by first | omega | rfl | (dsimp only; omega)) (Sub.cons rfl (Sub.cons rfl Sub.nil))) SubK.nil (SupG.val (SupG.val (SupG.val SupG.nil))) SupH.nil (lkOk rfl) ?_
  intro i hI
  obtain ⟨hi, ht⟩ := hI
  refine x6 (x6 ?_)
  refine x8 ?_
  refine R1 x3 rfl (R1 x3 rfl (R1 (xc3 Tryz.underlying30) rfl (R2 xd2 rfl rfl (x7 (by kernel_rfl) (x4 ?_)))))
  refine xc1 rfl (fun h30 => ?_) (fun h30 => ?_)
  ·
   refine xa2 (x4 (x6 (xa9 (x6 ?_))))
   refine xe1 mixed ?_
   refine R1 x3 rfl (R1 x3 rfl (R2 (xb3 sl30 i (by omega) (gD (d := 0) (by omega))) rfl rfl (R1 (xb8 ti3) rfl (R1 x3 rfl (R1 x3 rfl (R2 (xb3 sl30 i (by omega) (gD (d := 0) (by omega))) rfl rfl (R1 (xb8 ti3) rfl ?_)))))))
   refine R2 d_neq rfl rfl (xd4 (by kernel_rfl) (x4 ?_))
   refine xc1 rfl (fun h31 => ?_) (fun h31 => ?_)
   ·
    refine x6 ?_
    refine x8 ?_
    refine R1 x5 rfl (x7 (by kernel_rfl) (x4 (xa1 (xc5 (xa3 (xa3 (xc5 ?_)))))))
    refine xa3 ?_
    exact xa6 Plain.mk' rfl rfl (Le.bool (decide_eq_false (fun h => by rw [h] at h31; exact (h31 rfl))).symm)
   ·
    refine xa2 (xc0 (x4 ?_))
    refine x8 ?_
    refine R1 x3 rfl (R2 (xb9 (wr64 (by omega) (by omega))) rfl rfl (R1 x5 rfl (x7 (by kernel_rfl) ?_)))
    exact xb6 (i + 1) ⟨⟨by omega, by rw [take_succ_getI xs i (by omega), take_succ_getI ys i (by omega), ht, show xs.getD i 0 = ys.getD i 0 from (Decidable.of_not_not h31)]⟩, (by omega)⟩ (Sub.int rfl (by first | omega | rfl | (dsimp only; omega)) (Sub.cons rfl (Sub.cons rfl Sub.nil))) SubK.nil (SupG.val (SupG.val (SupG.val SupG.nil))) SupH.nil (lkOk rfl)
  ·
   refine xd0 (xb5 (xb5 (xd5 (x4 (x6 ?_)))))
   refine x8 ?_
   refine R1 x5 rfl (x7 (by kernel_rfl) (x4 (xa1 ?_)))
   exact xa6 Plain.mk' rfl rfl (Le.bool (decide_eq_true (by rw [show i = xs.length by omega, List.take_length, hll, List.take_length] at ht; exact ht)).symm)
theorem xh5 (a b n d : Int) (h1 : -9223372036854775808 ≤ n) (h2 : n ≤ 9223372036854775807) (h3 : -9223372036854775808 ≤ d) (h4 : d ≤ 9223372036854775807) :
  Ct Tryz.prog 44 [tI a, tI b, tI n, tI d] (tTs ⟨a, b, ⟨2, fr (kfr n d), 0⟩⟩) := by
 refine Ct.intro Tryz.func44 rfl Tryz.ntmps44 rfl ?_
 intro w F
 refine x6 ?_
 refine x8 ?_
 refine RE (xc4 (k := 8) (n := 8) (agg := true) zr56.1 zr56.2 rfl) trivial trivial ⟨rfl, trivial⟩ (x7 (by kernel_rfl) (x4 (x6 ?_)))
 refine x8 ?_
 refine R1 x3 rfl (R1 x3 rfl (R1 x3 rfl (R1 x3 rfl (R2 (xa0 (c_Num n d h1 h2 h3 h4) fi29 rfl) rfl rfl (R3 (xc7 (r := tS [⟨1, false, tI a⟩, ⟨1, false, tI b⟩, ⟨6, true, tVa ⟨2, fr (kfr n d), 0⟩⟩]) (ts := [(0, tI a), (1, tI b), (2, tVa ⟨2, fr (kfr n d), 0⟩)]) bu56 zr56.2 ⟨_, rfl⟩ rfl ⟨_, _, _, _, rfl, Up.f (fs := [⟨1, false, (tE (.int .i64 0))⟩, ⟨1, false, (tE (.int .i64 0))⟩, ⟨6, true, (tS [⟨1, false, (tE (.int .u8 0))⟩, ⟨4, true, (tS [⟨2, true, (tS [⟨1, false, (tE (.bool false))⟩, ⟨1, false, (tLm [])⟩])⟩, ⟨2, true, (tS [⟨1, false, (tE (.bool false))⟩, ⟨1, false, (tLm [])⟩])⟩])⟩, ⟨1, false, (tE (.int .i64 0))⟩])⟩]) (f := ⟨1, false, (tE (.int .i64 0))⟩) (fs' := [⟨1, false, tI a⟩, ⟨1, false, (tE (.int .i64 0))⟩, ⟨6, true, (tS [⟨1, false, (tE (.int .u8 0))⟩, ⟨4, true, (tS [⟨2, true, (tS [⟨1, false, (tE (.bool false))⟩, ⟨1, false, (tLm [])⟩])⟩, ⟨2, true, (tS [⟨1, false, (tE (.bool false))⟩, ⟨1, false, (tLm [])⟩])⟩])⟩, ⟨1, false, (tE (.int .i64 0))⟩])⟩]) 0 rfl rfl rfl, inferInstance, ⟨_, _, _, _, rfl, Up.f (fs := [⟨1, false, tI a⟩, ⟨1, false, (tE (.int .i64 0))⟩, ⟨6, true, (tS [⟨1, false, (tE (.int .u8 0))⟩, ⟨4, true, (tS [⟨2, true, (tS [⟨1, false, (tE (.bool false))⟩, ⟨1, false, (tLm [])⟩])⟩, ⟨2, true, (tS [⟨1, false, (tE (.bool false))⟩, ⟨1, false, (tLm [])⟩])⟩])⟩, ⟨1, false, (tE (.int .i64 0))⟩])⟩]) (f := ⟨1, false, (tE (.int .i64 0))⟩) (fs' := [⟨1, false, tI a⟩, ⟨1, false, tI b⟩, ⟨6, true, (tS [⟨1, false, (tE (.int .u8 0))⟩, ⟨4, true, (tS [⟨2, true, (tS [⟨1, false, (tE (.bool false))⟩, ⟨1, false, (tLm [])⟩])⟩, ⟨2, true, (tS [⟨1, false, (tE (.bool false))⟩, ⟨1, false, (tLm [])⟩])⟩])⟩, ⟨1, false, (tE (.int .i64 0))⟩])⟩]) 1 rfl rfl rfl, inferInstance, ⟨_, _, _, _, rfl, Up.f (fs := [⟨1, false, tI a⟩, ⟨1, false, tI b⟩, ⟨6, true, (tS [⟨1, false, (tE (.int .u8 0))⟩, ⟨4, true, (tS [⟨2, true, (tS [⟨1, false, (tE (.bool false))⟩, ⟨1, false, (tLm [])⟩])⟩, ⟨2, true, (tS [⟨1, false, (tE (.bool false))⟩, ⟨1, false, (tLm [])⟩])⟩])⟩, ⟨1, false, (tE (.int .i64 0))⟩])⟩]) (f := ⟨6, true, (tS [⟨1, false, (tE (.int .u8 0))⟩, ⟨4, true, (tS [⟨2, true, (tS [⟨1, false, (tE (.bool false))⟩, ⟨1, false, (tLm [])⟩])⟩, ⟨2, true, (tS [⟨1, false, (tE (.bool false))⟩, ⟨1, false, (tLm [])⟩])⟩])⟩, ⟨1, false, (tE (.int .i64 0))⟩])⟩) (fs' := [⟨1, false, tI a⟩, ⟨1, false, tI b⟩, ⟨6, true, tVa ⟨2, fr (kfr n d), 0⟩⟩]) 2 rfl rfl rfl, inferInstance, Le.refl⟩⟩⟩) rfl rfl rfl (RE (xa4 (es := 8) (agg := true) (0) ti56 rfl rfl rfl) ⟨rfl, rfl, trivial⟩ ⟨rfl, trivial⟩ trivial (x7 (by kernel_rfl) ?_)))))))
 refine x4 (xa1 ?_)
 exact xg9 Plain.mk' rfl ⟨_, _, _, _, _, rfl, rfl, ti56, Le.refl⟩
theorem c_steps (l : List Tst) :
  Ct Tryz.prog 43 [tL 8 true tTs l] (tL 8 true tTs l) := by
 refine Ct.intro Tryz.func43 rfl Tryz.ntmps43 rfl ?_
 intro w F
 refine x6 ?_
 refine x8 ?_
 refine R1 x5 rfl (x7 (by kernel_rfl) (x4 (x6 ?_)))
 refine x8 ?_
 refine R1 x3 rfl (R1 x5 rfl (x7 (by kernel_rfl) (x4 (xa1 ?_))))
 exact xa6 Plain.mk' rfl rfl Le.refl
abbrev tP2 (p : Int × Int) : Ty := tS [⟨1, false, tI p.1⟩, ⟨1, false, tI p.2⟩]
def plP : List (Int × Int) := [(0, 1), (1, 1), (1, 2), (-3, 4), (5, 3), (65537, 7), (-1, 1), (1099511627776, 1)]
def plQ (n : Nat) : Int × Int := plP.getD (n % 8) (0, 1)
def plV (n : Nat) : Va := ⟨2, fr (kfr (plQ n).1 (plQ n).2), 0⟩
theorem plQ_bd (n : Nat) : (-9223372036854775808 ≤ (plQ n).1 ∧ (plQ n).1 ≤ 9223372036854775807) ∧ -9223372036854775808 ≤ (plQ n).2 ∧ (plQ n).2 ≤ 9223372036854775807 := by
  have key : ∀ m : Fin 8, (-9223372036854775808 ≤ (plP.getD m.val (0, 1)).1 ∧ (plP.getD m.val (0, 1)).1 ≤ 9223372036854775807) ∧ -9223372036854775808 ≤ (plP.getD m.val (0, 1)).2 ∧ (plP.getD m.val (0, 1)).2 ≤ 9223372036854775807 := by decide
  exact key ⟨n % 8, Nat.mod_lt _ (by decide)⟩
theorem c_Pool (n : Nat) (hn : n < 65536) :
  Ct Tryz.prog 40 [tE (.int .u16 (n : Int))] (tVa (plV n)) := by
 obtain ⟨⟨q1, q2⟩, q3, q4⟩ := plQ_bd n
 refine Ct.intro Tryz.func40 rfl Tryz.ntmps40 rfl ?_
 intro w F
 refine x6 ?_
 refine x8 ?_
 refine RE (xc4 (k := 2) (n := 6) (agg := true) zr37.1 zr37.2 rfl) trivial trivial ⟨rfl, trivial⟩ (x7 (by kernel_rfl) (x4 (x6 ?_)))
 refine x8 ?_
 refine R2 (xc7 (r := tS [⟨1, false, tI (0)⟩, ⟨1, false, tI (1)⟩]) (ts := [(0, tI (0)), (1, tI (1))]) bu47 zr47.2 ⟨_, rfl⟩ rfl ⟨_, _, _, _, rfl, Up.f (fs := [⟨1, false, (tE (.int .i64 0))⟩, ⟨1, false, (tE (.int .i64 0))⟩]) (f := ⟨1, false, (tE (.int .i64 0))⟩) (fs' := [⟨1, false, tI (0)⟩, ⟨1, false, (tE (.int .i64 0))⟩]) 0 rfl rfl rfl, inferInstance, ⟨_, _, _, _, rfl, Up.f (fs := [⟨1, false, tI (0)⟩, ⟨1, false, (tE (.int .i64 0))⟩]) (f := ⟨1, false, (tE (.int .i64 0))⟩) (fs' := [⟨1, false, tI (0)⟩, ⟨1, false, tI (1)⟩]) 1 rfl rfl rfl, inferInstance, Le.refl⟩⟩) rfl rfl (R2 (xc7 (r := tS [⟨1, false, tI (1)⟩, ⟨1, false, tI (1)⟩]) (ts := [(0, tI (1)), (1, tI (1))]) bu47 zr47.2 ⟨_, rfl⟩ rfl ⟨_, _, _, _, rfl, Up.f (fs := [⟨1, false, (tE (.int .i64 0))⟩, ⟨1, false, (tE (.int .i64 0))⟩]) (f := ⟨1, false, (tE (.int .i64 0))⟩) (fs' := [⟨1, false, tI (1)⟩, ⟨1, false, (tE (.int .i64 0))⟩]) 0 rfl rfl rfl, inferInstance, ⟨_, _, _, _, rfl, Up.f (fs := [⟨1, false, tI (1)⟩, ⟨1, false, (tE (.int .i64 0))⟩]) (f := ⟨1, false, (tE (.int .i64 0))⟩) (fs' := [⟨1, false, tI (1)⟩, ⟨1, false, tI (1)⟩]) 1 rfl rfl rfl, inferInstance, Le.refl⟩⟩) rfl rfl (R2 (xc7 (r := tS [⟨1, false, tI (1)⟩, ⟨1, false, tI (2)⟩]) (ts := [(0, tI (1)), (1, tI (2))]) bu47 zr47.2 ⟨_, rfl⟩ rfl ⟨_, _, _, _, rfl, Up.f (fs := [⟨1, false, (tE (.int .i64 0))⟩, ⟨1, false, (tE (.int .i64 0))⟩]) (f := ⟨1, false, (tE (.int .i64 0))⟩) (fs' := [⟨1, false, tI (1)⟩, ⟨1, false, (tE (.int .i64 0))⟩]) 0 rfl rfl rfl, inferInstance, ⟨_, _, _, _, rfl, Up.f (fs := [⟨1, false, tI (1)⟩, ⟨1, false, (tE (.int .i64 0))⟩]) (f := ⟨1, false, (tE (.int .i64 0))⟩) (fs' := [⟨1, false, tI (1)⟩, ⟨1, false, tI (2)⟩]) 1 rfl rfl rfl, inferInstance, Le.refl⟩⟩) rfl rfl (R2 (xc7 (r := tS [⟨1, false, tI (-3)⟩, ⟨1, false, tI (4)⟩]) (ts := [(0, tI (-3)), (1, tI (4))]) bu47 zr47.2 ⟨_, rfl⟩ rfl ⟨_, _, _, _, rfl, Up.f (fs := [⟨1, false, (tE (.int .i64 0))⟩, ⟨1, false, (tE (.int .i64 0))⟩]) (f := ⟨1, false, (tE (.int .i64 0))⟩) (fs' := [⟨1, false, tI (-3)⟩, ⟨1, false, (tE (.int .i64 0))⟩]) 0 rfl rfl rfl, inferInstance, ⟨_, _, _, _, rfl, Up.f (fs := [⟨1, false, tI (-3)⟩, ⟨1, false, (tE (.int .i64 0))⟩]) (f := ⟨1, false, (tE (.int .i64 0))⟩) (fs' := [⟨1, false, tI (-3)⟩, ⟨1, false, tI (4)⟩]) 1 rfl rfl rfl, inferInstance, Le.refl⟩⟩) rfl rfl (R2 (xc7 (r := tS [⟨1, false, tI (5)⟩, ⟨1, false, tI (3)⟩]) (ts := [(0, tI (5)), (1, tI (3))]) bu47 zr47.2 ⟨_, rfl⟩ rfl ⟨_, _, _, _, rfl, Up.f (fs := [⟨1, false, (tE (.int .i64 0))⟩, ⟨1, false, (tE (.int .i64 0))⟩]) (f := ⟨1, false, (tE (.int .i64 0))⟩) (fs' := [⟨1, false, tI (5)⟩, ⟨1, false, (tE (.int .i64 0))⟩]) 0 rfl rfl rfl, inferInstance, ⟨_, _, _, _, rfl, Up.f (fs := [⟨1, false, tI (5)⟩, ⟨1, false, (tE (.int .i64 0))⟩]) (f := ⟨1, false, (tE (.int .i64 0))⟩) (fs' := [⟨1, false, tI (5)⟩, ⟨1, false, tI (3)⟩]) 1 rfl rfl rfl, inferInstance, Le.refl⟩⟩) rfl rfl (R2 (xc7 (r := tS [⟨1, false, tI (65537)⟩, ⟨1, false, tI (7)⟩]) (ts := [(0, tI (65537)), (1, tI (7))]) bu47 zr47.2 ⟨_, rfl⟩ rfl ⟨_, _, _, _, rfl, Up.f (fs := [⟨1, false, (tE (.int .i64 0))⟩, ⟨1, false, (tE (.int .i64 0))⟩]) (f := ⟨1, false, (tE (.int .i64 0))⟩) (fs' := [⟨1, false, tI (65537)⟩, ⟨1, false, (tE (.int .i64 0))⟩]) 0 rfl rfl rfl, inferInstance, ⟨_, _, _, _, rfl, Up.f (fs := [⟨1, false, tI (65537)⟩, ⟨1, false, (tE (.int .i64 0))⟩]) (f := ⟨1, false, (tE (.int .i64 0))⟩) (fs' := [⟨1, false, tI (65537)⟩, ⟨1, false, tI (7)⟩]) 1 rfl rfl rfl, inferInstance, Le.refl⟩⟩) rfl rfl (R2 (xc7 (r := tS [⟨1, false, tI (-1)⟩, ⟨1, false, tI (1)⟩]) (ts := [(0, tI (-1)), (1, tI (1))]) bu47 zr47.2 ⟨_, rfl⟩ rfl ⟨_, _, _, _, rfl, Up.f (fs := [⟨1, false, (tE (.int .i64 0))⟩, ⟨1, false, (tE (.int .i64 0))⟩]) (f := ⟨1, false, (tE (.int .i64 0))⟩) (fs' := [⟨1, false, tI (-1)⟩, ⟨1, false, (tE (.int .i64 0))⟩]) 0 rfl rfl rfl, inferInstance, ⟨_, _, _, _, rfl, Up.f (fs := [⟨1, false, tI (-1)⟩, ⟨1, false, (tE (.int .i64 0))⟩]) (f := ⟨1, false, (tE (.int .i64 0))⟩) (fs' := [⟨1, false, tI (-1)⟩, ⟨1, false, tI (1)⟩]) 1 rfl rfl rfl, inferInstance, Le.refl⟩⟩) rfl rfl (R2 (xc7 (r := tS [⟨1, false, tI (1099511627776)⟩, ⟨1, false, tI (1)⟩]) (ts := [(0, tI (1099511627776)), (1, tI (1))]) bu47 zr47.2 ⟨_, rfl⟩ rfl ⟨_, _, _, _, rfl, Up.f (fs := [⟨1, false, (tE (.int .i64 0))⟩, ⟨1, false, (tE (.int .i64 0))⟩]) (f := ⟨1, false, (tE (.int .i64 0))⟩) (fs' := [⟨1, false, tI (1099511627776)⟩, ⟨1, false, (tE (.int .i64 0))⟩]) 0 rfl rfl rfl, inferInstance, ⟨_, _, _, _, rfl, Up.f (fs := [⟨1, false, tI (1099511627776)⟩, ⟨1, false, (tE (.int .i64 0))⟩]) (f := ⟨1, false, (tE (.int .i64 0))⟩) (fs' := [⟨1, false, tI (1099511627776)⟩, ⟨1, false, tI (1)⟩]) 1 rfl rfl rfl, inferInstance, Le.refl⟩⟩) rfl rfl ?_)))))))
 refine RE (xc7 (r := tS [⟨2, true, tS [⟨1, false, tI (0)⟩, ⟨1, false, tI (1)⟩]⟩, ⟨2, true, tS [⟨1, false, tI (1)⟩, ⟨1, false, tI (1)⟩]⟩, ⟨2, true, tS [⟨1, false, tI (1)⟩, ⟨1, false, tI (2)⟩]⟩, ⟨2, true, tS [⟨1, false, tI (-3)⟩, ⟨1, false, tI (4)⟩]⟩, ⟨2, true, tS [⟨1, false, tI (5)⟩, ⟨1, false, tI (3)⟩]⟩, ⟨2, true, tS [⟨1, false, tI (65537)⟩, ⟨1, false, tI (7)⟩]⟩, ⟨2, true, tS [⟨1, false, tI (-1)⟩, ⟨1, false, tI (1)⟩]⟩, ⟨2, true, tS [⟨1, false, tI (1099511627776)⟩, ⟨1, false, tI (1)⟩]⟩]) (ts := [(0, tS [⟨1, false, tI (0)⟩, ⟨1, false, tI (1)⟩]), (1, tS [⟨1, false, tI (1)⟩, ⟨1, false, tI (1)⟩]), (2, tS [⟨1, false, tI (1)⟩, ⟨1, false, tI (2)⟩]), (3, tS [⟨1, false, tI (-3)⟩, ⟨1, false, tI (4)⟩]), (4, tS [⟨1, false, tI (5)⟩, ⟨1, false, tI (3)⟩]), (5, tS [⟨1, false, tI (65537)⟩, ⟨1, false, tI (7)⟩]), (6, tS [⟨1, false, tI (-1)⟩, ⟨1, false, tI (1)⟩]), (7, tS [⟨1, false, tI (1099511627776)⟩, ⟨1, false, tI (1)⟩])]) bu113 zr113.2 ⟨_, rfl⟩ rfl ⟨_, _, _, _, rfl, Up.f (fs := [⟨2, true, (tS [⟨1, false, (tE (.int .i64 0))⟩, ⟨1, false, (tE (.int .i64 0))⟩])⟩, ⟨2, true, (tS [⟨1, false, (tE (.int .i64 0))⟩, ⟨1, false, (tE (.int .i64 0))⟩])⟩, ⟨2, true, (tS [⟨1, false, (tE (.int .i64 0))⟩, ⟨1, false, (tE (.int .i64 0))⟩])⟩, ⟨2, true, (tS [⟨1, false, (tE (.int .i64 0))⟩, ⟨1, false, (tE (.int .i64 0))⟩])⟩, ⟨2, true, (tS [⟨1, false, (tE (.int .i64 0))⟩, ⟨1, false, (tE (.int .i64 0))⟩])⟩, ⟨2, true, (tS [⟨1, false, (tE (.int .i64 0))⟩, ⟨1, false, (tE (.int .i64 0))⟩])⟩, ⟨2, true, (tS [⟨1, false, (tE (.int .i64 0))⟩, ⟨1, false, (tE (.int .i64 0))⟩])⟩, ⟨2, true, (tS [⟨1, false, (tE (.int .i64 0))⟩, ⟨1, false, (tE (.int .i64 0))⟩])⟩]) (f := ⟨2, true, (tS [⟨1, false, (tE (.int .i64 0))⟩, ⟨1, false, (tE (.int .i64 0))⟩])⟩) (fs' := [⟨2, true, tS [⟨1, false, tI (0)⟩, ⟨1, false, tI (1)⟩]⟩, ⟨2, true, (tS [⟨1, false, (tE (.int .i64 0))⟩, ⟨1, false, (tE (.int .i64 0))⟩])⟩, ⟨2, true, (tS [⟨1, false, (tE (.int .i64 0))⟩, ⟨1, false, (tE (.int .i64 0))⟩])⟩, ⟨2, true, (tS [⟨1, false, (tE (.int .i64 0))⟩, ⟨1, false, (tE (.int .i64 0))⟩])⟩, ⟨2, true, (tS [⟨1, false, (tE (.int .i64 0))⟩, ⟨1, false, (tE (.int .i64 0))⟩])⟩, ⟨2, true, (tS [⟨1, false, (tE (.int .i64 0))⟩, ⟨1, false, (tE (.int .i64 0))⟩])⟩, ⟨2, true, (tS [⟨1, false, (tE (.int .i64 0))⟩, ⟨1, false, (tE (.int .i64 0))⟩])⟩, ⟨2, true, (tS [⟨1, false, (tE (.int .i64 0))⟩, ⟨1, false, (tE (.int .i64 0))⟩])⟩]) 0 rfl rfl rfl, inferInstance, ⟨_, _, _, _, rfl, Up.f (fs := [⟨2, true, tS [⟨1, false, tI (0)⟩, ⟨1, false, tI (1)⟩]⟩, ⟨2, true, (tS [⟨1, false, (tE (.int .i64 0))⟩, ⟨1, false, (tE (.int .i64 0))⟩])⟩, ⟨2, true, (tS [⟨1, false, (tE (.int .i64 0))⟩, ⟨1, false, (tE (.int .i64 0))⟩])⟩, ⟨2, true, (tS [⟨1, false, (tE (.int .i64 0))⟩, ⟨1, false, (tE (.int .i64 0))⟩])⟩, ⟨2, true, (tS [⟨1, false, (tE (.int .i64 0))⟩, ⟨1, false, (tE (.int .i64 0))⟩])⟩, ⟨2, true, (tS [⟨1, false, (tE (.int .i64 0))⟩, ⟨1, false, (tE (.int .i64 0))⟩])⟩, ⟨2, true, (tS [⟨1, false, (tE (.int .i64 0))⟩, ⟨1, false, (tE (.int .i64 0))⟩])⟩, ⟨2, true, (tS [⟨1, false, (tE (.int .i64 0))⟩, ⟨1, false, (tE (.int .i64 0))⟩])⟩]) (f := ⟨2, true, (tS [⟨1, false, (tE (.int .i64 0))⟩, ⟨1, false, (tE (.int .i64 0))⟩])⟩) (fs' := [⟨2, true, tS [⟨1, false, tI (0)⟩, ⟨1, false, tI (1)⟩]⟩, ⟨2, true, tS [⟨1, false, tI (1)⟩, ⟨1, false, tI (1)⟩]⟩, ⟨2, true, (tS [⟨1, false, (tE (.int .i64 0))⟩, ⟨1, false, (tE (.int .i64 0))⟩])⟩, ⟨2, true, (tS [⟨1, false, (tE (.int .i64 0))⟩, ⟨1, false, (tE (.int .i64 0))⟩])⟩, ⟨2, true, (tS [⟨1, false, (tE (.int .i64 0))⟩, ⟨1, false, (tE (.int .i64 0))⟩])⟩, ⟨2, true, (tS [⟨1, false, (tE (.int .i64 0))⟩, ⟨1, false, (tE (.int .i64 0))⟩])⟩, ⟨2, true, (tS [⟨1, false, (tE (.int .i64 0))⟩, ⟨1, false, (tE (.int .i64 0))⟩])⟩, ⟨2, true, (tS [⟨1, false, (tE (.int .i64 0))⟩, ⟨1, false, (tE (.int .i64 0))⟩])⟩]) 1 rfl rfl rfl, inferInstance, ⟨_, _, _, _, rfl, Up.f (fs := [⟨2, true, tS [⟨1, false, tI (0)⟩, ⟨1, false, tI (1)⟩]⟩, ⟨2, true, tS [⟨1, false, tI (1)⟩, ⟨1, false, tI (1)⟩]⟩, ⟨2, true, (tS [⟨1, false, (tE (.int .i64 0))⟩, ⟨1, false, (tE (.int .i64 0))⟩])⟩, ⟨2, true, (tS [⟨1, false, (tE (.int .i64 0))⟩, ⟨1, false, (tE (.int .i64 0))⟩])⟩, ⟨2, true, (tS [⟨1, false, (tE (.int .i64 0))⟩, ⟨1, false, (tE (.int .i64 0))⟩])⟩, ⟨2, true, (tS [⟨1, false, (tE (.int .i64 0))⟩, ⟨1, false, (tE (.int .i64 0))⟩])⟩, ⟨2, true, (tS [⟨1, false, (tE (.int .i64 0))⟩, ⟨1, false, (tE (.int .i64 0))⟩])⟩, ⟨2, true, (tS [⟨1, false, (tE (.int .i64 0))⟩, ⟨1, false, (tE (.int .i64 0))⟩])⟩]) (f := ⟨2, true, (tS [⟨1, false, (tE (.int .i64 0))⟩, ⟨1, false, (tE (.int .i64 0))⟩])⟩) (fs' := [⟨2, true, tS [⟨1, false, tI (0)⟩, ⟨1, false, tI (1)⟩]⟩, ⟨2, true, tS [⟨1, false, tI (1)⟩, ⟨1, false, tI (1)⟩]⟩, ⟨2, true, tS [⟨1, false, tI (1)⟩, ⟨1, false, tI (2)⟩]⟩, ⟨2, true, (tS [⟨1, false, (tE (.int .i64 0))⟩, ⟨1, false, (tE (.int .i64 0))⟩])⟩, ⟨2, true, (tS [⟨1, false, (tE (.int .i64 0))⟩, ⟨1, false, (tE (.int .i64 0))⟩])⟩, ⟨2, true, (tS [⟨1, false, (tE (.int .i64 0))⟩, ⟨1, false, (tE (.int .i64 0))⟩])⟩, ⟨2, true, (tS [⟨1, false, (tE (.int .i64 0))⟩, ⟨1, false, (tE (.int .i64 0))⟩])⟩, ⟨2, true, (tS [⟨1, false, (tE (.int .i64 0))⟩, ⟨1, false, (tE (.int .i64 0))⟩])⟩]) 2 rfl rfl rfl, inferInstance, ⟨_, _, _, _, rfl, Up.f (fs := [⟨2, true, tS [⟨1, false, tI (0)⟩, ⟨1, false, tI (1)⟩]⟩, ⟨2, true, tS [⟨1, false, tI (1)⟩, ⟨1, false, tI (1)⟩]⟩, ⟨2, true, tS [⟨1, false, tI (1)⟩, ⟨1, false, tI (2)⟩]⟩, ⟨2, true, (tS [⟨1, false, (tE (.int .i64 0))⟩, ⟨1, false, (tE (.int .i64 0))⟩])⟩, ⟨2, true, (tS [⟨1, false, (tE (.int .i64 0))⟩, ⟨1, false, (tE (.int .i64 0))⟩])⟩, ⟨2, true, (tS [⟨1, false, (tE (.int .i64 0))⟩, ⟨1, false, (tE (.int .i64 0))⟩])⟩, ⟨2, true, (tS [⟨1, false, (tE (.int .i64 0))⟩, ⟨1, false, (tE (.int .i64 0))⟩])⟩, ⟨2, true, (tS [⟨1, false, (tE (.int .i64 0))⟩, ⟨1, false, (tE (.int .i64 0))⟩])⟩]) (f := ⟨2, true, (tS [⟨1, false, (tE (.int .i64 0))⟩, ⟨1, false, (tE (.int .i64 0))⟩])⟩) (fs' := [⟨2, true, tS [⟨1, false, tI (0)⟩, ⟨1, false, tI (1)⟩]⟩, ⟨2, true, tS [⟨1, false, tI (1)⟩, ⟨1, false, tI (1)⟩]⟩, ⟨2, true, tS [⟨1, false, tI (1)⟩, ⟨1, false, tI (2)⟩]⟩, ⟨2, true, tS [⟨1, false, tI (-3)⟩, ⟨1, false, tI (4)⟩]⟩, ⟨2, true, (tS [⟨1, false, (tE (.int .i64 0))⟩, ⟨1, false, (tE (.int .i64 0))⟩])⟩, ⟨2, true, (tS [⟨1, false, (tE (.int .i64 0))⟩, ⟨1, false, (tE (.int .i64 0))⟩])⟩, ⟨2, true, (tS [⟨1, false, (tE (.int .i64 0))⟩, ⟨1, false, (tE (.int .i64 0))⟩])⟩, ⟨2, true, (tS [⟨1, false, (tE (.int .i64 0))⟩, ⟨1, false, (tE (.int .i64 0))⟩])⟩]) 3 rfl rfl rfl, inferInstance, ⟨_, _, _, _, rfl, Up.f (fs := [⟨2, true, tS [⟨1, false, tI (0)⟩, ⟨1, false, tI (1)⟩]⟩, ⟨2, true, tS [⟨1, false, tI (1)⟩, ⟨1, false, tI (1)⟩]⟩, ⟨2, true, tS [⟨1, false, tI (1)⟩, ⟨1, false, tI (2)⟩]⟩, ⟨2, true, tS [⟨1, false, tI (-3)⟩, ⟨1, false, tI (4)⟩]⟩, ⟨2, true, (tS [⟨1, false, (tE (.int .i64 0))⟩, ⟨1, false, (tE (.int .i64 0))⟩])⟩, ⟨2, true, (tS [⟨1, false, (tE (.int .i64 0))⟩, ⟨1, false, (tE (.int .i64 0))⟩])⟩, ⟨2, true, (tS [⟨1, false, (tE (.int .i64 0))⟩, ⟨1, false, (tE (.int .i64 0))⟩])⟩, ⟨2, true, (tS [⟨1, false, (tE (.int .i64 0))⟩, ⟨1, false, (tE (.int .i64 0))⟩])⟩]) (f := ⟨2, true, (tS [⟨1, false, (tE (.int .i64 0))⟩, ⟨1, false, (tE (.int .i64 0))⟩])⟩) (fs' := [⟨2, true, tS [⟨1, false, tI (0)⟩, ⟨1, false, tI (1)⟩]⟩, ⟨2, true, tS [⟨1, false, tI (1)⟩, ⟨1, false, tI (1)⟩]⟩, ⟨2, true, tS [⟨1, false, tI (1)⟩, ⟨1, false, tI (2)⟩]⟩, ⟨2, true, tS [⟨1, false, tI (-3)⟩, ⟨1, false, tI (4)⟩]⟩, ⟨2, true, tS [⟨1, false, tI (5)⟩, ⟨1, false, tI (3)⟩]⟩, ⟨2, true, (tS [⟨1, false, (tE (.int .i64 0))⟩, ⟨1, false, (tE (.int .i64 0))⟩])⟩, ⟨2, true, (tS [⟨1, false, (tE (.int .i64 0))⟩, ⟨1, false, (tE (.int .i64 0))⟩])⟩, ⟨2, true, (tS [⟨1, false, (tE (.int .i64 0))⟩, ⟨1, false, (tE (.int .i64 0))⟩])⟩]) 4 rfl rfl rfl, inferInstance, ⟨_, _, _, _, rfl, Up.f (fs := [⟨2, true, tS [⟨1, false, tI (0)⟩, ⟨1, false, tI (1)⟩]⟩, ⟨2, true, tS [⟨1, false, tI (1)⟩, ⟨1, false, tI (1)⟩]⟩, ⟨2, true, tS [⟨1, false, tI (1)⟩, ⟨1, false, tI (2)⟩]⟩, ⟨2, true, tS [⟨1, false, tI (-3)⟩, ⟨1, false, tI (4)⟩]⟩, ⟨2, true, tS [⟨1, false, tI (5)⟩, ⟨1, false, tI (3)⟩]⟩, ⟨2, true, (tS [⟨1, false, (tE (.int .i64 0))⟩, ⟨1, false, (tE (.int .i64 0))⟩])⟩, ⟨2, true, (tS [⟨1, false, (tE (.int .i64 0))⟩, ⟨1, false, (tE (.int .i64 0))⟩])⟩, ⟨2, true, (tS [⟨1, false, (tE (.int .i64 0))⟩, ⟨1, false, (tE (.int .i64 0))⟩])⟩]) (f := ⟨2, true, (tS [⟨1, false, (tE (.int .i64 0))⟩, ⟨1, false, (tE (.int .i64 0))⟩])⟩) (fs' := [⟨2, true, tS [⟨1, false, tI (0)⟩, ⟨1, false, tI (1)⟩]⟩, ⟨2, true, tS [⟨1, false, tI (1)⟩, ⟨1, false, tI (1)⟩]⟩, ⟨2, true, tS [⟨1, false, tI (1)⟩, ⟨1, false, tI (2)⟩]⟩, ⟨2, true, tS [⟨1, false, tI (-3)⟩, ⟨1, false, tI (4)⟩]⟩, ⟨2, true, tS [⟨1, false, tI (5)⟩, ⟨1, false, tI (3)⟩]⟩, ⟨2, true, tS [⟨1, false, tI (65537)⟩, ⟨1, false, tI (7)⟩]⟩, ⟨2, true, (tS [⟨1, false, (tE (.int .i64 0))⟩, ⟨1, false, (tE (.int .i64 0))⟩])⟩, ⟨2, true, (tS [⟨1, false, (tE (.int .i64 0))⟩, ⟨1, false, (tE (.int .i64 0))⟩])⟩]) 5 rfl rfl rfl, inferInstance, ⟨_, _, _, _, rfl, Up.f (fs := [⟨2, true, tS [⟨1, false, tI (0)⟩, ⟨1, false, tI (1)⟩]⟩, ⟨2, true, tS [⟨1, false, tI (1)⟩, ⟨1, false, tI (1)⟩]⟩, ⟨2, true, tS [⟨1, false, tI (1)⟩, ⟨1, false, tI (2)⟩]⟩, ⟨2, true, tS [⟨1, false, tI (-3)⟩, ⟨1, false, tI (4)⟩]⟩, ⟨2, true, tS [⟨1, false, tI (5)⟩, ⟨1, false, tI (3)⟩]⟩, ⟨2, true, tS [⟨1, false, tI (65537)⟩, ⟨1, false, tI (7)⟩]⟩, ⟨2, true, (tS [⟨1, false, (tE (.int .i64 0))⟩, ⟨1, false, (tE (.int .i64 0))⟩])⟩, ⟨2, true, (tS [⟨1, false, (tE (.int .i64 0))⟩, ⟨1, false, (tE (.int .i64 0))⟩])⟩]) (f := ⟨2, true, (tS [⟨1, false, (tE (.int .i64 0))⟩, ⟨1, false, (tE (.int .i64 0))⟩])⟩) (fs' := [⟨2, true, tS [⟨1, false, tI (0)⟩, ⟨1, false, tI (1)⟩]⟩, ⟨2, true, tS [⟨1, false, tI (1)⟩, ⟨1, false, tI (1)⟩]⟩, ⟨2, true, tS [⟨1, false, tI (1)⟩, ⟨1, false, tI (2)⟩]⟩, ⟨2, true, tS [⟨1, false, tI (-3)⟩, ⟨1, false, tI (4)⟩]⟩, ⟨2, true, tS [⟨1, false, tI (5)⟩, ⟨1, false, tI (3)⟩]⟩, ⟨2, true, tS [⟨1, false, tI (65537)⟩, ⟨1, false, tI (7)⟩]⟩, ⟨2, true, tS [⟨1, false, tI (-1)⟩, ⟨1, false, tI (1)⟩]⟩, ⟨2, true, (tS [⟨1, false, (tE (.int .i64 0))⟩, ⟨1, false, (tE (.int .i64 0))⟩])⟩]) 6 rfl rfl rfl, inferInstance, ⟨_, _, _, _, rfl, Up.f (fs := [⟨2, true, tS [⟨1, false, tI (0)⟩, ⟨1, false, tI (1)⟩]⟩, ⟨2, true, tS [⟨1, false, tI (1)⟩, ⟨1, false, tI (1)⟩]⟩, ⟨2, true, tS [⟨1, false, tI (1)⟩, ⟨1, false, tI (2)⟩]⟩, ⟨2, true, tS [⟨1, false, tI (-3)⟩, ⟨1, false, tI (4)⟩]⟩, ⟨2, true, tS [⟨1, false, tI (5)⟩, ⟨1, false, tI (3)⟩]⟩, ⟨2, true, tS [⟨1, false, tI (65537)⟩, ⟨1, false, tI (7)⟩]⟩, ⟨2, true, tS [⟨1, false, tI (-1)⟩, ⟨1, false, tI (1)⟩]⟩, ⟨2, true, (tS [⟨1, false, (tE (.int .i64 0))⟩, ⟨1, false, (tE (.int .i64 0))⟩])⟩]) (f := ⟨2, true, (tS [⟨1, false, (tE (.int .i64 0))⟩, ⟨1, false, (tE (.int .i64 0))⟩])⟩) (fs' := [⟨2, true, tS [⟨1, false, tI (0)⟩, ⟨1, false, tI (1)⟩]⟩, ⟨2, true, tS [⟨1, false, tI (1)⟩, ⟨1, false, tI (1)⟩]⟩, ⟨2, true, tS [⟨1, false, tI (1)⟩, ⟨1, false, tI (2)⟩]⟩, ⟨2, true, tS [⟨1, false, tI (-3)⟩, ⟨1, false, tI (4)⟩]⟩, ⟨2, true, tS [⟨1, false, tI (5)⟩, ⟨1, false, tI (3)⟩]⟩, ⟨2, true, tS [⟨1, false, tI (65537)⟩, ⟨1, false, tI (7)⟩]⟩, ⟨2, true, tS [⟨1, false, tI (-1)⟩, ⟨1, false, tI (1)⟩]⟩, ⟨2, true, tS [⟨1, false, tI (1099511627776)⟩, ⟨1, false, tI (1)⟩]⟩]) 7 rfl rfl rfl, inferInstance, Le.refl⟩⟩⟩⟩⟩⟩⟩⟩) ⟨rfl, rfl, rfl, rfl, rfl, rfl, rfl, rfl, trivial⟩ trivial trivial (R1 x3 rfl (R2 (d_remP (by omega) (by omega)) rfl rfl (R2 (d_indexV (es := 2) (agg := true) (t := tS (plP.map fun x => ⟨2, true, tP2 x⟩)) (t' := tP2 (plQ n)) Tryz.underlying113 ti47 (n % 8) (by omega) (by omega) (At.row (l := plP) (0, 1) (show n % 8 < 8 by omega))) rfl rfl (RE (xc4 (k := 3) (n := 2) (agg := true) zr47.1 zr47.2 rfl) trivial trivial ⟨rfl, trivial⟩ (RE (xa4 (es := 2) (agg := true) (0) ti47 rfl rfl rfl) ⟨rfl, rfl, trivial⟩ ⟨rfl, trivial⟩ trivial (x7 (by kernel_rfl) (x4 ?_)))))))
 refine x6 ?_
 refine x8 ?_
 refine R2 (d_indexA ar47 (by omega) (by omega) rfl) rfl rfl (xa5 (0) ti3 rfl rfl rfl (At.g 0 rfl rfl) rfl (R2 (d_indexA ar47 (by omega) (by omega) rfl) rfl rfl (xa5 (0) ti3 rfl rfl rfl (At.g 1 rfl rfl) rfl (R2 (xa0 (c_Num (plQ n).1 (plQ n).2 q1 q2 q3 q4) fi29 rfl) rfl rfl (RE (xa4 (es := 6) (agg := true) (0) ti37 rfl rfl rfl) ⟨rfl, rfl, trivial⟩ ⟨rfl, trivial⟩ trivial (x7 (by kernel_rfl) (x4 ?_)))))))
 refine xa1 ?_
 exact xg9 Plain.mk' rfl ⟨_, _, _, _, _, rfl, rfl, ti37, Le.refl⟩
def tbF (m : List Nat) (k : Nat) (t : Int) : Int := t + ((m.getD (3 * k) 0 : Nat) : Int) % 3000
def tbE (m : List Nat) (k : Nat) (t : Int) : Int := tbF m k t + 1 + ((m.getD (3 * k + 1) 0 : Nat) : Int) % 3000
def tbS (m : List Nat) (k : Nat) (t : Int) : Tst := ⟨tbF m k t, tbE m k t, plV (m.getD (3 * k + 2) 0)⟩
def tbRun (m : List Nat) : Nat → Nat → List Tst → Int → List Tst
  | 0, _, out, _ => out
  | f + 1, k, out, t => if 3 * k + 2 < m.length ∧ k < 40 then (if 65536 < tbE m k t then out else tbRun m f (k + 1) (pst1 out (tbS m k t)) (tbE m k t)) else out
def tbT (m : List Nat) : List Tst := tbRun m 41 0 [] 0
theorem tbRun_stop {m : List Nat} {k : Nat} {out : List Tst} {t : Int} {r : List Tst} (hk : k ≤ 40) (h : tbRun m (41 - k) k out t = r) (hs : ¬ (3 * k + 2 < m.length ∧ k < 40) ∨ 65536 < tbE m k t) : out = r := by
  rw [show 41 - k = (40 - k) + 1 by omega, tbRun] at h
  split at h
  · rw [if_pos (hs.resolve_left (fun h' => h' (by assumption)))] at h; exact h
  · exact h
theorem tbRun_next {m : List Nat} {k : Nat} {out : List Tst} {t : Int} {r : List Tst} (hk : k ≤ 40) (h : tbRun m (41 - k) k out t = r) (hs : 3 * k + 2 < m.length ∧ k < 40) (he : ¬ 65536 < tbE m k t) : tbRun m (41 - (k + 1)) (k + 1) (pst1 out (tbS m k t)) (tbE m k t) = r := by
  rw [show 41 - k = (41 - (k + 1)) + 1 by omega, tbRun, if_pos hs, if_neg he] at h; exact h
theorem tbS_lt {m : List Nat} {k : Nat} {t : Int} : (tbS m k t).lo < (tbS m k t).hi := by simp only [tbS, tbE]; omega
theorem valT_first {l : List Tst} {d : Int} {i : Nat} (hi : i < l.length) (hj : ∀ j, j < i → ¬ ((l.getD j tst0).lo ≤ d ∧ d < (l.getD j tst0).hi)) (h : (l.getD i tst0).lo ≤ d ∧ d < (l.getD i tst0).hi) : valT l d = some (l.getD i tst0).v := by
  induction i generalizing l with
  | zero =>
    cases l with
    | nil => simp at hi
    | cons s r => rw [xe7]; exact if_pos h
  | succ i ih =>
    cases l with
    | nil => simp at hi
    | cons s r =>
      have h0 : ¬ (s.lo ≤ d ∧ d < s.hi) := hj 0 (by omega)
      rw [xe7, if_neg h0]
      exact ih (l := r) (by simpa using hi) (fun j hj2 => by have := hj (j + 1) (by omega); simpa using this) (by simpa using h)
theorem valT_never {l : List Tst} {d : Int} (hj : ∀ j, j < l.length → ¬ ((l.getD j tst0).lo ≤ d ∧ d < (l.getD j tst0).hi)) : valT l d = none := xh9.2 fun s hs h => by
  obtain ⟨i, hi, rfl⟩ := xi7 hs
  exact hj i hi h
def eds4 (l : List Tst) : List Int := l.flatMap fun s => [s.lo - 1, s.lo, s.hi - 1, s.hi]
theorem eds4_len {l : List Tst} : (eds4 l).length = 4 * l.length := by
  induction l with
  | nil => rfl
  | cons s r ih => rw [eds4, List.flatMap_cons, List.length_append, ← eds4, ih]; simp; omega
theorem eds4_snoc {l : List Tst} {i : Nat} (hi : i < l.length) : eds4 (l.take (i + 1)) = eds4 (l.take i) ++ [(l.getD i tst0).lo - 1, (l.getD i tst0).lo, (l.getD i tst0).hi - 1, (l.getD i tst0).hi] := by
  rw [List.take_succ_eq_append_getElem hi, eds4, List.flatMap_append, List.getD_eq_getElem?_getD, List.getElem?_eq_getElem hi]; simp [eds4]
theorem flat4_snoc {ls : List (List Tst)} {i : Nat} (hi : i < ls.length) : (ls.take (i + 1)).flatMap eds4 = (ls.take i).flatMap eds4 ++ eds4 (ls.getD i []) := by
  rw [List.take_succ_eq_append_getElem hi, List.flatMap_append, List.getD_eq_getElem?_getD, List.getElem?_eq_getElem hi]; simp
theorem flat4_len : ∀ {ls : List (List Tst)}, (ls.flatMap eds4).length = 4 * tlen ls
  | [] => rfl
  | l :: r => by rw [List.flatMap_cons, List.length_append, eds4_len, flat4_len (ls := r)]; simp [tlen]; omega
/-- The days about the ends of steps. -/
def lkT (a b : List Tst) (d : Int) : List Int := d :: [a, b].flatMap eds4
theorem c_Built05 (m : List Nat) (hm : ∀ i, m.getD i 0 < 65536) :
  Ct Tryz.prog 12 [tLm m] (tL 8 true tTs (tbT m)) := by
 refine Ct.intro Tryz.func12 rfl Tryz.ntmps12 rfl ?_
 intro w F
 refine C_len (s := 0) rfl (fun hl0 => ?_)
 refine x6 ?_
 refine x8 ?_
 refine R1 x5 rfl (x7 (by kernel_rfl) (x4 (x6 ?_)))
 refine x8 ?_
 refine RE (d_assignN (k := 3) 56 8 true rfl (fun h => by cases h)) trivial trivial ⟨rfl, trivial⟩ (x7 (by kernel_rfl) (x4 (x6 ?_)))
 refine x8 ?_
 refine R1 x5 rfl (x7 (by kernel_rfl) (x4 (x6 (x6 ?_))))
 refine x8 ?_
 refine R1 x5 rfl (x7 (by kernel_rfl) (x4 (xa9 ?_)))
 refine xd6 (fun (fm : (Nat) × (List Tst) × (Int)) => (fun (k : Nat) (xs : List Tst) (t : Int) => k ≤ 40 ∧ tbRun m (41 - k) k xs t = tbT m ∧ xs.length ≤ k ∧ 0 ≤ t ∧ t ≤ 65536) fm.1 fm.2.1 fm.2.2) (fun (fm : (Nat) × (List Tst) × (Int)) => (fun (k : Nat) (xs : List Tst) (t : Int) => upd (upd (upd (upd (fun _ => none) 0 (some (.val (tLm m)))) 3 (some (.own (.sl 3 8 0 xs.length)))) 4 (some (.val (tI t)))) 5 (some (.val (tI (3 * (k : Int)))))) fm.1 fm.2.1 fm.2.2) (fun (fm : (Nat) × (List Tst) × (Int)) => (fun (k : Nat) (xs : List Tst) (t : Int) => upd (fun _ => none) 3 (some (⟨56, 8, true, rV tTs xs⟩))) fm.1 fm.2.1 fm.2.2) (nm [3]) (fun (fm : (Nat) × (List Tst) × (Int)) => (fun (k : Nat) (xs : List Tst) (t : Int) => 41 - k) fm.1 fm.2.1 fm.2.2) ((0, [], 0)) (by dsimp only; exact ⟨Nat.zero_le _, rfl, Nat.le_refl _, by omega, by omega⟩) (Sub.int rfl (by first | omega | rfl | (dsimp only; omega)) (Sub.int rfl (by first | omega | rfl | (dsimp only; omega)) (Sub.cons rfl (Sub.cons rfl Sub.nil)))) ((SubK.consI rfl ImpK.refl) SubK.nil) (SupG.val (SupG.val (SupG.own rfl (SupG.val SupG.nil)))) (SupH.cons rfl (supJ xc8) SupH.nil) (lkOk rfl) ?_
 intro fm hI
 obtain ⟨k, xs, t⟩ := fm
 replace hI : k ≤ 40 ∧ tbRun m (41 - k) k xs t = tbT m ∧ xs.length ≤ k ∧ 0 ≤ t ∧ t ≤ 65536 := hI
 show wc _ _ _ _ (upd (upd (upd (upd (fun _ => none) 0 (some (.val (tLm m)))) 3 (some (.own (.sl 3 8 0 xs.length)))) 4 (some (.val (tI t)))) 5 (some (.val (tI (3 * (k : Int)))))) (upd (fun _ => none) 3 (some (⟨56, 8, true, rV tTs xs⟩))) _
 obtain ⟨hk, hb, hxl, ht0, ht1⟩ := hI
 have m0 := hm (3 * k)
 have m1 := hm (3 * k + 1)
 have m2 := hm (3 * k + 2)
 refine x6 (x6 ?_)
 refine x8 ?_
 refine R1 x3 rfl (R2 (xb9 (wr64 (by omega) (by omega))) rfl rfl (R1 x3 rfl (R1 (xc3 Tryz.underlying22) rfl (R2 xd2 rfl rfl (R1 x3 rfl ?_)))))
 refine RGcaseD (t := 15) rfl (fun h24 => ?_) (fun h24 => ?_)
 ·
  refine RGon (decide_eq_true h24) rfl x3 rfl ⟨rfl, trivial⟩ trivial trivial (RGon (decide_eq_true h24) rfl xd2 rfl ⟨rfl, rfl, trivial⟩ trivial trivial (R2 (xb2 (decide_eq_true h24)) rfl rfl (x7 (by kernel_rfl) (x4 ?_))))
  refine xc1 rfl (fun h24_2 => ?_) (fun h24_2 => ?_)
  ·
   refine xa2 (x4 (x6 (xa9 (x6 ?_))))
   refine x8 ?_
   refine R1 x3 rfl (R1 x3 rfl (R1 x3 rfl (R2 (xb3 sl22 (3 * k) (by omega) (gN (by omega))) rfl rfl (R1 (xb8 ti73) rfl (R1 (xb4 Tryz.underlying3 (isS Tryz.underlying73) (wr64 (by omega) (by omega))) rfl (R2 (d_remP (by omega) (by omega)) rfl rfl (R2 (xb9 (wr64 (by omega) (by omega))) rfl rfl ?_)))))))
   refine R1 x5 rfl (x7 (by kernel_rfl) (x4 (x6 ?_)))
   refine xe1 mixed ?_
   refine R1 x3 rfl (R2 (xb9 (wr64 (by omega) (by omega))) rfl rfl (R1 x3 rfl (R1 x3 rfl (R2 (xb9 (wr64 (by omega) (by omega))) rfl rfl (R2 (xb3 sl22 (3 * k + 1) (by omega) (gN (by omega))) rfl rfl (R1 (xb8 ti73) rfl (R1 (xb4 Tryz.underlying3 (isS Tryz.underlying73) (wr64 (by omega) (by omega))) rfl ?_)))))))
   refine R2 (d_remP (by omega) (by omega)) rfl rfl (R2 (xb9 (wr64 (by omega) (by omega))) rfl rfl (R1 x3 rfl (R1 x3 rfl (R2 (xb9 (wr64 (by omega) (by omega))) rfl rfl (R2 (xb3 sl22 (3 * k + 2) (by omega) (gN (by omega))) rfl rfl (R1 (xb8 ti73) rfl (R1 (xa0 (c_Pool (m.getD (3 * k + 2) 0) m2) fi40 rfl) rfl ?_)))))))
   refine RE (xc4 (k := 8) (n := 6) (agg := true) zr37.1 zr37.2 rfl) trivial trivial ⟨rfl, trivial⟩ (R1 x5 rfl (RE (xa4 (es := 6) (agg := true) (0) ti37 rfl rfl rfl) ⟨rfl, rfl, trivial⟩ ⟨rfl, trivial⟩ trivial (xd4 (by kernel_rfl) (x4 (x6 (x6 ?_))))))
   refine x8 ?_
   refine R1 x3 rfl (R2 d_gtr rfl rfl (x7 (by kernel_rfl) (x4 ?_)))
   refine xc1 rfl (fun h27 => ?_) (fun h27 => ?_)
   ·
    refine xd0 (xb5 (K_exO rfl (xb5 (xb5 (xd5 (x4 (x6 ?_)))))))
    refine x8 ?_
    refine R1 x3 rfl (RE (xi1 (f := tTs) (xs := xs) (fun _ h => h) (rV_all rfl) rfl) ⟨rfl, trivial⟩ ⟨rfl, trivial⟩ trivial (x7 (by kernel_rfl) (x4 (xa1 ?_))))
    exact xa6 Plain.mk' rfl rfl (Le.of (by rw [tbRun_stop hk hb (.inr (by simp only [tbE, tbF]; omega))]))
   ·
    refine xa2 (x4 (x6 (x6 ?_)))
    refine x8 ?_
    refine R1 x3 rfl (R1 (d_lenO Tryz.underlying24) rfl (R2 (xe3 (wr64 (by omega) (by omega))) rfl rfl (R1 x5 rfl (x7 (by kernel_rfl) (x4 (x6 ?_))))))
    refine xe1 mixed ?_
    refine R1 x3 rfl (R2 d_geq rfl rfl (R1 x3 rfl ?_))
    refine RGcaseD (t := 52) rfl (fun h30 => ?_) (fun h30 => ?_)
    ·
     refine RGon (decide_eq_true h30) rfl x3 rfl ⟨rfl, trivial⟩ trivial trivial (RGon (decide_eq_true h30) rfl x3 rfl ⟨rfl, trivial⟩ trivial trivial (RGon (decide_eq_true h30) rfl (xd3 sl24 (by omega) (by omega) rfl) rfl ⟨rfl, rfl, trivial⟩ trivial trivial (RGon (decide_eq_true h30) rfl (x9 fo56_1 rfl) rfl ⟨rfl, trivial⟩ trivial trivial (RGon (decide_eq_true h30) rfl (d_loadF (es := 8) (o := 1) (xs.length - 1) ti3 (rV_getD (d := tst0) (by omega)) (At.g 1 rfl rfl) (by omega)) rfl ⟨rfl, trivial⟩ ⟨rfl, trivial⟩ trivial (RGon (decide_eq_true h30) rfl x3 rfl ⟨rfl, trivial⟩ trivial trivial (RGon (decide_eq_true h30) rfl xe5 rfl ⟨rfl, rfl, trivial⟩ trivial trivial (R2 (xb2 (decide_eq_true h30)) rfl rfl ?_)))))))
     refine R1 x3 rfl ?_
     refine RGcaseD (t := 61) rfl (fun h30_2 => ?_) (fun h30_2 => ?_)
     ·
      refine RGon (decide_eq_true h30_2) rfl x3 rfl ⟨rfl, trivial⟩ trivial trivial (RGon (decide_eq_true h30_2) rfl x3 rfl ⟨rfl, trivial⟩ trivial trivial (RGon (decide_eq_true h30_2) rfl (xd3 sl24 (by omega) (by omega) rfl) rfl ⟨rfl, rfl, trivial⟩ trivial trivial (RGon (decide_eq_true h30_2) rfl (x9 fo56_2 rfl) rfl ⟨rfl, trivial⟩ trivial trivial (RGon (decide_eq_true h30_2) rfl (d_loadF (es := 8) (o := 2) (xs.length - 1) ti37 (rV_getD (d := tst0) (by omega)) (At.g 2 rfl rfl) (by omega)) rfl ⟨rfl, trivial⟩ ⟨rfl, trivial⟩ trivial (RGon (decide_eq_true h30_2) rfl (xa8 (0) ti37 rfl rfl) rfl ⟨rfl, trivial⟩ ⟨rfl, trivial⟩ trivial (RGon (decide_eq_true h30_2) rfl (xa0 (c_SameValue _ _) fi18 rfl) rfl ⟨rfl, rfl, trivial⟩ trivial trivial (R2 (xb2 (decide_eq_true h30_2)) rfl rfl ?_)))))))
      refine xd4 (by kernel_rfl) (x4 ?_)
      refine xc1 rfl (fun h30_3 => ?_) (fun h30_3 => ?_)
      ·
       refine x8 ?_
       refine R1 x3 rfl (R1 x3 rfl (R1 x3 rfl (R2 (xd3 sl24 (by omega) (by omega) rfl) rfl rfl (R1 (x9 fo56_1 rfl) rfl (RE (d_storeF (es := 8) (o := 1) (t2 := tTs ⟨(xs.getD (xs.length - 1) tst0).lo, (tbS m k t).hi, (xs.getD (xs.length - 1) tst0).v⟩) (xs.length - 1) ti3 (rV_getD (d := tst0) (by omega)) (Up.g 1 rfl rfl rfl) (by omega) (rV_set rfl)) ⟨rfl, rfl, trivial⟩ ⟨rfl, trivial⟩ trivial (x7 (by kernel_rfl) (x4 ?_)))))))
       refine x8 ?_
       refine R1 x3 rfl (R1 x5 rfl (x7 (by kernel_rfl) (xc0 (x4 ?_))))
       refine x8 ?_
       refine R1 x3 rfl (R2 (xb9 (wr64 (by omega) (by omega))) rfl rfl (R1 x5 rfl (x7 (by kernel_rfl) ?_)))
       have hpx : pst1 xs (tbS m k t) = (xs.set (xs.length - 1) ⟨(xs.getD (xs.length - 1) tst0).lo, (tbS m k t).hi, (xs.getD (xs.length - 1) tst0).v⟩) := by
        have hlt := tbS_lt (m := m) (k := k) (t := t)
        rw [pst1, if_neg (by omega), if_pos ⟨by omega, by simp only [tbS, tbE, tbF]; omega, h30_3⟩]
       exact xb6 ((k + 1, (xs.set (xs.length - 1) ⟨(xs.getD (xs.length - 1) tst0).lo, (tbS m k t).hi, (xs.getD (xs.length - 1) tst0).v⟩), tbE m k t)) ⟨(by dsimp only; exact ⟨by omega, by rw [← hpx]; exact tbRun_next hk hb ⟨by omega, by omega⟩ (by simp only [tbE, tbF]; omega), by rw [List.length_set]; omega, by simp only [tbE, tbF]; omega, by simp only [tbE, tbF]; omega⟩), (by dsimp only; omega)⟩ (Sub.int rfl (by first | omega | rfl | (dsimp only; omega)) (Sub.int rfl (by first | omega | rfl | (dsimp only; omega)) ((Sub.consI rfl (Imp.of (by dsimp only; rw [List.length_set]))) (Sub.cons rfl Sub.nil)))) ((SubK.consI rfl ImpK.refl) SubK.nil) (SupG.val (SupG.val (SupG.own rfl (SupG.val SupG.nil)))) (SupH.cons rfl (supJ xc8) SupH.nil) (lkOk rfl)
      ·
       refine x8 ?_
       refine R1 x3 rfl (R1 x3 rfl (R1 x3 rfl (RE (xa8 (0) ti37 rfl rfl) ⟨rfl, trivial⟩ ⟨rfl, trivial⟩ trivial (R3 (xc7 (r := tS [⟨1, false, tI (tbS m k t).lo⟩, ⟨1, false, tI (tbS m k t).hi⟩, ⟨6, true, tVa (tbS m k t).v⟩]) (ts := [(0, tI (tbS m k t).lo), (1, tI (tbS m k t).hi), (2, tVa (tbS m k t).v)]) bu56 zr56.2 ⟨_, rfl⟩ rfl ⟨_, _, _, _, rfl, Up.f (fs := [⟨1, false, (tE (.int .i64 0))⟩, ⟨1, false, (tE (.int .i64 0))⟩, ⟨6, true, (tS [⟨1, false, (tE (.int .u8 0))⟩, ⟨4, true, (tS [⟨2, true, (tS [⟨1, false, (tE (.bool false))⟩, ⟨1, false, (tLm [])⟩])⟩, ⟨2, true, (tS [⟨1, false, (tE (.bool false))⟩, ⟨1, false, (tLm [])⟩])⟩])⟩, ⟨1, false, (tE (.int .i64 0))⟩])⟩]) (f := ⟨1, false, (tE (.int .i64 0))⟩) (fs' := [⟨1, false, tI (tbS m k t).lo⟩, ⟨1, false, (tE (.int .i64 0))⟩, ⟨6, true, (tS [⟨1, false, (tE (.int .u8 0))⟩, ⟨4, true, (tS [⟨2, true, (tS [⟨1, false, (tE (.bool false))⟩, ⟨1, false, (tLm [])⟩])⟩, ⟨2, true, (tS [⟨1, false, (tE (.bool false))⟩, ⟨1, false, (tLm [])⟩])⟩])⟩, ⟨1, false, (tE (.int .i64 0))⟩])⟩]) 0 rfl rfl rfl, inferInstance, ⟨_, _, _, _, rfl, Up.f (fs := [⟨1, false, tI (tbS m k t).lo⟩, ⟨1, false, (tE (.int .i64 0))⟩, ⟨6, true, (tS [⟨1, false, (tE (.int .u8 0))⟩, ⟨4, true, (tS [⟨2, true, (tS [⟨1, false, (tE (.bool false))⟩, ⟨1, false, (tLm [])⟩])⟩, ⟨2, true, (tS [⟨1, false, (tE (.bool false))⟩, ⟨1, false, (tLm [])⟩])⟩])⟩, ⟨1, false, (tE (.int .i64 0))⟩])⟩]) (f := ⟨1, false, (tE (.int .i64 0))⟩) (fs' := [⟨1, false, tI (tbS m k t).lo⟩, ⟨1, false, tI (tbS m k t).hi⟩, ⟨6, true, (tS [⟨1, false, (tE (.int .u8 0))⟩, ⟨4, true, (tS [⟨2, true, (tS [⟨1, false, (tE (.bool false))⟩, ⟨1, false, (tLm [])⟩])⟩, ⟨2, true, (tS [⟨1, false, (tE (.bool false))⟩, ⟨1, false, (tLm [])⟩])⟩])⟩, ⟨1, false, (tE (.int .i64 0))⟩])⟩]) 1 rfl rfl rfl, inferInstance, ⟨_, _, _, _, rfl, Up.f (fs := [⟨1, false, tI (tbS m k t).lo⟩, ⟨1, false, tI (tbS m k t).hi⟩, ⟨6, true, (tS [⟨1, false, (tE (.int .u8 0))⟩, ⟨4, true, (tS [⟨2, true, (tS [⟨1, false, (tE (.bool false))⟩, ⟨1, false, (tLm [])⟩])⟩, ⟨2, true, (tS [⟨1, false, (tE (.bool false))⟩, ⟨1, false, (tLm [])⟩])⟩])⟩, ⟨1, false, (tE (.int .i64 0))⟩])⟩]) (f := ⟨6, true, (tS [⟨1, false, (tE (.int .u8 0))⟩, ⟨4, true, (tS [⟨2, true, (tS [⟨1, false, (tE (.bool false))⟩, ⟨1, false, (tLm [])⟩])⟩, ⟨2, true, (tS [⟨1, false, (tE (.bool false))⟩, ⟨1, false, (tLm [])⟩])⟩])⟩, ⟨1, false, (tE (.int .i64 0))⟩])⟩) (fs' := [⟨1, false, tI (tbS m k t).lo⟩, ⟨1, false, tI (tbS m k t).hi⟩, ⟨6, true, tVa (tbS m k t).v⟩]) 2 rfl rfl rfl, inferInstance, Le.refl⟩⟩⟩) rfl rfl rfl (R1 (xe6 (n := 1) (f := tTs) [(tbS m k t)] Tryz.underlying24 el56 zf56 rfl (fun _ => inferInstance) rfl rfl rfl) rfl (RE (xf6 (k := 3) (k' := 81) (f := tTs) (ys := [(tbS m k t)]) (ts' := rV tTs (xs ++ [(tbS m k t)])) Tryz.underlying24 el56 zf56 rfl rfl (fun _ => inferInstance) xg4 (by simp; omega) (by simp; omega) (by simp [rV]) (n' := xs.length + 1) rfl) ⟨rfl, rfl, trivial⟩ ⟨rfl, trivial⟩ ⟨rfl, trivial⟩ (R1 x5 rfl ?_)))))))
       refine x7 (by kernel_rfl) (x4 ?_)
       refine x8 ?_
       refine R1 x3 rfl (R1 x5 rfl (x7 (by kernel_rfl) (xc0 (x4 ?_))))
       refine x8 ?_
       refine R1 x3 rfl (R2 (xb9 (wr64 (by omega) (by omega))) rfl rfl (R1 x5 rfl (x7 (by kernel_rfl) ?_)))
       have hpx : pst1 xs (tbS m k t) = xs ++ [(tbS m k t)] := by
        have hlt := tbS_lt (m := m) (k := k) (t := t)
        rw [pst1, if_neg (by omega), if_neg (fun h => h30_3 h.2.2)]
       exact K_famR (l := [3]) (fun j => cond (Nat.beq j 3) 81 (j)) ((k + 1, xs ++ [(tbS m k t)], tbE m k t)) ⟨(by dsimp only; exact ⟨by omega, by rw [← hpx]; exact tbRun_next hk hb ⟨by omega, by omega⟩ (by simp only [tbE, tbF]; omega), by rw [List.length_append]; simp; omega, by simp only [tbE, tbF]; omega, by simp only [tbE, tbF]; omega⟩), (by dsimp only; omega)⟩ (SubR.int rfl (by first | omega | rfl | (dsimp only; omega)) (SubR.int rfl (by first | omega | rfl | (dsimp only; omega)) ((SubR.consI rfl (Imp.of (by dsimp only; rw [List.length_append]; rfl))) (SubR.cons rfl SubR.nil)))) ((SubKR.consI rfl (ImpK.of xe9.symm)) SubKR.nil) (SupG.val (SupG.val (SupG.own rfl (SupG.val SupG.nil)))) (SupH.cons rfl (supJ xc8) SupH.nil) (lkOk rfl) rfl rfl (fun _ h => by cases h)
     ·
      refine RGoff (decide_eq_false h30_2) rfl rfl (RGoff (decide_eq_false h30_2) rfl rfl (RGoff (decide_eq_false h30_2) rfl rfl (RGoff (decide_eq_false h30_2) rfl rfl (RGoff (decide_eq_false h30_2) rfl rfl (RGoff (decide_eq_false h30_2) rfl rfl (RGoff (decide_eq_false h30_2) rfl rfl (R2 (xa7 (decide_eq_false h30_2)) rfl rfl ?_)))))))
      refine xd4 (by kernel_rfl) (x4 (C_bF rfl rfl ?_))
      refine x8 ?_
      refine R1 x3 rfl (R1 x3 rfl (R1 x3 rfl (RE (xa8 (0) ti37 rfl rfl) ⟨rfl, trivial⟩ ⟨rfl, trivial⟩ trivial (R3 (xc7 (r := tS [⟨1, false, tI (tbS m k t).lo⟩, ⟨1, false, tI (tbS m k t).hi⟩, ⟨6, true, tVa (tbS m k t).v⟩]) (ts := [(0, tI (tbS m k t).lo), (1, tI (tbS m k t).hi), (2, tVa (tbS m k t).v)]) bu56 zr56.2 ⟨_, rfl⟩ rfl ⟨_, _, _, _, rfl, Up.f (fs := [⟨1, false, (tE (.int .i64 0))⟩, ⟨1, false, (tE (.int .i64 0))⟩, ⟨6, true, (tS [⟨1, false, (tE (.int .u8 0))⟩, ⟨4, true, (tS [⟨2, true, (tS [⟨1, false, (tE (.bool false))⟩, ⟨1, false, (tLm [])⟩])⟩, ⟨2, true, (tS [⟨1, false, (tE (.bool false))⟩, ⟨1, false, (tLm [])⟩])⟩])⟩, ⟨1, false, (tE (.int .i64 0))⟩])⟩]) (f := ⟨1, false, (tE (.int .i64 0))⟩) (fs' := [⟨1, false, tI (tbS m k t).lo⟩, ⟨1, false, (tE (.int .i64 0))⟩, ⟨6, true, (tS [⟨1, false, (tE (.int .u8 0))⟩, ⟨4, true, (tS [⟨2, true, (tS [⟨1, false, (tE (.bool false))⟩, ⟨1, false, (tLm [])⟩])⟩, ⟨2, true, (tS [⟨1, false, (tE (.bool false))⟩, ⟨1, false, (tLm [])⟩])⟩])⟩, ⟨1, false, (tE (.int .i64 0))⟩])⟩]) 0 rfl rfl rfl, inferInstance, ⟨_, _, _, _, rfl, Up.f (fs := [⟨1, false, tI (tbS m k t).lo⟩, ⟨1, false, (tE (.int .i64 0))⟩, ⟨6, true, (tS [⟨1, false, (tE (.int .u8 0))⟩, ⟨4, true, (tS [⟨2, true, (tS [⟨1, false, (tE (.bool false))⟩, ⟨1, false, (tLm [])⟩])⟩, ⟨2, true, (tS [⟨1, false, (tE (.bool false))⟩, ⟨1, false, (tLm [])⟩])⟩])⟩, ⟨1, false, (tE (.int .i64 0))⟩])⟩]) (f := ⟨1, false, (tE (.int .i64 0))⟩) (fs' := [⟨1, false, tI (tbS m k t).lo⟩, ⟨1, false, tI (tbS m k t).hi⟩, ⟨6, true, (tS [⟨1, false, (tE (.int .u8 0))⟩, ⟨4, true, (tS [⟨2, true, (tS [⟨1, false, (tE (.bool false))⟩, ⟨1, false, (tLm [])⟩])⟩, ⟨2, true, (tS [⟨1, false, (tE (.bool false))⟩, ⟨1, false, (tLm [])⟩])⟩])⟩, ⟨1, false, (tE (.int .i64 0))⟩])⟩]) 1 rfl rfl rfl, inferInstance, ⟨_, _, _, _, rfl, Up.f (fs := [⟨1, false, tI (tbS m k t).lo⟩, ⟨1, false, tI (tbS m k t).hi⟩, ⟨6, true, (tS [⟨1, false, (tE (.int .u8 0))⟩, ⟨4, true, (tS [⟨2, true, (tS [⟨1, false, (tE (.bool false))⟩, ⟨1, false, (tLm [])⟩])⟩, ⟨2, true, (tS [⟨1, false, (tE (.bool false))⟩, ⟨1, false, (tLm [])⟩])⟩])⟩, ⟨1, false, (tE (.int .i64 0))⟩])⟩]) (f := ⟨6, true, (tS [⟨1, false, (tE (.int .u8 0))⟩, ⟨4, true, (tS [⟨2, true, (tS [⟨1, false, (tE (.bool false))⟩, ⟨1, false, (tLm [])⟩])⟩, ⟨2, true, (tS [⟨1, false, (tE (.bool false))⟩, ⟨1, false, (tLm [])⟩])⟩])⟩, ⟨1, false, (tE (.int .i64 0))⟩])⟩) (fs' := [⟨1, false, tI (tbS m k t).lo⟩, ⟨1, false, tI (tbS m k t).hi⟩, ⟨6, true, tVa (tbS m k t).v⟩]) 2 rfl rfl rfl, inferInstance, Le.refl⟩⟩⟩) rfl rfl rfl (R1 (xe6 (n := 1) (f := tTs) [(tbS m k t)] Tryz.underlying24 el56 zf56 rfl (fun _ => inferInstance) rfl rfl rfl) rfl (RE (xf6 (k := 3) (k' := 81) (f := tTs) (ys := [(tbS m k t)]) (ts' := rV tTs (xs ++ [(tbS m k t)])) Tryz.underlying24 el56 zf56 rfl rfl (fun _ => inferInstance) xg4 (by simp; omega) (by simp; omega) (by simp [rV]) (n' := xs.length + 1) rfl) ⟨rfl, rfl, trivial⟩ ⟨rfl, trivial⟩ ⟨rfl, trivial⟩ (R1 x5 rfl ?_)))))))
      refine x7 (by kernel_rfl) (x4 ?_)
      refine x8 ?_
      refine R1 x3 rfl (R1 x5 rfl (x7 (by kernel_rfl) (xc0 (x4 ?_))))
      refine x8 ?_
      refine R1 x3 rfl (R2 (xb9 (wr64 (by omega) (by omega))) rfl rfl (R1 x5 rfl (x7 (by kernel_rfl) ?_)))
      have hpx : pst1 xs (tbS m k t) = xs ++ [(tbS m k t)] := by
       have hlt := tbS_lt (m := m) (k := k) (t := t)
       rw [pst1, if_neg (by omega), if_neg (fun h => h30_2 (by have := h.2.1; simp only [tbS, tbF] at this; omega))]
      exact K_famR (l := [3]) (fun j => cond (Nat.beq j 3) 81 (j)) ((k + 1, xs ++ [(tbS m k t)], tbE m k t)) ⟨(by dsimp only; exact ⟨by omega, by rw [← hpx]; exact tbRun_next hk hb ⟨by omega, by omega⟩ (by simp only [tbE, tbF]; omega), by rw [List.length_append]; simp; omega, by simp only [tbE, tbF]; omega, by simp only [tbE, tbF]; omega⟩), (by dsimp only; omega)⟩ (SubR.int rfl (by first | omega | rfl | (dsimp only; omega)) (SubR.int rfl (by first | omega | rfl | (dsimp only; omega)) ((SubR.consI rfl (Imp.of (by dsimp only; rw [List.length_append]; rfl))) (SubR.cons rfl SubR.nil)))) ((SubKR.consI rfl (ImpK.of xe9.symm)) SubKR.nil) (SupG.val (SupG.val (SupG.own rfl (SupG.val SupG.nil)))) (SupH.cons rfl (supJ xc8) SupH.nil) (lkOk rfl) rfl rfl (fun _ h => by cases h)
    ·
     refine RGoff (decide_eq_false h30) rfl rfl (RGoff (decide_eq_false h30) rfl rfl (RGoff (decide_eq_false h30) rfl rfl (RGoff (decide_eq_false h30) rfl rfl (RGoff (decide_eq_false h30) rfl rfl (RGoff (decide_eq_false h30) rfl rfl (RGoff (decide_eq_false h30) rfl rfl (R2 (xa7 (decide_eq_false h30)) rfl rfl ?_)))))))
     refine R1 x3 rfl (RGoff0 rfl rfl (RGoff0 rfl rfl (RGoff0 rfl rfl (RGoff0 rfl rfl (RGoff0 rfl rfl (RGoff0 rfl rfl (RGoff0 rfl rfl ?_)))))))
     refine R2 (xa7 rfl) rfl rfl (xd4 (by kernel_rfl) (x4 (C_bF rfl rfl ?_)))
     refine x8 ?_
     refine R1 x3 rfl (R1 x3 rfl (R1 x3 rfl (RE (xa8 (0) ti37 rfl rfl) ⟨rfl, trivial⟩ ⟨rfl, trivial⟩ trivial (R3 (xc7 (r := tS [⟨1, false, tI (tbS m k t).lo⟩, ⟨1, false, tI (tbS m k t).hi⟩, ⟨6, true, tVa (tbS m k t).v⟩]) (ts := [(0, tI (tbS m k t).lo), (1, tI (tbS m k t).hi), (2, tVa (tbS m k t).v)]) bu56 zr56.2 ⟨_, rfl⟩ rfl ⟨_, _, _, _, rfl, Up.f (fs := [⟨1, false, (tE (.int .i64 0))⟩, ⟨1, false, (tE (.int .i64 0))⟩, ⟨6, true, (tS [⟨1, false, (tE (.int .u8 0))⟩, ⟨4, true, (tS [⟨2, true, (tS [⟨1, false, (tE (.bool false))⟩, ⟨1, false, (tLm [])⟩])⟩, ⟨2, true, (tS [⟨1, false, (tE (.bool false))⟩, ⟨1, false, (tLm [])⟩])⟩])⟩, ⟨1, false, (tE (.int .i64 0))⟩])⟩]) (f := ⟨1, false, (tE (.int .i64 0))⟩) (fs' := [⟨1, false, tI (tbS m k t).lo⟩, ⟨1, false, (tE (.int .i64 0))⟩, ⟨6, true, (tS [⟨1, false, (tE (.int .u8 0))⟩, ⟨4, true, (tS [⟨2, true, (tS [⟨1, false, (tE (.bool false))⟩, ⟨1, false, (tLm [])⟩])⟩, ⟨2, true, (tS [⟨1, false, (tE (.bool false))⟩, ⟨1, false, (tLm [])⟩])⟩])⟩, ⟨1, false, (tE (.int .i64 0))⟩])⟩]) 0 rfl rfl rfl, inferInstance, ⟨_, _, _, _, rfl, Up.f (fs := [⟨1, false, tI (tbS m k t).lo⟩, ⟨1, false, (tE (.int .i64 0))⟩, ⟨6, true, (tS [⟨1, false, (tE (.int .u8 0))⟩, ⟨4, true, (tS [⟨2, true, (tS [⟨1, false, (tE (.bool false))⟩, ⟨1, false, (tLm [])⟩])⟩, ⟨2, true, (tS [⟨1, false, (tE (.bool false))⟩, ⟨1, false, (tLm [])⟩])⟩])⟩, ⟨1, false, (tE (.int .i64 0))⟩])⟩]) (f := ⟨1, false, (tE (.int .i64 0))⟩) (fs' := [⟨1, false, tI (tbS m k t).lo⟩, ⟨1, false, tI (tbS m k t).hi⟩, ⟨6, true, (tS [⟨1, false, (tE (.int .u8 0))⟩, ⟨4, true, (tS [⟨2, true, (tS [⟨1, false, (tE (.bool false))⟩, ⟨1, false, (tLm [])⟩])⟩, ⟨2, true, (tS [⟨1, false, (tE (.bool false))⟩, ⟨1, false, (tLm [])⟩])⟩])⟩, ⟨1, false, (tE (.int .i64 0))⟩])⟩]) 1 rfl rfl rfl, inferInstance, ⟨_, _, _, _, rfl, Up.f (fs := [⟨1, false, tI (tbS m k t).lo⟩, ⟨1, false, tI (tbS m k t).hi⟩, ⟨6, true, (tS [⟨1, false, (tE (.int .u8 0))⟩, ⟨4, true, (tS [⟨2, true, (tS [⟨1, false, (tE (.bool false))⟩, ⟨1, false, (tLm [])⟩])⟩, ⟨2, true, (tS [⟨1, false, (tE (.bool false))⟩, ⟨1, false, (tLm [])⟩])⟩])⟩, ⟨1, false, (tE (.int .i64 0))⟩])⟩]) (f := ⟨6, true, (tS [⟨1, false, (tE (.int .u8 0))⟩, ⟨4, true, (tS [⟨2, true, (tS [⟨1, false, (tE (.bool false))⟩, ⟨1, false, (tLm [])⟩])⟩, ⟨2, true, (tS [⟨1, false, (tE (.bool false))⟩, ⟨1, false, (tLm [])⟩])⟩])⟩, ⟨1, false, (tE (.int .i64 0))⟩])⟩) (fs' := [⟨1, false, tI (tbS m k t).lo⟩, ⟨1, false, tI (tbS m k t).hi⟩, ⟨6, true, tVa (tbS m k t).v⟩]) 2 rfl rfl rfl, inferInstance, Le.refl⟩⟩⟩) rfl rfl rfl (R1 (xe6 (n := 1) (f := tTs) [(tbS m k t)] Tryz.underlying24 el56 zf56 rfl (fun _ => inferInstance) rfl rfl rfl) rfl (RE (xf6 (k := 3) (k' := 81) (f := tTs) (ys := [(tbS m k t)]) (ts' := rV tTs (xs ++ [(tbS m k t)])) Tryz.underlying24 el56 zf56 rfl rfl (fun _ => inferInstance) xg4 (by simp; omega) (by simp; omega) (by simp [rV]) (n' := xs.length + 1) rfl) ⟨rfl, rfl, trivial⟩ ⟨rfl, trivial⟩ ⟨rfl, trivial⟩ (R1 x5 rfl ?_)))))))
     refine x7 (by kernel_rfl) (x4 ?_)
     refine x8 ?_
     refine R1 x3 rfl (R1 x5 rfl (x7 (by kernel_rfl) (xc0 (x4 ?_))))
     refine x8 ?_
     refine R1 x3 rfl (R2 (xb9 (wr64 (by omega) (by omega))) rfl rfl (R1 x5 rfl (x7 (by kernel_rfl) ?_)))
     have hpx : pst1 xs (tbS m k t) = xs ++ [(tbS m k t)] := by
      have hlt := tbS_lt (m := m) (k := k) (t := t)
      rw [pst1, if_neg (by omega), if_neg (by omega)]
     exact K_famR (l := [3]) (fun j => cond (Nat.beq j 3) 81 (j)) ((k + 1, xs ++ [(tbS m k t)], tbE m k t)) ⟨(by dsimp only; exact ⟨by omega, by rw [← hpx]; exact tbRun_next hk hb ⟨by omega, by omega⟩ (by simp only [tbE, tbF]; omega), by rw [List.length_append]; simp; omega, by simp only [tbE, tbF]; omega, by simp only [tbE, tbF]; omega⟩), (by dsimp only; omega)⟩ (SubR.int rfl (by first | omega | rfl | (dsimp only; omega)) (SubR.int rfl (by first | omega | rfl | (dsimp only; omega)) ((SubR.consI rfl (Imp.of (by dsimp only; rw [List.length_append]; rfl))) (SubR.cons rfl SubR.nil)))) ((SubKR.consI rfl (ImpK.of xe9.symm)) SubKR.nil) (SupG.val (SupG.val (SupG.own rfl (SupG.val SupG.nil)))) (SupH.cons rfl (supJ xc8) SupH.nil) (lkOk rfl) rfl rfl (fun _ h => by cases h)
  ·
   refine xd0 (xb5 (xb5 (xd5 (x4 (x6 ?_)))))
   refine x8 ?_
   refine R1 x3 rfl (RE (xi1 (f := tTs) (xs := xs) (fun _ h => h) (rV_all rfl) rfl) ⟨rfl, trivial⟩ ⟨rfl, trivial⟩ trivial (x7 (by kernel_rfl) (x4 (xa1 ?_))))
   exact xa6 Plain.mk' rfl rfl (Le.of (by rw [tbRun_stop hk hb (.inl (by omega))]))
 ·
  refine RGoff (decide_eq_false h24) rfl rfl (RGoff (decide_eq_false h24) rfl rfl (R2 (xa7 (decide_eq_false h24)) rfl rfl (x7 (by kernel_rfl) (x4 (C_bF rfl rfl (xd0 (xb5 ?_)))))))
  refine xb5 (xd5 (x4 (x6 ?_)))
  refine x8 ?_
  refine R1 x3 rfl (RE (xi1 (f := tTs) (xs := xs) (fun _ h => h) (rV_all rfl) rfl) ⟨rfl, trivial⟩ ⟨rfl, trivial⟩ trivial (x7 (by kernel_rfl) (x4 (xa1 ?_))))
  exact xa6 Plain.mk' rfl rfl (Le.of (by rw [tbRun_stop hk hb (.inl (by omega))]))
theorem c_value05 (l : List Tst) (d : Int) :
  Ct Tryz.prog 16 [tL 8 true tTs l, tI d] (tT [tVa ((valT l d).getD An.va0), tB (valT l d).isSome]) := by
 refine Ct.intro Tryz.func16 rfl Tryz.ntmps16 rfl ?_
 intro w F
 refine C_len (s := 0) rfl (fun hl0 => ?_)
 refine x6 ?_
 refine x8 ?_
 refine RE (xc4 (k := 4) (n := 6) (agg := true) zr37.1 zr37.2 rfl) trivial trivial ⟨rfl, trivial⟩ (R1 x5 rfl (x7 (by kernel_rfl) (x4 (x6 (x6 ?_)))))
 refine x8 ?_
 refine R1 x5 rfl (x7 (by kernel_rfl) (x4 (xa9 ?_)))
 refine xd6 (fun (i : Nat) => i ≤ l.length ∧ ∀ j, j < i → ¬ ((l.getD j tst0).lo ≤ d ∧ d < (l.getD j tst0).hi)) (fun (i : Nat) => upd (upd (upd (upd (fun _ => none) 0 (some (.val (tL 8 true tTs l)))) 1 (some (.val (tI d)))) 4 (some (.own (.ptr 4 0)))) 6 (some (.val (tI i)))) (fun (i : Nat) => upd (fun _ => none) 4 (some (⟨37, 6, true, [.val (tVa An.va0)]⟩))) (nm [4]) (fun (i : Nat) => l.length - i) (0) ⟨Nat.zero_le _, fun j hj => absurd hj (Nat.not_lt_zero _)⟩ (Sub.int rfl (by first | omega | rfl | (dsimp only; omega)) (Sub.cons rfl (Sub.int rfl (by first | omega | rfl | (dsimp only; omega)) (Sub.cons rfl Sub.nil)))) ((SubK.consI rfl ImpK.refl) SubK.nil) (SupG.val (SupG.own rfl (SupG.val (SupG.val SupG.nil)))) (SupH.cons rfl (supJL rfl) SupH.nil) (lkOk rfl) ?_
 intro i hI
 obtain ⟨hi, hj⟩ := hI
 refine x6 (x6 ?_)
 refine x8 ?_
 refine R1 x3 rfl (R1 x3 rfl (R1 (xc3 Tryz.underlying24) rfl (R2 xd2 rfl rfl (x7 (by kernel_rfl) (x4 ?_)))))
 refine xc1 rfl (fun h42 => ?_) (fun h42 => ?_)
 ·
  refine xa2 (x4 (x6 (xa9 (x6 ?_))))
  refine x8 ?_
  refine R1 x3 rfl (R1 x3 rfl (R2 (xb3 sl24 (i) (by omega) (gD (l := l) (n := i) (d := tst0) (by omega))) rfl rfl (R1 (xe8 fo56_0 (At.f 0 rfl rfl) rfl) rfl (R1 (xb8 ti3) rfl (R1 x3 rfl (R2 d_leq rfl rfl (R1 x3 rfl ?_)))))))
  refine RGcaseD (t := 20) rfl (fun h43 => ?_) (fun h43 => ?_)
  ·
   refine RGon (decide_eq_true h43) rfl x3 rfl ⟨rfl, trivial⟩ trivial trivial (RGon (decide_eq_true h43) rfl x3 rfl ⟨rfl, trivial⟩ trivial trivial (RGon (decide_eq_true h43) rfl x3 rfl ⟨rfl, trivial⟩ trivial trivial (RGon (decide_eq_true h43) rfl (xb3 sl24 (i) (by omega) (gD (l := l) (n := i) (d := tst0) (by omega))) rfl ⟨rfl, rfl, trivial⟩ trivial trivial (RGon (decide_eq_true h43) rfl (xe8 fo56_1 (At.f 1 rfl rfl) rfl) rfl ⟨rfl, trivial⟩ trivial trivial (RGon (decide_eq_true h43) rfl (xb8 ti3) rfl ⟨rfl, trivial⟩ trivial trivial (RGon (decide_eq_true h43) rfl xd2 rfl ⟨rfl, rfl, trivial⟩ trivial trivial (R2 (xb2 (decide_eq_true h43)) rfl rfl ?_)))))))
   refine x7 (by kernel_rfl) (x4 ?_)
   refine xc1 rfl (fun h43_2 => ?_) (fun h43_2 => ?_)
   ·
    refine x6 ?_
    refine x8 ?_
    refine R1 x3 rfl (R1 x3 rfl (R2 (xb3 sl24 (i) (by omega) (gD (l := l) (n := i) (d := tst0) (by omega))) rfl rfl (R1 (xe8 fo56_2 (At.f 2 rfl rfl) rfl) rfl (R1 (xb8 ti37) rfl (RE (xa4 (es := 6) (agg := true) (0) ti37 rfl rfl rfl) ⟨rfl, rfl, trivial⟩ ⟨rfl, trivial⟩ trivial (R1 x5 rfl (x7 (by kernel_rfl) ?_)))))))
    refine x4 (xa1 (xc5 (xa3 (xa3 (xc5 (xa3 ?_))))))
    exact xg0 Plain.mk' (rs := [.cell 4 37, .tmp 5]) rfl rfl ⟨⟨_, _, _, _, _, rfl, rfl, ti37, (Le.of (by rw [valT_first (by omega) hj ⟨by omega, by omega⟩]; rfl))⟩, ⟨_, rfl, (Le.bool (by rw [valT_first (by omega) hj ⟨by omega, by omega⟩]; rfl))⟩, trivial⟩
   ·
    refine xa2 (xc0 (x4 ?_))
    refine x8 ?_
    refine R1 x3 rfl (R2 (xb9 (wr64 (by omega) (by omega))) rfl rfl (R1 x5 rfl (x7 (by kernel_rfl) ?_)))
    exact xb6 (i + 1) ⟨⟨by omega, fun j hj2 => by rcases Nat.lt_or_ge j i with h1 | h1; exact hj j h1; rw [show j = i by omega]; omega⟩, (by omega)⟩ (Sub.int rfl (by first | omega | rfl | (dsimp only; omega)) (Sub.cons rfl (Sub.int rfl (by first | omega | rfl | (dsimp only; omega)) (Sub.cons rfl Sub.nil)))) ((SubK.consI rfl ImpK.refl) SubK.nil) (SupG.val (SupG.own rfl (SupG.val (SupG.val SupG.nil)))) (SupH.cons rfl (supJL rfl) SupH.nil) (lkOk rfl)
  ·
   refine RGoff (decide_eq_false h43) rfl rfl (RGoff (decide_eq_false h43) rfl rfl (RGoff (decide_eq_false h43) rfl rfl (RGoff (decide_eq_false h43) rfl rfl (RGoff (decide_eq_false h43) rfl rfl (RGoff (decide_eq_false h43) rfl rfl (RGoff (decide_eq_false h43) rfl rfl (R2 (xa7 (decide_eq_false h43)) rfl rfl ?_)))))))
   refine x7 (by kernel_rfl) (x4 (C_bF rfl rfl (xa2 (xc0 (x4 ?_)))))
   refine x8 ?_
   refine R1 x3 rfl (R2 (xb9 (wr64 (by omega) (by omega))) rfl rfl (R1 x5 rfl (x7 (by kernel_rfl) ?_)))
   exact xb6 (i + 1) ⟨⟨by omega, fun j hj2 => by rcases Nat.lt_or_ge j i with h1 | h1; exact hj j h1; rw [show j = i by omega]; omega⟩, (by omega)⟩ (Sub.int rfl (by first | omega | rfl | (dsimp only; omega)) (Sub.cons rfl (Sub.int rfl (by first | omega | rfl | (dsimp only; omega)) (Sub.cons rfl Sub.nil)))) ((SubK.consI rfl ImpK.refl) SubK.nil) (SupG.val (SupG.own rfl (SupG.val (SupG.val SupG.nil)))) (SupH.cons rfl (supJL rfl) SupH.nil) (lkOk rfl)
 ·
  refine xd0 (xb5 (xb5 (xd5 (x4 (x6 ?_)))))
  refine x8 ?_
  refine R0 (xc7 (r := tS [⟨1, false, (tE (.int .u8 0))⟩, ⟨4, true, (tS [⟨2, true, (tS [⟨1, false, (tE (.bool false))⟩, ⟨1, false, (tLm [])⟩])⟩, ⟨2, true, (tS [⟨1, false, (tE (.bool false))⟩, ⟨1, false, (tLm [])⟩])⟩])⟩, ⟨1, false, (tE (.int .i64 0))⟩]) (ts := []) bu37 zr37.2 ⟨_, rfl⟩ rfl Le.refl)  (RE (xa4 (es := 6) (agg := true) (0) ti37 rfl rfl rfl) ⟨rfl, rfl, trivial⟩ ⟨rfl, trivial⟩ trivial (R1 x5 rfl (x7 (by kernel_rfl) (x4 (xa1 ?_)))))
  exact xg0 Plain.mk' (rs := [.cell 4 37, .tmp 5]) rfl rfl ⟨⟨_, _, _, _, _, rfl, rfl, ti37, (Le.of (by rw [valT_never (fun j hj2 => hj j (by omega))]; rfl))⟩, ⟨_, rfl, (Le.bool (by rw [valT_never (fun j hj2 => hj j (by omega))]; rfl))⟩, trivial⟩
theorem c_look (a b : List Tst) (d : Int) (hla : a.length ≤ 100000) (hlb : b.length ≤ 100000) (hba : ∀ s ∈ a, -100000 ≤ s.lo ∧ s.lo ≤ 100000 ∧ -100000 ≤ s.hi ∧ s.hi ≤ 100000) (hbb : ∀ s ∈ b, -100000 ≤ s.lo ∧ s.lo ≤ 100000 ∧ -100000 ≤ s.hi ∧ s.hi ≤ 100000) :
    Ct Tryz.prog 15 [tL 8 true tTs a, tL 8 true tTs b, tI d] (tL 1 false tI (lkT a b d)) := by
  have htl : tlen [a, b] ≤ 200000 := by simp [tlen]; omega
  have hab : ∀ i, ∀ s ∈ [a, b].getD i [], -100000 ≤ s.lo ∧ s.lo ≤ 100000 ∧ -100000 ≤ s.hi ∧ s.hi ≤ 100000 := fun i s hs => by
    match i, hs with
    | 0, hs => exact hba s hs
    | 1, hs => exact hbb s hs
    | i + 2, hs => simp at hs
  refine Ct.intro Tryz.func15 rfl Tryz.ntmps15 rfl ?_
  intro w F
  refine x6 ?_
  refine x8 ?_
  refine R1 x5 rfl (x7 (by kernel_rfl) (x4 (x6 ?_)))
  refine x8 ?_
  refine R1 x3 rfl (RE (d_sliceOfO (k := 13) (ents := rV tI [d]) Tryz.underlying30 el3 zf3 rfl (fun e he => by simp only [rV, List.map_cons, List.map_nil, List.mem_singleton] at he; subst he; infer_instance) rfl rfl rfl) ⟨rfl, trivial⟩ trivial ⟨rfl, trivial⟩ (R1 x5 rfl (x7 (by kernel_rfl) (x4 (x6 (x6 ?_))))))
  refine x8 ?_
  refine R1 x3 rfl (R1 x3 rfl (R2 (xe6 (n := 2) (f := fun l => tL 8 true tTs l) [a, b] Tryz.underlying92 el24 zf24 rfl (fun _ => inferInstance) rfl rfl rfl) rfl rfl (R1 (xc3 Tryz.underlying92) rfl (R1 x3 rfl (x7 (by kernel_rfl) (x4 (xa9 ?_)))))))
  refine xd6 (fun (fm : (Nat) × (List Int)) => (fun (i : Nat) (xs : List Int) => i ≤ 2 ∧ xs = d :: ([a, b].take i).flatMap eds4) fm.1 fm.2) (fun (fm : (Nat) × (List Int)) => (fun (i : Nat) (xs : List Int) => upd (upd (upd (upd (fun _ => none) 7 (some (.own (.sl 13 1 0 xs.length)))) 16 (some (.val (tL 1 false (fun l => tL 8 true tTs l) [a, b])))) 17 (some (.val (tI 2)))) 18 (some (.val (tI i)))) fm.1 fm.2) (fun (fm : (Nat) × (List Int)) => (fun (i : Nat) (xs : List Int) => upd (fun _ => none) 13 (some (⟨3, 1, false, rV tI xs⟩))) fm.1 fm.2) (nm [13]) (fun (fm : (Nat) × (List Int)) => (fun (i : Nat) (xs : List Int) => 2 - i) fm.1 fm.2) ((0, [d])) (by dsimp only; exact ⟨Nat.zero_le _, rfl⟩) (Sub.int rfl (by first | omega | rfl | (dsimp only; omega)) (Sub.int rfl (by first | omega | rfl | (dsimp only; omega)) (Sub.cons rfl (Sub.cons rfl Sub.nil)))) ((SubK.consI rfl ImpK.refl) SubK.nil) (SupG.val (SupG.val (SupG.val (SupG.own rfl SupG.nil)))) (SupH.cons rfl (supJ xc8) SupH.nil) (lkOk rfl) ?_
  intro fm hI
  obtain ⟨i, xs⟩ := fm
  replace hI : i ≤ 2 ∧ xs = d :: ([a, b].take i).flatMap eds4 := hI
  show wc _ _ _ _ (upd (upd (upd (upd (fun _ => none) 7 (some (.own (.sl 13 1 0 xs.length)))) 16 (some (.val (tL 1 false (fun l => tL 8 true tTs l) [a, b])))) 17 (some (.val (tI 2)))) 18 (some (.val (tI i)))) (upd (fun _ => none) 13 (some (⟨3, 1, false, rV tI xs⟩))) _
  obtain ⟨hi, hx⟩ := hI
  refine x6 ?_
  refine x8 ?_
  refine R2 xd2 rfl rfl (x7 (by kernel_rfl) (x4 (x6 ?_)))
  refine xc1 rfl (fun h53 => ?_) (fun h53 => ?_)
  ·
    refine xa2 (x4 (x6 (xa9 (x6 ?_))))
    refine x8 ?_
    refine R2 (xb3 sl92 (i) (by omega) (gD (l := [a, b]) (n := i) (d := []) (by simp; omega))) rfl rfl (R1 (xb8 ti24) rfl (R1 x5 rfl (x7 (by kernel_rfl) (x4 (x6 ?_)))))
    refine x8 ?_
    refine R1 x3 rfl (R1 (xc3 Tryz.underlying24) rfl (R1 x3 rfl (x7 (by kernel_rfl) (x4 (xa9 ?_)))))
    refine C_len (s := 22) rfl (fun hl0 => ?_)
    have htk := tlen_take (ls := [a, b]) (i := i) (by simp; omega)
    refine xd6 (fun (fm : (Nat) × (List Int)) => (fun (j : Nat) (xs : List Int) => j ≤ ([a, b].getD i []).length ∧ xs = d :: (([a, b].take i).flatMap eds4 ++ eds4 (([a, b].getD i []).take j))) fm.1 fm.2) (fun (fm : (Nat) × (List Int)) => (fun (j : Nat) (xs : List Int) => upd (upd (upd (upd (upd (upd (upd (fun _ => none) 7 (some (.own (.sl 13 1 0 xs.length)))) 16 (some (.val (tL 1 false (fun l => tL 8 true tTs l) [a, b])))) 17 (some (.val (tI 2)))) 18 (some (.val (tI i)))) 22 (some (.val (tL 8 true tTs ([a, b].getD i []))))) 23 (some (.val (tI ([a, b].getD i []).length)))) 24 (some (.val (tI j)))) fm.1 fm.2) (fun (fm : (Nat) × (List Int)) => (fun (j : Nat) (xs : List Int) => upd (fun _ => none) 13 (some (⟨3, 1, false, rV tI xs⟩))) fm.1 fm.2) (nm [13]) (fun (fm : (Nat) × (List Int)) => (fun (j : Nat) (xs : List Int) => ([a, b].getD i []).length - j) fm.1 fm.2) ((0, xs)) (by dsimp only; exact ⟨Nat.zero_le _, by rw [List.take_zero, hx]; simp [eds4]⟩) (Sub.int rfl (by first | omega | rfl | (dsimp only; omega)) (Sub.int rfl (by first | omega | rfl | (dsimp only; omega)) (Sub.cons rfl (Sub.int rfl (by first | omega | rfl | (dsimp only; omega)) (Sub.int rfl (by first | omega | rfl | (dsimp only; omega)) (Sub.cons rfl (Sub.cons rfl Sub.nil))))))) ((SubK.consI rfl ImpK.refl) SubK.nil) (SupG.val (SupG.val (SupG.val (SupG.val (SupG.val (SupG.val (SupG.own rfl SupG.nil))))))) (SupH.cons rfl (supJ xc8) SupH.nil) (lkOk rfl) ?_
    intro fm hI2
    obtain ⟨j, xs⟩ := fm
    replace hI2 : j ≤ ([a, b].getD i []).length ∧ xs = d :: (([a, b].take i).flatMap eds4 ++ eds4 (([a, b].getD i []).take j)) := hI2
    show wc _ _ _ _ (upd (upd (upd (upd (upd (upd (upd (fun _ => none) 7 (some (.own (.sl 13 1 0 xs.length)))) 16 (some (.val (tL 1 false (fun l => tL 8 true tTs l) [a, b])))) 17 (some (.val (tI 2)))) 18 (some (.val (tI i)))) 22 (some (.val (tL 8 true tTs ([a, b].getD i []))))) 23 (some (.val (tI ([a, b].getD i []).length)))) 24 (some (.val (tI j)))) (upd (fun _ => none) 13 (some (⟨3, 1, false, rV tI xs⟩))) _
    obtain ⟨hj, hx2⟩ := hI2
    have hxl : xs.length = 1 + 4 * tlen ([a, b].take i) + 4 * j := by rw [hx2, List.length_cons, List.length_append, flat4_len, eds4_len, List.length_take, Nat.min_eq_left hj]; omega
    refine x6 ?_
    refine x8 ?_
    refine R2 xd2 rfl rfl (x7 (by kernel_rfl) (x4 (x6 ?_)))
    refine xc1 rfl (fun h54 => ?_) (fun h54 => ?_)
    ·
      refine xa2 (x4 (x6 (xa9 (x6 ?_))))
      refine x8 ?_
      have hs := hab i (([a, b].getD i []).getD j tst0) (xf2 (by omega))
      refine R2 (xb3 sl24 (j) (by omega) (gD (l := ([a, b].getD i [])) (n := j) (d := tst0) (by omega))) rfl rfl (R1 (xb8 ti56) rfl (RE (xc4 (k := 11) (n := 8) (agg := true) zr56.1 zr56.2 rfl) trivial trivial ⟨rfl, trivial⟩ (RE (xa4 (es := 8) (agg := true) (0) ti56 rfl rfl rfl) ⟨rfl, rfl, trivial⟩ ⟨rfl, trivial⟩ trivial (x7 (by kernel_rfl) (x4 ?_)))))
      refine x8 ?_
      refine R1 x3 rfl (R1 (x9 fo56_0 rfl) rfl (xa5 (0) ti3 rfl rfl rfl (At.g 0 rfl rfl) rfl (R2 (xe3 (wr64 (by omega) (by omega))) rfl rfl (R1 (x9 fo56_0 rfl) rfl (xa5 (0) ti3 rfl rfl rfl (At.g 0 rfl rfl) rfl (R1 (x9 fo56_1 rfl) rfl (xa5 (0) ti3 rfl rfl rfl (At.g 1 rfl rfl) rfl ?_)))))))
      refine R2 (xe3 (wr64 (by omega) (by omega))) rfl rfl (R1 (x9 fo56_1 rfl) rfl (xa5 (0) ti3 rfl rfl rfl (At.g 1 rfl rfl) rfl (RE (xe6 (n := 4) (f := fun n : Int => tI n) [(([a, b].getD i []).getD j tst0).lo - 1, (([a, b].getD i []).getD j tst0).lo, (([a, b].getD i []).getD j tst0).hi - 1, (([a, b].getD i []).getD j tst0).hi] Tryz.underlying30 el3 zf3 rfl (fun _ => inferInstance) rfl rfl rfl) ⟨rfl, rfl, rfl, rfl, trivial⟩ trivial trivial (RE (xf6 (k := 13) (k' := 40) (f := fun n : Int => tI n) (ys := [(([a, b].getD i []).getD j tst0).lo - 1, (([a, b].getD i []).getD j tst0).lo, (([a, b].getD i []).getD j tst0).hi - 1, (([a, b].getD i []).getD j tst0).hi]) (ts' := rV tI (xs ++ [(([a, b].getD i []).getD j tst0).lo - 1, (([a, b].getD i []).getD j tst0).lo, (([a, b].getD i []).getD j tst0).hi - 1, (([a, b].getD i []).getD j tst0).hi])) Tryz.underlying30 el3 zf3 rfl rfl (fun _ => inferInstance) xg4 (by simp; omega) (by simp; omega) (by simp [rV]) (n' := xs.length + 4) rfl) ⟨rfl, rfl, trivial⟩ ⟨rfl, trivial⟩ ⟨rfl, trivial⟩ (R1 x5 rfl (x7 (by kernel_rfl) (xc0 ?_)))))))
      refine x4 ?_
      refine x8 ?_
      refine R2 (xb9 (wr64 (by omega) (by omega))) rfl rfl (R1 x3 rfl (x7 (by kernel_rfl) ?_))
      exact K_famR (l := [13]) (fun j => cond (Nat.beq j 13) 40 (j)) ((j + 1, xs ++ [(([a, b].getD i []).getD j tst0).lo - 1, (([a, b].getD i []).getD j tst0).lo, (([a, b].getD i []).getD j tst0).hi - 1, (([a, b].getD i []).getD j tst0).hi])) ⟨(by dsimp only; exact ⟨by omega, by rw [eds4_snoc (by omega), ← List.append_assoc, hx2]; rfl⟩), (by dsimp only; omega)⟩ (SubR.int rfl (by first | omega | rfl | (dsimp only; omega)) (SubR.int rfl (by first | omega | rfl | (dsimp only; omega)) (SubR.cons rfl (SubR.int rfl (by first | omega | rfl | (dsimp only; omega)) (SubR.int rfl (by first | omega | rfl | (dsimp only; omega)) (SubR.cons rfl ((SubR.consI rfl (Imp.of (by dsimp only; rw [List.length_append]; rfl))) SubR.nil))))))) ((SubKR.consI rfl (ImpK.of xe9.symm)) SubKR.nil) (SupG.val (SupG.val (SupG.val (SupG.val (SupG.val (SupG.val (SupG.own rfl SupG.nil))))))) (SupH.cons rfl (supJ xc8) SupH.nil) (lkOk rfl) rfl rfl (fun _ h => by cases h)
    ·
      refine xd0 (xb5 (xb5 (xd5 (xc0 (x4 ?_)))))
      refine x8 ?_
      refine R2 (xb9 (wr64 (by omega) (by omega))) rfl rfl (R1 x3 rfl (x7 (by kernel_rfl) ?_))
      have hje : j = ([a, b].getD i []).length := by omega
      subst hje
      exact xb6 ((i + 1, xs)) ⟨(by dsimp only; exact ⟨by omega, by rw [flat4_snoc (by simp; omega), hx2, List.take_length]⟩), (by dsimp only; omega)⟩ (Sub.int rfl (by first | omega | rfl | (dsimp only; omega)) (Sub.int rfl (by first | omega | rfl | (dsimp only; omega)) (Sub.cons rfl (Sub.cons rfl Sub.nil)))) ((SubK.consI rfl ImpK.refl) SubK.nil) (SupG.val (SupG.val (SupG.val (SupG.own rfl SupG.nil)))) (SupH.cons rfl (supJ xc8) SupH.nil) (lkOk rfl)
  ·
    refine xd0 (xb5 (xb5 (xd5 (x4 (x6 ?_)))))
    refine x8 ?_
    refine R1 x3 rfl (RE (xi1 (f := tI) (xs := xs) (fun _ h => h) (rV_all rfl) rfl) ⟨rfl, trivial⟩ ⟨rfl, trivial⟩ trivial (x7 (by kernel_rfl) (x4 (xa1 ?_))))
    exact xa6 Plain.mk' rfl rfl (Le.of (by rw [hx, show i = 2 by omega]; rfl))
end An.S

/- What the readers of law 5 read: lists of numbers, numbers. -/
namespace An.S
open Go Go.Proofs An
open Go.ChangeShapes Go.WideShapes Go.ChangeAt Go.RowKit
set_option maxRecDepth 100000
theorem own : ownKnob Tryz.prog.godebug = none := by kernel_rfl
theorem laidOut : laidOutB Tryz.prog = true := by kernel_rfl
theorem oInt : Opn Tryz.prog 3 1 false (fun n : Int => tI n) (fun n => IntKind.i64.min ≤ n ∧ n ≤ IntKind.i64.max) := Opn.int Tryz.underlying3 (by kernel_rfl)
theorem oU16 : Opn Tryz.prog 73 1 false (fun n : Nat => tE (.int .u16 n)) (fun n => n < 65536) := Opn.nat Tryz.underlying73 (by kernel_rfl) rfl rfl
theorem oLm : Opn Tryz.prog 22 1 false (fun l : List Nat => tLm l) (fun l => Dig 65536 l) := (Opn.slice Tryz.underlying22 (by kernel_rfl) oU16).as id (fun _ => rfl) (fun _ h => h)
/-- What a contract says, as the frame of a statement wants it. -/
theorem walked {f : FuncId} {ts : List Ty} (h : Ct Tryz.prog f ts (tB true)) {vs : List Value} {W : World} (ha : Tup.all (Old W) W ts vs) : Calls Tryz.prog f vs.toArray W fun e W' => e = .returned (.bool true) ∧ Ext W W' :=
  (h (Old W) W vs ha).mono fun e W' ⟨v, h1, h2, h3⟩ => by
    have h3 : v = .bool true := h3
    subst h3; exact ⟨h1, h2⟩
end An.S

/- Law 5: what Built makes; contracts at timelines of one kind; the examples of the chapter. -/
namespace An.S
open Go Go.Proofs An
set_option maxHeartbeats 2000000
set_option maxRecDepth 100000
theorem fi13 : FnI Tryz.prog 13 := ⟨_, Tryz.func13, by kernel_rfl, rfl⟩
theorem fi17 : FnI Tryz.prog 17 := ⟨_, Tryz.func17, by kernel_rfl, rfl⟩
theorem fi21 : FnI Tryz.prog 21 := ⟨_, Tryz.func21, by kernel_rfl, rfl⟩
theorem fi22 : FnI Tryz.prog 22 := ⟨_, Tryz.func22, by kernel_rfl, rfl⟩
theorem fi24 : FnI Tryz.prog 24 := ⟨_, Tryz.func24, by kernel_rfl, rfl⟩
theorem fi32 : FnI Tryz.prog 32 := ⟨_, Tryz.func32, by kernel_rfl, rfl⟩
theorem fi34 : FnI Tryz.prog 34 := ⟨_, Tryz.func34, by kernel_rfl, rfl⟩
theorem fi35 : FnI Tryz.prog 35 := ⟨_, Tryz.func35, by kernel_rfl, rfl⟩
theorem fi37 : FnI Tryz.prog 37 := ⟨_, Tryz.func37, by kernel_rfl, rfl⟩
theorem fi43 : FnI Tryz.prog 43 := ⟨_, Tryz.func43, by kernel_rfl, rfl⟩
theorem fi44 : FnI Tryz.prog 44 := ⟨_, Tryz.func44, by kernel_rfl, rfl⟩
theorem fi45 : FnI Tryz.prog 45 := ⟨_, Tryz.func45, by kernel_rfl, rfl⟩
def plW : List Int := [0, 84, 42, -63, 140, 786444, -84, 92358976733184]
def tB5 : Int := 92358976733184
theorem plV_ok (n : Nat) : gOk 2 84 tB5 (plV n) := by
  have key : ∀ m : Fin 8, kfr (plP.getD m.val (0, 1)).1 (plP.getD m.val (0, 1)).2 = Rat.divInt (plW.getD m.val 0) 84 ∧ -92358976733184 ≤ plW.getD m.val 0 ∧ plW.getD m.val 0 ≤ 92358976733184 := by decide +kernel
  have h := key ⟨n % 8, Nat.mod_lt _ (by decide)⟩
  have e : kfr (plQ n).1 (plQ n).2 = Rat.divInt (plW.getD (n % 8) 0) 84 := h.1
  rw [plV, e]
  exact gOk.mk (.inl rfl) (by decide) (by decide) h.2.1 h.2.2 (by decide)
abbrev isT (l : List Tst) : Prop := isG 2 84 tB5 l
theorem tbRun_isG {m : List Nat} : ∀ (f k : Nat) (out : List Tst) (t : Int), isT out → 0 ≤ t → (0 < out.length → (out.getD (out.length - 1) tst0).hi ≤ t) → isT (tbRun m f k out t) ∧ (tbRun m f k out t).length ≤ out.length + f
  | 0, _, out, _, h, _, _ => ⟨h, Nat.le_refl _⟩
  | f + 1, k, out, t, h, ht, hl => by
    rw [tbRun]
    split
    · split
      · exact ⟨h, by omega⟩
      · rename_i he
        have hF : t ≤ tbF m k t := by simp only [tbF]; omega
        have hE : tbF m k t < tbE m k t := by simp only [tbE]; omega
        have h1 : isT (An.pst1 out (tbS m k t)) := h.pst1 (by show 0 ≤ tbF m k t; omega) (by show tbE m k t ≤ 65536; omega) (plV_ok _) fun hp => by have := hl hp; show _ ≤ tbF m k t; omega
        have h2 := pst1_last (l := out) (tbS_lt (m := m) (k := k) (t := t))
        have h3 := tbRun_isG (m := m) f (k + 1) _ (tbE m k t) h1 (by omega) fun _ => by rw [h2.2.1]; exact Int.le_refl _
        have h4 := pst1_len out (tbS m k t)
        exact ⟨h3.1, by omega⟩
    · exact ⟨h, by omega⟩
theorem tbT_ok (m : List Nat) : isT (tbT m) ∧ (tbT m).length ≤ 41 := by
  have := tbRun_isG (m := m) 41 0 [] 0 isG_nil (Int.le_refl _) fun h => by cases h
  exact ⟨this.1, by have := this.2; simp at this; exact this⟩
/-- Two ascending lists with the same members. -/
theorem asc_eq : ∀ {a b : List Int}, a.Pairwise (· < ·) → b.Pairwise (· < ·) → (∀ x, x ∈ a ↔ x ∈ b) → a = b
  | [], [], _, _, _ => rfl
  | [], y :: s, _, _, h => absurd ((h y).2 (List.mem_cons_self ..)) (List.not_mem_nil)
  | x :: r, [], _, _, h => absurd ((h x).1 (List.mem_cons_self ..)) (List.not_mem_nil)
  | x :: r, y :: s, ha, hb, h => by
    have pa := List.pairwise_cons.1 ha
    have pb := List.pairwise_cons.1 hb
    have hxy : x = y := by
      rcases List.mem_cons.1 ((h x).1 (List.mem_cons_self ..)) with e | h1
      · exact e
      · rcases List.mem_cons.1 ((h y).2 (List.mem_cons_self ..)) with e | h2
        · exact e.symm
        · have := pa.1 y h2; have := pb.1 x h1; omega
    subst hxy
    congr 1
    refine asc_eq pa.2 pb.2 fun z => ⟨fun hz => ?_, fun hz => ?_⟩
    · rcases List.mem_cons.1 ((h z).1 (List.mem_cons_of_mem _ hz)) with e | h1
      · have := pa.1 z hz; omega
      · exact h1
    · rcases List.mem_cons.1 ((h z).2 (List.mem_cons_of_mem _ hz)) with e | h1
      · have := pb.1 z hz; omega
      · exact h1
theorem brd_eq {xs l : List Int} (h : l.Pairwise (· < ·)) (hm : ∀ x, x ∈ l ↔ x ∈ xs) : brd xs = l := asc_eq (brd_spec xs).1 h fun x => ((brd_spec xs).2 x).trans (hm x).symm
/-! Contracts. -/
section
variable {K : Nat} {D B : Int} {l a b : List Tst}
theorem isG.kind (ha : isG K D B a) (hb : isG K D B b) : jnC a b := by
  refine ⟨⟨ha.1, hb.1⟩, fun h => h.2.2 ?_⟩
  rw [(ha.2 _ (xf2 (l := a) (i := 0) h.1)).1.2.1, (hb.2 _ (xf2 (l := b) (i := 0) h.2.1)).1.2.1]
theorem c_CutG (x y : Int) (h : isG K D B l) (hl : l.length ≤ 200000) (hxy : Sn.ok ⟨x, y⟩ = true) : Ct Tryz.prog 20 [tL 8 true tTs l, tI x, tI y] (tT [tL 8 true tTs (cutT l x y), tI 0]) := by
  have := c_Cut l x y (by omega) h.dig
  rw [if_pos ⟨h.1, hxy⟩, if_pos ⟨h.1, hxy⟩] at this; exact this
theorem c_WithoutG (x y : Int) (h : isG K D B l) (hl : l.length ≤ 200000) (hxy : Sn.ok ⟨x, y⟩ = true) : Ct Tryz.prog 21 [tL 8 true tTs l, tI x, tI y] (tT [tL 8 true tTs (woT l x y), tI 0]) := by
  have := c_Without l x y hl h.dig
  rw [if_pos ⟨h.1, hxy⟩, if_pos ⟨h.1, hxy⟩] at this; exact this
theorem c_JoinG (ha : isG K D B a) (hb : isG K D B b) (hla : a.length ≤ 200000) (hlb : b.length ≤ 200000) : Ct Tryz.prog 13 [tL 8 true tTs a, tL 8 true tTs b] (tT [tL 8 true tTs (jnT a b), tI 0]) := by
  have := c_TJoin a b hla hlb ha.dig hb.dig
  rw [if_pos (ha.kind hb), if_pos (ha.kind hb)] at this; exact this
theorem c_SumG (x y : Int) (hK : K = 2 ∨ K = 3) (hD : 0 < D) (hDb : D ≤ 9223372036854775807) (hB0 : 0 ≤ B) (hB : B ≤ 140737488355327) (h : isG K D B l) (hl : l.length ≤ 200000) (hxy : Sn.ok ⟨x, y⟩ = true) : Ct Tryz.prog 24 [tL 8 true tTs l, tI x, tI y] (tT [tFr (fr (Rat.divInt (gS (wt D) l x y) D)), tI 0]) := by
  have h2 := h.sum hK hD hDb hB0 hB hxy
  have := c_TSum l x y (by omega) h.dig
  rw [if_pos h2.1, if_pos h2.1, h2.2] at this; exact this
theorem c_CoversG (h : isG K D B l) (hl : l.length ≤ 200000) : Ct Tryz.prog 34 [tL 8 true tTs l] (tL 2 true tSn (cvT l)) := by
  have := c_Covers l hl h.dig
  rw [if_pos h.1] at this; exact this
theorem c_ChangesG (h : isG K D B l) (hl : l.length ≤ 200000) : Ct Tryz.prog 35 [tL 8 true tTs l] (tL 1 false tI (bds [l])) := by
  have := c_Changes l hl h.dig
  rw [if_pos h.1] at this; exact this
theorem c_DiffG (ha : isG K D B a) (hb : isG K D B b) (hla : a.length ≤ 200000) (hlb : b.length ≤ 200000) : Ct Tryz.prog 32 [tL 8 true tTs a, tL 8 true tTs b] (tT [tL 2 true tSn (dfS a b), tI 0]) := by
  have := c_TDiff a b hla hlb ha.dig hb.dig
  rw [if_pos ⟨ha.1, hb.1⟩, if_pos ⟨ha.1, hb.1⟩] at this; exact this
theorem c_AtG (d : Int) (h : isG K D B l) (hl : l.length ≤ 200000) : Ct Tryz.prog 17 [tL 8 true tTs l, tI d] (tT [tVa ((valT l d).getD An.va0), tB (valT l d).isSome]) := by
  have := c_At l d (by omega) h.dig
  rw [atR, if_pos h.1] at this; exact this
end
theorem c_sameFv (f g : Fr) (e : f = g) : Ct Tryz.prog 26 [tFr f, tFr g] (tB true) := by
  have h := c_SameFrac f g
  rw [decide_eq_true e] at h; exact h
theorem c_sameTv (u w : List Tst) (e : u = w) : Ct Tryz.prog 22 [tL 8 true tTs u, tL 8 true tTs w] (tB true) := by
  have h := c_SameSteps u w
  rw [decide_eq_true e] at h; exact h
theorem c_sameSv (u w : List Sn) (e : u = w) : Ct Tryz.prog 37 [tL 2 true tSn u, tL 2 true tSn w] (tB true) := by
  have h := c_SameSpans u w
  rw [decide_eq_true e] at h; exact h
theorem c_sameIv (u w : List Int) (e : u = w) : Ct Tryz.prog 45 [tL 1 false tI u, tL 1 false tI w] (tB true) := by
  have h := c_SameInts u w
  rw [decide_eq_true e] at h; exact h
theorem c_sameVv (u w : Va) (e : u = w) : Ct Tryz.prog 18 [tVa u, tVa w] (tB true) := by
  have h := c_SameValue u w
  rw [decide_eq_true e] at h; exact h
theorem isG.bd5 {K : Nat} {D B : Int} {l : List Tst} (h : isG K D B l) : ∀ s ∈ l, -100000 ≤ s.lo ∧ s.lo ≤ 100000 ∧ -100000 ≤ s.hi ∧ s.hi ≤ 100000 := fun s hs => by
  have := h.bd s hs; omega
/-! The examples of the chapter. -/
def xv (n d : Int) : Va := ⟨2, fr (kfr n d), 0⟩
def exA : List Tst := [⟨0, 10, xv 1 2⟩, ⟨10, 30, xv 1 1⟩]
def exB : List Tst := [⟨8, 12, xv 0 1⟩]
def exC : List Tst := [⟨10, 12, xv 1 2⟩]
theorem xv_ok : gOk 2 84 tB5 (xv 1 2) ∧ gOk 2 84 tB5 (xv 1 1) ∧ gOk 2 84 tB5 (xv 0 1) := by
  have e1 : kfr 1 2 = Rat.divInt 42 84 := by decide +kernel
  have e2 : kfr 1 1 = Rat.divInt 84 84 := by decide +kernel
  have e3 : kfr 0 1 = Rat.divInt 0 84 := by decide +kernel
  rw [xv, xv, xv, e1, e2, e3]
  exact ⟨gOk.mk (.inl rfl) (by decide) (by decide) (by decide) (by decide) (by decide), gOk.mk (.inl rfl) (by decide) (by decide) (by decide) (by decide) (by decide), gOk.mk (.inl rfl) (by decide) (by decide) (by decide) (by decide) (by decide)⟩
theorem exA_ok : isT exA := ⟨by decide +kernel, fun s hs => by
  simp only [exA, List.mem_cons, List.not_mem_nil, or_false] at hs
  rcases hs with rfl | rfl
  · exact xv_ok.1
  · exact xv_ok.2.1⟩
theorem exB_ok : isT exB := ⟨by decide +kernel, fun s hs => by
  simp only [exB, List.mem_cons, List.not_mem_nil, or_false] at hs
  rcases hs with rfl
  exact xv_ok.2.2⟩
theorem exC_ok : isT exC := ⟨by decide +kernel, fun s hs => by
  simp only [exC, List.mem_cons, List.not_mem_nil, or_false] at hs
  rcases hs with rfl
  exact xv_ok.1⟩
theorem exCut : cutT exA 5 20 = [⟨5, 10, xv 1 2⟩, ⟨10, 20, xv 1 1⟩] := by decide +kernel
theorem exCut2 : cutT exA 0 12 = [⟨0, 10, xv 1 2⟩, ⟨10, 12, xv 1 1⟩] := by decide +kernel
theorem exWo : woT exA 5 20 = [⟨0, 5, xv 1 2⟩, ⟨20, 30, xv 1 1⟩] := by decide +kernel
theorem mem_dec {l xs : List Int} (h1 : l.all (fun x => decide (x ∈ xs)) = true) (h2 : xs.all (fun x => decide (x ∈ l)) = true) : ∀ x, x ∈ l ↔ x ∈ xs := fun x => ⟨fun h => of_decide_eq_true (List.all_eq_true.1 h1 x h), fun h => of_decide_eq_true (List.all_eq_true.1 h2 x h)⟩
theorem exJB : jnT exA exB = [⟨0, 8, xv 1 2⟩, ⟨8, 12, xv 0 1⟩, ⟨12, 30, xv 1 1⟩] := by
  have e : bds [exA, exB] = [0, 8, 10, 12, 30] := brd_eq (by decide) (mem_dec (by decide) (by decide))
  rw [jnT, e]; decide +kernel
theorem exJC : jnT exA exC = [⟨0, 12, xv 1 2⟩, ⟨12, 30, xv 1 1⟩] := by
  have e : bds [exA, exC] = [0, 10, 12, 30] := brd_eq (by decide) (mem_dec (by decide) (by decide))
  rw [jnT, e]; decide +kernel
theorem exCh : bds [exA] = [0, 10, 30] := brd_eq (by decide) (mem_dec (by decide) (by decide))
theorem exCv : cvT exA = [⟨0, 30⟩] := by
  rw [cvT, mkS_asc (cvS_asc exA_ok.1)]; decide +kernel
theorem exDf : dfS exA (cutT exA 0 12) = [⟨12, 30⟩] := by
  have e : bds [exA, [⟨0, 10, xv 1 2⟩, ⟨10, 12, xv 1 1⟩]] = [0, 10, 12, 30] := brd_eq (by decide) (mem_dec (by decide) (by decide))
  rw [dfS, mkS_asc (dfT_asc exA_ok.1 exA_ok.cut.1), dfT_map, exCut2, e]
  decide +kernel
theorem exSum : fr (Rat.divInt (gS (wt 84) exA 5 20) 84) = fr (kfr 25 2) := congrArg fr (by decide +kernel)
theorem c_awake05  :
  Ct Tryz.prog 11 [] (tB true) := by
 refine Ct.intro Tryz.func11 rfl Tryz.ntmps11 rfl ?_
 intro w F
 refine x6 ?_
 refine x8 ?_
 refine R1 x5 rfl (x7 (by kernel_rfl) (x4 (x6 ?_)))
 refine x8 ?_
 refine RE (xa0 (xh5 0 10 1 2 (by decide) (by decide) (by decide) (by decide)) fi44 rfl) ⟨rfl, rfl, rfl, rfl, trivial⟩ trivial trivial (RE (xa0 (xh5 10 30 1 1 (by decide) (by decide) (by decide) (by decide)) fi44 rfl) ⟨rfl, rfl, rfl, rfl, trivial⟩ trivial trivial (R2 (xe6 (n := 2) (f := tTs) [(⟨0, 10, xv 1 2⟩ : Tst), (⟨10, 30, xv 1 1⟩ : Tst)] Tryz.underlying24 el56 zf56 rfl (fun _ => inferInstance) rfl rfl rfl) rfl rfl (R1 (xa0 (c_steps [(⟨0, 10, xv 1 2⟩ : Tst), (⟨10, 30, xv 1 1⟩ : Tst)]) fi43 rfl) rfl (R1 x5 rfl (x7 (by kernel_rfl) (x4 (x6 ?_)))))))
 refine x8 ?_
 refine R1 x3 rfl (R2 (xa0 (c_AtG (l := exA) 9 exA_ok (by decide)) fi17 rfl) rfl rfl (R1 x3 rfl (R1 (xb1 rfl) rfl (R1 (xb1 rfl) rfl (RE (xc4 (k := 2) (n := 6) (agg := true) zr37.1 zr37.2 rfl) trivial trivial ⟨rfl, trivial⟩ (RE (xa4 (es := 6) (agg := true) (0) ti37 rfl rfl rfl) ⟨rfl, rfl, trivial⟩ ⟨rfl, trivial⟩ trivial (R1 x5 rfl ?_)))))))
 refine x7 (by kernel_rfl) (x4 (x6 ?_))
 refine x8 ?_
 refine R1 x3 rfl (R2 (xa0 (c_AtG (l := exA) 30 exA_ok (by decide)) fi17 rfl) rfl rfl (R1 x3 rfl (R1 (xb1 rfl) rfl (R1 (xb1 rfl) rfl (RE (xc4 (k := 4) (n := 6) (agg := true) zr37.1 zr37.2 rfl) trivial trivial ⟨rfl, trivial⟩ (RE (xa4 (es := 6) (agg := true) (0) ti37 rfl rfl rfl) ⟨rfl, rfl, trivial⟩ ⟨rfl, trivial⟩ trivial (R1 x5 rfl ?_)))))))
 refine x7 (by kernel_rfl) (x4 (x6 ?_))
 refine x8 ?_
 refine R1 x3 rfl (R3 (xa0 (c_SumG (l := exA) 5 20 (.inl rfl) (by decide) (by decide) (by decide) (by decide) exA_ok (by decide) (by decide)) fi24 rfl) rfl rfl rfl (R1 x3 rfl (R1 (xb1 rfl) rfl (R1 (xb1 rfl) rfl (RE (xc4 (k := 6) (n := 4) (agg := true) zr35.1 zr35.2 rfl) trivial trivial ⟨rfl, trivial⟩ (RE (xa4 (es := 4) (agg := true) (0) ti35 rfl rfl rfl) ⟨rfl, rfl, trivial⟩ ⟨rfl, trivial⟩ trivial (R1 x5 rfl ?_)))))))
 refine x7 (by kernel_rfl) (x4 (x6 ?_))
 refine x8 ?_
 refine R1 x3 rfl (R3 (xa0 (c_CutG (l := exA) 5 20 exA_ok (by decide) (by decide)) fi20 rfl) rfl rfl rfl (R1 x3 rfl (R1 (xb1 rfl) rfl (R1 (xb1 rfl) rfl (R1 x5 rfl (R1 x5 rfl (x7 (by kernel_rfl) ?_)))))))
 refine x4 (x6 ?_)
 refine x8 ?_
 refine R1 x3 rfl (R3 (xa0 (c_WithoutG (l := exA) 5 20 exA_ok (by decide) (by decide)) fi21 rfl) rfl rfl rfl (R1 x3 rfl (R1 (xb1 rfl) rfl (R1 (xb1 rfl) rfl (R1 x5 rfl (R1 x5 rfl (x7 (by kernel_rfl) ?_)))))))
 refine x4 (x6 ?_)
 refine x8 ?_
 refine R1 x3 rfl (RE (xa0 (xh5 8 12 0 1 (by decide) (by decide) (by decide) (by decide)) fi44 rfl) ⟨rfl, rfl, rfl, rfl, trivial⟩ trivial trivial (R1 (xe6 (n := 1) (f := tTs) [(⟨8, 12, xv 0 1⟩ : Tst)] Tryz.underlying24 el56 zf56 rfl (fun _ => inferInstance) rfl rfl rfl) rfl (R1 (xa0 (c_steps [(⟨8, 12, xv 0 1⟩ : Tst)]) fi43 rfl) rfl (R2 (xa0 (c_JoinG (a := exA) (b := exB) exA_ok exB_ok (by decide) (by decide)) fi13 rfl) rfl rfl (R1 x3 rfl (R1 (xb1 rfl) rfl (R1 (xb1 rfl) rfl ?_)))))))
 refine R1 x5 rfl (R1 x5 rfl (x7 (by kernel_rfl) (x4 (x6 ?_))))
 refine x8 ?_
 refine R1 x3 rfl (RE (xa0 (xh5 10 12 1 2 (by decide) (by decide) (by decide) (by decide)) fi44 rfl) ⟨rfl, rfl, rfl, rfl, trivial⟩ trivial trivial (R1 (xe6 (n := 1) (f := tTs) [(⟨10, 12, xv 1 2⟩ : Tst)] Tryz.underlying24 el56 zf56 rfl (fun _ => inferInstance) rfl rfl rfl) rfl (R1 (xa0 (c_steps [(⟨10, 12, xv 1 2⟩ : Tst)]) fi43 rfl) rfl (R2 (xa0 (c_JoinG (a := exA) (b := exC) exA_ok exC_ok (by decide) (by decide)) fi13 rfl) rfl rfl (R1 x3 rfl (R1 (xb1 rfl) rfl (R1 (xb1 rfl) rfl ?_)))))))
 refine R1 x5 rfl (R1 x5 rfl (x7 (by kernel_rfl) (x4 (x6 ?_))))
 refine x8 ?_
 refine R1 x3 rfl (R3 (xa0 (c_CutG (l := exA) 0 12 exA_ok (by decide) (by decide)) fi20 rfl) rfl rfl rfl (R1 x3 rfl (R1 (xb1 rfl) rfl (R1 (xb1 rfl) rfl (R1 x5 rfl (R1 x5 rfl (x7 (by kernel_rfl) ?_)))))))
 refine x4 (x6 ?_)
 refine x8 ?_
 refine R1 x3 rfl (R1 x3 rfl (R2 (xa0 (c_DiffG (a := exA) (b := cutT exA 0 12) exA_ok exA_ok.cut (by decide) (by rw [exCut2]; decide)) fi32 rfl) rfl rfl (R1 x3 rfl (R1 (xb1 rfl) rfl (R1 (xb1 rfl) rfl (R1 x5 rfl (R1 x5 rfl ?_)))))))
 refine x7 (by kernel_rfl) (x4 (x6 (x6 ?_)))
 refine xe1 mixed ?_
 refine R1 x3 rfl (R1 x3 rfl (R2 (xb9 (wr64 (by omega) (by omega))) rfl rfl (R1 x3 rfl (R2 (xb9 (wr64 (by omega) (by omega))) rfl rfl (R1 x3 rfl (R2 (xb9 (wr64 (by omega) (by omega))) rfl rfl (R1 x3 rfl ?_)))))))
 refine R2 (xb9 (wr64 (by omega) (by omega))) rfl rfl (R1 x3 rfl (R2 (xb9 (wr64 (by omega) (by omega))) rfl rfl (R1 x3 rfl (R2 (xb9 (wr64 (by omega) (by omega))) rfl rfl (R2 d_neq rfl rfl (R1 x3 rfl (RGon (decide_eq_false (by omega)) rfl x3 rfl ⟨rfl, trivial⟩ trivial trivial ?_)))))))
 refine RGon (decide_eq_false (by omega)) rfl xe2 rfl ⟨rfl, trivial⟩ trivial trivial (R2 (xa7 (decide_eq_false (by omega))) rfl rfl (R1 x3 rfl (RGon (by decide +kernel) rfl x3 rfl ⟨rfl, trivial⟩ trivial trivial (R2 (xa7 (by decide +kernel)) rfl rfl (R1 x3 rfl (RGon (by decide +kernel) rfl (xa8 (0) ti37 rfl rfl) rfl ⟨rfl, trivial⟩ ⟨rfl, trivial⟩ trivial (RGon (by decide +kernel) rfl (xa0 (c_Num 1 2 (by decide) (by decide) (by decide) (by decide)) fi29 rfl) rfl ⟨rfl, rfl, trivial⟩ trivial trivial ?_)))))))
 refine RGon (by decide +kernel) rfl (xa0 (c_sameVv _ _ (by decide +kernel)) fi18 rfl) rfl ⟨rfl, rfl, trivial⟩ trivial trivial (RGon (by decide +kernel) rfl xe2 rfl ⟨rfl, trivial⟩ trivial trivial (R2 (xa7 (by decide +kernel)) rfl rfl (R1 x3 rfl (RGon rfl rfl (xa8 (0) ti35 rfl rfl) rfl ⟨rfl, trivial⟩ ⟨rfl, trivial⟩ trivial (RGon rfl rfl (xa0 (c_KFrac 25 2 (by decide) (by decide) (by decide) (by decide)) fi27 rfl) rfl ⟨rfl, rfl, trivial⟩ trivial trivial (RGon rfl rfl (xa0 (c_sameFv _ _ exSum) fi26 rfl) rfl ⟨rfl, rfl, trivial⟩ trivial trivial (RGon rfl rfl xe2 rfl ⟨rfl, trivial⟩ trivial trivial ?_)))))))
 refine R2 (xa7 rfl) rfl rfl (xd4 (by kernel_rfl) (x4 (C_bF rfl rfl (xa2 (x4 (x6 ?_))))))
 refine x8 ?_
 refine R1 x5 rfl (x7 (by kernel_rfl) (x4 (x6 (x6 ?_))))
 refine x8 ?_
 refine R1 x3 rfl (R1 x3 rfl (RE (xa0 (xh5 5 10 1 2 (by decide) (by decide) (by decide) (by decide)) fi44 rfl) ⟨rfl, rfl, rfl, rfl, trivial⟩ trivial trivial (RE (xa0 (xh5 10 20 1 1 (by decide) (by decide) (by decide) (by decide)) fi44 rfl) ⟨rfl, rfl, rfl, rfl, trivial⟩ trivial trivial (R2 (xe6 (n := 2) (f := tTs) [(⟨5, 10, xv 1 2⟩ : Tst), (⟨10, 20, xv 1 1⟩ : Tst)] Tryz.underlying24 el56 zf56 rfl (fun _ => inferInstance) rfl rfl rfl) rfl rfl (R1 (xa0 (c_steps [(⟨5, 10, xv 1 2⟩ : Tst), (⟨10, 20, xv 1 1⟩ : Tst)]) fi43 rfl) rfl (R3 (d_callF (c_sameTv _ _ exCut) fi22 rfl) rfl rfl rfl (R1 xe2 rfl ?_)))))))
 refine R1 x3 rfl (RGon rfl rfl x3 rfl ⟨rfl, trivial⟩ trivial trivial (RGon rfl rfl x3 rfl ⟨rfl, trivial⟩ trivial trivial (RGon rfl rfl (xa0 (xh5 0 5 1 2 (by decide) (by decide) (by decide) (by decide)) fi44 rfl) rfl ⟨rfl, rfl, rfl, rfl, trivial⟩ trivial trivial (RGon rfl rfl (xa0 (xh5 20 30 1 1 (by decide) (by decide) (by decide) (by decide)) fi44 rfl) rfl ⟨rfl, rfl, rfl, rfl, trivial⟩ trivial trivial (RGon rfl rfl (xe6 (n := 2) (f := tTs) [(⟨0, 5, xv 1 2⟩ : Tst), (⟨20, 30, xv 1 1⟩ : Tst)] Tryz.underlying24 el56 zf56 rfl (fun _ => inferInstance) rfl rfl rfl) rfl ⟨rfl, rfl, trivial⟩ trivial trivial (RGon rfl rfl (xa0 (c_steps [(⟨0, 5, xv 1 2⟩ : Tst), (⟨20, 30, xv 1 1⟩ : Tst)]) fi43 rfl) rfl ⟨rfl, trivial⟩ trivial trivial (RGon rfl rfl (d_callF (c_sameTv _ _ exWo) fi22 rfl) rfl ⟨rfl, rfl, rfl, trivial⟩ trivial trivial ?_)))))))
 refine RGon rfl rfl xe2 rfl ⟨rfl, trivial⟩ trivial trivial (R2 (xa7 rfl) rfl rfl (R1 x3 rfl (RGon rfl rfl x3 rfl ⟨rfl, trivial⟩ trivial trivial (RGon rfl rfl x3 rfl ⟨rfl, trivial⟩ trivial trivial (RGon rfl rfl (xa0 (xh5 0 8 1 2 (by decide) (by decide) (by decide) (by decide)) fi44 rfl) rfl ⟨rfl, rfl, rfl, rfl, trivial⟩ trivial trivial (RGon rfl rfl (xa0 (xh5 8 12 0 1 (by decide) (by decide) (by decide) (by decide)) fi44 rfl) rfl ⟨rfl, rfl, rfl, rfl, trivial⟩ trivial trivial (RGon rfl rfl (xa0 (xh5 12 30 1 1 (by decide) (by decide) (by decide) (by decide)) fi44 rfl) rfl ⟨rfl, rfl, rfl, rfl, trivial⟩ trivial trivial ?_)))))))
 refine RGon rfl rfl (xe6 (n := 3) (f := tTs) [(⟨0, 8, xv 1 2⟩ : Tst), (⟨8, 12, xv 0 1⟩ : Tst), (⟨12, 30, xv 1 1⟩ : Tst)] Tryz.underlying24 el56 zf56 rfl (fun _ => inferInstance) rfl rfl rfl) rfl ⟨rfl, rfl, rfl, trivial⟩ trivial trivial (RGon rfl rfl (xa0 (c_steps [(⟨0, 8, xv 1 2⟩ : Tst), (⟨8, 12, xv 0 1⟩ : Tst), (⟨12, 30, xv 1 1⟩ : Tst)]) fi43 rfl) rfl ⟨rfl, trivial⟩ trivial trivial (RGon rfl rfl (d_callF (c_sameTv _ _ exJB) fi22 rfl) rfl ⟨rfl, rfl, rfl, trivial⟩ trivial trivial (RGon rfl rfl xe2 rfl ⟨rfl, trivial⟩ trivial trivial (R2 (xa7 rfl) rfl rfl (R1 x3 rfl (RGon rfl rfl x3 rfl ⟨rfl, trivial⟩ trivial trivial (RGon rfl rfl x3 rfl ⟨rfl, trivial⟩ trivial trivial ?_)))))))
 refine RGon rfl rfl (xa0 (xh5 0 12 1 2 (by decide) (by decide) (by decide) (by decide)) fi44 rfl) rfl ⟨rfl, rfl, rfl, rfl, trivial⟩ trivial trivial (RGon rfl rfl (xa0 (xh5 12 30 1 1 (by decide) (by decide) (by decide) (by decide)) fi44 rfl) rfl ⟨rfl, rfl, rfl, rfl, trivial⟩ trivial trivial (RGon rfl rfl (xe6 (n := 2) (f := tTs) [(⟨0, 12, xv 1 2⟩ : Tst), (⟨12, 30, xv 1 1⟩ : Tst)] Tryz.underlying24 el56 zf56 rfl (fun _ => inferInstance) rfl rfl rfl) rfl ⟨rfl, rfl, trivial⟩ trivial trivial (RGon rfl rfl (xa0 (c_steps [(⟨0, 12, xv 1 2⟩ : Tst), (⟨12, 30, xv 1 1⟩ : Tst)]) fi43 rfl) rfl ⟨rfl, trivial⟩ trivial trivial (RGon rfl rfl (d_callF (c_sameTv _ _ exJC) fi22 rfl) rfl ⟨rfl, rfl, rfl, trivial⟩ trivial trivial (RGon rfl rfl xe2 rfl ⟨rfl, trivial⟩ trivial trivial (R2 (xa7 rfl) rfl rfl (x7 (by kernel_rfl) ?_)))))))
 refine x4 (C_bF rfl rfl (xa2 (x4 (x6 ?_))))
 refine x8 ?_
 refine R1 x3 rfl (R1 (xa0 (c_ChangesG (l := exA) exA_ok (by decide)) fi35 rfl) rfl (R3 (xe6 (n := 3) (f := fun n : Int => tI n) [0, 10, 30] Tryz.underlying30 el3 zf3 rfl (fun _ => inferInstance) rfl rfl rfl) rfl rfl rfl (R2 (xa0 (c_sameIv _ _ exCh) fi45 rfl) rfl rfl (R1 x3 rfl (RGon rfl rfl x3 rfl ⟨rfl, trivial⟩ trivial trivial (RGon rfl rfl (xa0 (c_CoversG (l := exA) exA_ok (by decide)) fi34 rfl) rfl ⟨rfl, trivial⟩ trivial trivial (RGon rfl rfl (xc7 (r := tS [⟨1, false, tI 0⟩, ⟨1, false, tI 30⟩]) (ts := [(0, tI 0), (1, tI 30)]) bu72 zr72.2 ⟨_, rfl⟩ rfl ⟨_, _, _, _, rfl, Up.f (fs := [⟨1, false, (tE (.int .i64 0))⟩, ⟨1, false, (tE (.int .i64 0))⟩]) (f := ⟨1, false, (tE (.int .i64 0))⟩) (fs' := [⟨1, false, tI 0⟩, ⟨1, false, (tE (.int .i64 0))⟩]) 0 rfl rfl rfl, inferInstance, ⟨_, _, _, _, rfl, Up.f (fs := [⟨1, false, tI 0⟩, ⟨1, false, (tE (.int .i64 0))⟩]) (f := ⟨1, false, (tE (.int .i64 0))⟩) (fs' := [⟨1, false, tI 0⟩, ⟨1, false, tI 30⟩]) 1 rfl rfl rfl, inferInstance, Le.refl⟩⟩) rfl ⟨rfl, rfl, trivial⟩ trivial trivial ?_)))))))
 refine RGon rfl rfl (xe6 (n := 1) (f := tSn) [(⟨0, 30⟩ : Sn)] Tryz.underlying60 el72 zf72 rfl (fun _ => inferInstance) rfl rfl rfl) rfl ⟨rfl, trivial⟩ trivial trivial (RGon rfl rfl (xa0 (c_sameSv _ _ exCv) fi37 rfl) rfl ⟨rfl, rfl, trivial⟩ trivial trivial (R2 (xb2 rfl) rfl rfl (R1 x3 rfl (RGon rfl rfl x3 rfl ⟨rfl, trivial⟩ trivial trivial (RGon rfl rfl (xc7 (r := tS [⟨1, false, tI 12⟩, ⟨1, false, tI 30⟩]) (ts := [(0, tI 12), (1, tI 30)]) bu72 zr72.2 ⟨_, rfl⟩ rfl ⟨_, _, _, _, rfl, Up.f (fs := [⟨1, false, (tE (.int .i64 0))⟩, ⟨1, false, (tE (.int .i64 0))⟩]) (f := ⟨1, false, (tE (.int .i64 0))⟩) (fs' := [⟨1, false, tI 12⟩, ⟨1, false, (tE (.int .i64 0))⟩]) 0 rfl rfl rfl, inferInstance, ⟨_, _, _, _, rfl, Up.f (fs := [⟨1, false, tI 12⟩, ⟨1, false, (tE (.int .i64 0))⟩]) (f := ⟨1, false, (tE (.int .i64 0))⟩) (fs' := [⟨1, false, tI 12⟩, ⟨1, false, tI 30⟩]) 1 rfl rfl rfl, inferInstance, Le.refl⟩⟩) rfl ⟨rfl, rfl, trivial⟩ trivial trivial (RGon rfl rfl (xe6 (n := 1) (f := tSn) [(⟨12, 30⟩ : Sn)] Tryz.underlying60 el72 zf72 rfl (fun _ => inferInstance) rfl rfl rfl) rfl ⟨rfl, trivial⟩ trivial trivial (RGon rfl rfl (xa0 (c_sameSv _ _ exDf) fi37 rfl) rfl ⟨rfl, rfl, trivial⟩ trivial trivial ?_)))))))
 refine R2 (xb2 rfl) rfl rfl (R1 x5 rfl (x7 (by kernel_rfl) (x4 (xa1 ?_))))
 exact xa6 Plain.mk' rfl rfl Le.refl
end An.S

/- Law 5: TimelineParts. -/
namespace An.S
open Go Go.Proofs An
set_option maxHeartbeats 2000000
theorem fi11 : FnI Tryz.prog 11 := ⟨_, Tryz.func11, by kernel_rfl, rfl⟩
theorem fi12 : FnI Tryz.prog 12 := ⟨_, Tryz.func12, by kernel_rfl, rfl⟩
theorem fi15 : FnI Tryz.prog 15 := ⟨_, Tryz.func15, by kernel_rfl, rfl⟩
theorem fi16 : FnI Tryz.prog 16 := ⟨_, Tryz.func16, by kernel_rfl, rfl⟩
theorem jn_len2 {a b : List Tst} {n : Nat} (h : a.length + b.length ≤ n) : (jnT a b).length ≤ 2 * n := by
  have h1 := jnK_len (a := a) (b := b) (k := (bds [a, b]).length - 1)
  rw [jnK_all] at h1
  have h2 := bds_len (ls := [a, b])
  have h3 : tlen [a, b] = a.length + b.length := by simp [tlen]
  omega
/-- The days that are looked at. -/
def lkP (l : List Tst) (d p q : Int) : List Int := lkT l [] d ++ [p - 1, p, q - 1, q]
end An.S

/- Layer 4: unions, meets. -/
namespace An.S
open Go Go.Proofs An
set_option maxHeartbeats 2000000
theorem ti116 : TyI Tryz.prog 116 2 true := ⟨by kernel_rfl, by kernel_rfl⟩
theorem ti117 : TyI Tryz.prog 117 1 false := ⟨by kernel_rfl, by kernel_rfl⟩
theorem fo116_0 : fieldO Tryz.prog 116 0 = some 0 := by kernel_rfl
theorem fo116_1 : fieldO Tryz.prog 116 1 = some 1 := by kernel_rfl
theorem fi36 : FnI Tryz.prog 36 := ⟨_, Tryz.func36, by kernel_rfl, rfl⟩
theorem fi71 : FnI Tryz.prog 71 := ⟨_, Tryz.func71, by kernel_rfl, rfl⟩
theorem fi72 : FnI Tryz.prog 72 := ⟨_, Tryz.func72, by kernel_rfl, rfl⟩
theorem fi95 : FnI Tryz.prog 95 := ⟨_, Tryz.func95, by kernel_rfl, rfl⟩
theorem fi110 : FnI Tryz.prog 110 := ⟨_, Tryz.func110, by kernel_rfl, rfl⟩
theorem fi111 : FnI Tryz.prog 111 := ⟨_, Tryz.func111, by kernel_rfl, rfl⟩
theorem zr3 : (Tryz.prog.info? 3).bind (·.zero) = some (.int .i64 0) ∧ ∀ F w, (tE (.int .i64 0)).p F w (.int .i64 0) := ⟨by kernel_rfl, fun _ _ => rfl⟩
theorem zr4 : (Tryz.prog.info? 4).bind (·.zero) = some (.bool false) ∧ ∀ F w, (tE (.bool false)).p F w (.bool false) := ⟨by kernel_rfl, fun _ _ => rfl⟩
theorem zr116 : (Tryz.prog.info? 116).bind (·.zero) = some (.agg #[.bool false, .bool false]) ∧ ∀ F w, (tS [⟨1, false, (tE (.bool false))⟩, ⟨1, false, (tE (.bool false))⟩]).p F w (.agg #[.bool false, .bool false]) := ⟨by kernel_rfl, fun _ _ => ⟨_, rfl, rfl, ⟨fun _ => rfl, rfl⟩, ⟨fun _ => rfl, rfl⟩, trivial⟩⟩
theorem bu116 : BuI Tryz.prog 116 (fun i => [(0, 1), (1, 1)][i]?) (.agg #[.bool false, .bool false]) := BuI.struct Tryz.underlying116 (by kernel_rfl) (by kernel_rfl)
theorem c_border (l : List Sn) (i : Nat) (hi : i < 2 * l.length) (hl : l.length ≤ 1000000) :
  Ct Tryz.prog 111 [tL 2 true tSn l, tI i] (tI (bd l i)) := by
 refine Ct.intro Tryz.func111 rfl Tryz.ntmps111 rfl ?_
 intro w F
 refine x6 ?_
 refine x8 ?_
 refine R1 x5 rfl (x7 (by kernel_rfl) (x4 (x6 (x6 ?_))))
 refine x8 ?_
 refine R1 x3 rfl (R2 (d_remP (by omega) (by omega)) rfl rfl (R2 xe5 rfl rfl (x7 (by kernel_rfl) (x4 ?_))))
 refine xc1 rfl (fun h53 => ?_) (fun h53 => ?_)
 ·
  refine x6 ?_
  refine x8 ?_
  refine R1 x3 rfl (R1 x3 rfl (R2 (d_quoP (by omega) (by omega) (wr64 (by omega) (by omega))) rfl rfl (R2 (xb3 sl60 (i / 2) (by omega) (gD (l := l) (n := i / 2) (d := sn0) (by omega))) rfl rfl (R1 (xe8 fo72_0 (At.f 0 rfl rfl) rfl) rfl (R1 (xb8 ti3) rfl (R1 x5 rfl (x7 (by kernel_rfl) ?_)))))))
  refine x4 (xa1 (xa3 ?_))
  exact xa6 Plain.mk' rfl rfl (Le.int (by rw [bd, if_pos (by omega)]))
 ·
  refine xa2 (x4 (x6 ?_))
  refine x8 ?_
  refine R1 x3 rfl (R1 x3 rfl (R2 (d_quoP (by omega) (by omega) (wr64 (by omega) (by omega))) rfl rfl (R2 (xb3 sl60 (i / 2) (by omega) (gD (l := l) (n := i / 2) (d := sn0) (by omega))) rfl rfl (R1 (xe8 fo72_1 (At.f 1 rfl rfl) rfl) rfl (R1 (xb8 ti3) rfl (R1 x5 rfl (x7 (by kernel_rfl) ?_)))))))
  refine x4 (xa1 ?_)
  exact xa6 Plain.mk' rfl rfl (Le.int (by rw [bd, if_neg (by omega)]))
theorem c_changes (a b : List Sn) :
  CtG Tryz.prog 95 [] [.val (tL 2 true tSn a), .val (tL 2 true tSn b)] (.own (.fn 110 [.ptr 2 0, .ptr 3 0])) [(2, ⟨60, 1, false, [.val (tL 2 true tSn a)]⟩), (3, ⟨60, 1, false, [.val (tL 2 true tSn b)]⟩)] [2, 3] := by
 refine CtG.intro [] Tryz.func95 rfl Tryz.ntmps95 rfl rfl trivial ?_
 intro w F η
 refine x6 ?_
 refine x8 ?_
 refine RE (xd8 (k := 2) ti60 rfl) ⟨rfl, trivial⟩ trivial ⟨rfl, trivial⟩ (RE (xd8 (k := 3) ti60 rfl) ⟨rfl, trivial⟩ trivial ⟨rfl, trivial⟩ (R1 x5 rfl (x7 (by kernel_rfl) (x4 (x6 ?_)))))
 refine x8 ?_
 refine R2 (d_makeFunc (ps := [.ptr 2 0, .ptr 3 0]) rfl) rfl rfl (R1 x5 rfl (x7 (by kernel_rfl) (x4 (xa1 ?_))))
 exact xg7 LentC.mk' rfl rfl Imp.refl ⟨rfl, rfl, trivial⟩ rfl ⟨⟨rfl, (SupX.lit rfl)⟩, ⟨rfl, (SupX.lit rfl)⟩, trivial⟩ rfl
abbrev tMem (x y : Bool) : Ty := tS [⟨1, false, tB x⟩, ⟨1, false, tB y⟩]
def chY (a b : List Sn) (k : Nat) : List Ty := [tI ((chAll a b).getD k ch0).1, tMem (((chAll a b).getD k ch0).2.1 % 2 == 1) (((chAll a b).getD k ch0).2.2 % 2 == 1)]
theorem mod_eq {n : Nat} : decide ((n : Int) % 2 = 1) = (n % 2 == 1) := by
  rw [Bool.eq_iff_iff]; simp; omega
theorem ch_le {a b : List Sn} {k : Nat} {c : Ch} (h : (chAll a b).getD k ch0 = c) : LeL [tI c.1, tMem (decide ((c.2.1 : Int) % 2 = 1)) (decide ((c.2.2 : Int) % 2 = 1))] (chY a b k) := by
  rw [chY, h, mod_eq, mod_eq]; exact ⟨Le.refl, Le.refl, trivial⟩
theorem i_changes (a b : List Sn) (ha : sVal a = true) (hb : sVal b = true) (hla : a.length ≤ 1000000) (hlb : b.length ≤ 1000000) :
  ItC Tryz.prog 110 [(1, ⟨60, 1, false, [.val (tL 2 true tSn a)]⟩), (2, ⟨60, 1, false, [.val (tL 2 true tSn b)]⟩)] [.ptr 1 0, .ptr 2 0] ((chAll a b).length) (chY a b) := by
 refine ItC.intro (K := 99) [1, 2] Tryz.func110 rfl Tryz.ntmps110 rfl rfl ⟨⟨rfl, (SupX.lit rfl)⟩, ⟨rfl, (SupX.lit rfl)⟩, trivial⟩ rfl ?_
 intro w F η l V J Jc hB
 refine x6 ?_
 refine x8 ?_
 refine R1 x5 rfl (R1 x5 rfl (x7 (by kernel_rfl) (x4 (xa9 ?_))))
 refine xd6 (fun (fm : (Nat) × (Nat) × (Nat)) => (fun (k : Nat) (i : Nat) (j : Nat) => CI a b k i j) fm.1 fm.2.1 fm.2.2) (fun (fm : (Nat) × (Nat) × (Nat)) => (fun (k : Nat) (i : Nat) (j : Nat) => upd (upd (upd (upd (upd (fun _ => none) 0 (some (.val (tE (.func (.yield l) #[] #[]))))) 1 (some (.own (.ptr 1 0)))) 2 (some (.own (.ptr 2 0)))) 4 (some (.val (tI i)))) 5 (some (.val (tI j)))) fm.1 fm.2.1 fm.2.2) (fun (fm : (Nat) × (Nat) × (Nat)) => (fun (k : Nat) (i : Nat) (j : Nat) => upd (upd (upd (fun _ => none) 1 (some (⟨60, 1, false, [.val (tL 2 true tSn a)]⟩))) 2 (some (⟨60, 1, false, [.val (tL 2 true tSn b)]⟩))) 99 (some (⟨2 * k, 1, false, []⟩))) fm.1 fm.2.1 fm.2.2) (nm [1, 2, 99]) (fun (fm : (Nat) × (Nat) × (Nat)) => (fun (k : Nat) (i : Nat) (j : Nat) => 2 * a.length + 2 * b.length - (i + j)) fm.1 fm.2.1 fm.2.2) ((0, 0, 0)) (by dsimp only; exact CI.zero) (Sub.int rfl (by first | omega | rfl | (dsimp only; omega)) (Sub.int rfl (by first | omega | rfl | (dsimp only; omega)) (Sub.cons rfl (Sub.cons rfl (Sub.cons rfl Sub.nil))))) ((SubK.consI rfl ImpK.refl) ((SubK.consI rfl ImpK.refl) ((SubK.consI rfl ImpK.refl) SubK.nil))) (SupG.val (SupG.val (SupG.own rfl (SupG.own rfl (SupG.val SupG.nil))))) (SupH.cons rfl (supJL rfl) (SupH.cons rfl (supJL rfl) (SupH.cons rfl (supJL rfl) SupH.nil))) (lkOk rfl) ?_
 intro fm hI
 obtain ⟨k, i, j⟩ := fm
 replace hI : CI a b k i j := hI
 show wc _ _ _ _ (upd (upd (upd (upd (upd (fun _ => none) 0 (some (.val (tE (.func (.yield l) #[] #[]))))) 1 (some (.own (.ptr 1 0)))) 2 (some (.own (.ptr 2 0)))) 4 (some (.val (tI i)))) 5 (some (.val (tI j)))) (upd (upd (upd (fun _ => none) 1 (some (⟨60, 1, false, [.val (tL 2 true tSn a)]⟩))) 2 (some (⟨60, 1, false, [.val (tL 2 true tSn b)]⟩))) 99 (some (⟨2 * k, 1, false, []⟩))) _
 have hCI := hI
 have hi2 := hI.1
 have hj2 := hI.2.1
 refine x6 (x6 ?_)
 refine x8 ?_
 refine R1 x3 rfl (RE (xa8 (0) ti60 rfl rfl) ⟨rfl, trivial⟩ ⟨rfl, trivial⟩ trivial (R1 (xc3 Tryz.underlying60) rfl (R2 (d_mul (wr64 (by omega) (by omega))) rfl rfl (R2 xd2 rfl rfl (R1 x3 rfl ?_)))))
 refine RGcaseD (t := 12) rfl (fun h66 => ?_) (fun h66 => ?_)
 ·
  refine RGoff (decide_eq_true h66) rfl rfl (RGoff (decide_eq_true h66) rfl rfl (RGoff (decide_eq_true h66) rfl rfl (RGoff (decide_eq_true h66) rfl rfl (RGoff (decide_eq_true h66) rfl rfl (R2 (xb2 (decide_eq_true h66)) rfl rfl (x7 (by kernel_rfl) (x4 ?_)))))))
  refine C_bT rfl rfl (xa2 (x4 (xa9 (x6 ?_))))
  have hij : i < 2 * a.length ∨ j < 2 * b.length := by omega
  refine x8 ?_
  refine R1 x5 rfl (x7 (by kernel_rfl) (x4 ?_))
  refine xg5 (fun (d1 : Int) => d1 = cday1 a i) (fun (d1 : Int) => upd (upd (upd (upd (upd (upd (fun _ => none) 0 (some (.val (tE (.func (.yield l) #[] #[]))))) 1 (some (.own (.ptr 1 0)))) 2 (some (.own (.ptr 2 0)))) 4 (some (.val (tI i)))) 5 (some (.val (tI j)))) 6 (some (.val (tI d1)))) (fun (d1 : Int) => upd (upd (upd (fun _ => none) 1 (some (⟨60, 1, false, [.val (tL 2 true tSn a)]⟩))) 2 (some (⟨60, 1, false, [.val (tL 2 true tSn b)]⟩))) 99 (some (⟨2 * k, 1, false, []⟩))) (nm [1, 2, 99]) ?_ ?_
  ·
   refine x6 ?_
   refine x8 ?_
   refine R1 x3 rfl (RE (xa8 (0) ti60 rfl rfl) ⟨rfl, trivial⟩ ⟨rfl, trivial⟩ trivial (R1 (xc3 Tryz.underlying60) rfl (R2 (d_mul (wr64 (by omega) (by omega))) rfl rfl (R2 xd2 rfl rfl (x7 (by kernel_rfl) (x4 ?_))))))
   refine xc1 rfl (fun h68 => ?_) (fun h68 => ?_)
   ·
    refine x8 ?_
    refine R1 x3 rfl (RE (xa8 (0) ti60 rfl rfl) ⟨rfl, trivial⟩ ⟨rfl, trivial⟩ trivial (R1 x3 rfl (R2 (xa0 (c_border a i (by omega) (by omega)) fi111 rfl) rfl rfl (R2 d_min2 rfl rfl (R1 x5 rfl (x7 (by kernel_rfl) ?_))))))
    exact xb6 (min 65536 (bd a i)) (by rw [cday1, if_pos (by omega)]) (Sub.int rfl (by first | omega | rfl | (dsimp only; omega)) (Sub.int rfl (by first | omega | rfl | (dsimp only; omega)) (Sub.int rfl (by first | omega | rfl | (dsimp only; omega)) (Sub.cons rfl (Sub.cons rfl (Sub.cons rfl Sub.nil)))))) ((SubK.consI rfl ImpK.refl) ((SubK.consI rfl ImpK.refl) ((SubK.consI rfl ImpK.refl) SubK.nil))) (SupG.val (SupG.val (SupG.val (SupG.own rfl (SupG.own rfl (SupG.val SupG.nil)))))) (SupH.cons rfl (supJL rfl) (SupH.cons rfl (supJL rfl) (SupH.cons rfl (supJL rfl) SupH.nil))) (lkOk rfl)
   ·
    refine xa2 ?_
    exact xb6 (65536) (by rw [cday1, if_neg (by omega)]) (Sub.int rfl (by first | omega | rfl | (dsimp only; omega)) (Sub.int rfl (by first | omega | rfl | (dsimp only; omega)) (Sub.int rfl (by first | omega | rfl | (dsimp only; omega)) (Sub.cons rfl (Sub.cons rfl (Sub.cons rfl Sub.nil)))))) ((SubK.consI rfl ImpK.refl) ((SubK.consI rfl ImpK.refl) ((SubK.consI rfl ImpK.refl) SubK.nil))) (SupG.val (SupG.val (SupG.val (SupG.own rfl (SupG.own rfl (SupG.val SupG.nil)))))) (SupH.cons rfl (supJL rfl) (SupH.cons rfl (supJL rfl) (SupH.cons rfl (supJL rfl) SupH.nil))) (lkOk rfl)
  ·
   intro d1 hj68
   refine xg5 (fun (d2 : Int) => d2 = (cday a b i j)) (fun (d2 : Int) => upd (upd (upd (upd (upd (upd (fun _ => none) 0 (some (.val (tE (.func (.yield l) #[] #[]))))) 1 (some (.own (.ptr 1 0)))) 2 (some (.own (.ptr 2 0)))) 4 (some (.val (tI i)))) 5 (some (.val (tI j)))) 6 (some (.val (tI d2)))) (fun (d2 : Int) => upd (upd (upd (fun _ => none) 1 (some (⟨60, 1, false, [.val (tL 2 true tSn a)]⟩))) 2 (some (⟨60, 1, false, [.val (tL 2 true tSn b)]⟩))) 99 (some (⟨2 * k, 1, false, []⟩))) (nm [1, 2, 99]) ?_ ?_
   ·
    refine x6 ?_
    refine x8 ?_
    refine R1 x3 rfl (RE (xa8 (0) ti60 rfl rfl) ⟨rfl, trivial⟩ ⟨rfl, trivial⟩ trivial (R1 (xc3 Tryz.underlying60) rfl (R2 (d_mul (wr64 (by omega) (by omega))) rfl rfl (R2 xd2 rfl rfl (x7 (by kernel_rfl) (x4 ?_))))))
    refine xc1 rfl (fun h71 => ?_) (fun h71 => ?_)
    ·
     refine x8 ?_
     refine R1 x3 rfl (RE (xa8 (0) ti60 rfl rfl) ⟨rfl, trivial⟩ ⟨rfl, trivial⟩ trivial (R1 x3 rfl (R2 (xa0 (c_border b j (by omega) (by omega)) fi111 rfl) rfl rfl (R2 d_min2 rfl rfl (R1 x5 rfl (x7 (by kernel_rfl) ?_))))))
     exact xb6 (min d1 (bd b j)) (by rw [cday, if_pos (by omega), ← hj68]) (Sub.int rfl (by first | omega | rfl | (dsimp only; omega)) (Sub.int rfl (by first | omega | rfl | (dsimp only; omega)) (Sub.int rfl (by first | omega | rfl | (dsimp only; omega)) (Sub.cons rfl (Sub.cons rfl (Sub.cons rfl Sub.nil)))))) ((SubK.consI rfl ImpK.refl) ((SubK.consI rfl ImpK.refl) ((SubK.consI rfl ImpK.refl) SubK.nil))) (SupG.val (SupG.val (SupG.val (SupG.own rfl (SupG.own rfl (SupG.val SupG.nil)))))) (SupH.cons rfl (supJL rfl) (SupH.cons rfl (supJL rfl) (SupH.cons rfl (supJL rfl) SupH.nil))) (lkOk rfl)
    ·
     refine xa2 ?_
     exact xb6 (d1) (by rw [cday, if_neg (by omega), ← hj68]) (Sub.int rfl (by first | omega | rfl | (dsimp only; omega)) (Sub.int rfl (by first | omega | rfl | (dsimp only; omega)) (Sub.int rfl (by first | omega | rfl | (dsimp only; omega)) (Sub.cons rfl (Sub.cons rfl (Sub.cons rfl Sub.nil)))))) ((SubK.consI rfl ImpK.refl) ((SubK.consI rfl ImpK.refl) ((SubK.consI rfl ImpK.refl) SubK.nil))) (SupG.val (SupG.val (SupG.val (SupG.own rfl (SupG.own rfl (SupG.val SupG.nil)))))) (SupH.cons rfl (supJL rfl) (SupH.cons rfl (supJL rfl) (SupH.cons rfl (supJL rfl) SupH.nil))) (lkOk rfl)
   ·
    intro d2 hj71
    subst hj71
    refine xg5 (fun (i2 : Nat) => i2 = cnxt a i (cday a b i j)) (fun (i2 : Nat) => upd (upd (upd (upd (upd (upd (fun _ => none) 0 (some (.val (tE (.func (.yield l) #[] #[]))))) 1 (some (.own (.ptr 1 0)))) 2 (some (.own (.ptr 2 0)))) 4 (some (.val (tI i2)))) 5 (some (.val (tI j)))) 6 (some (.val (tI (cday a b i j))))) (fun (i2 : Nat) => upd (upd (upd (fun _ => none) 1 (some (⟨60, 1, false, [.val (tL 2 true tSn a)]⟩))) 2 (some (⟨60, 1, false, [.val (tL 2 true tSn b)]⟩))) 99 (some (⟨2 * k, 1, false, []⟩))) (nm [1, 2, 99]) ?_ ?_
    ·
     refine x6 ?_
     refine x8 ?_
     refine R1 x3 rfl (RE (xa8 (0) ti60 rfl rfl) ⟨rfl, trivial⟩ ⟨rfl, trivial⟩ trivial (R1 (xc3 Tryz.underlying60) rfl (R2 (d_mul (wr64 (by omega) (by omega))) rfl rfl (R2 xd2 rfl rfl (R1 x3 rfl ?_)))))
     refine RGcaseD (t := 44) rfl (fun h74 => ?_) (fun h74 => ?_)
     ·
      refine RGon (decide_eq_true h74) rfl (xa8 (0) ti60 rfl rfl) rfl ⟨rfl, trivial⟩ ⟨rfl, trivial⟩ trivial (RGon (decide_eq_true h74) rfl x3 rfl ⟨rfl, trivial⟩ trivial trivial (RGon (decide_eq_true h74) rfl (xa0 (c_border a i (by omega) (by omega)) fi111 rfl) rfl ⟨rfl, rfl, trivial⟩ trivial trivial (RGon (decide_eq_true h74) rfl x3 rfl ⟨rfl, trivial⟩ trivial trivial (RGon (decide_eq_true h74) rfl xe5 rfl ⟨rfl, rfl, trivial⟩ trivial trivial (R2 (xb2 (decide_eq_true h74)) rfl rfl (x7 (by kernel_rfl) (x4 ?_)))))))
      refine xc1 rfl (fun h74_2 => ?_) (fun h74_2 => ?_)
      ·
       refine x8 ?_
       refine R1 x3 rfl (R2 (xb9 (wr64 (by omega) (by omega))) rfl rfl (R1 x5 rfl (x7 (by kernel_rfl) ?_)))
       exact xb6 (i + 1) (by rw [cnxt, if_pos ⟨by omega, h74_2⟩]) (Sub.int rfl (by first | omega | rfl | (dsimp only; omega)) (Sub.int rfl (by first | omega | rfl | (dsimp only; omega)) (Sub.int rfl (by first | omega | rfl | (dsimp only; omega)) (Sub.cons rfl (Sub.cons rfl (Sub.cons rfl Sub.nil)))))) ((SubK.consI rfl ImpK.refl) ((SubK.consI rfl ImpK.refl) ((SubK.consI rfl ImpK.refl) SubK.nil))) (SupG.val (SupG.val (SupG.val (SupG.own rfl (SupG.own rfl (SupG.val SupG.nil)))))) (SupH.cons rfl (supJL rfl) (SupH.cons rfl (supJL rfl) (SupH.cons rfl (supJL rfl) SupH.nil))) (lkOk rfl)
      ·
       refine xa2 ?_
       exact xb6 (i) (by rw [cnxt, if_neg (fun h => h74_2 h.2)]) (Sub.int rfl (by first | omega | rfl | (dsimp only; omega)) (Sub.int rfl (by first | omega | rfl | (dsimp only; omega)) (Sub.int rfl (by first | omega | rfl | (dsimp only; omega)) (Sub.cons rfl (Sub.cons rfl (Sub.cons rfl Sub.nil)))))) ((SubK.consI rfl ImpK.refl) ((SubK.consI rfl ImpK.refl) ((SubK.consI rfl ImpK.refl) SubK.nil))) (SupG.val (SupG.val (SupG.val (SupG.own rfl (SupG.own rfl (SupG.val SupG.nil)))))) (SupH.cons rfl (supJL rfl) (SupH.cons rfl (supJL rfl) (SupH.cons rfl (supJL rfl) SupH.nil))) (lkOk rfl)
     ·
      refine RGoff (decide_eq_false h74) rfl rfl (RGoff (decide_eq_false h74) rfl rfl (RGoff (decide_eq_false h74) rfl rfl (RGoff (decide_eq_false h74) rfl rfl (RGoff (decide_eq_false h74) rfl rfl (R2 (xa7 (decide_eq_false h74)) rfl rfl (x7 (by kernel_rfl) (x4 ?_)))))))
      refine C_bF rfl rfl (xa2 ?_)
      exact xb6 (i) (by rw [cnxt, if_neg (fun h => by have := h.1; omega)]) (Sub.int rfl (by first | omega | rfl | (dsimp only; omega)) (Sub.int rfl (by first | omega | rfl | (dsimp only; omega)) (Sub.int rfl (by first | omega | rfl | (dsimp only; omega)) (Sub.cons rfl (Sub.cons rfl (Sub.cons rfl Sub.nil)))))) ((SubK.consI rfl ImpK.refl) ((SubK.consI rfl ImpK.refl) ((SubK.consI rfl ImpK.refl) SubK.nil))) (SupG.val (SupG.val (SupG.val (SupG.own rfl (SupG.own rfl (SupG.val SupG.nil)))))) (SupH.cons rfl (supJL rfl) (SupH.cons rfl (supJL rfl) (SupH.cons rfl (supJL rfl) SupH.nil))) (lkOk rfl)
    ·
     intro i2 hj74
     subst hj74
     refine xg5 (fun (j2 : Nat) => j2 = cnxt b j (cday a b i j)) (fun (j2 : Nat) => upd (upd (upd (upd (upd (upd (fun _ => none) 0 (some (.val (tE (.func (.yield l) #[] #[]))))) 1 (some (.own (.ptr 1 0)))) 2 (some (.own (.ptr 2 0)))) 4 (some (.val (tI (cnxt a i (cday a b i j) : Nat))))) 5 (some (.val (tI j2)))) 6 (some (.val (tI (cday a b i j))))) (fun (j2 : Nat) => upd (upd (upd (fun _ => none) 1 (some (⟨60, 1, false, [.val (tL 2 true tSn a)]⟩))) 2 (some (⟨60, 1, false, [.val (tL 2 true tSn b)]⟩))) 99 (some (⟨2 * k, 1, false, []⟩))) (nm [1, 2, 99]) ?_ ?_
     ·
      refine x6 ?_
      refine x8 ?_
      refine R1 x3 rfl (RE (xa8 (0) ti60 rfl rfl) ⟨rfl, trivial⟩ ⟨rfl, trivial⟩ trivial (R1 (xc3 Tryz.underlying60) rfl (R2 (d_mul (wr64 (by omega) (by omega))) rfl rfl (R2 xd2 rfl rfl (R1 x3 rfl ?_)))))
      refine RGcaseD (t := 58) rfl (fun h77 => ?_) (fun h77 => ?_)
      ·
       refine RGon (decide_eq_true h77) rfl (xa8 (0) ti60 rfl rfl) rfl ⟨rfl, trivial⟩ ⟨rfl, trivial⟩ trivial (RGon (decide_eq_true h77) rfl x3 rfl ⟨rfl, trivial⟩ trivial trivial (RGon (decide_eq_true h77) rfl (xa0 (c_border b j (by omega) (by omega)) fi111 rfl) rfl ⟨rfl, rfl, trivial⟩ trivial trivial (RGon (decide_eq_true h77) rfl x3 rfl ⟨rfl, trivial⟩ trivial trivial (RGon (decide_eq_true h77) rfl xe5 rfl ⟨rfl, rfl, trivial⟩ trivial trivial (R2 (xb2 (decide_eq_true h77)) rfl rfl (x7 (by kernel_rfl) (x4 ?_)))))))
       refine xc1 rfl (fun h77_2 => ?_) (fun h77_2 => ?_)
       ·
        refine x8 ?_
        refine R1 x3 rfl (R2 (xb9 (wr64 (by omega) (by omega))) rfl rfl (R1 x5 rfl (x7 (by kernel_rfl) ?_)))
        exact xb6 (j + 1) (by rw [cnxt, if_pos ⟨by omega, h77_2⟩]) (Sub.int rfl (by first | omega | rfl | (dsimp only; omega)) (Sub.int rfl (by first | omega | rfl | (dsimp only; omega)) (Sub.int rfl (by first | omega | rfl | (dsimp only; omega)) (Sub.cons rfl (Sub.cons rfl (Sub.cons rfl Sub.nil)))))) ((SubK.consI rfl ImpK.refl) ((SubK.consI rfl ImpK.refl) ((SubK.consI rfl ImpK.refl) SubK.nil))) (SupG.val (SupG.val (SupG.val (SupG.own rfl (SupG.own rfl (SupG.val SupG.nil)))))) (SupH.cons rfl (supJL rfl) (SupH.cons rfl (supJL rfl) (SupH.cons rfl (supJL rfl) SupH.nil))) (lkOk rfl)
       ·
        refine xa2 ?_
        exact xb6 (j) (by rw [cnxt, if_neg (fun h => h77_2 h.2)]) (Sub.int rfl (by first | omega | rfl | (dsimp only; omega)) (Sub.int rfl (by first | omega | rfl | (dsimp only; omega)) (Sub.int rfl (by first | omega | rfl | (dsimp only; omega)) (Sub.cons rfl (Sub.cons rfl (Sub.cons rfl Sub.nil)))))) ((SubK.consI rfl ImpK.refl) ((SubK.consI rfl ImpK.refl) ((SubK.consI rfl ImpK.refl) SubK.nil))) (SupG.val (SupG.val (SupG.val (SupG.own rfl (SupG.own rfl (SupG.val SupG.nil)))))) (SupH.cons rfl (supJL rfl) (SupH.cons rfl (supJL rfl) (SupH.cons rfl (supJL rfl) SupH.nil))) (lkOk rfl)
      ·
       refine RGoff (decide_eq_false h77) rfl rfl (RGoff (decide_eq_false h77) rfl rfl (RGoff (decide_eq_false h77) rfl rfl (RGoff (decide_eq_false h77) rfl rfl (RGoff (decide_eq_false h77) rfl rfl (R2 (xa7 (decide_eq_false h77)) rfl rfl (x7 (by kernel_rfl) (x4 ?_)))))))
       refine C_bF rfl rfl (xa2 ?_)
       exact xb6 (j) (by rw [cnxt, if_neg (fun h => by have := h.1; omega)]) (Sub.int rfl (by first | omega | rfl | (dsimp only; omega)) (Sub.int rfl (by first | omega | rfl | (dsimp only; omega)) (Sub.int rfl (by first | omega | rfl | (dsimp only; omega)) (Sub.cons rfl (Sub.cons rfl (Sub.cons rfl Sub.nil)))))) ((SubK.consI rfl ImpK.refl) ((SubK.consI rfl ImpK.refl) ((SubK.consI rfl ImpK.refl) SubK.nil))) (SupG.val (SupG.val (SupG.val (SupG.own rfl (SupG.own rfl (SupG.val SupG.nil)))))) (SupH.cons rfl (supJL rfl) (SupH.cons rfl (supJL rfl) (SupH.cons rfl (supJL rfl) SupH.nil))) (lkOk rfl)
     ·
      intro j2 hj77
      subst hj77
      refine x6 ?_
      refine C_regY ?_
      refine xf9 x3 ⟨rfl, trivial⟩ trivial trivial rfl (xf9 x3 ⟨rfl, trivial⟩ trivial trivial rfl (xf9 x3 ⟨rfl, trivial⟩ trivial trivial rfl (xf9 (d_remP (by omega) (by omega)) ⟨rfl, rfl, trivial⟩ trivial trivial rfl (xf9 xe5 ⟨rfl, rfl, trivial⟩ trivial trivial rfl (xf9 x3 ⟨rfl, trivial⟩ trivial trivial rfl (xf9 (d_remP (by omega) (by omega)) ⟨rfl, rfl, trivial⟩ trivial trivial rfl (xf9 xe5 ⟨rfl, rfl, trivial⟩ trivial trivial rfl ?_)))))))
      refine xf9 (xc7 (r := tS [⟨1, false, tB (decide ((cnxt a i (cday a b i j) : Nat) % 2 = (1 : Int)))⟩, ⟨1, false, tB (decide ((cnxt b j (cday a b i j) : Nat) % 2 = (1 : Int)))⟩]) (ts := [(0, tB (decide ((cnxt a i (cday a b i j) : Nat) % 2 = (1 : Int)))), (1, tB (decide ((cnxt b j (cday a b i j) : Nat) % 2 = (1 : Int))))]) bu116 zr116.2 ⟨_, rfl⟩ rfl ⟨_, _, _, _, rfl, Up.f (fs := [⟨1, false, (tE (.bool false))⟩, ⟨1, false, (tE (.bool false))⟩]) (f := ⟨1, false, (tE (.bool false))⟩) (fs' := [⟨1, false, tB (decide ((cnxt a i (cday a b i j) : Nat) % 2 = (1 : Int)))⟩, ⟨1, false, (tE (.bool false))⟩]) 0 rfl rfl rfl, inferInstance, ⟨_, _, _, _, rfl, Up.f (fs := [⟨1, false, tB (decide ((cnxt a i (cday a b i j) : Nat) % 2 = (1 : Int)))⟩, ⟨1, false, (tE (.bool false))⟩]) (f := ⟨1, false, (tE (.bool false))⟩) (fs' := [⟨1, false, tB (decide ((cnxt a i (cday a b i j) : Nat) % 2 = (1 : Int)))⟩, ⟨1, false, tB (decide ((cnxt b j (cday a b i j) : Nat) % 2 = (1 : Int)))⟩]) 1 rfl rfl rfl, inferInstance, Le.refl⟩⟩) ⟨rfl, rfl, trivial⟩ trivial trivial rfl ?_
      obtain ⟨hkN, hkc, hnx, hadv⟩ := hCI.next ha hb hij
      refine wl_yield (ts := [tI (cday a b i j), tMem (decide ((cnxt a i (cday a b i j) : Nat) % 2 = (1 : Int))) (decide ((cnxt b j (cday a b i j) : Nat) % 2 = (1 : Int)))]) hB (wanted_none rfl) rfl rfl ⟨rfl, rfl, trivial⟩ rfl rfl hkN (ch_le hkc) ?_ ?_
      ·
       refine xf9 xe2 ⟨rfl, trivial⟩ trivial trivial rfl (wl_nil (x4 (C_bF rfl rfl (xa2 (xc0 ?_)))))
       exact xb6 ((k + 1, cnxt a i (cday a b i j), cnxt b j (cday a b i j))) ⟨(by dsimp only; exact hnx), (by dsimp only; have := hnx.1; have := hnx.2.1; omega)⟩ (Sub.int rfl (by first | omega | rfl | (dsimp only; omega)) (Sub.int rfl (by first | omega | rfl | (dsimp only; omega)) (Sub.cons rfl (Sub.cons rfl (Sub.cons rfl Sub.nil))))) ((SubK.consI rfl ImpK.refl) ((SubK.consI rfl ImpK.refl) ((SubK.consI rfl ImpK.refl) SubK.nil))) (SupG.val (SupG.val (SupG.own rfl (SupG.own rfl (SupG.val SupG.nil))))) (SupH.cons rfl (supJL rfl) (SupH.cons rfl (supJL rfl) (SupH.cons rfl (supJL rfl) SupH.nil))) (lkOk rfl)
      ·
       refine xf9 xe2 ⟨rfl, trivial⟩ trivial trivial rfl (wl_nil (x4 (C_bT rfl rfl (xa1 (xc5 (xa3 (xc5 ?_)))))))
       exact E_it hB rfl trivial rfl (.inl rfl) rfl (.inr ⟨k, hkN, rfl⟩)
 ·
  refine RGon (decide_eq_false h66) rfl x3 rfl ⟨rfl, trivial⟩ trivial trivial (RGon (decide_eq_false h66) rfl (xa8 (0) ti60 rfl rfl) rfl ⟨rfl, trivial⟩ ⟨rfl, trivial⟩ trivial (RGon (decide_eq_false h66) rfl (xc3 Tryz.underlying60) rfl ⟨rfl, trivial⟩ trivial trivial (RGon (decide_eq_false h66) rfl (d_mul (wr64 (by omega) (by omega))) rfl ⟨rfl, rfl, trivial⟩ trivial trivial (RGon (decide_eq_false h66) rfl xd2 rfl ⟨rfl, rfl, trivial⟩ trivial trivial (R2 (xa7 (decide_eq_false h66)) rfl rfl (x7 (by kernel_rfl) (x4 ?_)))))))
  refine xc1 rfl (fun h66_2 => ?_) (fun h66_2 => ?_)
  ·
   refine xa2 (x4 (xa9 (x6 ?_)))
   have hij : i < 2 * a.length ∨ j < 2 * b.length := by omega
   refine x8 ?_
   refine R1 x5 rfl (x7 (by kernel_rfl) (x4 ?_))
   refine xg5 (fun (d1 : Int) => d1 = cday1 a i) (fun (d1 : Int) => upd (upd (upd (upd (upd (upd (fun _ => none) 0 (some (.val (tE (.func (.yield l) #[] #[]))))) 1 (some (.own (.ptr 1 0)))) 2 (some (.own (.ptr 2 0)))) 4 (some (.val (tI i)))) 5 (some (.val (tI j)))) 6 (some (.val (tI d1)))) (fun (d1 : Int) => upd (upd (upd (fun _ => none) 1 (some (⟨60, 1, false, [.val (tL 2 true tSn a)]⟩))) 2 (some (⟨60, 1, false, [.val (tL 2 true tSn b)]⟩))) 99 (some (⟨2 * k, 1, false, []⟩))) (nm [1, 2, 99]) ?_ ?_
   ·
    refine x6 ?_
    refine x8 ?_
    refine R1 x3 rfl (RE (xa8 (0) ti60 rfl rfl) ⟨rfl, trivial⟩ ⟨rfl, trivial⟩ trivial (R1 (xc3 Tryz.underlying60) rfl (R2 (d_mul (wr64 (by omega) (by omega))) rfl rfl (R2 xd2 rfl rfl (x7 (by kernel_rfl) (x4 ?_))))))
    refine xc1 rfl (fun h68 => ?_) (fun h68 => ?_)
    ·
     refine x8 ?_
     refine R1 x3 rfl (RE (xa8 (0) ti60 rfl rfl) ⟨rfl, trivial⟩ ⟨rfl, trivial⟩ trivial (R1 x3 rfl (R2 (xa0 (c_border a i (by omega) (by omega)) fi111 rfl) rfl rfl (R2 d_min2 rfl rfl (R1 x5 rfl (x7 (by kernel_rfl) ?_))))))
     exact xb6 (min 65536 (bd a i)) (by rw [cday1, if_pos (by omega)]) (Sub.int rfl (by first | omega | rfl | (dsimp only; omega)) (Sub.int rfl (by first | omega | rfl | (dsimp only; omega)) (Sub.int rfl (by first | omega | rfl | (dsimp only; omega)) (Sub.cons rfl (Sub.cons rfl (Sub.cons rfl Sub.nil)))))) ((SubK.consI rfl ImpK.refl) ((SubK.consI rfl ImpK.refl) ((SubK.consI rfl ImpK.refl) SubK.nil))) (SupG.val (SupG.val (SupG.val (SupG.own rfl (SupG.own rfl (SupG.val SupG.nil)))))) (SupH.cons rfl (supJL rfl) (SupH.cons rfl (supJL rfl) (SupH.cons rfl (supJL rfl) SupH.nil))) (lkOk rfl)
    ·
     refine xa2 ?_
     exact xb6 (65536) (by rw [cday1, if_neg (by omega)]) (Sub.int rfl (by first | omega | rfl | (dsimp only; omega)) (Sub.int rfl (by first | omega | rfl | (dsimp only; omega)) (Sub.int rfl (by first | omega | rfl | (dsimp only; omega)) (Sub.cons rfl (Sub.cons rfl (Sub.cons rfl Sub.nil)))))) ((SubK.consI rfl ImpK.refl) ((SubK.consI rfl ImpK.refl) ((SubK.consI rfl ImpK.refl) SubK.nil))) (SupG.val (SupG.val (SupG.val (SupG.own rfl (SupG.own rfl (SupG.val SupG.nil)))))) (SupH.cons rfl (supJL rfl) (SupH.cons rfl (supJL rfl) (SupH.cons rfl (supJL rfl) SupH.nil))) (lkOk rfl)
   ·
    intro d1 hj68
    refine xg5 (fun (d2 : Int) => d2 = (cday a b i j)) (fun (d2 : Int) => upd (upd (upd (upd (upd (upd (fun _ => none) 0 (some (.val (tE (.func (.yield l) #[] #[]))))) 1 (some (.own (.ptr 1 0)))) 2 (some (.own (.ptr 2 0)))) 4 (some (.val (tI i)))) 5 (some (.val (tI j)))) 6 (some (.val (tI d2)))) (fun (d2 : Int) => upd (upd (upd (fun _ => none) 1 (some (⟨60, 1, false, [.val (tL 2 true tSn a)]⟩))) 2 (some (⟨60, 1, false, [.val (tL 2 true tSn b)]⟩))) 99 (some (⟨2 * k, 1, false, []⟩))) (nm [1, 2, 99]) ?_ ?_
    ·
     refine x6 ?_
     refine x8 ?_
     refine R1 x3 rfl (RE (xa8 (0) ti60 rfl rfl) ⟨rfl, trivial⟩ ⟨rfl, trivial⟩ trivial (R1 (xc3 Tryz.underlying60) rfl (R2 (d_mul (wr64 (by omega) (by omega))) rfl rfl (R2 xd2 rfl rfl (x7 (by kernel_rfl) (x4 ?_))))))
     refine xc1 rfl (fun h71 => ?_) (fun h71 => ?_)
     ·
      refine x8 ?_
      refine R1 x3 rfl (RE (xa8 (0) ti60 rfl rfl) ⟨rfl, trivial⟩ ⟨rfl, trivial⟩ trivial (R1 x3 rfl (R2 (xa0 (c_border b j (by omega) (by omega)) fi111 rfl) rfl rfl (R2 d_min2 rfl rfl (R1 x5 rfl (x7 (by kernel_rfl) ?_))))))
      exact xb6 (min d1 (bd b j)) (by rw [cday, if_pos (by omega), ← hj68]) (Sub.int rfl (by first | omega | rfl | (dsimp only; omega)) (Sub.int rfl (by first | omega | rfl | (dsimp only; omega)) (Sub.int rfl (by first | omega | rfl | (dsimp only; omega)) (Sub.cons rfl (Sub.cons rfl (Sub.cons rfl Sub.nil)))))) ((SubK.consI rfl ImpK.refl) ((SubK.consI rfl ImpK.refl) ((SubK.consI rfl ImpK.refl) SubK.nil))) (SupG.val (SupG.val (SupG.val (SupG.own rfl (SupG.own rfl (SupG.val SupG.nil)))))) (SupH.cons rfl (supJL rfl) (SupH.cons rfl (supJL rfl) (SupH.cons rfl (supJL rfl) SupH.nil))) (lkOk rfl)
     ·
      refine xa2 ?_
      exact xb6 (d1) (by rw [cday, if_neg (by omega), ← hj68]) (Sub.int rfl (by first | omega | rfl | (dsimp only; omega)) (Sub.int rfl (by first | omega | rfl | (dsimp only; omega)) (Sub.int rfl (by first | omega | rfl | (dsimp only; omega)) (Sub.cons rfl (Sub.cons rfl (Sub.cons rfl Sub.nil)))))) ((SubK.consI rfl ImpK.refl) ((SubK.consI rfl ImpK.refl) ((SubK.consI rfl ImpK.refl) SubK.nil))) (SupG.val (SupG.val (SupG.val (SupG.own rfl (SupG.own rfl (SupG.val SupG.nil)))))) (SupH.cons rfl (supJL rfl) (SupH.cons rfl (supJL rfl) (SupH.cons rfl (supJL rfl) SupH.nil))) (lkOk rfl)
    ·
     intro d2 hj71
     subst hj71
     refine xg5 (fun (i2 : Nat) => i2 = cnxt a i (cday a b i j)) (fun (i2 : Nat) => upd (upd (upd (upd (upd (upd (fun _ => none) 0 (some (.val (tE (.func (.yield l) #[] #[]))))) 1 (some (.own (.ptr 1 0)))) 2 (some (.own (.ptr 2 0)))) 4 (some (.val (tI i2)))) 5 (some (.val (tI j)))) 6 (some (.val (tI (cday a b i j))))) (fun (i2 : Nat) => upd (upd (upd (fun _ => none) 1 (some (⟨60, 1, false, [.val (tL 2 true tSn a)]⟩))) 2 (some (⟨60, 1, false, [.val (tL 2 true tSn b)]⟩))) 99 (some (⟨2 * k, 1, false, []⟩))) (nm [1, 2, 99]) ?_ ?_
     ·
      refine x6 ?_
      refine x8 ?_
      refine R1 x3 rfl (RE (xa8 (0) ti60 rfl rfl) ⟨rfl, trivial⟩ ⟨rfl, trivial⟩ trivial (R1 (xc3 Tryz.underlying60) rfl (R2 (d_mul (wr64 (by omega) (by omega))) rfl rfl (R2 xd2 rfl rfl (R1 x3 rfl ?_)))))
      refine RGcaseD (t := 44) rfl (fun h74 => ?_) (fun h74 => ?_)
      ·
       refine RGon (decide_eq_true h74) rfl (xa8 (0) ti60 rfl rfl) rfl ⟨rfl, trivial⟩ ⟨rfl, trivial⟩ trivial (RGon (decide_eq_true h74) rfl x3 rfl ⟨rfl, trivial⟩ trivial trivial (RGon (decide_eq_true h74) rfl (xa0 (c_border a i (by omega) (by omega)) fi111 rfl) rfl ⟨rfl, rfl, trivial⟩ trivial trivial (RGon (decide_eq_true h74) rfl x3 rfl ⟨rfl, trivial⟩ trivial trivial (RGon (decide_eq_true h74) rfl xe5 rfl ⟨rfl, rfl, trivial⟩ trivial trivial (R2 (xb2 (decide_eq_true h74)) rfl rfl (x7 (by kernel_rfl) (x4 ?_)))))))
       refine xc1 rfl (fun h74_2 => ?_) (fun h74_2 => ?_)
       ·
        refine x8 ?_
        refine R1 x3 rfl (R2 (xb9 (wr64 (by omega) (by omega))) rfl rfl (R1 x5 rfl (x7 (by kernel_rfl) ?_)))
        exact xb6 (i + 1) (by rw [cnxt, if_pos ⟨by omega, h74_2⟩]) (Sub.int rfl (by first | omega | rfl | (dsimp only; omega)) (Sub.int rfl (by first | omega | rfl | (dsimp only; omega)) (Sub.int rfl (by first | omega | rfl | (dsimp only; omega)) (Sub.cons rfl (Sub.cons rfl (Sub.cons rfl Sub.nil)))))) ((SubK.consI rfl ImpK.refl) ((SubK.consI rfl ImpK.refl) ((SubK.consI rfl ImpK.refl) SubK.nil))) (SupG.val (SupG.val (SupG.val (SupG.own rfl (SupG.own rfl (SupG.val SupG.nil)))))) (SupH.cons rfl (supJL rfl) (SupH.cons rfl (supJL rfl) (SupH.cons rfl (supJL rfl) SupH.nil))) (lkOk rfl)
       ·
        refine xa2 ?_
        exact xb6 (i) (by rw [cnxt, if_neg (fun h => h74_2 h.2)]) (Sub.int rfl (by first | omega | rfl | (dsimp only; omega)) (Sub.int rfl (by first | omega | rfl | (dsimp only; omega)) (Sub.int rfl (by first | omega | rfl | (dsimp only; omega)) (Sub.cons rfl (Sub.cons rfl (Sub.cons rfl Sub.nil)))))) ((SubK.consI rfl ImpK.refl) ((SubK.consI rfl ImpK.refl) ((SubK.consI rfl ImpK.refl) SubK.nil))) (SupG.val (SupG.val (SupG.val (SupG.own rfl (SupG.own rfl (SupG.val SupG.nil)))))) (SupH.cons rfl (supJL rfl) (SupH.cons rfl (supJL rfl) (SupH.cons rfl (supJL rfl) SupH.nil))) (lkOk rfl)
      ·
       refine RGoff (decide_eq_false h74) rfl rfl (RGoff (decide_eq_false h74) rfl rfl (RGoff (decide_eq_false h74) rfl rfl (RGoff (decide_eq_false h74) rfl rfl (RGoff (decide_eq_false h74) rfl rfl (R2 (xa7 (decide_eq_false h74)) rfl rfl (x7 (by kernel_rfl) (x4 ?_)))))))
       refine C_bF rfl rfl (xa2 ?_)
       exact xb6 (i) (by rw [cnxt, if_neg (fun h => by have := h.1; omega)]) (Sub.int rfl (by first | omega | rfl | (dsimp only; omega)) (Sub.int rfl (by first | omega | rfl | (dsimp only; omega)) (Sub.int rfl (by first | omega | rfl | (dsimp only; omega)) (Sub.cons rfl (Sub.cons rfl (Sub.cons rfl Sub.nil)))))) ((SubK.consI rfl ImpK.refl) ((SubK.consI rfl ImpK.refl) ((SubK.consI rfl ImpK.refl) SubK.nil))) (SupG.val (SupG.val (SupG.val (SupG.own rfl (SupG.own rfl (SupG.val SupG.nil)))))) (SupH.cons rfl (supJL rfl) (SupH.cons rfl (supJL rfl) (SupH.cons rfl (supJL rfl) SupH.nil))) (lkOk rfl)
     ·
      intro i2 hj74
      subst hj74
      refine xg5 (fun (j2 : Nat) => j2 = cnxt b j (cday a b i j)) (fun (j2 : Nat) => upd (upd (upd (upd (upd (upd (fun _ => none) 0 (some (.val (tE (.func (.yield l) #[] #[]))))) 1 (some (.own (.ptr 1 0)))) 2 (some (.own (.ptr 2 0)))) 4 (some (.val (tI (cnxt a i (cday a b i j) : Nat))))) 5 (some (.val (tI j2)))) 6 (some (.val (tI (cday a b i j))))) (fun (j2 : Nat) => upd (upd (upd (fun _ => none) 1 (some (⟨60, 1, false, [.val (tL 2 true tSn a)]⟩))) 2 (some (⟨60, 1, false, [.val (tL 2 true tSn b)]⟩))) 99 (some (⟨2 * k, 1, false, []⟩))) (nm [1, 2, 99]) ?_ ?_
      ·
       refine x6 ?_
       refine x8 ?_
       refine R1 x3 rfl (RE (xa8 (0) ti60 rfl rfl) ⟨rfl, trivial⟩ ⟨rfl, trivial⟩ trivial (R1 (xc3 Tryz.underlying60) rfl (R2 (d_mul (wr64 (by omega) (by omega))) rfl rfl (R2 xd2 rfl rfl (R1 x3 rfl ?_)))))
       refine RGcaseD (t := 58) rfl (fun h77 => ?_) (fun h77 => ?_)
       ·
        refine RGon (decide_eq_true h77) rfl (xa8 (0) ti60 rfl rfl) rfl ⟨rfl, trivial⟩ ⟨rfl, trivial⟩ trivial (RGon (decide_eq_true h77) rfl x3 rfl ⟨rfl, trivial⟩ trivial trivial (RGon (decide_eq_true h77) rfl (xa0 (c_border b j (by omega) (by omega)) fi111 rfl) rfl ⟨rfl, rfl, trivial⟩ trivial trivial (RGon (decide_eq_true h77) rfl x3 rfl ⟨rfl, trivial⟩ trivial trivial (RGon (decide_eq_true h77) rfl xe5 rfl ⟨rfl, rfl, trivial⟩ trivial trivial (R2 (xb2 (decide_eq_true h77)) rfl rfl (x7 (by kernel_rfl) (x4 ?_)))))))
        refine xc1 rfl (fun h77_2 => ?_) (fun h77_2 => ?_)
        ·
         refine x8 ?_
         refine R1 x3 rfl (R2 (xb9 (wr64 (by omega) (by omega))) rfl rfl (R1 x5 rfl (x7 (by kernel_rfl) ?_)))
         exact xb6 (j + 1) (by rw [cnxt, if_pos ⟨by omega, h77_2⟩]) (Sub.int rfl (by first | omega | rfl | (dsimp only; omega)) (Sub.int rfl (by first | omega | rfl | (dsimp only; omega)) (Sub.int rfl (by first | omega | rfl | (dsimp only; omega)) (Sub.cons rfl (Sub.cons rfl (Sub.cons rfl Sub.nil)))))) ((SubK.consI rfl ImpK.refl) ((SubK.consI rfl ImpK.refl) ((SubK.consI rfl ImpK.refl) SubK.nil))) (SupG.val (SupG.val (SupG.val (SupG.own rfl (SupG.own rfl (SupG.val SupG.nil)))))) (SupH.cons rfl (supJL rfl) (SupH.cons rfl (supJL rfl) (SupH.cons rfl (supJL rfl) SupH.nil))) (lkOk rfl)
        ·
         refine xa2 ?_
         exact xb6 (j) (by rw [cnxt, if_neg (fun h => h77_2 h.2)]) (Sub.int rfl (by first | omega | rfl | (dsimp only; omega)) (Sub.int rfl (by first | omega | rfl | (dsimp only; omega)) (Sub.int rfl (by first | omega | rfl | (dsimp only; omega)) (Sub.cons rfl (Sub.cons rfl (Sub.cons rfl Sub.nil)))))) ((SubK.consI rfl ImpK.refl) ((SubK.consI rfl ImpK.refl) ((SubK.consI rfl ImpK.refl) SubK.nil))) (SupG.val (SupG.val (SupG.val (SupG.own rfl (SupG.own rfl (SupG.val SupG.nil)))))) (SupH.cons rfl (supJL rfl) (SupH.cons rfl (supJL rfl) (SupH.cons rfl (supJL rfl) SupH.nil))) (lkOk rfl)
       ·
        refine RGoff (decide_eq_false h77) rfl rfl (RGoff (decide_eq_false h77) rfl rfl (RGoff (decide_eq_false h77) rfl rfl (RGoff (decide_eq_false h77) rfl rfl (RGoff (decide_eq_false h77) rfl rfl (R2 (xa7 (decide_eq_false h77)) rfl rfl (x7 (by kernel_rfl) (x4 ?_)))))))
        refine C_bF rfl rfl (xa2 ?_)
        exact xb6 (j) (by rw [cnxt, if_neg (fun h => by have := h.1; omega)]) (Sub.int rfl (by first | omega | rfl | (dsimp only; omega)) (Sub.int rfl (by first | omega | rfl | (dsimp only; omega)) (Sub.int rfl (by first | omega | rfl | (dsimp only; omega)) (Sub.cons rfl (Sub.cons rfl (Sub.cons rfl Sub.nil)))))) ((SubK.consI rfl ImpK.refl) ((SubK.consI rfl ImpK.refl) ((SubK.consI rfl ImpK.refl) SubK.nil))) (SupG.val (SupG.val (SupG.val (SupG.own rfl (SupG.own rfl (SupG.val SupG.nil)))))) (SupH.cons rfl (supJL rfl) (SupH.cons rfl (supJL rfl) (SupH.cons rfl (supJL rfl) SupH.nil))) (lkOk rfl)
      ·
       intro j2 hj77
       subst hj77
       refine x6 ?_
       refine C_regY ?_
       refine xf9 x3 ⟨rfl, trivial⟩ trivial trivial rfl (xf9 x3 ⟨rfl, trivial⟩ trivial trivial rfl (xf9 x3 ⟨rfl, trivial⟩ trivial trivial rfl (xf9 (d_remP (by omega) (by omega)) ⟨rfl, rfl, trivial⟩ trivial trivial rfl (xf9 xe5 ⟨rfl, rfl, trivial⟩ trivial trivial rfl (xf9 x3 ⟨rfl, trivial⟩ trivial trivial rfl (xf9 (d_remP (by omega) (by omega)) ⟨rfl, rfl, trivial⟩ trivial trivial rfl (xf9 xe5 ⟨rfl, rfl, trivial⟩ trivial trivial rfl ?_)))))))
       refine xf9 (xc7 (r := tS [⟨1, false, tB (decide ((cnxt a i (cday a b i j) : Nat) % 2 = (1 : Int)))⟩, ⟨1, false, tB (decide ((cnxt b j (cday a b i j) : Nat) % 2 = (1 : Int)))⟩]) (ts := [(0, tB (decide ((cnxt a i (cday a b i j) : Nat) % 2 = (1 : Int)))), (1, tB (decide ((cnxt b j (cday a b i j) : Nat) % 2 = (1 : Int))))]) bu116 zr116.2 ⟨_, rfl⟩ rfl ⟨_, _, _, _, rfl, Up.f (fs := [⟨1, false, (tE (.bool false))⟩, ⟨1, false, (tE (.bool false))⟩]) (f := ⟨1, false, (tE (.bool false))⟩) (fs' := [⟨1, false, tB (decide ((cnxt a i (cday a b i j) : Nat) % 2 = (1 : Int)))⟩, ⟨1, false, (tE (.bool false))⟩]) 0 rfl rfl rfl, inferInstance, ⟨_, _, _, _, rfl, Up.f (fs := [⟨1, false, tB (decide ((cnxt a i (cday a b i j) : Nat) % 2 = (1 : Int)))⟩, ⟨1, false, (tE (.bool false))⟩]) (f := ⟨1, false, (tE (.bool false))⟩) (fs' := [⟨1, false, tB (decide ((cnxt a i (cday a b i j) : Nat) % 2 = (1 : Int)))⟩, ⟨1, false, tB (decide ((cnxt b j (cday a b i j) : Nat) % 2 = (1 : Int)))⟩]) 1 rfl rfl rfl, inferInstance, Le.refl⟩⟩) ⟨rfl, rfl, trivial⟩ trivial trivial rfl ?_
       obtain ⟨hkN, hkc, hnx, hadv⟩ := hCI.next ha hb hij
       refine wl_yield (ts := [tI (cday a b i j), tMem (decide ((cnxt a i (cday a b i j) : Nat) % 2 = (1 : Int))) (decide ((cnxt b j (cday a b i j) : Nat) % 2 = (1 : Int)))]) hB (wanted_none rfl) rfl rfl ⟨rfl, rfl, trivial⟩ rfl rfl hkN (ch_le hkc) ?_ ?_
       ·
        refine xf9 xe2 ⟨rfl, trivial⟩ trivial trivial rfl (wl_nil (x4 (C_bF rfl rfl (xa2 (xc0 ?_)))))
        exact xb6 ((k + 1, cnxt a i (cday a b i j), cnxt b j (cday a b i j))) ⟨(by dsimp only; exact hnx), (by dsimp only; have := hnx.1; have := hnx.2.1; omega)⟩ (Sub.int rfl (by first | omega | rfl | (dsimp only; omega)) (Sub.int rfl (by first | omega | rfl | (dsimp only; omega)) (Sub.cons rfl (Sub.cons rfl (Sub.cons rfl Sub.nil))))) ((SubK.consI rfl ImpK.refl) ((SubK.consI rfl ImpK.refl) ((SubK.consI rfl ImpK.refl) SubK.nil))) (SupG.val (SupG.val (SupG.own rfl (SupG.own rfl (SupG.val SupG.nil))))) (SupH.cons rfl (supJL rfl) (SupH.cons rfl (supJL rfl) (SupH.cons rfl (supJL rfl) SupH.nil))) (lkOk rfl)
       ·
        refine xf9 xe2 ⟨rfl, trivial⟩ trivial trivial rfl (wl_nil (x4 (C_bT rfl rfl (xa1 (xc5 (xa3 (xc5 ?_)))))))
        exact E_it hB rfl trivial rfl (.inl rfl) rfl (.inr ⟨k, hkN, rfl⟩)
  ·
   refine xd0 (xb5 (xb5 (xd5 ?_)))
   exact E_it hB rfl trivial rfl (.inr rfl) rfl (.inl (by have := hCI.stop (by omega); have h2 := hCI.2.2.1; rw [show k = (chAll a b).length by omega]))
theorem c_choose (a b : List Sn) (fk : Nat) (kp : Bool → Bool → Bool) (hfk : FnI Tryz.prog fk) (hkp : ∀ x y, Ct Tryz.prog fk [tMem x y] (tB (kp x y))) (hla : a.length ≤ 100000) (hlb : b.length ≤ 100000) :
  Ct Tryz.prog 71 [tL 2 true tSn a, tL 2 true tSn b, tE (.func (.func fk) #[] #[])] (tT [tL 2 true tSn (if sVal a = true ∧ sVal b = true then (ckRun kp a b).xs else []), tI (if sVal a = true ∧ sVal b = true then 0 else 2)]) := by
 refine Ct.intro Tryz.func71 rfl Tryz.ntmps71 rfl ?_
 intro w F
 refine x6 ?_
 refine x8 ?_
 refine RE (xd8 (k := 5) ti117 rfl) ⟨rfl, trivial⟩ trivial ⟨rfl, trivial⟩ (R1 x5 rfl (R1 x5 rfl (x7 (by kernel_rfl) (x4 (x6 (x6 ?_))))))
 refine x8 ?_
 refine R1 x3 rfl (R1 (xa0 (c_SValid a) fi36 rfl) rfl (R1 xe2 rfl (R1 x3 rfl ?_)))
 refine RGcase (t := 17) rfl (fun h89 => ?_) (fun h89 => ?_)
 ·
  refine RGoff h89 rfl rfl (RGoff h89 rfl rfl (RGoff h89 rfl rfl (R2 (xb2 h89) rfl rfl (x7 (by kernel_rfl) (x4 (C_bT rfl rfl (x6 ?_)))))))
  refine x8 ?_
  refine R1 x5 rfl (R1 x5 rfl (x7 (by kernel_rfl) (x4 (xa1 (xa3 ?_)))))
  exact xf0 Plain.mk' rfl rfl rfl (leNil (by rw [if_neg (fun h => by rw [h.1] at h89; cases h89)])) (Le.int (by rw [if_neg (fun h => by rw [h.1] at h89; cases h89)]))
 ·
  refine RGon h89 rfl x3 rfl ⟨rfl, trivial⟩ trivial trivial (RGon h89 rfl (xa0 (c_SValid b) fi36 rfl) rfl ⟨rfl, trivial⟩ trivial trivial (RGon h89 rfl xe2 rfl ⟨rfl, trivial⟩ trivial trivial (R2 (xa7 h89) rfl rfl (x7 (by kernel_rfl) (x4 ?_)))))
  refine xg1 rfl (fun h89_2 => ?_) (fun h89_2 => ?_)
  ·
   refine x6 ?_
   refine x8 ?_
   refine R1 x5 rfl (R1 x5 rfl (x7 (by kernel_rfl) (x4 (xa1 (xa3 ?_)))))
   exact xf0 Plain.mk' rfl rfl rfl (leNil (by rw [if_neg (fun h => by rw [h.2] at h89_2; cases h89_2)])) (Le.int (by rw [if_neg (fun h => by rw [h.2] at h89_2; cases h89_2)]))
  ·
   refine xa2 (x4 (x6 ?_))
   refine x8 ?_
   refine RE (xc4 (k := 8) (n := 1) (agg := false) zr60.1 zr60.2 rfl) trivial trivial ⟨rfl, trivial⟩ (x7 (by kernel_rfl) (x4 (x6 ?_)))
   refine x8 ?_
   refine RE (xc4 (k := 9) (n := 1) (agg := false) zr3.1 zr3.2 rfl) trivial trivial ⟨rfl, trivial⟩ (RE (xc4 (k := 10) (n := 1) (agg := false) zr4.1 zr4.2 rfl) trivial trivial ⟨rfl, trivial⟩ (RE (xa4 (es := 1) (agg := false) (0) ti3 rfl rfl rfl) ⟨rfl, rfl, trivial⟩ ⟨rfl, trivial⟩ trivial (RE (xa4 (es := 1) (agg := false) (0) ti4 rfl rfl rfl) ⟨rfl, rfl, trivial⟩ ⟨rfl, trivial⟩ trivial (x7 (by kernel_rfl) (x4 (x6 (x6 ?_)))))))
   have hok : sVal a = true ∧ sVal b = true := ⟨by simpa using h89, by simpa using h89_2⟩
   refine C_nilC (q := 8) 60 72 2 true 0 rfl rfl rfl rfl (fun h => by cases h) rfl rfl ?_
   refine x8 ?_
   refine R1 x3 rfl (R1 x3 rfl (RE (xg3 (fun j => cond (Nat.beq j 2) 24 (1024)) (c_changes a b) fi95 rfl (krN (ρ := fun j => cond (Nat.beq j 2) 24 (1024))) (krC (ρ := fun j => cond (Nat.beq j 2) 24 (1024)) (k := 2) rfl (krC (ρ := fun j => cond (Nat.beq j 2) 24 (1024)) (k := 3) rfl (krN (ρ := fun j => cond (Nat.beq j 2) 24 (1024))))) ⟨⟨rfl, (SupX.lit rfl)⟩, ⟨rfl, (SupX.lit rfl)⟩, trivial⟩ rfl) ⟨rfl, rfl, trivial⟩ trivial ⟨rfl, rfl, trivial⟩ (x7 (by kernel_rfl) (x4 (xa9 ?_)))))
   refine C_range (caps := [.ptr 1 0, .ptr 2 0]) (κ := Empty) (fun j => cond (Nat.beq j 2) 1024 (cond (Nat.beq j 1) 24 (j))) rfl (fun _ h => h) trivial (i_changes a b hok.1 hok.2 (by omega) (by omega)) fi110 rfl ⟨rfl, rfl, trivial⟩ rfl rfl (fun _ _ => rfl) (upd (upd (upd (upd (fun _ => none) 5 (some (.own (.ptr 5 0)))) 8 (some (.own (.ptr 8 0)))) 9 (some (.own (.ptr 9 0)))) 10 (some (.own (.ptr 10 0)))) [5, 8, 9, 10, 60] [5, 8, 9, 10] (Sub.cons rfl (Sub.cons rfl (Sub.cons rfl (Sub.cons rfl Sub.nil)))) (SupG.own rfl (SupG.own rfl (SupG.own rfl (SupG.own rfl SupG.nil)))) rfl (lkOk rfl) (fun (k : Nat) (s : Ck) => ((chAll a b).drop k).foldl (ck1 kp) s = (ckRun kp a b) ∧ s.xs.length ≤ k) (fun (k : Nat) (s : Ck) => upd (upd (upd (upd (upd (fun _ => none) 5 (some (⟨117, 1, false, [.val (tE (.func (.func fk) #[] #[]))]⟩))) 8 (some (⟨60, 1, false, [.own (.sl 60 2 0 s.xs.length)]⟩))) 9 (some (⟨3, 1, false, [.val (tI s.lo)]⟩))) 10 (some (⟨4, 1, false, [.val (tB s.ins)]⟩))) 60 (some (⟨72, 2, true, rV tSn s.xs⟩))) (fun k x => (SupH.cons rfl (supJ xc8) (SupH.cons rfl (supJL rfl) (SupH.cons rfl (supJL rfl) (SupH.cons rfl (supJL rfl) (SupH.cons rfl (supJL rfl) SupH.nil)))))) (fun k x y hy => by simp only [List.mem_cons, List.not_mem_nil, or_false] at hy; rcases hy with rfl | rfl <;> rfl) (fun _ _ => False) (fun i => i.elim) (fun _ _ h => h.elim) (⟨[], 0, false⟩) ⟨rfl, Nat.le_refl _⟩ ((SubK.consI rfl ImpK.refl) ((SubK.consI rfl ImpK.refl) ((SubK.consI rfl ImpK.refl) ((SubK.consI rfl ImpK.refl) ((SubK.consI rfl ImpK.refl) SubK.nil))))) ?_ ?_ ?_
   ·
    intro D lp o1 o2 O W lη lb V0 k s hk hI
    obtain ⟨hrun, hxl⟩ := hI
    have hN := chAll_len (a := a) (b := b)
    apply rnd_mk
    ·
     refine x6 ?_
     refine x8 ?_
     refine R1 x5 rfl (x7 (by kernel_rfl) (x4 ?_))
     refine x8 ?_
     refine RE (xc4 (k := 12) (n := 2) (agg := true) zr116.1 zr116.2 rfl) trivial trivial ⟨rfl, trivial⟩ (RE (xa4 (es := 2) (agg := true) (0) ti116 rfl rfl rfl) ⟨rfl, rfl, trivial⟩ ⟨rfl, trivial⟩ trivial (x7 (by kernel_rfl) ?_))
     exact K_thenF fun _ _ h => h
    ·
     refine xa9 (x6 ?_)
     refine x8 ?_
     refine RE (xa8 (0) ti117 rfl rfl) ⟨rfl, trivial⟩ ⟨rfl, trivial⟩ trivial (RE (xa8 (0) ti116 rfl rfl) ⟨rfl, trivial⟩ ⟨rfl, trivial⟩ trivial (R2 (d_callF (hkp _ _) hfk rfl) rfl rfl (R1 x5 rfl (x7 (by kernel_rfl) (x4 ?_)))))
     refine xg5 (fun (f1 : Int) => f1 = (if (kp (((chAll a b).getD k ch0).2.1 % 2 == 1) (((chAll a b).getD k ch0).2.2 % 2 == 1)) && !s.ins then ((chAll a b).getD k ch0).1 else s.lo)) (fun (f1 : Int) => upd (upd (upd (upd (upd (upd (fun _ => none) 5 (some (.own (.ptr 5 0)))) 8 (some (.own (.ptr 8 0)))) 9 (some (.own (.ptr 9 0)))) 10 (some (.own (.ptr 10 0)))) 11 (some (.val (tI ((chAll a b).getD k ch0).1)))) 13 (some (.val (tB (kp (((chAll a b).getD k ch0).2.1 % 2 == 1) (((chAll a b).getD k ch0).2.2 % 2 == 1)))))) (fun (f1 : Int) => upd (upd (upd (upd (upd (fun _ => none) 5 (some (⟨117, 1, false, [.val (tE (.func (.func fk) #[] #[]))]⟩))) 8 (some (⟨60, 1, false, [.own (.sl 60 2 0 s.xs.length)]⟩))) 9 (some (⟨3, 1, false, [.val (tI f1)]⟩))) 10 (some (⟨4, 1, false, [.val (tB s.ins)]⟩))) 60 (some (⟨72, 2, true, rV tSn s.xs⟩))) (nm [5, 8, 9, 10, 60]) ?_ ?_
     ·
      refine x6 ?_
      refine x8 ?_
      refine R1 x3 rfl (R1 x3 rfl ?_)
      refine RGcase (t := 31) rfl (fun h96 => ?_) (fun h96 => ?_)
      ·
       refine RGon h96 rfl (xa8 (0) ti4 rfl rfl) rfl ⟨rfl, trivial⟩ ⟨rfl, trivial⟩ trivial (RGon h96 rfl xe2 rfl ⟨rfl, trivial⟩ trivial trivial (R2 (xb2 h96) rfl rfl (x7 (by kernel_rfl) (x4 ?_))))
       refine xg1 rfl (fun h96_2 => ?_) (fun h96_2 => ?_)
       ·
        refine x8 ?_
        refine R1 x3 rfl (RE (xa4 (es := 1) (agg := false) (0) ti3 rfl rfl rfl) ⟨rfl, rfl, trivial⟩ ⟨rfl, trivial⟩ trivial (x7 (by kernel_rfl) ?_))
        exact xb6 (((chAll a b).getD k ch0).1) (by rw [h96, show s.ins = false by simpa using h96_2]; rfl) (Sub.cons rfl (Sub.int rfl (by first | omega | rfl | (dsimp only; omega)) (Sub.cons rfl (Sub.cons rfl (Sub.cons rfl (Sub.cons rfl Sub.nil)))))) ((SubK.consI rfl ImpK.refl) ((SubK.consI rfl ImpK.refl) ((SubK.consI rfl ImpK.refl) ((SubK.consI rfl ImpK.refl) ((SubK.consI rfl ImpK.refl) SubK.nil))))) (SupG.val (SupG.val (SupG.own rfl (SupG.own rfl (SupG.own rfl (SupG.own rfl SupG.nil)))))) (SupH.cons rfl (supJ xc8) (SupH.cons rfl (supJL rfl) (SupH.cons rfl (supJL rfl) (SupH.cons rfl (supJL rfl) (SupH.cons rfl (supJL rfl) SupH.nil))))) (lkOk rfl)
       ·
        refine xa2 ?_
        exact xb6 (s.lo) (by rw [h96, show s.ins = true by simpa using h96_2]; rfl) (Sub.cons rfl (Sub.int rfl (by first | omega | rfl | (dsimp only; omega)) (Sub.cons rfl (Sub.cons rfl (Sub.cons rfl (Sub.cons rfl Sub.nil)))))) ((SubK.consI rfl ImpK.refl) ((SubK.consI rfl ImpK.refl) ((SubK.consI rfl ImpK.refl) ((SubK.consI rfl ImpK.refl) ((SubK.consI rfl ImpK.refl) SubK.nil))))) (SupG.val (SupG.val (SupG.own rfl (SupG.own rfl (SupG.own rfl (SupG.own rfl SupG.nil)))))) (SupH.cons rfl (supJ xc8) (SupH.cons rfl (supJL rfl) (SupH.cons rfl (supJL rfl) (SupH.cons rfl (supJL rfl) (SupH.cons rfl (supJL rfl) SupH.nil))))) (lkOk rfl)
      ·
       refine RGoff h96 rfl rfl (RGoff h96 rfl rfl (R2 (xa7 h96) rfl rfl (x7 (by kernel_rfl) (x4 (C_bF rfl rfl (xa2 ?_))))))
       exact xb6 (s.lo) (by rw [h96]; rfl) (Sub.cons rfl (Sub.int rfl (by first | omega | rfl | (dsimp only; omega)) (Sub.cons rfl (Sub.cons rfl (Sub.cons rfl (Sub.cons rfl Sub.nil)))))) ((SubK.consI rfl ImpK.refl) ((SubK.consI rfl ImpK.refl) ((SubK.consI rfl ImpK.refl) ((SubK.consI rfl ImpK.refl) ((SubK.consI rfl ImpK.refl) SubK.nil))))) (SupG.val (SupG.val (SupG.own rfl (SupG.own rfl (SupG.own rfl (SupG.own rfl SupG.nil)))))) (SupH.cons rfl (supJ xc8) (SupH.cons rfl (supJL rfl) (SupH.cons rfl (supJL rfl) (SupH.cons rfl (supJL rfl) (SupH.cons rfl (supJL rfl) SupH.nil))))) (lkOk rfl)
     ·
      intro f1 hf1
      refine x6 (x6 ?_)
      refine x8 ?_
      refine RE (xa8 (0) ti4 rfl rfl) ⟨rfl, trivial⟩ ⟨rfl, trivial⟩ trivial (R1 x3 rfl ?_)
      refine RGcase (t := 37) rfl (fun h99 => ?_) (fun h99 => ?_)
      ·
       refine RGon h99 rfl x3 rfl ⟨rfl, trivial⟩ trivial trivial (RGon h99 rfl xe2 rfl ⟨rfl, trivial⟩ trivial trivial (R2 (xb2 h99) rfl rfl (x7 (by kernel_rfl) (x4 ?_))))
       refine xg1 rfl (fun h99_2 => ?_) (fun h99_2 => ?_)
       ·
        refine x8 ?_
        refine RE (xa8 (ts := [.own (.sl 60 2 0 s.xs.length)]) (0) ti60 rfl rfl) ⟨rfl, trivial⟩ ⟨rfl, trivial⟩ trivial (RE (xa8 (0) ti3 rfl rfl) ⟨rfl, trivial⟩ ⟨rfl, trivial⟩ trivial (R1 x3 rfl (R2 (xc7 (r := tS [⟨1, false, tI f1⟩, ⟨1, false, tI ((chAll a b).getD k ch0).1⟩]) (ts := [(0, tI f1), (1, tI ((chAll a b).getD k ch0).1)]) bu72 zr72.2 ⟨_, rfl⟩ rfl ⟨_, _, _, _, rfl, Up.f (fs := [⟨1, false, (tE (.int .i64 0))⟩, ⟨1, false, (tE (.int .i64 0))⟩]) (f := ⟨1, false, (tE (.int .i64 0))⟩) (fs' := [⟨1, false, tI f1⟩, ⟨1, false, (tE (.int .i64 0))⟩]) 0 rfl rfl rfl, inferInstance, ⟨_, _, _, _, rfl, Up.f (fs := [⟨1, false, tI f1⟩, ⟨1, false, (tE (.int .i64 0))⟩]) (f := ⟨1, false, (tE (.int .i64 0))⟩) (fs' := [⟨1, false, tI f1⟩, ⟨1, false, tI ((chAll a b).getD k ch0).1⟩]) 1 rfl rfl rfl, inferInstance, Le.refl⟩⟩) rfl rfl (R1 (xe6 (n := 1) (f := tSn) [(⟨f1, ((chAll a b).getD k ch0).1⟩ : Sn)] Tryz.underlying60 el72 zf72 rfl (fun _ => inferInstance) rfl rfl rfl) rfl (RE (xf6 (k := 60) (k' := 46) (f := tSn) (ys := [(⟨f1, ((chAll a b).getD k ch0).1⟩ : Sn)]) (ts' := rV tSn (s.xs ++ [⟨f1, ((chAll a b).getD k ch0).1⟩])) Tryz.underlying60 el72 zf72 rfl rfl (fun _ => inferInstance) xg4 (by simp; omega) (by simp; omega) (by simp [rV]) (n' := s.xs.length + 1) rfl) ⟨rfl, rfl, trivial⟩ ⟨rfl, trivial⟩ ⟨rfl, trivial⟩ (RE (xa4 (es := 1) (agg := false) (0) ti60 rfl rfl rfl) ⟨rfl, rfl, trivial⟩ ⟨rfl, trivial⟩ trivial (x7 (by kernel_rfl) ?_)))))))
        refine x4 ?_
        refine x8 ?_
        refine R1 x3 rfl (RE (xa4 (es := 1) (agg := false) (0) ti4 rfl rfl rfl) ⟨rfl, rfl, trivial⟩ ⟨rfl, trivial⟩ trivial (x7 (by kernel_rfl) (xc0 ?_)))
        have hn : (ck1 kp s ((chAll a b).getD k ch0)) = ⟨s.xs ++ [⟨(if (kp (((chAll a b).getD k ch0).2.1 % 2 == 1) (((chAll a b).getD k ch0).2.2 % 2 == 1)) && !s.ins then ((chAll a b).getD k ch0).1 else s.lo), ((chAll a b).getD k ch0).1⟩], (if (kp (((chAll a b).getD k ch0).2.1 % 2 == 1) (((chAll a b).getD k ch0).2.2 % 2 == 1)) && !s.ins then ((chAll a b).getD k ch0).1 else s.lo), (kp (((chAll a b).getD k ch0).2.1 % 2 == 1) (((chAll a b).getD k ch0).2.2 % 2 == 1))⟩ := by rw [ck1, h99, h99_2]; rfl
        exact K_ren (g' := fun _ => none) [5, 8, 9, 10, 60] (fun j => cond (Nat.beq j 60) 46 (j)) SubR.nil ((SubKR.consI rfl (ImpK.of (by rw [← hf1]; exact xe9.symm))) ((SubKR.consI rfl ImpK.refl) ((SubKR.consI rfl (ImpK.of (by rw [hf1]; rfl))) ((SubKR.consI rfl (ImpK.of (by dsimp only; rw [List.length_append]; rfl))) ((SubKR.consI rfl ImpK.refl) SubKR.nil))))) SupG.nil (SupH.cons rfl (supJ xc8) (SupH.cons rfl (supJL rfl) (SupH.cons rfl (supJL rfl) (SupH.cons rfl (supJL rfl) (SupH.cons rfl (supJL rfl) SupH.nil))))) (lkOk rfl) rfl rfl (fun _ h => by cases h) (K_rnd (⟨s.xs ++ [⟨(if (kp (((chAll a b).getD k ch0).2.1 % 2 == 1) (((chAll a b).getD k ch0).2.2 % 2 == 1)) && !s.ins then ((chAll a b).getD k ch0).1 else s.lo), ((chAll a b).getD k ch0).1⟩], (if (kp (((chAll a b).getD k ch0).2.1 % 2 == 1) (((chAll a b).getD k ch0).2.2 % 2 == 1)) && !s.ins then ((chAll a b).getD k ch0).1 else s.lo), (kp (((chAll a b).getD k ch0).2.1 % 2 == 1) (((chAll a b).getD k ch0).2.2 % 2 == 1))⟩) ⟨by rw [← hn]; exact ck_next hk hrun, by rw [List.length_append]; simp; omega⟩ SubK.refl (SupH.cons rfl (supJ xc8) (SupH.cons rfl (supJL rfl) (SupH.cons rfl (supJL rfl) (SupH.cons rfl (supJL rfl) (SupH.cons rfl (supJL rfl) SupH.nil))))) (lkOk rfl))
       ·
        refine xa2 (x4 ?_)
        refine x8 ?_
        refine R1 x3 rfl (RE (xa4 (es := 1) (agg := false) (0) ti4 rfl rfl rfl) ⟨rfl, rfl, trivial⟩ ⟨rfl, trivial⟩ trivial (x7 (by kernel_rfl) (xc0 ?_)))
        have hn : (ck1 kp s ((chAll a b).getD k ch0)) = ⟨s.xs, (if (kp (((chAll a b).getD k ch0).2.1 % 2 == 1) (((chAll a b).getD k ch0).2.2 % 2 == 1)) && !s.ins then ((chAll a b).getD k ch0).1 else s.lo), (kp (((chAll a b).getD k ch0).2.1 % 2 == 1) (((chAll a b).getD k ch0).2.2 % 2 == 1))⟩ := by rw [ck1, h99, h99_2]; rfl
        exact K_rnd (⟨s.xs, (if (kp (((chAll a b).getD k ch0).2.1 % 2 == 1) (((chAll a b).getD k ch0).2.2 % 2 == 1)) && !s.ins then ((chAll a b).getD k ch0).1 else s.lo), (kp (((chAll a b).getD k ch0).2.1 % 2 == 1) (((chAll a b).getD k ch0).2.2 % 2 == 1))⟩) ⟨by rw [← hn]; exact ck_next hk hrun, by show s.xs.length ≤ k + 1; omega⟩ ((SubK.consI rfl ImpK.refl) ((SubK.consI rfl ImpK.refl) ((SubK.consI rfl (ImpK.of (by rw [hf1]))) ((SubK.consI rfl ImpK.refl) ((SubK.consI rfl ImpK.refl) SubK.nil))))) (SupH.cons rfl (supJ xc8) (SupH.cons rfl (supJL rfl) (SupH.cons rfl (supJL rfl) (SupH.cons rfl (supJL rfl) (SupH.cons rfl (supJL rfl) SupH.nil))))) (lkOk rfl)
      ·
       refine RGoff h99 rfl rfl (RGoff h99 rfl rfl (R2 (xa7 h99) rfl rfl (x7 (by kernel_rfl) (x4 (C_bF rfl rfl (xa2 (x4 ?_)))))))
       refine x8 ?_
       refine R1 x3 rfl (RE (xa4 (es := 1) (agg := false) (0) ti4 rfl rfl rfl) ⟨rfl, rfl, trivial⟩ ⟨rfl, trivial⟩ trivial (x7 (by kernel_rfl) (xc0 ?_)))
       have hn : (ck1 kp s ((chAll a b).getD k ch0)) = ⟨s.xs, (if (kp (((chAll a b).getD k ch0).2.1 % 2 == 1) (((chAll a b).getD k ch0).2.2 % 2 == 1)) && !s.ins then ((chAll a b).getD k ch0).1 else s.lo), (kp (((chAll a b).getD k ch0).2.1 % 2 == 1) (((chAll a b).getD k ch0).2.2 % 2 == 1))⟩ := by rw [ck1, h99]; rfl
       exact K_rnd (⟨s.xs, (if (kp (((chAll a b).getD k ch0).2.1 % 2 == 1) (((chAll a b).getD k ch0).2.2 % 2 == 1)) && !s.ins then ((chAll a b).getD k ch0).1 else s.lo), (kp (((chAll a b).getD k ch0).2.1 % 2 == 1) (((chAll a b).getD k ch0).2.2 % 2 == 1))⟩) ⟨by rw [← hn]; exact ck_next hk hrun, by show s.xs.length ≤ k + 1; omega⟩ ((SubK.consI rfl ImpK.refl) ((SubK.consI rfl ImpK.refl) ((SubK.consI rfl (ImpK.of (by rw [hf1]))) ((SubK.consI rfl ImpK.refl) ((SubK.consI rfl ImpK.refl) SubK.nil))))) (SupH.cons rfl (supJ xc8) (SupH.cons rfl (supJL rfl) (SupH.cons rfl (supJL rfl) (SupH.cons rfl (supJL rfl) (SupH.cons rfl (supJL rfl) SupH.nil))))) (lkOk rfl)
   ·
    intro D hD s hI
    obtain ⟨hrun, hxl⟩ := hI
    rw [List.drop_length] at hrun
    have hR : s = (ckRun kp a b) := hrun
    refine xc0 (x4 (x6 ?_))
    refine x8 ?_
    refine RE (Does.giveL (k := 60) (es := 2) (off := 0) (len := s.xs.length) (xs := s.xs) (f := tSn) (ts := rV tSn s.xs) (xa8 (ts := [.own (.sl 60 2 0 s.xs.length)]) (0) ti60 rfl rfl) (fun _ h => h) (rV_all rfl) rfl) ⟨rfl, trivial⟩ ⟨rfl, rfl, trivial⟩ trivial (R1 x5 rfl (R1 x5 rfl (x7 (by kernel_rfl) (x4 (xa1 ?_)))))
    exact xf0 (Plain.loop Plain.mk' hD) rfl rfl rfl (Le.of (by rw [if_pos hok, hR])) (Le.int (by rw [if_pos hok]))
   ·
    intro D hD e i; exact i.elim
theorem c_Union1 (x y : Bool) :
  Ct Tryz.prog 72 [tMem x y] (tB (x || y)) := by
 refine Ct.intro Tryz.func72 rfl Tryz.ntmps72 rfl ?_
 intro w F
 refine x6 ?_
 refine x8 ?_
 refine RE (xd8 (k := 1) ti116 rfl) ⟨rfl, trivial⟩ trivial ⟨rfl, trivial⟩ (R1 x5 rfl (x7 (by kernel_rfl) (x4 (x6 ?_))))
 refine x8 ?_
 refine R1 (x9 fo116_0 rfl) rfl (xa5 (0) ti4 rfl rfl rfl (At.g 0 rfl rfl) rfl (R1 x3 rfl ?_))
 refine RGcase (t := 5) rfl (fun h109 => ?_) (fun h109 => ?_)
 ·
  refine RGoff h109 rfl rfl (RGoff h109 rfl rfl (R2 (xb2 h109) rfl rfl (R1 x5 rfl (x7 (by kernel_rfl) (x4 (xa1 ?_))))))
  exact xa6 Plain.mk' rfl rfl (Le.bool (by simp [*]))
 ·
  refine RGon h109 rfl (x9 fo116_1 rfl) rfl ⟨rfl, trivial⟩ trivial trivial (xb7 h109 rfl rfl (0) ti4 rfl rfl rfl (At.g 1 rfl rfl) rfl (R2 (xa7 h109) rfl rfl (R1 x5 rfl (x7 (by kernel_rfl) (x4 (xa1 ?_))))))
  exact xa6 Plain.mk' rfl rfl (Le.bool (by simp [*]))
theorem c_Union (a b : List Sn) (hla : a.length ≤ 100000) (hlb : b.length ≤ 100000) :
  Ct Tryz.prog 42 [tL 2 true tSn a, tL 2 true tSn b] (tT [tL 2 true tSn (if sVal a = true ∧ sVal b = true then (ckRun (fun x y => x || y) a b).xs else []), tI (if sVal a = true ∧ sVal b = true then 0 else 2)]) := by
 refine Ct.intro Tryz.func42 rfl Tryz.ntmps42 rfl ?_
 intro w F
 refine x6 ?_
 refine x8 ?_
 refine R1 x5 rfl (R1 x5 rfl (x7 (by kernel_rfl) (x4 (x6 ?_))))
 refine x8 ?_
 refine R1 x3 rfl (R1 x3 rfl (R3 (xa0 (c_choose a b 72 (fun x y => x || y) fi72 c_Union1 hla hlb) fi71 rfl) rfl rfl rfl (R1 (xb1 rfl) rfl (R1 (xb1 rfl) rfl (R1 x5 rfl (R1 x5 rfl (x7 (by kernel_rfl) ?_)))))))
 refine x4 (xa1 ?_)
 exact xf0 Plain.mk' rfl rfl rfl Le.refl Le.refl
end An.S

/- Layer 4: days are looked for. -/
namespace An.S
open Go Go.Proofs An
set_option maxHeartbeats 2000000
theorem fi68 : FnI Tryz.prog 68 := ⟨_, Tryz.func68, by kernel_rfl, rfl⟩
theorem fi94 : FnI Tryz.prog 94 := ⟨_, Tryz.func94, by kernel_rfl, rfl⟩
/-- The index of the first span that has days from d on. -/
def fnd (l : List Sn) (d : Int) : Nat := (l.takeWhile fun s => decide (s.hi ≤ d)).length
theorem fnd_is {d : Int} : ∀ {l : List Sn} {p : Nat}, p ≤ l.length → (∀ i, i < p → (l.getD i sn0).hi ≤ d) → (p < l.length → d < (l.getD p sn0).hi) → p = fnd l d
  | [], p, hp, _, _ => by simp at hp; subst hp; rfl
  | s :: r, 0, _, _, h => by
    have h1 : d < s.hi := h (by simp)
    rw [fnd, List.takeWhile_cons, if_neg (by simp; omega)]; rfl
  | s :: r, p + 1, hp, h1, h2 => by
    have h3 : s.hi ≤ d := h1 0 (by omega)
    have ih := fnd_is (d := d) (l := r) (p := p) (by simpa using hp) (fun i hi => by have := h1 (i + 1) (by omega); simpa using this) (fun hp2 => by have := h2 (by simpa using hp2); simpa using this)
    rw [fnd, List.takeWhile_cons, if_pos (by simp; omega), List.length_cons, ← fnd, ← ih]
theorem hi_mono {l : List Sn} (h : sVal l = true) {i j : Nat} (hij : i ≤ j) (hj : j < l.length) : (l.getD i sn0).hi ≤ (l.getD j sn0).hi := by
  rcases Nat.lt_or_ge i j with h1 | h1
  · have := sVal_lt h h1 hj
    have := sVal_at h hj; omega
  · rw [show i = j by omega]; exact Int.le_refl _
theorem fnd_le {l : List Sn} {d : Int} : fnd l d ≤ l.length := (List.takeWhile_sublist _).length_le
def hasB (l : List Sn) (d : Int) : Bool := decide (fnd l d < l.length) && decide ((l.getD (fnd l d) sn0).lo ≤ d)
def wi (b : List Sn) (s : Sn) : Bool := decide (fnd b s.lo < b.length) && decide ((b.getD (fnd b s.lo) sn0).lo ≤ s.lo) && decide (s.hi ≤ (b.getD (fnd b s.lo) sn0).hi)
theorem c_find1 (l : List Sn) (d : Int) (i : Nat) (hi : i < l.length) :
  CtG Tryz.prog 94 [(2, ⟨60, 1, false, [.val (tL 2 true tSn l)]⟩), (3, ⟨3, 1, false, [.val (tI d)]⟩)] [.val (tI i), .own (.ptr 2 0), .own (.ptr 3 0)] (.val (tB (decide (d < (l.getD i sn0).hi)))) [(2, ⟨60, 1, false, [.val (tL 2 true tSn l)]⟩), (3, ⟨3, 1, false, [.val (tI d)]⟩)] [] := by
 refine CtG.intro [2, 3] Tryz.func94 rfl Tryz.ntmps94 rfl rfl ⟨⟨rfl, (SupX.lit rfl)⟩, ⟨rfl, (SupX.lit rfl)⟩, trivial⟩ ?_
 intro w F η
 refine x6 ?_
 refine x8 ?_
 refine R1 x5 rfl (x7 (by kernel_rfl) (x4 (x6 ?_)))
 refine xe1 mixed ?_
 refine RE (xa8 (0) ti60 rfl rfl) ⟨rfl, trivial⟩ ⟨rfl, trivial⟩ trivial (R1 x3 rfl (R2 (xb3 sl60 (i) (by omega) (gD (l := l) (n := i) (d := sn0) (by omega))) rfl rfl (R1 (xe8 fo72_1 (At.f 1 rfl rfl) rfl) rfl (R1 (xb8 ti3) rfl (RE (xa8 (0) ti3 rfl rfl) ⟨rfl, trivial⟩ ⟨rfl, trivial⟩ trivial (R2 d_gtr rfl rfl (R1 x5 rfl ?_)))))))
 refine xd4 (by kernel_rfl) (x4 (xa1 ?_))
 exact xg7 LentC.mk' rfl rfl Imp.refl ⟨rfl, rfl, trivial⟩ rfl ⟨⟨rfl, (SupX.lit rfl)⟩, ⟨rfl, (SupX.lit rfl)⟩, trivial⟩ rfl
theorem c_Search (l : List Sn) (d : Int) (hv : sVal l = true) (hl : l.length ≤ 1000000) :
  CtG Tryz.prog 52 [(2, ⟨60, 1, false, [.val (tL 2 true tSn l)]⟩), (3, ⟨3, 1, false, [.val (tI d)]⟩)] [.val (tI l.length), .own (.fn 94 [.ptr 2 0, .ptr 3 0])] (.val (tI (fnd l d))) [(2, ⟨60, 1, false, [.val (tL 2 true tSn l)]⟩), (3, ⟨3, 1, false, [.val (tI d)]⟩)] [] := by
 refine CtG.intro [2, 3] Tryz.func52 rfl Tryz.ntmps52 rfl rfl ⟨⟨rfl, (SupX.lit rfl)⟩, ⟨rfl, (SupX.lit rfl)⟩, trivial⟩ ?_
 intro w F η
 refine x6 ?_
 refine x8 ?_
 refine R1 x5 rfl (x7 (by kernel_rfl) (x4 (x6 ?_)))
 refine x8 ?_
 refine R1 x3 rfl (R1 x5 rfl (R1 x5 rfl (x7 (by kernel_rfl) (x4 (x6 (xa9 ?_))))))
 refine xd6 (fun (fm : (Nat) × (Nat)) => (fun (p : Nat) (q : Nat) => p ≤ q ∧ q ≤ l.length ∧ (∀ i, i < p → (l.getD i sn0).hi ≤ d) ∧ ∀ i, q ≤ i → i < l.length → d < (l.getD i sn0).hi) fm.1 fm.2) (fun (fm : (Nat) × (Nat)) => (fun (p : Nat) (q : Nat) => upd (upd (upd (fun _ => none) 1 (some (.own (.fn 94 [.ptr 2 0, .ptr 3 0])))) 5 (some (.val (tI p)))) 6 (some (.val (tI q)))) fm.1 fm.2) (fun (fm : (Nat) × (Nat)) => (fun (p : Nat) (q : Nat) => upd (upd (fun _ => none) 2 (some (⟨60, 1, false, [.val (tL 2 true tSn l)]⟩))) 3 (some (⟨3, 1, false, [.val (tI d)]⟩))) fm.1 fm.2) (nm [2, 3]) (fun (fm : (Nat) × (Nat)) => (fun (p : Nat) (q : Nat) => q - p) fm.1 fm.2) ((0, l.length)) (by dsimp only; exact ⟨Nat.zero_le _, Nat.le_refl _, fun i hi => by omega, fun i hi hi2 => by omega⟩) (Sub.int rfl (by first | omega | rfl | (dsimp only; omega)) (Sub.int rfl (by first | omega | rfl | (dsimp only; omega)) (Sub.cons rfl Sub.nil))) ((SubK.consI rfl ImpK.refl) ((SubK.consI rfl ImpK.refl) SubK.nil)) (SupG.val (SupG.val (SupG.own rfl SupG.nil))) (SupH.cons rfl (supJL rfl) (SupH.cons rfl (supJL rfl) SupH.nil)) (lkOk rfl) ?_
 intro fm hI
 obtain ⟨p, q⟩ := fm
 replace hI : p ≤ q ∧ q ≤ l.length ∧ (∀ i, i < p → (l.getD i sn0).hi ≤ d) ∧ ∀ i, q ≤ i → i < l.length → d < (l.getD i sn0).hi := hI
 show wc _ _ _ _ (upd (upd (upd (fun _ => none) 1 (some (.own (.fn 94 [.ptr 2 0, .ptr 3 0])))) 5 (some (.val (tI p)))) 6 (some (.val (tI q)))) (upd (upd (fun _ => none) 2 (some (⟨60, 1, false, [.val (tL 2 true tSn l)]⟩))) 3 (some (⟨3, 1, false, [.val (tI d)]⟩))) _
 obtain ⟨hp, hq, h1, h2⟩ := hI
 refine x6 (x6 ?_)
 refine x8 ?_
 refine R1 x3 rfl (R1 x3 rfl (R2 xd2 rfl rfl (x7 (by kernel_rfl) (x4 ?_))))
 refine xc1 rfl (fun h62 => ?_) (fun h62 => ?_)
 ·
  refine xa2 (x4 (xa9 (x6 ?_)))
  refine x8 ?_
  refine R1 x3 rfl (R1 x3 rfl (R2 (xb9 (wr64 (by omega) (by omega))) rfl rfl (R1 (xb4 Tryz.underlying123 (isS Tryz.underlying3) (by first | exact wu64 (by omega) (by omega) | exact mu64)) rfl (R2 (d_shr (r := ((((p + q) / 2) : Nat) : Int)) (by decide) ((shrN (s := 1) rfl (by decide)).trans (by simp))) rfl rfl (R1 (xb4 Tryz.underlying3 (isS Tryz.underlying123) (wr64 (by omega) (by omega))) rfl (R1 x5 rfl (x7 (by kernel_rfl) ?_)))))))
  refine x4 (x6 ?_)
  refine x8 ?_
  refine R1 x3 rfl (R1 x3 rfl (RE (d_callCX (ps := [.val (tI _)]) (caps := [.ptr 2 0, .ptr 3 0]) (fun j => cond (Nat.beq j 2) 2 (3)) (c_find1 l d ((p + q) / 2) (by omega)) fi94 rfl (krC (ρ := fun j => cond (Nat.beq j 2) 2 (3)) (k := 2) rfl (krC (ρ := fun j => cond (Nat.beq j 2) 2 (3)) (k := 3) rfl (krN (ρ := fun j => cond (Nat.beq j 2) 2 (3))))) (krC (ρ := fun j => cond (Nat.beq j 2) 2 (3)) (k := 2) rfl (krC (ρ := fun j => cond (Nat.beq j 2) 2 (3)) (k := 3) rfl (krN (ρ := fun j => cond (Nat.beq j 2) 2 (3))))) ⟨⟨rfl, (SupX.lit rfl)⟩, ⟨rfl, (SupX.lit rfl)⟩, trivial⟩ rfl) ⟨rfl, rfl, trivial⟩ ⟨rfl, rfl, trivial⟩ trivial (R1 xe2 rfl (x7 (by kernel_rfl) (x4 ?_)))))
  refine C_ifn rfl (fun h65 => ?_) (fun h65 => ?_)
  ·
   refine x8 ?_
   refine R1 x3 rfl (R2 (xb9 (wr64 (by omega) (by omega))) rfl rfl (R1 x5 rfl (x7 (by kernel_rfl) (xc0 ?_))))
   exact xb6 ((((p + q) / 2) + 1, q)) ⟨(by dsimp only; exact ⟨by omega, hq, fun i hi => by have := hi_mono hv (show i ≤ ((p + q) / 2) by omega) (by omega); omega, h2⟩), (by dsimp only; omega)⟩ (Sub.int rfl (by first | omega | rfl | (dsimp only; omega)) (Sub.int rfl (by first | omega | rfl | (dsimp only; omega)) (Sub.cons rfl Sub.nil))) ((SubK.consI rfl ImpK.refl) ((SubK.consI rfl ImpK.refl) SubK.nil)) (SupG.val (SupG.val (SupG.own rfl SupG.nil))) (SupH.cons rfl (supJL rfl) (SupH.cons rfl (supJL rfl) SupH.nil)) (lkOk rfl)
  ·
   refine x8 ?_
   refine R1 x3 rfl (R1 x5 rfl (x7 (by kernel_rfl) (xc0 ?_)))
   exact xb6 ((p, ((p + q) / 2))) ⟨(by dsimp only; exact ⟨by omega, by omega, h1, fun i hi hi2 => by have := hi_mono hv hi hi2; omega⟩), (by dsimp only; omega)⟩ (Sub.int rfl (by first | omega | rfl | (dsimp only; omega)) (Sub.int rfl (by first | omega | rfl | (dsimp only; omega)) (Sub.cons rfl Sub.nil))) ((SubK.consI rfl ImpK.refl) ((SubK.consI rfl ImpK.refl) SubK.nil)) (SupG.val (SupG.val (SupG.own rfl SupG.nil))) (SupH.cons rfl (supJL rfl) (SupH.cons rfl (supJL rfl) SupH.nil)) (lkOk rfl)
 ·
  refine xd0 (xb5 (xb5 (xd5 (x4 (x6 ?_)))))
  refine x8 ?_
  refine R1 x3 rfl (R1 x5 rfl (x7 (by kernel_rfl) (x4 (xa1 ?_))))
  exact xg7 LentC.mk' rfl rfl (Imp.int (congrArg Int.ofNat (fnd_is (by omega) h1 (fun hp2 => h2 p (by omega) hp2)))) ⟨rfl, rfl, trivial⟩ rfl ⟨⟨rfl, (SupX.lit rfl)⟩, ⟨rfl, (SupX.lit rfl)⟩, trivial⟩ rfl
theorem c_find (l : List Sn) (d : Int) (hv : sVal l = true) (hl : l.length ≤ 1000000) :
  Ct Tryz.prog 68 [tL 2 true tSn l, tI d] (tI (fnd l d)) := by
 refine Ct.intro Tryz.func68 rfl Tryz.ntmps68 rfl ?_
 intro w F
 refine x6 ?_
 refine x8 ?_
 refine RE (xd8 (k := 2) ti60 rfl) ⟨rfl, trivial⟩ trivial ⟨rfl, trivial⟩ (RE (xd8 (k := 3) ti3 rfl) ⟨rfl, trivial⟩ trivial ⟨rfl, trivial⟩ (R1 x5 rfl (x7 (by kernel_rfl) (x4 (x6 ?_)))))
 refine x8 ?_
 refine RE (xa8 (0) ti60 rfl rfl) ⟨rfl, trivial⟩ ⟨rfl, trivial⟩ trivial (R1 (xc3 Tryz.underlying60) rfl (R2 (d_makeFunc (ps := [.ptr 2 0, .ptr 3 0]) rfl) rfl rfl (RE (xg3 (fun j => cond (Nat.beq j 2) 2 (3)) (c_Search l d hv hl) fi52 rfl (krC (ρ := fun j => cond (Nat.beq j 2) 2 (3)) (k := 2) rfl (krC (ρ := fun j => cond (Nat.beq j 2) 2 (3)) (k := 3) rfl (krN (ρ := fun j => cond (Nat.beq j 2) 2 (3))))) (krC (ρ := fun j => cond (Nat.beq j 2) 2 (3)) (k := 2) rfl (krC (ρ := fun j => cond (Nat.beq j 2) 2 (3)) (k := 3) rfl (krN (ρ := fun j => cond (Nat.beq j 2) 2 (3))))) ⟨⟨rfl, (SupX.lit rfl)⟩, ⟨rfl, (SupX.lit rfl)⟩, trivial⟩ rfl) ⟨rfl, rfl, trivial⟩ ⟨rfl, rfl, trivial⟩ trivial (R1 x5 rfl (x7 (by kernel_rfl) (x4 (xa1 ?_)))))))
 exact xa6 Plain.mk' rfl rfl Le.refl
theorem c_Has (l : List Sn) (d : Int) (hl : l.length ≤ 1000000) :
  Ct Tryz.prog 38 [tL 2 true tSn l, tI d] (tB (sVal l && hasB l d)) := by
 have hfl := fnd_le (l := l) (d := d)
 refine Ct.intro Tryz.func38 rfl Tryz.ntmps38 rfl ?_
 intro w F
 refine x6 ?_
 refine x8 ?_
 refine R1 x5 rfl (x7 (by kernel_rfl) (x4 (x6 (x6 ?_))))
 refine x8 ?_
 refine R1 x3 rfl (R1 (xa0 (c_SValid l) fi36 rfl) rfl (R1 xe2 rfl (x7 (by kernel_rfl) (x4 ?_))))
 refine xg1 rfl (fun h145 => ?_) (fun h145 => ?_)
 ·
  have hv : sVal l = false := by simpa using h145
  refine x6 ?_
  refine x8 ?_
  refine R1 x5 rfl (x7 (by kernel_rfl) (x4 (xa1 (xa3 ?_))))
  exact xa6 Plain.mk' rfl rfl (Le.bool (by rw [hv]; rfl))
 ·
  have hv : sVal l = true := by simpa using h145
  refine xa2 (x4 (x6 ?_))
  refine x8 ?_
  refine R1 x3 rfl (R1 x3 rfl (R2 (xa0 (c_find l d hv hl) fi68 rfl) rfl rfl (R1 x5 rfl (x7 (by kernel_rfl) (x4 (x6 ?_))))))
  refine x8 ?_
  refine R1 x3 rfl (R1 x3 rfl (R1 (xc3 Tryz.underlying60) rfl (R2 xd2 rfl rfl (R1 x3 rfl ?_))))
  refine RGcaseD (t := 16) rfl (fun h149 => ?_) (fun h149 => ?_)
  ·
   refine RGon (decide_eq_true h149) rfl x3 rfl ⟨rfl, trivial⟩ trivial trivial (RGon (decide_eq_true h149) rfl x3 rfl ⟨rfl, trivial⟩ trivial trivial (RGon (decide_eq_true h149) rfl (xb3 sl60 (fnd l d) (by omega) (gD (l := l) (n := fnd l d) (d := sn0) (by omega))) rfl ⟨rfl, rfl, trivial⟩ trivial trivial (RGon (decide_eq_true h149) rfl (xe8 fo72_0 (At.f 0 rfl rfl) rfl) rfl ⟨rfl, trivial⟩ trivial trivial (RGon (decide_eq_true h149) rfl (xb8 ti3) rfl ⟨rfl, trivial⟩ trivial trivial (RGon (decide_eq_true h149) rfl x3 rfl ⟨rfl, trivial⟩ trivial trivial (RGon (decide_eq_true h149) rfl d_leq rfl ⟨rfl, rfl, trivial⟩ trivial trivial (R2 (xb2 (decide_eq_true h149)) rfl rfl ?_)))))))
   refine R1 x5 rfl (x7 (by kernel_rfl) (x4 (xa1 ?_)))
   exact xa6 Plain.mk' rfl rfl (Le.bool (by rw [hv, hasB]; simp; omega))
  ·
   refine RGoff (decide_eq_false h149) rfl rfl (RGoff (decide_eq_false h149) rfl rfl (RGoff (decide_eq_false h149) rfl rfl (RGoff (decide_eq_false h149) rfl rfl (RGoff (decide_eq_false h149) rfl rfl (RGoff (decide_eq_false h149) rfl rfl (RGoff (decide_eq_false h149) rfl rfl (R2 (xa7 (decide_eq_false h149)) rfl rfl ?_)))))))
   refine R1 x5 rfl (x7 (by kernel_rfl) (x4 (xa1 ?_)))
   exact xa6 Plain.mk' rfl rfl (Le.bool (by rw [hv, hasB]; simp; omega))
end An.S

/- Layer 4: days looked for in sets. Plain data, but for what the walks define. -/
namespace An.S
open Go
theorem fnd_spec {d : Int} : ∀ l : List Sn, (∀ i, i < fnd l d → (l.getD i sn0).hi ≤ d) ∧ (fnd l d < l.length → d < (l.getD (fnd l d) sn0).hi)
  | [] => ⟨fun i hi => by simp [fnd] at hi, fun h => by simp at h⟩
  | s :: r => by
    have ih := fnd_spec (d := d) r
    by_cases h : s.hi ≤ d
    · have e : fnd (s :: r) d = fnd r d + 1 := by rw [fnd, List.takeWhile_cons, if_pos (by simpa using h)]; rfl
      rw [e]
      refine ⟨fun i hi => ?_, fun hl => ?_⟩
      · cases i with
        | zero => exact h
        | succ i => have := ih.1 i (by omega); simpa using this
      · have := ih.2 (by simpa using hl); simpa using this
    · have e : fnd (s :: r) d = 0 := by rw [fnd, List.takeWhile_cons, if_neg (by simpa using h)]; rfl
      rw [e]
      exact ⟨fun i hi => by omega, fun _ => by show d < s.hi; omega⟩
theorem lo_mono {l : List Sn} (h : sVal l = true) {i j : Nat} (hij : i ≤ j) (hj : j < l.length) : (l.getD i sn0).lo ≤ (l.getD j sn0).lo := by
  rcases Nat.lt_or_ge i j with h1 | h1
  · have := sVal_lt h h1 hj
    have := sVal_at h (i := i) (by omega); omega
  · rw [show i = j by omega]; exact Int.le_refl _
theorem mem_at {l : List Sn} {d : Int} (h : mem l d = true) : ∃ i, i < l.length ∧ (l.getD i sn0).lo ≤ d ∧ d < (l.getD i sn0).hi := by
  obtain ⟨s, hs, h1⟩ := mem_iff.1 h
  obtain ⟨i, hi, rfl⟩ := exists_getS hs
  exact ⟨i, hi, h1⟩
theorem at_mem {l : List Sn} {d : Int} {i : Nat} (hi : i < l.length) (h1 : (l.getD i sn0).lo ≤ d) (h2 : d < (l.getD i sn0).hi) : mem l d = true := mem_iff.2 ⟨_, mem_getS hi, h1, h2⟩
/-- The span that has days from d on is the one of d, if d is a day. -/
theorem hasB_mem {l : List Sn} {d : Int} (h : sVal l = true) : hasB l d = mem l d := by
  have hf := fnd_spec (d := d) l
  rw [Bool.eq_iff_iff, hasB, Bool.and_eq_true, decide_eq_true_eq, decide_eq_true_eq]
  constructor
  · rintro ⟨h1, h2⟩; exact at_mem h1 h2 (hf.2 h1)
  · intro hm
    obtain ⟨i, hi, h1, h2⟩ := mem_at hm
    have h3 : ¬ i < fnd l d := fun h' => by have := hf.1 i h'; omega
    exact ⟨by omega, by have := lo_mono h (show fnd l d ≤ i by omega) hi; omega⟩
end An.S

/- Law 5: TimelineCovers. -/
namespace An.S
open Go Go.Proofs An
set_option maxHeartbeats 2000000
set_option maxRecDepth 100000
theorem fi38 : FnI Tryz.prog 38 := ⟨_, Tryz.func38, by kernel_rfl, rfl⟩
theorem fi42 : FnI Tryz.prog 42 := ⟨_, Tryz.func42, by kernel_rfl, rfl⟩
theorem pair_or {l : List Tst} (h : l.Pairwise fun s t => s.hi ≤ t.lo) : ∀ {s t : Tst}, s ∈ l → t ∈ l → s = t ∨ s.hi ≤ t.lo ∨ t.hi ≤ s.lo := by
  induction l with
  | nil => intro s t hs; cases hs
  | cons x r ih =>
    intro s t hs ht
    have hp := List.pairwise_cons.1 h
    rcases List.mem_cons.1 hs with e1 | hs'
    · rcases List.mem_cons.1 ht with e2 | ht'
      · exact .inl (e1.trans e2.symm)
      · rw [e1]; exact .inr (.inl (hp.1 t ht'))
    · rcases List.mem_cons.1 ht with e2 | ht'
      · rw [e2]; exact .inr (.inr (hp.1 s hs'))
      · exact ih hp.2 hs' ht'
theorem nb_pair : ∀ {l : List Tst} {s t : Tst}, ascT l → nbT l → s ∈ l → t ∈ l → s.hi = t.lo → s.v ≠ t.v
  | [], _, _, _, _, hs, _, _ => by cases hs
  | x :: r, s, t, ha, hn, hs, ht, e => by
    have pa := List.pairwise_cons.1 ha.2
    have hx := ha.1 x (List.mem_cons_self ..)
    have hr : ascT r := ⟨fun y hy => ha.1 y (List.mem_cons_of_mem _ hy), pa.2⟩
    have hnr : nbT r := by
      cases r with
      | nil => trivial
      | cons y q => exact hn.2
    rcases List.mem_cons.1 hs with rfl | hs
    · rcases List.mem_cons.1 ht with rfl | ht
      · omega
      · cases r with
        | nil => cases ht
        | cons y q =>
          rcases List.mem_cons.1 ht with rfl | ht
          · exact fun h => hn.1 ⟨e, h⟩
          · have h1 := (List.pairwise_cons.1 pa.2).1 t ht
            have h2 := pa.1 y (List.mem_cons_self ..)
            have h3 := ha.1 y (List.mem_cons_of_mem _ (List.mem_cons_self ..))
            omega
    · rcases List.mem_cons.1 ht with e2 | ht
      · have h1 := pa.1 s hs
        have h2 := hr.1 s hs
        rw [e2] at e
        omega
      · exact nb_pair hr hnr hs ht e
/-- A day at which a timeline changes. -/
theorem chg_iff {l : List Tst} {e : Int} (ha : ascT l) (hn : nbT l) : e ∈ bds [l] ↔ valT l e ≠ valT l (e - 1) := by
  have at_lo : ∀ s ∈ l, valT l s.lo = some s.v := fun s hs => by
    cases hv : valT l s.lo with
    | none => exact absurd ⟨Int.le_refl _, ha.1 s hs⟩ (xh9.1 hv s hs)
    | some v =>
      obtain ⟨t, ht, h2, h3⟩ := xh4 hv
      have hlt := ha.1 s hs
      rcases pair_or ha.2 hs ht with rfl | h4 | h4
      · rw [← h3]
      · omega
      · omega
  have at_in : ∀ s ∈ l, ∀ d, s.lo ≤ d → d < s.hi → valT l d = some s.v := fun s hs d h1 h2 => by
    cases hv : valT l d with
    | none => exact absurd ⟨h1, h2⟩ (xh9.1 hv s hs)
    | some v =>
      obtain ⟨t, ht, h4, h3⟩ := xh4 hv
      rcases pair_or ha.2 hs ht with rfl | h5 | h5
      · rw [← h3]
      · omega
      · omega
  rw [bds_mem]
  constructor
  · rintro ⟨l', hl', s, hs, he⟩
    rw [List.mem_singleton.1 hl'] at hs
    have hlt := ha.1 s hs
    rcases he with rfl | rfl
    · rw [at_lo s hs]
      intro h
      obtain ⟨t, ht, h2, h3⟩ := xh4 h.symm
      rcases pair_or ha.2 hs ht with rfl | h5 | h5
      · omega
      · omega
      · exact nb_pair ha hn ht hs (by omega) h3
    · rw [at_in s hs (s.hi - 1) (by omega) (by omega)]
      intro h
      obtain ⟨t, ht, h2, h3⟩ := xh4 h
      rcases pair_or ha.2 hs ht with rfl | h5 | h5
      · omega
      · exact nb_pair ha hn hs ht (by omega) h3.symm
      · omega
  · intro h
    refine Classical.byContradiction fun hno => h (valT_const (x := e - 1) (d := e) (fun s hs => ⟨fun h1 => hno ⟨l, List.mem_singleton.2 rfl, s, hs, .inl (by omega)⟩, fun h1 => hno ⟨l, List.mem_singleton.2 rfl, s, hs, .inr (by omega)⟩⟩) (by omega))
/-- The day before, as the machine counts it. -/
def pred (e : Int) : Int := IntKind.i64.wrap (e - 1)
theorem valT_pred {K : Nat} {D B : Int} {l : List Tst} {e : Int} (h : isG K D B l) (h1 : -9223372036854775808 ≤ e) (h2 : e ≤ 9223372036854775807) : valT l (pred e) = valT l (e - 1) := by
  rcases Int.lt_or_le (-9223372036854775808) e with h3 | h3
  · rw [pred, wr64 (by omega) (by omega)]
  · have he : e = -9223372036854775808 := by omega
    subst he
    have hp : pred (-9223372036854775808) = 9223372036854775807 := by decide
    rw [hp, xh9.2 fun s hs h' => by have := h.bd s hs; omega, xh9.2 fun s hs h' => by have := h.bd s hs; omega]
theorem lk_bd {K : Nat} {D B : Int} {a b : List Tst} {d e : Int} (ha : isG K D B a) (hb : isG K D B b) (h1 : -9223372036854775808 ≤ d) (h2 : d ≤ 9223372036854775807) (he : e ∈ lkT a b d) : -9223372036854775808 ≤ e ∧ e ≤ 9223372036854775807 := by
  have key : ∀ l : List Tst, isG K D B l → ∀ x ∈ eds4 l, -1 ≤ x ∧ x ≤ 65536 := fun l hl x hx => by
    obtain ⟨s, hs, hx⟩ := List.mem_flatMap.1 hx
    have := hl.bd s hs
    simp only [List.mem_cons, List.not_mem_nil, or_false] at hx
    omega
  rcases List.mem_cons.1 he with rfl | he
  · exact ⟨h1, h2⟩
  · obtain ⟨l, hl, hx⟩ := List.mem_flatMap.1 he
    have : -1 ≤ e ∧ e ≤ 65536 := by
      rcases List.mem_cons.1 hl with rfl | hl
      · exact key _ ha e hx
      · rw [List.mem_singleton.1 hl] at hx; exact key _ hb e hx
    omega
theorem chg_some {x y : Option Va} {P : Prop} [Decidable P] (hP : P ↔ x ≠ y) (h : (!(x.isSome == y.isSome)) = true) : (!(decide P == true)) = false := by
  have : P := hP.2 fun e => by rw [e] at h; simp at h
  simp [this]
theorem chg_same {x y : Option Va} {P : Prop} [Decidable P] (hP : P ↔ x ≠ y) (h : (!(x.isSome == y.isSome)) = false) : (!(decide P == !decide (x.getD An.va0 = y.getD An.va0))) = false := by
  have key : x = y ↔ x.getD An.va0 = y.getD An.va0 := by
    cases x with
    | none => cases y with
      | none => simp
      | some v => simp at h
    | some u => cases y with
      | none => simp at h
      | some v => simp
  by_cases hxy : x = y
  · have h1 : ¬ P := fun hp => hP.1 hp hxy
    simp [h1, key.1 hxy]
  · have h1 : P := hP.2 hxy
    have h2 : ¬ x.getD An.va0 = y.getD An.va0 := fun h => hxy (key.2 h)
    simp [h1, h2]
/-- The union of two sets. -/
def unS (u v : List Sn) : List Sn := (ckRun (fun x y => x || y) u v).xs
theorem c_UnionG (u v : List Sn) (hu : sVal u = true) (hv : sVal v = true) (h1 : u.length ≤ 100000) (h2 : v.length ≤ 100000) : Ct Tryz.prog 42 [tL 2 true tSn u, tL 2 true tSn v] (tT [tL 2 true tSn (unS u v), tI 0]) := by
  have h := c_Union u v h1 h2
  rw [if_pos ⟨hu, hv⟩, if_pos ⟨hu, hv⟩] at h; exact h
theorem un_cov {K : Nat} {D B : Int} {a b : List Tst} (ha : isG K D B a) (hb : isG K D B b) : unS (cvT a) (cvT b) = cvT (jnT a b) := by
  have h1 := cvT_set ha.1
  have h2 := cvT_set hb.1
  have h3 := cvT_set (ha.join hb).1
  have h4 := ck_all (kp := fun x y => x || y) h1.1 h2.1 rfl
  refine set_same h4.1 h3.1 fun d => ?_
  rw [unS, h4.2, h1.2, h2.2, h3.2, jnT_val]
  cases valT a d <;> cases valT b d <;> rfl
theorem c_SValG (w : List Sn) (h : sVal w = true) : Ct Tryz.prog 36 [tL 2 true tSn w] (tB true) := by
  have := c_SValid w
  rw [h] at this; exact this
theorem c_HasM (w : List Sn) (d : Int) (h : sVal w = true) (hl : w.length ≤ 1000000) : Ct Tryz.prog 38 [tL 2 true tSn w, tI d] (tB (mem w d)) := by
  have := c_Has w d hl
  rw [h, Bool.true_and, hasB_mem h] at this; exact this
theorem take_memI {l : List Int} {j : Nat} {e : Int} (hj : j < l.length) : decide (e ∈ l.take (j + 1)) = (decide (e ∈ l.take j) || decide (l.getD j 0 = e)) := by
  rw [take_succ_getI l j hj]
  simp only [List.mem_append, List.mem_singleton, Bool.decide_or]
  congr 1
  exact decide_eq_decide.2 eq_comm
theorem c_TlCovers (m n : List Nat) (hmm : ∀ i, m.getD i 0 < 65536) (hmn : ∀ i, n.getD i 0 < 65536) (d : Int) (hd1 : -9223372036854775808 ≤ d) (hd2 : d ≤ 9223372036854775807) :
  Ct Tryz.prog 10 [tLm m, tLm n, tI d] (tB true) := by
 obtain ⟨ha, hla⟩ := tbT_ok m
 have hbta := c_Built05 m hmm
 generalize tbT m = a at *
 obtain ⟨hb, hlb⟩ := tbT_ok n
 have hbtb := c_Built05 n hmn
 generalize tbT n = b at *
 have hJ := ha.join hb
 have hlJ := jn_len2 (Nat.le_refl (a.length + b.length))
 have s1 := cvT_set ha.1
 have s2 := cvT_set hb.1
 have c1 := cvT_len (l := a)
 have c2 := cvT_len (l := b)
 have hcl := bds_len (ls := [a])
 have htl : tlen [a] ≤ 41 := by simp [tlen]; omega
 refine Ct.intro Tryz.func10 rfl Tryz.ntmps10 rfl ?_
 intro w F
 refine x6 ?_
 refine x8 ?_
 refine R1 x5 rfl (x7 (by kernel_rfl) (x4 (x6 (x6 ?_))))
 refine x8 ?_
 refine R0 (xa0 c_awake05 fi11 rfl)  (R1 xe2 rfl (x7 (by kernel_rfl) (x4 (C_bF rfl rfl (xa2 (x4 (x6 ?_)))))))
 refine x8 ?_
 refine R1 x3 rfl (R1 (xa0 hbta fi12 rfl) rfl (R1 x3 rfl (R1 (xa0 hbtb fi12 rfl) rfl (R1 x5 rfl (R1 x5 rfl (x7 (by kernel_rfl) (x4 ?_)))))))
 refine x6 ?_
 refine x8 ?_
 refine R1 x3 rfl (R1 (xa0 (c_CoversG ha (by omega)) fi34 rfl) rfl (R1 x3 rfl (R1 (xa0 (c_CoversG hb (by omega)) fi34 rfl) rfl (R1 x5 rfl (R1 x5 rfl (x7 (by kernel_rfl) (x4 ?_)))))))
 refine x6 ?_
 refine x8 ?_
 refine R1 x3 rfl (R1 x3 rfl (R2 (xa0 (c_JoinG ha hb (by omega) (by omega)) fi13 rfl) rfl rfl (R1 x3 rfl (R1 (xb1 rfl) rfl (R1 (xb1 rfl) rfl (R1 x5 rfl (R1 x5 rfl ?_)))))))
 refine x7 (by kernel_rfl) (x4 (x6 ?_))
 refine x8 ?_
 refine R1 x3 rfl (R1 x3 rfl (R2 (xa0 (c_UnionG (cvT a) (cvT b) s1.1 s2.1 (by omega) (by omega)) fi42 rfl) rfl rfl (R1 x3 rfl (R1 (xb1 rfl) rfl (R1 (xb1 rfl) rfl (R1 x5 rfl (R1 x5 rfl ?_)))))))
 refine x7 (by kernel_rfl) (x4 (x6 (x6 ?_)))
 refine x8 ?_
 refine R1 x3 rfl (R1 x3 rfl (R2 (xb9 (wr64 (by omega) (by omega))) rfl rfl (R2 d_neq rfl rfl (R1 x3 rfl (RGon (decide_eq_false (by omega)) rfl x3 rfl ⟨rfl, trivial⟩ trivial trivial (RGon (decide_eq_false (by omega)) rfl (xa0 (c_SValG (cvT a) s1.1) fi36 rfl) rfl ⟨rfl, trivial⟩ trivial trivial (RGon (decide_eq_false (by omega)) rfl xe2 rfl ⟨rfl, trivial⟩ trivial trivial ?_)))))))
 refine R2 (xa7 (decide_eq_false (by omega))) rfl rfl (R1 x3 rfl (RGon rfl rfl x3 rfl ⟨rfl, trivial⟩ trivial trivial (RGon rfl rfl x3 rfl ⟨rfl, trivial⟩ trivial trivial (RGon rfl rfl (xa0 (c_CoversG hJ (by omega)) fi34 rfl) rfl ⟨rfl, trivial⟩ trivial trivial (RGon rfl rfl (xa0 (c_sameSv _ _ (un_cov ha hb)) fi37 rfl) rfl ⟨rfl, rfl, trivial⟩ trivial trivial (RGon rfl rfl xe2 rfl ⟨rfl, trivial⟩ trivial trivial (R2 (xa7 rfl) rfl rfl ?_)))))))
 refine x7 (by kernel_rfl) (x4 (C_bF rfl rfl (xa2 (x4 (x6 ?_)))))
 refine x8 ?_
 refine R1 x3 rfl (R1 (xa0 (c_ChangesG ha (by omega)) fi35 rfl) rfl (R1 x5 rfl (x7 (by kernel_rfl) (x4 (x6 (x6 ?_))))))
 refine x8 ?_
 refine R1 x3 rfl (R1 (xc3 Tryz.underlying30) rfl (R1 x3 rfl (x7 (by kernel_rfl) (x4 (xa9 ?_)))))
 refine xd6 (fun (i : Nat) => i ≤ (bds [a]).length) (fun (i : Nat) => upd (upd (upd (upd (upd (upd (upd (upd (fun _ => none) 7 (some (.val (tL 8 true tTs a)))) 9 (some (.val (tL 2 true tSn (cvT a))))) 15 (some (.val (tL 1 false tI (bds [a]))))) 8 (some (.val (tL 8 true tTs b)))) 2 (some (.val (tI d)))) 67 (some (.val (tL 1 false tI (bds [a]))))) 68 (some (.val (tI (bds [a]).length)))) 69 (some (.val (tI i)))) (fun (i : Nat) => fun _ => none) (nm []) (fun (i : Nat) => (bds [a]).length - i) (0) (Nat.zero_le _) (Sub.int rfl (by first | omega | rfl | (dsimp only; omega)) (Sub.int rfl (by first | omega | rfl | (dsimp only; omega)) (Sub.cons rfl (Sub.int rfl (by first | omega | rfl | (dsimp only; omega)) (Sub.cons rfl (Sub.cons rfl (Sub.cons rfl (Sub.cons rfl Sub.nil)))))))) SubK.nil (SupG.val (SupG.val (SupG.val (SupG.val (SupG.val (SupG.val (SupG.val (SupG.val SupG.nil)))))))) SupH.nil (lkOk rfl) ?_
 intro i hI
 refine x6 ?_
 refine x8 ?_
 refine R2 xd2 rfl rfl (x7 (by kernel_rfl) (x4 (x6 ?_)))
 refine xc1 rfl (fun h221 => ?_) (fun h221 => ?_)
 ·
  refine xa2 (x4 (x6 (xa9 (x6 ?_))))
  refine x8 ?_
  refine R1 x3 rfl (R2 (xb3 sl30 (i) (by omega) (gD (l := (bds [a])) (n := i) (d := 0) (by omega))) rfl rfl (R1 (xb8 ti3) rfl (R1 x5 rfl (R1 x5 rfl (x7 (by kernel_rfl) (x4 (x6 ?_)))))))
  refine x8 ?_
  refine R1 x3 rfl (R2 d_gtr rfl rfl (R1 x3 rfl ?_))
  refine RGcaseD (t := 76) rfl (fun h222 => ?_) (fun h222 => ?_)
  ·
   have hlt := pw_lt (bds_pw (ls := [a])) (show i - 1 < i by omega) (by omega)
   refine RGon (decide_eq_true h222) rfl x3 rfl ⟨rfl, trivial⟩ trivial trivial (RGon (decide_eq_true h222) rfl x3 rfl ⟨rfl, trivial⟩ trivial trivial (RGon (decide_eq_true h222) rfl (xe3 (wr64 (by omega) (by omega))) rfl ⟨rfl, rfl, trivial⟩ trivial trivial (RGon (decide_eq_true h222) rfl (xb3 sl30 ((i - 1)) (by omega) (gD (l := (bds [a])) (n := (i - 1)) (d := 0) (by omega))) rfl ⟨rfl, rfl, trivial⟩ trivial trivial (RGon (decide_eq_true h222) rfl (xb8 ti3) rfl ⟨rfl, trivial⟩ trivial trivial (RGon (decide_eq_true h222) rfl x3 rfl ⟨rfl, trivial⟩ trivial trivial (RGon (decide_eq_true h222) rfl d_geq rfl ⟨rfl, rfl, trivial⟩ trivial trivial (R2 (xb2 (decide_eq_true h222)) rfl rfl ?_)))))))
   refine x7 (by kernel_rfl) (x4 (C_bF rfl (decide_eq_false (by omega)) (xa2 (xc0 (x4 ?_)))))
   refine x8 ?_
   refine R2 (xb9 (wr64 (by omega) (by omega))) rfl rfl (R1 x3 rfl (x7 (by kernel_rfl) ?_))
   exact xb6 (i + 1) ⟨(by omega), (by omega)⟩ (Sub.int rfl (by first | omega | rfl | (dsimp only; omega)) (Sub.int rfl (by first | omega | rfl | (dsimp only; omega)) (Sub.cons rfl (Sub.int rfl (by first | omega | rfl | (dsimp only; omega)) (Sub.cons rfl (Sub.cons rfl (Sub.cons rfl (Sub.cons rfl Sub.nil)))))))) SubK.nil (SupG.val (SupG.val (SupG.val (SupG.val (SupG.val (SupG.val (SupG.val (SupG.val SupG.nil)))))))) SupH.nil (lkOk rfl)
  ·
   refine RGoff (decide_eq_false h222) rfl rfl (RGoff (decide_eq_false h222) rfl rfl (RGoff (decide_eq_false h222) rfl rfl (RGoff (decide_eq_false h222) rfl rfl (RGoff (decide_eq_false h222) rfl rfl (RGoff (decide_eq_false h222) rfl rfl (RGoff (decide_eq_false h222) rfl rfl (R2 (xa7 (decide_eq_false h222)) rfl rfl ?_)))))))
   refine x7 (by kernel_rfl) (x4 (C_bF rfl rfl (xa2 (xc0 (x4 ?_)))))
   refine x8 ?_
   refine R2 (xb9 (wr64 (by omega) (by omega))) rfl rfl (R1 x3 rfl (x7 (by kernel_rfl) ?_))
   exact xb6 (i + 1) ⟨(by omega), (by omega)⟩ (Sub.int rfl (by first | omega | rfl | (dsimp only; omega)) (Sub.int rfl (by first | omega | rfl | (dsimp only; omega)) (Sub.cons rfl (Sub.int rfl (by first | omega | rfl | (dsimp only; omega)) (Sub.cons rfl (Sub.cons rfl (Sub.cons rfl (Sub.cons rfl Sub.nil)))))))) SubK.nil (SupG.val (SupG.val (SupG.val (SupG.val (SupG.val (SupG.val (SupG.val (SupG.val SupG.nil)))))))) SupH.nil (lkOk rfl)
 ·
  refine xd0 (xb5 (xb5 (xd5 (x4 (x6 (x6 ?_))))))
  refine x8 ?_
  refine R1 x3 rfl (R1 x3 rfl (R1 x3 rfl (R3 (xa0 (c_look a b d (by omega) (by omega) ha.bd5 hb.bd5) fi15 rfl) rfl rfl rfl (R1 (xc3 Tryz.underlying30) rfl (R1 x3 rfl (x7 (by kernel_rfl) (x4 ?_)))))))
  refine xa9 ?_
  refine C_len (s := 89) rfl (fun hl89 => ?_)
  refine xd6 (fun (i : Nat) => i ≤ (lkT a b d).length) (fun (i : Nat) => upd (upd (upd (upd (upd (upd (fun _ => none) 7 (some (.val (tL 8 true tTs a)))) 9 (some (.val (tL 2 true tSn (cvT a))))) 15 (some (.val (tL 1 false tI (bds [a]))))) 89 (some (.val (tL 1 false tI (lkT a b d))))) 90 (some (.val (tI (lkT a b d).length)))) 91 (some (.val (tI i)))) (fun (i : Nat) => fun _ => none) (nm []) (fun (i : Nat) => (lkT a b d).length - i) (0) (Nat.zero_le _) (Sub.int rfl (by first | omega | rfl | (dsimp only; omega)) (Sub.int rfl (by first | omega | rfl | (dsimp only; omega)) (Sub.cons rfl (Sub.cons rfl (Sub.cons rfl (Sub.cons rfl Sub.nil)))))) SubK.nil (SupG.val (SupG.val (SupG.val (SupG.val (SupG.val (SupG.val SupG.nil)))))) SupH.nil (lkOk rfl) ?_
  intro i hI
  refine x6 ?_
  refine x8 ?_
  refine R2 xd2 rfl rfl (x7 (by kernel_rfl) (x4 (x6 ?_)))
  refine xc1 rfl (fun h226 => ?_) (fun h226 => ?_)
  ·
   refine xa2 (x4 (x6 (xa9 (x6 ?_))))
   refine x8 ?_
   refine R2 (xb3 sl30 (i) (by omega) (gD (l := (lkT a b d)) (n := i) (d := 0) (by omega))) rfl rfl (R1 (xb8 ti3) rfl (R1 x5 rfl (x7 (by kernel_rfl) (x4 (x6 ?_)))))
   have hem := getD_memI (ds := (lkT a b d)) (i := i) (by omega)
   generalize (lkT a b d).getD i 0 = e at hem ⊢
   have heb := lk_bd ha hb hd1 hd2 hem
   have hpr := valT_pred ha heb.1 heb.2
   have hci := chg_iff (e := e) ha.asc ha.nb
   rw [← hpr] at hci
   refine x8 ?_
   refine R1 x3 rfl (R1 x3 rfl (R2 (xa0 (c_value05 a e) fi16 rfl) rfl rfl (R1 x3 rfl (R1 (xb1 rfl) rfl (R1 (xb1 rfl) rfl (RE (xc4 (k := 20) (n := 6) (agg := true) zr37.1 zr37.2 rfl) trivial trivial ⟨rfl, trivial⟩ (RE (xa4 (es := 6) (agg := true) (0) ti37 rfl rfl rfl) ⟨rfl, rfl, trivial⟩ ⟨rfl, trivial⟩ trivial ?_)))))))
   refine R1 x5 rfl (x7 (by kernel_rfl) (x4 (x6 ?_)))
   refine x8 ?_
   refine R1 x3 rfl (R1 x3 rfl (R2 (xe3 (r := pred e) rfl) rfl rfl (R2 (xa0 (c_value05 a (pred e)) fi16 rfl) rfl rfl (R1 x3 rfl (R1 (xb1 rfl) rfl (R1 (xb1 rfl) rfl (RE (xc4 (k := 22) (n := 6) (agg := true) zr37.1 zr37.2 rfl) trivial trivial ⟨rfl, trivial⟩ ?_)))))))
   refine RE (xa4 (es := 6) (agg := true) (0) ti37 rfl rfl rfl) ⟨rfl, rfl, trivial⟩ ⟨rfl, trivial⟩ trivial (R1 x5 rfl (x7 (by kernel_rfl) (x4 (x6 ?_))))
   refine x8 ?_
   refine R1 x5 rfl (x7 (by kernel_rfl) (x4 (x6 (x6 ?_))))
   refine x8 ?_
   refine R1 x3 rfl (R1 (xc3 Tryz.underlying30) rfl (R1 x3 rfl (x7 (by kernel_rfl) (x4 (xa9 ?_)))))
   refine xd6 (fun (fm : (Nat) × (Bool)) => (fun (j : Nat) (cb : Bool) => j ≤ (bds [a]).length ∧ cb = decide (e ∈ (bds [a]).take j)) fm.1 fm.2) (fun (fm : (Nat) × (Bool)) => (fun (j : Nat) (cb : Bool) => upd (upd (upd (upd (upd (upd (upd (upd (upd (upd (upd (upd (upd (upd (upd (fun _ => none) 7 (some (.val (tL 8 true tTs a)))) 9 (some (.val (tL 2 true tSn (cvT a))))) 15 (some (.val (tL 1 false tI (bds [a]))))) 89 (some (.val (tL 1 false tI (lkT a b d))))) 90 (some (.val (tI (lkT a b d).length)))) 91 (some (.val (tI i)))) 19 (some (.val (tI e)))) 20 (some (.own (.ptr 20 0)))) 21 (some (.val (tB (valT a e).isSome)))) 22 (some (.own (.ptr 22 0)))) 23 (some (.val (tB (valT a (pred e)).isSome)))) 24 (some (.val (tB cb)))) 108 (some (.val (tL 1 false tI (bds [a]))))) 109 (some (.val (tI (bds [a]).length)))) 110 (some (.val (tI j)))) fm.1 fm.2) (fun (fm : (Nat) × (Bool)) => (fun (j : Nat) (cb : Bool) => upd (upd (fun _ => none) 20 (some (⟨37, 6, true, [.val (tVa ((valT a e).getD An.va0))]⟩))) 22 (some (⟨37, 6, true, [.val (tVa ((valT a (pred e)).getD An.va0))]⟩))) fm.1 fm.2) (nm [20, 22]) (fun (fm : (Nat) × (Bool)) => (fun (j : Nat) (cb : Bool) => (bds [a]).length - j) fm.1 fm.2) ((0, false)) (by dsimp only; exact ⟨Nat.zero_le _, rfl⟩) (Sub.int rfl (by first | omega | rfl | (dsimp only; omega)) (Sub.int rfl (by first | omega | rfl | (dsimp only; omega)) (Sub.cons rfl (Sub.cons rfl (Sub.cons rfl (Sub.cons rfl (Sub.cons rfl (Sub.cons rfl (Sub.int rfl (by first | omega | rfl | (dsimp only; omega)) (Sub.int rfl (by first | omega | rfl | (dsimp only; omega)) (Sub.int rfl (by first | omega | rfl | (dsimp only; omega)) (Sub.cons rfl (Sub.cons rfl (Sub.cons rfl (Sub.cons rfl Sub.nil))))))))))))))) ((SubK.consI rfl ImpK.refl) ((SubK.consI rfl ImpK.refl) SubK.nil)) (SupG.val (SupG.val (SupG.val (SupG.val (SupG.val (SupG.own rfl (SupG.val (SupG.own rfl (SupG.val (SupG.val (SupG.val (SupG.val (SupG.val (SupG.val (SupG.val SupG.nil))))))))))))))) (SupH.cons rfl (supJL rfl) (SupH.cons rfl (supJL rfl) SupH.nil)) (lkOk rfl) ?_
   intro fm hI2
   obtain ⟨j, cb⟩ := fm
   replace hI2 : j ≤ (bds [a]).length ∧ cb = decide (e ∈ (bds [a]).take j) := hI2
   show wc _ _ _ _ (upd (upd (upd (upd (upd (upd (upd (upd (upd (upd (upd (upd (upd (upd (upd (fun _ => none) 7 (some (.val (tL 8 true tTs a)))) 9 (some (.val (tL 2 true tSn (cvT a))))) 15 (some (.val (tL 1 false tI (bds [a]))))) 89 (some (.val (tL 1 false tI (lkT a b d))))) 90 (some (.val (tI (lkT a b d).length)))) 91 (some (.val (tI i)))) 19 (some (.val (tI e)))) 20 (some (.own (.ptr 20 0)))) 21 (some (.val (tB (valT a e).isSome)))) 22 (some (.own (.ptr 22 0)))) 23 (some (.val (tB (valT a (pred e)).isSome)))) 24 (some (.val (tB cb)))) 108 (some (.val (tL 1 false tI (bds [a]))))) 109 (some (.val (tI (bds [a]).length)))) 110 (some (.val (tI j)))) (upd (upd (fun _ => none) 20 (some (⟨37, 6, true, [.val (tVa ((valT a e).getD An.va0))]⟩))) 22 (some (⟨37, 6, true, [.val (tVa ((valT a (pred e)).getD An.va0))]⟩))) _
   obtain ⟨hj, hc⟩ := hI2
   refine x6 ?_
   refine x8 ?_
   refine R2 xd2 rfl rfl (x7 (by kernel_rfl) (x4 (x6 ?_)))
   refine xc1 rfl (fun h230 => ?_) (fun h230 => ?_)
   ·
    refine xa2 (x4 (x6 (xa9 (x6 ?_))))
    refine x8 ?_
    refine R2 (xb3 sl30 (j) (by omega) (gD (l := (bds [a])) (n := j) (d := 0) (by omega))) rfl rfl (R1 (xb8 ti3) rfl (R1 x5 rfl (x7 (by kernel_rfl) (x4 ?_))))
    refine x8 ?_
    refine R1 x3 rfl (R1 x3 rfl ?_)
    refine RGcase (t := 115) rfl (fun h231 => ?_) (fun h231 => ?_)
    ·
     refine RGoff h231 rfl rfl (RGoff h231 rfl rfl (RGoff h231 rfl rfl (R2 (xb2 h231) rfl rfl (R1 x5 rfl (x7 (by kernel_rfl) (xc0 (x4 ?_)))))))
     refine x8 ?_
     refine R2 (xb9 (wr64 (by omega) (by omega))) rfl rfl (R1 x3 rfl (x7 (by kernel_rfl) ?_))
     exact xb6 ((j + 1, true)) ⟨(by dsimp only; exact ⟨by omega, by rw [take_memI (by omega), ← hc, h231]; rfl⟩), (by dsimp only; omega)⟩ (Sub.int rfl (by first | omega | rfl | (dsimp only; omega)) (Sub.int rfl (by first | omega | rfl | (dsimp only; omega)) (Sub.cons rfl (Sub.cons rfl (Sub.cons rfl (Sub.cons rfl (Sub.cons rfl (Sub.cons rfl (Sub.int rfl (by first | omega | rfl | (dsimp only; omega)) (Sub.int rfl (by first | omega | rfl | (dsimp only; omega)) (Sub.int rfl (by first | omega | rfl | (dsimp only; omega)) (Sub.cons rfl (Sub.cons rfl (Sub.cons rfl (Sub.cons rfl Sub.nil))))))))))))))) ((SubK.consI rfl ImpK.refl) ((SubK.consI rfl ImpK.refl) SubK.nil)) (SupG.val (SupG.val (SupG.val (SupG.val (SupG.val (SupG.own rfl (SupG.val (SupG.own rfl (SupG.val (SupG.val (SupG.val (SupG.val (SupG.val (SupG.val (SupG.val SupG.nil))))))))))))))) (SupH.cons rfl (supJL rfl) (SupH.cons rfl (supJL rfl) SupH.nil)) (lkOk rfl)
    ·
     refine RGon h231 rfl x3 rfl ⟨rfl, trivial⟩ trivial trivial (RGon h231 rfl x3 rfl ⟨rfl, trivial⟩ trivial trivial (RGon h231 rfl xe5 rfl ⟨rfl, rfl, trivial⟩ trivial trivial (R2 (xa7 h231) rfl rfl (R1 x5 rfl (x7 (by kernel_rfl) (xc0 (x4 ?_)))))))
     refine x8 ?_
     refine R2 (xb9 (wr64 (by omega) (by omega))) rfl rfl (R1 x3 rfl (x7 (by kernel_rfl) ?_))
     exact xb6 ((j + 1, decide ((bds [a]).getD j 0 = e))) ⟨(by dsimp only; exact ⟨by omega, by rw [take_memI (by omega), ← hc, h231]; rfl⟩), (by dsimp only; omega)⟩ (Sub.int rfl (by first | omega | rfl | (dsimp only; omega)) (Sub.int rfl (by first | omega | rfl | (dsimp only; omega)) (Sub.cons rfl (Sub.cons rfl (Sub.cons rfl (Sub.cons rfl (Sub.cons rfl (Sub.cons rfl (Sub.int rfl (by first | omega | rfl | (dsimp only; omega)) (Sub.int rfl (by first | omega | rfl | (dsimp only; omega)) (Sub.int rfl (by first | omega | rfl | (dsimp only; omega)) (Sub.cons rfl (Sub.cons rfl (Sub.cons rfl (Sub.cons rfl Sub.nil))))))))))))))) ((SubK.consI rfl ImpK.refl) ((SubK.consI rfl ImpK.refl) SubK.nil)) (SupG.val (SupG.val (SupG.val (SupG.val (SupG.val (SupG.own rfl (SupG.val (SupG.own rfl (SupG.val (SupG.val (SupG.val (SupG.val (SupG.val (SupG.val (SupG.val SupG.nil))))))))))))))) (SupH.cons rfl (supJL rfl) (SupH.cons rfl (supJL rfl) SupH.nil)) (lkOk rfl)
   ·
    refine xd0 (xb5 (xb5 (xd5 (x4 (x6 ?_)))))
    have hje : j = (bds [a]).length := by omega
    subst hje
    rw [List.take_length] at hc
    subst hc
    refine x8 ?_
    refine R1 x3 rfl (R1 x3 rfl (R2 (xa0 (c_HasM (cvT a) e s1.1 (by omega)) fi38 rfl) rfl rfl (R1 x3 rfl (R2 (d_neqB Tryz.underlying4) rfl rfl (R1 x3 rfl (RGon (by rw [s1.2]; simp) rfl x3 rfl ⟨rfl, trivial⟩ trivial trivial (RGon (by rw [s1.2]; simp) rfl x3 rfl ⟨rfl, trivial⟩ trivial trivial ?_)))))))
    refine RGon (by rw [s1.2]; simp) rfl x3 rfl ⟨rfl, trivial⟩ trivial trivial (RGon (by rw [s1.2]; simp) rfl (d_neqB Tryz.underlying4) rfl ⟨rfl, rfl, trivial⟩ trivial trivial (RGon (by rw [s1.2]; simp) rfl x3 rfl ⟨rfl, trivial⟩ trivial trivial ?_))
    refine RGcase (t := 131) rfl (fun h233_2 => ?_) (fun h233_2 => ?_)
    ·
     refine RGoff h233_2 rfl rfl (RGoff h233_2 rfl rfl (RGoff h233_2 rfl rfl (RGoff h233_2 rfl rfl (RGon (by rw [s1.2]; simp) rfl (xb2 h233_2) rfl ⟨rfl, rfl, trivial⟩ trivial trivial (RGon (by rw [s1.2]; simp) rfl (d_neqB Tryz.underlying4) rfl ⟨rfl, rfl, trivial⟩ trivial trivial (R2 (xa7 (by rw [s1.2]; simp)) rfl rfl (x7 (by kernel_rfl) ?_)))))))
     refine x4 (C_bF rfl (by first | exact chg_some hci (by assumption) | exact chg_same hci (by assumption)) (xa2 (xc0 (x4 ?_))))
     refine x8 ?_
     refine R2 (xb9 (wr64 (by omega) (by omega))) rfl rfl (R1 x3 rfl (x7 (by kernel_rfl) ?_))
     exact xb6 (i + 1) ⟨(by omega), (by omega)⟩ (Sub.int rfl (by first | omega | rfl | (dsimp only; omega)) (Sub.int rfl (by first | omega | rfl | (dsimp only; omega)) (Sub.cons rfl (Sub.cons rfl (Sub.cons rfl (Sub.cons rfl Sub.nil)))))) SubK.nil (SupG.val (SupG.val (SupG.val (SupG.val (SupG.val (SupG.val SupG.nil)))))) SupH.nil (lkOk rfl)
    ·
     refine RGon h233_2 rfl (xa8 (0) ti37 rfl rfl) rfl ⟨rfl, trivial⟩ ⟨rfl, trivial⟩ trivial (RGon h233_2 rfl (xa8 (0) ti37 rfl rfl) rfl ⟨rfl, trivial⟩ ⟨rfl, trivial⟩ trivial (RGon h233_2 rfl (xa0 (c_SameValue _ _) fi18 rfl) rfl ⟨rfl, rfl, trivial⟩ trivial trivial (RGon h233_2 rfl xe2 rfl ⟨rfl, trivial⟩ trivial trivial (RGon (by rw [s1.2]; simp) rfl (xa7 h233_2) rfl ⟨rfl, rfl, trivial⟩ trivial trivial (RGon (by rw [s1.2]; simp) rfl (d_neqB Tryz.underlying4) rfl ⟨rfl, rfl, trivial⟩ trivial trivial (R2 (xa7 (by rw [s1.2]; simp)) rfl rfl (x7 (by kernel_rfl) ?_)))))))
     refine x4 (C_bF rfl (by first | exact chg_some hci (by assumption) | exact chg_same hci (by assumption)) (xa2 (xc0 (x4 ?_))))
     refine x8 ?_
     refine R2 (xb9 (wr64 (by omega) (by omega))) rfl rfl (R1 x3 rfl (x7 (by kernel_rfl) ?_))
     exact xb6 (i + 1) ⟨(by omega), (by omega)⟩ (Sub.int rfl (by first | omega | rfl | (dsimp only; omega)) (Sub.int rfl (by first | omega | rfl | (dsimp only; omega)) (Sub.cons rfl (Sub.cons rfl (Sub.cons rfl (Sub.cons rfl Sub.nil)))))) SubK.nil (SupG.val (SupG.val (SupG.val (SupG.val (SupG.val (SupG.val SupG.nil)))))) SupH.nil (lkOk rfl)
  ·
   refine xd0 (xb5 (xb5 (xd5 (x4 (x6 ?_)))))
   refine x8 ?_
   refine R1 x5 rfl (x7 (by kernel_rfl) (x4 (xa1 ?_)))
   exact xa6 Plain.mk' rfl rfl Le.refl
end An.S
