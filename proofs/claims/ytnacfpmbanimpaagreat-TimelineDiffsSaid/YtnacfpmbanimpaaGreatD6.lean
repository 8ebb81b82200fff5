/- Part 6 of a proof: P3, O5, P4, P6, S17, S18, Sv2, P9, LibZh, LibZi, P12, P13. -/
import Derived.Test.YtnacfpmbanimpaaGreatChecked
import Derived.Test.YtnacfpmbanimpaaGreatD5
/- Law 5: timelines are built; days and values without the program. -/
namespace An.S
open Go Go.Proofs An
set_option maxHeartbeats 2000000
theorem ti47 : TyI Tryz.prog 47 2 true := ⟨by kernel_rfl, by kernel_rfl⟩
theorem fi18 : FnI Tryz.prog 18 := ⟨_, Tryz.func18, by kernel_rfl, rfl⟩
theorem fi29 : FnI Tryz.prog 29 := ⟨_, Tryz.func29, by kernel_rfl, rfl⟩
theorem fi40 : FnI Tryz.prog 40 := ⟨_, Tryz.func40, by kernel_rfl, rfl⟩
theorem fi56 : FnI Tryz.prog 56 := ⟨_, Tryz.func56, by kernel_rfl, rfl⟩
theorem zr47 : (Tryz.prog.info? 47).bind (·.zero) = some (.agg #[.int .i64 0, .int .i64 0]) ∧ ∀ F w, (tS [⟨1, false, (tE (.int .i64 0))⟩, ⟨1, false, (tE (.int .i64 0))⟩]).p F w (.agg #[.int .i64 0, .int .i64 0]) := ⟨by kernel_rfl, fun _ _ => ⟨_, rfl, rfl, ⟨fun _ => rfl, rfl⟩, ⟨fun _ => rfl, rfl⟩, trivial⟩⟩
theorem zr113 : (Tryz.prog.info? 113).bind (·.zero) = some (.agg #[.int .i64 0, .int .i64 0, .int .i64 0, .int .i64 0, .int .i64 0, .int .i64 0, .int .i64 0, .int .i64 0, .int .i64 0, .int .i64 0, .int .i64 0, .int .i64 0, .int .i64 0, .int .i64 0, .int .i64 0, .int .i64 0]) ∧ ∀ F w, (tS [⟨2, true, (tS [⟨1, false, (tE (.int .i64 0))⟩, ⟨1, false, (tE (.int .i64 0))⟩])⟩, ⟨2, true, (tS [⟨1, false, (tE (.int .i64 0))⟩, ⟨1, false, (tE (.int .i64 0))⟩])⟩, ⟨2, true, (tS [⟨1, false, (tE (.int .i64 0))⟩, ⟨1, false, (tE (.int .i64 0))⟩])⟩, ⟨2, true, (tS [⟨1, false, (tE (.int .i64 0))⟩, ⟨1, false, (tE (.int .i64 0))⟩])⟩, ⟨2, true, (tS [⟨1, false, (tE (.int .i64 0))⟩, ⟨1, false, (tE (.int .i64 0))⟩])⟩, ⟨2, true, (tS [⟨1, false, (tE (.int .i64 0))⟩, ⟨1, false, (tE (.int .i64 0))⟩])⟩, ⟨2, true, (tS [⟨1, false, (tE (.int .i64 0))⟩, ⟨1, false, (tE (.int .i64 0))⟩])⟩, ⟨2, true, (tS [⟨1, false, (tE (.int .i64 0))⟩, ⟨1, false, (tE (.int .i64 0))⟩])⟩]).p F w (.agg #[.int .i64 0, .int .i64 0, .int .i64 0, .int .i64 0, .int .i64 0, .int .i64 0, .int .i64 0, .int .i64 0, .int .i64 0, .int .i64 0, .int .i64 0, .int .i64 0, .int .i64 0, .int .i64 0, .int .i64 0, .int .i64 0]) := ⟨by kernel_rfl, fun _ _ => ⟨_, rfl, rfl, ⟨fun h => Bool.noConfusion h, ⟨_, rfl, rfl, ⟨fun _ => rfl, rfl⟩, ⟨fun _ => rfl, rfl⟩, trivial⟩⟩, ⟨fun h => Bool.noConfusion h, ⟨_, rfl, rfl, ⟨fun _ => rfl, rfl⟩, ⟨fun _ => rfl, rfl⟩, trivial⟩⟩, ⟨fun h => Bool.noConfusion h, ⟨_, rfl, rfl, ⟨fun _ => rfl, rfl⟩, ⟨fun _ => rfl, rfl⟩, trivial⟩⟩, ⟨fun h => Bool.noConfusion h, ⟨_, rfl, rfl, ⟨fun _ => rfl, rfl⟩, ⟨fun _ => rfl, rfl⟩, trivial⟩⟩, ⟨fun h => Bool.noConfusion h, ⟨_, rfl, rfl, ⟨fun _ => rfl, rfl⟩, ⟨fun _ => rfl, rfl⟩, trivial⟩⟩, ⟨fun h => Bool.noConfusion h, ⟨_, rfl, rfl, ⟨fun _ => rfl, rfl⟩, ⟨fun _ => rfl, rfl⟩, trivial⟩⟩, ⟨fun h => Bool.noConfusion h, ⟨_, rfl, rfl, ⟨fun _ => rfl, rfl⟩, ⟨fun _ => rfl, rfl⟩, trivial⟩⟩, ⟨fun h => Bool.noConfusion h, ⟨_, rfl, rfl, ⟨fun _ => rfl, rfl⟩, ⟨fun _ => rfl, rfl⟩, trivial⟩⟩, trivial⟩⟩
theorem bu47 : BuI Tryz.prog 47 (fun i => some (i * 1, 1)) (.agg #[.int .i64 0, .int .i64 0]) := BuI.array Tryz.underlying47 ti3 zr47.1
theorem bu113 : BuI Tryz.prog 113 (fun i => some (i * 2, 2)) (.agg #[.int .i64 0, .int .i64 0, .int .i64 0, .int .i64 0, .int .i64 0, .int .i64 0, .int .i64 0, .int .i64 0, .int .i64 0, .int .i64 0, .int .i64 0, .int .i64 0, .int .i64 0, .int .i64 0, .int .i64 0, .int .i64 0]) := BuI.array Tryz.underlying113 ti47 zr113.1
theorem ar47 : ArI Tryz.prog 47 3 2 1 false := ⟨by kernel_rfl, ti3⟩
theorem c_SameStep (x y : Tst) :
  Ct Tryz.prog 56 [tTs x, tTs y] (tB (decide (x = y))) := by
 refine Ct.intro Tryz.func56 rfl Tryz.ntmps56 rfl ?_
 intro w F
 refine x6 ?_
 refine x8 ?_
 refine RE (xe1 (k := 2) ti56 rfl) ⟨rfl, trivial⟩ trivial ⟨rfl, trivial⟩ (RE (xe1 (k := 3) ti56 rfl) ⟨rfl, trivial⟩ trivial ⟨rfl, trivial⟩ (R1 x5 rfl (x7 (by kernel_rfl) (x3 (x6 ?_)))))
 refine x8 ?_
 refine R1 (x9 fo56_0 rfl) rfl (xa3 (0) ti3 rfl rfl rfl (At.g 0 rfl rfl) rfl (R1 (x9 fo56_0 rfl) rfl (xa3 (0) ti3 rfl rfl rfl (At.g 0 rfl rfl) rfl (R2 xe9 rfl rfl (R1 x4 rfl ?_)))))
 refine RGcaseD (t := 10) rfl (fun h196 => ?_) (fun h196 => ?_)
 ·
  refine RGon (decide_eq_true h196) rfl (x9 fo56_1 rfl) rfl ⟨rfl, trivial⟩ trivial trivial (xb3 (decide_eq_true h196) rfl rfl (0) ti3 rfl rfl rfl (At.g 1 rfl rfl) rfl (RGon (decide_eq_true h196) rfl (x9 fo56_1 rfl) rfl ⟨rfl, trivial⟩ trivial trivial (xb3 (decide_eq_true h196) rfl rfl (0) ti3 rfl rfl rfl (At.g 1 rfl rfl) rfl (RGon (decide_eq_true h196) rfl xe9 rfl ⟨rfl, rfl, trivial⟩ trivial trivial (R2 (xb2 (decide_eq_true h196)) rfl rfl (R1 x4 rfl ?_))))))
  refine RGcaseD (t := 17) rfl (fun h196_2 => ?_) (fun h196_2 => ?_)
  ·
   refine RGon (decide_eq_true h196_2) rfl (x9 fo56_2 rfl) rfl ⟨rfl, trivial⟩ trivial trivial (xb3 (decide_eq_true h196_2) rfl rfl (0) ti37 rfl rfl rfl (At.g 2 rfl rfl) rfl (RGon (decide_eq_true h196_2) rfl (x9 fo56_2 rfl) rfl ⟨rfl, trivial⟩ trivial trivial (xb3 (decide_eq_true h196_2) rfl rfl (0) ti37 rfl rfl rfl (At.g 2 rfl rfl) rfl (RGon (decide_eq_true h196_2) rfl (xa0 (c_SameValue _ _) fi18 rfl) rfl ⟨rfl, rfl, trivial⟩ trivial trivial (R2 (xb2 (decide_eq_true h196_2)) rfl rfl (R1 x5 rfl (x7 (by kernel_rfl) ?_)))))))
   refine x3 (xa1 ?_)
   exact xa7 Plain.mk' rfl rfl (Le.bool (by obtain ⟨a, b, e⟩ := x; obtain ⟨c, d, f⟩ := y; simp only [Tst.mk.injEq] at *; simp_all <;> omega))
  ·
   refine RGoff (decide_eq_false h196_2) rfl rfl (RGoff (decide_eq_false h196_2) rfl rfl (RGoff (decide_eq_false h196_2) rfl rfl (RGoff (decide_eq_false h196_2) rfl rfl (RGoff (decide_eq_false h196_2) rfl rfl (R2 (xa6 (decide_eq_false h196_2)) rfl rfl (R1 x5 rfl (x7 (by kernel_rfl) ?_)))))))
   refine x3 (xa1 ?_)
   exact xa7 Plain.mk' rfl rfl (Le.bool (by obtain ⟨a, b, e⟩ := x; obtain ⟨c, d, f⟩ := y; simp only [Tst.mk.injEq] at *; simp_all <;> omega))
 ·
  refine RGoff (decide_eq_false h196) rfl rfl (RGoff (decide_eq_false h196) rfl rfl (RGoff (decide_eq_false h196) rfl rfl (RGoff (decide_eq_false h196) rfl rfl (RGoff (decide_eq_false h196) rfl rfl (R2 (xa6 (decide_eq_false h196)) rfl rfl (R1 x4 rfl (RGoff0 rfl rfl ?_)))))))
  refine RGoff0 rfl rfl (RGoff0 rfl rfl (RGoff0 rfl rfl (RGoff0 rfl rfl (R2 (xa6 rfl) rfl rfl (R1 x5 rfl (x7 (by kernel_rfl) (x3 ?_)))))))
  refine xa1 ?_
  exact xa7 Plain.mk' rfl rfl (Le.bool (by obtain ⟨a, b, e⟩ := x; obtain ⟨c, d, f⟩ := y; simp only [Tst.mk.injEq] at *; simp_all <;> omega))
theorem take_succ_getT (l : List Tst) (k : Nat) (hk : k < l.length) : l.take (k + 1) = l.take k ++ [l.getD k tst0] := by
  rw [List.take_succ_eq_append_getElem hk, List.getD_eq_getElem?_getD, List.getElem?_eq_getElem hk]; rfl
theorem take_succ_getI (l : List Int) (k : Nat) (hk : k < l.length) : l.take (k + 1) = l.take k ++ [l.getD k 0] := by
  rw [List.take_succ_eq_append_getElem hk, List.getD_eq_getElem?_getD, List.getElem?_eq_getElem hk]; rfl
theorem c_SameSteps (xs ys : List Tst) :
  Ct Tryz.prog 22 [tL 8 true tTs xs, tL 8 true tTs ys] (tB (decide (xs = ys))) := by
 refine Ct.intro Tryz.func22 rfl Tryz.ntmps22 rfl ?_
 intro w F
 refine C_len (s := 0) rfl (fun hl0 => ?_)
 refine x6 ?_
 refine x8 ?_
 refine R1 x5 rfl (x7 (by kernel_rfl) (x3 (x6 (x6 ?_))))
 refine x8 ?_
 refine R1 x4 rfl (R1 (xc4 Tryz.underlying24) rfl (R1 x4 rfl (R1 (xc4 Tryz.underlying24) rfl (R2 d_neq rfl rfl (x7 (by kernel_rfl) (x3 ?_))))))
 refine xc2 rfl (fun h206 => ?_) (fun h206 => ?_)
 ·
  refine x6 ?_
  refine x8 ?_
  refine R1 x5 rfl (x7 (by kernel_rfl) (x3 (xa1 (xa5 ?_))))
  exact xa7 Plain.mk' rfl rfl (Le.bool (decide_eq_false (fun h => by rw [h] at h206; omega)).symm)
 ·
  have hll : xs.length = ys.length := by omega
  refine xa2 (x3 (x6 (x6 ?_)))
  refine x8 ?_
  refine R1 x5 rfl (x7 (by kernel_rfl) (x3 (xa8 ?_)))
  refine xd6 (fun (i : Nat) => i ≤ xs.length ∧ xs.take i = ys.take i) (fun (i : Nat) => upd (upd (upd (fun _ => none) 0 (some (.val (tL 8 true tTs xs)))) 1 (some (.val (tL 8 true tTs ys)))) 5 (some (.val (tI i)))) (fun (i : Nat) => fun _ => none) (nm []) (fun (i : Nat) => xs.length - i) (0) ⟨Nat.zero_le _, rfl⟩ (Sub.int rfl (by first | omega | rfl | (dsimp only; omega)) (Sub.cons rfl (Sub.cons rfl Sub.nil))) SubK.nil (SupG.val (SupG.val (SupG.val SupG.nil))) SupH.nil (lkOk rfl) ?_
  intro i hI
  obtain ⟨hi, ht⟩ := hI
  refine x6 (x6 ?_)
  refine x8 ?_
  refine R1 x4 rfl (R1 x4 rfl (R1 (xc4 Tryz.underlying24) rfl (R2 xd5 rfl rfl (x7 (by kernel_rfl) (x3 ?_)))))
  refine xc2 rfl (fun h209 => ?_) (fun h209 => ?_)
  ·
   refine xa2 (x3 (x6 (xa8 (x6 ?_))))
   refine xd7 mixed ?_
   refine R1 x4 rfl (R1 x4 rfl (R2 (xb5 sl24 i (by omega) (gD (d := tst0) (by omega))) rfl rfl (R1 (xb8 ti56) rfl (R1 x4 rfl (R1 x4 rfl (R2 (xb5 sl24 i (by omega) (gD (d := tst0) (by omega))) rfl rfl (R1 (xb8 ti56) rfl ?_)))))))
   refine R2 (xa0 (c_SameStep _ _) fi56 rfl) rfl rfl (R1 xe2 rfl (xd2 (by kernel_rfl) (x3 ?_)))
   refine C_ifn rfl (fun h210 => ?_) (fun h210 => ?_)
   ·
    refine x6 ?_
    refine x8 ?_
    refine R1 x5 rfl (x7 (by kernel_rfl) (x3 (xa1 (xc6 (xa5 (xa5 (xc6 ?_)))))))
    refine xa5 ?_
    exact xa7 Plain.mk' rfl rfl (Le.bool (decide_eq_false (fun h => by rw [h] at h210; exact (h210 rfl))).symm)
   ·
    refine xa2 (xc0 (x3 ?_))
    refine x8 ?_
    refine R1 x4 rfl (R2 (xb7 (wr64 (by omega) (by omega))) rfl rfl (R1 x5 rfl (x7 (by kernel_rfl) ?_)))
    exact xc5 (i + 1) ⟨⟨by omega, by rw [take_succ_getT xs i (by omega), take_succ_getT ys i (by omega), ht, show xs.getD i tst0 = ys.getD i tst0 from h210]⟩, (by omega)⟩ (Sub.int rfl (by first | omega | rfl | (dsimp only; omega)) (Sub.cons rfl (Sub.cons rfl Sub.nil))) SubK.nil (SupG.val (SupG.val (SupG.val SupG.nil))) SupH.nil (lkOk rfl)
  ·
   refine xd0 (xb6 (xb6 (xd4 (x3 (x6 ?_)))))
   refine x8 ?_
   refine R1 x5 rfl (x7 (by kernel_rfl) (x3 (xa1 ?_)))
   exact xa7 Plain.mk' rfl rfl (Le.bool (decide_eq_true (by rw [show i = xs.length by omega, List.take_length, hll, List.take_length] at ht; exact ht)).symm)
theorem c_SameInts (xs ys : List Int) :
  Ct Tryz.prog 45 [tL 1 false tI xs, tL 1 false tI ys] (tB (decide (xs = ys))) := by
 refine Ct.intro Tryz.func45 rfl Tryz.ntmps45 rfl ?_
 intro w F
 refine C_len (s := 0) rfl (fun hl0 => ?_)
 refine x6 ?_
 refine x8 ?_
 refine R1 x5 rfl (x7 (by kernel_rfl) (x3 (x6 (x6 ?_))))
 refine x8 ?_
 refine R1 x4 rfl (R1 (xc4 Tryz.underlying30) rfl (R1 x4 rfl (R1 (xc4 Tryz.underlying30) rfl (R2 d_neq rfl rfl (x7 (by kernel_rfl) (x3 ?_))))))
 refine xc2 rfl (fun h27 => ?_) (fun h27 => ?_)
 ·
  refine x6 ?_
  refine x8 ?_
  refine R1 x5 rfl (x7 (by kernel_rfl) (x3 (xa1 (xa5 ?_))))
  exact xa7 Plain.mk' rfl rfl (Le.bool (decide_eq_false (fun h => by rw [h] at h27; omega)).symm)
 ·
  have hll : xs.length = ys.length := by omega
  refine xa2 (x3 (x6 (x6 ?_)))
  refine x8 ?_
  refine R1 x5 rfl (x7 (by kernel_rfl) (x3 (xa8 ?_)))
  refine xd6 (fun (i : Nat) => i ≤ xs.length ∧ xs.take i = ys.take i) (fun (i : Nat) => upd (upd (upd (fun _ => none) 0 (some (.val (tL 1 false tI xs)))) 1 (some (.val (tL 1 false tI ys)))) 5 (some (.val (tI i)))) (fun (i : Nat) => fun _ => none) (nm []) (fun (i : Nat) => xs.length - i) (0) ⟨Nat.zero_le _, rfl⟩ (Sub.int rfl (by first | omega | rfl | (dsimp only; omega)) (Sub.cons rfl (Sub.cons rfl Sub.nil))) SubK.nil (SupG.val (SupG.val (SupG.val SupG.nil))) SupH.nil (lkOk rfl) ?_
  intro i hI
  obtain ⟨hi, ht⟩ := hI
  refine x6 (x6 ?_)
  refine x8 ?_
  refine R1 x4 rfl (R1 x4 rfl (R1 (xc4 Tryz.underlying30) rfl (R2 xd5 rfl rfl (x7 (by kernel_rfl) (x3 ?_)))))
  refine xc2 rfl (fun h30 => ?_) (fun h30 => ?_)
  ·
   refine xa2 (x3 (x6 (xa8 (x6 ?_))))
   refine xd7 mixed ?_
   refine R1 x4 rfl (R1 x4 rfl (R2 (xb5 sl30 i (by omega) (gD (d := 0) (by omega))) rfl rfl (R1 (xb8 ti3) rfl (R1 x4 rfl (R1 x4 rfl (R2 (xb5 sl30 i (by omega) (gD (d := 0) (by omega))) rfl rfl (R1 (xb8 ti3) rfl ?_)))))))
   refine R2 d_neq rfl rfl (xd2 (by kernel_rfl) (x3 ?_))
   refine xc2 rfl (fun h31 => ?_) (fun h31 => ?_)
   ·
    refine x6 ?_
    refine x8 ?_
    refine R1 x5 rfl (x7 (by kernel_rfl) (x3 (xa1 (xc6 (xa5 (xa5 (xc6 ?_)))))))
    refine xa5 ?_
    exact xa7 Plain.mk' rfl rfl (Le.bool (decide_eq_false (fun h => by rw [h] at h31; exact (h31 rfl))).symm)
   ·
    refine xa2 (xc0 (x3 ?_))
    refine x8 ?_
    refine R1 x4 rfl (R2 (xb7 (wr64 (by omega) (by omega))) rfl rfl (R1 x5 rfl (x7 (by kernel_rfl) ?_)))
    exact xc5 (i + 1) ⟨⟨by omega, by rw [take_succ_getI xs i (by omega), take_succ_getI ys i (by omega), ht, show xs.getD i 0 = ys.getD i 0 from (Decidable.of_not_not h31)]⟩, (by omega)⟩ (Sub.int rfl (by first | omega | rfl | (dsimp only; omega)) (Sub.cons rfl (Sub.cons rfl Sub.nil))) SubK.nil (SupG.val (SupG.val (SupG.val SupG.nil))) SupH.nil (lkOk rfl)
  ·
   refine xd0 (xb6 (xb6 (xd4 (x3 (x6 ?_)))))
   refine x8 ?_
   refine R1 x5 rfl (x7 (by kernel_rfl) (x3 (xa1 ?_)))
   exact xa7 Plain.mk' rfl rfl (Le.bool (decide_eq_true (by rw [show i = xs.length by omega, List.take_length, hll, List.take_length] at ht; exact ht)).symm)
theorem xh3 (a b n d : Int) (h1 : -9223372036854775808 ≤ n) (h2 : n ≤ 9223372036854775807) (h3 : -9223372036854775808 ≤ d) (h4 : d ≤ 9223372036854775807) :
  Ct Tryz.prog 44 [tI a, tI b, tI n, tI d] (tTs ⟨a, b, ⟨2, fr (kfr n d), 0⟩⟩) := by
 refine Ct.intro Tryz.func44 rfl Tryz.ntmps44 rfl ?_
 intro w F
 refine x6 ?_
 refine x8 ?_
 refine RE (xc1 (k := 8) (n := 8) (agg := true) zr56.1 zr56.2 rfl) trivial trivial ⟨rfl, trivial⟩ (x7 (by kernel_rfl) (x3 (x6 ?_)))
 refine x8 ?_
 refine R1 x4 rfl (R1 x4 rfl (R1 x4 rfl (R1 x4 rfl (R2 (xa0 (c_Num n d h1 h2 h3 h4) fi29 rfl) rfl rfl (R3 (xc8 (r := tS [⟨1, false, tI a⟩, ⟨1, false, tI b⟩, ⟨6, true, tVa ⟨2, fr (kfr n d), 0⟩⟩]) (ts := [(0, tI a), (1, tI b), (2, tVa ⟨2, fr (kfr n d), 0⟩)]) bu56 zr56.2 ⟨_, rfl⟩ rfl ⟨_, _, _, _, rfl, Up.f (fs := [⟨1, false, (tE (.int .i64 0))⟩, ⟨1, false, (tE (.int .i64 0))⟩, ⟨6, true, (tS [⟨1, false, (tE (.int .u8 0))⟩, ⟨4, true, (tS [⟨2, true, (tS [⟨1, false, (tE (.bool false))⟩, ⟨1, false, (tLm [])⟩])⟩, ⟨2, true, (tS [⟨1, false, (tE (.bool false))⟩, ⟨1, false, (tLm [])⟩])⟩])⟩, ⟨1, false, (tE (.int .i64 0))⟩])⟩]) (f := ⟨1, false, (tE (.int .i64 0))⟩) (fs' := [⟨1, false, tI a⟩, ⟨1, false, (tE (.int .i64 0))⟩, ⟨6, true, (tS [⟨1, false, (tE (.int .u8 0))⟩, ⟨4, true, (tS [⟨2, true, (tS [⟨1, false, (tE (.bool false))⟩, ⟨1, false, (tLm [])⟩])⟩, ⟨2, true, (tS [⟨1, false, (tE (.bool false))⟩, ⟨1, false, (tLm [])⟩])⟩])⟩, ⟨1, false, (tE (.int .i64 0))⟩])⟩]) 0 rfl rfl rfl, inferInstance, ⟨_, _, _, _, rfl, Up.f (fs := [⟨1, false, tI a⟩, ⟨1, false, (tE (.int .i64 0))⟩, ⟨6, true, (tS [⟨1, false, (tE (.int .u8 0))⟩, ⟨4, true, (tS [⟨2, true, (tS [⟨1, false, (tE (.bool false))⟩, ⟨1, false, (tLm [])⟩])⟩, ⟨2, true, (tS [⟨1, false, (tE (.bool false))⟩, ⟨1, false, (tLm [])⟩])⟩])⟩, ⟨1, false, (tE (.int .i64 0))⟩])⟩]) (f := ⟨1, false, (tE (.int .i64 0))⟩) (fs' := [⟨1, false, tI a⟩, ⟨1, false, tI b⟩, ⟨6, true, (tS [⟨1, false, (tE (.int .u8 0))⟩, ⟨4, true, (tS [⟨2, true, (tS [⟨1, false, (tE (.bool false))⟩, ⟨1, false, (tLm [])⟩])⟩, ⟨2, true, (tS [⟨1, false, (tE (.bool false))⟩, ⟨1, false, (tLm [])⟩])⟩])⟩, ⟨1, false, (tE (.int .i64 0))⟩])⟩]) 1 rfl rfl rfl, inferInstance, ⟨_, _, _, _, rfl, Up.f (fs := [⟨1, false, tI a⟩, ⟨1, false, tI b⟩, ⟨6, true, (tS [⟨1, false, (tE (.int .u8 0))⟩, ⟨4, true, (tS [⟨2, true, (tS [⟨1, false, (tE (.bool false))⟩, ⟨1, false, (tLm [])⟩])⟩, ⟨2, true, (tS [⟨1, false, (tE (.bool false))⟩, ⟨1, false, (tLm [])⟩])⟩])⟩, ⟨1, false, (tE (.int .i64 0))⟩])⟩]) (f := ⟨6, true, (tS [⟨1, false, (tE (.int .u8 0))⟩, ⟨4, true, (tS [⟨2, true, (tS [⟨1, false, (tE (.bool false))⟩, ⟨1, false, (tLm [])⟩])⟩, ⟨2, true, (tS [⟨1, false, (tE (.bool false))⟩, ⟨1, false, (tLm [])⟩])⟩])⟩, ⟨1, false, (tE (.int .i64 0))⟩])⟩) (fs' := [⟨1, false, tI a⟩, ⟨1, false, tI b⟩, ⟨6, true, tVa ⟨2, fr (kfr n d), 0⟩⟩]) 2 rfl rfl rfl, inferInstance, Le.refl⟩⟩⟩) rfl rfl rfl (RE (xa4 (es := 8) (agg := true) (0) ti56 rfl rfl rfl) ⟨rfl, rfl, trivial⟩ ⟨rfl, trivial⟩ trivial (x7 (by kernel_rfl) ?_)))))))
 refine x3 (xa1 ?_)
 exact xg7 Plain.mk' rfl ⟨_, _, _, _, _, rfl, rfl, ti56, Le.refl⟩
theorem c_steps (l : List Tst) :
  Ct Tryz.prog 43 [tL 8 true tTs l] (tL 8 true tTs l) := by
 refine Ct.intro Tryz.func43 rfl Tryz.ntmps43 rfl ?_
 intro w F
 refine x6 ?_
 refine x8 ?_
 refine R1 x5 rfl (x7 (by kernel_rfl) (x3 (x6 ?_)))
 refine x8 ?_
 refine R1 x4 rfl (R1 x5 rfl (x7 (by kernel_rfl) (x3 (xa1 ?_))))
 exact xa7 Plain.mk' rfl rfl Le.refl
abbrev tP2 (p : Int × Int) : Ty := tS [⟨1, false, tI p.1⟩, ⟨1, false, tI p.2⟩]
def plP : List (Int × Int) := [(0, 1), (1, 1), (1, 2), (-3, 4), (5, 3), (65537, 7), (-1, 1), (1099511627776, 1)]
def plQ (n : Nat) : Int × Int := plP.getD (n % 8) (0, 1)
def plV (n : Nat) : Va := ⟨2, fr (kfr (plQ n).1 (plQ n).2), 0⟩
theorem plQ_bd (n : Nat) : (-9223372036854775808 ≤ (plQ n).1 ∧ (plQ n).1 ≤ 9223372036854775807) ∧ -9223372036854775808 ≤ (plQ n).2 ∧ (plQ n).2 ≤ 9223372036854775807 := by
  have key : ∀ m : Fin 8, (-9223372036854775808 ≤ (plP.getD m.val (0, 1)).1 ∧ (plP.getD m.val (0, 1)).1 ≤ 9223372036854775807) ∧ -9223372036854775808 ≤ (plP.getD m.val (0, 1)).2 ∧ (plP.getD m.val (0, 1)).2 ≤ 9223372036854775807 := by decide
  exact key ⟨n % 8, Nat.mod_lt _ (by decide)⟩
theorem c_Pool (n : Nat) (hn : n < 65536) :
  Ct Tryz.prog 40 [tE (.int .u16 (n : Int))] (tVa (plV n)) := by
 obtain ⟨⟨q1, q2⟩, q3, q4⟩ := plQ_bd n
 refine Ct.intro Tryz.func40 rfl Tryz.ntmps40 rfl ?_
 intro w F
 refine x6 ?_
 refine x8 ?_
 refine RE (xc1 (k := 2) (n := 6) (agg := true) zr37.1 zr37.2 rfl) trivial trivial ⟨rfl, trivial⟩ (x7 (by kernel_rfl) (x3 (x6 ?_)))
 refine x8 ?_
 refine R2 (xc8 (r := tS [⟨1, false, tI (0)⟩, ⟨1, false, tI (1)⟩]) (ts := [(0, tI (0)), (1, tI (1))]) bu47 zr47.2 ⟨_, rfl⟩ rfl ⟨_, _, _, _, rfl, Up.f (fs := [⟨1, false, (tE (.int .i64 0))⟩, ⟨1, false, (tE (.int .i64 0))⟩]) (f := ⟨1, false, (tE (.int .i64 0))⟩) (fs' := [⟨1, false, tI (0)⟩, ⟨1, false, (tE (.int .i64 0))⟩]) 0 rfl rfl rfl, inferInstance, ⟨_, _, _, _, rfl, Up.f (fs := [⟨1, false, tI (0)⟩, ⟨1, false, (tE (.int .i64 0))⟩]) (f := ⟨1, false, (tE (.int .i64 0))⟩) (fs' := [⟨1, false, tI (0)⟩, ⟨1, false, tI (1)⟩]) 1 rfl rfl rfl, inferInstance, Le.refl⟩⟩) rfl rfl (R2 (xc8 (r := tS [⟨1, false, tI (1)⟩, ⟨1, false, tI (1)⟩]) (ts := [(0, tI (1)), (1, tI (1))]) bu47 zr47.2 ⟨_, rfl⟩ rfl ⟨_, _, _, _, rfl, Up.f (fs := [⟨1, false, (tE (.int .i64 0))⟩, ⟨1, false, (tE (.int .i64 0))⟩]) (f := ⟨1, false, (tE (.int .i64 0))⟩) (fs' := [⟨1, false, tI (1)⟩, ⟨1, false, (tE (.int .i64 0))⟩]) 0 rfl rfl rfl, inferInstance, ⟨_, _, _, _, rfl, Up.f (fs := [⟨1, false, tI (1)⟩, ⟨1, false, (tE (.int .i64 0))⟩]) (f := ⟨1, false, (tE (.int .i64 0))⟩) (fs' := [⟨1, false, tI (1)⟩, ⟨1, false, tI (1)⟩]) 1 rfl rfl rfl, inferInstance, Le.refl⟩⟩) rfl rfl (R2 (xc8 (r := tS [⟨1, false, tI (1)⟩, ⟨1, false, tI (2)⟩]) (ts := [(0, tI (1)), (1, tI (2))]) bu47 zr47.2 ⟨_, rfl⟩ rfl ⟨_, _, _, _, rfl, Up.f (fs := [⟨1, false, (tE (.int .i64 0))⟩, ⟨1, false, (tE (.int .i64 0))⟩]) (f := ⟨1, false, (tE (.int .i64 0))⟩) (fs' := [⟨1, false, tI (1)⟩, ⟨1, false, (tE (.int .i64 0))⟩]) 0 rfl rfl rfl, inferInstance, ⟨_, _, _, _, rfl, Up.f (fs := [⟨1, false, tI (1)⟩, ⟨1, false, (tE (.int .i64 0))⟩]) (f := ⟨1, false, (tE (.int .i64 0))⟩) (fs' := [⟨1, false, tI (1)⟩, ⟨1, false, tI (2)⟩]) 1 rfl rfl rfl, inferInstance, Le.refl⟩⟩) rfl rfl (R2 (xc8 (r := tS [⟨1, false, tI (-3)⟩, ⟨1, false, tI (4)⟩]) (ts := [(0, tI (-3)), (1, tI (4))]) bu47 zr47.2 ⟨_, rfl⟩ rfl ⟨_, _, _, _, rfl, Up.f (fs := [⟨1, false, (tE (.int .i64 0))⟩, ⟨1, false, (tE (.int .i64 0))⟩]) (f := ⟨1, false, (tE (.int .i64 0))⟩) (fs' := [⟨1, false, tI (-3)⟩, ⟨1, false, (tE (.int .i64 0))⟩]) 0 rfl rfl rfl, inferInstance, ⟨_, _, _, _, rfl, Up.f (fs := [⟨1, false, tI (-3)⟩, ⟨1, false, (tE (.int .i64 0))⟩]) (f := ⟨1, false, (tE (.int .i64 0))⟩) (fs' := [⟨1, false, tI (-3)⟩, ⟨1, false, tI (4)⟩]) 1 rfl rfl rfl, inferInstance, Le.refl⟩⟩) rfl rfl (R2 (xc8 (r := tS [⟨1, false, tI (5)⟩, ⟨1, false, tI (3)⟩]) (ts := [(0, tI (5)), (1, tI (3))]) bu47 zr47.2 ⟨_, rfl⟩ rfl ⟨_, _, _, _, rfl, Up.f (fs := [⟨1, false, (tE (.int .i64 0))⟩, ⟨1, false, (tE (.int .i64 0))⟩]) (f := ⟨1, false, (tE (.int .i64 0))⟩) (fs' := [⟨1, false, tI (5)⟩, ⟨1, false, (tE (.int .i64 0))⟩]) 0 rfl rfl rfl, inferInstance, ⟨_, _, _, _, rfl, Up.f (fs := [⟨1, false, tI (5)⟩, ⟨1, false, (tE (.int .i64 0))⟩]) (f := ⟨1, false, (tE (.int .i64 0))⟩) (fs' := [⟨1, false, tI (5)⟩, ⟨1, false, tI (3)⟩]) 1 rfl rfl rfl, inferInstance, Le.refl⟩⟩) rfl rfl (R2 (xc8 (r := tS [⟨1, false, tI (65537)⟩, ⟨1, false, tI (7)⟩]) (ts := [(0, tI (65537)), (1, tI (7))]) bu47 zr47.2 ⟨_, rfl⟩ rfl ⟨_, _, _, _, rfl, Up.f (fs := [⟨1, false, (tE (.int .i64 0))⟩, ⟨1, false, (tE (.int .i64 0))⟩]) (f := ⟨1, false, (tE (.int .i64 0))⟩) (fs' := [⟨1, false, tI (65537)⟩, ⟨1, false, (tE (.int .i64 0))⟩]) 0 rfl rfl rfl, inferInstance, ⟨_, _, _, _, rfl, Up.f (fs := [⟨1, false, tI (65537)⟩, ⟨1, false, (tE (.int .i64 0))⟩]) (f := ⟨1, false, (tE (.int .i64 0))⟩) (fs' := [⟨1, false, tI (65537)⟩, ⟨1, false, tI (7)⟩]) 1 rfl rfl rfl, inferInstance, Le.refl⟩⟩) rfl rfl (R2 (xc8 (r := tS [⟨1, false, tI (-1)⟩, ⟨1, false, tI (1)⟩]) (ts := [(0, tI (-1)), (1, tI (1))]) bu47 zr47.2 ⟨_, rfl⟩ rfl ⟨_, _, _, _, rfl, Up.f (fs := [⟨1, false, (tE (.int .i64 0))⟩, ⟨1, false, (tE (.int .i64 0))⟩]) (f := ⟨1, false, (tE (.int .i64 0))⟩) (fs' := [⟨1, false, tI (-1)⟩, ⟨1, false, (tE (.int .i64 0))⟩]) 0 rfl rfl rfl, inferInstance, ⟨_, _, _, _, rfl, Up.f (fs := [⟨1, false, tI (-1)⟩, ⟨1, false, (tE (.int .i64 0))⟩]) (f := ⟨1, false, (tE (.int .i64 0))⟩) (fs' := [⟨1, false, tI (-1)⟩, ⟨1, false, tI (1)⟩]) 1 rfl rfl rfl, inferInstance, Le.refl⟩⟩) rfl rfl (R2 (xc8 (r := tS [⟨1, false, tI (1099511627776)⟩, ⟨1, false, tI (1)⟩]) (ts := [(0, tI (1099511627776)), (1, tI (1))]) bu47 zr47.2 ⟨_, rfl⟩ rfl ⟨_, _, _, _, rfl, Up.f (fs := [⟨1, false, (tE (.int .i64 0))⟩, ⟨1, false, (tE (.int .i64 0))⟩]) (f := ⟨1, false, (tE (.int .i64 0))⟩) (fs' := [⟨1, false, tI (1099511627776)⟩, ⟨1, false, (tE (.int .i64 0))⟩]) 0 rfl rfl rfl, inferInstance, ⟨_, _, _, _, rfl, Up.f (fs := [⟨1, false, tI (1099511627776)⟩, ⟨1, false, (tE (.int .i64 0))⟩]) (f := ⟨1, false, (tE (.int .i64 0))⟩) (fs' := [⟨1, false, tI (1099511627776)⟩, ⟨1, false, tI (1)⟩]) 1 rfl rfl rfl, inferInstance, Le.refl⟩⟩) rfl rfl ?_)))))))
 refine RE (xc8 (r := tS [⟨2, true, tS [⟨1, false, tI (0)⟩, ⟨1, false, tI (1)⟩]⟩, ⟨2, true, tS [⟨1, false, tI (1)⟩, ⟨1, false, tI (1)⟩]⟩, ⟨2, true, tS [⟨1, false, tI (1)⟩, ⟨1, false, tI (2)⟩]⟩, ⟨2, true, tS [⟨1, false, tI (-3)⟩, ⟨1, false, tI (4)⟩]⟩, ⟨2, true, tS [⟨1, false, tI (5)⟩, ⟨1, false, tI (3)⟩]⟩, ⟨2, true, tS [⟨1, false, tI (65537)⟩, ⟨1, false, tI (7)⟩]⟩, ⟨2, true, tS [⟨1, false, tI (-1)⟩, ⟨1, false, tI (1)⟩]⟩, ⟨2, true, tS [⟨1, false, tI (1099511627776)⟩, ⟨1, false, tI (1)⟩]⟩]) (ts := [(0, tS [⟨1, false, tI (0)⟩, ⟨1, false, tI (1)⟩]), (1, tS [⟨1, false, tI (1)⟩, ⟨1, false, tI (1)⟩]), (2, tS [⟨1, false, tI (1)⟩, ⟨1, false, tI (2)⟩]), (3, tS [⟨1, false, tI (-3)⟩, ⟨1, false, tI (4)⟩]), (4, tS [⟨1, false, tI (5)⟩, ⟨1, false, tI (3)⟩]), (5, tS [⟨1, false, tI (65537)⟩, ⟨1, false, tI (7)⟩]), (6, tS [⟨1, false, tI (-1)⟩, ⟨1, false, tI (1)⟩]), (7, tS [⟨1, false, tI (1099511627776)⟩, ⟨1, false, tI (1)⟩])]) bu113 zr113.2 ⟨_, rfl⟩ rfl ⟨_, _, _, _, rfl, Up.f (fs := [⟨2, true, (tS [⟨1, false, (tE (.int .i64 0))⟩, ⟨1, false, (tE (.int .i64 0))⟩])⟩, ⟨2, true, (tS [⟨1, false, (tE (.int .i64 0))⟩, ⟨1, false, (tE (.int .i64 0))⟩])⟩, ⟨2, true, (tS [⟨1, false, (tE (.int .i64 0))⟩, ⟨1, false, (tE (.int .i64 0))⟩])⟩, ⟨2, true, (tS [⟨1, false, (tE (.int .i64 0))⟩, ⟨1, false, (tE (.int .i64 0))⟩])⟩, ⟨2, true, (tS [⟨1, false, (tE (.int .i64 0))⟩, ⟨1, false, (tE (.int .i64 0))⟩])⟩, ⟨2, true, (tS [⟨1, false, (tE (.int .i64 0))⟩, ⟨1, false, (tE (.int .i64 0))⟩])⟩, ⟨2, true, (tS [⟨1, false, (tE (.int .i64 0))⟩, ⟨1, false, (tE (.int .i64 0))⟩])⟩, ⟨2, true, (tS [⟨1, false, (tE (.int .i64 0))⟩, ⟨1, false, (tE (.int .i64 0))⟩])⟩]) (f := ⟨2, true, (tS [⟨1, false, (tE (.int .i64 0))⟩, ⟨1, false, (tE (.int .i64 0))⟩])⟩) (fs' := [⟨2, true, tS [⟨1, false, tI (0)⟩, ⟨1, false, tI (1)⟩]⟩, ⟨2, true, (tS [⟨1, false, (tE (.int .i64 0))⟩, ⟨1, false, (tE (.int .i64 0))⟩])⟩, ⟨2, true, (tS [⟨1, false, (tE (.int .i64 0))⟩, ⟨1, false, (tE (.int .i64 0))⟩])⟩, ⟨2, true, (tS [⟨1, false, (tE (.int .i64 0))⟩, ⟨1, false, (tE (.int .i64 0))⟩])⟩, ⟨2, true, (tS [⟨1, false, (tE (.int .i64 0))⟩, ⟨1, false, (tE (.int .i64 0))⟩])⟩, ⟨2, true, (tS [⟨1, false, (tE (.int .i64 0))⟩, ⟨1, false, (tE (.int .i64 0))⟩])⟩, ⟨2, true, (tS [⟨1, false, (tE (.int .i64 0))⟩, ⟨1, false, (tE (.int .i64 0))⟩])⟩, ⟨2, true, (tS [⟨1, false, (tE (.int .i64 0))⟩, ⟨1, false, (tE (.int .i64 0))⟩])⟩]) 0 rfl rfl rfl, inferInstance, ⟨_, _, _, _, rfl, Up.f (fs := [⟨2, true, tS [⟨1, false, tI (0)⟩, ⟨1, false, tI (1)⟩]⟩, ⟨2, true, (tS [⟨1, false, (tE (.int .i64 0))⟩, ⟨1, false, (tE (.int .i64 0))⟩])⟩, ⟨2, true, (tS [⟨1, false, (tE (.int .i64 0))⟩, ⟨1, false, (tE (.int .i64 0))⟩])⟩, ⟨2, true, (tS [⟨1, false, (tE (.int .i64 0))⟩, ⟨1, false, (tE (.int .i64 0))⟩])⟩, ⟨2, true, (tS [⟨1, false, (tE (.int .i64 0))⟩, ⟨1, false, (tE (.int .i64 0))⟩])⟩, ⟨2, true, (tS [⟨1, false, (tE (.int .i64 0))⟩, ⟨1, false, (tE (.int .i64 0))⟩])⟩, ⟨2, true, (tS [⟨1, false, (tE (.int .i64 0))⟩, ⟨1, false, (tE (.int .i64 0))⟩])⟩, ⟨2, true, (tS [⟨1, false, (tE (.int .i64 0))⟩, ⟨1, false, (tE (.int .i64 0))⟩])⟩]) (f := ⟨2, true, (tS [⟨1, false, (tE (.int .i64 0))⟩, ⟨1, false, (tE (.int .i64 0))⟩])⟩) (fs' := [⟨2, true, tS [⟨1, false, tI (0)⟩, ⟨1, false, tI (1)⟩]⟩, ⟨2, true, tS [⟨1, false, tI (1)⟩, ⟨1, false, tI (1)⟩]⟩, ⟨2, true, (tS [⟨1, false, (tE (.int .i64 0))⟩, ⟨1, false, (tE (.int .i64 0))⟩])⟩, ⟨2, true, (tS [⟨1, false, (tE (.int .i64 0))⟩, ⟨1, false, (tE (.int .i64 0))⟩])⟩, ⟨2, true, (tS [⟨1, false, (tE (.int .i64 0))⟩, ⟨1, false, (tE (.int .i64 0))⟩])⟩, ⟨2, true, (tS [⟨1, false, (tE (.int .i64 0))⟩, ⟨1, false, (tE (.int .i64 0))⟩])⟩, ⟨2, true, (tS [⟨1, false, (tE (.int .i64 0))⟩, ⟨1, false, (tE (.int .i64 0))⟩])⟩, ⟨2, true, (tS [⟨1, false, (tE (.int .i64 0))⟩, ⟨1, false, (tE (.int .i64 0))⟩])⟩]) 1 rfl rfl rfl, inferInstance, ⟨_, _, _, _, rfl, Up.f (fs := [⟨2, true, tS [⟨1, false, tI (0)⟩, ⟨1, false, tI (1)⟩]⟩, ⟨2, true, tS [⟨1, false, tI (1)⟩, ⟨1, false, tI (1)⟩]⟩, ⟨2, true, (tS [⟨1, false, (tE (.int .i64 0))⟩, ⟨1, false, (tE (.int .i64 0))⟩])⟩, ⟨2, true, (tS [⟨1, false, (tE (.int .i64 0))⟩, ⟨1, false, (tE (.int .i64 0))⟩])⟩, ⟨2, true, (tS [⟨1, false, (tE (.int .i64 0))⟩, ⟨1, false, (tE (.int .i64 0))⟩])⟩, ⟨2, true, (tS [⟨1, false, (tE (.int .i64 0))⟩, ⟨1, false, (tE (.int .i64 0))⟩])⟩, ⟨2, true, (tS [⟨1, false, (tE (.int .i64 0))⟩, ⟨1, false, (tE (.int .i64 0))⟩])⟩, ⟨2, true, (tS [⟨1, false, (tE (.int .i64 0))⟩, ⟨1, false, (tE (.int .i64 0))⟩])⟩]) (f := ⟨2, true, (tS [⟨1, false, (tE (.int .i64 0))⟩, ⟨1, false, (tE (.int .i64 0))⟩])⟩) (fs' := [⟨2, true, tS [⟨1, false, tI (0)⟩, ⟨1, false, tI (1)⟩]⟩, ⟨2, true, tS [⟨1, false, tI (1)⟩, ⟨1, false, tI (1)⟩]⟩, ⟨2, true, tS [⟨1, false, tI (1)⟩, ⟨1, false, tI (2)⟩]⟩, ⟨2, true, (tS [⟨1, false, (tE (.int .i64 0))⟩, ⟨1, false, (tE (.int .i64 0))⟩])⟩, ⟨2, true, (tS [⟨1, false, (tE (.int .i64 0))⟩, ⟨1, false, (tE (.int .i64 0))⟩])⟩, ⟨2, true, (tS [⟨1, false, (tE (.int .i64 0))⟩, ⟨1, false, (tE (.int .i64 0))⟩])⟩, ⟨2, true, (tS [⟨1, false, (tE (.int .i64 0))⟩, ⟨1, false, (tE (.int .i64 0))⟩])⟩, ⟨2, true, (tS [⟨1, false, (tE (.int .i64 0))⟩, ⟨1, false, (tE (.int .i64 0))⟩])⟩]) 2 rfl rfl rfl, inferInstance, ⟨_, _, _, _, rfl, Up.f (fs := [⟨2, true, tS [⟨1, false, tI (0)⟩, ⟨1, false, tI (1)⟩]⟩, ⟨2, true, tS [⟨1, false, tI (1)⟩, ⟨1, false, tI (1)⟩]⟩, ⟨2, true, tS [⟨1, false, tI (1)⟩, ⟨1, false, tI (2)⟩]⟩, ⟨2, true, (tS [⟨1, false, (tE (.int .i64 0))⟩, ⟨1, false, (tE (.int .i64 0))⟩])⟩, ⟨2, true, (tS [⟨1, false, (tE (.int .i64 0))⟩, ⟨1, false, (tE (.int .i64 0))⟩])⟩, ⟨2, true, (tS [⟨1, false, (tE (.int .i64 0))⟩, ⟨1, false, (tE (.int .i64 0))⟩])⟩, ⟨2, true, (tS [⟨1, false, (tE (.int .i64 0))⟩, ⟨1, false, (tE (.int .i64 0))⟩])⟩, ⟨2, true, (tS [⟨1, false, (tE (.int .i64 0))⟩, ⟨1, false, (tE (.int .i64 0))⟩])⟩]) (f := ⟨2, true, (tS [⟨1, false, (tE (.int .i64 0))⟩, ⟨1, false, (tE (.int .i64 0))⟩])⟩) (fs' := [⟨2, true, tS [⟨1, false, tI (0)⟩, ⟨1, false, tI (1)⟩]⟩, ⟨2, true, tS [⟨1, false, tI (1)⟩, ⟨1, false, tI (1)⟩]⟩, ⟨2, true, tS [⟨1, false, tI (1)⟩, ⟨1, false, tI (2)⟩]⟩, ⟨2, true, tS [⟨1, false, tI (-3)⟩, ⟨1, false, tI (4)⟩]⟩, ⟨2, true, (tS [⟨1, false, (tE (.int .i64 0))⟩, ⟨1, false, (tE (.int .i64 0))⟩])⟩, ⟨2, true, (tS [⟨1, false, (tE (.int .i64 0))⟩, ⟨1, false, (tE (.int .i64 0))⟩])⟩, ⟨2, true, (tS [⟨1, false, (tE (.int .i64 0))⟩, ⟨1, false, (tE (.int .i64 0))⟩])⟩, ⟨2, true, (tS [⟨1, false, (tE (.int .i64 0))⟩, ⟨1, false, (tE (.int .i64 0))⟩])⟩]) 3 rfl rfl rfl, inferInstance, ⟨_, _, _, _, rfl, Up.f (fs := [⟨2, true, tS [⟨1, false, tI (0)⟩, ⟨1, false, tI (1)⟩]⟩, ⟨2, true, tS [⟨1, false, tI (1)⟩, ⟨1, false, tI (1)⟩]⟩, ⟨2, true, tS [⟨1, false, tI (1)⟩, ⟨1, false, tI (2)⟩]⟩, ⟨2, true, tS [⟨1, false, tI (-3)⟩, ⟨1, false, tI (4)⟩]⟩, ⟨2, true, (tS [⟨1, false, (tE (.int .i64 0))⟩, ⟨1, false, (tE (.int .i64 0))⟩])⟩, ⟨2, true, (tS [⟨1, false, (tE (.int .i64 0))⟩, ⟨1, false, (tE (.int .i64 0))⟩])⟩, ⟨2, true, (tS [⟨1, false, (tE (.int .i64 0))⟩, ⟨1, false, (tE (.int .i64 0))⟩])⟩, ⟨2, true, (tS [⟨1, false, (tE (.int .i64 0))⟩, ⟨1, false, (tE (.int .i64 0))⟩])⟩]) (f := ⟨2, true, (tS [⟨1, false, (tE (.int .i64 0))⟩, ⟨1, false, (tE (.int .i64 0))⟩])⟩) (fs' := [⟨2, true, tS [⟨1, false, tI (0)⟩, ⟨1, false, tI (1)⟩]⟩, ⟨2, true, tS [⟨1, false, tI (1)⟩, ⟨1, false, tI (1)⟩]⟩, ⟨2, true, tS [⟨1, false, tI (1)⟩, ⟨1, false, tI (2)⟩]⟩, ⟨2, true, tS [⟨1, false, tI (-3)⟩, ⟨1, false, tI (4)⟩]⟩, ⟨2, true, tS [⟨1, false, tI (5)⟩, ⟨1, false, tI (3)⟩]⟩, ⟨2, true, (tS [⟨1, false, (tE (.int .i64 0))⟩, ⟨1, false, (tE (.int .i64 0))⟩])⟩, ⟨2, true, (tS [⟨1, false, (tE (.int .i64 0))⟩, ⟨1, false, (tE (.int .i64 0))⟩])⟩, ⟨2, true, (tS [⟨1, false, (tE (.int .i64 0))⟩, ⟨1, false, (tE (.int .i64 0))⟩])⟩]) 4 rfl rfl rfl, inferInstance, ⟨_, _, _, _, rfl, Up.f (fs := [⟨2, true, tS [⟨1, false, tI (0)⟩, ⟨1, false, tI (1)⟩]⟩, ⟨2, true, tS [⟨1, false, tI (1)⟩, ⟨1, false, tI (1)⟩]⟩, ⟨2, true, tS [⟨1, false, tI (1)⟩, ⟨1, false, tI (2)⟩]⟩, ⟨2, true, tS [⟨1, false, tI (-3)⟩, ⟨1, false, tI (4)⟩]⟩, ⟨2, true, tS [⟨1, false, tI (5)⟩, ⟨1, false, tI (3)⟩]⟩, ⟨2, true, (tS [⟨1, false, (tE (.int .i64 0))⟩, ⟨1, false, (tE (.int .i64 0))⟩])⟩, ⟨2, true, (tS [⟨1, false, (tE (.int .i64 0))⟩, ⟨1, false, (tE (.int .i64 0))⟩])⟩, ⟨2, true, (tS [⟨1, false, (tE (.int .i64 0))⟩, ⟨1, false, (tE (.int .i64 0))⟩])⟩]) (f := ⟨2, true, (tS [⟨1, false, (tE (.int .i64 0))⟩, ⟨1, false, (tE (.int .i64 0))⟩])⟩) (fs' := [⟨2, true, tS [⟨1, false, tI (0)⟩, ⟨1, false, tI (1)⟩]⟩, ⟨2, true, tS [⟨1, false, tI (1)⟩, ⟨1, false, tI (1)⟩]⟩, ⟨2, true, tS [⟨1, false, tI (1)⟩, ⟨1, false, tI (2)⟩]⟩, ⟨2, true, tS [⟨1, false, tI (-3)⟩, ⟨1, false, tI (4)⟩]⟩, ⟨2, true, tS [⟨1, false, tI (5)⟩, ⟨1, false, tI (3)⟩]⟩, ⟨2, true, tS [⟨1, false, tI (65537)⟩, ⟨1, false, tI (7)⟩]⟩, ⟨2, true, (tS [⟨1, false, (tE (.int .i64 0))⟩, ⟨1, false, (tE (.int .i64 0))⟩])⟩, ⟨2, true, (tS [⟨1, false, (tE (.int .i64 0))⟩, ⟨1, false, (tE (.int .i64 0))⟩])⟩]) 5 rfl rfl rfl, inferInstance, ⟨_, _, _, _, rfl, Up.f (fs := [⟨2, true, tS [⟨1, false, tI (0)⟩, ⟨1, false, tI (1)⟩]⟩, ⟨2, true, tS [⟨1, false, tI (1)⟩, ⟨1, false, tI (1)⟩]⟩, ⟨2, true, tS [⟨1, false, tI (1)⟩, ⟨1, false, tI (2)⟩]⟩, ⟨2, true, tS [⟨1, false, tI (-3)⟩, ⟨1, false, tI (4)⟩]⟩, ⟨2, true, tS [⟨1, false, tI (5)⟩, ⟨1, false, tI (3)⟩]⟩, ⟨2, true, tS [⟨1, false, tI (65537)⟩, ⟨1, false, tI (7)⟩]⟩, ⟨2, true, (tS [⟨1, false, (tE (.int .i64 0))⟩, ⟨1, false, (tE (.int .i64 0))⟩])⟩, ⟨2, true, (tS [⟨1, false, (tE (.int .i64 0))⟩, ⟨1, false, (tE (.int .i64 0))⟩])⟩]) (f := ⟨2, true, (tS [⟨1, false, (tE (.int .i64 0))⟩, ⟨1, false, (tE (.int .i64 0))⟩])⟩) (fs' := [⟨2, true, tS [⟨1, false, tI (0)⟩, ⟨1, false, tI (1)⟩]⟩, ⟨2, true, tS [⟨1, false, tI (1)⟩, ⟨1, false, tI (1)⟩]⟩, ⟨2, true, tS [⟨1, false, tI (1)⟩, ⟨1, false, tI (2)⟩]⟩, ⟨2, true, tS [⟨1, false, tI (-3)⟩, ⟨1, false, tI (4)⟩]⟩, ⟨2, true, tS [⟨1, false, tI (5)⟩, ⟨1, false, tI (3)⟩]⟩, ⟨2, true, tS [⟨1, false, tI (65537)⟩, ⟨1, false, tI (7)⟩]⟩, ⟨2, true, tS [⟨1, false, tI (-1)⟩, ⟨1, false, tI (1)⟩]⟩, ⟨2, true, (tS [⟨1, false, (tE (.int .i64 0))⟩, ⟨1, false, (tE (.int .i64 0))⟩])⟩]) 6 rfl rfl rfl, inferInstance, ⟨_, _, _, _, rfl, Up.f (fs := [⟨2, true, tS [⟨1, false, tI (0)⟩, ⟨1, false, tI (1)⟩]⟩, ⟨2, true, tS [⟨1, false, tI (1)⟩, ⟨1, false, tI (1)⟩]⟩, ⟨2, true, tS [⟨1, false, tI (1)⟩, ⟨1, false, tI (2)⟩]⟩, ⟨2, true, tS [⟨1, false, tI (-3)⟩, ⟨1, false, tI (4)⟩]⟩, ⟨2, true, tS [⟨1, false, tI (5)⟩, ⟨1, false, tI (3)⟩]⟩, ⟨2, true, tS [⟨1, false, tI (65537)⟩, ⟨1, false, tI (7)⟩]⟩, ⟨2, true, tS [⟨1, false, tI (-1)⟩, ⟨1, false, tI (1)⟩]⟩, ⟨2, true, (tS [⟨1, false, (tE (.int .i64 0))⟩, ⟨1, false, (tE (.int .i64 0))⟩])⟩]) (f := ⟨2, true, (tS [⟨1, false, (tE (.int .i64 0))⟩, ⟨1, false, (tE (.int .i64 0))⟩])⟩) (fs' := [⟨2, true, tS [⟨1, false, tI (0)⟩, ⟨1, false, tI (1)⟩]⟩, ⟨2, true, tS [⟨1, false, tI (1)⟩, ⟨1, false, tI (1)⟩]⟩, ⟨2, true, tS [⟨1, false, tI (1)⟩, ⟨1, false, tI (2)⟩]⟩, ⟨2, true, tS [⟨1, false, tI (-3)⟩, ⟨1, false, tI (4)⟩]⟩, ⟨2, true, tS [⟨1, false, tI (5)⟩, ⟨1, false, tI (3)⟩]⟩, ⟨2, true, tS [⟨1, false, tI (65537)⟩, ⟨1, false, tI (7)⟩]⟩, ⟨2, true, tS [⟨1, false, tI (-1)⟩, ⟨1, false, tI (1)⟩]⟩, ⟨2, true, tS [⟨1, false, tI (1099511627776)⟩, ⟨1, false, tI (1)⟩]⟩]) 7 rfl rfl rfl, inferInstance, Le.refl⟩⟩⟩⟩⟩⟩⟩⟩) ⟨rfl, rfl, rfl, rfl, rfl, rfl, rfl, rfl, trivial⟩ trivial trivial (R1 x4 rfl (R2 (d_remP (by omega) (by omega)) rfl rfl (R2 (d_indexV (es := 2) (agg := true) (t := tS (plP.map fun x => ⟨2, true, tP2 x⟩)) (t' := tP2 (plQ n)) Tryz.underlying113 ti47 (n % 8) (by omega) (by omega) (At.row (l := plP) (0, 1) (show n % 8 < 8 by omega))) rfl rfl (RE (xc1 (k := 3) (n := 2) (agg := true) zr47.1 zr47.2 rfl) trivial trivial ⟨rfl, trivial⟩ (RE (xa4 (es := 2) (agg := true) (0) ti47 rfl rfl rfl) ⟨rfl, rfl, trivial⟩ ⟨rfl, trivial⟩ trivial (x7 (by kernel_rfl) (x3 ?_)))))))
 refine x6 ?_
 refine x8 ?_
 refine R2 (d_indexA ar47 (by omega) (by omega) rfl) rfl rfl (xa3 (0) ti3 rfl rfl rfl (At.g 0 rfl rfl) rfl (R2 (d_indexA ar47 (by omega) (by omega) rfl) rfl rfl (xa3 (0) ti3 rfl rfl rfl (At.g 1 rfl rfl) rfl (R2 (xa0 (c_Num (plQ n).1 (plQ n).2 q1 q2 q3 q4) fi29 rfl) rfl rfl (RE (xa4 (es := 6) (agg := true) (0) ti37 rfl rfl rfl) ⟨rfl, rfl, trivial⟩ ⟨rfl, trivial⟩ trivial (x7 (by kernel_rfl) (x3 ?_)))))))
 refine xa1 ?_
 exact xg7 Plain.mk' rfl ⟨_, _, _, _, _, rfl, rfl, ti37, Le.refl⟩
def tbF (m : List Nat) (k : Nat) (t : Int) : Int := t + ((m.getD (3 * k) 0 : Nat) : Int) % 3000
def tbE (m : List Nat) (k : Nat) (t : Int) : Int := tbF m k t + 1 + ((m.getD (3 * k + 1) 0 : Nat) : Int) % 3000
def tbS (m : List Nat) (k : Nat) (t : Int) : Tst := ⟨tbF m k t, tbE m k t, plV (m.getD (3 * k + 2) 0)⟩
def tbRun (m : List Nat) : Nat → Nat → List Tst → Int → List Tst
  | 0, _, out, _ => out
  | f + 1, k, out, t => if 3 * k + 2 < m.length ∧ k < 40 then (if 65536 < tbE m k t then out else tbRun m f (k + 1) (pst1 out (tbS m k t)) (tbE m k t)) else out
def tbT (m : List Nat) : List Tst := tbRun m 41 0 [] 0
theorem tbRun_stop {m : List Nat} {k : Nat} {out : List Tst} {t : Int} {r : List Tst} (hk : k ≤ 40) (h : tbRun m (41 - k) k out t = r) (hs : ¬ (3 * k + 2 < m.length ∧ k < 40) ∨ 65536 < tbE m k t) : out = r := by
  rw [show 41 - k = (40 - k) + 1 by omega, tbRun] at h
  split at h
  · rw [if_pos (hs.resolve_left (fun h' => h' (by assumption)))] at h; exact h
  · exact h
theorem tbRun_next {m : List Nat} {k : Nat} {out : List Tst} {t : Int} {r : List Tst} (hk : k ≤ 40) (h : tbRun m (41 - k) k out t = r) (hs : 3 * k + 2 < m.length ∧ k < 40) (he : ¬ 65536 < tbE m k t) : tbRun m (41 - (k + 1)) (k + 1) (pst1 out (tbS m k t)) (tbE m k t) = r := by
  rw [show 41 - k = (41 - (k + 1)) + 1 by omega, tbRun, if_pos hs, if_neg he] at h; exact h
theorem tbS_lt {m : List Nat} {k : Nat} {t : Int} : (tbS m k t).lo < (tbS m k t).hi := by simp only [tbS, tbE]; omega
theorem valT_first {l : List Tst} {d : Int} {i : Nat} (hi : i < l.length) (hj : ∀ j, j < i → ¬ ((l.getD j tst0).lo ≤ d ∧ d < (l.getD j tst0).hi)) (h : (l.getD i tst0).lo ≤ d ∧ d < (l.getD i tst0).hi) : valT l d = some (l.getD i tst0).v := by
  induction i generalizing l with
  | zero =>
    cases l with
    | nil => simp at hi
    | cons s r => rw [xe8]; exact if_pos h
  | succ i ih =>
    cases l with
    | nil => simp at hi
    | cons s r =>
      have h0 : ¬ (s.lo ≤ d ∧ d < s.hi) := hj 0 (by omega)
      rw [xe8, if_neg h0]
      exact ih (l := r) (by simpa using hi) (fun j hj2 => by have := hj (j + 1) (by omega); simpa using this) (by simpa using h)
theorem valT_never {l : List Tst} {d : Int} (hj : ∀ j, j < l.length → ¬ ((l.getD j tst0).lo ≤ d ∧ d < (l.getD j tst0).hi)) : valT l d = none := valT_none.2 fun s hs h => by
  obtain ⟨i, hi, rfl⟩ := xi6 hs
  exact hj i hi h
def eds4 (l : List Tst) : List Int := l.flatMap fun s => [s.lo - 1, s.lo, s.hi - 1, s.hi]
theorem eds4_len {l : List Tst} : (eds4 l).length = 4 * l.length := by
  induction l with
  | nil => rfl
  | cons s r ih => rw [eds4, List.flatMap_cons, List.length_append, ← eds4, ih]; simp; omega
theorem eds4_snoc {l : List Tst} {i : Nat} (hi : i < l.length) : eds4 (l.take (i + 1)) = eds4 (l.take i) ++ [(l.getD i tst0).lo - 1, (l.getD i tst0).lo, (l.getD i tst0).hi - 1, (l.getD i tst0).hi] := by
  rw [List.take_succ_eq_append_getElem hi, eds4, List.flatMap_append, List.getD_eq_getElem?_getD, List.getElem?_eq_getElem hi]; simp [eds4]
theorem flat4_snoc {ls : List (List Tst)} {i : Nat} (hi : i < ls.length) : (ls.take (i + 1)).flatMap eds4 = (ls.take i).flatMap eds4 ++ eds4 (ls.getD i []) := by
  rw [List.take_succ_eq_append_getElem hi, List.flatMap_append, List.getD_eq_getElem?_getD, List.getElem?_eq_getElem hi]; simp
theorem flat4_len : ∀ {ls : List (List Tst)}, (ls.flatMap eds4).length = 4 * tlen ls
  | [] => rfl
  | l :: r => by rw [List.flatMap_cons, List.length_append, eds4_len, flat4_len (ls := r)]; simp [tlen]; omega
/-- The days about the ends of steps. -/
def lkT (a b : List Tst) (d : Int) : List Int := d :: [a, b].flatMap eds4
theorem c_Built05 (m : List Nat) (hm : ∀ i, m.getD i 0 < 65536) :
  Ct Tryz.prog 12 [tLm m] (tL 8 true tTs (tbT m)) := by
 refine Ct.intro Tryz.func12 rfl Tryz.ntmps12 rfl ?_
 intro w F
 refine C_len (s := 0) rfl (fun hl0 => ?_)
 refine x6 ?_
 refine x8 ?_
 refine R1 x5 rfl (x7 (by kernel_rfl) (x3 (x6 ?_)))
 refine x8 ?_
 refine RE (xh9 (k := 3) 56 8 true rfl (fun h => by cases h)) trivial trivial ⟨rfl, trivial⟩ (x7 (by kernel_rfl) (x3 (x6 ?_)))
 refine x8 ?_
 refine R1 x5 rfl (x7 (by kernel_rfl) (x3 (x6 (x6 ?_))))
 refine x8 ?_
 refine R1 x5 rfl (x7 (by kernel_rfl) (x3 (xa8 ?_)))
 refine xd6 (fun (fm : (Nat) × (List Tst) × (Int)) => (fun (k : Nat) (xs : List Tst) (t : Int) => k ≤ 40 ∧ tbRun m (41 - k) k xs t = tbT m ∧ xs.length ≤ k ∧ 0 ≤ t ∧ t ≤ 65536) fm.1 fm.2.1 fm.2.2) (fun (fm : (Nat) × (List Tst) × (Int)) => (fun (k : Nat) (xs : List Tst) (t : Int) => upd (upd (upd (upd (fun _ => none) 0 (some (.val (tLm m)))) 3 (some (.own (.sl 3 8 0 xs.length)))) 4 (some (.val (tI t)))) 5 (some (.val (tI (3 * (k : Int)))))) fm.1 fm.2.1 fm.2.2) (fun (fm : (Nat) × (List Tst) × (Int)) => (fun (k : Nat) (xs : List Tst) (t : Int) => upd (fun _ => none) 3 (some (⟨56, 8, true, rV tTs xs⟩))) fm.1 fm.2.1 fm.2.2) (nm [3]) (fun (fm : (Nat) × (List Tst) × (Int)) => (fun (k : Nat) (xs : List Tst) (t : Int) => 41 - k) fm.1 fm.2.1 fm.2.2) ((0, [], 0)) (by dsimp only; exact ⟨Nat.zero_le _, rfl, Nat.le_refl _, by omega, by omega⟩) (Sub.int rfl (by first | omega | rfl | (dsimp only; omega)) (Sub.int rfl (by first | omega | rfl | (dsimp only; omega)) (Sub.cons rfl (Sub.cons rfl Sub.nil)))) ((SubK.consI rfl ImpK.refl) SubK.nil) (SupG.val (SupG.val (SupG.own rfl (SupG.val SupG.nil)))) (SupH.cons rfl (supJ xc3) SupH.nil) (lkOk rfl) ?_
 intro fm hI
 obtain ⟨k, xs, t⟩ := fm
 replace hI : k ≤ 40 ∧ tbRun m (41 - k) k xs t = tbT m ∧ xs.length ≤ k ∧ 0 ≤ t ∧ t ≤ 65536 := hI
 show wc _ _ _ _ (upd (upd (upd (upd (fun _ => none) 0 (some (.val (tLm m)))) 3 (some (.own (.sl 3 8 0 xs.length)))) 4 (some (.val (tI t)))) 5 (some (.val (tI (3 * (k : Int)))))) (upd (fun _ => none) 3 (some (⟨56, 8, true, rV tTs xs⟩))) _
 obtain ⟨hk, hb, hxl, ht0, ht1⟩ := hI
 have m0 := hm (3 * k)
 have m1 := hm (3 * k + 1)
 have m2 := hm (3 * k + 2)
 refine x6 (x6 ?_)
 refine x8 ?_
 refine R1 x4 rfl (R2 (xb7 (wr64 (by omega) (by omega))) rfl rfl (R1 x4 rfl (R1 (xc4 Tryz.underlying22) rfl (R2 xd5 rfl rfl (R1 x4 rfl ?_)))))
 refine RGcaseD (t := 15) rfl (fun h24 => ?_) (fun h24 => ?_)
 ·
  refine RGon (decide_eq_true h24) rfl x4 rfl ⟨rfl, trivial⟩ trivial trivial (RGon (decide_eq_true h24) rfl xd5 rfl ⟨rfl, rfl, trivial⟩ trivial trivial (R2 (xb2 (decide_eq_true h24)) rfl rfl (x7 (by kernel_rfl) (x3 ?_))))
  refine xc2 rfl (fun h24_2 => ?_) (fun h24_2 => ?_)
  ·
   refine xa2 (x3 (x6 (xa8 (x6 ?_))))
   refine x8 ?_
   refine R1 x4 rfl (R1 x4 rfl (R1 x4 rfl (R2 (xb5 sl22 (3 * k) (by omega) (gN (by omega))) rfl rfl (R1 (xb8 ti73) rfl (R1 (xb4 Tryz.underlying3 (isS Tryz.underlying73) (wr64 (by omega) (by omega))) rfl (R2 (d_remP (by omega) (by omega)) rfl rfl (R2 (xb7 (wr64 (by omega) (by omega))) rfl rfl ?_)))))))
   refine R1 x5 rfl (x7 (by kernel_rfl) (x3 (x6 ?_)))
   refine xd7 mixed ?_
   refine R1 x4 rfl (R2 (xb7 (wr64 (by omega) (by omega))) rfl rfl (R1 x4 rfl (R1 x4 rfl (R2 (xb7 (wr64 (by omega) (by omega))) rfl rfl (R2 (xb5 sl22 (3 * k + 1) (by omega) (gN (by omega))) rfl rfl (R1 (xb8 ti73) rfl (R1 (xb4 Tryz.underlying3 (isS Tryz.underlying73) (wr64 (by omega) (by omega))) rfl ?_)))))))
   refine R2 (d_remP (by omega) (by omega)) rfl rfl (R2 (xb7 (wr64 (by omega) (by omega))) rfl rfl (R1 x4 rfl (R1 x4 rfl (R2 (xb7 (wr64 (by omega) (by omega))) rfl rfl (R2 (xb5 sl22 (3 * k + 2) (by omega) (gN (by omega))) rfl rfl (R1 (xb8 ti73) rfl (R1 (xa0 (c_Pool (m.getD (3 * k + 2) 0) m2) fi40 rfl) rfl ?_)))))))
   refine RE (xc1 (k := 8) (n := 6) (agg := true) zr37.1 zr37.2 rfl) trivial trivial ⟨rfl, trivial⟩ (R1 x5 rfl (RE (xa4 (es := 6) (agg := true) (0) ti37 rfl rfl rfl) ⟨rfl, rfl, trivial⟩ ⟨rfl, trivial⟩ trivial (xd2 (by kernel_rfl) (x3 (x6 (x6 ?_))))))
   refine x8 ?_
   refine R1 x4 rfl (R2 d_gtr rfl rfl (x7 (by kernel_rfl) (x3 ?_)))
   refine xc2 rfl (fun h27 => ?_) (fun h27 => ?_)
   ·
    refine xd0 (xb6 (K_exO rfl (xb6 (xb6 (xd4 (x3 (x6 ?_)))))))
    refine x8 ?_
    refine R1 x4 rfl (RE (xi1 (f := tTs) (xs := xs) (fun _ h => h) (rV_all rfl) rfl) ⟨rfl, trivial⟩ ⟨rfl, trivial⟩ trivial (x7 (by kernel_rfl) (x3 (xa1 ?_))))
    exact xa7 Plain.mk' rfl rfl (Le.of (by rw [tbRun_stop hk hb (.inr (by simp only [tbE, tbF]; omega))]))
   ·
    refine xa2 (x3 (x6 (x6 ?_)))
    refine x8 ?_
    refine R1 x4 rfl (R1 (d_lenO Tryz.underlying24) rfl (R2 (xe3 (wr64 (by omega) (by omega))) rfl rfl (R1 x5 rfl (x7 (by kernel_rfl) (x3 (x6 ?_))))))
    refine xd7 mixed ?_
    refine R1 x4 rfl (R2 d_geq rfl rfl (R1 x4 rfl ?_))
    refine RGcaseD (t := 52) rfl (fun h30 => ?_) (fun h30 => ?_)
    ·
     refine RGon (decide_eq_true h30) rfl x4 rfl ⟨rfl, trivial⟩ trivial trivial (RGon (decide_eq_true h30) rfl x4 rfl ⟨rfl, trivial⟩ trivial trivial (RGon (decide_eq_true h30) rfl (xd1 sl24 (by omega) (by omega) rfl) rfl ⟨rfl, rfl, trivial⟩ trivial trivial (RGon (decide_eq_true h30) rfl (x9 fo56_1 rfl) rfl ⟨rfl, trivial⟩ trivial trivial (RGon (decide_eq_true h30) rfl (d_loadF (es := 8) (o := 1) (xs.length - 1) ti3 (xh5 (d := tst0) (by omega)) (At.g 1 rfl rfl) (by omega)) rfl ⟨rfl, trivial⟩ ⟨rfl, trivial⟩ trivial (RGon (decide_eq_true h30) rfl x4 rfl ⟨rfl, trivial⟩ trivial trivial (RGon (decide_eq_true h30) rfl xe9 rfl ⟨rfl, rfl, trivial⟩ trivial trivial (R2 (xb2 (decide_eq_true h30)) rfl rfl ?_)))))))
     refine R1 x4 rfl ?_
     refine RGcaseD (t := 61) rfl (fun h30_2 => ?_) (fun h30_2 => ?_)
     ·
      refine RGon (decide_eq_true h30_2) rfl x4 rfl ⟨rfl, trivial⟩ trivial trivial (RGon (decide_eq_true h30_2) rfl x4 rfl ⟨rfl, trivial⟩ trivial trivial (RGon (decide_eq_true h30_2) rfl (xd1 sl24 (by omega) (by omega) rfl) rfl ⟨rfl, rfl, trivial⟩ trivial trivial (RGon (decide_eq_true h30_2) rfl (x9 fo56_2 rfl) rfl ⟨rfl, trivial⟩ trivial trivial (RGon (decide_eq_true h30_2) rfl (d_loadF (es := 8) (o := 2) (xs.length - 1) ti37 (xh5 (d := tst0) (by omega)) (At.g 2 rfl rfl) (by omega)) rfl ⟨rfl, trivial⟩ ⟨rfl, trivial⟩ trivial (RGon (decide_eq_true h30_2) rfl (xb1 (0) ti37 rfl rfl) rfl ⟨rfl, trivial⟩ ⟨rfl, trivial⟩ trivial (RGon (decide_eq_true h30_2) rfl (xa0 (c_SameValue _ _) fi18 rfl) rfl ⟨rfl, rfl, trivial⟩ trivial trivial (R2 (xb2 (decide_eq_true h30_2)) rfl rfl ?_)))))))
      refine xd2 (by kernel_rfl) (x3 ?_)
      refine xc2 rfl (fun h30_3 => ?_) (fun h30_3 => ?_)
      ·
       refine x8 ?_
       refine R1 x4 rfl (R1 x4 rfl (R1 x4 rfl (R2 (xd1 sl24 (by omega) (by omega) rfl) rfl rfl (R1 (x9 fo56_1 rfl) rfl (RE (d_storeF (es := 8) (o := 1) (t2 := tTs ⟨(xs.getD (xs.length - 1) tst0).lo, (tbS m k t).hi, (xs.getD (xs.length - 1) tst0).v⟩) (xs.length - 1) ti3 (xh5 (d := tst0) (by omega)) (Up.g 1 rfl rfl rfl) (by omega) (rV_set rfl)) ⟨rfl, rfl, trivial⟩ ⟨rfl, trivial⟩ trivial (x7 (by kernel_rfl) (x3 ?_)))))))
       refine x8 ?_
       refine R1 x4 rfl (R1 x5 rfl (x7 (by kernel_rfl) (xc0 (x3 ?_))))
       refine x8 ?_
       refine R1 x4 rfl (R2 (xb7 (wr64 (by omega) (by omega))) rfl rfl (R1 x5 rfl (x7 (by kernel_rfl) ?_)))
       have hpx : pst1 xs (tbS m k t) = (xs.set (xs.length - 1) ⟨(xs.getD (xs.length - 1) tst0).lo, (tbS m k t).hi, (xs.getD (xs.length - 1) tst0).v⟩) := by
        have hlt := tbS_lt (m := m) (k := k) (t := t)
        rw [pst1, if_neg (by omega), if_pos ⟨by omega, by simp only [tbS, tbE, tbF]; omega, h30_3⟩]
       exact xc5 ((k + 1, (xs.set (xs.length - 1) ⟨(xs.getD (xs.length - 1) tst0).lo, (tbS m k t).hi, (xs.getD (xs.length - 1) tst0).v⟩), tbE m k t)) ⟨(by dsimp only; exact ⟨by omega, by rw [← hpx]; exact tbRun_next hk hb ⟨by omega, by omega⟩ (by simp only [tbE, tbF]; omega), by rw [List.length_set]; omega, by simp only [tbE, tbF]; omega, by simp only [tbE, tbF]; omega⟩), (by dsimp only; omega)⟩ (Sub.int rfl (by first | omega | rfl | (dsimp only; omega)) (Sub.int rfl (by first | omega | rfl | (dsimp only; omega)) ((Sub.consI rfl (Imp.of (by dsimp only; rw [List.length_set]))) (Sub.cons rfl Sub.nil)))) ((SubK.consI rfl ImpK.refl) SubK.nil) (SupG.val (SupG.val (SupG.own rfl (SupG.val SupG.nil)))) (SupH.cons rfl (supJ xc3) SupH.nil) (lkOk rfl)
      ·
       refine x8 ?_
       refine R1 x4 rfl (R1 x4 rfl (R1 x4 rfl (RE (xb1 (0) ti37 rfl rfl) ⟨rfl, trivial⟩ ⟨rfl, trivial⟩ trivial (R3 (xc8 (r := tS [⟨1, false, tI (tbS m k t).lo⟩, ⟨1, false, tI (tbS m k t).hi⟩, ⟨6, true, tVa (tbS m k t).v⟩]) (ts := [(0, tI (tbS m k t).lo), (1, tI (tbS m k t).hi), (2, tVa (tbS m k t).v)]) bu56 zr56.2 ⟨_, rfl⟩ rfl ⟨_, _, _, _, rfl, Up.f (fs := [⟨1, false, (tE (.int .i64 0))⟩, ⟨1, false, (tE (.int .i64 0))⟩, ⟨6, true, (tS [⟨1, false, (tE (.int .u8 0))⟩, ⟨4, true, (tS [⟨2, true, (tS [⟨1, false, (tE (.bool false))⟩, ⟨1, false, (tLm [])⟩])⟩, ⟨2, true, (tS [⟨1, false, (tE (.bool false))⟩, ⟨1, false, (tLm [])⟩])⟩])⟩, ⟨1, false, (tE (.int .i64 0))⟩])⟩]) (f := ⟨1, false, (tE (.int .i64 0))⟩) (fs' := [⟨1, false, tI (tbS m k t).lo⟩, ⟨1, false, (tE (.int .i64 0))⟩, ⟨6, true, (tS [⟨1, false, (tE (.int .u8 0))⟩, ⟨4, true, (tS [⟨2, true, (tS [⟨1, false, (tE (.bool false))⟩, ⟨1, false, (tLm [])⟩])⟩, ⟨2, true, (tS [⟨1, false, (tE (.bool false))⟩, ⟨1, false, (tLm [])⟩])⟩])⟩, ⟨1, false, (tE (.int .i64 0))⟩])⟩]) 0 rfl rfl rfl, inferInstance, ⟨_, _, _, _, rfl, Up.f (fs := [⟨1, false, tI (tbS m k t).lo⟩, ⟨1, false, (tE (.int .i64 0))⟩, ⟨6, true, (tS [⟨1, false, (tE (.int .u8 0))⟩, ⟨4, true, (tS [⟨2, true, (tS [⟨1, false, (tE (.bool false))⟩, ⟨1, false, (tLm [])⟩])⟩, ⟨2, true, (tS [⟨1, false, (tE (.bool false))⟩, ⟨1, false, (tLm [])⟩])⟩])⟩, ⟨1, false, (tE (.int .i64 0))⟩])⟩]) (f := ⟨1, false, (tE (.int .i64 0))⟩) (fs' := [⟨1, false, tI (tbS m k t).lo⟩, ⟨1, false, tI (tbS m k t).hi⟩, ⟨6, true, (tS [⟨1, false, (tE (.int .u8 0))⟩, ⟨4, true, (tS [⟨2, true, (tS [⟨1, false, (tE (.bool false))⟩, ⟨1, false, (tLm [])⟩])⟩, ⟨2, true, (tS [⟨1, false, (tE (.bool false))⟩, ⟨1, false, (tLm [])⟩])⟩])⟩, ⟨1, false, (tE (.int .i64 0))⟩])⟩]) 1 rfl rfl rfl, inferInstance, ⟨_, _, _, _, rfl, Up.f (fs := [⟨1, false, tI (tbS m k t).lo⟩, ⟨1, false, tI (tbS m k t).hi⟩, ⟨6, true, (tS [⟨1, false, (tE (.int .u8 0))⟩, ⟨4, true, (tS [⟨2, true, (tS [⟨1, false, (tE (.bool false))⟩, ⟨1, false, (tLm [])⟩])⟩, ⟨2, true, (tS [⟨1, false, (tE (.bool false))⟩, ⟨1, false, (tLm [])⟩])⟩])⟩, ⟨1, false, (tE (.int .i64 0))⟩])⟩]) (f := ⟨6, true, (tS [⟨1, false, (tE (.int .u8 0))⟩, ⟨4, true, (tS [⟨2, true, (tS [⟨1, false, (tE (.bool false))⟩, ⟨1, false, (tLm [])⟩])⟩, ⟨2, true, (tS [⟨1, false, (tE (.bool false))⟩, ⟨1, false, (tLm [])⟩])⟩])⟩, ⟨1, false, (tE (.int .i64 0))⟩])⟩) (fs' := [⟨1, false, tI (tbS m k t).lo⟩, ⟨1, false, tI (tbS m k t).hi⟩, ⟨6, true, tVa (tbS m k t).v⟩]) 2 rfl rfl rfl, inferInstance, Le.refl⟩⟩⟩) rfl rfl rfl (R1 (xe4 (n := 1) (f := tTs) [(tbS m k t)] Tryz.underlying24 el56 zf56 rfl (fun _ => inferInstance) rfl rfl rfl) rfl (RE (xe7 (k := 3) (k' := 81) (f := tTs) (ys := [(tbS m k t)]) (ts' := rV tTs (xs ++ [(tbS m k t)])) Tryz.underlying24 el56 zf56 rfl rfl (fun _ => inferInstance) xf5 (by simp; omega) (by simp; omega) (by simp [rV]) (n' := xs.length + 1) rfl) ⟨rfl, rfl, trivial⟩ ⟨rfl, trivial⟩ ⟨rfl, trivial⟩ (R1 x5 rfl ?_)))))))
       refine x7 (by kernel_rfl) (x3 ?_)
       refine x8 ?_
       refine R1 x4 rfl (R1 x5 rfl (x7 (by kernel_rfl) (xc0 (x3 ?_))))
       refine x8 ?_
       refine R1 x4 rfl (R2 (xb7 (wr64 (by omega) (by omega))) rfl rfl (R1 x5 rfl (x7 (by kernel_rfl) ?_)))
       have hpx : pst1 xs (tbS m k t) = xs ++ [(tbS m k t)] := by
        have hlt := tbS_lt (m := m) (k := k) (t := t)
        rw [pst1, if_neg (by omega), if_neg (fun h => h30_3 h.2.2)]
       exact K_famR (l := [3]) (fun j => cond (Nat.beq j 3) 81 (j)) ((k + 1, xs ++ [(tbS m k t)], tbE m k t)) ⟨(by dsimp only; exact ⟨by omega, by rw [← hpx]; exact tbRun_next hk hb ⟨by omega, by omega⟩ (by simp only [tbE, tbF]; omega), by rw [List.length_append]; simp; omega, by simp only [tbE, tbF]; omega, by simp only [tbE, tbF]; omega⟩), (by dsimp only; omega)⟩ (SubR.int rfl (by first | omega | rfl | (dsimp only; omega)) (SubR.int rfl (by first | omega | rfl | (dsimp only; omega)) ((SubR.consI rfl (Imp.of (by dsimp only; rw [List.length_append]; rfl))) (SubR.cons rfl SubR.nil)))) ((SubKR.consI rfl (ImpK.of xe5.symm)) SubKR.nil) (SupG.val (SupG.val (SupG.own rfl (SupG.val SupG.nil)))) (SupH.cons rfl (supJ xc3) SupH.nil) (lkOk rfl) rfl rfl (fun _ h => by cases h)
     ·
      refine RGoff (decide_eq_false h30_2) rfl rfl (RGoff (decide_eq_false h30_2) rfl rfl (RGoff (decide_eq_false h30_2) rfl rfl (RGoff (decide_eq_false h30_2) rfl rfl (RGoff (decide_eq_false h30_2) rfl rfl (RGoff (decide_eq_false h30_2) rfl rfl (RGoff (decide_eq_false h30_2) rfl rfl (R2 (xa6 (decide_eq_false h30_2)) rfl rfl ?_)))))))
      refine xd2 (by kernel_rfl) (x3 (C_bF rfl rfl ?_))
      refine x8 ?_
      refine R1 x4 rfl (R1 x4 rfl (R1 x4 rfl (RE (xb1 (0) ti37 rfl rfl) ⟨rfl, trivial⟩ ⟨rfl, trivial⟩ trivial (R3 (xc8 (r := tS [⟨1, false, tI (tbS m k t).lo⟩, ⟨1, false, tI (tbS m k t).hi⟩, ⟨6, true, tVa (tbS m k t).v⟩]) (ts := [(0, tI (tbS m k t).lo), (1, tI (tbS m k t).hi), (2, tVa (tbS m k t).v)]) bu56 zr56.2 ⟨_, rfl⟩ rfl ⟨_, _, _, _, rfl, Up.f (fs := [⟨1, false, (tE (.int .i64 0))⟩, ⟨1, false, (tE (.int .i64 0))⟩, ⟨6, true, (tS [⟨1, false, (tE (.int .u8 0))⟩, ⟨4, true, (tS [⟨2, true, (tS [⟨1, false, (tE (.bool false))⟩, ⟨1, false, (tLm [])⟩])⟩, ⟨2, true, (tS [⟨1, false, (tE (.bool false))⟩, ⟨1, false, (tLm [])⟩])⟩])⟩, ⟨1, false, (tE (.int .i64 0))⟩])⟩]) (f := ⟨1, false, (tE (.int .i64 0))⟩) (fs' := [⟨1, false, tI (tbS m k t).lo⟩, ⟨1, false, (tE (.int .i64 0))⟩, ⟨6, true, (tS [⟨1, false, (tE (.int .u8 0))⟩, ⟨4, true, (tS [⟨2, true, (tS [⟨1, false, (tE (.bool false))⟩, ⟨1, false, (tLm [])⟩])⟩, ⟨2, true, (tS [⟨1, false, (tE (.bool false))⟩, ⟨1, false, (tLm [])⟩])⟩])⟩, ⟨1, false, (tE (.int .i64 0))⟩])⟩]) 0 rfl rfl rfl, inferInstance, ⟨_, _, _, _, rfl, Up.f (fs := [⟨1, false, tI (tbS m k t).lo⟩, ⟨1, false, (tE (.int .i64 0))⟩, ⟨6, true, (tS [⟨1, false, (tE (.int .u8 0))⟩, ⟨4, true, (tS [⟨2, true, (tS [⟨1, false, (tE (.bool false))⟩, ⟨1, false, (tLm [])⟩])⟩, ⟨2, true, (tS [⟨1, false, (tE (.bool false))⟩, ⟨1, false, (tLm [])⟩])⟩])⟩, ⟨1, false, (tE (.int .i64 0))⟩])⟩]) (f := ⟨1, false, (tE (.int .i64 0))⟩) (fs' := [⟨1, false, tI (tbS m k t).lo⟩, ⟨1, false, tI (tbS m k t).hi⟩, ⟨6, true, (tS [⟨1, false, (tE (.int .u8 0))⟩, ⟨4, true, (tS [⟨2, true, (tS [⟨1, false, (tE (.bool false))⟩, ⟨1, false, (tLm [])⟩])⟩, ⟨2, true, (tS [⟨1, false, (tE (.bool false))⟩, ⟨1, false, (tLm [])⟩])⟩])⟩, ⟨1, false, (tE (.int .i64 0))⟩])⟩]) 1 rfl rfl rfl, inferInstance, ⟨_, _, _, _, rfl, Up.f (fs := [⟨1, false, tI (tbS m k t).lo⟩, ⟨1, false, tI (tbS m k t).hi⟩, ⟨6, true, (tS [⟨1, false, (tE (.int .u8 0))⟩, ⟨4, true, (tS [⟨2, true, (tS [⟨1, false, (tE (.bool false))⟩, ⟨1, false, (tLm [])⟩])⟩, ⟨2, true, (tS [⟨1, false, (tE (.bool false))⟩, ⟨1, false, (tLm [])⟩])⟩])⟩, ⟨1, false, (tE (.int .i64 0))⟩])⟩]) (f := ⟨6, true, (tS [⟨1, false, (tE (.int .u8 0))⟩, ⟨4, true, (tS [⟨2, true, (tS [⟨1, false, (tE (.bool false))⟩, ⟨1, false, (tLm [])⟩])⟩, ⟨2, true, (tS [⟨1, false, (tE (.bool false))⟩, ⟨1, false, (tLm [])⟩])⟩])⟩, ⟨1, false, (tE (.int .i64 0))⟩])⟩) (fs' := [⟨1, false, tI (tbS m k t).lo⟩, ⟨1, false, tI (tbS m k t).hi⟩, ⟨6, true, tVa (tbS m k t).v⟩]) 2 rfl rfl rfl, inferInstance, Le.refl⟩⟩⟩) rfl rfl rfl (R1 (xe4 (n := 1) (f := tTs) [(tbS m k t)] Tryz.underlying24 el56 zf56 rfl (fun _ => inferInstance) rfl rfl rfl) rfl (RE (xe7 (k := 3) (k' := 81) (f := tTs) (ys := [(tbS m k t)]) (ts' := rV tTs (xs ++ [(tbS m k t)])) Tryz.underlying24 el56 zf56 rfl rfl (fun _ => inferInstance) xf5 (by simp; omega) (by simp; omega) (by simp [rV]) (n' := xs.length + 1) rfl) ⟨rfl, rfl, trivial⟩ ⟨rfl, trivial⟩ ⟨rfl, trivial⟩ (R1 x5 rfl ?_)))))))
      refine x7 (by kernel_rfl) (x3 ?_)
      refine x8 ?_
      refine R1 x4 rfl (R1 x5 rfl (x7 (by kernel_rfl) (xc0 (x3 ?_))))
      refine x8 ?_
      refine R1 x4 rfl (R2 (xb7 (wr64 (by omega) (by omega))) rfl rfl (R1 x5 rfl (x7 (by kernel_rfl) ?_)))
      have hpx : pst1 xs (tbS m k t) = xs ++ [(tbS m k t)] := by
       have hlt := tbS_lt (m := m) (k := k) (t := t)
       rw [pst1, if_neg (by omega), if_neg (fun h => h30_2 (by have := h.2.1; simp only [tbS, tbF] at this; omega))]
      exact K_famR (l := [3]) (fun j => cond (Nat.beq j 3) 81 (j)) ((k + 1, xs ++ [(tbS m k t)], tbE m k t)) ⟨(by dsimp only; exact ⟨by omega, by rw [← hpx]; exact tbRun_next hk hb ⟨by omega, by omega⟩ (by simp only [tbE, tbF]; omega), by rw [List.length_append]; simp; omega, by simp only [tbE, tbF]; omega, by simp only [tbE, tbF]; omega⟩), (by dsimp only; omega)⟩ (SubR.int rfl (by first | omega | rfl | (dsimp only; omega)) (SubR.int rfl (by first | omega | rfl | (dsimp only; omega)) ((SubR.consI rfl (Imp.of (by dsimp only; rw [List.length_append]; rfl))) (SubR.cons rfl SubR.nil)))) ((SubKR.consI rfl (ImpK.of xe5.symm)) SubKR.nil) (SupG.val (SupG.val (SupG.own rfl (SupG.val SupG.nil)))) (SupH.cons rfl (supJ xc3) SupH.nil) (lkOk rfl) rfl rfl (fun _ h => by cases h)
    ·
     refine RGoff (decide_eq_false h30) rfl rfl (RGoff (decide_eq_false h30) rfl rfl (RGoff (decide_eq_false h30) rfl rfl (RGoff (decide_eq_false h30) rfl rfl (RGoff (decide_eq_false h30) rfl rfl (RGoff (decide_eq_false h30) rfl rfl (RGoff (decide_eq_false h30) rfl rfl (R2 (xa6 (decide_eq_false h30)) rfl rfl ?_)))))))
     refine R1 x4 rfl (RGoff0 rfl rfl (RGoff0 rfl rfl (RGoff0 rfl rfl (RGoff0 rfl rfl (RGoff0 rfl rfl (RGoff0 rfl rfl (RGoff0 rfl rfl ?_)))))))
     refine R2 (xa6 rfl) rfl rfl (xd2 (by kernel_rfl) (x3 (C_bF rfl rfl ?_)))
     refine x8 ?_
     refine R1 x4 rfl (R1 x4 rfl (R1 x4 rfl (RE (xb1 (0) ti37 rfl rfl) ⟨rfl, trivial⟩ ⟨rfl, trivial⟩ trivial (R3 (xc8 (r := tS [⟨1, false, tI (tbS m k t).lo⟩, ⟨1, false, tI (tbS m k t).hi⟩, ⟨6, true, tVa (tbS m k t).v⟩]) (ts := [(0, tI (tbS m k t).lo), (1, tI (tbS m k t).hi), (2, tVa (tbS m k t).v)]) bu56 zr56.2 ⟨_, rfl⟩ rfl ⟨_, _, _, _, rfl, Up.f (fs := [⟨1, false, (tE (.int .i64 0))⟩, ⟨1, false, (tE (.int .i64 0))⟩, ⟨6, true, (tS [⟨1, false, (tE (.int .u8 0))⟩, ⟨4, true, (tS [⟨2, true, (tS [⟨1, false, (tE (.bool false))⟩, ⟨1, false, (tLm [])⟩])⟩, ⟨2, true, (tS [⟨1, false, (tE (.bool false))⟩, ⟨1, false, (tLm [])⟩])⟩])⟩, ⟨1, false, (tE (.int .i64 0))⟩])⟩]) (f := ⟨1, false, (tE (.int .i64 0))⟩) (fs' := [⟨1, false, tI (tbS m k t).lo⟩, ⟨1, false, (tE (.int .i64 0))⟩, ⟨6, true, (tS [⟨1, false, (tE (.int .u8 0))⟩, ⟨4, true, (tS [⟨2, true, (tS [⟨1, false, (tE (.bool false))⟩, ⟨1, false, (tLm [])⟩])⟩, ⟨2, true, (tS [⟨1, false, (tE (.bool false))⟩, ⟨1, false, (tLm [])⟩])⟩])⟩, ⟨1, false, (tE (.int .i64 0))⟩])⟩]) 0 rfl rfl rfl, inferInstance, ⟨_, _, _, _, rfl, Up.f (fs := [⟨1, false, tI (tbS m k t).lo⟩, ⟨1, false, (tE (.int .i64 0))⟩, ⟨6, true, (tS [⟨1, false, (tE (.int .u8 0))⟩, ⟨4, true, (tS [⟨2, true, (tS [⟨1, false, (tE (.bool false))⟩, ⟨1, false, (tLm [])⟩])⟩, ⟨2, true, (tS [⟨1, false, (tE (.bool false))⟩, ⟨1, false, (tLm [])⟩])⟩])⟩, ⟨1, false, (tE (.int .i64 0))⟩])⟩]) (f := ⟨1, false, (tE (.int .i64 0))⟩) (fs' := [⟨1, false, tI (tbS m k t).lo⟩, ⟨1, false, tI (tbS m k t).hi⟩, ⟨6, true, (tS [⟨1, false, (tE (.int .u8 0))⟩, ⟨4, true, (tS [⟨2, true, (tS [⟨1, false, (tE (.bool false))⟩, ⟨1, false, (tLm [])⟩])⟩, ⟨2, true, (tS [⟨1, false, (tE (.bool false))⟩, ⟨1, false, (tLm [])⟩])⟩])⟩, ⟨1, false, (tE (.int .i64 0))⟩])⟩]) 1 rfl rfl rfl, inferInstance, ⟨_, _, _, _, rfl, Up.f (fs := [⟨1, false, tI (tbS m k t).lo⟩, ⟨1, false, tI (tbS m k t).hi⟩, ⟨6, true, (tS [⟨1, false, (tE (.int .u8 0))⟩, ⟨4, true, (tS [⟨2, true, (tS [⟨1, false, (tE (.bool false))⟩, ⟨1, false, (tLm [])⟩])⟩, ⟨2, true, (tS [⟨1, false, (tE (.bool false))⟩, ⟨1, false, (tLm [])⟩])⟩])⟩, ⟨1, false, (tE (.int .i64 0))⟩])⟩]) (f := ⟨6, true, (tS [⟨1, false, (tE (.int .u8 0))⟩, ⟨4, true, (tS [⟨2, true, (tS [⟨1, false, (tE (.bool false))⟩, ⟨1, false, (tLm [])⟩])⟩, ⟨2, true, (tS [⟨1, false, (tE (.bool false))⟩, ⟨1, false, (tLm [])⟩])⟩])⟩, ⟨1, false, (tE (.int .i64 0))⟩])⟩) (fs' := [⟨1, false, tI (tbS m k t).lo⟩, ⟨1, false, tI (tbS m k t).hi⟩, ⟨6, true, tVa (tbS m k t).v⟩]) 2 rfl rfl rfl, inferInstance, Le.refl⟩⟩⟩) rfl rfl rfl (R1 (xe4 (n := 1) (f := tTs) [(tbS m k t)] Tryz.underlying24 el56 zf56 rfl (fun _ => inferInstance) rfl rfl rfl) rfl (RE (xe7 (k := 3) (k' := 81) (f := tTs) (ys := [(tbS m k t)]) (ts' := rV tTs (xs ++ [(tbS m k t)])) Tryz.underlying24 el56 zf56 rfl rfl (fun _ => inferInstance) xf5 (by simp; omega) (by simp; omega) (by simp [rV]) (n' := xs.length + 1) rfl) ⟨rfl, rfl, trivial⟩ ⟨rfl, trivial⟩ ⟨rfl, trivial⟩ (R1 x5 rfl ?_)))))))
     refine x7 (by kernel_rfl) (x3 ?_)
     refine x8 ?_
     refine R1 x4 rfl (R1 x5 rfl (x7 (by kernel_rfl) (xc0 (x3 ?_))))
     refine x8 ?_
     refine R1 x4 rfl (R2 (xb7 (wr64 (by omega) (by omega))) rfl rfl (R1 x5 rfl (x7 (by kernel_rfl) ?_)))
     have hpx : pst1 xs (tbS m k t) = xs ++ [(tbS m k t)] := by
      have hlt := tbS_lt (m := m) (k := k) (t := t)
      rw [pst1, if_neg (by omega), if_neg (by omega)]
     exact K_famR (l := [3]) (fun j => cond (Nat.beq j 3) 81 (j)) ((k + 1, xs ++ [(tbS m k t)], tbE m k t)) ⟨(by dsimp only; exact ⟨by omega, by rw [← hpx]; exact tbRun_next hk hb ⟨by omega, by omega⟩ (by simp only [tbE, tbF]; omega), by rw [List.length_append]; simp; omega, by simp only [tbE, tbF]; omega, by simp only [tbE, tbF]; omega⟩), (by dsimp only; omega)⟩ (SubR.int rfl (by first | omega | rfl | (dsimp only; omega)) (SubR.int rfl (by first | omega | rfl | (dsimp only; omega)) ((SubR.consI rfl (Imp.of (by dsimp only; rw [List.length_append]; rfl))) (SubR.cons rfl SubR.nil)))) ((SubKR.consI rfl (ImpK.of xe5.symm)) SubKR.nil) (SupG.val (SupG.val (SupG.own rfl (SupG.val SupG.nil)))) (SupH.cons rfl (supJ xc3) SupH.nil) (lkOk rfl) rfl rfl (fun _ h => by cases h)
  ·
   refine xd0 (xb6 (xb6 (xd4 (x3 (x6 ?_)))))
   refine x8 ?_
   refine R1 x4 rfl (RE (xi1 (f := tTs) (xs := xs) (fun _ h => h) (rV_all rfl) rfl) ⟨rfl, trivial⟩ ⟨rfl, trivial⟩ trivial (x7 (by kernel_rfl) (x3 (xa1 ?_))))
   exact xa7 Plain.mk' rfl rfl (Le.of (by rw [tbRun_stop hk hb (.inl (by omega))]))
 ·
  refine RGoff (decide_eq_false h24) rfl rfl (RGoff (decide_eq_false h24) rfl rfl (R2 (xa6 (decide_eq_false h24)) rfl rfl (x7 (by kernel_rfl) (x3 (C_bF rfl rfl (xd0 (xb6 ?_)))))))
  refine xb6 (xd4 (x3 (x6 ?_)))
  refine x8 ?_
  refine R1 x4 rfl (RE (xi1 (f := tTs) (xs := xs) (fun _ h => h) (rV_all rfl) rfl) ⟨rfl, trivial⟩ ⟨rfl, trivial⟩ trivial (x7 (by kernel_rfl) (x3 (xa1 ?_))))
  exact xa7 Plain.mk' rfl rfl (Le.of (by rw [tbRun_stop hk hb (.inl (by omega))]))
theorem c_value05 (l : List Tst) (d : Int) :
  Ct Tryz.prog 16 [tL 8 true tTs l, tI d] (tT [tVa ((valT l d).getD An.va0), tB (valT l d).isSome]) := by
 refine Ct.intro Tryz.func16 rfl Tryz.ntmps16 rfl ?_
 intro w F
 refine C_len (s := 0) rfl (fun hl0 => ?_)
 refine x6 ?_
 refine x8 ?_
 refine RE (xc1 (k := 4) (n := 6) (agg := true) zr37.1 zr37.2 rfl) trivial trivial ⟨rfl, trivial⟩ (R1 x5 rfl (x7 (by kernel_rfl) (x3 (x6 (x6 ?_)))))
 refine x8 ?_
 refine R1 x5 rfl (x7 (by kernel_rfl) (x3 (xa8 ?_)))
 refine xd6 (fun (i : Nat) => i ≤ l.length ∧ ∀ j, j < i → ¬ ((l.getD j tst0).lo ≤ d ∧ d < (l.getD j tst0).hi)) (fun (i : Nat) => upd (upd (upd (upd (fun _ => none) 0 (some (.val (tL 8 true tTs l)))) 1 (some (.val (tI d)))) 4 (some (.own (.ptr 4 0)))) 6 (some (.val (tI i)))) (fun (i : Nat) => upd (fun _ => none) 4 (some (⟨37, 6, true, [.val (tVa An.va0)]⟩))) (nm [4]) (fun (i : Nat) => l.length - i) (0) ⟨Nat.zero_le _, fun j hj => absurd hj (Nat.not_lt_zero _)⟩ (Sub.int rfl (by first | omega | rfl | (dsimp only; omega)) (Sub.cons rfl (Sub.int rfl (by first | omega | rfl | (dsimp only; omega)) (Sub.cons rfl Sub.nil)))) ((SubK.consI rfl ImpK.refl) SubK.nil) (SupG.val (SupG.own rfl (SupG.val (SupG.val SupG.nil)))) (SupH.cons rfl (supJL rfl) SupH.nil) (lkOk rfl) ?_
 intro i hI
 obtain ⟨hi, hj⟩ := hI
 refine x6 (x6 ?_)
 refine x8 ?_
 refine R1 x4 rfl (R1 x4 rfl (R1 (xc4 Tryz.underlying24) rfl (R2 xd5 rfl rfl (x7 (by kernel_rfl) (x3 ?_)))))
 refine xc2 rfl (fun h42 => ?_) (fun h42 => ?_)
 ·
  refine xa2 (x3 (x6 (xa8 (x6 ?_))))
  refine x8 ?_
  refine R1 x4 rfl (R1 x4 rfl (R2 (xb5 sl24 (i) (by omega) (gD (l := l) (n := i) (d := tst0) (by omega))) rfl rfl (R1 (xf4 fo56_0 (At.f 0 rfl rfl) rfl) rfl (R1 (xb8 ti3) rfl (R1 x4 rfl (R2 d_leq rfl rfl (R1 x4 rfl ?_)))))))
  refine RGcaseD (t := 20) rfl (fun h43 => ?_) (fun h43 => ?_)
  ·
   refine RGon (decide_eq_true h43) rfl x4 rfl ⟨rfl, trivial⟩ trivial trivial (RGon (decide_eq_true h43) rfl x4 rfl ⟨rfl, trivial⟩ trivial trivial (RGon (decide_eq_true h43) rfl x4 rfl ⟨rfl, trivial⟩ trivial trivial (RGon (decide_eq_true h43) rfl (xb5 sl24 (i) (by omega) (gD (l := l) (n := i) (d := tst0) (by omega))) rfl ⟨rfl, rfl, trivial⟩ trivial trivial (RGon (decide_eq_true h43) rfl (xf4 fo56_1 (At.f 1 rfl rfl) rfl) rfl ⟨rfl, trivial⟩ trivial trivial (RGon (decide_eq_true h43) rfl (xb8 ti3) rfl ⟨rfl, trivial⟩ trivial trivial (RGon (decide_eq_true h43) rfl xd5 rfl ⟨rfl, rfl, trivial⟩ trivial trivial (R2 (xb2 (decide_eq_true h43)) rfl rfl ?_)))))))
   refine x7 (by kernel_rfl) (x3 ?_)
   refine xc2 rfl (fun h43_2 => ?_) (fun h43_2 => ?_)
   ·
    refine x6 ?_
    refine x8 ?_
    refine R1 x4 rfl (R1 x4 rfl (R2 (xb5 sl24 (i) (by omega) (gD (l := l) (n := i) (d := tst0) (by omega))) rfl rfl (R1 (xf4 fo56_2 (At.f 2 rfl rfl) rfl) rfl (R1 (xb8 ti37) rfl (RE (xa4 (es := 6) (agg := true) (0) ti37 rfl rfl rfl) ⟨rfl, rfl, trivial⟩ ⟨rfl, trivial⟩ trivial (R1 x5 rfl (x7 (by kernel_rfl) ?_)))))))
    refine x3 (xa1 (xc6 (xa5 (xa5 (xc6 (xa5 ?_))))))
    exact xg1 Plain.mk' (rs := [.cell 4 37, .tmp 5]) rfl rfl ⟨⟨_, _, _, _, _, rfl, rfl, ti37, (Le.of (by rw [valT_first (by omega) hj ⟨by omega, by omega⟩]; rfl))⟩, ⟨_, rfl, (Le.bool (by rw [valT_first (by omega) hj ⟨by omega, by omega⟩]; rfl))⟩, trivial⟩
   ·
    refine xa2 (xc0 (x3 ?_))
    refine x8 ?_
    refine R1 x4 rfl (R2 (xb7 (wr64 (by omega) (by omega))) rfl rfl (R1 x5 rfl (x7 (by kernel_rfl) ?_)))
    exact xc5 (i + 1) ⟨⟨by omega, fun j hj2 => by rcases Nat.lt_or_ge j i with h1 | h1; exact hj j h1; rw [show j = i by omega]; omega⟩, (by omega)⟩ (Sub.int rfl (by first | omega | rfl | (dsimp only; omega)) (Sub.cons rfl (Sub.int rfl (by first | omega | rfl | (dsimp only; omega)) (Sub.cons rfl Sub.nil)))) ((SubK.consI rfl ImpK.refl) SubK.nil) (SupG.val (SupG.own rfl (SupG.val (SupG.val SupG.nil)))) (SupH.cons rfl (supJL rfl) SupH.nil) (lkOk rfl)
  ·
   refine RGoff (decide_eq_false h43) rfl rfl (RGoff (decide_eq_false h43) rfl rfl (RGoff (decide_eq_false h43) rfl rfl (RGoff (decide_eq_false h43) rfl rfl (RGoff (decide_eq_false h43) rfl rfl (RGoff (decide_eq_false h43) rfl rfl (RGoff (decide_eq_false h43) rfl rfl (R2 (xa6 (decide_eq_false h43)) rfl rfl ?_)))))))
   refine x7 (by kernel_rfl) (x3 (C_bF rfl rfl (xa2 (xc0 (x3 ?_)))))
   refine x8 ?_
   refine R1 x4 rfl (R2 (xb7 (wr64 (by omega) (by omega))) rfl rfl (R1 x5 rfl (x7 (by kernel_rfl) ?_)))
   exact xc5 (i + 1) ⟨⟨by omega, fun j hj2 => by rcases Nat.lt_or_ge j i with h1 | h1; exact hj j h1; rw [show j = i by omega]; omega⟩, (by omega)⟩ (Sub.int rfl (by first | omega | rfl | (dsimp only; omega)) (Sub.cons rfl (Sub.int rfl (by first | omega | rfl | (dsimp only; omega)) (Sub.cons rfl Sub.nil)))) ((SubK.consI rfl ImpK.refl) SubK.nil) (SupG.val (SupG.own rfl (SupG.val (SupG.val SupG.nil)))) (SupH.cons rfl (supJL rfl) SupH.nil) (lkOk rfl)
 ·
  refine xd0 (xb6 (xb6 (xd4 (x3 (x6 ?_)))))
  refine x8 ?_
  refine R0 (xc8 (r := tS [⟨1, false, (tE (.int .u8 0))⟩, ⟨4, true, (tS [⟨2, true, (tS [⟨1, false, (tE (.bool false))⟩, ⟨1, false, (tLm [])⟩])⟩, ⟨2, true, (tS [⟨1, false, (tE (.bool false))⟩, ⟨1, false, (tLm [])⟩])⟩])⟩, ⟨1, false, (tE (.int .i64 0))⟩]) (ts := []) bu37 zr37.2 ⟨_, rfl⟩ rfl Le.refl)  (RE (xa4 (es := 6) (agg := true) (0) ti37 rfl rfl rfl) ⟨rfl, rfl, trivial⟩ ⟨rfl, trivial⟩ trivial (R1 x5 rfl (x7 (by kernel_rfl) (x3 (xa1 ?_)))))
  exact xg1 Plain.mk' (rs := [.cell 4 37, .tmp 5]) rfl rfl ⟨⟨_, _, _, _, _, rfl, rfl, ti37, (Le.of (by rw [valT_never (fun j hj2 => hj j (by omega))]; rfl))⟩, ⟨_, rfl, (Le.bool (by rw [valT_never (fun j hj2 => hj j (by omega))]; rfl))⟩, trivial⟩
theorem c_look (a b : List Tst) (d : Int) (hla : a.length ≤ 100000) (hlb : b.length ≤ 100000) (hba : ∀ s ∈ a, -100000 ≤ s.lo ∧ s.lo ≤ 100000 ∧ -100000 ≤ s.hi ∧ s.hi ≤ 100000) (hbb : ∀ s ∈ b, -100000 ≤ s.lo ∧ s.lo ≤ 100000 ∧ -100000 ≤ s.hi ∧ s.hi ≤ 100000) :
    Ct Tryz.prog 15 [tL 8 true tTs a, tL 8 true tTs b, tI d] (tL 1 false tI (lkT a b d)) := by
  have htl : tlen [a, b] ≤ 200000 := by simp [tlen]; omega
  have hab : ∀ i, ∀ s ∈ [a, b].getD i [], -100000 ≤ s.lo ∧ s.lo ≤ 100000 ∧ -100000 ≤ s.hi ∧ s.hi ≤ 100000 := fun i s hs => by
    match i, hs with
    | 0, hs => exact hba s hs
    | 1, hs => exact hbb s hs
    | i + 2, hs => simp at hs
  refine Ct.intro Tryz.func15 rfl Tryz.ntmps15 rfl ?_
  intro w F
  refine x6 ?_
  refine x8 ?_
  refine R1 x5 rfl (x7 (by kernel_rfl) (x3 (x6 ?_)))
  refine x8 ?_
  refine R1 x4 rfl (RE (d_sliceOfO (k := 13) (ents := rV tI [d]) Tryz.underlying30 el3 zf3 rfl (fun e he => by simp only [rV, List.map_cons, List.map_nil, List.mem_singleton] at he; subst he; infer_instance) rfl rfl rfl) ⟨rfl, trivial⟩ trivial ⟨rfl, trivial⟩ (R1 x5 rfl (x7 (by kernel_rfl) (x3 (x6 (x6 ?_))))))
  refine x8 ?_
  refine R1 x4 rfl (R1 x4 rfl (R2 (xe4 (n := 2) (f := fun l => tL 8 true tTs l) [a, b] Tryz.underlying92 el24 zf24 rfl (fun _ => inferInstance) rfl rfl rfl) rfl rfl (R1 (xc4 Tryz.underlying92) rfl (R1 x4 rfl (x7 (by kernel_rfl) (x3 (xa8 ?_)))))))
  refine xd6 (fun (fm : (Nat) × (List Int)) => (fun (i : Nat) (xs : List Int) => i ≤ 2 ∧ xs = d :: ([a, b].take i).flatMap eds4) fm.1 fm.2) (fun (fm : (Nat) × (List Int)) => (fun (i : Nat) (xs : List Int) => upd (upd (upd (upd (fun _ => none) 7 (some (.own (.sl 13 1 0 xs.length)))) 16 (some (.val (tL 1 false (fun l => tL 8 true tTs l) [a, b])))) 17 (some (.val (tI 2)))) 18 (some (.val (tI i)))) fm.1 fm.2) (fun (fm : (Nat) × (List Int)) => (fun (i : Nat) (xs : List Int) => upd (fun _ => none) 13 (some (⟨3, 1, false, rV tI xs⟩))) fm.1 fm.2) (nm [13]) (fun (fm : (Nat) × (List Int)) => (fun (i : Nat) (xs : List Int) => 2 - i) fm.1 fm.2) ((0, [d])) (by dsimp only; exact ⟨Nat.zero_le _, rfl⟩) (Sub.int rfl (by first | omega | rfl | (dsimp only; omega)) (Sub.int rfl (by first | omega | rfl | (dsimp only; omega)) (Sub.cons rfl (Sub.cons rfl Sub.nil)))) ((SubK.consI rfl ImpK.refl) SubK.nil) (SupG.val (SupG.val (SupG.val (SupG.own rfl SupG.nil)))) (SupH.cons rfl (supJ xc3) SupH.nil) (lkOk rfl) ?_
  intro fm hI
  obtain ⟨i, xs⟩ := fm
  replace hI : i ≤ 2 ∧ xs = d :: ([a, b].take i).flatMap eds4 := hI
  show wc _ _ _ _ (upd (upd (upd (upd (fun _ => none) 7 (some (.own (.sl 13 1 0 xs.length)))) 16 (some (.val (tL 1 false (fun l => tL 8 true tTs l) [a, b])))) 17 (some (.val (tI 2)))) 18 (some (.val (tI i)))) (upd (fun _ => none) 13 (some (⟨3, 1, false, rV tI xs⟩))) _
  obtain ⟨hi, hx⟩ := hI
  refine x6 ?_
  refine x8 ?_
  refine R2 xd5 rfl rfl (x7 (by kernel_rfl) (x3 (x6 ?_)))
  refine xc2 rfl (fun h53 => ?_) (fun h53 => ?_)
  ·
    refine xa2 (x3 (x6 (xa8 (x6 ?_))))
    refine x8 ?_
    refine R2 (xb5 sl92 (i) (by omega) (gD (l := [a, b]) (n := i) (d := []) (by simp; omega))) rfl rfl (R1 (xb8 ti24) rfl (R1 x5 rfl (x7 (by kernel_rfl) (x3 (x6 ?_)))))
    refine x8 ?_
    refine R1 x4 rfl (R1 (xc4 Tryz.underlying24) rfl (R1 x4 rfl (x7 (by kernel_rfl) (x3 (xa8 ?_)))))
    refine C_len (s := 22) rfl (fun hl0 => ?_)
    have htk := tlen_take (ls := [a, b]) (i := i) (by simp; omega)
    refine xd6 (fun (fm : (Nat) × (List Int)) => (fun (j : Nat) (xs : List Int) => j ≤ ([a, b].getD i []).length ∧ xs = d :: (([a, b].take i).flatMap eds4 ++ eds4 (([a, b].getD i []).take j))) fm.1 fm.2) (fun (fm : (Nat) × (List Int)) => (fun (j : Nat) (xs : List Int) => upd (upd (upd (upd (upd (upd (upd (fun _ => none) 7 (some (.own (.sl 13 1 0 xs.length)))) 16 (some (.val (tL 1 false (fun l => tL 8 true tTs l) [a, b])))) 17 (some (.val (tI 2)))) 18 (some (.val (tI i)))) 22 (some (.val (tL 8 true tTs ([a, b].getD i []))))) 23 (some (.val (tI ([a, b].getD i []).length)))) 24 (some (.val (tI j)))) fm.1 fm.2) (fun (fm : (Nat) × (List Int)) => (fun (j : Nat) (xs : List Int) => upd (fun _ => none) 13 (some (⟨3, 1, false, rV tI xs⟩))) fm.1 fm.2) (nm [13]) (fun (fm : (Nat) × (List Int)) => (fun (j : Nat) (xs : List Int) => ([a, b].getD i []).length - j) fm.1 fm.2) ((0, xs)) (by dsimp only; exact ⟨Nat.zero_le _, by rw [List.take_zero, hx]; simp [eds4]⟩) (Sub.int rfl (by first | omega | rfl | (dsimp only; omega)) (Sub.int rfl (by first | omega | rfl | (dsimp only; omega)) (Sub.cons rfl (Sub.int rfl (by first | omega | rfl | (dsimp only; omega)) (Sub.int rfl (by first | omega | rfl | (dsimp only; omega)) (Sub.cons rfl (Sub.cons rfl Sub.nil))))))) ((SubK.consI rfl ImpK.refl) SubK.nil) (SupG.val (SupG.val (SupG.val (SupG.val (SupG.val (SupG.val (SupG.own rfl SupG.nil))))))) (SupH.cons rfl (supJ xc3) SupH.nil) (lkOk rfl) ?_
    intro fm hI2
    obtain ⟨j, xs⟩ := fm
    replace hI2 : j ≤ ([a, b].getD i []).length ∧ xs = d :: (([a, b].take i).flatMap eds4 ++ eds4 (([a, b].getD i []).take j)) := hI2
    show wc _ _ _ _ (upd (upd (upd (upd (upd (upd (upd (fun _ => none) 7 (some (.own (.sl 13 1 0 xs.length)))) 16 (some (.val (tL 1 false (fun l => tL 8 true tTs l) [a, b])))) 17 (some (.val (tI 2)))) 18 (some (.val (tI i)))) 22 (some (.val (tL 8 true tTs ([a, b].getD i []))))) 23 (some (.val (tI ([a, b].getD i []).length)))) 24 (some (.val (tI j)))) (upd (fun _ => none) 13 (some (⟨3, 1, false, rV tI xs⟩))) _
    obtain ⟨hj, hx2⟩ := hI2
    have hxl : xs.length = 1 + 4 * tlen ([a, b].take i) + 4 * j := by rw [hx2, List.length_cons, List.length_append, flat4_len, eds4_len, List.length_take, Nat.min_eq_left hj]; omega
    refine x6 ?_
    refine x8 ?_
    refine R2 xd5 rfl rfl (x7 (by kernel_rfl) (x3 (x6 ?_)))
    refine xc2 rfl (fun h54 => ?_) (fun h54 => ?_)
    ·
      refine xa2 (x3 (x6 (xa8 (x6 ?_))))
      refine x8 ?_
      have hs := hab i (([a, b].getD i []).getD j tst0) (xf1 (by omega))
      refine R2 (xb5 sl24 (j) (by omega) (gD (l := ([a, b].getD i [])) (n := j) (d := tst0) (by omega))) rfl rfl (R1 (xb8 ti56) rfl (RE (xc1 (k := 11) (n := 8) (agg := true) zr56.1 zr56.2 rfl) trivial trivial ⟨rfl, trivial⟩ (RE (xa4 (es := 8) (agg := true) (0) ti56 rfl rfl rfl) ⟨rfl, rfl, trivial⟩ ⟨rfl, trivial⟩ trivial (x7 (by kernel_rfl) (x3 ?_)))))
      refine x8 ?_
      refine R1 x4 rfl (R1 (x9 fo56_0 rfl) rfl (xa3 (0) ti3 rfl rfl rfl (At.g 0 rfl rfl) rfl (R2 (xe3 (wr64 (by omega) (by omega))) rfl rfl (R1 (x9 fo56_0 rfl) rfl (xa3 (0) ti3 rfl rfl rfl (At.g 0 rfl rfl) rfl (R1 (x9 fo56_1 rfl) rfl (xa3 (0) ti3 rfl rfl rfl (At.g 1 rfl rfl) rfl ?_)))))))
      refine R2 (xe3 (wr64 (by omega) (by omega))) rfl rfl (R1 (x9 fo56_1 rfl) rfl (xa3 (0) ti3 rfl rfl rfl (At.g 1 rfl rfl) rfl (RE (xe4 (n := 4) (f := fun n : Int => tI n) [(([a, b].getD i []).getD j tst0).lo - 1, (([a, b].getD i []).getD j tst0).lo, (([a, b].getD i []).getD j tst0).hi - 1, (([a, b].getD i []).getD j tst0).hi] Tryz.underlying30 el3 zf3 rfl (fun _ => inferInstance) rfl rfl rfl) ⟨rfl, rfl, rfl, rfl, trivial⟩ trivial trivial (RE (xe7 (k := 13) (k' := 40) (f := fun n : Int => tI n) (ys := [(([a, b].getD i []).getD j tst0).lo - 1, (([a, b].getD i []).getD j tst0).lo, (([a, b].getD i []).getD j tst0).hi - 1, (([a, b].getD i []).getD j tst0).hi]) (ts' := rV tI (xs ++ [(([a, b].getD i []).getD j tst0).lo - 1, (([a, b].getD i []).getD j tst0).lo, (([a, b].getD i []).getD j tst0).hi - 1, (([a, b].getD i []).getD j tst0).hi])) Tryz.underlying30 el3 zf3 rfl rfl (fun _ => inferInstance) xf5 (by simp; omega) (by simp; omega) (by simp [rV]) (n' := xs.length + 4) rfl) ⟨rfl, rfl, trivial⟩ ⟨rfl, trivial⟩ ⟨rfl, trivial⟩ (R1 x5 rfl (x7 (by kernel_rfl) (xc0 ?_)))))))
      refine x3 ?_
      refine x8 ?_
      refine R2 (xb7 (wr64 (by omega) (by omega))) rfl rfl (R1 x4 rfl (x7 (by kernel_rfl) ?_))
      exact K_famR (l := [13]) (fun j => cond (Nat.beq j 13) 40 (j)) ((j + 1, xs ++ [(([a, b].getD i []).getD j tst0).lo - 1, (([a, b].getD i []).getD j tst0).lo, (([a, b].getD i []).getD j tst0).hi - 1, (([a, b].getD i []).getD j tst0).hi])) ⟨(by dsimp only; exact ⟨by omega, by rw [eds4_snoc (by omega), ← List.append_assoc, hx2]; rfl⟩), (by dsimp only; omega)⟩ (SubR.int rfl (by first | omega | rfl | (dsimp only; omega)) (SubR.int rfl (by first | omega | rfl | (dsimp only; omega)) (SubR.cons rfl (SubR.int rfl (by first | omega | rfl | (dsimp only; omega)) (SubR.int rfl (by first | omega | rfl | (dsimp only; omega)) (SubR.cons rfl ((SubR.consI rfl (Imp.of (by dsimp only; rw [List.length_append]; rfl))) SubR.nil))))))) ((SubKR.consI rfl (ImpK.of xe5.symm)) SubKR.nil) (SupG.val (SupG.val (SupG.val (SupG.val (SupG.val (SupG.val (SupG.own rfl SupG.nil))))))) (SupH.cons rfl (supJ xc3) SupH.nil) (lkOk rfl) rfl rfl (fun _ h => by cases h)
    ·
      refine xd0 (xb6 (xb6 (xd4 (xc0 (x3 ?_)))))
      refine x8 ?_
      refine R2 (xb7 (wr64 (by omega) (by omega))) rfl rfl (R1 x4 rfl (x7 (by kernel_rfl) ?_))
      have hje : j = ([a, b].getD i []).length := by omega
      subst hje
      exact xc5 ((i + 1, xs)) ⟨(by dsimp only; exact ⟨by omega, by rw [flat4_snoc (by simp; omega), hx2, List.take_length]⟩), (by dsimp only; omega)⟩ (Sub.int rfl (by first | omega | rfl | (dsimp only; omega)) (Sub.int rfl (by first | omega | rfl | (dsimp only; omega)) (Sub.cons rfl (Sub.cons rfl Sub.nil)))) ((SubK.consI rfl ImpK.refl) SubK.nil) (SupG.val (SupG.val (SupG.val (SupG.own rfl SupG.nil)))) (SupH.cons rfl (supJ xc3) SupH.nil) (lkOk rfl)
  ·
    refine xd0 (xb6 (xb6 (xd4 (x3 (x6 ?_)))))
    refine x8 ?_
    refine R1 x4 rfl (RE (xi1 (f := tI) (xs := xs) (fun _ h => h) (rV_all rfl) rfl) ⟨rfl, trivial⟩ ⟨rfl, trivial⟩ trivial (x7 (by kernel_rfl) (x3 (xa1 ?_))))
    exact xa7 Plain.mk' rfl rfl (Le.of (by rw [hx, show i = 2 by omega]; rfl))
end An.S

/- What the readers of law 5 read: lists of numbers, numbers. -/
namespace An.S
open Go Go.Proofs An
open Go.ChangeShapes Go.WideShapes Go.ChangeAt Go.RowKit
set_option maxRecDepth 100000
theorem own : ownKnob Tryz.prog.godebug = none := by kernel_rfl
theorem laidOut : laidOutB Tryz.prog = true := by kernel_rfl
theorem oInt : Opn Tryz.prog 3 1 false (fun n : Int => tI n) (fun n => IntKind.i64.min ≤ n ∧ n ≤ IntKind.i64.max) := Opn.int Tryz.underlying3 (by kernel_rfl)
theorem oU16 : Opn Tryz.prog 73 1 false (fun n : Nat => tE (.int .u16 n)) (fun n => n < 65536) := Opn.nat Tryz.underlying73 (by kernel_rfl) rfl rfl
theorem oLm : Opn Tryz.prog 22 1 false (fun l : List Nat => tLm l) (fun l => Dig 65536 l) := (Opn.slice Tryz.underlying22 (by kernel_rfl) oU16).as id (fun _ => rfl) (fun _ h => h)
/-- What a contract says, as the frame of a statement wants it. -/
theorem walked {f : FuncId} {ts : List Ty} (h : Ct Tryz.prog f ts (tB true)) {vs : List Value} {W : World} (ha : Tup.all (Old W) W ts vs) : Calls Tryz.prog f vs.toArray W fun e W' => e = .returned (.bool true) ∧ Ext W W' :=
  (h (Old W) W vs ha).mono fun e W' ⟨v, h1, h2, h3⟩ => by
    have h3 : v = .bool true := h3
    subst h3; exact ⟨h1, h2⟩
end An.S

/- Law 5: what Built makes; contracts at timelines of one kind; the examples of the chapter. -/
namespace An.S
open Go Go.Proofs An
set_option maxHeartbeats 2000000
set_option maxRecDepth 100000
theorem fi13 : FnI Tryz.prog 13 := ⟨_, Tryz.func13, by kernel_rfl, rfl⟩
theorem fi17 : FnI Tryz.prog 17 := ⟨_, Tryz.func17, by kernel_rfl, rfl⟩
theorem fi21 : FnI Tryz.prog 21 := ⟨_, Tryz.func21, by kernel_rfl, rfl⟩
theorem fi22 : FnI Tryz.prog 22 := ⟨_, Tryz.func22, by kernel_rfl, rfl⟩
theorem fi24 : FnI Tryz.prog 24 := ⟨_, Tryz.func24, by kernel_rfl, rfl⟩
theorem fi32 : FnI Tryz.prog 32 := ⟨_, Tryz.func32, by kernel_rfl, rfl⟩
theorem fi34 : FnI Tryz.prog 34 := ⟨_, Tryz.func34, by kernel_rfl, rfl⟩
theorem fi35 : FnI Tryz.prog 35 := ⟨_, Tryz.func35, by kernel_rfl, rfl⟩
theorem fi37 : FnI Tryz.prog 37 := ⟨_, Tryz.func37, by kernel_rfl, rfl⟩
theorem fi43 : FnI Tryz.prog 43 := ⟨_, Tryz.func43, by kernel_rfl, rfl⟩
theorem fi44 : FnI Tryz.prog 44 := ⟨_, Tryz.func44, by kernel_rfl, rfl⟩
theorem fi45 : FnI Tryz.prog 45 := ⟨_, Tryz.func45, by kernel_rfl, rfl⟩
def plW : List Int := [0, 84, 42, -63, 140, 786444, -84, 92358976733184]
def tB5 : Int := 92358976733184
theorem plV_ok (n : Nat) : gOk 2 84 tB5 (plV n) := by
  have key : ∀ m : Fin 8, kfr (plP.getD m.val (0, 1)).1 (plP.getD m.val (0, 1)).2 = Rat.divInt (plW.getD m.val 0) 84 ∧ -92358976733184 ≤ plW.getD m.val 0 ∧ plW.getD m.val 0 ≤ 92358976733184 := by decide +kernel
  have h := key ⟨n % 8, Nat.mod_lt _ (by decide)⟩
  have e : kfr (plQ n).1 (plQ n).2 = Rat.divInt (plW.getD (n % 8) 0) 84 := h.1
  rw [plV, e]
  exact gOk.mk (.inl rfl) (by decide) (by decide) h.2.1 h.2.2 (by decide)
abbrev isT (l : List Tst) : Prop := isG 2 84 tB5 l
theorem tbRun_isG {m : List Nat} : ∀ (f k : Nat) (out : List Tst) (t : Int), isT out → 0 ≤ t → (0 < out.length → (out.getD (out.length - 1) tst0).hi ≤ t) → isT (tbRun m f k out t) ∧ (tbRun m f k out t).length ≤ out.length + f
  | 0, _, out, _, h, _, _ => ⟨h, Nat.le_refl _⟩
  | f + 1, k, out, t, h, ht, hl => by
    rw [tbRun]
    split
    · split
      · exact ⟨h, by omega⟩
      · rename_i he
        have hF : t ≤ tbF m k t := by simp only [tbF]; omega
        have hE : tbF m k t < tbE m k t := by simp only [tbE]; omega
        have h1 : isT (An.pst1 out (tbS m k t)) := h.pst1 (by show 0 ≤ tbF m k t; omega) (by show tbE m k t ≤ 65536; omega) (plV_ok _) fun hp => by have := hl hp; show _ ≤ tbF m k t; omega
        have h2 := pst1_last (l := out) (tbS_lt (m := m) (k := k) (t := t))
        have h3 := tbRun_isG (m := m) f (k + 1) _ (tbE m k t) h1 (by omega) fun _ => by rw [h2.2.1]; exact Int.le_refl _
        have h4 := pst1_len out (tbS m k t)
        exact ⟨h3.1, by omega⟩
    · exact ⟨h, by omega⟩
theorem tbT_ok (m : List Nat) : isT (tbT m) ∧ (tbT m).length ≤ 41 := by
  have := tbRun_isG (m := m) 41 0 [] 0 isG_nil (Int.le_refl _) fun h => by cases h
  exact ⟨this.1, by have := this.2; simp at this; exact this⟩
/-- Two ascending lists with the same members. -/
theorem asc_eq : ∀ {a b : List Int}, a.Pairwise (· < ·) → b.Pairwise (· < ·) → (∀ x, x ∈ a ↔ x ∈ b) → a = b
  | [], [], _, _, _ => rfl
  | [], y :: s, _, _, h => absurd ((h y).2 (List.mem_cons_self ..)) (List.not_mem_nil)
  | x :: r, [], _, _, h => absurd ((h x).1 (List.mem_cons_self ..)) (List.not_mem_nil)
  | x :: r, y :: s, ha, hb, h => by
    have pa := List.pairwise_cons.1 ha
    have pb := List.pairwise_cons.1 hb
    have hxy : x = y := by
      rcases List.mem_cons.1 ((h x).1 (List.mem_cons_self ..)) with e | h1
      · exact e
      · rcases List.mem_cons.1 ((h y).2 (List.mem_cons_self ..)) with e | h2
        · exact e.symm
        · have := pa.1 y h2; have := pb.1 x h1; omega
    subst hxy
    congr 1
    refine asc_eq pa.2 pb.2 fun z => ⟨fun hz => ?_, fun hz => ?_⟩
    · rcases List.mem_cons.1 ((h z).1 (List.mem_cons_of_mem _ hz)) with e | h1
      · have := pa.1 z hz; omega
      · exact h1
    · rcases List.mem_cons.1 ((h z).2 (List.mem_cons_of_mem _ hz)) with e | h1
      · have := pb.1 z hz; omega
      · exact h1
theorem brd_eq {xs l : List Int} (h : l.Pairwise (· < ·)) (hm : ∀ x, x ∈ l ↔ x ∈ xs) : brd xs = l := asc_eq (brd_spec xs).1 h fun x => ((brd_spec xs).2 x).trans (hm x).symm
/-! Contracts. -/
section
variable {K : Nat} {D B : Int} {l a b : List Tst}
theorem isG.kind (ha : isG K D B a) (hb : isG K D B b) : jnC a b := by
  refine ⟨⟨ha.1, hb.1⟩, fun h => h.2.2 ?_⟩
  rw [(ha.2 _ (xf1 (l := a) (i := 0) h.1)).1.2.1, (hb.2 _ (xf1 (l := b) (i := 0) h.2.1)).1.2.1]
theorem c_CutG (x y : Int) (h : isG K D B l) (hl : l.length ≤ 200000) (hxy : Sn.ok ⟨x, y⟩ = true) : Ct Tryz.prog 20 [tL 8 true tTs l, tI x, tI y] (tT [tL 8 true tTs (cutT l x y), tI 0]) := by
  have := c_Cut l x y (by omega) h.dig
  rw [if_pos ⟨h.1, hxy⟩, if_pos ⟨h.1, hxy⟩] at this; exact this
theorem c_WithoutG (x y : Int) (h : isG K D B l) (hl : l.length ≤ 200000) (hxy : Sn.ok ⟨x, y⟩ = true) : Ct Tryz.prog 21 [tL 8 true tTs l, tI x, tI y] (tT [tL 8 true tTs (woT l x y), tI 0]) := by
  have := c_Without l x y hl h.dig
  rw [if_pos ⟨h.1, hxy⟩, if_pos ⟨h.1, hxy⟩] at this; exact this
theorem c_JoinG (ha : isG K D B a) (hb : isG K D B b) (hla : a.length ≤ 200000) (hlb : b.length ≤ 200000) : Ct Tryz.prog 13 [tL 8 true tTs a, tL 8 true tTs b] (tT [tL 8 true tTs (jnT a b), tI 0]) := by
  have := c_TJoin a b hla hlb ha.dig hb.dig
  rw [if_pos (ha.kind hb), if_pos (ha.kind hb)] at this; exact this
theorem c_SumG (x y : Int) (hK : K = 2 ∨ K = 3) (hD : 0 < D) (hDb : D ≤ 9223372036854775807) (hB0 : 0 ≤ B) (hB : B ≤ 140737488355327) (h : isG K D B l) (hl : l.length ≤ 200000) (hxy : Sn.ok ⟨x, y⟩ = true) : Ct Tryz.prog 24 [tL 8 true tTs l, tI x, tI y] (tT [tFr (fr (Rat.divInt (gS (wt D) l x y) D)), tI 0]) := by
  have h2 := h.sum hK hD hDb hB0 hB hxy
  have := c_TSum l x y (by omega) h.dig
  rw [if_pos h2.1, if_pos h2.1, h2.2] at this; exact this
theorem c_CoversG (h : isG K D B l) (hl : l.length ≤ 200000) : Ct Tryz.prog 34 [tL 8 true tTs l] (tL 2 true tSn (cvT l)) := by
  have := c_Covers l hl h.dig
  rw [if_pos h.1] at this; exact this
theorem c_ChangesG (h : isG K D B l) (hl : l.length ≤ 200000) : Ct Tryz.prog 35 [tL 8 true tTs l] (tL 1 false tI (bds [l])) := by
  have := c_Changes l hl h.dig
  rw [if_pos h.1] at this; exact this
theorem c_DiffG (ha : isG K D B a) (hb : isG K D B b) (hla : a.length ≤ 200000) (hlb : b.length ≤ 200000) : Ct Tryz.prog 32 [tL 8 true tTs a, tL 8 true tTs b] (tT [tL 2 true tSn (dfS a b), tI 0]) := by
  have := c_TDiff a b hla hlb ha.dig hb.dig
  rw [if_pos ⟨ha.1, hb.1⟩, if_pos ⟨ha.1, hb.1⟩] at this; exact this
theorem c_AtG (d : Int) (h : isG K D B l) (hl : l.length ≤ 200000) : Ct Tryz.prog 17 [tL 8 true tTs l, tI d] (tT [tVa ((valT l d).getD An.va0), tB (valT l d).isSome]) := by
  have := c_At l d (by omega) h.dig
  rw [atR, if_pos h.1] at this; exact this
end
theorem c_sameFv (f g : Fr) (e : f = g) : Ct Tryz.prog 26 [tFr f, tFr g] (tB true) := by
  have h := c_SameFrac f g
  rw [decide_eq_true e] at h; exact h
theorem c_sameTv (u w : List Tst) (e : u = w) : Ct Tryz.prog 22 [tL 8 true tTs u, tL 8 true tTs w] (tB true) := by
  have h := c_SameSteps u w
  rw [decide_eq_true e] at h; exact h
theorem c_sameSv (u w : List Sn) (e : u = w) : Ct Tryz.prog 37 [tL 2 true tSn u, tL 2 true tSn w] (tB true) := by
  have h := c_SameSpans u w
  rw [decide_eq_true e] at h; exact h
theorem c_sameIv (u w : List Int) (e : u = w) : Ct Tryz.prog 45 [tL 1 false tI u, tL 1 false tI w] (tB true) := by
  have h := c_SameInts u w
  rw [decide_eq_true e] at h; exact h
theorem c_sameVv (u w : Va) (e : u = w) : Ct Tryz.prog 18 [tVa u, tVa w] (tB true) := by
  have h := c_SameValue u w
  rw [decide_eq_true e] at h; exact h
theorem isG.bd5 {K : Nat} {D B : Int} {l : List Tst} (h : isG K D B l) : ∀ s ∈ l, -100000 ≤ s.lo ∧ s.lo ≤ 100000 ∧ -100000 ≤ s.hi ∧ s.hi ≤ 100000 := fun s hs => by
  have := h.bd s hs; omega
/-! The examples of the chapter. -/
def xv (n d : Int) : Va := ⟨2, fr (kfr n d), 0⟩
def exA : List Tst := [⟨0, 10, xv 1 2⟩, ⟨10, 30, xv 1 1⟩]
def exB : List Tst := [⟨8, 12, xv 0 1⟩]
def exC : List Tst := [⟨10, 12, xv 1 2⟩]
theorem xv_ok : gOk 2 84 tB5 (xv 1 2) ∧ gOk 2 84 tB5 (xv 1 1) ∧ gOk 2 84 tB5 (xv 0 1) := by
  have e1 : kfr 1 2 = Rat.divInt 42 84 := by decide +kernel
  have e2 : kfr 1 1 = Rat.divInt 84 84 := by decide +kernel
  have e3 : kfr 0 1 = Rat.divInt 0 84 := by decide +kernel
  rw [xv, xv, xv, e1, e2, e3]
  exact ⟨gOk.mk (.inl rfl) (by decide) (by decide) (by decide) (by decide) (by decide), gOk.mk (.inl rfl) (by decide) (by decide) (by decide) (by decide) (by decide), gOk.mk (.inl rfl) (by decide) (by decide) (by decide) (by decide) (by decide)⟩
theorem exA_ok : isT exA := ⟨by decide +kernel, fun s hs => by
  simp only [exA, List.mem_cons, List.not_mem_nil, or_false] at hs
  rcases hs with rfl | rfl
  · exact xv_ok.1
  · exact xv_ok.2.1⟩
theorem exB_ok : isT exB := ⟨by decide +kernel, fun s hs => by
  simp only [exB, List.mem_cons, List.not_mem_nil, or_false] at hs
  rcases hs with rfl
  exact xv_ok.2.2⟩
theorem exC_ok : isT exC := ⟨by decide +kernel, fun s hs => by
  simp only [exC, List.mem_cons, List.not_mem_nil, or_false] at hs
  rcases hs with rfl
  exact xv_ok.1⟩
theorem exCut : cutT exA 5 20 = [⟨5, 10, xv 1 2⟩, ⟨10, 20, xv 1 1⟩] := by decide +kernel
theorem exCut2 : cutT exA 0 12 = [⟨0, 10, xv 1 2⟩, ⟨10, 12, xv 1 1⟩] := by decide +kernel
theorem exWo : woT exA 5 20 = [⟨0, 5, xv 1 2⟩, ⟨20, 30, xv 1 1⟩] := by decide +kernel
theorem mem_dec {l xs : List Int} (h1 : l.all (fun x => decide (x ∈ xs)) = true) (h2 : xs.all (fun x => decide (x ∈ l)) = true) : ∀ x, x ∈ l ↔ x ∈ xs := fun x => ⟨fun h => of_decide_eq_true (List.all_eq_true.1 h1 x h), fun h => of_decide_eq_true (List.all_eq_true.1 h2 x h)⟩
theorem exJB : jnT exA exB = [⟨0, 8, xv 1 2⟩, ⟨8, 12, xv 0 1⟩, ⟨12, 30, xv 1 1⟩] := by
  have e : bds [exA, exB] = [0, 8, 10, 12, 30] := brd_eq (by decide) (mem_dec (by decide) (by decide))
  rw [jnT, e]; decide +kernel
theorem exJC : jnT exA exC = [⟨0, 12, xv 1 2⟩, ⟨12, 30, xv 1 1⟩] := by
  have e : bds [exA, exC] = [0, 10, 12, 30] := brd_eq (by decide) (mem_dec (by decide) (by decide))
  rw [jnT, e]; decide +kernel
theorem exCh : bds [exA] = [0, 10, 30] := brd_eq (by decide) (mem_dec (by decide) (by decide))
theorem exCv : cvT exA = [⟨0, 30⟩] := by
  rw [cvT, mkS_asc (cvS_asc exA_ok.1)]; decide +kernel
theorem exDf : dfS exA (cutT exA 0 12) = [⟨12, 30⟩] := by
  have e : bds [exA, [⟨0, 10, xv 1 2⟩, ⟨10, 12, xv 1 1⟩]] = [0, 10, 12, 30] := brd_eq (by decide) (mem_dec (by decide) (by decide))
  rw [dfS, mkS_asc (dfT_asc exA_ok.1 exA_ok.cut.1), dfT_map, exCut2, e]
  decide +kernel
theorem exSum : fr (Rat.divInt (gS (wt 84) exA 5 20) 84) = fr (kfr 25 2) := congrArg fr (by decide +kernel)
theorem c_awake05  :
  Ct Tryz.prog 11 [] (tB true) := by
 refine Ct.intro Tryz.func11 rfl Tryz.ntmps11 rfl ?_
 intro w F
 refine x6 ?_
 refine x8 ?_
 refine R1 x5 rfl (x7 (by kernel_rfl) (x3 (x6 ?_)))
 refine x8 ?_
 refine RE (xa0 (xh3 0 10 1 2 (by decide) (by decide) (by decide) (by decide)) fi44 rfl) ⟨rfl, rfl, rfl, rfl, trivial⟩ trivial trivial (RE (xa0 (xh3 10 30 1 1 (by decide) (by decide) (by decide) (by decide)) fi44 rfl) ⟨rfl, rfl, rfl, rfl, trivial⟩ trivial trivial (R2 (xe4 (n := 2) (f := tTs) [(⟨0, 10, xv 1 2⟩ : Tst), (⟨10, 30, xv 1 1⟩ : Tst)] Tryz.underlying24 el56 zf56 rfl (fun _ => inferInstance) rfl rfl rfl) rfl rfl (R1 (xa0 (c_steps [(⟨0, 10, xv 1 2⟩ : Tst), (⟨10, 30, xv 1 1⟩ : Tst)]) fi43 rfl) rfl (R1 x5 rfl (x7 (by kernel_rfl) (x3 (x6 ?_)))))))
 refine x8 ?_
 refine R1 x4 rfl (R2 (xa0 (c_AtG (l := exA) 9 exA_ok (by decide)) fi17 rfl) rfl rfl (R1 x4 rfl (R1 (xa9 rfl) rfl (R1 (xa9 rfl) rfl (RE (xc1 (k := 2) (n := 6) (agg := true) zr37.1 zr37.2 rfl) trivial trivial ⟨rfl, trivial⟩ (RE (xa4 (es := 6) (agg := true) (0) ti37 rfl rfl rfl) ⟨rfl, rfl, trivial⟩ ⟨rfl, trivial⟩ trivial (R1 x5 rfl ?_)))))))
 refine x7 (by kernel_rfl) (x3 (x6 ?_))
 refine x8 ?_
 refine R1 x4 rfl (R2 (xa0 (c_AtG (l := exA) 30 exA_ok (by decide)) fi17 rfl) rfl rfl (R1 x4 rfl (R1 (xa9 rfl) rfl (R1 (xa9 rfl) rfl (RE (xc1 (k := 4) (n := 6) (agg := true) zr37.1 zr37.2 rfl) trivial trivial ⟨rfl, trivial⟩ (RE (xa4 (es := 6) (agg := true) (0) ti37 rfl rfl rfl) ⟨rfl, rfl, trivial⟩ ⟨rfl, trivial⟩ trivial (R1 x5 rfl ?_)))))))
 refine x7 (by kernel_rfl) (x3 (x6 ?_))
 refine x8 ?_
 refine R1 x4 rfl (R3 (xa0 (c_SumG (l := exA) 5 20 (.inl rfl) (by decide) (by decide) (by decide) (by decide) exA_ok (by decide) (by decide)) fi24 rfl) rfl rfl rfl (R1 x4 rfl (R1 (xa9 rfl) rfl (R1 (xa9 rfl) rfl (RE (xc1 (k := 6) (n := 4) (agg := true) zr35.1 zr35.2 rfl) trivial trivial ⟨rfl, trivial⟩ (RE (xa4 (es := 4) (agg := true) (0) ti35 rfl rfl rfl) ⟨rfl, rfl, trivial⟩ ⟨rfl, trivial⟩ trivial (R1 x5 rfl ?_)))))))
 refine x7 (by kernel_rfl) (x3 (x6 ?_))
 refine x8 ?_
 refine R1 x4 rfl (R3 (xa0 (c_CutG (l := exA) 5 20 exA_ok (by decide) (by decide)) fi20 rfl) rfl rfl rfl (R1 x4 rfl (R1 (xa9 rfl) rfl (R1 (xa9 rfl) rfl (R1 x5 rfl (R1 x5 rfl (x7 (by kernel_rfl) ?_)))))))
 refine x3 (x6 ?_)
 refine x8 ?_
 refine R1 x4 rfl (R3 (xa0 (c_WithoutG (l := exA) 5 20 exA_ok (by decide) (by decide)) fi21 rfl) rfl rfl rfl (R1 x4 rfl (R1 (xa9 rfl) rfl (R1 (xa9 rfl) rfl (R1 x5 rfl (R1 x5 rfl (x7 (by kernel_rfl) ?_)))))))
 refine x3 (x6 ?_)
 refine x8 ?_
 refine R1 x4 rfl (RE (xa0 (xh3 8 12 0 1 (by decide) (by decide) (by decide) (by decide)) fi44 rfl) ⟨rfl, rfl, rfl, rfl, trivial⟩ trivial trivial (R1 (xe4 (n := 1) (f := tTs) [(⟨8, 12, xv 0 1⟩ : Tst)] Tryz.underlying24 el56 zf56 rfl (fun _ => inferInstance) rfl rfl rfl) rfl (R1 (xa0 (c_steps [(⟨8, 12, xv 0 1⟩ : Tst)]) fi43 rfl) rfl (R2 (xa0 (c_JoinG (a := exA) (b := exB) exA_ok exB_ok (by decide) (by decide)) fi13 rfl) rfl rfl (R1 x4 rfl (R1 (xa9 rfl) rfl (R1 (xa9 rfl) rfl ?_)))))))
 refine R1 x5 rfl (R1 x5 rfl (x7 (by kernel_rfl) (x3 (x6 ?_))))
 refine x8 ?_
 refine R1 x4 rfl (RE (xa0 (xh3 10 12 1 2 (by decide) (by decide) (by decide) (by decide)) fi44 rfl) ⟨rfl, rfl, rfl, rfl, trivial⟩ trivial trivial (R1 (xe4 (n := 1) (f := tTs) [(⟨10, 12, xv 1 2⟩ : Tst)] Tryz.underlying24 el56 zf56 rfl (fun _ => inferInstance) rfl rfl rfl) rfl (R1 (xa0 (c_steps [(⟨10, 12, xv 1 2⟩ : Tst)]) fi43 rfl) rfl (R2 (xa0 (c_JoinG (a := exA) (b := exC) exA_ok exC_ok (by decide) (by decide)) fi13 rfl) rfl rfl (R1 x4 rfl (R1 (xa9 rfl) rfl (R1 (xa9 rfl) rfl ?_)))))))
 refine R1 x5 rfl (R1 x5 rfl (x7 (by kernel_rfl) (x3 (x6 ?_))))
 refine x8 ?_
 refine R1 x4 rfl (R3 (xa0 (c_CutG (l := exA) 0 12 exA_ok (by decide) (by decide)) fi20 rfl) rfl rfl rfl (R1 x4 rfl (R1 (xa9 rfl) rfl (R1 (xa9 rfl) rfl (R1 x5 rfl (R1 x5 rfl (x7 (by kernel_rfl) ?_)))))))
 refine x3 (x6 ?_)
 refine x8 ?_
 refine R1 x4 rfl (R1 x4 rfl (R2 (xa0 (c_DiffG (a := exA) (b := cutT exA 0 12) exA_ok exA_ok.cut (by decide) (by rw [exCut2]; decide)) fi32 rfl) rfl rfl (R1 x4 rfl (R1 (xa9 rfl) rfl (R1 (xa9 rfl) rfl (R1 x5 rfl (R1 x5 rfl ?_)))))))
 refine x7 (by kernel_rfl) (x3 (x6 (x6 ?_)))
 refine xd7 mixed ?_
 refine R1 x4 rfl (R1 x4 rfl (R2 (xb7 (wr64 (by omega) (by omega))) rfl rfl (R1 x4 rfl (R2 (xb7 (wr64 (by omega) (by omega))) rfl rfl (R1 x4 rfl (R2 (xb7 (wr64 (by omega) (by omega))) rfl rfl (R1 x4 rfl ?_)))))))
 refine R2 (xb7 (wr64 (by omega) (by omega))) rfl rfl (R1 x4 rfl (R2 (xb7 (wr64 (by omega) (by omega))) rfl rfl (R1 x4 rfl (R2 (xb7 (wr64 (by omega) (by omega))) rfl rfl (R2 d_neq rfl rfl (R1 x4 rfl (RGon (decide_eq_false (by omega)) rfl x4 rfl ⟨rfl, trivial⟩ trivial trivial ?_)))))))
 refine RGon (decide_eq_false (by omega)) rfl xe2 rfl ⟨rfl, trivial⟩ trivial trivial (R2 (xa6 (decide_eq_false (by omega))) rfl rfl (R1 x4 rfl (RGon (by decide +kernel) rfl x4 rfl ⟨rfl, trivial⟩ trivial trivial (R2 (xa6 (by decide +kernel)) rfl rfl (R1 x4 rfl (RGon (by decide +kernel) rfl (xb1 (0) ti37 rfl rfl) rfl ⟨rfl, trivial⟩ ⟨rfl, trivial⟩ trivial (RGon (by decide +kernel) rfl (xa0 (c_Num 1 2 (by decide) (by decide) (by decide) (by decide)) fi29 rfl) rfl ⟨rfl, rfl, trivial⟩ trivial trivial ?_)))))))
 refine RGon (by decide +kernel) rfl (xa0 (c_sameVv _ _ (by decide +kernel)) fi18 rfl) rfl ⟨rfl, rfl, trivial⟩ trivial trivial (RGon (by decide +kernel) rfl xe2 rfl ⟨rfl, trivial⟩ trivial trivial (R2 (xa6 (by decide +kernel)) rfl rfl (R1 x4 rfl (RGon rfl rfl (xb1 (0) ti35 rfl rfl) rfl ⟨rfl, trivial⟩ ⟨rfl, trivial⟩ trivial (RGon rfl rfl (xa0 (c_KFrac 25 2 (by decide) (by decide) (by decide) (by decide)) fi27 rfl) rfl ⟨rfl, rfl, trivial⟩ trivial trivial (RGon rfl rfl (xa0 (c_sameFv _ _ exSum) fi26 rfl) rfl ⟨rfl, rfl, trivial⟩ trivial trivial (RGon rfl rfl xe2 rfl ⟨rfl, trivial⟩ trivial trivial ?_)))))))
 refine R2 (xa6 rfl) rfl rfl (xd2 (by kernel_rfl) (x3 (C_bF rfl rfl (xa2 (x3 (x6 ?_))))))
 refine x8 ?_
 refine R1 x5 rfl (x7 (by kernel_rfl) (x3 (x6 (x6 ?_))))
 refine x8 ?_
 refine R1 x4 rfl (R1 x4 rfl (RE (xa0 (xh3 5 10 1 2 (by decide) (by decide) (by decide) (by decide)) fi44 rfl) ⟨rfl, rfl, rfl, rfl, trivial⟩ trivial trivial (RE (xa0 (xh3 10 20 1 1 (by decide) (by decide) (by decide) (by decide)) fi44 rfl) ⟨rfl, rfl, rfl, rfl, trivial⟩ trivial trivial (R2 (xe4 (n := 2) (f := tTs) [(⟨5, 10, xv 1 2⟩ : Tst), (⟨10, 20, xv 1 1⟩ : Tst)] Tryz.underlying24 el56 zf56 rfl (fun _ => inferInstance) rfl rfl rfl) rfl rfl (R1 (xa0 (c_steps [(⟨5, 10, xv 1 2⟩ : Tst), (⟨10, 20, xv 1 1⟩ : Tst)]) fi43 rfl) rfl (R3 (d_callF (c_sameTv _ _ exCut) fi22 rfl) rfl rfl rfl (R1 xe2 rfl ?_)))))))
 refine R1 x4 rfl (RGon rfl rfl x4 rfl ⟨rfl, trivial⟩ trivial trivial (RGon rfl rfl x4 rfl ⟨rfl, trivial⟩ trivial trivial (RGon rfl rfl (xa0 (xh3 0 5 1 2 (by decide) (by decide) (by decide) (by decide)) fi44 rfl) rfl ⟨rfl, rfl, rfl, rfl, trivial⟩ trivial trivial (RGon rfl rfl (xa0 (xh3 20 30 1 1 (by decide) (by decide) (by decide) (by decide)) fi44 rfl) rfl ⟨rfl, rfl, rfl, rfl, trivial⟩ trivial trivial (RGon rfl rfl (xe4 (n := 2) (f := tTs) [(⟨0, 5, xv 1 2⟩ : Tst), (⟨20, 30, xv 1 1⟩ : Tst)] Tryz.underlying24 el56 zf56 rfl (fun _ => inferInstance) rfl rfl rfl) rfl ⟨rfl, rfl, trivial⟩ trivial trivial (RGon rfl rfl (xa0 (c_steps [(⟨0, 5, xv 1 2⟩ : Tst), (⟨20, 30, xv 1 1⟩ : Tst)]) fi43 rfl) rfl ⟨rfl, trivial⟩ trivial trivial (RGon rfl rfl (d_callF (c_sameTv _ _ exWo) fi22 rfl) rfl ⟨rfl, rfl, rfl, trivial⟩ trivial trivial ?_)))))))
 refine RGon rfl rfl xe2 rfl ⟨rfl, trivial⟩ trivial trivial (R2 (xa6 rfl) rfl rfl (R1 x4 rfl (RGon rfl rfl x4 rfl ⟨rfl, trivial⟩ trivial trivial (RGon rfl rfl x4 rfl ⟨rfl, trivial⟩ trivial trivial (RGon rfl rfl (xa0 (xh3 0 8 1 2 (by decide) (by decide) (by decide) (by decide)) fi44 rfl) rfl ⟨rfl, rfl, rfl, rfl, trivial⟩ trivial trivial (RGon rfl rfl (xa0 (xh3 8 12 0 1 (by decide) (by decide) (by decide) (by decide)) fi44 rfl) rfl ⟨rfl, rfl, rfl, rfl, trivial⟩ trivial trivial (RGon rfl rfl (xa0 (xh3 12 30 1 1 (by decide) (by decide) (by decide) (by decide)) fi44 rfl) rfl ⟨rfl, rfl, rfl, rfl, trivial⟩ trivial trivial ?_)))))))
 refine RGon rfl rfl (xe4 (n := 3) (f := tTs) [(⟨0, 8, xv 1 2⟩ : Tst), (⟨8, 12, xv 0 1⟩ : Tst), (⟨12, 30, xv 1 1⟩ : Tst)] Tryz.underlying24 el56 zf56 rfl (fun _ => inferInstance) rfl rfl rfl) rfl ⟨rfl, rfl, rfl, trivial⟩ trivial trivial (RGon rfl rfl (xa0 (c_steps [(⟨0, 8, xv 1 2⟩ : Tst), (⟨8, 12, xv 0 1⟩ : Tst), (⟨12, 30, xv 1 1⟩ : Tst)]) fi43 rfl) rfl ⟨rfl, trivial⟩ trivial trivial (RGon rfl rfl (d_callF (c_sameTv _ _ exJB) fi22 rfl) rfl ⟨rfl, rfl, rfl, trivial⟩ trivial trivial (RGon rfl rfl xe2 rfl ⟨rfl, trivial⟩ trivial trivial (R2 (xa6 rfl) rfl rfl (R1 x4 rfl (RGon rfl rfl x4 rfl ⟨rfl, trivial⟩ trivial trivial (RGon rfl rfl x4 rfl ⟨rfl, trivial⟩ trivial trivial ?_)))))))
 refine RGon rfl rfl (xa0 (xh3 0 12 1 2 (by decide) (by decide) (by decide) (by decide)) fi44 rfl) rfl ⟨rfl, rfl, rfl, rfl, trivial⟩ trivial trivial (RGon rfl rfl (xa0 (xh3 12 30 1 1 (by decide) (by decide) (by decide) (by decide)) fi44 rfl) rfl ⟨rfl, rfl, rfl, rfl, trivial⟩ trivial trivial (RGon rfl rfl (xe4 (n := 2) (f := tTs) [(⟨0, 12, xv 1 2⟩ : Tst), (⟨12, 30, xv 1 1⟩ : Tst)] Tryz.underlying24 el56 zf56 rfl (fun _ => inferInstance) rfl rfl rfl) rfl ⟨rfl, rfl, trivial⟩ trivial trivial (RGon rfl rfl (xa0 (c_steps [(⟨0, 12, xv 1 2⟩ : Tst), (⟨12, 30, xv 1 1⟩ : Tst)]) fi43 rfl) rfl ⟨rfl, trivial⟩ trivial trivial (RGon rfl rfl (d_callF (c_sameTv _ _ exJC) fi22 rfl) rfl ⟨rfl, rfl, rfl, trivial⟩ trivial trivial (RGon rfl rfl xe2 rfl ⟨rfl, trivial⟩ trivial trivial (R2 (xa6 rfl) rfl rfl (x7 (by kernel_rfl) ?_)))))))
 refine x3 (C_bF rfl rfl (xa2 (x3 (x6 ?_))))
 refine x8 ?_
 refine R1 x4 rfl (R1 (xa0 (c_ChangesG (l := exA) exA_ok (by decide)) fi35 rfl) rfl (R3 (xe4 (n := 3) (f := fun n : Int => tI n) [0, 10, 30] Tryz.underlying30 el3 zf3 rfl (fun _ => inferInstance) rfl rfl rfl) rfl rfl rfl (R2 (xa0 (c_sameIv _ _ exCh) fi45 rfl) rfl rfl (R1 x4 rfl (RGon rfl rfl x4 rfl ⟨rfl, trivial⟩ trivial trivial (RGon rfl rfl (xa0 (c_CoversG (l := exA) exA_ok (by decide)) fi34 rfl) rfl ⟨rfl, trivial⟩ trivial trivial (RGon rfl rfl (xc8 (r := tS [⟨1, false, tI 0⟩, ⟨1, false, tI 30⟩]) (ts := [(0, tI 0), (1, tI 30)]) bu72 zr72.2 ⟨_, rfl⟩ rfl ⟨_, _, _, _, rfl, Up.f (fs := [⟨1, false, (tE (.int .i64 0))⟩, ⟨1, false, (tE (.int .i64 0))⟩]) (f := ⟨1, false, (tE (.int .i64 0))⟩) (fs' := [⟨1, false, tI 0⟩, ⟨1, false, (tE (.int .i64 0))⟩]) 0 rfl rfl rfl, inferInstance, ⟨_, _, _, _, rfl, Up.f (fs := [⟨1, false, tI 0⟩, ⟨1, false, (tE (.int .i64 0))⟩]) (f := ⟨1, false, (tE (.int .i64 0))⟩) (fs' := [⟨1, false, tI 0⟩, ⟨1, false, tI 30⟩]) 1 rfl rfl rfl, inferInstance, Le.refl⟩⟩) rfl ⟨rfl, rfl, trivial⟩ trivial trivial ?_)))))))
 refine RGon rfl rfl (xe4 (n := 1) (f := tSn) [(⟨0, 30⟩ : Sn)] Tryz.underlying60 el72 zf72 rfl (fun _ => inferInstance) rfl rfl rfl) rfl ⟨rfl, trivial⟩ trivial trivial (RGon rfl rfl (xa0 (c_sameSv _ _ exCv) fi37 rfl) rfl ⟨rfl, rfl, trivial⟩ trivial trivial (R2 (xb2 rfl) rfl rfl (R1 x4 rfl (RGon rfl rfl x4 rfl ⟨rfl, trivial⟩ trivial trivial (RGon rfl rfl (xc8 (r := tS [⟨1, false, tI 12⟩, ⟨1, false, tI 30⟩]) (ts := [(0, tI 12), (1, tI 30)]) bu72 zr72.2 ⟨_, rfl⟩ rfl ⟨_, _, _, _, rfl, Up.f (fs := [⟨1, false, (tE (.int .i64 0))⟩, ⟨1, false, (tE (.int .i64 0))⟩]) (f := ⟨1, false, (tE (.int .i64 0))⟩) (fs' := [⟨1, false, tI 12⟩, ⟨1, false, (tE (.int .i64 0))⟩]) 0 rfl rfl rfl, inferInstance, ⟨_, _, _, _, rfl, Up.f (fs := [⟨1, false, tI 12⟩, ⟨1, false, (tE (.int .i64 0))⟩]) (f := ⟨1, false, (tE (.int .i64 0))⟩) (fs' := [⟨1, false, tI 12⟩, ⟨1, false, tI 30⟩]) 1 rfl rfl rfl, inferInstance, Le.refl⟩⟩) rfl ⟨rfl, rfl, trivial⟩ trivial trivial (RGon rfl rfl (xe4 (n := 1) (f := tSn) [(⟨12, 30⟩ : Sn)] Tryz.underlying60 el72 zf72 rfl (fun _ => inferInstance) rfl rfl rfl) rfl ⟨rfl, trivial⟩ trivial trivial (RGon rfl rfl (xa0 (c_sameSv _ _ exDf) fi37 rfl) rfl ⟨rfl, rfl, trivial⟩ trivial trivial ?_)))))))
 refine R2 (xb2 rfl) rfl rfl (R1 x5 rfl (x7 (by kernel_rfl) (x3 (xa1 ?_))))
 exact xa7 Plain.mk' rfl rfl Le.refl
end An.S

/- Law 5: TimelineParts. -/
namespace An.S
open Go Go.Proofs An
set_option maxHeartbeats 2000000
theorem fi11 : FnI Tryz.prog 11 := ⟨_, Tryz.func11, by kernel_rfl, rfl⟩
theorem fi12 : FnI Tryz.prog 12 := ⟨_, Tryz.func12, by kernel_rfl, rfl⟩
theorem fi15 : FnI Tryz.prog 15 := ⟨_, Tryz.func15, by kernel_rfl, rfl⟩
theorem fi16 : FnI Tryz.prog 16 := ⟨_, Tryz.func16, by kernel_rfl, rfl⟩
/-- The days that are looked at. -/
def lkP (l : List Tst) (d p q : Int) : List Int := lkT l [] d ++ [p - 1, p, q - 1, q]
end An.S

/- Layer 4: unions, meets. -/
namespace An.S
open Go Go.Proofs An
set_option maxHeartbeats 2000000
theorem fi36 : FnI Tryz.prog 36 := ⟨_, Tryz.func36, by kernel_rfl, rfl⟩
abbrev tMem (x y : Bool) : Ty := tS [⟨1, false, tB x⟩, ⟨1, false, tB y⟩]
def chY (a b : List Sn) (k : Nat) : List Ty := [tI ((chAll a b).getD k ch0).1, tMem (((chAll a b).getD k ch0).2.1 % 2 == 1) (((chAll a b).getD k ch0).2.2 % 2 == 1)]
end An.S

/- Layer 4: days are looked for. -/
namespace An.S
open Go Go.Proofs An
set_option maxHeartbeats 2000000
theorem fi68 : FnI Tryz.prog 68 := ⟨_, Tryz.func68, by kernel_rfl, rfl⟩
theorem fi94 : FnI Tryz.prog 94 := ⟨_, Tryz.func94, by kernel_rfl, rfl⟩
/-- The index of the first span that has days from d on. -/
def fnd (l : List Sn) (d : Int) : Nat := (l.takeWhile fun s => decide (s.hi ≤ d)).length
theorem fnd_is {d : Int} : ∀ {l : List Sn} {p : Nat}, p ≤ l.length → (∀ i, i < p → (l.getD i sn0).hi ≤ d) → (p < l.length → d < (l.getD p sn0).hi) → p = fnd l d
  | [], p, hp, _, _ => by simp at hp; subst hp; rfl
  | s :: r, 0, _, _, h => by
    have h1 : d < s.hi := h (by simp)
    rw [fnd, List.takeWhile_cons, if_neg (by simp; omega)]; rfl
  | s :: r, p + 1, hp, h1, h2 => by
    have h3 : s.hi ≤ d := h1 0 (by omega)
    have ih := fnd_is (d := d) (l := r) (p := p) (by simpa using hp) (fun i hi => by have := h1 (i + 1) (by omega); simpa using this) (fun hp2 => by have := h2 (by simpa using hp2); simpa using this)
    rw [fnd, List.takeWhile_cons, if_pos (by simp; omega), List.length_cons, ← fnd, ← ih]
theorem hi_mono {l : List Sn} (h : sVal l = true) {i j : Nat} (hij : i ≤ j) (hj : j < l.length) : (l.getD i sn0).hi ≤ (l.getD j sn0).hi := by
  rcases Nat.lt_or_ge i j with h1 | h1
  · have := sVal_lt h h1 hj
    have := xg5 h hj; omega
  · rw [show i = j by omega]; exact Int.le_refl _
theorem fnd_le {l : List Sn} {d : Int} : fnd l d ≤ l.length := (List.takeWhile_sublist _).length_le
def hasB (l : List Sn) (d : Int) : Bool := decide (fnd l d < l.length) && decide ((l.getD (fnd l d) sn0).lo ≤ d)
def wi (b : List Sn) (s : Sn) : Bool := decide (fnd b s.lo < b.length) && decide ((b.getD (fnd b s.lo) sn0).lo ≤ s.lo) && decide (s.hi ≤ (b.getD (fnd b s.lo) sn0).hi)
theorem c_find1 (l : List Sn) (d : Int) (i : Nat) (hi : i < l.length) :
  CtG Tryz.prog 94 [(2, ⟨60, 1, false, [.val (tL 2 true tSn l)]⟩), (3, ⟨3, 1, false, [.val (tI d)]⟩)] [.val (tI i), .own (.ptr 2 0), .own (.ptr 3 0)] (.val (tB (decide (d < (l.getD i sn0).hi)))) [(2, ⟨60, 1, false, [.val (tL 2 true tSn l)]⟩), (3, ⟨3, 1, false, [.val (tI d)]⟩)] [] := by
 refine CtG.intro [2, 3] Tryz.func94 rfl Tryz.ntmps94 rfl rfl ⟨⟨rfl, (SupX.lit rfl)⟩, ⟨rfl, (SupX.lit rfl)⟩, trivial⟩ ?_
 intro w F η
 refine x6 ?_
 refine x8 ?_
 refine R1 x5 rfl (x7 (by kernel_rfl) (x3 (x6 ?_)))
 refine xd7 mixed ?_
 refine RE (xb1 (0) ti60 rfl rfl) ⟨rfl, trivial⟩ ⟨rfl, trivial⟩ trivial (R1 x4 rfl (R2 (xb5 sl60 (i) (by omega) (gD (l := l) (n := i) (d := sn0) (by omega))) rfl rfl (R1 (xf4 fo72_1 (At.f 1 rfl rfl) rfl) rfl (R1 (xb8 ti3) rfl (RE (xb1 (0) ti3 rfl rfl) ⟨rfl, trivial⟩ ⟨rfl, trivial⟩ trivial (R2 d_gtr rfl rfl (R1 x5 rfl ?_)))))))
 refine xd2 (by kernel_rfl) (x3 (xa1 ?_))
 exact xh0 LentC.mk' rfl rfl Imp.refl ⟨rfl, rfl, trivial⟩ rfl ⟨⟨rfl, (SupX.lit rfl)⟩, ⟨rfl, (SupX.lit rfl)⟩, trivial⟩ rfl
theorem c_Search (l : List Sn) (d : Int) (hv : sVal l = true) (hl : l.length ≤ 1000000) :
  CtG Tryz.prog 52 [(2, ⟨60, 1, false, [.val (tL 2 true tSn l)]⟩), (3, ⟨3, 1, false, [.val (tI d)]⟩)] [.val (tI l.length), .own (.fn 94 [.ptr 2 0, .ptr 3 0])] (.val (tI (fnd l d))) [(2, ⟨60, 1, false, [.val (tL 2 true tSn l)]⟩), (3, ⟨3, 1, false, [.val (tI d)]⟩)] [] := by
 refine CtG.intro [2, 3] Tryz.func52 rfl Tryz.ntmps52 rfl rfl ⟨⟨rfl, (SupX.lit rfl)⟩, ⟨rfl, (SupX.lit rfl)⟩, trivial⟩ ?_
 intro w F η
 refine x6 ?_
 refine x8 ?_
 refine R1 x5 rfl (x7 (by kernel_rfl) (x3 (x6 ?_)))
 refine x8 ?_
 refine R1 x4 rfl (R1 x5 rfl (R1 x5 rfl (x7 (by kernel_rfl) (x3 (x6 (xa8 ?_))))))
 refine xd6 (fun (fm : (Nat) × (Nat)) => (fun (p : Nat) (q : Nat) => p ≤ q ∧ q ≤ l.length ∧ (∀ i, i < p → (l.getD i sn0).hi ≤ d) ∧ ∀ i, q ≤ i → i < l.length → d < (l.getD i sn0).hi) fm.1 fm.2) (fun (fm : (Nat) × (Nat)) => (fun (p : Nat) (q : Nat) => upd (upd (upd (fun _ => none) 1 (some (.own (.fn 94 [.ptr 2 0, .ptr 3 0])))) 5 (some (.val (tI p)))) 6 (some (.val (tI q)))) fm.1 fm.2) (fun (fm : (Nat) × (Nat)) => (fun (p : Nat) (q : Nat) => upd (upd (fun _ => none) 2 (some (⟨60, 1, false, [.val (tL 2 true tSn l)]⟩))) 3 (some (⟨3, 1, false, [.val (tI d)]⟩))) fm.1 fm.2) (nm [2, 3]) (fun (fm : (Nat) × (Nat)) => (fun (p : Nat) (q : Nat) => q - p) fm.1 fm.2) ((0, l.length)) (by dsimp only; exact ⟨Nat.zero_le _, Nat.le_refl _, fun i hi => by omega, fun i hi hi2 => by omega⟩) (Sub.int rfl (by first | omega | rfl | (dsimp only; omega)) (Sub.int rfl (by first | omega | rfl | (dsimp only; omega)) (Sub.cons rfl Sub.nil))) ((SubK.consI rfl ImpK.refl) ((SubK.consI rfl ImpK.refl) SubK.nil)) (SupG.val (SupG.val (SupG.own rfl SupG.nil))) (SupH.cons rfl (supJL rfl) (SupH.cons rfl (supJL rfl) SupH.nil)) (lkOk rfl) ?_
 intro fm hI
 obtain ⟨p, q⟩ := fm
 replace hI : p ≤ q ∧ q ≤ l.length ∧ (∀ i, i < p → (l.getD i sn0).hi ≤ d) ∧ ∀ i, q ≤ i → i < l.length → d < (l.getD i sn0).hi := hI
 show wc _ _ _ _ (upd (upd (upd (fun _ => none) 1 (some (.own (.fn 94 [.ptr 2 0, .ptr 3 0])))) 5 (some (.val (tI p)))) 6 (some (.val (tI q)))) (upd (upd (fun _ => none) 2 (some (⟨60, 1, false, [.val (tL 2 true tSn l)]⟩))) 3 (some (⟨3, 1, false, [.val (tI d)]⟩))) _
 obtain ⟨hp, hq, h1, h2⟩ := hI
 refine x6 (x6 ?_)
 refine x8 ?_
 refine R1 x4 rfl (R1 x4 rfl (R2 xd5 rfl rfl (x7 (by kernel_rfl) (x3 ?_))))
 refine xc2 rfl (fun h62 => ?_) (fun h62 => ?_)
 ·
  refine xa2 (x3 (xa8 (x6 ?_)))
  refine x8 ?_
  refine R1 x4 rfl (R1 x4 rfl (R2 (xb7 (wr64 (by omega) (by omega))) rfl rfl (R1 (xb4 Tryz.underlying123 (isS Tryz.underlying3) (by first | exact wu64 (by omega) (by omega) | exact mu64)) rfl (R2 (d_shr (r := ((((p + q) / 2) : Nat) : Int)) (by decide) ((shrN (s := 1) rfl (by decide)).trans (by simp))) rfl rfl (R1 (xb4 Tryz.underlying3 (isS Tryz.underlying123) (wr64 (by omega) (by omega))) rfl (R1 x5 rfl (x7 (by kernel_rfl) ?_)))))))
  refine x3 (x6 ?_)
  refine x8 ?_
  refine R1 x4 rfl (R1 x4 rfl (RE (d_callCX (ps := [.val (tI _)]) (caps := [.ptr 2 0, .ptr 3 0]) (fun j => cond (Nat.beq j 2) 2 (3)) (c_find1 l d ((p + q) / 2) (by omega)) fi94 rfl (krC (ρ := fun j => cond (Nat.beq j 2) 2 (3)) (k := 2) rfl (krC (ρ := fun j => cond (Nat.beq j 2) 2 (3)) (k := 3) rfl (krN (ρ := fun j => cond (Nat.beq j 2) 2 (3))))) (krC (ρ := fun j => cond (Nat.beq j 2) 2 (3)) (k := 2) rfl (krC (ρ := fun j => cond (Nat.beq j 2) 2 (3)) (k := 3) rfl (krN (ρ := fun j => cond (Nat.beq j 2) 2 (3))))) ⟨⟨rfl, (SupX.lit rfl)⟩, ⟨rfl, (SupX.lit rfl)⟩, trivial⟩ rfl) ⟨rfl, rfl, trivial⟩ ⟨rfl, rfl, trivial⟩ trivial (R1 xe2 rfl (x7 (by kernel_rfl) (x3 ?_)))))
  refine C_ifn rfl (fun h65 => ?_) (fun h65 => ?_)
  ·
   refine x8 ?_
   refine R1 x4 rfl (R2 (xb7 (wr64 (by omega) (by omega))) rfl rfl (R1 x5 rfl (x7 (by kernel_rfl) (xc0 ?_))))
   exact xc5 ((((p + q) / 2) + 1, q)) ⟨(by dsimp only; exact ⟨by omega, hq, fun i hi => by have := hi_mono hv (show i ≤ ((p + q) / 2) by omega) (by omega); omega, h2⟩), (by dsimp only; omega)⟩ (Sub.int rfl (by first | omega | rfl | (dsimp only; omega)) (Sub.int rfl (by first | omega | rfl | (dsimp only; omega)) (Sub.cons rfl Sub.nil))) ((SubK.consI rfl ImpK.refl) ((SubK.consI rfl ImpK.refl) SubK.nil)) (SupG.val (SupG.val (SupG.own rfl SupG.nil))) (SupH.cons rfl (supJL rfl) (SupH.cons rfl (supJL rfl) SupH.nil)) (lkOk rfl)
  ·
   refine x8 ?_
   refine R1 x4 rfl (R1 x5 rfl (x7 (by kernel_rfl) (xc0 ?_)))
   exact xc5 ((p, ((p + q) / 2))) ⟨(by dsimp only; exact ⟨by omega, by omega, h1, fun i hi hi2 => by have := hi_mono hv hi hi2; omega⟩), (by dsimp only; omega)⟩ (Sub.int rfl (by first | omega | rfl | (dsimp only; omega)) (Sub.int rfl (by first | omega | rfl | (dsimp only; omega)) (Sub.cons rfl Sub.nil))) ((SubK.consI rfl ImpK.refl) ((SubK.consI rfl ImpK.refl) SubK.nil)) (SupG.val (SupG.val (SupG.own rfl SupG.nil))) (SupH.cons rfl (supJL rfl) (SupH.cons rfl (supJL rfl) SupH.nil)) (lkOk rfl)
 ·
  refine xd0 (xb6 (xb6 (xd4 (x3 (x6 ?_)))))
  refine x8 ?_
  refine R1 x4 rfl (R1 x5 rfl (x7 (by kernel_rfl) (x3 (xa1 ?_))))
  exact xh0 LentC.mk' rfl rfl (Imp.int (congrArg Int.ofNat (fnd_is (by omega) h1 (fun hp2 => h2 p (by omega) hp2)))) ⟨rfl, rfl, trivial⟩ rfl ⟨⟨rfl, (SupX.lit rfl)⟩, ⟨rfl, (SupX.lit rfl)⟩, trivial⟩ rfl
theorem c_find (l : List Sn) (d : Int) (hv : sVal l = true) (hl : l.length ≤ 1000000) :
  Ct Tryz.prog 68 [tL 2 true tSn l, tI d] (tI (fnd l d)) := by
 refine Ct.intro Tryz.func68 rfl Tryz.ntmps68 rfl ?_
 intro w F
 refine x6 ?_
 refine x8 ?_
 refine RE (xe1 (k := 2) ti60 rfl) ⟨rfl, trivial⟩ trivial ⟨rfl, trivial⟩ (RE (xe1 (k := 3) ti3 rfl) ⟨rfl, trivial⟩ trivial ⟨rfl, trivial⟩ (R1 x5 rfl (x7 (by kernel_rfl) (x3 (x6 ?_)))))
 refine x8 ?_
 refine RE (xb1 (0) ti60 rfl rfl) ⟨rfl, trivial⟩ ⟨rfl, trivial⟩ trivial (R1 (xc4 Tryz.underlying60) rfl (R2 (d_makeFunc (ps := [.ptr 2 0, .ptr 3 0]) rfl) rfl rfl (RE (xf7 (fun j => cond (Nat.beq j 2) 2 (3)) (c_Search l d hv hl) fi52 rfl (krC (ρ := fun j => cond (Nat.beq j 2) 2 (3)) (k := 2) rfl (krC (ρ := fun j => cond (Nat.beq j 2) 2 (3)) (k := 3) rfl (krN (ρ := fun j => cond (Nat.beq j 2) 2 (3))))) (krC (ρ := fun j => cond (Nat.beq j 2) 2 (3)) (k := 2) rfl (krC (ρ := fun j => cond (Nat.beq j 2) 2 (3)) (k := 3) rfl (krN (ρ := fun j => cond (Nat.beq j 2) 2 (3))))) ⟨⟨rfl, (SupX.lit rfl)⟩, ⟨rfl, (SupX.lit rfl)⟩, trivial⟩ rfl) ⟨rfl, rfl, trivial⟩ ⟨rfl, rfl, trivial⟩ trivial (R1 x5 rfl (x7 (by kernel_rfl) (x3 (xa1 ?_)))))))
 exact xa7 Plain.mk' rfl rfl Le.refl
theorem c_Has (l : List Sn) (d : Int) (hl : l.length ≤ 1000000) :
  Ct Tryz.prog 38 [tL 2 true tSn l, tI d] (tB (sVal l && hasB l d)) := by
 have hfl := fnd_le (l := l) (d := d)
 refine Ct.intro Tryz.func38 rfl Tryz.ntmps38 rfl ?_
 intro w F
 refine x6 ?_
 refine x8 ?_
 refine R1 x5 rfl (x7 (by kernel_rfl) (x3 (x6 (x6 ?_))))
 refine x8 ?_
 refine R1 x4 rfl (R1 (xa0 (c_SValid l) fi36 rfl) rfl (R1 xe2 rfl (x7 (by kernel_rfl) (x3 ?_))))
 refine xg3 rfl (fun h145 => ?_) (fun h145 => ?_)
 ·
  have hv : sVal l = false := by simpa using h145
  refine x6 ?_
  refine x8 ?_
  refine R1 x5 rfl (x7 (by kernel_rfl) (x3 (xa1 (xa5 ?_))))
  exact xa7 Plain.mk' rfl rfl (Le.bool (by rw [hv]; rfl))
 ·
  have hv : sVal l = true := by simpa using h145
  refine xa2 (x3 (x6 ?_))
  refine x8 ?_
  refine R1 x4 rfl (R1 x4 rfl (R2 (xa0 (c_find l d hv hl) fi68 rfl) rfl rfl (R1 x5 rfl (x7 (by kernel_rfl) (x3 (x6 ?_))))))
  refine x8 ?_
  refine R1 x4 rfl (R1 x4 rfl (R1 (xc4 Tryz.underlying60) rfl (R2 xd5 rfl rfl (R1 x4 rfl ?_))))
  refine RGcaseD (t := 16) rfl (fun h149 => ?_) (fun h149 => ?_)
  ·
   refine RGon (decide_eq_true h149) rfl x4 rfl ⟨rfl, trivial⟩ trivial trivial (RGon (decide_eq_true h149) rfl x4 rfl ⟨rfl, trivial⟩ trivial trivial (RGon (decide_eq_true h149) rfl (xb5 sl60 (fnd l d) (by omega) (gD (l := l) (n := fnd l d) (d := sn0) (by omega))) rfl ⟨rfl, rfl, trivial⟩ trivial trivial (RGon (decide_eq_true h149) rfl (xf4 fo72_0 (At.f 0 rfl rfl) rfl) rfl ⟨rfl, trivial⟩ trivial trivial (RGon (decide_eq_true h149) rfl (xb8 ti3) rfl ⟨rfl, trivial⟩ trivial trivial (RGon (decide_eq_true h149) rfl x4 rfl ⟨rfl, trivial⟩ trivial trivial (RGon (decide_eq_true h149) rfl d_leq rfl ⟨rfl, rfl, trivial⟩ trivial trivial (R2 (xb2 (decide_eq_true h149)) rfl rfl ?_)))))))
   refine R1 x5 rfl (x7 (by kernel_rfl) (x3 (xa1 ?_)))
   exact xa7 Plain.mk' rfl rfl (Le.bool (by rw [hv, hasB]; simp; omega))
  ·
   refine RGoff (decide_eq_false h149) rfl rfl (RGoff (decide_eq_false h149) rfl rfl (RGoff (decide_eq_false h149) rfl rfl (RGoff (decide_eq_false h149) rfl rfl (RGoff (decide_eq_false h149) rfl rfl (RGoff (decide_eq_false h149) rfl rfl (RGoff (decide_eq_false h149) rfl rfl (R2 (xa6 (decide_eq_false h149)) rfl rfl ?_)))))))
   refine R1 x5 rfl (x7 (by kernel_rfl) (x3 (xa1 ?_)))
   exact xa7 Plain.mk' rfl rfl (Le.bool (by rw [hv, hasB]; simp; omega))
end An.S

/- Layer 4: days looked for in sets. Plain data, but for what the walks define. -/
namespace An.S
open Go
theorem fnd_spec {d : Int} : ∀ l : List Sn, (∀ i, i < fnd l d → (l.getD i sn0).hi ≤ d) ∧ (fnd l d < l.length → d < (l.getD (fnd l d) sn0).hi)
  | [] => ⟨fun i hi => by simp [fnd] at hi, fun h => by simp at h⟩
  | s :: r => by
    have ih := fnd_spec (d := d) r
    by_cases h : s.hi ≤ d
    · have e : fnd (s :: r) d = fnd r d + 1 := by rw [fnd, List.takeWhile_cons, if_pos (by simpa using h)]; rfl
      rw [e]
      refine ⟨fun i hi => ?_, fun hl => ?_⟩
      · cases i with
        | zero => exact h
        | succ i => have := ih.1 i (by omega); simpa using this
      · have := ih.2 (by simpa using hl); simpa using this
    · have e : fnd (s :: r) d = 0 := by rw [fnd, List.takeWhile_cons, if_neg (by simpa using h)]; rfl
      rw [e]
      exact ⟨fun i hi => by omega, fun _ => by show d < s.hi; omega⟩
theorem lo_mono {l : List Sn} (h : sVal l = true) {i j : Nat} (hij : i ≤ j) (hj : j < l.length) : (l.getD i sn0).lo ≤ (l.getD j sn0).lo := by
  rcases Nat.lt_or_ge i j with h1 | h1
  · have := sVal_lt h h1 hj
    have := xg5 h (i := i) (by omega); omega
  · rw [show i = j by omega]; exact Int.le_refl _
theorem mem_at {l : List Sn} {d : Int} (h : mem l d = true) : ∃ i, i < l.length ∧ (l.getD i sn0).lo ≤ d ∧ d < (l.getD i sn0).hi := by
  obtain ⟨s, hs, h1⟩ := mem_iff.1 h
  obtain ⟨i, hi, rfl⟩ := exists_getS hs
  exact ⟨i, hi, h1⟩
theorem at_mem {l : List Sn} {d : Int} {i : Nat} (hi : i < l.length) (h1 : (l.getD i sn0).lo ≤ d) (h2 : d < (l.getD i sn0).hi) : mem l d = true := mem_iff.2 ⟨_, mem_getS hi, h1, h2⟩
/-- The span that has days from d on is the one of d, if d is a day. -/
theorem hasB_mem {l : List Sn} {d : Int} (h : sVal l = true) : hasB l d = mem l d := by
  have hf := fnd_spec (d := d) l
  rw [Bool.eq_iff_iff, hasB, Bool.and_eq_true, decide_eq_true_eq, decide_eq_true_eq]
  constructor
  · rintro ⟨h1, h2⟩; exact at_mem h1 h2 (hf.2 h1)
  · intro hm
    obtain ⟨i, hi, h1, h2⟩ := mem_at hm
    have h3 : ¬ i < fnd l d := fun h' => by have := hf.1 i h'; omega
    exact ⟨by omega, by have := lo_mono h (show fnd l d ≤ i by omega) hi; omega⟩
end An.S

/- Law 5: TimelineCovers. -/
namespace An.S
open Go Go.Proofs An
set_option maxHeartbeats 2000000
set_option maxRecDepth 100000
theorem fi38 : FnI Tryz.prog 38 := ⟨_, Tryz.func38, by kernel_rfl, rfl⟩
/-- The day before, as the machine counts it. -/
def pred (e : Int) : Int := IntKind.i64.wrap (e - 1)
theorem chg_some {x y : Option Va} {P : Prop} [Decidable P] (hP : P ↔ x ≠ y) (h : (!(x.isSome == y.isSome)) = true) : (!(decide P == true)) = false := by
  have : P := hP.2 fun e => by rw [e] at h; simp at h
  simp [this]
theorem chg_same {x y : Option Va} {P : Prop} [Decidable P] (hP : P ↔ x ≠ y) (h : (!(x.isSome == y.isSome)) = false) : (!(decide P == !decide (x.getD An.va0 = y.getD An.va0))) = false := by
  have key : x = y ↔ x.getD An.va0 = y.getD An.va0 := by
    cases x with
    | none => cases y with
      | none => simp
      | some v => simp at h
    | some u => cases y with
      | none => simp at h
      | some v => simp
  by_cases hxy : x = y
  · have h1 : ¬ P := fun hp => hP.1 hp hxy
    simp [h1, key.1 hxy]
  · have h1 : P := hP.2 hxy
    have h2 : ¬ x.getD An.va0 = y.getD An.va0 := fun h => hxy (key.2 h)
    simp [h1, h2]
/-- The union of two sets. -/
def unS (u v : List Sn) : List Sn := (ckRun (fun x y => x || y) u v).xs
theorem c_SValG (w : List Sn) (h : sVal w = true) : Ct Tryz.prog 36 [tL 2 true tSn w] (tB true) := by
  have := c_SValid w
  rw [h] at this; exact this
theorem c_HasM (w : List Sn) (d : Int) (h : sVal w = true) (hl : w.length ≤ 1000000) : Ct Tryz.prog 38 [tL 2 true tSn w, tI d] (tB (mem w d)) := by
  have := c_Has w d hl
  rw [h, Bool.true_and, hasB_mem h] at this; exact this
end An.S

/- Several results, of which some lead to own memory: a tuple of own values. For any program. -/
namespace An
open Go
/-- A part of a tuple, as what a slot holds. -/
def VP.ent : VP → Ent
  | .ty u => .val u
  | p => .own p
theorem VP.ent_sat {F : Dom} {w : World} {η : Env} {v : Value} : ∀ {p : VP}, p.sat F w η v → p.ent.sat F w η v
  | .ty _, h => by simp only [VP.sat] at h; exact h
  | .ptr .., h => h
  | .sl .., h => h
  | .fn .., h => h
  | .st .., h => h
  | .tup .., h => h
theorem VP.ent_supp : ∀ {p : VP}, ∀ k ∈ p.ent.supp, k ∈ p.supp
  | .ty _, _, h => by simp only [VP.ent, Ent.supp] at h; cases h
  | .ptr .., _, h => h
  | .sl .., _, h => h
  | .fn .., _, h => h
  | .st .., _, h => h
  | .tup .., _, h => h
theorem VP.sats_get {F : Dom} {w : World} {η : Env} : ∀ {ps : List VP} {vs : List Value} {i : Nat} {p : VP}, VP.sats F w η ps vs → ps[i]? = some p → ∃ v, vs[i]? = some v ∧ p.sat F w η v
  | p :: r, v :: s, 0, q, h, hi => by
    simp only [VP.sats] at h
    cases hi; exact ⟨v, rfl, h.1⟩
  | p :: r, v :: s, i + 1, q, h, hi => by
    simp only [VP.sats] at h
    exact VP.sats_get (i := i) h.2 hi
  | p :: r, [], _, _, h, _ => by simp only [VP.sats] at h
  | [], _, _, _, _, hi => by cases hi
theorem VP.supps_get : ∀ {ps : List VP} {i : Nat} {p : VP}, ps[i]? = some p → ∀ k ∈ p.supp, k ∈ VP.supps ps
  | p :: r, 0, q, hi, k, hk => by
    cases hi; simp only [VP.supps, List.mem_append]; exact .inl hk
  | p :: r, i + 1, q, hi, k, hk => by
    simp only [VP.supps, List.mem_append]; exact .inr (VP.supps_get (i := i) hi k hk)
  | [], _, _, hi, _, _ => by cases hi
section
variable {P : Program} {c : Base} {g : Slots} {h : Keys} {al : Names} {d ty : Nat} {pos : String} {af : Array Edge} {gd : Option (Nat × Bool)}
/-- A part of a tuple. -/
theorem d_extractT {x : Operand} {fs : List VP} {i : Nat} {p : VP} (hi : fs[i]? = some p) : Does P c ⟨some d, .extract x i, ty, pos, af, gd⟩ ⟨[(x, .own (.tup fs))], [], some (d, some p.ent), [], []⟩ :=
  Does.value rfl fun g h al a w η hrd _ s => by
    obtain ⟨h0, h1⟩ := xb9 s hrd.1
    have h0 : VP.sat (c.dom h η) w η (.tup fs) (a.eval x) := h0
    simp only [VP.sat] at h0
    obtain ⟨vs, e1, e2⟩ := h0
    obtain ⟨v, h3, h4⟩ := VP.sats_get e2 hi
    refine ⟨v, w, by simp only [execOp, e1]; simp [Instr.extract, h3, go_sem], Ext.refl w, VP.ent_sat h4, fun k hk => h1 k ?_⟩
    simp only [Ent.supp, VP.supp]
    exact VP.supps_get hi k (VP.ent_supp k hk)
/-- Two results that lie in slots. -/
theorem E_retGT {fn : Func} {w0 : World} {F : Dom} {η0 : Env} {l0 : List Nat} {H H' : List (Nat × HEnt)} {nn : List Nat} {t u : Nat} {e1 e2 r1 r2 : Ent} (hp : LentC c w0 F η0 l0 H) (hr : fn.results = #[.tmp t, .tmp u]) (hx : g t = some e1) (hy : g u = some e2) (i1 : Imp e1 r1) (i2 : Imp e2 r2) (hk : Kr h H') (hs : subN (Ent.own (.tup [r1.vp, r2.vp])).supp (nn ++ l0) = true) (hsH : SupHs H' (nn ++ l0)) (hd : (nn.all fun k => !memN k l0) = true) :
    wk c .ret (PostG P w0 F η0 fn H (.own (.tup [r1.vp, r2.vp])) H' nn) g h al :=
  K_endG (.inl rfl) hp hk hs hsH hd fun c' a w η _ s => by
    have h1 : (([ResultVar.tmp t, .tmp u]).mapM (readR a.tmps)).run P w = .ok [a.tmps.getD t undef, a.tmps.getD u undef] w := by simp [readR]
    have := run_results (P := P) (rs := [.tmp t, .tmp u]) hr h1
    rw [dif_neg (by simp)] at this
    refine ⟨_, this, ?_⟩
    show VP.sat _ _ _ (.tup _) _
    simp only [VP.sat, VP.sats]
    exact ⟨_, rfl, Ent.vp_sat.2 (i1 _ _ _ _ (s.slot t _ hx).2.2), Ent.vp_sat.2 (i2 _ _ _ _ (s.slot u _ hy).2.2), trivial⟩
end
end An

/- A call that is handed an own slice to read, and hands back a plain value: what is one's own stays so. For any program. -/
namespace An
open Go
section
variable {P : Program} {c : Base} {d ty : Nat} {pos : String} {af : Array Edge} {gd : Option (Nat × Bool)}
/-- Arguments: values, or the own slice. -/
def ArgsR (k es len : Nat) (t0 : Ty) : List Ent → List Ty → Prop
  | [], [] => True
  | e :: r, t :: s => (e = .val t ∨ (e = .own (.sl k es 0 len) ∧ t = t0)) ∧ ArgsR k es len t0 r s
  | _, _ => False
theorem ArgsR.all {g : Slots} {h : Keys} {al : Names} {a : Act} {w : World} {η : Env} {k T es len : Nat} {agg : Bool} {ts : List Ent} {α : Type} {f : α → Ty} {zs : List α} (st : St' c g h al a w η) (hk : h k = some ⟨T, es, agg, ts⟩) (hlb : NoLb c) (hts : (ts.drop 0).take len = zs.map fun x => .val (f x)) (hl : zs.length = len) :
    ∀ {xs : List Operand} {es' : List Ent} {us : List Ty}, Rd g (xs.zip es') → xs.length = us.length → ArgsR k es len (tL es agg f zs) es' us → Tup.all (c.dom (upd h k none) η) w us (xs.map a.eval)
  | [], _, [], _, _, _ => trivial
  | x :: xs, e :: es', u :: us, hr, hn, ha => by
    refine ⟨?_, ArgsR.all st hk hlb hts hl hr.2 (by simpa using hn) ha.2⟩
    rcases ha.1 with e1 | ⟨e1, e2⟩
    · subst e1
      exact (xb9 (st.drop k) hr.1).1
    · subst e1; subst e2
      exact st.give hk hlb hts hl (xb9 st hr.1).1
  | [], _, _ :: _, _, hn, _ => by simp at hn
  | _ :: _, _, [], _, hn, _ => by simp at hn
  | _ :: _, [], _ :: _, _, _, ha => ha.elim
/-- The call. -/
theorem d_callR {f : FuncId} {xs : List Operand} {aT : Array TypeId} {us : List Ty} {r : Ty} {α : Type} {ft : α → Ty} {zs : List α} {ts : List Ent} {agg : Bool} (k T es len : Nat) (ents : List Ent) (hsc : ∀ F F' w v, r.p F w v → r.p F' w v) (hc : Ct P f us r) (hf : FnI P f) (hlb : NoLb c)
    (hts : (ts.drop 0).take len = zs.map fun x => .val (ft x)) (hzl : zs.length = len) (ha : ArgsR k es len (tL es agg ft zs) ents us) (hl : xs.length = us.length) :
    Does P c ⟨some d, .call { callee := .value (.func f), args := xs.toArray, argTypes := aT }, ty, pos, af, gd⟩ ⟨xs.zip ents, [(k, ⟨T, es, agg, ts⟩)], some (d, some (.val r)), [], []⟩ := by
  intro g h al a w hp ⟨η, st⟩
  obtain ⟨fn, h1, h2, h3⟩ := hf
  have hargs := ArgsR.all st hp.kr.1 hlb hts hzl hp.rd hl ha
  have hrun : (execOp a.eval ⟨some d, .call { callee := .value (.func f), args := xs.toArray, argTypes := aT }, ty, pos, af, gd⟩).run P w = .ok (.enter f (xs.map a.eval).toArray) w := by
    simp only [execOp, resolve, Act.eval, Deferred.ofValue, Sem.run_bind, Sem.run_pure, Result.andThen_ok, invoke]
    simp only [Array.append_empty, Array.empty_append, List.map_toArray]
    exact xi8 h1 h2 h3 _ w
  refine upon_enter hrun (Calls.mono (hc _ w (xs.map a.eval) hargs) ?_)
  rintro e w' ⟨v, rfl, hext, hr⟩
  exact ⟨v, rfl, η, (st.ext hext).put (hp.d _ rfl) (e := .val r) (hsc _ _ _ _ hr) (fun k hk => by cases hk)⟩
end
end An

/- Law 5: TimelineDiffs: Make and Diff hand out what they made. -/
namespace An.S
open Go Go.Proofs An
set_option maxHeartbeats 2000000
theorem c_SnMakeO (l : List Sn) (hl : l.length ≤ 1000000) (hall0 : l.all Sn.ok = true) :
  CtG Tryz.prog 65 [] [.val (tL 2 true tSn l)] (.own (.tup [.sl 7 2 0 (mkS l).length, .ty (tI 0)])) [(7, ⟨72, 2, true, rV tSn (mkS l)⟩)] [7] := by
 refine CtG.intro [] Tryz.func65 rfl Tryz.ntmps65 rfl rfl trivial ?_
 intro w F η
 refine x6 ?_
 refine x8 ?_
 refine R1 x5 rfl (R1 x5 rfl (x7 (by kernel_rfl) (x3 (x6 ?_))))
 refine x8 ?_
 refine RE (xh9 (k := 4) 72 2 true rfl (fun h => by cases h)) trivial trivial ⟨rfl, trivial⟩ (x7 (by kernel_rfl) (x3 (x6 (x6 ?_))))
 refine x8 ?_
 refine R1 x4 rfl (R1 (xc4 Tryz.underlying60) rfl (R1 x4 rfl (x7 (by kernel_rfl) (x3 (xa8 ?_)))))
 refine xd6 (fun (fm : (Nat) × (List Sn)) => (fun (i : Nat) (xs : List Sn) => i ≤ l.length ∧ (l.take i).all Sn.ok = true ∧ xs = (l.take i).filter pos) fm.1 fm.2) (fun (fm : (Nat) × (List Sn)) => (fun (i : Nat) (xs : List Sn) => upd (upd (upd (upd (upd (fun _ => none) 0 (some (.val (tL 2 true tSn l)))) 4 (some (.own (.sl 4 2 0 xs.length)))) 11 (some (.val (tL 2 true tSn l)))) 12 (some (.val (tI l.length)))) 13 (some (.val (tI i)))) fm.1 fm.2) (fun (fm : (Nat) × (List Sn)) => (fun (i : Nat) (xs : List Sn) => upd (fun _ => none) 4 (some (⟨72, 2, true, rV tSn xs⟩))) fm.1 fm.2) (nm [4]) (fun (fm : (Nat) × (List Sn)) => (fun (i : Nat) (xs : List Sn) => l.length - i) fm.1 fm.2) ((0, [])) (by dsimp only; exact ⟨Nat.zero_le _, rfl, rfl⟩) (Sub.int rfl (by first | omega | rfl | (dsimp only; omega)) (Sub.int rfl (by first | omega | rfl | (dsimp only; omega)) (Sub.cons rfl (Sub.cons rfl (Sub.cons rfl Sub.nil))))) ((SubK.consI rfl ImpK.refl) SubK.nil) (SupG.val (SupG.val (SupG.val (SupG.own rfl (SupG.val SupG.nil))))) (SupH.cons rfl (supJ xc3) SupH.nil) (lkOk rfl) ?_
 intro fm hI
 obtain ⟨i, xs⟩ := fm
 replace hI : i ≤ l.length ∧ (l.take i).all Sn.ok = true ∧ xs = (l.take i).filter pos := hI
 show wc _ _ _ _ (upd (upd (upd (upd (upd (fun _ => none) 0 (some (.val (tL 2 true tSn l)))) 4 (some (.own (.sl 4 2 0 xs.length)))) 11 (some (.val (tL 2 true tSn l)))) 12 (some (.val (tI l.length)))) 13 (some (.val (tI i)))) (upd (fun _ => none) 4 (some (⟨72, 2, true, rV tSn xs⟩))) _
 obtain ⟨hi, ha, hx⟩ := hI
 have hxl : xs.length ≤ i := hx ▸ filter_le
 refine x6 ?_
 refine x8 ?_
 refine R2 xd5 rfl rfl (x7 (by kernel_rfl) (x3 (x6 ?_)))
 refine xc2 rfl (fun h31 => ?_) (fun h31 => ?_)
 ·
  refine xa2 (x3 (x6 (xa8 (x6 ?_))))
  refine x8 ?_
  refine R2 (xb5 sl60 (i) (by omega) (gD (l := l) (n := i) (d := sn0) (by omega))) rfl rfl (R1 (xb8 ti72) rfl (RE (xc1 (k := 6) (n := 2) (agg := true) zr72.1 zr72.2 rfl) trivial trivial ⟨rfl, trivial⟩ (RE (xa4 (es := 2) (agg := true) (0) ti72 rfl rfl rfl) ⟨rfl, rfl, trivial⟩ ⟨rfl, trivial⟩ trivial (x7 (by kernel_rfl) (x3 (x6 (x6 ?_)))))))
  refine x8 ?_
  refine RE (xb1 (0) ti72 rfl rfl) ⟨rfl, trivial⟩ ⟨rfl, trivial⟩ trivial (R1 (xa0 (c_isSpan _) fi67 rfl) rfl (R1 xe2 rfl (x7 (by kernel_rfl) (x3 ?_))))
  refine xg3 rfl (fun h32 => ?_) (fun h32 => ?_)
  ·
   have hbad : l.all Sn.ok = false := allS_stop (i := i) (by omega) (by rw [Bool.not_eq_true'] at h32; exact h32)
   rw [hall0] at hbad; cases hbad
  ·
   rw [Bool.not_eq_false'] at h32
   refine xa2 (x3 (x6 ?_))
   refine x8 ?_
   refine R1 (x9 fo72_0 rfl) rfl (xa3 (0) ti3 rfl rfl rfl (At.g 0 rfl rfl) rfl (R1 (x9 fo72_1 rfl) rfl (xa3 (0) ti3 rfl rfl rfl (At.g 1 rfl rfl) rfl (R2 xd5 rfl rfl (x7 (by kernel_rfl) (x3 ?_))))))
   refine xc2 rfl (fun h35 => ?_) (fun h35 => ?_)
   ·
    refine x8 ?_
    refine R1 x4 rfl (RE (xb1 (0) ti72 rfl rfl) ⟨rfl, trivial⟩ ⟨rfl, trivial⟩ trivial (R1 (xe4 (n := 1) (f := tSn) [(l.getD i sn0)] Tryz.underlying60 el72 zf72 rfl (fun _ => inferInstance) rfl rfl rfl) rfl (RE (xe7 (k := 4) (k' := 28) (f := tSn) (ys := [(l.getD i sn0)]) (ts' := rV tSn (xs ++ [(l.getD i sn0)])) Tryz.underlying60 el72 zf72 rfl rfl (fun _ => inferInstance) xf5 (by simp; omega) (by simp; omega) (by simp [rV]) (n' := xs.length + 1) rfl) ⟨rfl, rfl, trivial⟩ ⟨rfl, trivial⟩ ⟨rfl, trivial⟩ (R1 x5 rfl (x7 (by kernel_rfl) (xc0 (x3 ?_)))))))
    refine x8 ?_
    refine R2 (xb7 (wr64 (by omega) (by omega))) rfl rfl (R1 x4 rfl (x7 (by kernel_rfl) ?_))
    exact K_famR (l := [4]) (fun j => cond (Nat.beq j 4) 28 (j)) ((i + 1, xs ++ [(l.getD i sn0)])) ⟨(by dsimp only; exact ⟨by omega, by rw [allS_next (by omega), ha, h32]; rfl, by rw [filter_next (by omega), ← hx, if_pos (show pos _ = true from decide_eq_true h35)]⟩), (by dsimp only; omega)⟩ (SubR.int rfl (by first | omega | rfl | (dsimp only; omega)) (SubR.int rfl (by first | omega | rfl | (dsimp only; omega)) (SubR.cons rfl ((SubR.consI rfl (Imp.of (by dsimp only; rw [List.length_append]; rfl))) (SubR.cons rfl SubR.nil))))) ((SubKR.consI rfl (ImpK.of xe5.symm)) SubKR.nil) (SupG.val (SupG.val (SupG.val (SupG.own rfl (SupG.val SupG.nil))))) (SupH.cons rfl (supJ xc3) SupH.nil) (lkOk rfl) rfl rfl (fun _ h => by cases h)
   ·
    refine xa2 (xc0 (x3 ?_))
    refine x8 ?_
    refine R2 (xb7 (wr64 (by omega) (by omega))) rfl rfl (R1 x4 rfl (x7 (by kernel_rfl) ?_))
    exact xc5 ((i + 1, xs)) ⟨(by dsimp only; exact ⟨by omega, by rw [allS_next (by omega), ha, h32]; rfl, by rw [filter_next (by omega), ← hx, if_neg (by rw [pos, decide_eq_false h35]; exact Bool.false_ne_true), List.append_nil]⟩), (by dsimp only; omega)⟩ (Sub.int rfl (by first | omega | rfl | (dsimp only; omega)) (Sub.int rfl (by first | omega | rfl | (dsimp only; omega)) (Sub.cons rfl (Sub.cons rfl (Sub.cons rfl Sub.nil))))) ((SubK.consI rfl ImpK.refl) SubK.nil) (SupG.val (SupG.val (SupG.val (SupG.own rfl (SupG.val SupG.nil))))) (SupH.cons rfl (supJ xc3) SupH.nil) (lkOk rfl)
 ·
  refine xd0 (xb6 (xb6 (xd4 (x3 (x6 ?_)))))
  have hil : i = l.length := by omega
  subst hil
  rw [List.take_length] at ha hx
  have hall := ha
  have hmk : mkS l = mrg (srt cfSn xs) := by rw [mkS, hx]
  refine x8 ?_
  refine R1 x4 rfl (RE (xf7 (fun _ => 4) (c_sortSn xs (by omega)) fi89 rfl (krC (ρ := fun _ => 4) (k := 1) xe5 (krN (ρ := fun _ => 4))) (krC (ρ := fun _ => 4) (k := 1) xe5 (krN (ρ := fun _ => 4))) ⟨⟨rfl, xc3⟩, trivial⟩ rfl) ⟨rfl, rfl, trivial⟩ ⟨rfl, trivial⟩ trivial (x7 (by kernel_rfl) (x3 (x6 ?_))))
  refine x8 ?_
  refine RE (xh9 (k := 7) 72 2 true rfl (fun h => by cases h)) trivial trivial ⟨rfl, trivial⟩ (x7 (by kernel_rfl) (x3 (x6 (x6 ?_))))
  refine x8 ?_
  refine R1 x4 rfl (R1 (d_lenO Tryz.underlying60) rfl (R1 x4 rfl (x7 (by kernel_rfl) (x3 (xa8 ?_)))))
  refine xd6 (fun (fm : (Nat) × (List Sn)) => (fun (i : Nat) (zs : List Sn) => i ≤ xs.length ∧ zs = mrg ((srt cfSn xs).take i)) fm.1 fm.2) (fun (fm : (Nat) × (List Sn)) => (fun (i : Nat) (zs : List Sn) => upd (upd (upd (upd (upd (fun _ => none) 4 (some (.own (.sl 4 2 0 xs.length)))) 7 (some (.own (.sl 7 2 0 zs.length)))) 32 (some (.own (.sl 4 2 0 xs.length)))) 33 (some (.val (tI xs.length)))) 34 (some (.val (tI i)))) fm.1 fm.2) (fun (fm : (Nat) × (List Sn)) => (fun (i : Nat) (zs : List Sn) => upd (upd (fun _ => none) 4 (some (⟨72, 2, true, rV tSn (srt cfSn xs)⟩))) 7 (some (⟨72, 2, true, rV tSn zs⟩))) fm.1 fm.2) (nm [4, 7]) (fun (fm : (Nat) × (List Sn)) => (fun (i : Nat) (zs : List Sn) => xs.length - i) fm.1 fm.2) ((0, [])) (by dsimp only; exact ⟨Nat.zero_le _, rfl⟩) (Sub.int rfl (by first | omega | rfl | (dsimp only; omega)) (Sub.int rfl (by first | omega | rfl | (dsimp only; omega)) (Sub.cons rfl (Sub.cons rfl (Sub.cons rfl Sub.nil))))) ((SubK.consI rfl ImpK.refl) ((SubK.consI rfl ImpK.refl) SubK.nil)) (SupG.val (SupG.val (SupG.own rfl (SupG.own rfl (SupG.own rfl SupG.nil))))) (SupH.cons rfl (supJ xc3) (SupH.cons rfl (supJ xc3) SupH.nil)) (lkOk rfl) ?_
  intro fm hI
  obtain ⟨i, zs⟩ := fm
  replace hI : i ≤ xs.length ∧ zs = mrg ((srt cfSn xs).take i) := hI
  show wc _ _ _ _ (upd (upd (upd (upd (upd (fun _ => none) 4 (some (.own (.sl 4 2 0 xs.length)))) 7 (some (.own (.sl 7 2 0 zs.length)))) 32 (some (.own (.sl 4 2 0 xs.length)))) 33 (some (.val (tI xs.length)))) 34 (some (.val (tI i)))) (upd (upd (fun _ => none) 4 (some (⟨72, 2, true, rV tSn (srt cfSn xs)⟩))) 7 (some (⟨72, 2, true, rV tSn zs⟩))) _
  obtain ⟨hi', hz⟩ := hI
  have hsl := srtSn_len (xs := xs)
  have hzl : zs.length ≤ i := by
   have h := mrg_len ((srt cfSn xs).take i) []
   rw [List.length_take] at h
   have h2 : zs.length ≤ ([] : List Sn).length + min i (srt cfSn xs).length := by rw [hz]; exact h
   simp at h2; omega
  refine x6 ?_
  refine x8 ?_
  refine R2 xd5 rfl rfl (x7 (by kernel_rfl) (x3 (x6 ?_)))
  refine xc2 rfl (fun h41 => ?_) (fun h41 => ?_)
  ·
   refine xa2 (x3 (x6 (xa8 (x6 ?_))))
   refine x8 ?_
   refine R2 (xd1 sl60 (by omega) (by omega) rfl) rfl rfl (RE (xb1 (i) ti72 (xh5 (d := sn0) (by omega)) (by omega)) ⟨rfl, trivial⟩ ⟨rfl, trivial⟩ trivial (RE (xc1 (k := 9) (n := 2) (agg := true) zr72.1 zr72.2 rfl) trivial trivial ⟨rfl, trivial⟩ (RE (xa4 (es := 2) (agg := true) (0) ti72 rfl rfl rfl) ⟨rfl, rfl, trivial⟩ ⟨rfl, trivial⟩ trivial (x7 (by kernel_rfl) (x3 (x6 ?_))))))
   refine x8 ?_
   refine R1 x4 rfl (R1 (d_lenO Tryz.underlying60) rfl (R1 x5 rfl (x7 (by kernel_rfl) (x3 (x6 ?_)))))
   refine xd7 mixed ?_
   refine R1 x4 rfl (R2 d_gtr rfl rfl (R1 x4 rfl ?_))
   refine RGcaseD (t := 42) rfl (fun h42 => ?_) (fun h42 => ?_)
   ·
    refine RGon (decide_eq_true h42) rfl x4 rfl ⟨rfl, trivial⟩ trivial trivial (RGon (decide_eq_true h42) rfl x4 rfl ⟨rfl, trivial⟩ trivial trivial (RGon (decide_eq_true h42) rfl (xe3 (wr64 (by omega) (by omega))) rfl ⟨rfl, rfl, trivial⟩ trivial trivial (RGon (decide_eq_true h42) rfl (xd1 sl60 (by omega) (by omega) rfl) rfl ⟨rfl, rfl, trivial⟩ trivial trivial (RGon (decide_eq_true h42) rfl (x9 fo72_1 rfl) rfl ⟨rfl, trivial⟩ trivial trivial (RGon (decide_eq_true h42) rfl (d_loadF (es := 2) (o := 1) (zs.length - 1) ti3 (xh5 (d := sn0) (by omega)) (At.g 1 rfl rfl) (by omega)) rfl ⟨rfl, trivial⟩ ⟨rfl, trivial⟩ trivial (RGon (decide_eq_true h42) rfl (x9 fo72_0 rfl) rfl ⟨rfl, trivial⟩ trivial trivial (xb3 (decide_eq_true h42) rfl rfl (0) ti3 rfl rfl rfl (At.g 0 rfl rfl) rfl ?_)))))))
    refine RGon (decide_eq_true h42) rfl d_geq rfl ⟨rfl, rfl, trivial⟩ trivial trivial (R2 (xb2 (decide_eq_true h42)) rfl rfl (xd2 (by kernel_rfl) (x3 ?_)))
    refine xc2 rfl (fun h42_2 => ?_) (fun h42_2 => ?_)
    ·
     refine xd7 mixed ?_
     refine R1 x4 rfl (R1 x4 rfl (R2 (xe3 (wr64 (by omega) (by omega))) rfl rfl (R1 x4 rfl (R1 x4 rfl (R2 (xe3 (wr64 (by omega) (by omega))) rfl rfl (R2 (xd1 sl60 (by omega) (by omega) rfl) rfl rfl (R1 (x9 fo72_1 rfl) rfl ?_)))))))
     refine RE (d_loadF (es := 2) (o := 1) (zs.length - 1) ti3 (xh5 (d := sn0) (by omega)) (At.g 1 rfl rfl) (by omega)) ⟨rfl, trivial⟩ ⟨rfl, trivial⟩ trivial (R1 (x9 fo72_1 rfl) rfl (xa3 (0) ti3 rfl rfl rfl (At.g 1 rfl rfl) rfl (R2 d_max2 rfl rfl (R2 (xd1 sl60 (by omega) (by omega) rfl) rfl rfl (R1 (x9 fo72_1 rfl) rfl (RE (d_storeF (es := 2) (o := 1) (t2 := tSn ⟨(zs.getD (zs.length - 1) sn0).lo, max (zs.getD (zs.length - 1) sn0).hi ((srt cfSn xs).getD i sn0).hi⟩) (zs.length - 1) ti3 (xh5 (d := sn0) (by omega)) (Up.f (f := ⟨1, false, tI (zs.getD (zs.length - 1) sn0).hi⟩) 1 rfl rfl rfl) (by omega) (rV_set rfl)) ⟨rfl, rfl, trivial⟩ ⟨rfl, trivial⟩ trivial (xd2 (by kernel_rfl) ?_)))))))
     refine xc0 (x3 ?_)
     refine x8 ?_
     refine R2 (xb7 (wr64 (by omega) (by omega))) rfl rfl (R1 x4 rfl (x7 (by kernel_rfl) ?_))
     exact xc5 ((i + 1, (zs.set (zs.length - 1) ⟨(zs.getD (zs.length - 1) sn0).lo, max (zs.getD (zs.length - 1) sn0).hi ((srt cfSn xs).getD i sn0).hi⟩))) ⟨(by dsimp only; exact ⟨by omega, by rw [mrg_next (by omega), ← hz, mrg1, if_pos ⟨by omega, by omega⟩]⟩), (by dsimp only; omega)⟩ (Sub.int rfl (by first | omega | rfl | (dsimp only; omega)) (Sub.int rfl (by first | omega | rfl | (dsimp only; omega)) (Sub.cons rfl ((Sub.consI rfl (Imp.of (by dsimp only; rw [List.length_set]))) (Sub.cons rfl Sub.nil))))) ((SubK.consI rfl ImpK.refl) ((SubK.consI rfl ImpK.refl) SubK.nil)) (SupG.val (SupG.val (SupG.own rfl (SupG.own rfl (SupG.own rfl SupG.nil))))) (SupH.cons rfl (supJ xc3) (SupH.cons rfl (supJ xc3) SupH.nil)) (lkOk rfl)
    ·
     refine x8 ?_
     refine R1 x4 rfl (RE (xb1 (0) ti72 rfl rfl) ⟨rfl, trivial⟩ ⟨rfl, trivial⟩ trivial (R1 (xe4 (n := 1) (f := tSn) [((srt cfSn xs).getD i sn0)] Tryz.underlying60 el72 zf72 rfl (fun _ => inferInstance) rfl rfl rfl) rfl (RE (xe7 (k := 7) (k' := 70) (f := tSn) (ys := [((srt cfSn xs).getD i sn0)]) (ts' := rV tSn (zs ++ [((srt cfSn xs).getD i sn0)])) Tryz.underlying60 el72 zf72 rfl rfl (fun _ => inferInstance) xf5 (by simp; omega) (by simp; omega) (by simp [rV]) (n' := zs.length + 1) rfl) ⟨rfl, rfl, trivial⟩ ⟨rfl, trivial⟩ ⟨rfl, trivial⟩ (R1 x5 rfl (x7 (by kernel_rfl) (xc0 (x3 ?_)))))))
     refine x8 ?_
     refine R2 (xb7 (wr64 (by omega) (by omega))) rfl rfl (R1 x4 rfl (x7 (by kernel_rfl) ?_))
     exact K_famR (l := [4, 7]) (fun j => cond (Nat.beq j 7) 70 (j)) ((i + 1, zs ++ [((srt cfSn xs).getD i sn0)])) ⟨(by dsimp only; exact ⟨by omega, by rw [mrg_next (by omega), ← hz, mrg1, if_neg (by omega)]⟩), (by dsimp only; omega)⟩ (SubR.int rfl (by first | omega | rfl | (dsimp only; omega)) (SubR.int rfl (by first | omega | rfl | (dsimp only; omega)) (SubR.cons rfl ((SubR.consI rfl (Imp.of (by dsimp only; rw [List.length_append]; rfl))) (SubR.cons rfl SubR.nil))))) ((SubKR.consI rfl (ImpK.of xe5.symm)) ((SubKR.consI rfl (ImpK.of xe5.symm)) SubKR.nil)) (SupG.val (SupG.val (SupG.own rfl (SupG.own rfl (SupG.own rfl SupG.nil))))) (SupH.cons rfl (supJ xc3) (SupH.cons rfl (supJ xc3) SupH.nil)) (lkOk rfl) rfl rfl (fun _ h => by cases h)
   ·
    refine RGoff (decide_eq_false h42) rfl rfl (RGoff (decide_eq_false h42) rfl rfl (RGoff (decide_eq_false h42) rfl rfl (RGoff (decide_eq_false h42) rfl rfl (RGoff (decide_eq_false h42) rfl rfl (RGoff (decide_eq_false h42) rfl rfl (RGoff (decide_eq_false h42) rfl rfl (RGoff (decide_eq_false h42) rfl rfl ?_)))))))
    refine RGoff (decide_eq_false h42) rfl rfl (R2 (xa6 (decide_eq_false h42)) rfl rfl (xd2 (by kernel_rfl) (x3 (C_bF rfl rfl ?_))))
    refine x8 ?_
    refine R1 x4 rfl (RE (xb1 (0) ti72 rfl rfl) ⟨rfl, trivial⟩ ⟨rfl, trivial⟩ trivial (R1 (xe4 (n := 1) (f := tSn) [((srt cfSn xs).getD i sn0)] Tryz.underlying60 el72 zf72 rfl (fun _ => inferInstance) rfl rfl rfl) rfl (RE (xe7 (k := 7) (k' := 70) (f := tSn) (ys := [((srt cfSn xs).getD i sn0)]) (ts' := rV tSn (zs ++ [((srt cfSn xs).getD i sn0)])) Tryz.underlying60 el72 zf72 rfl rfl (fun _ => inferInstance) xf5 (by simp; omega) (by simp; omega) (by simp [rV]) (n' := zs.length + 1) rfl) ⟨rfl, rfl, trivial⟩ ⟨rfl, trivial⟩ ⟨rfl, trivial⟩ (R1 x5 rfl (x7 (by kernel_rfl) (xc0 (x3 ?_)))))))
    refine x8 ?_
    refine R2 (xb7 (wr64 (by omega) (by omega))) rfl rfl (R1 x4 rfl (x7 (by kernel_rfl) ?_))
    exact K_famR (l := [4, 7]) (fun j => cond (Nat.beq j 7) 70 (j)) ((i + 1, zs ++ [((srt cfSn xs).getD i sn0)])) ⟨(by dsimp only; exact ⟨by omega, by rw [mrg_next (by omega), ← hz, mrg1, if_neg (by omega)]⟩), (by dsimp only; omega)⟩ (SubR.int rfl (by first | omega | rfl | (dsimp only; omega)) (SubR.int rfl (by first | omega | rfl | (dsimp only; omega)) (SubR.cons rfl ((SubR.consI rfl (Imp.of (by dsimp only; rw [List.length_append]; rfl))) (SubR.cons rfl SubR.nil))))) ((SubKR.consI rfl (ImpK.of xe5.symm)) ((SubKR.consI rfl (ImpK.of xe5.symm)) SubKR.nil)) (SupG.val (SupG.val (SupG.own rfl (SupG.own rfl (SupG.own rfl SupG.nil))))) (SupH.cons rfl (supJ xc3) (SupH.cons rfl (supJ xc3) SupH.nil)) (lkOk rfl) rfl rfl (fun _ h => by cases h)
  ·
   refine xd0 (xb6 (xb6 (xd4 (x3 (x6 ?_)))))
   have hzm : zs = mkS l := by rw [hmk, hz, show i = (srt cfSn xs).length by omega, List.take_length]
   subst hzm
   refine x8 ?_
   refine R1 x4 rfl (R1 x5 rfl (R1 x5 rfl (x7 (by kernel_rfl) (x3 (xa1 ?_)))))
   exact E_retGT (r1 := .own (.sl 7 2 0 (mkS l).length)) (r2 := .val (tI 0)) LentC.mk' rfl rfl rfl Imp.refl Imp.refl ⟨rfl, trivial⟩ rfl ⟨⟨rfl, xc3⟩, trivial⟩ rfl
theorem c_TDiffO (a b : List Tst) (hla : a.length ≤ 200000) (hlb : b.length ≤ 200000) (hDa : ∀ s ∈ a, s.v.f.dig) (hDb : ∀ s ∈ b, s.v.f.dig) (hok : tRight a = true ∧ tRight b = true) :
  CtG Tryz.prog 32 [] [.val (tL 8 true tTs a), .val (tL 8 true tTs b)] (.own (.tup [.sl 56 2 0 (dfS a b).length, .ty (tI 0)])) [(56, ⟨72, 2, true, rV tSn (dfS a b)⟩)] [56] := by
 refine CtG.intro [] Tryz.func32 rfl Tryz.ntmps32 rfl rfl trivial ?_
 intro w F η
 refine x6 ?_
 refine x8 ?_
 refine R1 x5 rfl (R1 x5 rfl (x7 (by kernel_rfl) (x3 (x6 (x6 ?_)))))
 refine x8 ?_
 refine R1 x4 rfl (R1 (xa0 (c_TRight a hDa) fi14 rfl) rfl (R1 xe2 rfl (R1 x4 rfl ?_)))
 refine RGcase (t := 12) rfl (fun h223 => ?_) (fun h223 => ?_)
 ·
  rw [hok.1] at h223; cases h223
 ·
  refine RGon h223 rfl x4 rfl ⟨rfl, trivial⟩ trivial trivial (RGon h223 rfl (xa0 (c_TRight b hDb) fi14 rfl) rfl ⟨rfl, trivial⟩ trivial trivial (RGon h223 rfl xe2 rfl ⟨rfl, trivial⟩ trivial trivial (R2 (xa6 h223) rfl rfl (x7 (by kernel_rfl) (x3 ?_)))))
  refine xg3 rfl (fun h223_2 => ?_) (fun h223_2 => ?_)
  ·
   rw [hok.2] at h223_2; cases h223_2
  ·
   refine xa2 (x3 (x6 ?_))
   refine x8 ?_
   refine RE (xc1 (k := 6) (n := 1) (agg := false) zr60.1 zr60.2 rfl) trivial trivial ⟨rfl, trivial⟩ (x7 (by kernel_rfl) (x3 (x6 (x6 (C_nilC (q := 6) 60 72 2 true 0 rfl rfl rfl rfl (fun h => by cases h) rfl rfl ?_)))))
   refine x8 ?_
   refine R1 x4 rfl (R1 x4 rfl (RE (xf7 (fun j => cond (Nat.beq j 2) 19 (1019)) (c_together a b) fi46 rfl (krN (ρ := fun j => cond (Nat.beq j 2) 19 (1019))) (krC (ρ := fun j => cond (Nat.beq j 2) 19 (1019)) (k := 2) rfl (krC (ρ := fun j => cond (Nat.beq j 2) 19 (1019)) (k := 3) rfl (krN (ρ := fun j => cond (Nat.beq j 2) 19 (1019))))) ⟨⟨rfl, (SupX.lit rfl)⟩, ⟨rfl, (SupX.lit rfl)⟩, trivial⟩ rfl) ⟨rfl, rfl, trivial⟩ trivial ⟨rfl, rfl, trivial⟩ (x7 (by kernel_rfl) (x3 (xa8 ?_)))))
   refine C_range (caps := [.ptr 1 0, .ptr 2 0]) (κ := Empty) (fun j => cond (Nat.beq j 2) 1019 (cond (Nat.beq j 1) 19 (j))) rfl (fun _ h => h) trivial (i_together a b (xh6 hok.1) (xh6 hok.2) hla hlb) fi73 rfl ⟨rfl, rfl, trivial⟩ rfl rfl (fun _ _ => rfl) (upd (fun _ => none) 6 (some (.own (.ptr 6 0)))) [6, 60] [6] (Sub.cons rfl Sub.nil) (SupG.own rfl SupG.nil) rfl (lkOk rfl) (fun (k : Nat) (xs : List Sn) => xs = dfK a b k ∧ xs.length ≤ k) (fun (k : Nat) (xs : List Sn) => upd (upd (fun _ => none) 6 (some (⟨60, 1, false, [.own (.sl 60 2 0 xs.length)]⟩))) 60 (some (⟨72, 2, true, rV tSn xs⟩))) (fun k x => (SupH.cons rfl (supJ xc3) (SupH.cons rfl (supJL rfl) SupH.nil))) (fun k x y hy => by simp only [List.mem_cons, List.not_mem_nil, or_false] at hy; rcases hy with rfl | rfl <;> rfl) (fun _ _ => False) (fun i => i.elim) (fun _ _ h => h.elim) ([]) ⟨rfl, Nat.le_refl _⟩ ((SubK.consI rfl ImpK.refl) ((SubK.consI rfl ImpK.refl) SubK.nil)) ?_ ?_ ?_
   ·
    intro D lp o1 o2 O W lη lb V0 k xs hk hI
    obtain ⟨hx, hxl⟩ := hI
    have hdl := bds_len (ls := [a, b])
    have htl : tlen [a, b] ≤ 400000 := by simp [tlen]; omega
    apply rnd_mk
    ·
     refine x6 ?_
     refine x8 ?_
     refine RE (xc1 (k := 7) (n := 2) (agg := true) zr72.1 zr72.2 rfl) trivial trivial ⟨rfl, trivial⟩ (RE (xa4 (es := 2) (agg := true) (0) ti72 rfl rfl rfl) ⟨rfl, rfl, trivial⟩ ⟨rfl, trivial⟩ trivial (x7 (by kernel_rfl) (x3 ?_)))
     refine x8 ?_
     refine RE (xc1 (k := 8) (n := 2) (agg := true) zr87.1 zr87.2 rfl) trivial trivial ⟨rfl, trivial⟩ (RE (xa4 (es := 2) (agg := true) (0) ti87 rfl rfl rfl) ⟨rfl, rfl, trivial⟩ ⟨rfl, trivial⟩ trivial (x7 (by kernel_rfl) ?_))
     exact K_thenF fun _ _ h => h
    ·
     refine xa8 (x6 (x6 ?_))
     refine xd7 mixed ?_
     refine R1 (x9 fo87_0 rfl) rfl (xa3 (0) ti85 rfl rfl rfl (At.g 0 rfl rfl) rfl (R1 (d_eqlNil Tryz.underlying85) rfl (R1 x4 rfl ?_)))
     refine RGcase (t := 25) rfl (fun h228 => ?_) (fun h228 => ?_)
     ·
      refine RGon h228 rfl (x9 fo87_1 rfl) rfl ⟨rfl, trivial⟩ trivial trivial (xb3 h228 rfl rfl (0) ti85 rfl rfl rfl (At.g 1 rfl rfl) rfl (RGon h228 rfl (d_eqlNil Tryz.underlying85) rfl ⟨rfl, trivial⟩ trivial trivial (R2 (xb2 h228) rfl rfl (R1 x4 rfl ?_))))
      refine RGcase (t := 30) rfl (fun h228_2 => ?_) (fun h228_2 => ?_)
      ·
       refine RGoff h228_2 rfl rfl (RGoff h228_2 rfl rfl (RGoff h228_2 rfl rfl (RGoff h228_2 rfl rfl (RGoffU rfl rfl (RGoffU rfl rfl (RGoffU rfl rfl (RGoff h228_2 rfl rfl ?_)))))))
       refine RGoff h228_2 rfl rfl (RGoffU rfl rfl (RGoffU rfl rfl (RGoffU rfl rfl (RGoffU rfl rfl (RGoffU rfl rfl (RGoffU rfl rfl (RGoffU rfl rfl ?_)))))))
       refine RGoffU rfl rfl (RGoffU rfl rfl (RGoff h228_2 rfl rfl (R2 (xb2 h228_2) rfl rfl (xd2 (by kernel_rfl) (x3 (C_bT rfl rfl (xd0 ?_)))))))
       refine xb6 (xd4 ?_)
       exact K_rnd (xs) ⟨by rw [dfK_eq (by rw [Option.isNone_iff_eq_none.1 h228, Option.isNone_iff_eq_none.1 h228_2])]; exact hx, by omega⟩ ((SubK.consI rfl ImpK.refl) ((SubK.consI rfl ImpK.refl) SubK.nil)) (SupH.cons rfl (supJ xc3) (SupH.cons rfl (supJL rfl) SupH.nil)) (lkOk rfl)
      ·
       refine RGon h228_2 rfl (x9 fo87_0 rfl) rfl ⟨rfl, trivial⟩ trivial trivial (xb3 h228_2 rfl rfl (0) ti85 rfl rfl rfl (At.g 0 rfl rfl) rfl (RGon h228_2 rfl (d_neqNil Tryz.underlying85) rfl ⟨rfl, trivial⟩ trivial trivial (RGon h228_2 rfl x4 rfl ⟨rfl, trivial⟩ trivial trivial (RGoff (by exact congrArg Bool.not h228) rfl rfl (RGoff (by exact congrArg Bool.not h228) rfl rfl (RGoff (by exact congrArg Bool.not h228) rfl rfl (RGon h228_2 rfl (xa6 (by exact congrArg Bool.not h228)) rfl ⟨rfl, rfl, trivial⟩ trivial trivial ?_)))))))
       refine RGon h228_2 rfl x4 rfl ⟨rfl, trivial⟩ trivial trivial (RGoff0 rfl rfl (RGoff0 rfl rfl (RGoff0 rfl rfl (RGoff0 rfl rfl (RGoff0 rfl rfl (RGoff0 rfl rfl (RGoff0 rfl rfl ?_)))))))
       refine RGoff0 rfl rfl (RGoff0 rfl rfl (RGon h228_2 rfl (xa6 rfl) rfl ⟨rfl, rfl, trivial⟩ trivial trivial (R2 (xa6 h228_2) rfl rfl (xd2 (by kernel_rfl) (x3 (C_bF rfl rfl (xa2 ?_)))))))
       refine x3 ?_
       refine x8 ?_
       refine RE (xb1 (ts := [.own (.sl 60 2 0 xs.length)]) (0) ti60 rfl rfl) ⟨rfl, trivial⟩ ⟨rfl, trivial⟩ trivial (RE (xb1 (0) ti72 rfl rfl) ⟨rfl, trivial⟩ ⟨rfl, trivial⟩ trivial (R1 (xe4 (n := 1) (f := tSn) [(⟨((bds [a, b]).getD k 0), ((bds [a, b]).getD (k + 1) 0)⟩ : Sn)] Tryz.underlying60 el72 zf72 rfl (fun _ => inferInstance) rfl rfl rfl) rfl (RE (xe7 (k := 60) (k' := 54) (f := tSn) (ys := [(⟨((bds [a, b]).getD k 0), ((bds [a, b]).getD (k + 1) 0)⟩ : Sn)]) (ts' := rV tSn (xs ++ [(⟨((bds [a, b]).getD k 0), ((bds [a, b]).getD (k + 1) 0)⟩ : Sn)])) Tryz.underlying60 el72 zf72 rfl rfl (fun _ => inferInstance) xf5 (by simp; omega) (by simp; omega) (by simp [rV]) (n' := xs.length + 1) rfl) ⟨rfl, rfl, trivial⟩ ⟨rfl, trivial⟩ ⟨rfl, trivial⟩ (RE (xa4 (es := 1) (agg := false) (e := .own (.sl 54 2 0 (xs.length + 1))) (0) ti60 rfl rfl rfl) ⟨rfl, rfl, trivial⟩ ⟨rfl, trivial⟩ trivial (x7 (by kernel_rfl) (xc0 ?_))))))
       exact K_ren (g' := fun _ => none) [6, 60] (fun j => cond (Nat.beq j 60) 54 (j)) SubR.nil ((SubKR.consI rfl (ImpK.of xe5.symm)) ((SubKR.consI rfl (ImpK.of (by rw [List.length_append]; rfl))) SubKR.nil)) SupG.nil (SupH.cons rfl (supJ xc3) (SupH.cons rfl (supJL rfl) SupH.nil)) (lkOk rfl) rfl rfl (fun _ h => by cases h) (K_rnd ((xs ++ [(⟨((bds [a, b]).getD k 0), ((bds [a, b]).getD (k + 1) 0)⟩ : Sn)])) ⟨by rw [dfK_ne (fun e => by rw [e, h228_2] at h228; cases h228), ← hx], by rw [List.length_append]; simp; omega⟩ SubK.refl (SupH.cons rfl (supJ xc3) (SupH.cons rfl (supJL rfl) SupH.nil)) (lkOk rfl))
     ·
      refine RGoff h228 rfl rfl (RGoff h228 rfl rfl (RGoff h228 rfl rfl (R2 (xa6 h228) rfl rfl (R1 x4 rfl (RGon rfl rfl (x9 fo87_0 rfl) rfl ⟨rfl, trivial⟩ trivial trivial (xb3 rfl rfl rfl (0) ti85 rfl rfl rfl (At.g 0 rfl rfl) rfl (RGon rfl rfl (d_neqNil Tryz.underlying85) rfl ⟨rfl, trivial⟩ trivial trivial ?_)))))))
      refine RGon rfl rfl x4 rfl ⟨rfl, trivial⟩ trivial trivial (RGon (by exact congrArg Bool.not h228) rfl (x9 fo87_1 rfl) rfl ⟨rfl, trivial⟩ trivial trivial (xb3 (by exact congrArg Bool.not h228) rfl rfl (0) ti85 rfl rfl rfl (At.g 1 rfl rfl) rfl (RGon (by exact congrArg Bool.not h228) rfl (d_neqNil Tryz.underlying85) rfl ⟨rfl, trivial⟩ trivial trivial (RGon rfl rfl (xb2 (by exact congrArg Bool.not h228)) rfl ⟨rfl, rfl, trivial⟩ trivial trivial (RGon rfl rfl x4 rfl ⟨rfl, trivial⟩ trivial trivial ?_)))))
      refine RGcase (t := 39) rfl (fun h228_3 => ?_) (fun h228_3 => ?_)
      ·
       obtain ⟨u, hu⟩ := some_of h228
       obtain ⟨v, hv⟩ := not_none h228_3
       refine RGon h228_3 rfl (x9 fo87_0 rfl) rfl ⟨rfl, trivial⟩ trivial trivial (xb3 h228_3 rfl rfl (0) ti85 rfl rfl rfl (At.g 0 rfl rfl) rfl (RGon h228_3 rfl (d_checkO hu) rfl ⟨rfl, trivial⟩ trivial trivial (RGon h228_3 rfl (xb8 ti37) rfl ⟨rfl, trivial⟩ trivial trivial (RGon h228_3 rfl (x9 fo87_1 rfl) rfl ⟨rfl, trivial⟩ trivial trivial (xb3 h228_3 rfl rfl (0) ti85 rfl rfl rfl (At.g 1 rfl rfl) rfl (RGon h228_3 rfl (d_checkO hv) rfl ⟨rfl, trivial⟩ trivial trivial (RGon h228_3 rfl (xb8 ti37) rfl ⟨rfl, trivial⟩ trivial trivial ?_)))))))
       refine RGon h228_3 rfl (xa0 (c_TSame _ _) fi48 rfl) rfl ⟨rfl, rfl, trivial⟩ trivial trivial (RGon rfl rfl (xb2 h228_3) rfl ⟨rfl, rfl, trivial⟩ trivial trivial (R2 (xa6 rfl) rfl rfl (xd2 (by kernel_rfl) (x3 ?_))))
       refine xc2 rfl (fun h228_4 => ?_) (fun h228_4 => ?_)
       ·
        refine xd0 (xb6 (xd4 ?_))
        exact K_rnd (xs) ⟨by rw [dfK_eq (by rw [hu, hv, h228_4])]; exact hx, by omega⟩ ((SubK.consI rfl ImpK.refl) ((SubK.consI rfl ImpK.refl) SubK.nil)) (SupH.cons rfl (supJ xc3) (SupH.cons rfl (supJL rfl) SupH.nil)) (lkOk rfl)
       ·
        refine xa2 (x3 ?_)
        refine x8 ?_
        refine RE (xb1 (ts := [.own (.sl 60 2 0 xs.length)]) (0) ti60 rfl rfl) ⟨rfl, trivial⟩ ⟨rfl, trivial⟩ trivial (RE (xb1 (0) ti72 rfl rfl) ⟨rfl, trivial⟩ ⟨rfl, trivial⟩ trivial (R1 (xe4 (n := 1) (f := tSn) [(⟨((bds [a, b]).getD k 0), ((bds [a, b]).getD (k + 1) 0)⟩ : Sn)] Tryz.underlying60 el72 zf72 rfl (fun _ => inferInstance) rfl rfl rfl) rfl (RE (xe7 (k := 60) (k' := 54) (f := tSn) (ys := [(⟨((bds [a, b]).getD k 0), ((bds [a, b]).getD (k + 1) 0)⟩ : Sn)]) (ts' := rV tSn (xs ++ [(⟨((bds [a, b]).getD k 0), ((bds [a, b]).getD (k + 1) 0)⟩ : Sn)])) Tryz.underlying60 el72 zf72 rfl rfl (fun _ => inferInstance) xf5 (by simp; omega) (by simp; omega) (by simp [rV]) (n' := xs.length + 1) rfl) ⟨rfl, rfl, trivial⟩ ⟨rfl, trivial⟩ ⟨rfl, trivial⟩ (RE (xa4 (es := 1) (agg := false) (e := .own (.sl 54 2 0 (xs.length + 1))) (0) ti60 rfl rfl rfl) ⟨rfl, rfl, trivial⟩ ⟨rfl, trivial⟩ trivial (x7 (by kernel_rfl) (xc0 ?_))))))
        exact K_ren (g' := fun _ => none) [6, 60] (fun j => cond (Nat.beq j 60) 54 (j)) SubR.nil ((SubKR.consI rfl (ImpK.of xe5.symm)) ((SubKR.consI rfl (ImpK.of (by rw [List.length_append]; rfl))) SubKR.nil)) SupG.nil (SupH.cons rfl (supJ xc3) (SupH.cons rfl (supJL rfl) SupH.nil)) (lkOk rfl) rfl rfl (fun _ h => by cases h) (K_rnd ((xs ++ [(⟨((bds [a, b]).getD k 0), ((bds [a, b]).getD (k + 1) 0)⟩ : Sn)])) ⟨by rw [dfK_ne (fun e => by rw [hu, hv] at e; exact h228_4 (Option.some.inj e)), ← hx], by rw [List.length_append]; simp; omega⟩ SubK.refl (SupH.cons rfl (supJ xc3) (SupH.cons rfl (supJL rfl) SupH.nil)) (lkOk rfl))
      ·
       refine RGoff h228_3 rfl rfl (RGoff h228_3 rfl rfl (RGoff h228_3 rfl rfl (RGoff h228_3 rfl rfl (RGoff h228_3 rfl rfl (RGoff h228_3 rfl rfl (RGoff h228_3 rfl rfl (RGoff h228_3 rfl rfl ?_)))))))
       refine RGoff h228_3 rfl rfl (RGon rfl rfl (xa6 h228_3) rfl ⟨rfl, rfl, trivial⟩ trivial trivial (R2 (xa6 rfl) rfl rfl (xd2 (by kernel_rfl) (x3 (C_bF rfl rfl (xa2 (x3 ?_)))))))
       refine x8 ?_
       refine RE (xb1 (ts := [.own (.sl 60 2 0 xs.length)]) (0) ti60 rfl rfl) ⟨rfl, trivial⟩ ⟨rfl, trivial⟩ trivial (RE (xb1 (0) ti72 rfl rfl) ⟨rfl, trivial⟩ ⟨rfl, trivial⟩ trivial (R1 (xe4 (n := 1) (f := tSn) [(⟨((bds [a, b]).getD k 0), ((bds [a, b]).getD (k + 1) 0)⟩ : Sn)] Tryz.underlying60 el72 zf72 rfl (fun _ => inferInstance) rfl rfl rfl) rfl (RE (xe7 (k := 60) (k' := 54) (f := tSn) (ys := [(⟨((bds [a, b]).getD k 0), ((bds [a, b]).getD (k + 1) 0)⟩ : Sn)]) (ts' := rV tSn (xs ++ [(⟨((bds [a, b]).getD k 0), ((bds [a, b]).getD (k + 1) 0)⟩ : Sn)])) Tryz.underlying60 el72 zf72 rfl rfl (fun _ => inferInstance) xf5 (by simp; omega) (by simp; omega) (by simp [rV]) (n' := xs.length + 1) rfl) ⟨rfl, rfl, trivial⟩ ⟨rfl, trivial⟩ ⟨rfl, trivial⟩ (RE (xa4 (es := 1) (agg := false) (e := .own (.sl 54 2 0 (xs.length + 1))) (0) ti60 rfl rfl rfl) ⟨rfl, rfl, trivial⟩ ⟨rfl, trivial⟩ trivial (x7 (by kernel_rfl) (xc0 ?_))))))
       exact K_ren (g' := fun _ => none) [6, 60] (fun j => cond (Nat.beq j 60) 54 (j)) SubR.nil ((SubKR.consI rfl (ImpK.of xe5.symm)) ((SubKR.consI rfl (ImpK.of (by rw [List.length_append]; rfl))) SubKR.nil)) SupG.nil (SupH.cons rfl (supJ xc3) (SupH.cons rfl (supJL rfl) SupH.nil)) (lkOk rfl) rfl rfl (fun _ h => by cases h) (K_rnd ((xs ++ [(⟨((bds [a, b]).getD k 0), ((bds [a, b]).getD (k + 1) 0)⟩ : Sn)])) ⟨by rw [dfK_ne (fun e => by rw [← e, h228] at h228_3; cases h228_3), ← hx], by rw [List.length_append]; simp; omega⟩ SubK.refl (SupH.cons rfl (supJ xc3) (SupH.cons rfl (supJL rfl) SupH.nil)) (lkOk rfl))
   ·
    intro D hD xs hI
    obtain ⟨hx, hxl⟩ := hI
    have hdl := bds_len (ls := [a, b])
    have htl : tlen [a, b] ≤ 400000 := by simp [tlen]; omega
    have hx : xs = dfT a b := hx
    have hall := ascS_ok (dfT_asc hok.1 hok.2)
    refine xc0 (x3 (x6 ?_))
    have hds : mkS xs = dfS a b := by rw [hx]; rfl
    have hMk := c_SnMakeO xs (by omega) (by rw [hx]; exact hall)
    rw [hds] at hMk
    refine x8 ?_
    refine RE (Does.giveL (k := 60) (es := 2) (off := 0) (len := xs.length) (xs := xs) (f := tSn) (ts := rV tSn xs) (xb1 (ts := [.own (.sl 60 2 0 xs.length)]) (0) ti60 rfl rfl) (fun _ h => by obtain ⟨y, hy, _⟩ := h; cases hy) (rV_all rfl) rfl) ⟨rfl, trivial⟩ ⟨rfl, rfl, trivial⟩ trivial (RE (xf7 (fun _ => 56) hMk fi65 rfl (krN (ρ := fun _ => 56)) (krC (ρ := fun _ => 56) (k := 7) xe5 (krN (ρ := fun _ => 56))) ⟨⟨rfl, xc3⟩, trivial⟩ rfl) ⟨rfl, trivial⟩ trivial ⟨rfl, trivial⟩ (R1 (d_extractT rfl) rfl (R1 (d_extractT rfl) rfl (R1 x5 rfl (R1 x5 rfl (x7 (by kernel_rfl) (x3 ?_)))))))
    refine xa1 ?_
    exact E_retGT (r1 := .own (.sl 56 2 0 (dfS a b).length)) (r2 := .val (tI 0)) (LentC.loop LentC.mk' hD) rfl rfl rfl Imp.refl Imp.refl ⟨rfl, trivial⟩ rfl ⟨⟨rfl, xc3⟩, trivial⟩ rfl
   ·
    intro D hD e i; exact i.elim
end An.S

/- Law 5: TimelineDiffs. -/
namespace An.S
open Go Go.Proofs An
set_option maxHeartbeats 2000000
set_option maxRecDepth 100000
theorem df_comm {K : Nat} {D B : Int} {a b : List Tst} (ha : isG K D B a) (hb : isG K D B b) : dfS a b = dfS b a := by
  have h1 := dfS_set ha.1 hb.1
  have h2 := dfS_set hb.1 ha.1
  refine set_same h1.1 h2.1 fun d => ?_
  rw [h1.2, h2.2, dfB, dfB]
  exact decide_eq_decide.2 ⟨fun h e => h e.symm, fun h e => h e.symm⟩
theorem df_nil_iff {K : Nat} {D B : Int} {a b : List Tst} (ha : isG K D B a) (hb : isG K D B b) : (dfS a b).length = 0 ↔ a = b := by
  have h1 := dfS_set ha.1 hb.1
  constructor
  · intro h
    have h0 := List.length_eq_zero_iff.1 h
    refine ha.same hb fun d => ?_
    have h2 := h1.2 d
    rw [h0] at h2
    exact Classical.not_not.1 (of_decide_eq_false h2.symm)
  · rintro rfl
    rcases Nat.eq_zero_or_pos (dfS a a).length with h | h
    · exact h
    · have hm : mem (dfS a a) ((dfS a a).getD 0 sn0).lo = true := mem_iff.2 ⟨_, mem_getS h, Int.le_refl _, (xg5 h1.1 h).2.1⟩
      rw [h1.2, dfB] at hm
      exact absurd rfl (of_decide_eq_true hm)
/-- The set with an end. -/
def wE (S : List Sn) : List Sn := S ++ [⟨65536, 65536⟩]
/-- Where the gap before the i-th span begins. -/
def atW (S : List Sn) (i : Nat) : Int := if i = 0 then 0 else ((wE S).getD (i - 1) sn0).hi
theorem wE_len {S : List Sn} : (wE S).length = S.length + 1 := by simp [wE]
theorem wE_lt {S : List Sn} {i : Nat} (h : i < S.length) : (wE S).getD i sn0 = S.getD i sn0 := by
  rw [wE, List.getD_eq_getElem?_getD, List.getElem?_append_left h, ← List.getD_eq_getElem?_getD]
theorem wE_at {S : List Sn} : (wE S).getD S.length sn0 = ⟨65536, 65536⟩ := by
  rw [wE, List.getD_eq_getElem?_getD, List.getElem?_append_right (Nat.le_refl _)]; simp
theorem gapW {S : List Sn} {i : Nat} (h : sVal S = true) (hi : i < (wE S).length) : 0 ≤ atW S i ∧ atW S i ≤ ((wE S).getD i sn0).lo ∧ ((wE S).getD i sn0).lo ≤ 65536 ∧ ∀ d, atW S i ≤ d → d < ((wE S).getD i sn0).lo → mem S d = false := by
  rw [wE_len] at hi
  have hat : 0 < i → atW S i = (S.getD (i - 1) sn0).hi := fun h0 => by
    rw [atW, if_neg (by omega), wE_lt (by omega)]
  have hat0 : i = 0 → atW S i = 0 := fun h0 => by rw [atW, if_pos h0]
  have hlo : i = S.length → ((wE S).getD i sn0).lo = 65536 := fun e => by rw [e, wE_at]
  have hlo2 : i < S.length → ((wE S).getD i sn0).lo = (S.getD i sn0).lo := fun e => by rw [wE_lt e]
  refine ⟨?_, ?_, ?_, fun d h1 h2 => ?_⟩
  · rcases Nat.eq_zero_or_pos i with h0 | h0
    · rw [hat0 h0]; decide
    · have := xg5 h (show i - 1 < S.length by omega)
      rw [hat h0]; omega
  · rcases Nat.eq_zero_or_pos i with h0 | h0
    · rw [hat0 h0]
      rcases Nat.lt_or_ge i S.length with h3 | h3
      · have := xg5 h h3
        rw [hlo2 h3]; omega
      · rw [hlo (by omega)]; decide
    · have := xg5 h (show i - 1 < S.length by omega)
      rw [hat h0]
      rcases Nat.lt_or_ge i S.length with h3 | h3
      · have := sVal_lt h (show i - 1 < i by omega) h3
        rw [hlo2 h3]; omega
      · rw [hlo (by omega)]; omega
  · rcases Nat.lt_or_ge i S.length with h3 | h3
    · have := xg5 h h3
      rw [hlo2 h3]; omega
    · rw [hlo (by omega)]; decide
  · cases hm : mem S d with
    | false => rfl
    | true =>
      obtain ⟨j, hj, h4, h5⟩ := mem_at hm
      rcases Nat.lt_or_ge j i with h6 | h6
      · rw [hat (by omega)] at h1
        rcases Nat.lt_or_ge j (i - 1) with h7 | h7
        · have := sVal_lt h h7 (by omega)
          have := xg5 h (show i - 1 < S.length by omega)
          omega
        · rw [show j = i - 1 by omega] at h5; omega
      · rw [hlo2 (by omega)] at h2
        rcases Nat.lt_or_ge i j with h7 | h7
        · have := sVal_lt h h7 hj
          have := xg5 h (show i < S.length by omega)
          omega
        · rw [show i = j by omega] at h2; omega
theorem cut_gap {K : Nat} {D B : Int} {a b : List Tst} {i : Nat} (ha : isG K D B a) (hb : isG K D B b) (hi : i < (wE (dfS a b)).length) : cutT a (atW (dfS a b) i) ((wE (dfS a b)).getD i sn0).lo = cutT b (atW (dfS a b) i) ((wE (dfS a b)).getD i sn0).lo := by
  have h1 := dfS_set ha.1 hb.1
  have hg := (gapW h1.1 hi).2.2.2
  refine ha.cut.same hb.cut fun d => ?_
  rw [ha.cutV, hb.cutV]
  split
  · rename_i h
    have h2 := hg d h.1 h.2
    rw [h1.2, dfB] at h2
    exact Classical.not_not.1 (of_decide_eq_false h2)
  · rfl
theorem gap_ok {S : List Sn} {i : Nat} (h : sVal S = true) (hi : i < (wE S).length) : Sn.ok ⟨atW S i, ((wE S).getD i sn0).lo⟩ = true := by
  obtain ⟨h1, h2, h3, _⟩ := gapW h hi
  generalize ((wE S).getD i sn0).lo = y at *
  simp [Sn.ok]; omega
theorem sVal_len {l : List Sn} (h : sVal l = true) : l.length ≤ 65536 := by
  have key : ∀ i, i < l.length → (i : Int) ≤ (l.getD i sn0).lo := fun i => by
    induction i with
    | zero => intro hi; exact (xg5 h hi).1
    | succ i ih =>
      intro hi
      have h1 := ih (by omega)
      have h2 := xg5 h (show i < l.length by omega)
      have h3 : (l.getD i sn0).hi < (l.getD (i + 1) sn0).lo := sVal_lt h (Nat.lt_succ_self i) hi
      omega
  rcases Nat.lt_or_ge 65536 l.length with h1 | h1
  · have h2 := key 65536 h1
    have h3 := xg5 h h1
    omega
  · exact h1
theorem len_dec {n : Nat} {P : Prop} [Decidable P] (h : n = 0 ↔ P) : (!(decide ((n : Int) = 0) == decide P)) = false := by
  by_cases h1 : P
  · simp [h1, h.2 h1]
  · have : ¬ n = 0 := fun h2 => h1 (h.1 h2)
    simp [h1]; omega
theorem c_TlDiffs (m n : List Nat) (hmm : ∀ i, m.getD i 0 < 65536) (hmn : ∀ i, n.getD i 0 < 65536) (d : Int) (hd1 : -9223372036854775808 ≤ d) (hd2 : d ≤ 9223372036854775807) :
  Ct Tryz.prog 8 [tLm m, tLm n, tI d] (tB true) := by
 obtain ⟨ha, hla⟩ := tbT_ok m
 have hbta := c_Built05 m hmm
 generalize tbT m = a at *
 obtain ⟨hb, hlb⟩ := tbT_ok n
 have hbtb := c_Built05 n hmn
 generalize tbT n = b at *
 have s1 := dfS_set ha.1 hb.1
 have e1 := df_comm ha hb
 have e2 := df_nil_iff ha hb
 have e3 := (df_nil_iff ha ha).2 rfl
 have hSL := sVal_len s1.1
 have hWL := wE_len (S := (dfS a b))
 refine Ct.intro Tryz.func8 rfl Tryz.ntmps8 rfl ?_
 intro w F
 refine x6 ?_
 refine x8 ?_
 refine R1 x5 rfl (x7 (by kernel_rfl) (x3 (x6 (x6 ?_))))
 refine x8 ?_
 refine R0 (xa0 c_awake05 fi11 rfl)  (R1 xe2 rfl (x7 (by kernel_rfl) (x3 (C_bF rfl rfl (xa2 (x3 (x6 ?_)))))))
 refine x8 ?_
 refine R1 x4 rfl (R1 (xa0 hbta fi12 rfl) rfl (R1 x4 rfl (R1 (xa0 hbtb fi12 rfl) rfl (R1 x5 rfl (R1 x5 rfl (x7 (by kernel_rfl) (x3 ?_)))))))
 refine x6 ?_
 refine x8 ?_
 refine R1 x4 rfl (R1 x4 rfl (RE (xf7 (fun _ => 37) (c_TDiffO a b (by omega) (by omega) ha.dig hb.dig ⟨ha.1, hb.1⟩) fi32 rfl (krN (ρ := fun _ => 37)) (krC (ρ := fun _ => 37) (k := 56) xe5 (krN (ρ := fun _ => 37))) ⟨⟨rfl, xc3⟩, trivial⟩ rfl) ⟨rfl, rfl, trivial⟩ trivial ⟨rfl, trivial⟩ (R1 x4 rfl (R1 (d_extractT rfl) rfl (R1 (d_extractT rfl) rfl (R1 x5 rfl (R1 x5 rfl ?_)))))))
 refine x7 (by kernel_rfl) (x3 (x6 ?_))
 refine x8 ?_
 refine R1 x4 rfl (R1 x4 rfl (R2 (xa0 (c_DiffG hb ha (by omega) (by omega)) fi32 rfl) rfl rfl (R1 x4 rfl (R1 (xa9 rfl) rfl (R1 (xa9 rfl) rfl (R1 x5 rfl (R1 x5 rfl ?_)))))))
 refine x7 (by kernel_rfl) (x3 (x6 ?_))
 refine x8 ?_
 refine R1 x4 rfl (R1 x4 rfl (R2 (xa0 (c_DiffG ha ha (by omega) (by omega)) fi32 rfl) rfl rfl (R1 x4 rfl (R1 (xa9 rfl) rfl (R1 (xa9 rfl) rfl (R1 x5 rfl (R1 x5 rfl ?_)))))))
 refine x7 (by kernel_rfl) (x3 (x6 (x6 ?_)))
 refine x8 ?_
 refine R1 x4 rfl (R1 x4 rfl (R2 (xb7 (wr64 (by omega) (by omega))) rfl rfl (R1 x4 rfl (R2 (xb7 (wr64 (by omega) (by omega))) rfl rfl (R2 d_neq rfl rfl (R1 x4 rfl (RGon (decide_eq_false (by omega)) rfl x4 rfl ⟨rfl, trivial⟩ trivial trivial ?_)))))))
 refine RGon (decide_eq_false (by omega)) rfl (d_callR 37 72 2 (dfS a b).length [.own (.sl 37 2 0 (dfS a b).length)] (fun _ _ _ _ h => h) (c_SValG (dfS a b) s1.1) fi36 (fun _ h => h) (rV_all rfl) rfl ⟨.inr ⟨rfl, rfl⟩, trivial⟩ rfl) rfl ⟨rfl, trivial⟩ ⟨rfl, trivial⟩ trivial (RGon (decide_eq_false (by omega)) rfl xe2 rfl ⟨rfl, trivial⟩ trivial trivial (R2 (xa6 (decide_eq_false (by omega))) rfl rfl (R1 x4 rfl (RGon rfl rfl x4 rfl ⟨rfl, trivial⟩ trivial trivial (RGon rfl rfl x4 rfl ⟨rfl, trivial⟩ trivial trivial (RGon rfl rfl (d_callR 37 72 2 (dfS a b).length [.own (.sl 37 2 0 (dfS a b).length), .val (tL 2 true tSn (dfS b a))] (fun _ _ _ _ h => h) (c_sameSv (dfS a b) (dfS b a) e1) fi37 (fun _ h => h) (rV_all rfl) rfl ⟨.inr ⟨rfl, rfl⟩, .inl rfl, trivial⟩ rfl) rfl ⟨rfl, rfl, trivial⟩ ⟨rfl, trivial⟩ trivial (RGon rfl rfl xe2 rfl ⟨rfl, trivial⟩ trivial trivial ?_)))))))
 refine R2 (xa6 rfl) rfl rfl (R1 x4 rfl (RGon rfl rfl x4 rfl ⟨rfl, trivial⟩ trivial trivial (RGon rfl rfl (xc4 Tryz.underlying60) rfl ⟨rfl, trivial⟩ trivial trivial (RGon rfl rfl d_gtr rfl ⟨rfl, rfl, trivial⟩ trivial trivial (R2 (xa6 rfl) rfl rfl (R1 x4 rfl (RGon (decide_eq_false (by omega)) rfl x4 rfl ⟨rfl, trivial⟩ trivial trivial ?_)))))))
 refine RGon (decide_eq_false (by omega)) rfl (d_lenO Tryz.underlying60) rfl ⟨rfl, trivial⟩ trivial trivial (RGon (decide_eq_false (by omega)) rfl xe9 rfl ⟨rfl, rfl, trivial⟩ trivial trivial (RGon (decide_eq_false (by omega)) rfl x4 rfl ⟨rfl, trivial⟩ trivial trivial (RGon (decide_eq_false (by omega)) rfl x4 rfl ⟨rfl, trivial⟩ trivial trivial (RGon (decide_eq_false (by omega)) rfl (xa0 (c_SameSteps a b) fi22 rfl) rfl ⟨rfl, rfl, trivial⟩ trivial trivial (RGon (decide_eq_false (by omega)) rfl (d_neqB Tryz.underlying4) rfl ⟨rfl, rfl, trivial⟩ trivial trivial (R2 (xa6 (decide_eq_false (by omega))) rfl rfl (x7 (by kernel_rfl) ?_)))))))
 refine x3 (C_bF rfl (by exact len_dec e2) (xa2 (x3 (x6 (x6 ?_)))))
 refine x8 ?_
 refine R1 x4 rfl (R1 x4 rfl (R1 x4 rfl (R3 (xa0 (c_look a b d (by omega) (by omega) ha.bd5 hb.bd5) fi15 rfl) rfl rfl rfl (R1 (xc4 Tryz.underlying30) rfl (R1 x4 rfl (x7 (by kernel_rfl) (x3 ?_)))))))
 refine xa8 ?_
 refine C_len (s := 86) rfl (fun hl86 => ?_)
 refine xd6 (fun (i : Nat) => i ≤ (lkT a b d).length) (fun (i : Nat) => upd (upd (upd (upd (upd (upd (fun _ => none) 7 (some (.val (tL 8 true tTs a)))) 8 (some (.val (tL 8 true tTs b)))) 9 (some (.own (.sl 37 2 0 (dfS a b).length)))) 86 (some (.val (tL 1 false tI (lkT a b d))))) 87 (some (.val (tI (lkT a b d).length)))) 88 (some (.val (tI i)))) (fun (i : Nat) => upd (fun _ => none) 37 (some (⟨72, 2, true, rV tSn (dfS a b)⟩))) (nm [37]) (fun (i : Nat) => (lkT a b d).length - i) (0) (Nat.zero_le _) (Sub.int rfl (by first | omega | rfl | (dsimp only; omega)) (Sub.int rfl (by first | omega | rfl | (dsimp only; omega)) (Sub.cons rfl (Sub.cons rfl (Sub.cons rfl (Sub.cons rfl Sub.nil)))))) ((SubK.consI rfl ImpK.refl) SubK.nil) (SupG.val (SupG.val (SupG.val (SupG.own rfl (SupG.val (SupG.val SupG.nil)))))) (SupH.cons rfl (supJ xc3) SupH.nil) (lkOk rfl) ?_
 intro i hI
 refine x6 ?_
 refine x8 ?_
 refine R2 xd5 rfl rfl (x7 (by kernel_rfl) (x3 (x6 ?_)))
 refine xc2 rfl (fun h186 => ?_) (fun h186 => ?_)
 ·
  refine xa2 (x3 (x6 (xa8 (x6 ?_))))
  refine x8 ?_
  refine R2 (xb5 sl30 (i) (by omega) (gD (l := (lkT a b d)) (n := i) (d := 0) (by omega))) rfl rfl (R1 (xb8 ti3) rfl (R1 x5 rfl (x7 (by kernel_rfl) (x3 (x6 ?_)))))
  have hem := getD_memI (ds := (lkT a b d)) (i := i) (by omega)
  generalize (lkT a b d).getD i 0 = e at hem ⊢
  refine x8 ?_
  refine R1 x4 rfl (R1 x4 rfl (R2 (xa0 (c_value05 a e) fi16 rfl) rfl rfl (R1 x4 rfl (R1 (xa9 rfl) rfl (R1 (xa9 rfl) rfl (RE (xc1 (k := 17) (n := 6) (agg := true) zr37.1 zr37.2 rfl) trivial trivial ⟨rfl, trivial⟩ (RE (xa4 (es := 6) (agg := true) (0) ti37 rfl rfl rfl) ⟨rfl, rfl, trivial⟩ ⟨rfl, trivial⟩ trivial ?_)))))))
  refine R1 x5 rfl (x7 (by kernel_rfl) (x3 (x6 ?_)))
  refine x8 ?_
  refine R1 x4 rfl (R1 x4 rfl (R2 (xa0 (c_value05 b e) fi16 rfl) rfl rfl (R1 x4 rfl (R1 (xa9 rfl) rfl (R1 (xa9 rfl) rfl (RE (xc1 (k := 19) (n := 6) (agg := true) zr37.1 zr37.2 rfl) trivial trivial ⟨rfl, trivial⟩ (RE (xa4 (es := 6) (agg := true) (0) ti37 rfl rfl rfl) ⟨rfl, rfl, trivial⟩ ⟨rfl, trivial⟩ trivial ?_)))))))
  refine R1 x5 rfl (x7 (by kernel_rfl) (x3 (x6 ?_)))
  refine x8 ?_
  refine R1 x4 rfl (R1 x4 rfl (RE (d_callR 37 72 2 (dfS a b).length [.own (.sl 37 2 0 (dfS a b).length), .val (tI e)] (fun _ _ _ _ h => h) (c_HasM (dfS a b) e s1.1 (by omega)) fi38 (fun _ h => h) (rV_all rfl) rfl ⟨.inr ⟨rfl, rfl⟩, .inl rfl, trivial⟩ rfl) ⟨rfl, rfl, trivial⟩ ⟨rfl, trivial⟩ trivial (R1 x4 rfl (R1 x4 rfl (R2 (d_neqB Tryz.underlying4) rfl rfl (R1 x4 rfl ?_))))))
  refine RGcase (t := 110) rfl (fun h189 => ?_) (fun h189 => ?_)
  ·
   refine RGoff h189 rfl rfl (RGoff h189 rfl rfl (RGoff h189 rfl rfl (RGoff h189 rfl rfl (R2 (xb2 h189) rfl rfl (R2 (d_neqB Tryz.underlying4) rfl rfl (x7 (by kernel_rfl) (x3 ?_)))))))
   refine C_bF rfl (by rw [s1.2, dfB]; first | exact chg_some Iff.rfl (by assumption) | exact chg_same Iff.rfl (by assumption)) (xa2 (xc0 (x3 ?_)))
   refine x8 ?_
   refine R2 (xb7 (wr64 (by omega) (by omega))) rfl rfl (R1 x4 rfl (x7 (by kernel_rfl) ?_))
   exact xc5 (i + 1) ⟨(by omega), (by omega)⟩ (Sub.int rfl (by first | omega | rfl | (dsimp only; omega)) (Sub.int rfl (by first | omega | rfl | (dsimp only; omega)) (Sub.cons rfl (Sub.cons rfl (Sub.cons rfl (Sub.cons rfl Sub.nil)))))) ((SubK.consI rfl ImpK.refl) SubK.nil) (SupG.val (SupG.val (SupG.val (SupG.own rfl (SupG.val (SupG.val SupG.nil)))))) (SupH.cons rfl (supJ xc3) SupH.nil) (lkOk rfl)
  ·
   refine RGon h189 rfl (xb1 (0) ti37 rfl rfl) rfl ⟨rfl, trivial⟩ ⟨rfl, trivial⟩ trivial (RGon h189 rfl (xb1 (0) ti37 rfl rfl) rfl ⟨rfl, trivial⟩ ⟨rfl, trivial⟩ trivial (RGon h189 rfl (xa0 (c_SameValue _ _) fi18 rfl) rfl ⟨rfl, rfl, trivial⟩ trivial trivial (RGon h189 rfl xe2 rfl ⟨rfl, trivial⟩ trivial trivial (R2 (xa6 h189) rfl rfl (R2 (d_neqB Tryz.underlying4) rfl rfl (x7 (by kernel_rfl) (x3 ?_)))))))
   refine C_bF rfl (by rw [s1.2, dfB]; first | exact chg_some Iff.rfl (by assumption) | exact chg_same Iff.rfl (by assumption)) (xa2 (xc0 (x3 ?_)))
   refine x8 ?_
   refine R2 (xb7 (wr64 (by omega) (by omega))) rfl rfl (R1 x4 rfl (x7 (by kernel_rfl) ?_))
   exact xc5 (i + 1) ⟨(by omega), (by omega)⟩ (Sub.int rfl (by first | omega | rfl | (dsimp only; omega)) (Sub.int rfl (by first | omega | rfl | (dsimp only; omega)) (Sub.cons rfl (Sub.cons rfl (Sub.cons rfl (Sub.cons rfl Sub.nil)))))) ((SubK.consI rfl ImpK.refl) SubK.nil) (SupG.val (SupG.val (SupG.val (SupG.own rfl (SupG.val (SupG.val SupG.nil)))))) (SupH.cons rfl (supJ xc3) SupH.nil) (lkOk rfl)
 ·
  refine xd0 (xb6 (xb6 (xd4 (x3 (x6 ?_)))))
  refine x8 ?_
  refine R1 x5 rfl (x7 (by kernel_rfl) (x3 (x6 (x6 ?_))))
  refine x8 ?_
  refine R1 x4 rfl (R2 (xc8 (r := tS [⟨1, false, tI 65536⟩, ⟨1, false, tI 65536⟩]) (ts := [(0, tI 65536), (1, tI 65536)]) bu72 zr72.2 ⟨_, rfl⟩ rfl ⟨_, _, _, _, rfl, Up.f (fs := [⟨1, false, (tE (.int .i64 0))⟩, ⟨1, false, (tE (.int .i64 0))⟩]) (f := ⟨1, false, (tE (.int .i64 0))⟩) (fs' := [⟨1, false, tI 65536⟩, ⟨1, false, (tE (.int .i64 0))⟩]) 0 rfl rfl rfl, inferInstance, ⟨_, _, _, _, rfl, Up.f (fs := [⟨1, false, tI 65536⟩, ⟨1, false, (tE (.int .i64 0))⟩]) (f := ⟨1, false, (tE (.int .i64 0))⟩) (fs' := [⟨1, false, tI 65536⟩, ⟨1, false, tI 65536⟩]) 1 rfl rfl rfl, inferInstance, Le.refl⟩⟩) rfl rfl (R1 (xe4 (n := 1) (f := tSn) [(⟨65536, 65536⟩ : Sn)] Tryz.underlying60 el72 zf72 rfl (fun _ => inferInstance) rfl rfl rfl) rfl (RE (xe7 (k := 37) (k' := 121) (f := tSn) (ys := [(⟨65536, 65536⟩ : Sn)]) (ts' := rV tSn (wE (dfS a b))) Tryz.underlying60 el72 zf72 rfl rfl (fun _ => inferInstance) xf5 (by simp; omega) (by simp; omega) (by simp [rV, wE]) (n' := (wE (dfS a b)).length) (by simp [wE])) ⟨rfl, rfl, trivial⟩ ⟨rfl, trivial⟩ ⟨rfl, trivial⟩ (R1 (d_lenO Tryz.underlying60) rfl (R1 x4 rfl (x7 (by kernel_rfl) (x3 ?_)))))))
  refine xa8 ?_
  refine xd6 (fun (i : Nat) => i ≤ (wE (dfS a b)).length) (fun (i : Nat) => upd (upd (upd (upd (upd (upd (fun _ => none) 7 (some (.val (tL 8 true tTs a)))) 8 (some (.val (tL 8 true tTs b)))) 21 (some (.val (tI (atW (dfS a b) i))))) 121 (some (.own (.sl 121 2 0 (wE (dfS a b)).length)))) 122 (some (.val (tI (wE (dfS a b)).length)))) 123 (some (.val (tI i)))) (fun (i : Nat) => upd (fun _ => none) 121 (some (⟨72, 2, true, rV tSn (wE (dfS a b))⟩))) (nm [121]) (fun (i : Nat) => (wE (dfS a b)).length - i) (0) (Nat.zero_le _) (Sub.int rfl (by first | omega | rfl | (dsimp only; omega)) (Sub.int rfl (by first | omega | rfl | (dsimp only; omega)) (Sub.cons rfl (Sub.int rfl (by first | omega | rfl | (dsimp only; omega)) (Sub.cons rfl (Sub.cons rfl Sub.nil)))))) ((SubK.consI rfl ImpK.refl) SubK.nil) (SupG.val (SupG.val (SupG.own rfl (SupG.val (SupG.val (SupG.val SupG.nil)))))) (SupH.cons rfl (supJ xc3) SupH.nil) (lkOk rfl) ?_
  intro i hI
  refine x6 ?_
  refine x8 ?_
  refine R2 xd5 rfl rfl (x7 (by kernel_rfl) (x3 (x6 ?_)))
  refine xc2 rfl (fun h194 => ?_) (fun h194 => ?_)
  ·
   refine xa2 (x3 (x6 (xa8 (x6 ?_))))
   refine x8 ?_
   refine R2 (xd1 sl60 (by omega) (by omega) rfl) rfl rfl (RE (xb1 (i) ti72 (xh5 (d := sn0) (by omega)) (by omega)) ⟨rfl, trivial⟩ ⟨rfl, trivial⟩ trivial (RE (xc1 (k := 23) (n := 2) (agg := true) zr72.1 zr72.2 rfl) trivial trivial ⟨rfl, trivial⟩ (RE (xa4 (es := 2) (agg := true) (0) ti72 rfl rfl rfl) ⟨rfl, rfl, trivial⟩ ⟨rfl, trivial⟩ trivial (x7 (by kernel_rfl) (x3 (x6 (x6 ?_)))))))
   have hi : i < (wE (dfS a b)).length := by omega
   obtain ⟨g1, g2, g3, _⟩ := gapW s1.1 hi
   have hgo := gap_ok s1.1 hi
   have hcg := cut_gap ha hb hi
   refine x8 ?_
   refine R1 (x9 fo72_0 rfl) rfl (xa3 (0) ti3 rfl rfl rfl (At.g 0 rfl rfl) rfl (R1 x4 rfl (R2 xd5 rfl rfl (R1 x4 rfl (RGon (decide_eq_false (by omega)) rfl (x9 fo72_0 rfl) rfl ⟨rfl, trivial⟩ trivial trivial (xb3 (decide_eq_false (by omega)) rfl rfl (0) ti3 rfl rfl rfl (At.g 0 rfl rfl) rfl (RGon (decide_eq_false (by omega)) rfl d_gtr rfl ⟨rfl, rfl, trivial⟩ trivial trivial ?_)))))))
   refine R2 (xa6 (decide_eq_false (by omega))) rfl rfl (x7 (by kernel_rfl) (x3 (C_bF rfl (decide_eq_false (by omega)) (xa2 (x3 (x6 ?_))))))
   refine x8 ?_
   refine R1 x4 rfl (R1 x4 rfl (R1 (x9 fo72_0 rfl) rfl (xa3 (0) ti3 rfl rfl rfl (At.g 0 rfl rfl) rfl (R3 (xa0 (c_CutG (atW (dfS a b) i) ((wE (dfS a b)).getD i sn0).lo ha (by omega) hgo) fi20 rfl) rfl rfl rfl (R1 x4 rfl (R1 (xa9 rfl) rfl (R1 (xa9 rfl) rfl ?_)))))))
   refine R1 x5 rfl (R1 x5 rfl (x7 (by kernel_rfl) (x3 (x6 ?_))))
   refine x8 ?_
   refine R1 x4 rfl (R1 x4 rfl (R1 (x9 fo72_0 rfl) rfl (xa3 (0) ti3 rfl rfl rfl (At.g 0 rfl rfl) rfl (R3 (xa0 (c_CutG (atW (dfS a b) i) ((wE (dfS a b)).getD i sn0).lo hb (by omega) hgo) fi20 rfl) rfl rfl rfl (R1 x4 rfl (R1 (xa9 rfl) rfl (R1 (xa9 rfl) rfl ?_)))))))
   refine R1 x5 rfl (R1 x5 rfl (x7 (by kernel_rfl) (x3 (x6 (x6 ?_)))))
   refine x8 ?_
   refine R1 x4 rfl (R1 x4 rfl (R2 (xb7 (wr64 (by omega) (by omega))) rfl rfl (R2 d_neq rfl rfl (R1 x4 rfl (RGon (decide_eq_false (by omega)) rfl x4 rfl ⟨rfl, trivial⟩ trivial trivial (RGon (decide_eq_false (by omega)) rfl x4 rfl ⟨rfl, trivial⟩ trivial trivial (RGon (decide_eq_false (by omega)) rfl (xa0 (c_sameTv _ _ hcg) fi22 rfl) rfl ⟨rfl, rfl, trivial⟩ trivial trivial ?_)))))))
   refine RGon (decide_eq_false (by omega)) rfl xe2 rfl ⟨rfl, trivial⟩ trivial trivial (R2 (xa6 (decide_eq_false (by omega))) rfl rfl (x7 (by kernel_rfl) (x3 (C_bF rfl rfl (xa2 (x3 ?_))))))
   refine x8 ?_
   refine R1 (x9 fo72_1 rfl) rfl (xa3 (0) ti3 rfl rfl rfl (At.g 1 rfl rfl) rfl (R1 x5 rfl (x7 (by kernel_rfl) (xc0 (x3 ?_)))))
   refine x8 ?_
   refine R2 (xb7 (wr64 (by omega) (by omega))) rfl rfl (R1 x4 rfl (x7 (by kernel_rfl) ?_))
   exact xc5 (i + 1) ⟨(by omega), (by omega)⟩ (Sub.int rfl (by first | omega | rfl | (dsimp only; omega)) (Sub.int rfl (by first | omega | rfl | (dsimp only; omega)) (Sub.cons rfl (Sub.int rfl (by first | omega | rfl | (dsimp only; omega)) (Sub.cons rfl (Sub.cons rfl Sub.nil)))))) ((SubK.consI rfl ImpK.refl) SubK.nil) (SupG.val (SupG.val (SupG.own rfl (SupG.val (SupG.val (SupG.val SupG.nil)))))) (SupH.cons rfl (supJ xc3) SupH.nil) (lkOk rfl)
  ·
   refine xd0 (xb6 (xb6 (xd4 (x3 (x6 ?_)))))
   refine x8 ?_
   refine R1 x5 rfl (x7 (by kernel_rfl) (x3 (xa1 ?_)))
   exact xa7 Plain.mk' rfl rfl Le.refl
end An.S
