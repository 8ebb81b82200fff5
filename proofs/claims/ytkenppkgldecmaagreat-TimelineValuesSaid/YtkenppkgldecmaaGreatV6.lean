/- Part 6 of a proof: V16, V17, V18, V19, U20, Ref4, U34, P14, P15, O26. -/
import Derived.Test.YtkenppkgldecmaaGreatChecked
import Derived.Test.YtkenppkgldecmaaGreatV5
/- The reference of layer 1: limbs. -/
namespace An.S
open Go Go.Proofs An
set_option maxHeartbeats 2000000
theorem fi181 : FnI Tryz.prog 181 := ⟨_, Tryz.func181, by kernel_rfl, rfl⟩
theorem c_RTrim (a : List Nat) :
  Ct Tryz.prog 181 [tLm a] (tLm (trimL a)) := by
 refine Ct.intro Tryz.func181 rfl Tryz.ntmps181 rfl ?_
 intro w F
 refine C_len (s := 0) rfl (fun hl0 => ?_)
 refine x6 ?_
 refine x8 ?_
 refine R1 x5 rfl (x7 (by kernel_rfl) (x3 (x6 ?_)))
 refine x8 ?_
 refine R1 x4 rfl (R1 (xb9 Tryz.underlying45) rfl (R1 x5 rfl (x7 (by kernel_rfl) (x3 (x6 (xa9 ?_))))))
 refine xd6 (fun (k : Nat) => k ≤ a.length ∧ trimL (a.take k) = trimL a) (fun (k : Nat) => upd (upd (fun _ => none) 0 (some (.val (tLm a)))) 3 (some (.val (tI k)))) (fun (k : Nat) => fun _ => none) (nm []) (fun (k : Nat) => k) (a.length) ⟨Nat.le_refl _, by rw [List.take_length]⟩ (Sub.int rfl (by first | omega | rfl | (dsimp only; omega)) (Sub.cons rfl Sub.nil)) SubK.nil (SupG.val (SupG.val SupG.nil)) SupH.nil (lkOk rfl) ?_
 intro k hI
 obtain ⟨hk, hc⟩ := hI
 refine x6 (x6 ?_)
 refine x8 ?_
 refine R1 x4 rfl (R2 d_gtr rfl rfl (R1 x4 rfl ?_))
 refine RGcaseD (t := 8) rfl (fun h12 => ?_) (fun h12 => ?_)
 ·
  refine RGon (decide_eq_true h12) rfl x4 rfl ⟨rfl, trivial⟩ trivial trivial (RGon (decide_eq_true h12) rfl x4 rfl ⟨rfl, trivial⟩ trivial trivial (RGon (decide_eq_true h12) rfl (xe4 (wr64 (by omega) (by omega))) rfl ⟨rfl, rfl, trivial⟩ trivial trivial (RGon (decide_eq_true h12) rfl (xb8 sl45 (k - 1) (by omega) (gN (by omega))) rfl ⟨rfl, rfl, trivial⟩ trivial trivial (RGon (decide_eq_true h12) rfl (xc1 ti166) rfl ⟨rfl, trivial⟩ trivial trivial (RGon (decide_eq_true h12) rfl xe5 rfl ⟨rfl, rfl, trivial⟩ trivial trivial (R2 (xa8 (decide_eq_true h12)) rfl rfl (x7 (by kernel_rfl) ?_)))))))
  refine x3 ?_
  refine xc2 rfl (fun h12_2 => ?_) (fun h12_2 => ?_)
  ·
   refine xa4 (x3 (xa9 ?_))
   refine x8 ?_
   refine R1 x4 rfl (R2 (xe4 (wr64 (by omega) (by omega))) rfl rfl (R1 x5 rfl (x7 (by kernel_rfl) (xc6 ?_))))
   exact xc7 (k - 1) ⟨⟨by omega, by rw [trim_step' hk (by omega) (by omega)]; exact hc⟩, (by omega)⟩ (Sub.int rfl (by first | omega | rfl | (dsimp only; omega)) (Sub.cons rfl Sub.nil)) SubK.nil (SupG.val (SupG.val SupG.nil)) SupH.nil (lkOk rfl)
  ·
   refine xd1 (xc0 (xc0 (xd8 (x3 (x6 ?_)))))
   refine x8 ?_
   refine R1 x4 rfl (R1 x4 rfl (R2 (d_sliceTo sl45 k (by omega) (by omega) rfl) rfl rfl (R1 x5 rfl (x7 (by kernel_rfl) (x3 (xa2 ?_))))))
   exact xa3 Plain.mk' rfl rfl (Le.of (congrArg tLm (by rw [← hc, trim_stop' hk (by omega) (by omega)])))
 ·
  refine RGoff (decide_eq_false h12) rfl rfl (RGoff (decide_eq_false h12) rfl rfl (RGoff (decide_eq_false h12) rfl rfl (RGoff (decide_eq_false h12) rfl rfl (RGoff (decide_eq_false h12) rfl rfl (RGoff (decide_eq_false h12) rfl rfl (R2 (xa7 (decide_eq_false h12)) rfl rfl (x7 (by kernel_rfl) ?_)))))))
  refine x3 (C_bF rfl rfl (xd1 (xc0 (xc0 (xd8 (x3 (x6 ?_)))))))
  refine x8 ?_
  refine R1 x4 rfl (R1 x4 rfl (R2 (d_sliceTo sl45 k (by omega) (by omega) rfl) rfl rfl (R1 x5 rfl (x7 (by kernel_rfl) (x3 (xa2 ?_))))))
  exact xa3 Plain.mk' rfl rfl (Le.of (congrArg tLm (by rw [← hc, show k = 0 by omega, List.take_zero]; rfl)))
theorem c_RLess (a b : Nat) :
  Ct Tryz.prog 172 [tM a, tM b] (tB (decide (a < b))) := by
 refine Ct.intro Tryz.func172 rfl Tryz.ntmps172 rfl ?_
 intro w F
 refine C_len (s := 0) rfl (fun hl0 => ?_)
 refine C_len (s := 1) rfl (fun hl1 => ?_)
 have ha := lt_len xb6 a
 have hb := lt_len xb6 b
 refine x6 ?_
 refine x8 ?_
 refine R1 x5 rfl (x7 (by kernel_rfl) (x3 (x6 (x6 ?_))))
 refine x8 ?_
 refine R1 x4 rfl (R1 (xb9 Tryz.underlying45) rfl (R1 x4 rfl (R1 (xb9 Tryz.underlying45) rfl (R2 d_neq rfl rfl (x7 (by kernel_rfl) (x3 ?_))))))
 refine xc2 rfl (fun h20 => ?_) (fun h20 => ?_)
 ·
  refine x6 ?_
  refine x8 ?_
  refine R1 x4 rfl (R1 (xb9 Tryz.underlying45) rfl (R1 x4 rfl (R1 (xb9 Tryz.underlying45) rfl (R2 xd5 rfl rfl (R1 x5 rfl (x7 (by kernel_rfl) (x3 ?_)))))))
  refine xa2 (xa6 ?_)
  exact xa3 Plain.mk' rfl rfl (Le.bool (decide_eq_decide.2 ⟨fun h => len_lt xb6 (by omega), fun h => by have := xf3 xb6 (Nat.le_of_lt h); omega⟩))
 ·
  refine xa4 (x3 (x6 (x6 ?_)))
  refine x8 ?_
  refine R1 x4 rfl (R1 (xb9 Tryz.underlying45) rfl (R2 (xe4 (wr64 (by omega) (by omega))) rfl rfl (R1 x5 rfl (x7 (by kernel_rfl) (x3 (xa9 ?_))))))
  have hlen : (dig 65536 a).length = (dig 65536 b).length := by omega
  rw [← hlen] at hb
  refine xd6 (fun (k : Nat) => k ≤ (dig 65536 a).length ∧ a / 65536 ^ k = b / 65536 ^ k) (fun (k : Nat) => upd (upd (upd (fun _ => none) 0 (some (.val (tM a)))) 1 (some (.val (tM b)))) 5 (some (.val (tI ((k : Int) - 1))))) (fun (k : Nat) => fun _ => none) (nm []) (fun (k : Nat) => k) ((dig 65536 a).length) ⟨Nat.le_refl _, by rw [Nat.div_eq_of_lt ha, Nat.div_eq_of_lt hb]⟩ (Sub.int rfl (by first | omega | rfl | (dsimp only; omega)) (Sub.cons rfl (Sub.cons rfl Sub.nil))) SubK.nil (SupG.val (SupG.val (SupG.val SupG.nil))) SupH.nil (lkOk rfl) ?_
  intro k hI
  obtain ⟨hk, hc⟩ := hI
  refine x6 (x6 ?_)
  refine x8 ?_
  refine R1 x4 rfl (R2 d_geq rfl rfl (x7 (by kernel_rfl) (x3 ?_)))
  refine xc2 rfl (fun h23 => ?_) (fun h23 => ?_)
  ·
   obtain ⟨j, rfl⟩ : ∃ j, k = j + 1 := ⟨k - 1, by omega⟩
   refine xa4 (x3 (x6 (xa9 (x6 ?_))))
   refine xe1 mixed ?_
   refine R1 x4 rfl (R1 x4 rfl (R2 (xb8 sl45 (j) (by omega) (gN (by omega))) rfl rfl (R1 (xc1 ti166) rfl (R1 x4 rfl (R1 x4 rfl (R2 (xb8 sl45 (j) (by omega) (gN (by omega))) rfl rfl (R1 (xc1 ti166) rfl ?_)))))))
   refine R2 d_neq rfl rfl (xd9 (by kernel_rfl) (x3 ?_))
   refine xc2 rfl (fun h24 => ?_) (fun h24 => ?_)
   ·
    refine x6 ?_
    refine xe1 mixed ?_
    refine R1 x4 rfl (R1 x4 rfl (R2 (xb8 sl45 (j) (by omega) (gN (by omega))) rfl rfl (R1 (xc1 ti166) rfl (R1 x4 rfl (R1 x4 rfl (R2 (xb8 sl45 (j) (by omega) (gN (by omega))) rfl rfl (R1 (xc1 ti166) rfl ?_)))))))
    refine R2 xd5 rfl rfl (R1 x5 rfl (xd9 (by kernel_rfl) (x3 (xa2 (xc8 (xa6 (xa6 ?_)))))))
    refine xc8 (xa6 ?_)
    exact xa3 Plain.mk' rfl rfl (Le.bool (decide_eq_decide.2 ⟨fun h => dig_lt_of xb6 hc (by omega), fun h => Classical.byContradiction fun h2 => by have := dig_lt_of xb6 hc.symm (show (dig 65536 b).getD j 0 < (dig 65536 a).getD j 0 by omega); omega⟩))
   ·
    refine xa4 (xc6 (x3 ?_))
    refine x8 ?_
    refine R1 x4 rfl (R2 (xe4 (wr64 (by omega) (by omega))) rfl rfl (R1 x5 rfl (x7 (by kernel_rfl) ?_)))
    exact xc7 (j) ⟨⟨by omega, cmp_step (by decide) hc (by rw [← xe6 xb6, ← xe6 xb6]; omega)⟩, (by omega)⟩ (Sub.int rfl (by first | omega | rfl | (dsimp only; omega)) (Sub.cons rfl (Sub.cons rfl Sub.nil))) SubK.nil (SupG.val (SupG.val (SupG.val SupG.nil))) SupH.nil (lkOk rfl)
  ·
   refine xd1 (xc0 (xc0 (xd8 (x3 (x6 ?_)))))
   refine x8 ?_
   refine R1 x5 rfl (x7 (by kernel_rfl) (x3 (xa2 ?_)))
   exact xa3 Plain.mk' rfl rfl (Le.bool (decide_eq_false (by have h0 := hc; rw [show k = 0 by omega] at h0; simp at h0; omega)).symm)
theorem len_ne {v : Nat} : (0 : Int) < ((dig 65536 v).length : Nat) ↔ v ≠ 0 := by
  have h : (dig 65536 v).length = 0 ↔ v = 0 := by rw [List.length_eq_zero_iff, xi2 xb6]
  omega
theorem iquo64 {a b : Nat} (ha : a < 9223372036854775808) : IntKind.i64.wrap ((a : Int).tdiv (b : Int)) = ((a / b : Nat) : Int) := by
  rw [Int.tdiv_eq_ediv_of_nonneg (by omega)]
  have h : (a : Int) / (b : Int) = ((a / b : Nat) : Int) := (Int.natCast_ediv a b).symm
  rw [h]
  have := Nat.div_le_self a b
  generalize a / b = q at *
  exact wr64 (by omega) (by omega)
theorem c_RShort (a d : Nat) (ha : (dig 65536 a).length ≤ 100000) (hd : 0 < d) (hdW : d < 65536) :
  Ct Tryz.prog 171 [tM a, tI d] (tT [tM (a / d), tM (a % d)]) := by
 refine Ct.intro Tryz.func171 rfl Tryz.ntmps171 rfl ?_
 intro w F
 refine x6 ?_
 refine x8 ?_
 refine R1 x5 rfl (R1 x5 rfl (x7 (by kernel_rfl) (x3 (x6 ?_))))
 refine x8 ?_
 refine R1 x4 rfl (R1 (xb9 Tryz.underlying45) rfl (RE (d_makeO (k := 11) (t := tE (.int .u16 0)) (ts := rW .u16 (List.replicate ((dig 65536 a).length) 0)) ((dig 65536 a).length) ((dig 65536 a).length) Tryz.underlying45 el166 (fun _ _ => rfl) rfl (by omega) (by omega) (Nat.le_refl _) (by omega) (by omega) (rW_rep _)) ⟨rfl, rfl, trivial⟩ trivial ⟨rfl, trivial⟩ (R1 x5 rfl (x7 (by kernel_rfl) (x3 (x6 ?_))))))
 refine x8 ?_
 refine R1 x5 rfl (x7 (by kernel_rfl) (x3 (x6 (x6 ?_))))
 refine x8 ?_
 refine R1 x4 rfl (R1 (xb9 Tryz.underlying45) rfl (R2 (xe4 (wr64 (by omega) (by omega))) rfl rfl (R1 x5 rfl (x7 (by kernel_rfl) (x3 (xa9 ?_))))))
 refine xd6 (fun (fm : (Nat) × (List Nat)) => (fun (k : Nat) (qs : List Nat) => k ≤ (dig 65536 a).length ∧ qs.length = (dig 65536 a).length ∧ Dig 65536 qs ∧ val 65536 (qs.drop k) = a / 65536 ^ k / d) fm.1 fm.2) (fun (fm : (Nat) × (List Nat)) => (fun (k : Nat) (qs : List Nat) => upd (upd (upd (upd (upd (fun _ => none) 0 (some (.val (tM a)))) 1 (some (.val (tI d)))) 6 (some (.own (.sl 11 1 0 (dig 65536 a).length)))) 7 (some (.val (tI ((a / 65536 ^ k % d : Nat) : Int))))) 8 (some (.val (tI ((k : Int) - 1))))) fm.1 fm.2) (fun (fm : (Nat) × (List Nat)) => (fun (k : Nat) (qs : List Nat) => upd (fun _ => none) 11 (some (⟨166, 1, false, rW .u16 qs⟩))) fm.1 fm.2) (nm [11]) (fun (fm : (Nat) × (List Nat)) => (fun (k : Nat) (qs : List Nat) => k) fm.1 fm.2) (((dig 65536 a).length, List.replicate (dig 65536 a).length 0)) (by dsimp only; exact ⟨Nat.le_refl _, by simp, Dig.rep (by decide) _, by rw [Nat.div_eq_of_lt (lt_len xb6 a), Nat.zero_div, List.drop_replicate, xh4]⟩) (Sub.int rfl (by first | omega | rfl | (dsimp only; omega)) (Sub.le rfl (Le.int (by dsimp only; rw [Nat.div_eq_of_lt (lt_len xb6 a), Nat.zero_mod]; rfl)) (Sub.cons rfl (Sub.int rfl (by first | omega | rfl | (dsimp only; omega)) (Sub.cons rfl Sub.nil))))) ((SubK.consI rfl ImpK.refl) SubK.nil) (SupG.val (SupG.val (SupG.own rfl (SupG.val (SupG.val SupG.nil))))) (SupH.cons rfl (supJ xc5) SupH.nil) (lkOk rfl) ?_
 intro fm hI
 obtain ⟨k, qs⟩ := fm
 replace hI : k ≤ (dig 65536 a).length ∧ qs.length = (dig 65536 a).length ∧ Dig 65536 qs ∧ val 65536 (qs.drop k) = a / 65536 ^ k / d := hI
 show wc _ _ _ _ (upd (upd (upd (upd (upd (fun _ => none) 0 (some (.val (tM a)))) 1 (some (.val (tI d)))) 6 (some (.own (.sl 11 1 0 (dig 65536 a).length)))) 7 (some (.val (tI ((a / 65536 ^ k % d : Nat) : Int))))) 8 (some (.val (tI ((k : Int) - 1))))) (upd (fun _ => none) 11 (some (⟨166, 1, false, rW .u16 qs⟩))) _
 obtain ⟨hk, hl, hD, hv⟩ := hI
 have hr : a / 65536 ^ k % d < d := Nat.mod_lt _ hd
 refine x6 (x6 ?_)
 refine x8 ?_
 refine R1 x4 rfl (R2 d_geq rfl rfl (x7 (by kernel_rfl) (x3 ?_)))
 refine xc2 rfl (fun h93 => ?_) (fun h93 => ?_)
 ·
  obtain ⟨j, rfl⟩ : ∃ j, k = j + 1 := ⟨k - 1, by omega⟩
  have hx := xe6 xb6 a j
  have hx1 := (xe9 xb6 a).getD (by decide) j
  obtain ⟨n1, n2, n3, n4, n5⟩ := short_in (k := j) (by omega) hl hD hd rfl hv (by rw [← hx])
  have hq0 := Nat.zero_le (((a / 65536 ^ (j + 1) % d) * 65536 + (dig 65536 a).getD j 0) / d)
  refine xa4 (x3 (x6 (xa9 (x6 ?_))))
  refine x8 ?_
  refine R1 x4 rfl (R2 (d_mul (r := (((a / 65536 ^ (j + 1) % d) * 65536 : Nat) : Int)) (by rw [wr64 (by omega) (by omega)]; omega)) rfl rfl (R1 x4 rfl (R1 x4 rfl (R2 (xb8 sl45 (j) (by omega) (gN (by omega))) rfl rfl (R1 (xc1 ti166) rfl (R1 (xb4 Tryz.underlying3 (isS Tryz.underlying166) (wr64 (by omega) (by omega))) rfl (R2 (xc4 (r := ((((a / 65536 ^ (j + 1) % d) * 65536 + (dig 65536 a).getD j 0) : Nat) : Int)) (by rw [wr64 (by omega) (by omega)]; omega)) rfl rfl ?_)))))))
  refine R1 x5 rfl (x7 (by kernel_rfl) (x3 (x6 ?_)))
  refine x8 ?_
  refine R1 x4 rfl (R1 x4 rfl (R1 x4 rfl (R1 x4 rfl (R2 (d_quo (r := ((((a / 65536 ^ (j + 1) % d) * 65536 + (dig 65536 a).getD j 0) / d : Nat) : Int)) (by omega) (iquo64 (by omega))) rfl rfl (R1 (xb4 Tryz.underlying166 (isS Tryz.underlying3) (wu16 (by omega) (by omega))) rfl (R2 (xd7 sl45 (by omega) (by omega) rfl) rfl rfl (RE (xb0 (j) ti166 (rW_lt (by omega)) (by omega) (rW_set (m := _) rfl)) ⟨rfl, rfl, trivial⟩ ⟨rfl, trivial⟩ trivial ?_)))))))
  refine x7 (by kernel_rfl) (x3 ?_)
  refine x8 ?_
  refine R1 x4 rfl (R1 x4 rfl (R2 (d_rem (by omega) wrem64) rfl rfl (R1 x5 rfl (x7 (by kernel_rfl) (xc6 (x3 ?_))))))
  refine x8 ?_
  refine R1 x4 rfl (R2 (xe4 (wr64 (by omega) (by omega))) rfl rfl (R1 x5 rfl (x7 (by kernel_rfl) ?_)))
  exact xc7 ((j, qs.set j (((a / 65536 ^ (j + 1) % d) * 65536 + (dig 65536 a).getD j 0) / d))) ⟨(by dsimp only; exact ⟨by omega, n1, n2, n4⟩), (by dsimp only; omega)⟩ (Sub.int rfl (by first | omega | rfl | (dsimp only; omega)) (Sub.le rfl (Le.int (by dsimp only; rw [hx, n3])) (Sub.cons rfl (Sub.int rfl (by first | omega | rfl | (dsimp only; omega)) (Sub.cons rfl Sub.nil))))) ((SubK.consI rfl ImpK.refl) SubK.nil) (SupG.val (SupG.val (SupG.own rfl (SupG.val (SupG.val SupG.nil))))) (SupH.cons rfl (supJ xc5) SupH.nil) (lkOk rfl)
 ·
  have hk0 : k = 0 := by omega
  subst hk0
  rw [List.drop_zero, Nat.pow_zero, Nat.div_one] at hv
  refine xd1 (xc0 (xc0 (xd8 (x3 (x6 ?_)))))
  refine x8 ?_
  refine RE (d_moveS (f := fun n : Nat => tE (.int .u16 n)) (fun _ h => h) (rW_all hl) hl) ⟨rfl, trivial⟩ ⟨rfl, trivial⟩ trivial (R1 (xa0 (c_RTrim _) fi181 rfl) rfl (R1 x4 rfl (R1 (xb4 Tryz.underlying166 (isS Tryz.underlying3) (wu16 (by omega) (by omega))) rfl (R1 (d_nums (n := 1) [a / 65536 ^ 0 % d] Tryz.underlying45 el166 zf166 rfl rfl rfl) rfl (R1 (xa0 (c_RTrim _) fi181 rfl) rfl (R1 x5 rfl (R1 x5 rfl ?_)))))))
  refine x7 (by kernel_rfl) (x3 (xa2 ?_))
  exact xf2 Plain.mk' rfl rfl rfl (Le.of (congrArg tLm (by rw [xf9 xb6 hD, hv]))) (Le.of (congrArg tLm (by rw [trim1L (by omega), Nat.pow_zero, Nat.div_one])))
end An.S

/- The reference of layer 1: sums, differences. -/
namespace An.S
open Go Go.Proofs An
set_option maxHeartbeats 2000000
theorem c_RPlus (a b : Nat) (ha : (dig 65536 a).length ≤ 100000) (hb : (dig 65536 b).length ≤ 100000) :
  Ct Tryz.prog 134 [tM a, tM b] (tM (a + b)) := by
 have hab := len_dbl ha hb
 refine Ct.intro Tryz.func134 rfl Tryz.ntmps134 rfl ?_
 intro w F
 refine x6 ?_
 refine x8 ?_
 refine R1 x5 rfl (x7 (by kernel_rfl) (x3 (x6 ?_)))
 refine x8 ?_
 refine RE (d_assignN (k := 5) 166 1 false rfl (fun _ => rfl)) trivial trivial ⟨rfl, trivial⟩ (x7 (by kernel_rfl) (x3 (x6 ?_)))
 refine x8 ?_
 refine R1 x5 rfl (x7 (by kernel_rfl) (x3 (x6 (x6 ?_))))
 refine x8 ?_
 refine R1 x5 rfl (x7 (by kernel_rfl) (x3 (xa9 ?_)))
 refine xd6 (fun (fm : (Nat) × (Nat) × (List Nat)) => (fun (i : Nat) (n : Nat) (cs : List Nat) => i ≤ (dig 65536 (a + b)).length ∧ n = (a % 65536 ^ i + b % 65536 ^ i) / 65536 ^ i ∧ cs = dgs 65536 i (a + b)) fm.1 fm.2.1 fm.2.2) (fun (fm : (Nat) × (Nat) × (List Nat)) => (fun (i : Nat) (n : Nat) (cs : List Nat) => upd (upd (upd (upd (upd (fun _ => none) 0 (some (.val (tM a)))) 1 (some (.val (tM b)))) 5 (some (.own (.sl 5 1 0 cs.length)))) 7 (some (.val (tI i)))) 6 (some (.val (tI n)))) fm.1 fm.2.1 fm.2.2) (fun (fm : (Nat) × (Nat) × (List Nat)) => (fun (i : Nat) (n : Nat) (cs : List Nat) => upd (fun _ => none) 5 (some (⟨166, 1, false, rW .u16 cs⟩))) fm.1 fm.2.1 fm.2.2) (nm [5]) (fun (fm : (Nat) × (Nat) × (List Nat)) => (fun (i : Nat) (n : Nat) (cs : List Nat) => (dig 65536 (a + b)).length - i) fm.1 fm.2.1 fm.2.2) ((0, 0, [])) (by dsimp only; exact ⟨Nat.zero_le _, by simp [Nat.mod_one], rfl⟩) (Sub.int rfl (by first | omega | rfl | (dsimp only; omega)) (Sub.int rfl (by first | omega | rfl | (dsimp only; omega)) (Sub.cons rfl (Sub.cons rfl (Sub.cons rfl Sub.nil))))) ((SubK.consI rfl ImpK.refl) SubK.nil) (SupG.val (SupG.val (SupG.own rfl (SupG.val (SupG.val SupG.nil))))) (SupH.cons rfl (supJ xc5) SupH.nil) (lkOk rfl) ?_
 intro fm hI
 obtain ⟨i, n, cs⟩ := fm
 replace hI : i ≤ (dig 65536 (a + b)).length ∧ n = (a % 65536 ^ i + b % 65536 ^ i) / 65536 ^ i ∧ cs = dgs 65536 i (a + b) := hI
 show wc _ _ _ _ (upd (upd (upd (upd (upd (fun _ => none) 0 (some (.val (tM a)))) 1 (some (.val (tM b)))) 5 (some (.own (.sl 5 1 0 cs.length)))) 7 (some (.val (tI i)))) 6 (some (.val (tI n)))) (upd (fun _ => none) 5 (some (⟨166, 1, false, rW .u16 cs⟩))) _
 obtain ⟨hi, hn, hcs⟩ := hI
 have hcl : cs.length = i := by rw [hcs, xg8]
 have hn1 := rplus_small hn
 have xa := xe6 xb6 a i
 have xb := xe6 xb6 b i
 have xa1 := (xe9 xb6 a).getD (by decide) i
 have xb1 := (xe9 xb6 b).getD (by decide) i
 refine x6 (x6 ?_)
 refine x8 ?_
 refine R1 x4 rfl (R1 x4 rfl (R1 (xb9 Tryz.underlying45) rfl (R2 xd5 rfl rfl (R1 x4 rfl ?_))))
 refine RGcaseD (t := 12) rfl (fun h35 => ?_) (fun h35 => ?_)
 ·
  have hmore := rplus_more hn (.inl (by omega))
  refine RGoff (decide_eq_true h35) rfl rfl (RGoff (decide_eq_true h35) rfl rfl (RGoff (decide_eq_true h35) rfl rfl (RGoff (decide_eq_true h35) rfl rfl (R2 (xa8 (decide_eq_true h35)) rfl rfl (R1 x4 rfl (RGoff1 rfl rfl (RGoff1 rfl rfl ?_)))))))
  refine R2 (xa8 rfl) rfl rfl (x7 (by kernel_rfl) (x3 (C_bT rfl rfl (xa4 (x3 (x6 (xa9 ?_)))))))
  refine xh2 (fun (m1 : Nat) => m1 = (n + a / 65536 ^ i % 65536)) (fun (m1 : Nat) => upd (upd (upd (upd (upd (fun _ => none) 0 (some (.val (tM a)))) 1 (some (.val (tM b)))) 5 (some (.own (.sl 5 1 0 cs.length)))) 7 (some (.val (tI i)))) 6 (some (.val (tI m1)))) (fun (m1 : Nat) => upd (fun _ => none) 5 (some (⟨166, 1, false, rW .u16 cs⟩))) (nm [5]) ?_ ?_
  ·
   refine x6 ?_
   refine x8 ?_
   refine R1 x4 rfl (R1 x4 rfl (R1 (xb9 Tryz.underlying45) rfl (R2 xd5 rfl rfl (x7 (by kernel_rfl) (x3 ?_)))))
   refine xc2 rfl (fun h36 => ?_) (fun h36 => ?_)
   ·
    refine x8 ?_
    refine R1 x4 rfl (R1 x4 rfl (R1 x4 rfl (R2 (xb8 sl45 (i) (by omega) (gN (by omega))) rfl rfl (R1 (xc1 ti166) rfl (R1 (xb4 Tryz.underlying3 (isS Tryz.underlying166) (wr64 (by omega) (by omega))) rfl (R2 (xc4 (r := ((n + (dig 65536 a).getD i 0 : Nat) : Int)) (by rw [wr64 (by omega) (by omega)]; omega)) rfl rfl (R1 x5 rfl ?_)))))))
    refine x7 (by kernel_rfl) ?_
    exact xc7 (n + (dig 65536 a).getD i 0) (by rw [xa]) (Sub.int rfl (by first | omega | rfl | (dsimp only; omega)) (Sub.int rfl (by first | omega | rfl | (dsimp only; omega)) (Sub.cons rfl (Sub.cons rfl (Sub.cons rfl Sub.nil))))) ((SubK.consI rfl ImpK.refl) SubK.nil) (SupG.val (SupG.val (SupG.own rfl (SupG.val (SupG.val SupG.nil))))) (SupH.cons rfl (supJ xc5) SupH.nil) (lkOk rfl)
   ·
    refine xa4 ?_
    exact xc7 (n) (by rw [dig_out xb6 (by omega), Nat.add_zero]) (Sub.int rfl (by first | omega | rfl | (dsimp only; omega)) (Sub.int rfl (by first | omega | rfl | (dsimp only; omega)) (Sub.cons rfl (Sub.cons rfl (Sub.cons rfl Sub.nil))))) ((SubK.consI rfl ImpK.refl) SubK.nil) (SupG.val (SupG.val (SupG.own rfl (SupG.val (SupG.val SupG.nil))))) (SupH.cons rfl (supJ xc5) SupH.nil) (lkOk rfl)
  ·
   intro m1 hm1
   refine xh2 (fun (m2 : Nat) => m2 = (m1 + b / 65536 ^ i % 65536)) (fun (m2 : Nat) => upd (upd (upd (upd (upd (fun _ => none) 0 (some (.val (tM a)))) 1 (some (.val (tM b)))) 5 (some (.own (.sl 5 1 0 cs.length)))) 7 (some (.val (tI i)))) 6 (some (.val (tI m2)))) (fun (m2 : Nat) => upd (fun _ => none) 5 (some (⟨166, 1, false, rW .u16 cs⟩))) (nm [5]) ?_ ?_
   ·
    refine x6 ?_
    refine x8 ?_
    refine R1 x4 rfl (R1 x4 rfl (R1 (xb9 Tryz.underlying45) rfl (R2 xd5 rfl rfl (x7 (by kernel_rfl) (x3 ?_)))))
    refine xc2 rfl (fun h39 => ?_) (fun h39 => ?_)
    ·
     refine x8 ?_
     refine R1 x4 rfl (R1 x4 rfl (R1 x4 rfl (R2 (xb8 sl45 (i) (by omega) (gN (by omega))) rfl rfl (R1 (xc1 ti166) rfl (R1 (xb4 Tryz.underlying3 (isS Tryz.underlying166) (wr64 (by omega) (by omega))) rfl (R2 (xc4 (r := ((m1 + (dig 65536 b).getD i 0 : Nat) : Int)) (by rw [wr64 (by omega) (by omega)]; omega)) rfl rfl (R1 x5 rfl ?_)))))))
     refine x7 (by kernel_rfl) ?_
     exact xc7 (m1 + (dig 65536 b).getD i 0) (by rw [xb]) (Sub.int rfl (by first | omega | rfl | (dsimp only; omega)) (Sub.int rfl (by first | omega | rfl | (dsimp only; omega)) (Sub.cons rfl (Sub.cons rfl (Sub.cons rfl Sub.nil))))) ((SubK.consI rfl ImpK.refl) SubK.nil) (SupG.val (SupG.val (SupG.own rfl (SupG.val (SupG.val SupG.nil))))) (SupH.cons rfl (supJ xc5) SupH.nil) (lkOk rfl)
    ·
     refine xa4 ?_
     exact xc7 (m1) (by rw [dig_out xb6 (by omega), Nat.add_zero]) (Sub.int rfl (by first | omega | rfl | (dsimp only; omega)) (Sub.int rfl (by first | omega | rfl | (dsimp only; omega)) (Sub.cons rfl (Sub.cons rfl (Sub.cons rfl Sub.nil))))) ((SubK.consI rfl ImpK.refl) SubK.nil) (SupG.val (SupG.val (SupG.own rfl (SupG.val (SupG.val SupG.nil))))) (SupH.cons rfl (supJ xc5) SupH.nil) (lkOk rfl)
   ·
    intro m2 hm2
    refine x6 ?_
    refine x8 ?_
    refine R1 x4 rfl (R1 x4 rfl (R2 (d_rem (r := ((m2 % 65536 : Nat) : Int)) (by decide) (wrem64 (b := 65536))) rfl rfl (R1 (xb4 Tryz.underlying166 (isS Tryz.underlying3) (wu16 (by omega) (by omega))) rfl (R1 (d_nums (n := 1) [m2 % 65536] Tryz.underlying45 el166 zf166 rfl rfl rfl) rfl (RE (xf1 (k := 5) (k' := 51) (ts' := rW .u16 (cs ++ [m2 % 65536])) Tryz.underlying45 el166 zf166 rfl rfl (fun _ => inferInstance) rW_len (by simp; omega) (by simp; omega) (by simp [rW]) (n' := cs.length + 1) rfl) ⟨rfl, rfl, trivial⟩ ⟨rfl, trivial⟩ ⟨rfl, trivial⟩ (R1 x5 rfl (x7 (by kernel_rfl) ?_)))))))
    refine x3 ?_
    refine x8 ?_
    refine R1 x4 rfl (R2 (d_quo (r := ((m2 / 65536 : Nat) : Int)) (by decide) (iquo64 (b := 65536) (by omega))) rfl rfl (R1 x5 rfl (x7 (by kernel_rfl) (xc6 (x3 ?_)))))
    refine x8 ?_
    refine R1 x4 rfl (R2 (xc4 (wr64 (by omega) (by omega))) rfl rfl (R1 x5 rfl (x7 (by kernel_rfl) ?_)))
    obtain ⟨n1, n2⟩ := rplus_in (s := m2) hn (by rw [hm2, hm1])
    exact K_famR (l := [5]) (fun j => cond (Nat.beq j 5) 51 (j)) ((i + 1, m2 / 65536, cs ++ [m2 % 65536])) ⟨(by dsimp only; exact ⟨hmore, n2, by rw [hcs]; exact n1⟩), (by dsimp only; omega)⟩ (SubR.int rfl (by first | omega | rfl | (dsimp only; omega)) (SubR.int rfl (by first | omega | rfl | (dsimp only; omega)) ((SubR.consI rfl (Imp.of (by dsimp only; rw [List.length_append]; rfl))) (SubR.cons rfl (SubR.cons rfl SubR.nil))))) ((SubKR.consI rfl (ImpK.of xh5.symm)) SubKR.nil) (SupG.val (SupG.val (SupG.own rfl (SupG.val (SupG.val SupG.nil))))) (SupH.cons rfl (supJ xc5) SupH.nil) (lkOk rfl) rfl rfl (fun _ h => by cases h)
 ·
  refine RGon (decide_eq_false h35) rfl x4 rfl ⟨rfl, trivial⟩ trivial trivial (RGon (decide_eq_false h35) rfl x4 rfl ⟨rfl, trivial⟩ trivial trivial (RGon (decide_eq_false h35) rfl (xb9 Tryz.underlying45) rfl ⟨rfl, trivial⟩ trivial trivial (RGon (decide_eq_false h35) rfl xd5 rfl ⟨rfl, rfl, trivial⟩ trivial trivial (R2 (xa7 (decide_eq_false h35)) rfl rfl (R1 x4 rfl ?_)))))
  refine RGcaseD (t := 18) rfl (fun h35_2 => ?_) (fun h35_2 => ?_)
  ·
   have hmore := rplus_more hn (.inr (.inl (by omega)))
   refine RGoff (decide_eq_true h35_2) rfl rfl (RGoff (decide_eq_true h35_2) rfl rfl (R2 (xa8 (decide_eq_true h35_2)) rfl rfl (x7 (by kernel_rfl) (x3 (C_bT rfl rfl (xa4 (x3 ?_)))))))
   refine x6 (xa9 ?_)
   refine xh2 (fun (m1 : Nat) => m1 = (n + a / 65536 ^ i % 65536)) (fun (m1 : Nat) => upd (upd (upd (upd (upd (fun _ => none) 0 (some (.val (tM a)))) 1 (some (.val (tM b)))) 5 (some (.own (.sl 5 1 0 cs.length)))) 7 (some (.val (tI i)))) 6 (some (.val (tI m1)))) (fun (m1 : Nat) => upd (fun _ => none) 5 (some (⟨166, 1, false, rW .u16 cs⟩))) (nm [5]) ?_ ?_
   ·
    refine x6 ?_
    refine x8 ?_
    refine R1 x4 rfl (R1 x4 rfl (R1 (xb9 Tryz.underlying45) rfl (R2 xd5 rfl rfl (x7 (by kernel_rfl) (x3 ?_)))))
    refine xc2 rfl (fun h36 => ?_) (fun h36 => ?_)
    ·
     refine x8 ?_
     refine R1 x4 rfl (R1 x4 rfl (R1 x4 rfl (R2 (xb8 sl45 (i) (by omega) (gN (by omega))) rfl rfl (R1 (xc1 ti166) rfl (R1 (xb4 Tryz.underlying3 (isS Tryz.underlying166) (wr64 (by omega) (by omega))) rfl (R2 (xc4 (r := ((n + (dig 65536 a).getD i 0 : Nat) : Int)) (by rw [wr64 (by omega) (by omega)]; omega)) rfl rfl (R1 x5 rfl ?_)))))))
     refine x7 (by kernel_rfl) ?_
     exact xc7 (n + (dig 65536 a).getD i 0) (by rw [xa]) (Sub.int rfl (by first | omega | rfl | (dsimp only; omega)) (Sub.int rfl (by first | omega | rfl | (dsimp only; omega)) (Sub.cons rfl (Sub.cons rfl (Sub.cons rfl Sub.nil))))) ((SubK.consI rfl ImpK.refl) SubK.nil) (SupG.val (SupG.val (SupG.own rfl (SupG.val (SupG.val SupG.nil))))) (SupH.cons rfl (supJ xc5) SupH.nil) (lkOk rfl)
    ·
     refine xa4 ?_
     exact xc7 (n) (by rw [dig_out xb6 (by omega), Nat.add_zero]) (Sub.int rfl (by first | omega | rfl | (dsimp only; omega)) (Sub.int rfl (by first | omega | rfl | (dsimp only; omega)) (Sub.cons rfl (Sub.cons rfl (Sub.cons rfl Sub.nil))))) ((SubK.consI rfl ImpK.refl) SubK.nil) (SupG.val (SupG.val (SupG.own rfl (SupG.val (SupG.val SupG.nil))))) (SupH.cons rfl (supJ xc5) SupH.nil) (lkOk rfl)
   ·
    intro m1 hm1
    refine xh2 (fun (m2 : Nat) => m2 = (m1 + b / 65536 ^ i % 65536)) (fun (m2 : Nat) => upd (upd (upd (upd (upd (fun _ => none) 0 (some (.val (tM a)))) 1 (some (.val (tM b)))) 5 (some (.own (.sl 5 1 0 cs.length)))) 7 (some (.val (tI i)))) 6 (some (.val (tI m2)))) (fun (m2 : Nat) => upd (fun _ => none) 5 (some (⟨166, 1, false, rW .u16 cs⟩))) (nm [5]) ?_ ?_
    ·
     refine x6 ?_
     refine x8 ?_
     refine R1 x4 rfl (R1 x4 rfl (R1 (xb9 Tryz.underlying45) rfl (R2 xd5 rfl rfl (x7 (by kernel_rfl) (x3 ?_)))))
     refine xc2 rfl (fun h39 => ?_) (fun h39 => ?_)
     ·
      refine x8 ?_
      refine R1 x4 rfl (R1 x4 rfl (R1 x4 rfl (R2 (xb8 sl45 (i) (by omega) (gN (by omega))) rfl rfl (R1 (xc1 ti166) rfl (R1 (xb4 Tryz.underlying3 (isS Tryz.underlying166) (wr64 (by omega) (by omega))) rfl (R2 (xc4 (r := ((m1 + (dig 65536 b).getD i 0 : Nat) : Int)) (by rw [wr64 (by omega) (by omega)]; omega)) rfl rfl (R1 x5 rfl ?_)))))))
      refine x7 (by kernel_rfl) ?_
      exact xc7 (m1 + (dig 65536 b).getD i 0) (by rw [xb]) (Sub.int rfl (by first | omega | rfl | (dsimp only; omega)) (Sub.int rfl (by first | omega | rfl | (dsimp only; omega)) (Sub.cons rfl (Sub.cons rfl (Sub.cons rfl Sub.nil))))) ((SubK.consI rfl ImpK.refl) SubK.nil) (SupG.val (SupG.val (SupG.own rfl (SupG.val (SupG.val SupG.nil))))) (SupH.cons rfl (supJ xc5) SupH.nil) (lkOk rfl)
     ·
      refine xa4 ?_
      exact xc7 (m1) (by rw [dig_out xb6 (by omega), Nat.add_zero]) (Sub.int rfl (by first | omega | rfl | (dsimp only; omega)) (Sub.int rfl (by first | omega | rfl | (dsimp only; omega)) (Sub.cons rfl (Sub.cons rfl (Sub.cons rfl Sub.nil))))) ((SubK.consI rfl ImpK.refl) SubK.nil) (SupG.val (SupG.val (SupG.own rfl (SupG.val (SupG.val SupG.nil))))) (SupH.cons rfl (supJ xc5) SupH.nil) (lkOk rfl)
    ·
     intro m2 hm2
     refine x6 ?_
     refine x8 ?_
     refine R1 x4 rfl (R1 x4 rfl (R2 (d_rem (r := ((m2 % 65536 : Nat) : Int)) (by decide) (wrem64 (b := 65536))) rfl rfl (R1 (xb4 Tryz.underlying166 (isS Tryz.underlying3) (wu16 (by omega) (by omega))) rfl (R1 (d_nums (n := 1) [m2 % 65536] Tryz.underlying45 el166 zf166 rfl rfl rfl) rfl (RE (xf1 (k := 5) (k' := 51) (ts' := rW .u16 (cs ++ [m2 % 65536])) Tryz.underlying45 el166 zf166 rfl rfl (fun _ => inferInstance) rW_len (by simp; omega) (by simp; omega) (by simp [rW]) (n' := cs.length + 1) rfl) ⟨rfl, rfl, trivial⟩ ⟨rfl, trivial⟩ ⟨rfl, trivial⟩ (R1 x5 rfl (x7 (by kernel_rfl) ?_)))))))
     refine x3 ?_
     refine x8 ?_
     refine R1 x4 rfl (R2 (d_quo (r := ((m2 / 65536 : Nat) : Int)) (by decide) (iquo64 (b := 65536) (by omega))) rfl rfl (R1 x5 rfl (x7 (by kernel_rfl) (xc6 (x3 ?_)))))
     refine x8 ?_
     refine R1 x4 rfl (R2 (xc4 (wr64 (by omega) (by omega))) rfl rfl (R1 x5 rfl (x7 (by kernel_rfl) ?_)))
     obtain ⟨n1, n2⟩ := rplus_in (s := m2) hn (by rw [hm2, hm1])
     exact K_famR (l := [5]) (fun j => cond (Nat.beq j 5) 51 (j)) ((i + 1, m2 / 65536, cs ++ [m2 % 65536])) ⟨(by dsimp only; exact ⟨hmore, n2, by rw [hcs]; exact n1⟩), (by dsimp only; omega)⟩ (SubR.int rfl (by first | omega | rfl | (dsimp only; omega)) (SubR.int rfl (by first | omega | rfl | (dsimp only; omega)) ((SubR.consI rfl (Imp.of (by dsimp only; rw [List.length_append]; rfl))) (SubR.cons rfl (SubR.cons rfl SubR.nil))))) ((SubKR.consI rfl (ImpK.of xh5.symm)) SubKR.nil) (SupG.val (SupG.val (SupG.own rfl (SupG.val (SupG.val SupG.nil))))) (SupH.cons rfl (supJ xc5) SupH.nil) (lkOk rfl) rfl rfl (fun _ h => by cases h)
  ·
   refine RGon (decide_eq_false h35_2) rfl x4 rfl ⟨rfl, trivial⟩ trivial trivial (RGon (decide_eq_false h35_2) rfl d_gtr rfl ⟨rfl, rfl, trivial⟩ trivial trivial (R2 (xa7 (decide_eq_false h35_2)) rfl rfl (x7 (by kernel_rfl) (x3 ?_))))
   refine xc2 rfl (fun h35_3 => ?_) (fun h35_3 => ?_)
   ·
    have hmore := rplus_more hn (.inr (.inr (by omega)))
    refine xa4 (x3 (x6 (xa9 ?_)))
    refine xh2 (fun (m1 : Nat) => m1 = (n + a / 65536 ^ i % 65536)) (fun (m1 : Nat) => upd (upd (upd (upd (upd (fun _ => none) 0 (some (.val (tM a)))) 1 (some (.val (tM b)))) 5 (some (.own (.sl 5 1 0 cs.length)))) 7 (some (.val (tI i)))) 6 (some (.val (tI m1)))) (fun (m1 : Nat) => upd (fun _ => none) 5 (some (⟨166, 1, false, rW .u16 cs⟩))) (nm [5]) ?_ ?_
    ·
     refine x6 ?_
     refine x8 ?_
     refine R1 x4 rfl (R1 x4 rfl (R1 (xb9 Tryz.underlying45) rfl (R2 xd5 rfl rfl (x7 (by kernel_rfl) (x3 ?_)))))
     refine xc2 rfl (fun h36 => ?_) (fun h36 => ?_)
     ·
      refine x8 ?_
      refine R1 x4 rfl (R1 x4 rfl (R1 x4 rfl (R2 (xb8 sl45 (i) (by omega) (gN (by omega))) rfl rfl (R1 (xc1 ti166) rfl (R1 (xb4 Tryz.underlying3 (isS Tryz.underlying166) (wr64 (by omega) (by omega))) rfl (R2 (xc4 (r := ((n + (dig 65536 a).getD i 0 : Nat) : Int)) (by rw [wr64 (by omega) (by omega)]; omega)) rfl rfl (R1 x5 rfl ?_)))))))
      refine x7 (by kernel_rfl) ?_
      exact xc7 (n + (dig 65536 a).getD i 0) (by rw [xa]) (Sub.int rfl (by first | omega | rfl | (dsimp only; omega)) (Sub.int rfl (by first | omega | rfl | (dsimp only; omega)) (Sub.cons rfl (Sub.cons rfl (Sub.cons rfl Sub.nil))))) ((SubK.consI rfl ImpK.refl) SubK.nil) (SupG.val (SupG.val (SupG.own rfl (SupG.val (SupG.val SupG.nil))))) (SupH.cons rfl (supJ xc5) SupH.nil) (lkOk rfl)
     ·
      refine xa4 ?_
      exact xc7 (n) (by rw [dig_out xb6 (by omega), Nat.add_zero]) (Sub.int rfl (by first | omega | rfl | (dsimp only; omega)) (Sub.int rfl (by first | omega | rfl | (dsimp only; omega)) (Sub.cons rfl (Sub.cons rfl (Sub.cons rfl Sub.nil))))) ((SubK.consI rfl ImpK.refl) SubK.nil) (SupG.val (SupG.val (SupG.own rfl (SupG.val (SupG.val SupG.nil))))) (SupH.cons rfl (supJ xc5) SupH.nil) (lkOk rfl)
    ·
     intro m1 hm1
     refine xh2 (fun (m2 : Nat) => m2 = (m1 + b / 65536 ^ i % 65536)) (fun (m2 : Nat) => upd (upd (upd (upd (upd (fun _ => none) 0 (some (.val (tM a)))) 1 (some (.val (tM b)))) 5 (some (.own (.sl 5 1 0 cs.length)))) 7 (some (.val (tI i)))) 6 (some (.val (tI m2)))) (fun (m2 : Nat) => upd (fun _ => none) 5 (some (⟨166, 1, false, rW .u16 cs⟩))) (nm [5]) ?_ ?_
     ·
      refine x6 ?_
      refine x8 ?_
      refine R1 x4 rfl (R1 x4 rfl (R1 (xb9 Tryz.underlying45) rfl (R2 xd5 rfl rfl (x7 (by kernel_rfl) (x3 ?_)))))
      refine xc2 rfl (fun h39 => ?_) (fun h39 => ?_)
      ·
       refine x8 ?_
       refine R1 x4 rfl (R1 x4 rfl (R1 x4 rfl (R2 (xb8 sl45 (i) (by omega) (gN (by omega))) rfl rfl (R1 (xc1 ti166) rfl (R1 (xb4 Tryz.underlying3 (isS Tryz.underlying166) (wr64 (by omega) (by omega))) rfl (R2 (xc4 (r := ((m1 + (dig 65536 b).getD i 0 : Nat) : Int)) (by rw [wr64 (by omega) (by omega)]; omega)) rfl rfl (R1 x5 rfl ?_)))))))
       refine x7 (by kernel_rfl) ?_
       exact xc7 (m1 + (dig 65536 b).getD i 0) (by rw [xb]) (Sub.int rfl (by first | omega | rfl | (dsimp only; omega)) (Sub.int rfl (by first | omega | rfl | (dsimp only; omega)) (Sub.cons rfl (Sub.cons rfl (Sub.cons rfl Sub.nil))))) ((SubK.consI rfl ImpK.refl) SubK.nil) (SupG.val (SupG.val (SupG.own rfl (SupG.val (SupG.val SupG.nil))))) (SupH.cons rfl (supJ xc5) SupH.nil) (lkOk rfl)
      ·
       refine xa4 ?_
       exact xc7 (m1) (by rw [dig_out xb6 (by omega), Nat.add_zero]) (Sub.int rfl (by first | omega | rfl | (dsimp only; omega)) (Sub.int rfl (by first | omega | rfl | (dsimp only; omega)) (Sub.cons rfl (Sub.cons rfl (Sub.cons rfl Sub.nil))))) ((SubK.consI rfl ImpK.refl) SubK.nil) (SupG.val (SupG.val (SupG.own rfl (SupG.val (SupG.val SupG.nil))))) (SupH.cons rfl (supJ xc5) SupH.nil) (lkOk rfl)
     ·
      intro m2 hm2
      refine x6 ?_
      refine x8 ?_
      refine R1 x4 rfl (R1 x4 rfl (R2 (d_rem (r := ((m2 % 65536 : Nat) : Int)) (by decide) (wrem64 (b := 65536))) rfl rfl (R1 (xb4 Tryz.underlying166 (isS Tryz.underlying3) (wu16 (by omega) (by omega))) rfl (R1 (d_nums (n := 1) [m2 % 65536] Tryz.underlying45 el166 zf166 rfl rfl rfl) rfl (RE (xf1 (k := 5) (k' := 51) (ts' := rW .u16 (cs ++ [m2 % 65536])) Tryz.underlying45 el166 zf166 rfl rfl (fun _ => inferInstance) rW_len (by simp; omega) (by simp; omega) (by simp [rW]) (n' := cs.length + 1) rfl) ⟨rfl, rfl, trivial⟩ ⟨rfl, trivial⟩ ⟨rfl, trivial⟩ (R1 x5 rfl (x7 (by kernel_rfl) ?_)))))))
      refine x3 ?_
      refine x8 ?_
      refine R1 x4 rfl (R2 (d_quo (r := ((m2 / 65536 : Nat) : Int)) (by decide) (iquo64 (b := 65536) (by omega))) rfl rfl (R1 x5 rfl (x7 (by kernel_rfl) (xc6 (x3 ?_)))))
      refine x8 ?_
      refine R1 x4 rfl (R2 (xc4 (wr64 (by omega) (by omega))) rfl rfl (R1 x5 rfl (x7 (by kernel_rfl) ?_)))
      obtain ⟨n1, n2⟩ := rplus_in (s := m2) hn (by rw [hm2, hm1])
      exact K_famR (l := [5]) (fun j => cond (Nat.beq j 5) 51 (j)) ((i + 1, m2 / 65536, cs ++ [m2 % 65536])) ⟨(by dsimp only; exact ⟨hmore, n2, by rw [hcs]; exact n1⟩), (by dsimp only; omega)⟩ (SubR.int rfl (by first | omega | rfl | (dsimp only; omega)) (SubR.int rfl (by first | omega | rfl | (dsimp only; omega)) ((SubR.consI rfl (Imp.of (by dsimp only; rw [List.length_append]; rfl))) (SubR.cons rfl (SubR.cons rfl SubR.nil))))) ((SubKR.consI rfl (ImpK.of xh5.symm)) SubKR.nil) (SupG.val (SupG.val (SupG.own rfl (SupG.val (SupG.val SupG.nil))))) (SupH.cons rfl (supJ xc5) SupH.nil) (lkOk rfl) rfl rfl (fun _ h => by cases h)
   ·
    refine xd1 (xc0 (xc0 (xd8 (x3 (x6 ?_)))))
    refine x8 ?_
    refine RE (d_moveS (f := fun n : Nat => tE (.int .u16 n)) (xs := cs) (fun _ h => h) (rW_all rfl) rfl) ⟨rfl, trivial⟩ ⟨rfl, trivial⟩ trivial (R1 x5 rfl (x7 (by kernel_rfl) (x3 (xa2 ?_))))
    exact xa3 Plain.mk' rfl rfl (Le.of (congrArg tLm (by rw [hcs, rplus_end hn (by omega) (by omega) (by omega) hi])))
end An.S

/- The reference of layer 1: differences, halves, quotients. -/
namespace An.S
open Go Go.Proofs An
set_option maxHeartbeats 2000000
theorem c_RMinus (a b : Nat) (hab : b ≤ a) (ha : (dig 65536 a).length ≤ 100000) :
  Ct Tryz.prog 135 [tM a, tM b] (tM (a - b)) := by
 refine Ct.intro Tryz.func135 rfl Tryz.ntmps135 rfl ?_
 intro w F
 refine x6 ?_
 refine x8 ?_
 refine R1 x5 rfl (x7 (by kernel_rfl) (x3 (x6 ?_)))
 refine x8 ?_
 refine RE (d_assignN (k := 5) 166 1 false rfl (fun _ => rfl)) trivial trivial ⟨rfl, trivial⟩ (x7 (by kernel_rfl) (x3 (x6 ?_)))
 refine x8 ?_
 refine R1 x5 rfl (x7 (by kernel_rfl) (x3 (x6 (x6 ?_))))
 refine x8 ?_
 refine R1 x5 rfl (x7 (by kernel_rfl) (x3 (xa9 ?_)))
 refine xd6 (fun (fm : (Nat) × (Nat) × (List Nat)) => (fun (i : Nat) (br : Nat) (cs : List Nat) => i ≤ (dig 65536 a).length ∧ cs.length = i ∧ Dig 65536 cs ∧ val 65536 cs + b % 65536 ^ i = a % 65536 ^ i + br * 65536 ^ i ∧ br ≤ 1) fm.1 fm.2.1 fm.2.2) (fun (fm : (Nat) × (Nat) × (List Nat)) => (fun (i : Nat) (br : Nat) (cs : List Nat) => upd (upd (upd (upd (upd (fun _ => none) 0 (some (.val (tM a)))) 1 (some (.val (tM b)))) 5 (some (.own (.sl 5 1 0 cs.length)))) 6 (some (.val (tI br)))) 7 (some (.val (tI i)))) fm.1 fm.2.1 fm.2.2) (fun (fm : (Nat) × (Nat) × (List Nat)) => (fun (i : Nat) (br : Nat) (cs : List Nat) => upd (fun _ => none) 5 (some (⟨166, 1, false, rW .u16 cs⟩))) fm.1 fm.2.1 fm.2.2) (nm [5]) (fun (fm : (Nat) × (Nat) × (List Nat)) => (fun (i : Nat) (br : Nat) (cs : List Nat) => (dig 65536 a).length - i) fm.1 fm.2.1 fm.2.2) ((0, 0, [])) (by dsimp only; exact ⟨Nat.zero_le _, rfl, Dig.nil _, by simp [val, Nat.mod_one], by omega⟩) (Sub.int rfl (by first | omega | rfl | (dsimp only; omega)) (Sub.int rfl (by first | omega | rfl | (dsimp only; omega)) (Sub.cons rfl (Sub.cons rfl (Sub.cons rfl Sub.nil))))) ((SubK.consI rfl ImpK.refl) SubK.nil) (SupG.val (SupG.val (SupG.own rfl (SupG.val (SupG.val SupG.nil))))) (SupH.cons rfl (supJ xc5) SupH.nil) (lkOk rfl) ?_
 intro fm hI
 obtain ⟨i, br, cs⟩ := fm
 replace hI : i ≤ (dig 65536 a).length ∧ cs.length = i ∧ Dig 65536 cs ∧ val 65536 cs + b % 65536 ^ i = a % 65536 ^ i + br * 65536 ^ i ∧ br ≤ 1 := hI
 show wc _ _ _ _ (upd (upd (upd (upd (upd (fun _ => none) 0 (some (.val (tM a)))) 1 (some (.val (tM b)))) 5 (some (.own (.sl 5 1 0 cs.length)))) 6 (some (.val (tI br)))) 7 (some (.val (tI i)))) (upd (fun _ => none) 5 (some (⟨166, 1, false, rW .u16 cs⟩))) _
 obtain ⟨hi, hl, hD, hv, hbr⟩ := hI
 have xa := xe6 xb6 a i
 have xb := xe6 xb6 b i
 have xa1 := (xe9 xb6 a).getD (by decide) i
 have xb1 := (xe9 xb6 b).getD (by decide) i
 refine x6 (x6 ?_)
 refine x8 ?_
 refine R1 x4 rfl (R1 x4 rfl (R1 (xb9 Tryz.underlying45) rfl (R2 xd5 rfl rfl (x7 (by kernel_rfl) (x3 ?_)))))
 refine xc2 rfl (fun h52 => ?_) (fun h52 => ?_)
 ·
  refine xa4 (x3 (x6 (xa9 (x6 ?_))))
  refine x8 ?_
  refine R1 x4 rfl (R1 x4 rfl (R2 (xb8 sl45 (i) (by omega) (gN (by omega))) rfl rfl (R1 (xc1 ti166) rfl (R1 (xb4 Tryz.underlying3 (isS Tryz.underlying166) (wr64 (by omega) (by omega))) rfl (R2 (xc4 (r := ((65536 + ((dig 65536 a).getD i 0) : Nat) : Int)) (by rw [wr64 (by omega) (by omega)]; omega)) rfl rfl (R1 x4 rfl (R2 (xe4 (r := ((65536 + ((dig 65536 a).getD i 0) - br : Nat) : Int)) (by rw [wr64 (by omega) (by omega)]; omega)) rfl rfl ?_)))))))
  refine R1 x5 rfl (x7 (by kernel_rfl) (x3 ?_))
  refine xh2 (fun (m : Nat) => m + br + b / 65536 ^ i % 65536 = 65536 + a / 65536 ^ i % 65536) (fun (m : Nat) => upd (upd (upd (upd (upd (upd (fun _ => none) 0 (some (.val (tM a)))) 1 (some (.val (tM b)))) 5 (some (.own (.sl 5 1 0 cs.length)))) 6 (some (.val (tI br)))) 7 (some (.val (tI i)))) 8 (some (.val (tI m)))) (fun (m : Nat) => upd (fun _ => none) 5 (some (⟨166, 1, false, rW .u16 cs⟩))) (nm [5]) ?_ ?_
  ·
   refine x6 ?_
   refine x8 ?_
   refine R1 x4 rfl (R1 x4 rfl (R1 (xb9 Tryz.underlying45) rfl (R2 xd5 rfl rfl (x7 (by kernel_rfl) (x3 ?_)))))
   refine xc2 rfl (fun h54 => ?_) (fun h54 => ?_)
   ·
    refine x8 ?_
    refine R1 x4 rfl (R1 x4 rfl (R1 x4 rfl (R2 (xb8 sl45 (i) (by omega) (gN (by omega))) rfl rfl (R1 (xc1 ti166) rfl (R1 (xb4 Tryz.underlying3 (isS Tryz.underlying166) (wr64 (by omega) (by omega))) rfl (R2 (xe4 (r := ((65536 + ((dig 65536 a).getD i 0) - br - ((dig 65536 b).getD i 0) : Nat) : Int)) (by rw [wr64 (by omega) (by omega)]; omega)) rfl rfl (R1 x5 rfl ?_)))))))
    refine x7 (by kernel_rfl) ?_
    exact xc7 (65536 + ((dig 65536 a).getD i 0) - br - ((dig 65536 b).getD i 0)) (by omega) (Sub.int rfl (by first | omega | rfl | (dsimp only; omega)) (Sub.int rfl (by first | omega | rfl | (dsimp only; omega)) (Sub.int rfl (by first | omega | rfl | (dsimp only; omega)) (Sub.cons rfl (Sub.cons rfl (Sub.cons rfl Sub.nil)))))) ((SubK.consI rfl ImpK.refl) SubK.nil) (SupG.val (SupG.val (SupG.val (SupG.own rfl (SupG.val (SupG.val SupG.nil)))))) (SupH.cons rfl (supJ xc5) SupH.nil) (lkOk rfl)
   ·
    refine xa4 ?_
    exact xc7 (65536 + ((dig 65536 a).getD i 0) - br) (by rw [dig_out xb6 (v := b) (i := i) (by omega)]; omega) (Sub.int rfl (by first | omega | rfl | (dsimp only; omega)) (Sub.int rfl (by first | omega | rfl | (dsimp only; omega)) (Sub.int rfl (by first | omega | rfl | (dsimp only; omega)) (Sub.cons rfl (Sub.cons rfl (Sub.cons rfl Sub.nil)))))) ((SubK.consI rfl ImpK.refl) SubK.nil) (SupG.val (SupG.val (SupG.val (SupG.own rfl (SupG.val (SupG.val SupG.nil)))))) (SupH.cons rfl (supJ xc5) SupH.nil) (lkOk rfl)
  ·
   intro m hm
   refine x6 ?_
   refine x8 ?_
   refine R1 x4 rfl (R1 x4 rfl (R2 (d_rem (r := ((m % 65536 : Nat) : Int)) (by decide) (wrem64 (b := 65536))) rfl rfl (R1 (xb4 Tryz.underlying166 (isS Tryz.underlying3) (wu16 (by omega) (by omega))) rfl (R1 (d_nums (n := 1) [m % 65536] Tryz.underlying45 el166 zf166 rfl rfl rfl) rfl (RE (xf1 (k := 5) (k' := 39) (ts' := rW .u16 (cs ++ [m % 65536])) Tryz.underlying45 el166 zf166 rfl rfl (fun _ => inferInstance) rW_len (by simp; omega) (by simp; omega) (by simp [rW]) (n' := cs.length + 1) rfl) ⟨rfl, rfl, trivial⟩ ⟨rfl, trivial⟩ ⟨rfl, trivial⟩ (R1 x5 rfl (x7 (by kernel_rfl) ?_)))))))
   refine x3 ?_
   refine x8 ?_
   refine R1 x4 rfl (R2 (d_quo (r := ((m / 65536 : Nat) : Int)) (by decide) (iquo64 (b := 65536) (by omega))) rfl rfl (R2 (xe4 (r := ((1 - m / 65536 : Nat) : Int)) (by rw [wr64 (by omega) (by omega)]; omega)) rfl rfl (R1 x5 rfl (x7 (by kernel_rfl) (xc6 (x3 ?_))))))
   refine x8 ?_
   refine R1 x4 rfl (R2 (xc4 (wr64 (by omega) (by omega))) rfl rfl (R1 x5 rfl (x7 (by kernel_rfl) ?_)))
   obtain ⟨n1, n2, n3⟩ := rminus_in hl hv hbr hm
   exact K_famR (l := [5]) (fun j => cond (Nat.beq j 5) 39 (j)) ((i + 1, 1 - m / 65536, cs ++ [m % 65536])) ⟨(by dsimp only; exact ⟨by omega, by rw [List.length_append, hl]; rfl, hD.append (Dig.cons (Nat.mod_lt _ (by decide)) (Dig.nil _)), n1, n3⟩), (by dsimp only; omega)⟩ (SubR.int rfl (by first | omega | rfl | (dsimp only; omega)) (SubR.int rfl (by first | omega | rfl | (dsimp only; omega)) ((SubR.consI rfl (Imp.of (by dsimp only; rw [List.length_append]; rfl))) (SubR.cons rfl (SubR.cons rfl SubR.nil))))) ((SubKR.consI rfl (ImpK.of xh5.symm)) SubKR.nil) (SupG.val (SupG.val (SupG.own rfl (SupG.val (SupG.val SupG.nil))))) (SupH.cons rfl (supJ xc5) SupH.nil) (lkOk rfl) rfl rfl (fun _ h => by cases h)
 ·
  refine xd1 (xc0 (xc0 (xd8 (x3 (x6 ?_)))))
  refine x8 ?_
  refine RE (d_moveS (f := fun n : Nat => tE (.int .u16 n)) (xs := cs) (fun _ h => h) (rW_all rfl) rfl) ⟨rfl, trivial⟩ ⟨rfl, trivial⟩ trivial (R1 (xa0 (c_RTrim _) fi181 rfl) rfl (R1 x5 rfl (x7 (by kernel_rfl) (x3 (xa2 ?_)))))
  exact xa3 Plain.mk' rfl rfl (Le.of (congrArg tLm (by rw [show i = (dig 65536 a).length by omega] at hv hl; exact rminus_end hl hD (lt_len xb6 a) hab hv)))
theorem c_RHalf (a : Nat) (ha : (dig 65536 a).length ≤ 200000) :
  Ct Tryz.prog 173 [tM a] (tM (a / 2)) := by
 refine Ct.intro Tryz.func173 rfl Tryz.ntmps173 rfl ?_
 intro w F
 refine x6 ?_
 refine x8 ?_
 refine R1 x5 rfl (x7 (by kernel_rfl) (x3 (x6 ?_)))
 refine x8 ?_
 refine R1 x4 rfl (R1 (xb9 Tryz.underlying45) rfl (RE (d_makeO (k := 8) (t := tE (.int .u16 0)) (ts := rW .u16 (List.replicate ((dig 65536 a).length) 0)) ((dig 65536 a).length) ((dig 65536 a).length) Tryz.underlying45 el166 (fun _ _ => rfl) rfl (by omega) (by omega) (Nat.le_refl _) (by omega) (by omega) (rW_rep _)) ⟨rfl, rfl, trivial⟩ trivial ⟨rfl, trivial⟩ (R1 x5 rfl (x7 (by kernel_rfl) (x3 (x6 ?_))))))
 refine x8 ?_
 refine R1 x5 rfl (x7 (by kernel_rfl) (x3 (x6 (x6 ?_))))
 refine x8 ?_
 refine R1 x4 rfl (R1 (xb9 Tryz.underlying45) rfl (R2 (xe4 (wr64 (by omega) (by omega))) rfl rfl (R1 x5 rfl (x7 (by kernel_rfl) (x3 (xa9 ?_))))))
 refine xd6 (fun (fm : (Nat) × (Nat) × (List Nat)) => (fun (k : Nat) (n : Nat) (qs : List Nat) => k ≤ (dig 65536 a).length ∧ qs.length = (dig 65536 a).length ∧ Dig 65536 qs ∧ n % 2 = a / 65536 ^ k % 2 ∧ val 65536 (qs.drop k) = a / 65536 ^ k / 2) fm.1 fm.2.1 fm.2.2) (fun (fm : (Nat) × (Nat) × (List Nat)) => (fun (k : Nat) (n : Nat) (qs : List Nat) => upd (upd (upd (upd (fun _ => none) 0 (some (.val (tM a)))) 3 (some (.own (.sl 8 1 0 (dig 65536 a).length)))) 4 (some (.val (tI n)))) 5 (some (.val (tI ((k : Int) - 1))))) fm.1 fm.2.1 fm.2.2) (fun (fm : (Nat) × (Nat) × (List Nat)) => (fun (k : Nat) (n : Nat) (qs : List Nat) => upd (fun _ => none) 8 (some (⟨166, 1, false, rW .u16 qs⟩))) fm.1 fm.2.1 fm.2.2) (nm [8]) (fun (fm : (Nat) × (Nat) × (List Nat)) => (fun (k : Nat) (n : Nat) (qs : List Nat) => k) fm.1 fm.2.1 fm.2.2) (((dig 65536 a).length, 0, List.replicate (dig 65536 a).length 0)) (by dsimp only; exact ⟨Nat.le_refl _, by simp, Dig.rep (by decide) _, by rw [Nat.div_eq_of_lt (lt_len xb6 a)], by rw [Nat.div_eq_of_lt (lt_len xb6 a), Nat.zero_div, List.drop_replicate, xh4]⟩) (Sub.int rfl (by first | omega | rfl | (dsimp only; omega)) (Sub.int rfl (by first | omega | rfl | (dsimp only; omega)) (Sub.cons rfl (Sub.cons rfl Sub.nil)))) ((SubK.consI rfl ImpK.refl) SubK.nil) (SupG.val (SupG.val (SupG.own rfl (SupG.val SupG.nil)))) (SupH.cons rfl (supJ xc5) SupH.nil) (lkOk rfl) ?_
 intro fm hI
 obtain ⟨k, n, qs⟩ := fm
 replace hI : k ≤ (dig 65536 a).length ∧ qs.length = (dig 65536 a).length ∧ Dig 65536 qs ∧ n % 2 = a / 65536 ^ k % 2 ∧ val 65536 (qs.drop k) = a / 65536 ^ k / 2 := hI
 show wc _ _ _ _ (upd (upd (upd (upd (fun _ => none) 0 (some (.val (tM a)))) 3 (some (.own (.sl 8 1 0 (dig 65536 a).length)))) 4 (some (.val (tI n)))) 5 (some (.val (tI ((k : Int) - 1))))) (upd (fun _ => none) 8 (some (⟨166, 1, false, rW .u16 qs⟩))) _
 obtain ⟨hk, hl, hD, hn, hv⟩ := hI
 refine x6 (x6 ?_)
 refine x8 ?_
 refine R1 x4 rfl (R2 d_geq rfl rfl (x7 (by kernel_rfl) (x3 ?_)))
 refine xc2 rfl (fun h82 => ?_) (fun h82 => ?_)
 ·
  obtain ⟨j, rfl⟩ : ∃ j, k = j + 1 := ⟨k - 1, by omega⟩
  have hx := xe6 xb6 a j
  have hx1 := (xe9 xb6 a).getD (by decide) j
  obtain ⟨n1, n2, n3, n4, n5⟩ := half_in (k := j) (by omega) hl hD hn hv rfl
  rw [← hx] at n1 n2 n3 n4 n5
  refine xa4 (x3 (x6 (xa9 (x6 ?_))))
  refine x8 ?_
  refine R1 x4 rfl (R2 (d_rem (r := ((n % 2 : Nat) : Int)) (by decide) (wrem64 (b := 2))) rfl rfl (R2 (d_mul (r := ((n % 2 * 65536 : Nat) : Int)) (by rw [wr64 (by omega) (by omega)]; omega)) rfl rfl (R1 x4 rfl (R1 x4 rfl (R2 (xb8 sl45 (j) (by omega) (gN (by omega))) rfl rfl (R1 (xc1 ti166) rfl (R1 (xb4 Tryz.underlying3 (isS Tryz.underlying166) (wr64 (by omega) (by omega))) rfl ?_)))))))
  refine R2 (xc4 (r := (((n % 2 * 65536 + (dig 65536 a).getD j 0) : Nat) : Int)) (by rw [wr64 (by omega) (by omega)]; omega)) rfl rfl (R1 x5 rfl (x7 (by kernel_rfl) (x3 ?_)))
  refine x8 ?_
  refine R1 x4 rfl (R1 x4 rfl (R1 x4 rfl (R2 (d_quo (r := (((n % 2 * 65536 + (dig 65536 a).getD j 0) / 2 : Nat) : Int)) (by decide) (iquo64 (b := 2) (by omega))) rfl rfl (R1 (xb4 Tryz.underlying166 (isS Tryz.underlying3) (wu16 (by omega) (by omega))) rfl (R2 (xd7 sl45 (by omega) (by omega) rfl) rfl rfl (RE (xb0 (j) ti166 (rW_lt (by omega)) (by omega) (rW_set (m := _) rfl)) ⟨rfl, rfl, trivial⟩ ⟨rfl, trivial⟩ trivial (x7 (by kernel_rfl) ?_)))))))
  refine xc6 (x3 ?_)
  refine x8 ?_
  refine R1 x4 rfl (R2 (xe4 (wr64 (by omega) (by omega))) rfl rfl (R1 x5 rfl (x7 (by kernel_rfl) ?_)))
  exact xc7 ((j, (n % 2 * 65536 + (dig 65536 a).getD j 0), qs.set j ((n % 2 * 65536 + (dig 65536 a).getD j 0) / 2))) ⟨(by dsimp only; exact ⟨by omega, n1, n2, n3, n4⟩), (by dsimp only; omega)⟩ (Sub.int rfl (by first | omega | rfl | (dsimp only; omega)) (Sub.int rfl (by first | omega | rfl | (dsimp only; omega)) (Sub.cons rfl (Sub.cons rfl Sub.nil)))) ((SubK.consI rfl ImpK.refl) SubK.nil) (SupG.val (SupG.val (SupG.own rfl (SupG.val SupG.nil)))) (SupH.cons rfl (supJ xc5) SupH.nil) (lkOk rfl)
 ·
  have hk0 : k = 0 := by omega
  subst hk0
  rw [List.drop_zero, Nat.pow_zero, Nat.div_one] at hv
  refine xd1 (xc0 (xc0 (xd8 (x3 (x6 ?_)))))
  refine x8 ?_
  refine RE (d_moveS (f := fun n : Nat => tE (.int .u16 n)) (xs := qs) (fun _ h => h) (rW_all hl) hl) ⟨rfl, trivial⟩ ⟨rfl, trivial⟩ trivial (R1 (xa0 (c_RTrim _) fi181 rfl) rfl (R1 x5 rfl (x7 (by kernel_rfl) (x3 (xa2 ?_)))))
  exact xa3 Plain.mk' rfl rfl (Le.of (congrArg tLm (by rw [xf9 xb6 hD, hv])))
end An.S

/- The references: quotients, divisors, quick fractions. -/
namespace An.S
open Go Go.Proofs An
set_option maxHeartbeats 2000000
theorem fi127 : FnI Tryz.prog 127 := ⟨_, Tryz.func127, by kernel_rfl, rfl⟩
theorem fi134 : FnI Tryz.prog 134 := ⟨_, Tryz.func134, by kernel_rfl, rfl⟩
theorem fi135 : FnI Tryz.prog 135 := ⟨_, Tryz.func135, by kernel_rfl, rfl⟩
theorem fi171 : FnI Tryz.prog 171 := ⟨_, Tryz.func171, by kernel_rfl, rfl⟩
theorem fi172 : FnI Tryz.prog 172 := ⟨_, Tryz.func172, by kernel_rfl, rfl⟩
theorem fi173 : FnI Tryz.prog 173 := ⟨_, Tryz.func173, by kernel_rfl, rfl⟩
theorem c_RPlusOne (q : Nat) (h : (dig 65536 q).length ≤ 100000) : Ct Tryz.prog 134 [tM q, tLm [1]] (tM (q + 1)) := by
  have e : dig 65536 1 = [1] := by rw [dig_pos xb6 (by decide), show (1 : Nat) / 65536 = 0 by decide, xf0]
  have := c_RPlus q 1 h (by rw [e]; decide)
  rw [tM, tM, e] at this; exact this
theorem lenM {a b k : Nat} (h : a ≤ b) (hb : (dig 65536 b).length ≤ k) : (dig 65536 a).length ≤ k := Nat.le_trans (xf3 xb6 h) hb
theorem one_dec {l : List Nat} (h : l.length = 1) : decide (((l.getD 0 0 : Nat) : Int) = 1) = decide (l = [1]) := by
  obtain ⟨a, rfl⟩ := List.length_eq_one_iff.1 h
  simp
  omega
theorem c_RDivided (a b : Nat) (hb : 0 < b) (ha : (dig 65536 a).length ≤ 4000) (hbl : (dig 65536 b).length ≤ 4000) :
    Ct Tryz.prog 127 [tM a, tM b] (tT [tM (a / b), tM (a % b)]) := by
  refine Ct.intro Tryz.func127 rfl Tryz.ntmps127 rfl ?_
  intro w F
  refine x6 ?_
  refine x8 ?_
  refine R1 x5 rfl (R1 x5 rfl (x7 (by kernel_rfl) (x3 (x6 (x6 ?_)))))
  refine x8 ?_
  refine R1 x4 rfl (R1 (xb9 Tryz.underlying45) rfl (R2 xe5 rfl rfl (x7 (by kernel_rfl) (x3 ?_))))
  refine xc2 rfl (fun h103 => ?_) (fun h103 => ?_)
  ·
    have hb0 := one_limb (b := b) (by omega)
    have hbW := (xe9 xb6 b).getD (by decide) 0
    refine x6 ?_
    refine x8 ?_
    refine R1 x4 rfl (R1 x4 rfl (R2 (xb8 sl45 (0) (by omega) (gN (by omega))) rfl rfl (R1 (xc1 ti166) rfl (R1 (xb4 Tryz.underlying3 (isS Tryz.underlying166) (wr64 (by omega) (by omega))) rfl (R2 (xa0 (c_RShort a _ (by omega) (by omega) (by omega)) fi171 rfl) rfl rfl (R1 (xb7 rfl) rfl (R1 (xb7 rfl) rfl ?_)))))))
    refine R1 x5 rfl (R1 x5 rfl (x7 (by kernel_rfl) (x3 (xa2 (xa6 ?_)))))
    exact xf2 Plain.mk' rfl rfl rfl (Le.of (by rw [hb0])) (Le.of (by rw [hb0]))
  ·
    refine xa4 (x3 (x6 ?_))
    refine x8 ?_
    refine R1 x5 rfl (x7 (by kernel_rfl) (x3 (x6 (x6 ?_))))
    refine x8 ?_
    refine R1 x4 rfl (R1 x5 rfl (x7 (by kernel_rfl) (x3 (xa9 ?_))))
    refine xd6 (fun (n : Nat) => n = 0 ∨ b * 2 ^ n ≤ a + a) (fun (n : Nat) => upd (upd (upd (upd (fun _ => none) 0 (some (.val (tM a)))) 1 (some (.val (tM b)))) 6 (some (.val (tI n)))) 7 (some (.val (tM (b * 2 ^ n))))) (fun (n : Nat) => fun _ => none) (nm []) (fun (n : Nat) => a + 1 - b * 2 ^ n) (0) (.inl rfl) (Sub.le rfl (Le.of (by first | rw [Nat.pow_zero, Nat.mul_one] | (dsimp only; rw [Nat.pow_zero, Nat.mul_one]))) (Sub.int rfl (by first | omega | rfl | (dsimp only; omega)) (Sub.cons rfl (Sub.cons rfl Sub.nil)))) SubK.nil (SupG.val (SupG.val (SupG.val (SupG.val SupG.nil)))) SupH.nil (lkOk rfl) ?_
    intro n hI
    have hn : n < 16 * 4001 := by
      rcases hI with h | h
      · omega
      · refine bits_le (a := a + a) ?_ (by have := len_dbl ha ha; omega)
        exact Nat.le_trans (Nat.le_mul_of_pos_left _ hb) h
    refine x6 (x6 ?_)
    refine x8 ?_
    refine R1 x4 rfl (R1 x4 rfl (R2 (xa0 (c_RLess a (b * 2 ^ n)) fi172 rfl) rfl rfl (R1 xe7 rfl (x7 (by kernel_rfl) (x3 ?_)))))
    refine xg6 rfl (fun h107 => ?_) (fun h107 => ?_)
    ·
      have hle : b * 2 ^ n ≤ a := by
        have h := h107
        simp at h; exact h
      have hnl := lenM hle ha
      refine xa4 (x3 (x6 (xa9 ?_)))
      refine x8 ?_
      refine R1 x4 rfl (R1 x4 rfl (R2 (xa0 (c_RPlus (b * 2 ^ n) (b * 2 ^ n) (by omega) (by omega)) fi134 rfl) rfl rfl (R1 x5 rfl (x7 (by kernel_rfl) (xc6 (x3 ?_))))))
      refine x8 ?_
      refine R1 x4 rfl (R2 (xc4 (wr64 (by omega) (by omega))) rfl rfl (R1 x5 rfl (x7 (by kernel_rfl) ?_)))
      have he : b * 2 ^ n + b * 2 ^ n = b * 2 ^ (n + 1) := by rw [Nat.pow_succ, ← Nat.mul_assoc, Nat.mul_two]
      have hp : 0 < b * 2 ^ n := Nat.mul_pos hb (Nat.pow_pos (by decide))
      exact xc7 (n + 1) ⟨(.inr (by omega)), (by show a + 1 - b * 2 ^ (n + 1) < a + 1 - b * 2 ^ n; omega)⟩ (Sub.le rfl (Le.of (by rw [he])) (Sub.int rfl (by first | omega | rfl | (dsimp only; omega)) (Sub.cons rfl (Sub.cons rfl Sub.nil)))) SubK.nil (SupG.val (SupG.val (SupG.val (SupG.val SupG.nil)))) SupH.nil (lkOk rfl)
    ·
      have hlt : a < b * 2 ^ n := by
        have h := h107
        simp at h; exact h
      have hnl : (dig 65536 (b * 2 ^ n)).length ≤ 4001 := by
        rcases hI with h | h
        · rw [h, Nat.pow_zero, Nat.mul_one]; omega
        · exact lenM h (len_dbl ha ha)
      refine xd1 (xc0 (xc0 (xd8 (x3 (x6 ?_)))))
      refine x8 ?_
      refine R1 x4 rfl (R1 x5 rfl (x7 (by kernel_rfl) (x3 (x6 (x6 ?_)))))
      refine x8 ?_
      refine R1 x5 rfl (x7 (by kernel_rfl) (x3 (xa9 ?_)))
      refine xd6 (fun (i : Nat) => i ≤ n) (fun (i : Nat) => upd (upd (upd (upd (upd (fun _ => none) 0 (some (.val (tM a)))) 1 (some (.val (tM b)))) 6 (some (.val (tI n)))) 8 (some (.val (tM (b * 2 ^ i))))) 9 (some (.val (tI i)))) (fun (i : Nat) => fun _ => none) (nm []) (fun (i : Nat) => n - i) (0) (Nat.zero_le _) (Sub.int rfl (by first | omega | rfl | (dsimp only; omega)) (Sub.le rfl (Le.of (by first | rw [Nat.pow_zero, Nat.mul_one] | (dsimp only; rw [Nat.pow_zero, Nat.mul_one]))) (Sub.int rfl (by first | omega | rfl | (dsimp only; omega)) (Sub.cons rfl (Sub.cons rfl Sub.nil))))) SubK.nil (SupG.val (SupG.val (SupG.val (SupG.val (SupG.val SupG.nil))))) SupH.nil (lkOk rfl) ?_
      intro i hJ
      refine x6 (x6 ?_)
      refine x8 ?_
      refine R1 x4 rfl (R1 x4 rfl (R2 xd5 rfl rfl (x7 (by kernel_rfl) (x3 ?_))))
      refine xc2 rfl (fun h111 => ?_) (fun h111 => ?_)
      ·
        have hil : (dig 65536 (b * 2 ^ i)).length ≤ 4001 := lenM (Nat.mul_le_mul_left _ (Nat.pow_le_pow_right (by decide) (by omega))) hnl
        refine xa4 (x3 (x6 (xa9 ?_)))
        refine x8 ?_
        refine R1 x4 rfl (R1 x4 rfl (R2 (xa0 (c_RPlus (b * 2 ^ i) (b * 2 ^ i) (by omega) (by omega)) fi134 rfl) rfl rfl (R1 x5 rfl (x7 (by kernel_rfl) (xc6 (x3 ?_))))))
        refine x8 ?_
        refine R1 x4 rfl (R2 (xc4 (wr64 (by omega) (by omega))) rfl rfl (R1 x5 rfl (x7 (by kernel_rfl) ?_)))
        have he : b * 2 ^ i + b * 2 ^ i = b * 2 ^ (i + 1) := by rw [Nat.pow_succ, ← Nat.mul_assoc, Nat.mul_two]
        exact xc7 (i + 1) ⟨(by omega), (by omega)⟩ (Sub.int rfl (by first | omega | rfl | (dsimp only; omega)) (Sub.le rfl (Le.of (by rw [he])) (Sub.int rfl (by first | omega | rfl | (dsimp only; omega)) (Sub.cons rfl (Sub.cons rfl Sub.nil))))) SubK.nil (SupG.val (SupG.val (SupG.val (SupG.val (SupG.val SupG.nil))))) SupH.nil (lkOk rfl)
      ·
        refine xd1 (xc0 (xc0 (xd8 (x3 (x6 ?_)))))
        refine x8 ?_
        refine R1 x5 rfl (x7 (by kernel_rfl) (x3 (x6 ?_)))
        refine x8 ?_
        refine RE (d_sliceOfO (k := 43) (ents := []) Tryz.underlying45 el166 zf166 rfl (by simp) rfl rfl rfl) trivial trivial ⟨rfl, trivial⟩ (R1 x4 rfl (RE (xf1 (k := 43) (k' := 45) (ts' := rW .u16 (dig 65536 a)) Tryz.underlying45 el166 zf166 rfl rfl (fun _ => inferInstance) rfl (by simp; omega) (by simp; omega) (by simp [rW]) (n' := (dig 65536 a).length) (by simp)) ⟨rfl, rfl, trivial⟩ ⟨rfl, trivial⟩ ⟨rfl, trivial⟩ (RE (d_assignS (f := fun n : Nat => tE (.int .u16 n)) (xs := dig 65536 a) (fun _ h => h) (rW_all rfl) rfl) ⟨rfl, trivial⟩ ⟨rfl, trivial⟩ trivial (x7 (by kernel_rfl) (x3 (x6 (x6 ?_)))))))
        refine x8 ?_
        refine R1 x5 rfl (x7 (by kernel_rfl) (x3 (xa9 ?_)))
        refine xd6 (fun (fm : (Nat) × (Nat) × (Nat) × (Nat)) => (fun (j : Nat) (q : Nat) (r : Nat) (d : Nat) => j ≤ n ∧ d = b * 2 ^ (n - j) ∧ a = q * d + r ∧ r < d) fm.1 fm.2.1 fm.2.2.1 fm.2.2.2) (fun (fm : (Nat) × (Nat) × (Nat) × (Nat)) => (fun (j : Nat) (q : Nat) (r : Nat) (d : Nat) => upd (upd (upd (upd (upd (fun _ => none) 6 (some (.val (tI n)))) 8 (some (.val (tM d)))) 10 (some (.val (tM q)))) 11 (some (.val (tM r)))) 12 (some (.val (tI j)))) fm.1 fm.2.1 fm.2.2.1 fm.2.2.2) (fun (fm : (Nat) × (Nat) × (Nat) × (Nat)) => (fun (j : Nat) (q : Nat) (r : Nat) (d : Nat) => fun _ => none) fm.1 fm.2.1 fm.2.2.1 fm.2.2.2) (nm []) (fun (fm : (Nat) × (Nat) × (Nat) × (Nat)) => (fun (j : Nat) (q : Nat) (r : Nat) (d : Nat) => n - j) fm.1 fm.2.1 fm.2.2.1 fm.2.2.2) ((0, 0, a, b * 2 ^ n)) (by dsimp only; exact ⟨Nat.zero_le _, rfl, by omega, by omega⟩) (Sub.int rfl (by first | omega | rfl | (dsimp only; omega)) (Sub.cons rfl (Sub.le rfl (leNil (xf0 _)) (Sub.le rfl (Le.of (by first | rw [show i = n by omega] | (dsimp only; rw [show i = n by omega]))) (Sub.int rfl (by first | omega | rfl | (dsimp only; omega)) Sub.nil))))) SubK.nil (SupG.val (SupG.val (SupG.val (SupG.val (SupG.val SupG.nil))))) SupH.nil (lkOk rfl) ?_
        intro fm hK
        obtain ⟨j, q, r, d⟩ := fm
        replace hK : j ≤ n ∧ d = b * 2 ^ (n - j) ∧ a = q * d + r ∧ r < d := hK
        show wc _ _ _ _ (upd (upd (upd (upd (upd (fun _ => none) 6 (some (.val (tI n)))) 8 (some (.val (tM d)))) 10 (some (.val (tM q)))) 11 (some (.val (tM r)))) 12 (some (.val (tI j)))) (fun _ => none) _
        obtain ⟨hj, hd, hq, hr⟩ := hK
        have hqa : q ≤ a := by
          have h1 : q * 1 ≤ q * d := Nat.mul_le_mul_left _ (by omega)
          omega
        have hql := lenM hqa ha
        have hdn : b * 2 ^ (n - j) ≤ b * 2 ^ n := Nat.mul_le_mul_left _ (Nat.pow_le_pow_right (by decide) (by omega))
        have hdl : (dig 65536 d).length ≤ 4001 := by rw [← hd] at hdn; exact lenM hdn hnl
        have hqq := len_dbl hql hql
        refine x6 (x6 ?_)
        refine x8 ?_
        refine R1 x4 rfl (R1 x4 rfl (R2 xd5 rfl rfl (x7 (by kernel_rfl) (x3 ?_))))
        refine xc2 rfl (fun h116 => ?_) (fun h116 => ?_)
        ·
          refine xa4 (x3 (x6 (xa9 (x6 ?_))))
          refine x8 ?_
          refine R1 x4 rfl (R1 (xa0 (c_RHalf d (by omega)) fi173 rfl) rfl (R1 x5 rfl (x7 (by kernel_rfl) (x3 (x6 ?_)))))
          refine x8 ?_
          refine R1 x4 rfl (R1 x4 rfl (R2 (xa0 (c_RPlus q q (by omega) (by omega)) fi134 rfl) rfl rfl (R1 x5 rfl (x7 (by kernel_rfl) (x3 (x6 ?_))))))
          refine x8 ?_
          refine R1 x4 rfl (R1 x4 rfl (R2 (xa0 (c_RLess r (d / 2)) fi172 rfl) rfl rfl (R1 xe7 rfl (x7 (by kernel_rfl) (x3 ?_)))))
          refine xg6 rfl (fun h119 => ?_) (fun h119 => ?_)
          ·
            have hge : d / 2 ≤ r := by
              have h := h119
              simp at h; exact h
            refine x6 ?_
            refine x8 ?_
            refine R1 x4 rfl (R1 x4 rfl (R2 (xa0 (c_RMinus r (d / 2) (by omega) (by have := lenM (Nat.le_of_lt hr) hdl; omega)) fi135 rfl) rfl rfl (R1 x5 rfl (x7 (by kernel_rfl) (x3 ?_)))))
            refine x8 ?_
            refine R1 x4 rfl (R1 (d_nums (n := 1) [1] Tryz.underlying45 el166 zf166 rfl rfl rfl) rfl (R2 (xa0 (c_RPlusOne (q + q) (by omega)) fi134 rfl) rfl rfl (R1 x5 rfl (x7 (by kernel_rfl) (xc6 (x3 ?_))))))
            refine x8 ?_
            refine R1 x4 rfl (R2 (xc4 (wr64 (by omega) (by omega))) rfl rfl (R1 x5 rfl (x7 (by kernel_rfl) ?_)))
            obtain ⟨b1, b2, b3⟩ := div_bit (by omega) hd hq hr
            obtain ⟨b4, b5, b6⟩ := b3 (by omega)
            exact xc7 ((j + 1, q + q + 1, r - d / 2, d / 2)) ⟨(by dsimp only; exact ⟨by omega, b1, b4, b5⟩), (by dsimp only; omega)⟩ (Sub.int rfl (by first | omega | rfl | (dsimp only; omega)) (Sub.cons rfl (Sub.cons rfl (Sub.cons rfl (Sub.int rfl (by first | omega | rfl | (dsimp only; omega)) Sub.nil))))) SubK.nil (SupG.val (SupG.val (SupG.val (SupG.val (SupG.val SupG.nil))))) SupH.nil (lkOk rfl)
          ·
            have hge : r < d / 2 := by
              have h := h119
              simp at h; exact h
            refine xa4 (xc6 (x3 ?_))
            refine x8 ?_
            refine R1 x4 rfl (R2 (xc4 (wr64 (by omega) (by omega))) rfl rfl (R1 x5 rfl (x7 (by kernel_rfl) ?_)))
            obtain ⟨b1, b2, b3⟩ := div_bit (by omega) hd hq hr
            exact xc7 ((j + 1, q + q, r, d / 2)) ⟨(by dsimp only; exact ⟨by omega, b1, b2 (by omega), by omega⟩), (by dsimp only; omega)⟩ (Sub.int rfl (by first | omega | rfl | (dsimp only; omega)) (Sub.cons rfl (Sub.cons rfl (Sub.cons rfl (Sub.int rfl (by first | omega | rfl | (dsimp only; omega)) Sub.nil))))) SubK.nil (SupG.val (SupG.val (SupG.val (SupG.val (SupG.val SupG.nil))))) SupH.nil (lkOk rfl)
        ·
          have hdb : d = b := by rw [hd, show n - j = 0 by omega, Nat.pow_zero, Nat.mul_one]
          rw [hdb] at hq hr
          obtain ⟨e1, e2⟩ := div_done hq hr
          refine xd1 (xc0 (xc0 (xd8 (x3 (x6 ?_)))))
          refine x8 ?_
          refine R1 x4 rfl (R1 x4 rfl (R1 x5 rfl (R1 x5 rfl (x7 (by kernel_rfl) (x3 (xa2 ?_))))))
          exact xf2 Plain.mk' rfl rfl rfl (Le.of (by rw [e1])) (Le.of (by rw [e2]))
theorem c_RCommon (a b : Nat) (ha : (dig 65536 a).length ≤ 4000) (hb : (dig 65536 b).length ≤ 4000) :
  Ct Tryz.prog 124 [tM a, tM b] (tM (Nat.gcd a b)) := by
 refine Ct.intro Tryz.func124 rfl Tryz.ntmps124 rfl ?_
 intro w F
 refine x6 ?_
 refine x8 ?_
 refine R1 x5 rfl (x7 (by kernel_rfl) (x3 (x6 (xa9 ?_))))
 refine xd6 (fun (fm : (Nat) × (Nat)) => (fun (x : Nat) (y : Nat) => Nat.gcd x y = Nat.gcd a b ∧ (dig 65536 x).length ≤ 4000 ∧ (dig 65536 y).length ≤ 4000) fm.1 fm.2) (fun (fm : (Nat) × (Nat)) => (fun (x : Nat) (y : Nat) => upd (upd (fun _ => none) 0 (some (.val (tM x)))) 1 (some (.val (tM y)))) fm.1 fm.2) (fun (fm : (Nat) × (Nat)) => (fun (x : Nat) (y : Nat) => fun _ => none) fm.1 fm.2) (nm []) (fun (fm : (Nat) × (Nat)) => (fun (x : Nat) (y : Nat) => y) fm.1 fm.2) ((a, b)) (by dsimp only; exact ⟨rfl, ha, hb⟩) (Sub.cons rfl (Sub.cons rfl Sub.nil)) SubK.nil (SupG.val (SupG.val SupG.nil)) SupH.nil (lkOk rfl) ?_
 intro fm hI
 obtain ⟨x, y⟩ := fm
 replace hI : Nat.gcd x y = Nat.gcd a b ∧ (dig 65536 x).length ≤ 4000 ∧ (dig 65536 y).length ≤ 4000 := hI
 show wc _ _ _ _ (upd (upd (fun _ => none) 0 (some (.val (tM x)))) 1 (some (.val (tM y)))) (fun _ => none) _
 obtain ⟨hg, hx, hy⟩ := hI
 refine x6 (x6 ?_)
 refine x8 ?_
 refine R1 x4 rfl (R1 (xb9 Tryz.underlying45) rfl (R2 d_gtr rfl rfl (x7 (by kernel_rfl) (x3 ?_))))
 refine xc2 rfl (fun h261 => ?_) (fun h261 => ?_)
 ·
  have hy0 : 0 < y := by have := len_ne.1 h261; omega
  refine xa4 (x3 (xa9 (x6 ?_)))
  refine x8 ?_
  refine R1 x4 rfl (R1 x4 rfl (R2 (xa0 (c_RDivided x y hy0 hx hy) fi127 rfl) rfl rfl (R1 x4 rfl (R1 (xb7 rfl) rfl (R1 (xb7 rfl) rfl (R1 x5 rfl (R1 x5 rfl ?_)))))))
  refine x7 (by kernel_rfl) (x3 (x6 ?_))
  refine x8 ?_
  refine R1 x4 rfl (R1 x5 rfl (x7 (by kernel_rfl) (x3 ?_)))
  refine x8 ?_
  refine R1 x4 rfl (R1 x5 rfl (x7 (by kernel_rfl) (xc6 ?_)))
  have hlt : x % y < y := Nat.mod_lt _ hy0
  exact xc7 ((y, x % y)) ⟨(by dsimp only; exact ⟨by rw [Nat.gcd_comm, ← Nat.gcd_rec, Nat.gcd_comm]; exact hg, hy, lenM (Nat.le_of_lt hlt) hy⟩), (by dsimp only; omega)⟩ (Sub.cons rfl (Sub.cons rfl Sub.nil)) SubK.nil (SupG.val (SupG.val SupG.nil)) SupH.nil (lkOk rfl)
 ·
  have hy0 : y = 0 := Classical.byContradiction fun h => h261 (len_ne.2 h)
  refine xd1 (xc0 (xc0 (xd8 (x3 (x6 ?_)))))
  refine x8 ?_
  refine R1 x4 rfl (R1 x5 rfl (x7 (by kernel_rfl) (x3 (xa2 ?_))))
  exact xa3 Plain.mk' rfl rfl (Le.of (by rw [← hg, hy0, Nat.gcd_zero_right]))
theorem c_Rone (l : List Nat) :
  Ct Tryz.prog 125 [tLm l] (tB (decide (l = [1]))) := by
 refine Ct.intro Tryz.func125 rfl Tryz.ntmps125 rfl ?_
 intro w F
 refine x6 ?_
 refine x8 ?_
 refine R1 x5 rfl (x7 (by kernel_rfl) (x3 (x6 ?_)))
 refine x8 ?_
 refine R1 x4 rfl (R1 (xb9 Tryz.underlying45) rfl (R2 xe5 rfl rfl (R1 x4 rfl ?_)))
 refine RGcaseD (t := 6) rfl (fun h24 => ?_) (fun h24 => ?_)
 ·
  refine RGon (decide_eq_true h24) rfl x4 rfl ⟨rfl, trivial⟩ trivial trivial (RGon (decide_eq_true h24) rfl (xb8 sl45 (0) (by omega) (gN (by omega))) rfl ⟨rfl, rfl, trivial⟩ trivial trivial (RGon (decide_eq_true h24) rfl (xc1 ti166) rfl ⟨rfl, trivial⟩ trivial trivial (RGon (decide_eq_true h24) rfl xe5 rfl ⟨rfl, rfl, trivial⟩ trivial trivial (R2 (xa8 (decide_eq_true h24)) rfl rfl (R1 x5 rfl (x7 (by kernel_rfl) (x3 ?_)))))))
  refine xa2 ?_
  exact xa3 Plain.mk' rfl rfl (Le.bool (one_dec (by omega)))
 ·
  refine RGoff (decide_eq_false h24) rfl rfl (RGoff (decide_eq_false h24) rfl rfl (RGoff (decide_eq_false h24) rfl rfl (RGoff (decide_eq_false h24) rfl rfl (R2 (xa7 (decide_eq_false h24)) rfl rfl (R1 x5 rfl (x7 (by kernel_rfl) (x3 ?_)))))))
  refine xa2 ?_
  exact xa3 Plain.mk' rfl rfl (Le.bool (decide_eq_false (fun h => h24 (by rw [h]; rfl))).symm)
end An.S

/- The reference of layer 2; small functions of the laws. -/
namespace An.S
open Go Go.Proofs An
set_option maxHeartbeats 2000000
theorem fi124 : FnI Tryz.prog 124 := ⟨_, Tryz.func124, by kernel_rfl, rfl⟩
theorem fi125 : FnI Tryz.prog 125 := ⟨_, Tryz.func125, by kernel_rfl, rfl⟩
/-- A list that is too large. -/
def largeL (l : List Deal) (m k : Int) : Bool := (List.range l.length).any fun i => decide (m ≤ (i : Int)) || decide (k < ((l.getD i deal0).share.n.l.length : Int)) || decide (k < ((l.getD i deal0).share.d.l.length : Int))
theorem any_next {i : Nat} {f : Nat → Bool} : (List.range (i + 1)).any f = ((List.range i).any f || f i) := by
  rw [List.range_succ, List.any_append]; simp
end An.S

/- Multiplying limb by limb: plain numbers. -/
namespace An
open Go
end An

/- The references of layers 1 and 2: products, sums, quotients, numbers of 64 bits, fractions. -/
namespace An.S
open Go Go.Proofs An
set_option maxHeartbeats 2000000
set_option maxRecDepth 100000
theorem fi80 : FnI Tryz.prog 80 := ⟨_, Tryz.func80, by kernel_rfl, rfl⟩
theorem fi129 : FnI Tryz.prog 129 := ⟨_, Tryz.func129, by kernel_rfl, rfl⟩
theorem fi130 : FnI Tryz.prog 130 := ⟨_, Tryz.func130, by kernel_rfl, rfl⟩
theorem c_RValid (x : Wh) :
  Ct Tryz.prog 129 [tWh x] (tB x.valid) := by
 refine Ct.intro Tryz.func129 rfl Tryz.ntmps129 rfl ?_
 intro w F
 refine x6 ?_
 refine x8 ?_
 refine RE (xd2 (k := 1) ti47 rfl) ⟨rfl, trivial⟩ trivial ⟨rfl, trivial⟩ (R1 x5 rfl (x7 (by kernel_rfl) (x3 (x6 (x6 ?_)))))
 refine x8 ?_
 refine R1 (x9 fo47_1 rfl) rfl (xa5 (0) ti45 rfl rfl rfl (At.g 1 rfl rfl) rfl (R1 (xb9 Tryz.underlying45) rfl (R2 xe5 rfl rfl (x7 (by kernel_rfl) (x3 ?_)))))
 refine xc2 rfl (fun h142 => ?_) (fun h142 => ?_)
 ·
  refine x6 ?_
  refine x8 ?_
  refine R1 (x9 fo47_0 rfl) rfl (xa5 (0) ti4 rfl rfl rfl (At.g 0 rfl rfl) rfl (R1 xe7 rfl (R1 x5 rfl (x7 (by kernel_rfl) (x3 (xa2 (xa6 ?_)))))))
  exact xa3 Plain.mk' rfl rfl (Le.bool (by simp only [Wh.valid]; rw [if_pos (by omega)]))
 ·
  refine xa4 (x3 (x6 ?_))
  refine C_len (s := 4) rfl (fun hl4 => ?_)
  refine x8 ?_
  refine R1 (x9 fo47_1 rfl) rfl (xa5 (0) ti45 rfl rfl rfl (At.g 1 rfl rfl) rfl (R1 (xb9 Tryz.underlying45) rfl (R2 xg2 rfl rfl (R1 x4 rfl ?_))))
  refine RGcaseD (t := 14) rfl (fun h145 => ?_) (fun h145 => ?_)
  ·
   refine RGon (decide_eq_true h145) rfl (x9 fo47_1 rfl) rfl ⟨rfl, trivial⟩ trivial trivial (xb2 (decide_eq_true h145) rfl rfl (0) ti45 rfl rfl rfl (At.g 1 rfl rfl) rfl (RGon (decide_eq_true h145) rfl (x9 fo47_1 rfl) rfl ⟨rfl, trivial⟩ trivial trivial (xb2 (decide_eq_true h145) rfl rfl (0) ti45 rfl rfl rfl (At.g 1 rfl rfl) rfl (RGon (decide_eq_true h145) rfl (xb9 Tryz.underlying45) rfl ⟨rfl, trivial⟩ trivial trivial (RGon (decide_eq_true h145) rfl (xe4 (wr64 (by omega) (by omega))) rfl ⟨rfl, rfl, trivial⟩ trivial trivial (RGon (decide_eq_true h145) rfl (xb8 sl45 (x.l.length - 1) (by omega) (gN (by omega))) rfl ⟨rfl, rfl, trivial⟩ trivial trivial (RGon (decide_eq_true h145) rfl (xc1 ti166) rfl ⟨rfl, trivial⟩ trivial trivial ?_)))))))
   refine RGon (decide_eq_true h145) rfl d_neq rfl ⟨rfl, rfl, trivial⟩ trivial trivial (R2 (xa8 (decide_eq_true h145)) rfl rfl (R1 x5 rfl (x7 (by kernel_rfl) (x3 (xa2 ?_)))))
   exact xa3 Plain.mk' rfl rfl (Le.bool (by simp only [Wh.valid]; rw [if_neg (by omega), decide_eq_true (show x.l.length ≤ 1024 by omega), Bool.true_and]; exact decide_eq_decide.2 (by omega)))
  ·
   refine RGoff (decide_eq_false h145) rfl rfl (RGoff (decide_eq_false h145) rfl rfl (RGoff (decide_eq_false h145) rfl rfl (RGoff (decide_eq_false h145) rfl rfl (RGoff (decide_eq_false h145) rfl rfl (RGoff (decide_eq_false h145) rfl rfl (RGoff (decide_eq_false h145) rfl rfl (RGoff (decide_eq_false h145) rfl rfl ?_)))))))
   refine RGoff (decide_eq_false h145) rfl rfl (R2 (xa7 (decide_eq_false h145)) rfl rfl (R1 x5 rfl (x7 (by kernel_rfl) (x3 (xa2 ?_)))))
   exact xa3 Plain.mk' rfl rfl (Le.bool (by simp only [Wh.valid]; rw [if_neg (by omega), decide_eq_false (show ¬ x.l.length ≤ 1024 by omega), Bool.false_and]))
theorem len_nil {x : Int} : (wh x).l.length = 0 ↔ x = 0 := by
  show (dig 65536 x.natAbs).length = 0 ↔ _
  rw [List.length_eq_zero_iff, xi2 xb6]; omega
theorem c_RFits (f : Fr) :
  Ct Tryz.prog 130 [tFr f] (tB f.sh) := by
 refine Ct.intro Tryz.func130 rfl Tryz.ntmps130 rfl ?_
 intro w F
 refine x6 ?_
 refine x8 ?_
 refine RE (xd2 (k := 1) ti49 rfl) ⟨rfl, trivial⟩ trivial ⟨rfl, trivial⟩ (R1 x5 rfl (x7 (by kernel_rfl) (x3 (x6 ?_))))
 refine x8 ?_
 refine R1 (x9 fo49_0 rfl) rfl (R1 (x9 fo47_1 rfl) rfl (xa5 (0) ti45 rfl rfl rfl (At.t (At.g 0 rfl rfl) (At.g 1 rfl rfl)) rfl (R1 (xb9 Tryz.underlying45) rfl (R2 xg2 rfl rfl (R1 x4 rfl ?_)))))
 refine RGcaseD (t := 8) rfl (fun h27 => ?_) (fun h27 => ?_)
 ·
  refine RGon (decide_eq_true h27) rfl (x9 fo49_1 rfl) rfl ⟨rfl, trivial⟩ trivial trivial (RGon (decide_eq_true h27) rfl (x9 fo47_1 rfl) rfl ⟨rfl, trivial⟩ trivial trivial (xb2 (decide_eq_true h27) rfl rfl (0) ti45 rfl rfl rfl (At.t (At.g 1 rfl rfl) (At.g 1 rfl rfl)) rfl (RGon (decide_eq_true h27) rfl (xb9 Tryz.underlying45) rfl ⟨rfl, trivial⟩ trivial trivial (RGon (decide_eq_true h27) rfl xg2 rfl ⟨rfl, rfl, trivial⟩ trivial trivial (R2 (xa8 (decide_eq_true h27)) rfl rfl (R1 x5 rfl (x7 (by kernel_rfl) ?_)))))))
  refine x3 (xa2 ?_)
  exact xa3 Plain.mk' rfl rfl (Le.bool (by rw [Fr.sh, decide_eq_true (show f.n.l.length ≤ 256 by omega), Bool.true_and]; exact decide_eq_decide.2 (by omega)))
 ·
  refine RGoff (decide_eq_false h27) rfl rfl (RGoff (decide_eq_false h27) rfl rfl (RGoff (decide_eq_false h27) rfl rfl (RGoff (decide_eq_false h27) rfl rfl (RGoff (decide_eq_false h27) rfl rfl (R2 (xa7 (decide_eq_false h27)) rfl rfl (R1 x5 rfl (x7 (by kernel_rfl) ?_)))))))
  refine x3 (xa2 ?_)
  exact xa3 Plain.mk' rfl rfl (Le.bool (by rw [Fr.sh, decide_eq_false (show ¬ f.n.l.length ≤ 256 by omega)]; rfl))
theorem one_dec2 {x y : Int} : decide (dig 65536 (Nat.gcd x.natAbs y.natAbs) = [1]) = decide (Int.gcd x y = 1) := by
  have h1 : dig 65536 1 = [1] := by rw [dig_pos xb6 (by decide), show (1 : Nat) / 65536 = 0 by decide, xf0]
  refine decide_eq_decide.2 ⟨fun h => ?_, fun h => ?_⟩
  · rw [← h1] at h
    have h2 := congrArg (val 65536) h
    rw [val_dig xb6, val_dig xb6] at h2
    exact h2
  · have h : Nat.gcd x.natAbs y.natAbs = 1 := h
    rw [h, h1]
theorem c_R2Valid (f : Fr) (hn : Dig 65536 f.n.l) (hd : Dig 65536 f.d.l) :
  Ct Tryz.prog 80 [tFr f] (tB f.valid) := by
 obtain ⟨n, d⟩ := f
 replace hn : Dig 65536 n.l := hn
 replace hd : Dig 65536 d.l := hd
 refine Ct.intro Tryz.func80 rfl Tryz.ntmps80 rfl ?_
 intro w F
 refine x6 ?_
 refine x8 ?_
 refine RE (xd2 (k := 1) ti49 rfl) ⟨rfl, trivial⟩ trivial ⟨rfl, trivial⟩ (R1 x5 rfl (x7 (by kernel_rfl) (x3 (x6 (x6 ?_)))))
 refine x8 ?_
 refine R1 (x9 fo49_0 rfl) rfl (xa5 (0) ti47 rfl rfl rfl (At.g 0 rfl rfl) rfl (R1 (xa0 (c_RValid n) fi129 rfl) rfl (R1 xe7 rfl (R1 x4 rfl ?_))))
 refine RGcase (t := 7) rfl (fun h39 => ?_) (fun h39 => ?_)
 ·
  have hv1 : n.valid = false := by simpa using h39
  refine RGoff h39 rfl rfl (RGoff h39 rfl rfl (RGoff h39 rfl rfl (RGoff h39 rfl rfl (R2 (xa8 h39) rfl rfl (R1 x4 rfl (RGoff1 rfl rfl (RGoff1 rfl rfl ?_)))))))
  refine RGoff1 rfl rfl (R2 (xa8 rfl) rfl rfl (R1 x4 rfl (RGoff1 rfl rfl (RGoff1 rfl rfl (RGoff1 rfl rfl (R2 (xa8 rfl) rfl rfl (R1 x4 rfl ?_)))))))
  refine RGoff1 rfl rfl (RGoff1 rfl rfl (RGoff1 rfl rfl (RGoff1 rfl rfl (RGoff1 rfl rfl (R2 (xa8 rfl) rfl rfl (x7 (by kernel_rfl) (x3 ?_)))))))
  refine C_bT rfl rfl (x6 ?_)
  refine x8 ?_
  refine R1 x5 rfl (x7 (by kernel_rfl) (x3 (xa2 (xa6 ?_))))
  exact xa3 Plain.mk' rfl rfl (Le.bool (by simp only [Fr.valid, hv1, Bool.and_false, Bool.false_and]))
 ·
  have hv1 : n.valid = true := by simpa using h39
  refine RGon h39 rfl (x9 fo49_1 rfl) rfl ⟨rfl, trivial⟩ trivial trivial (xb2 h39 rfl rfl (0) ti47 rfl rfl rfl (At.g 1 rfl rfl) rfl (RGon h39 rfl (xa0 (c_RValid d) fi129 rfl) rfl ⟨rfl, trivial⟩ trivial trivial (RGon h39 rfl xe7 rfl ⟨rfl, trivial⟩ trivial trivial (R2 (xa7 h39) rfl rfl (R1 x4 rfl ?_)))))
  refine RGcase (t := 13) rfl (fun h39_2 => ?_) (fun h39_2 => ?_)
  ·
   have hv2 : d.valid = false := by simpa using h39_2
   refine RGoff h39_2 rfl rfl (RGoff h39_2 rfl rfl (RGoff h39_2 rfl rfl (R2 (xa8 h39_2) rfl rfl (R1 x4 rfl (RGoff1 rfl rfl (RGoff1 rfl rfl (RGoff1 rfl rfl ?_)))))))
   refine R2 (xa8 rfl) rfl rfl (R1 x4 rfl (RGoff1 rfl rfl (RGoff1 rfl rfl (RGoff1 rfl rfl (RGoff1 rfl rfl (RGoff1 rfl rfl (R2 (xa8 rfl) rfl rfl ?_)))))))
   refine x7 (by kernel_rfl) (x3 (C_bT rfl rfl (x6 ?_)))
   refine x8 ?_
   refine R1 x5 rfl (x7 (by kernel_rfl) (x3 (xa2 (xa6 ?_))))
   exact xa3 Plain.mk' rfl rfl (Le.bool (by simp only [Fr.valid, hv2, Bool.and_false, Bool.false_and]))
  ·
   have hv2 : d.valid = true := by simpa using h39_2
   obtain ⟨x, rfl, hxl⟩ := Wh.of_valid hn hv1
   obtain ⟨y, rfl, hyl⟩ := Wh.of_valid hd hv2
   have ix := int_wh x
   have iy := int_wh y
   refine RGon h39_2 rfl (xb3 (0) ti49 rfl rfl) rfl ⟨rfl, trivial⟩ ⟨rfl, trivial⟩ trivial (RGon h39_2 rfl (xa0 (c_RFits _) fi130 rfl) rfl ⟨rfl, trivial⟩ trivial trivial (RGon h39_2 rfl xe7 rfl ⟨rfl, trivial⟩ trivial trivial (R2 (xa7 h39_2) rfl rfl (R1 x4 rfl ?_))))
   refine RGcase (t := 18) rfl (fun h39_3 => ?_) (fun h39_3 => ?_)
   ·
    have hs : (⟨wh x, wh y⟩ : Fr).sh = false := by simpa using h39_3
    refine RGoff h39_3 rfl rfl (RGoff h39_3 rfl rfl (RGoff h39_3 rfl rfl (R2 (xa8 h39_3) rfl rfl (R1 x4 rfl (RGoff1 rfl rfl (RGoff1 rfl rfl (RGoff1 rfl rfl ?_)))))))
    refine RGoff1 rfl rfl (RGoff1 rfl rfl (R2 (xa8 rfl) rfl rfl (x7 (by kernel_rfl) (x3 (C_bT rfl rfl (x6 ?_))))))
    refine x8 ?_
    refine R1 x5 rfl (x7 (by kernel_rfl) (x3 (xa2 (xa6 ?_))))
    exact xa3 Plain.mk' rfl rfl (Le.bool (by simp only [Fr.valid, hs, Bool.false_and]))
   ·
    have hs : (⟨wh x, wh y⟩ : Fr).sh = true := by simpa using h39_3
    refine RGon h39_3 rfl (x9 fo49_1 rfl) rfl ⟨rfl, trivial⟩ trivial trivial (RGon h39_3 rfl (x9 fo47_0 rfl) rfl ⟨rfl, trivial⟩ trivial trivial (xb2 h39_3 rfl rfl (0) ti4 rfl rfl rfl (At.t (At.g 1 rfl rfl) (At.g 0 rfl rfl)) rfl (R2 (xa7 h39_3) rfl rfl (R1 x4 rfl ?_))))
    refine RGcase (t := 23) rfl (fun h39_4 => ?_) (fun h39_4 => ?_)
    ·
     have hy0 : ¬ 0 < y := by have : y < 0 := of_decide_eq_true h39_4; omega
     refine RGoff h39_4 rfl rfl (RGoff h39_4 rfl rfl (RGoff h39_4 rfl rfl (RGoff h39_4 rfl rfl (RGoff h39_4 rfl rfl (R2 (xa8 h39_4) rfl rfl (x7 (by kernel_rfl) (x3 ?_)))))))
     refine C_bT rfl rfl (x6 ?_)
     refine x8 ?_
     refine R1 x5 rfl (x7 (by kernel_rfl) (x3 (xa2 (xa6 ?_))))
     exact xa3 Plain.mk' rfl rfl (Le.bool (by simp only [Fr.valid, ix, iy, decide_eq_false hy0, Bool.and_false, Bool.false_and]))
    ·
     refine RGon h39_4 rfl (x9 fo49_1 rfl) rfl ⟨rfl, trivial⟩ trivial trivial (RGon h39_4 rfl (x9 fo47_1 rfl) rfl ⟨rfl, trivial⟩ trivial trivial (xb2 h39_4 rfl rfl (0) ti45 rfl rfl rfl (At.t (At.g 1 rfl rfl) (At.g 1 rfl rfl)) rfl (RGon h39_4 rfl (xb9 Tryz.underlying45) rfl ⟨rfl, trivial⟩ trivial trivial (RGon h39_4 rfl xe5 rfl ⟨rfl, rfl, trivial⟩ trivial trivial (R2 (xa7 h39_4) rfl rfl (x7 (by kernel_rfl) (x3 ?_)))))))
     refine xc2 rfl (fun h39_5 => ?_) (fun h39_5 => ?_)
     ·
      have h5 : (((wh y).l.length : Nat) : Int) = 0 := h39_5
      have hy0 : ¬ 0 < y := fun h => by have := len_nil.1 (show (wh y).l.length = 0 by omega); omega
      refine x6 ?_
      refine x8 ?_
      refine R1 x5 rfl (x7 (by kernel_rfl) (x3 (xa2 (xa6 ?_))))
      exact xa3 Plain.mk' rfl rfl (Le.bool (by simp only [Fr.valid, ix, iy, decide_eq_false hy0, Bool.and_false, Bool.false_and]))
     ·
      have h5 : ¬ (((wh y).l.length : Nat) : Int) = 0 := h39_5
      have hy0 : 0 < y := pos_of_wh h39_4 (by omega)
      refine xa4 (x3 (x6 ?_))
      refine x8 ?_
      refine R1 (x9 fo49_0 rfl) rfl (R1 (x9 fo47_1 rfl) rfl (xa5 (0) ti45 rfl rfl rfl (At.t (At.g 0 rfl rfl) (At.g 1 rfl rfl)) rfl (R1 (x9 fo49_1 rfl) rfl (R1 (x9 fo47_1 rfl) rfl (xa5 (0) ti45 rfl rfl rfl (At.t (At.g 1 rfl rfl) (At.g 1 rfl rfl)) rfl (R2 (xa0 (c_RCommon x.natAbs y.natAbs (by show len16 x ≤ 4000; omega) (by show len16 y ≤ 4000; omega)) fi124 rfl) rfl rfl (R1 (xa0 (c_Rone _) fi125 rfl) rfl ?_)))))))
      refine R1 x5 rfl (x7 (by kernel_rfl) (x3 (xa2 ?_)))
      exact xa3 Plain.mk' rfl rfl (Le.bool (by simp only [Fr.valid, ix, iy, hs, hv1, hv2, decide_eq_true hy0, Bool.true_and]; exact one_dec2))
end An.S

/- What is lent to a call, and whether it is kept; the reference of layer 5 for values. -/
namespace An.S
open Go Go.Proofs An
set_option maxHeartbeats 2000000
set_option maxRecDepth 100000
theorem fi113 : FnI Tryz.prog 113 := ⟨_, Tryz.func113, by kernel_rfl, rfl⟩
theorem fi116 : FnI Tryz.prog 116 := ⟨_, Tryz.func116, by kernel_rfl, rfl⟩
theorem fi162 : FnI Tryz.prog 162 := ⟨_, Tryz.func162, by kernel_rfl, rfl⟩
theorem fi164 : FnI Tryz.prog 164 := ⟨_, Tryz.func164, by kernel_rfl, rfl⟩
theorem fi199 : FnI Tryz.prog 199 := ⟨_, Tryz.func199, by kernel_rfl, rfl⟩
theorem fi201 : FnI Tryz.prog 201 := ⟨_, Tryz.func201, by kernel_rfl, rfl⟩
theorem fi239 : FnI Tryz.prog 239 := ⟨_, Tryz.func239, by kernel_rfl, rfl⟩
/-- The marks behind lent limbs. -/
def mk16 : List Nat := (List.range 12).map fun i => (8000024 + i) % 65536
theorem mk16_len : mk16.length = 12 := rfl
theorem mk16_at {j : Nat} (h : j < 12) : mk16.getD j 0 = (8000024 + j) % 65536 := by
  have : ∀ j, j < 12 → mk16.getD j 0 = (8000024 + j) % 65536 := by decide
  exact this j h
theorem mk16_take {i : Nat} (h : i < 12) : mk16.take (i + 1) = mk16.take i ++ [(8000024 + i) % 65536] := by
  rw [List.take_succ_eq_append_getElem (by rw [mk16_len]; exact h)]
  congr 2
  have := mk16_at h
  rw [List.getD_eq_getElem?_getD, List.getElem?_eq_getElem (by rw [mk16_len]; exact h)] at this
  exact this
theorem cutM {i : Nat} : IntKind.u16.wrap (1000003 * (1 + 7) + (i : Int)) = (((8000024 + i) % 65536 : Nat) : Int) := by rw [mu16]; omega
abbrev tLmK (l : List Nat) : Ty := tLK 1 false (fun n : Nat => tE (.int .u16 (n : Int))) l mk16
abbrev tWhK (x : Wh) : Ty := tS [⟨1, false, tB x.neg⟩, ⟨1, false, tLmK x.l⟩]
abbrev tFrK (f : Fr) : Ty := tS [⟨2, true, tWhK f.n⟩, ⟨2, true, tWhK f.d⟩]
abbrev tVaK (v : Va) : Ty := tS [⟨1, false, tE (.int .u8 (v.kind : Int))⟩, ⟨4, true, tFrK v.f⟩, ⟨1, false, tI v.i⟩]
theorem whK_le {x : Wh} : Le (tWhK x) (tWh x) := Le.tS ⟨⟨rfl, rfl, Le.refl⟩, ⟨rfl, rfl, tLK_le⟩, trivial⟩
theorem frK_le {f : Fr} : Le (tFrK f) (tFr f) := Le.tS ⟨⟨rfl, rfl, whK_le⟩, ⟨rfl, rfl, whK_le⟩, trivial⟩
theorem vaK_le {v : Va} : Le (tVaK v) (tVa v) := Le.tS ⟨⟨rfl, rfl, Le.refl⟩, ⟨rfl, rfl, frK_le⟩, ⟨rfl, rfl, Le.refl⟩, trivial⟩
theorem app_l {l m : List Nat} {i : Nat} (h : i < l.length) : (l ++ m).getD i 0 = l.getD i 0 := by
  rw [List.getD_eq_getElem?_getD, List.getElem?_append_left h, ← List.getD_eq_getElem?_getD]
theorem app_r {l m : List Nat} {i : Nat} (h : l.length ≤ i) : (l ++ m).getD i 0 = m.getD (i - l.length) 0 := by
  rw [List.getD_eq_getElem?_getD, List.getElem?_append_right h, ← List.getD_eq_getElem?_getD]
theorem c_mark1 (i : Nat) (h : i < 12) :
  Ct Tryz.prog 239 [tI 1, tI i] (tI (1000003 * (1 + 7) + (i : Int))) := by
 refine Ct.intro Tryz.func239 rfl Tryz.ntmps239 rfl ?_
 intro w F
 refine x6 ?_
 refine x8 ?_
 refine R1 x5 rfl (x7 (by kernel_rfl) (x3 (x6 ?_)))
 refine x8 ?_
 refine R1 x4 rfl (R2 (xc4 (wr64 (by omega) (by omega))) rfl rfl (R2 (d_mul (wr64 (by omega) (by omega))) rfl rfl (R1 x4 rfl (R2 (xc4 (wr64 (by omega) (by omega))) rfl rfl (R1 x5 rfl (x7 (by kernel_rfl) (x3 ?_)))))))
 refine xa2 ?_
 exact xa3 Plain.mk' rfl rfl Le.refl
theorem c_LentLimbs (l : List Nat) (hl : l.length ≤ 1048576) :
  Ct Tryz.prog 199 [tLm l] (tLmK l) := by
 refine Ct.intro Tryz.func199 rfl Tryz.ntmps199 rfl ?_
 intro w F
 refine x6 ?_
 refine x8 ?_
 refine R1 x5 rfl (x7 (by kernel_rfl) (x3 (x6 ?_)))
 refine x8 ?_
 refine R1 x4 rfl (R1 (xb9 Tryz.underlying45) rfl (R2 (xc4 (wr64 (by omega) (by omega))) rfl rfl (RE (d_makeO (k := 8) (t := tE (.int .u16 0)) (ts := ([] : List Ent)) (0) (l.length + 12) Tryz.underlying45 el166 (fun _ _ => rfl) rfl (by omega) (by omega) (by omega) (by omega) (by omega) rfl) ⟨rfl, rfl, trivial⟩ trivial ⟨rfl, trivial⟩ (R1 x5 rfl (x7 (by kernel_rfl) (x3 (x6 ?_)))))))
 refine x8 ?_
 refine R1 x4 rfl (R1 x4 rfl (RE (xf1 (k := 8) (k' := 11) (ys := l) (ts' := rW .u16 l) Tryz.underlying45 el166 zf166 rfl rfl (fun _ => inferInstance) rfl (by simp; omega) (by simp; omega) (by simp [rW]) (n' := l.length) (by simp)) ⟨rfl, rfl, trivial⟩ ⟨rfl, trivial⟩ ⟨rfl, trivial⟩ (R1 x5 rfl (x7 (by kernel_rfl) (x3 (x6 (x6 ?_)))))))
 refine x8 ?_
 refine R1 x5 rfl (x7 (by kernel_rfl) (x3 (xa9 ?_)))
 refine xd6 (fun (i : Nat) => i ≤ 12) (fun (i : Nat) => upd (upd (upd (fun _ => none) 0 (some (.val (tLm l)))) 3 (some (.own (.sl 11 1 0 (l.length + i))))) 4 (some (.val (tI i)))) (fun (i : Nat) => upd (fun _ => none) 11 (some (⟨166, 1, false, rW .u16 (l ++ mk16.take i)⟩))) (nm [11]) (fun (i : Nat) => 12 - i) (0) (Nat.zero_le _) (Sub.int rfl (by first | omega | rfl | (dsimp only; omega)) (Sub.cons rfl (Sub.cons rfl Sub.nil))) ((SubK.consI rfl (ImpK.of (by rw [List.take_zero, List.append_nil]))) SubK.nil) (SupG.val (SupG.own rfl (SupG.val SupG.nil))) (SupH.cons rfl (supJ xc5) SupH.nil) (lkOk rfl) ?_
 intro i hI
 have htl : (l ++ mk16.take i).length = l.length + i := by rw [List.length_append, List.length_take, mk16_len]; omega
 refine x6 (x6 ?_)
 refine x8 ?_
 refine R1 x4 rfl (R2 xd5 rfl rfl (x7 (by kernel_rfl) (x3 ?_)))
 refine xc2 rfl (fun h64 => ?_) (fun h64 => ?_)
 ·
  refine xa4 (x3 (x6 (xa9 ?_)))
  refine x8 ?_
  refine R1 x4 rfl (R1 x4 rfl (R2 (xa0 (c_mark1 i (by omega)) fi239 rfl) rfl rfl (R1 (xb4 Tryz.underlying166 (isS Tryz.underlying3) cutM) rfl (R1 (d_nums (n := 1) [((8000024 + i) % 65536)] Tryz.underlying45 el166 zf166 rfl rfl rfl) rfl (RE (xf1 (k := 11) (k' := 21) (ys := [((8000024 + i) % 65536)]) (ts' := rW .u16 (l ++ mk16.take i ++ [((8000024 + i) % 65536)])) Tryz.underlying45 el166 zf166 rfl rfl (fun _ => inferInstance) (rW_len.trans htl) (by simp; omega) (by simp; omega) (by simp [rW]) (n' := l.length + i + 1) rfl) ⟨rfl, rfl, trivial⟩ ⟨rfl, trivial⟩ ⟨rfl, trivial⟩ (R1 x5 rfl (x7 (by kernel_rfl) ?_)))))))
  refine xc6 (x3 ?_)
  refine x8 ?_
  refine R1 x4 rfl (R2 (xc4 (wr64 (by omega) (by omega))) rfl rfl (R1 x5 rfl (x7 (by kernel_rfl) ?_)))
  exact K_famR (l := [11]) (fun j => cond (Nat.beq j 11) 21 (j)) (i + 1) ⟨(by omega), (by omega)⟩ (SubR.int rfl (by first | omega | rfl | (dsimp only; omega)) (SubR.cons rfl (SubR.cons rfl SubR.nil))) ((SubKR.consI rfl (ImpK.of (by rw [mk16_take (by omega), ← List.append_assoc]; exact xh5.symm))) SubKR.nil) (SupG.val (SupG.own rfl (SupG.val SupG.nil))) (SupH.cons rfl (supJ xc5) SupH.nil) (lkOk rfl) rfl rfl (fun _ h => by cases h)
 ·
  refine xd1 (xc0 (xc0 (xd8 (x3 (x6 ?_)))))
  refine x8 ?_
  refine R1 x4 rfl (R1 x4 rfl (R1 (xb9 Tryz.underlying45) rfl (RE (d_keepO (k := 11) (f := fun n : Nat => tE (.int .u16 (n : Int))) (xs := l) (ms := mk16) sl45 (fun _ h => h) (by rw [rW, show i = 12 by omega, show mk16.take 12 = mk16 from rfl]) (by rw [mk16_len]; omega) rfl) ⟨rfl, rfl, trivial⟩ ⟨rfl, trivial⟩ trivial (R1 x5 rfl (x7 (by kernel_rfl) (x3 (xa2 ?_)))))))
  exact xa3 Plain.mk' rfl rfl Le.refl
theorem c_KeptLimbs (l : List Nat) (hl : l.length ≤ 1048576) :
  Ct Tryz.prog 201 [tLmK l, tLm l] (tB true) := by
 have hml : (l ++ mk16).length = l.length + 12 := by rw [List.length_append, mk16_len]
 refine Ct.intro Tryz.func201 rfl Tryz.ntmps201 rfl ?_
 intro w F
 refine x6 ?_
 refine x8 ?_
 refine R1 x5 rfl (x7 (by kernel_rfl) (x3 (x6 (x6 ?_))))
 refine x8 ?_
 refine R1 x4 rfl (R1 (d_lenK Tryz.underlying45) rfl (R1 x4 rfl (R1 (xb9 Tryz.underlying45) rfl (R2 d_neq rfl rfl (x7 (by kernel_rfl) (x3 (C_bF rfl (decide_eq_false (by omega)) ?_)))))))
 refine xa4 (x3 (x6 ?_))
 refine x8 ?_
 refine R1 x4 rfl (R1 x4 rfl (R1 (xb9 Tryz.underlying45) rfl (R2 (xc4 (wr64 (by omega) (by omega))) rfl rfl (R2 (d_sliceK sl45 (by rw [mk16_len]; omega)) rfl rfl (R1 x5 rfl (x7 (by kernel_rfl) (x3 ?_)))))))
 refine x6 (x6 ?_)
 refine x8 ?_
 refine R1 x5 rfl (x7 (by kernel_rfl) (x3 (xa9 ?_)))
 refine xd6 (fun (i : Nat) => i ≤ (l ++ mk16).length) (fun (i : Nat) => upd (upd (upd (fun _ => none) 1 (some (.val (tLm l)))) 5 (some (.val (tLm (l ++ mk16))))) 6 (some (.val (tI i)))) (fun (i : Nat) => fun _ => none) (nm []) (fun (i : Nat) => (l ++ mk16).length - i) (0) (Nat.zero_le _) (Sub.int rfl (by first | omega | rfl | (dsimp only; omega)) (Sub.cons rfl (Sub.cons rfl Sub.nil))) SubK.nil (SupG.val (SupG.val (SupG.val SupG.nil))) SupH.nil (lkOk rfl) ?_
 intro i hI
 refine x6 (x6 ?_)
 refine x8 ?_
 refine R1 x4 rfl (R1 x4 rfl (R1 (xb9 Tryz.underlying45) rfl (R2 xd5 rfl rfl (x7 (by kernel_rfl) (x3 ?_)))))
 refine xc2 rfl (fun h75 => ?_) (fun h75 => ?_)
 ·
  refine xa4 (x3 (x6 (xa9 (x6 ?_))))
  refine xe1 mixed ?_
  refine R1 x4 rfl (R1 x4 rfl (R1 (xb9 Tryz.underlying45) rfl (R2 xd5 rfl rfl (R1 x4 rfl ?_))))
  refine RGcaseD (t := 27) rfl (fun h76 => ?_) (fun h76 => ?_)
  ·
   refine RGon (decide_eq_true h76) rfl x4 rfl ⟨rfl, trivial⟩ trivial trivial (RGon (decide_eq_true h76) rfl x4 rfl ⟨rfl, trivial⟩ trivial trivial (RGon (decide_eq_true h76) rfl (xb8 sl45 (i) (by omega) (gN (by omega))) rfl ⟨rfl, rfl, trivial⟩ trivial trivial (RGon (decide_eq_true h76) rfl (xc1 ti166) rfl ⟨rfl, trivial⟩ trivial trivial (RGon (decide_eq_true h76) rfl x4 rfl ⟨rfl, trivial⟩ trivial trivial (RGon (decide_eq_true h76) rfl x4 rfl ⟨rfl, trivial⟩ trivial trivial (RGon (decide_eq_true h76) rfl (xb8 sl45 (i) (by omega) (gN (by omega))) rfl ⟨rfl, rfl, trivial⟩ trivial trivial (RGon (decide_eq_true h76) rfl (xc1 ti166) rfl ⟨rfl, trivial⟩ trivial trivial ?_)))))))
   refine RGon (decide_eq_true h76) rfl xe5 rfl ⟨rfl, rfl, trivial⟩ trivial trivial (RGon (decide_eq_true h76) rfl xe7 rfl ⟨rfl, trivial⟩ trivial trivial (R2 (xa8 (decide_eq_true h76)) rfl rfl (R1 x4 rfl (RGon (xh7 (by rw [app_l (by omega)])) rfl x4 rfl ⟨rfl, trivial⟩ trivial trivial (RGon (xh7 (by rw [app_l (by omega)])) rfl x4 rfl ⟨rfl, trivial⟩ trivial trivial (RGon (xh7 (by rw [app_l (by omega)])) rfl (xb9 Tryz.underlying45) rfl ⟨rfl, trivial⟩ trivial trivial (RGon (xh7 (by rw [app_l (by omega)])) rfl d_geq rfl ⟨rfl, rfl, trivial⟩ trivial trivial ?_)))))))
   refine RGon (xh7 (by rw [app_l (by omega)])) rfl x4 rfl ⟨rfl, trivial⟩ trivial trivial (RGoff (decide_eq_false (by omega)) rfl rfl (RGoff (decide_eq_false (by omega)) rfl rfl (RGoff (decide_eq_false (by omega)) rfl rfl (RGoff (decide_eq_false (by omega)) rfl rfl (RGoff (decide_eq_false (by omega)) rfl rfl (RGoff (decide_eq_false (by omega)) rfl rfl (RGoff (decide_eq_false (by omega)) rfl rfl ?_)))))))
   refine RGoff (decide_eq_false (by omega)) rfl rfl (RGoff (decide_eq_false (by omega)) rfl rfl (RGoff (decide_eq_false (by omega)) rfl rfl (RGoff (decide_eq_false (by omega)) rfl rfl (RGoff (decide_eq_false (by omega)) rfl rfl (RGon (xh7 (by rw [app_l (by omega)])) rfl (xa7 (decide_eq_false (by omega))) rfl ⟨rfl, rfl, trivial⟩ trivial trivial (R2 (xa7 (xh7 (by rw [app_l (by omega)]))) rfl rfl (xd9 (by kernel_rfl) ?_)))))))
   refine x3 (C_bF rfl rfl (xa4 (xc6 (x3 ?_))))
   refine x8 ?_
   refine R1 x4 rfl (R2 (xc4 (wr64 (by omega) (by omega))) rfl rfl (R1 x5 rfl (x7 (by kernel_rfl) ?_)))
   exact xc7 (i + 1) ⟨(by omega), (by omega)⟩ (Sub.int rfl (by first | omega | rfl | (dsimp only; omega)) (Sub.cons rfl (Sub.cons rfl Sub.nil))) SubK.nil (SupG.val (SupG.val (SupG.val SupG.nil))) SupH.nil (lkOk rfl)
  ·
   refine RGoff (decide_eq_false h76) rfl rfl (RGoff (decide_eq_false h76) rfl rfl (RGoff (decide_eq_false h76) rfl rfl (RGoff (decide_eq_false h76) rfl rfl (RGoff (decide_eq_false h76) rfl rfl (RGoff (decide_eq_false h76) rfl rfl (RGoff (decide_eq_false h76) rfl rfl (RGoff (decide_eq_false h76) rfl rfl ?_)))))))
   refine RGoff (decide_eq_false h76) rfl rfl (RGoff (decide_eq_false h76) rfl rfl (R2 (xa7 (decide_eq_false h76)) rfl rfl (R1 x4 rfl (RGon rfl rfl x4 rfl ⟨rfl, trivial⟩ trivial trivial (RGon rfl rfl x4 rfl ⟨rfl, trivial⟩ trivial trivial (RGon rfl rfl (xb9 Tryz.underlying45) rfl ⟨rfl, trivial⟩ trivial trivial (RGon rfl rfl d_geq rfl ⟨rfl, rfl, trivial⟩ trivial trivial ?_)))))))
   refine RGon rfl rfl x4 rfl ⟨rfl, trivial⟩ trivial trivial (RGon (decide_eq_true (by omega)) rfl x4 rfl ⟨rfl, trivial⟩ trivial trivial (RGon (decide_eq_true (by omega)) rfl x4 rfl ⟨rfl, trivial⟩ trivial trivial (RGon (decide_eq_true (by omega)) rfl (xb8 sl45 (i) (by omega) (gN (by omega))) rfl ⟨rfl, rfl, trivial⟩ trivial trivial (RGon (decide_eq_true (by omega)) rfl (xc1 ti166) rfl ⟨rfl, trivial⟩ trivial trivial (RGon (decide_eq_true (by omega)) rfl x4 rfl ⟨rfl, trivial⟩ trivial trivial (RGon (decide_eq_true (by omega)) rfl x4 rfl ⟨rfl, trivial⟩ trivial trivial (RGon (decide_eq_true (by omega)) rfl (xb9 Tryz.underlying45) rfl ⟨rfl, trivial⟩ trivial trivial ?_)))))))
   refine RGon (decide_eq_true (by omega)) rfl (xe4 (r := ((i - l.length : Nat) : Int)) (by rw [wr64 (by omega) (by omega)]; omega)) rfl ⟨rfl, rfl, trivial⟩ trivial trivial (RGon (decide_eq_true (by omega)) rfl (xa0 (c_mark1 (i - l.length) (by omega)) fi239 rfl) rfl ⟨rfl, rfl, trivial⟩ trivial trivial (RGon (decide_eq_true (by omega)) rfl (xb4 Tryz.underlying166 (isS Tryz.underlying3) cutM) rfl ⟨rfl, trivial⟩ trivial trivial (RGon (decide_eq_true (by omega)) rfl xe5 rfl ⟨rfl, rfl, trivial⟩ trivial trivial (RGon (decide_eq_true (by omega)) rfl xe7 rfl ⟨rfl, trivial⟩ trivial trivial (RGon rfl rfl (xa8 (decide_eq_true (by omega))) rfl ⟨rfl, rfl, trivial⟩ trivial trivial (R2 (xa7 rfl) rfl rfl (xd9 (by kernel_rfl) ?_)))))))
   refine x3 (C_bF rfl (xh7 (by rw [app_r (by omega), mk16_at (by omega)])) (xa4 (xc6 (x3 ?_))))
   refine x8 ?_
   refine R1 x4 rfl (R2 (xc4 (wr64 (by omega) (by omega))) rfl rfl (R1 x5 rfl (x7 (by kernel_rfl) ?_)))
   exact xc7 (i + 1) ⟨(by omega), (by omega)⟩ (Sub.int rfl (by first | omega | rfl | (dsimp only; omega)) (Sub.cons rfl (Sub.cons rfl Sub.nil))) SubK.nil (SupG.val (SupG.val (SupG.val SupG.nil))) SupH.nil (lkOk rfl)
 ·
  refine xd1 (xc0 (xc0 (xd8 (x3 (x6 ?_)))))
  refine x8 ?_
  refine R1 x5 rfl (x7 (by kernel_rfl) (x3 (xa2 ?_)))
  exact xa3 Plain.mk' rfl rfl Le.refl
theorem c_LentWhole (x : Wh) (hl : x.l.length ≤ 1048576) :
  Ct Tryz.prog 162 [tWh x] (tWhK x) := by
 refine Ct.intro Tryz.func162 rfl Tryz.ntmps162 rfl ?_
 intro w F
 refine x6 ?_
 refine x8 ?_
 refine RE (xd2 (k := 1) ti47 rfl) ⟨rfl, trivial⟩ trivial ⟨rfl, trivial⟩ (RE (xc9 (k := 2) (n := 2) (agg := true) zr47.1 zr47.2 rfl) trivial trivial ⟨rfl, trivial⟩ (x7 (by kernel_rfl) (x3 (x6 ?_))))
 refine x8 ?_
 refine R1 (x9 fo47_1 rfl) rfl (xa5 (0) ti45 rfl rfl rfl (At.g 1 rfl rfl) rfl (R1 (xa0 (c_LentLimbs x.l hl) fi199 rfl) rfl (R1 (x9 fo47_1 rfl) rfl (R_storeF (0) ti45 rfl rfl rfl rfl (Up.g 1 rfl rfl rfl) rfl rfl (x7 (by kernel_rfl) (x3 (x6 ?_)))))))
 refine C_key (k := 1) (e' := ⟨47, 2, true, [.val (tWhK x)]⟩) rfl rfl ?_
 refine x8 ?_
 refine RE (xb3 (0) ti47 rfl rfl) ⟨rfl, trivial⟩ ⟨rfl, trivial⟩ trivial (RE (xb0 (es := 2) (agg := true) (0) ti47 rfl rfl rfl) ⟨rfl, rfl, trivial⟩ ⟨rfl, trivial⟩ trivial (x7 (by kernel_rfl) (x3 (xa2 ?_))))
 exact xg5 Plain.mk' rfl ⟨_, _, _, _, _, rfl, rfl, ti47, Le.refl⟩
theorem c_LentFrac (f : Fr) (h1 : f.n.l.length ≤ 1048576) (h2 : f.d.l.length ≤ 1048576) :
  Ct Tryz.prog 113 [tFr f] (tFrK f) := by
 refine Ct.intro Tryz.func113 rfl Tryz.ntmps113 rfl ?_
 intro w F
 refine x6 ?_
 refine x8 ?_
 refine RE (xd2 (k := 1) ti49 rfl) ⟨rfl, trivial⟩ trivial ⟨rfl, trivial⟩ (RE (xc9 (k := 2) (n := 4) (agg := true) zr49.1 zr49.2 rfl) trivial trivial ⟨rfl, trivial⟩ (x7 (by kernel_rfl) (x3 (x6 ?_))))
 refine x8 ?_
 refine R1 (x9 fo49_0 rfl) rfl (xa5 (0) ti47 rfl rfl rfl (At.g 0 rfl rfl) rfl (R1 (xa0 (c_LentWhole f.n h1) fi162 rfl) rfl (R1 (x9 fo49_0 rfl) rfl (R_storeF (0) ti47 rfl rfl rfl rfl (Up.g 0 rfl rfl rfl) rfl rfl (x7 (by kernel_rfl) (x3 (x6 ?_)))))))
 refine x8 ?_
 refine R1 (x9 fo49_1 rfl) rfl (xa5 (0) ti47 rfl rfl rfl (At.g 1 rfl rfl) rfl (R1 (xa0 (c_LentWhole f.d h2) fi162 rfl) rfl (R1 (x9 fo49_1 rfl) rfl (R_storeF (0) ti47 rfl rfl rfl rfl (Up.g 1 rfl rfl rfl) rfl rfl (x7 (by kernel_rfl) (x3 (x6 ?_)))))))
 refine C_key (k := 1) (e' := ⟨49, 4, true, [.val (tFrK f)]⟩) rfl rfl ?_
 refine x8 ?_
 refine RE (xb3 (0) ti49 rfl rfl) ⟨rfl, trivial⟩ ⟨rfl, trivial⟩ trivial (RE (xb0 (es := 4) (agg := true) (0) ti49 rfl rfl rfl) ⟨rfl, rfl, trivial⟩ ⟨rfl, trivial⟩ trivial (x7 (by kernel_rfl) (x3 (xa2 ?_))))
 exact xg5 Plain.mk' rfl ⟨_, _, _, _, _, rfl, rfl, ti49, Le.refl⟩
theorem c_LentValue (v : Va) (h1 : v.f.n.l.length ≤ 1048576) (h2 : v.f.d.l.length ≤ 1048576) :
  Ct Tryz.prog 65 [tVa v] (tVaK v) := by
 refine Ct.intro Tryz.func65 rfl Tryz.ntmps65 rfl ?_
 intro w F
 refine x6 ?_
 refine x8 ?_
 refine RE (xd2 (k := 1) ti53 rfl) ⟨rfl, trivial⟩ trivial ⟨rfl, trivial⟩ (RE (xc9 (k := 2) (n := 6) (agg := true) zr53.1 zr53.2 rfl) trivial trivial ⟨rfl, trivial⟩ (x7 (by kernel_rfl) (x3 (x6 ?_))))
 refine x8 ?_
 refine R1 (x9 fo53_1 rfl) rfl (xa5 (0) ti49 rfl rfl rfl (At.g 1 rfl rfl) rfl (R1 (xa0 (c_LentFrac v.f h1 h2) fi113 rfl) rfl (R1 (x9 fo53_1 rfl) rfl (R_storeF (0) ti49 rfl rfl rfl rfl (Up.g 1 rfl rfl rfl) rfl rfl (x7 (by kernel_rfl) (x3 (x6 ?_)))))))
 refine C_key (k := 1) (e' := ⟨53, 6, true, [.val (tVaK v)]⟩) rfl rfl ?_
 refine x8 ?_
 refine RE (xb3 (0) ti53 rfl rfl) ⟨rfl, trivial⟩ ⟨rfl, trivial⟩ trivial (RE (xb0 (es := 6) (agg := true) (0) ti53 rfl rfl rfl) ⟨rfl, rfl, trivial⟩ ⟨rfl, trivial⟩ trivial (x7 (by kernel_rfl) (x3 (xa2 ?_))))
 exact xg5 Plain.mk' rfl ⟨_, _, _, _, _, rfl, rfl, ti53, Le.refl⟩
theorem c_KeptWhole (x : Wh) (hl : x.l.length ≤ 1048576) :
  Ct Tryz.prog 164 [tWhK x, tWh x] (tB true) := by
 refine Ct.intro Tryz.func164 rfl Tryz.ntmps164 rfl ?_
 intro w F
 refine x6 ?_
 refine x8 ?_
 refine RE (xd2 (k := 2) ti47 rfl) ⟨rfl, trivial⟩ trivial ⟨rfl, trivial⟩ (RE (xd2 (k := 3) ti47 rfl) ⟨rfl, trivial⟩ trivial ⟨rfl, trivial⟩ (R1 x5 rfl (x7 (by kernel_rfl) (x3 (x6 ?_)))))
 refine x8 ?_
 refine RE (xb3 (0) ti47 rfl rfl) ⟨rfl, trivial⟩ ⟨rfl, trivial⟩ trivial (RE (xb3 (0) ti47 rfl rfl) ⟨rfl, trivial⟩ ⟨rfl, trivial⟩ trivial (R2 (d_callL (ts := [tWhK x, tWh x]) (c_SameWhole x x) fi100 rfl ⟨whK_le, Le.refl, trivial⟩) rfl rfl (R1 x4 rfl (RGon (decide_eq_true (by rfl)) rfl (x9 fo47_1 rfl) rfl ⟨rfl, trivial⟩ trivial trivial (xb2 (decide_eq_true (by rfl)) rfl rfl (0) ti45 rfl rfl rfl (At.g 1 rfl rfl) rfl (RGon (decide_eq_true (by rfl)) rfl (x9 fo47_1 rfl) rfl ⟨rfl, trivial⟩ trivial trivial (xb2 (decide_eq_true (by rfl)) rfl rfl (0) ti45 rfl rfl rfl (At.g 1 rfl rfl) rfl ?_)))))))
 refine RGon (decide_eq_true (by rfl)) rfl (xa0 (c_KeptLimbs x.l hl) fi201 rfl) rfl ⟨rfl, rfl, trivial⟩ trivial trivial (R2 (xa8 (decide_eq_true (by rfl))) rfl rfl (R1 x5 rfl (x7 (by kernel_rfl) (x3 (xa2 ?_)))))
 exact xa3 Plain.mk' rfl rfl Le.refl
theorem c_KeptFrac (f : Fr) (h1 : f.n.l.length ≤ 1048576) (h2 : f.d.l.length ≤ 1048576) :
  Ct Tryz.prog 116 [tFrK f, tFr f] (tB true) := by
 refine Ct.intro Tryz.func116 rfl Tryz.ntmps116 rfl ?_
 intro w F
 refine x6 ?_
 refine x8 ?_
 refine RE (xd2 (k := 2) ti49 rfl) ⟨rfl, trivial⟩ trivial ⟨rfl, trivial⟩ (RE (xd2 (k := 3) ti49 rfl) ⟨rfl, trivial⟩ trivial ⟨rfl, trivial⟩ (R1 x5 rfl (x7 (by kernel_rfl) (x3 (x6 ?_)))))
 refine x8 ?_
 refine RE (xb3 (0) ti49 rfl rfl) ⟨rfl, trivial⟩ ⟨rfl, trivial⟩ trivial (RE (xb3 (0) ti49 rfl rfl) ⟨rfl, trivial⟩ ⟨rfl, trivial⟩ trivial (R2 (d_callL (ts := [tFrK f, tFr f]) (c_SameFrac f f) fi46 rfl ⟨frK_le, Le.refl, trivial⟩) rfl rfl (R1 x4 rfl (RGon (decide_eq_true (by rfl)) rfl (x9 fo49_0 rfl) rfl ⟨rfl, trivial⟩ trivial trivial (xb2 (decide_eq_true (by rfl)) rfl rfl (0) ti47 rfl rfl rfl (At.g 0 rfl rfl) rfl (RGon (decide_eq_true (by rfl)) rfl (x9 fo49_0 rfl) rfl ⟨rfl, trivial⟩ trivial trivial (xb2 (decide_eq_true (by rfl)) rfl rfl (0) ti47 rfl rfl rfl (At.g 0 rfl rfl) rfl ?_)))))))
 refine RGon (decide_eq_true (by rfl)) rfl (xa0 (c_KeptWhole f.n h1) fi164 rfl) rfl ⟨rfl, rfl, trivial⟩ trivial trivial (R2 (xa8 (decide_eq_true (by rfl))) rfl rfl (R1 x4 rfl (RGon rfl rfl (x9 fo49_1 rfl) rfl ⟨rfl, trivial⟩ trivial trivial (xb2 rfl rfl rfl (0) ti47 rfl rfl rfl (At.g 1 rfl rfl) rfl (RGon rfl rfl (x9 fo49_1 rfl) rfl ⟨rfl, trivial⟩ trivial trivial (xb2 rfl rfl rfl (0) ti47 rfl rfl rfl (At.g 1 rfl rfl) rfl (RGon rfl rfl (xa0 (c_KeptWhole f.d h2) fi164 rfl) rfl ⟨rfl, rfl, trivial⟩ trivial trivial ?_)))))))
 refine R2 (xa8 rfl) rfl rfl (R1 x5 rfl (x7 (by kernel_rfl) (x3 (xa2 ?_))))
 exact xa3 Plain.mk' rfl rfl Le.refl
theorem c_KeptValue (v : Va) (h1 : v.f.n.l.length ≤ 1048576) (h2 : v.f.d.l.length ≤ 1048576) :
  Ct Tryz.prog 70 [tVaK v, tVa v] (tB true) := by
 refine Ct.intro Tryz.func70 rfl Tryz.ntmps70 rfl ?_
 intro w F
 refine x6 ?_
 refine x8 ?_
 refine RE (xd2 (k := 2) ti53 rfl) ⟨rfl, trivial⟩ trivial ⟨rfl, trivial⟩ (RE (xd2 (k := 3) ti53 rfl) ⟨rfl, trivial⟩ trivial ⟨rfl, trivial⟩ (R1 x5 rfl (x7 (by kernel_rfl) (x3 (x6 ?_)))))
 refine x8 ?_
 refine RE (xb3 (0) ti53 rfl rfl) ⟨rfl, trivial⟩ ⟨rfl, trivial⟩ trivial (RE (xb3 (0) ti53 rfl rfl) ⟨rfl, trivial⟩ ⟨rfl, trivial⟩ trivial (R2 (d_callL (ts := [tVaK v, tVa v]) (c_SameValue v v) fi60 rfl ⟨vaK_le, Le.refl, trivial⟩) rfl rfl (R1 x4 rfl (RGon (decide_eq_true (by rfl)) rfl (x9 fo53_1 rfl) rfl ⟨rfl, trivial⟩ trivial trivial (xb2 (decide_eq_true (by rfl)) rfl rfl (0) ti49 rfl rfl rfl (At.g 1 rfl rfl) rfl (RGon (decide_eq_true (by rfl)) rfl (x9 fo53_1 rfl) rfl ⟨rfl, trivial⟩ trivial trivial (xb2 (decide_eq_true (by rfl)) rfl rfl (0) ti49 rfl rfl rfl (At.g 1 rfl rfl) rfl ?_)))))))
 refine RGon (decide_eq_true (by rfl)) rfl (xa0 (c_KeptFrac v.f h1 h2) fi116 rfl) rfl ⟨rfl, rfl, trivial⟩ trivial trivial (R2 (xa8 (decide_eq_true (by rfl))) rfl rfl (R1 x5 rfl (x7 (by kernel_rfl) (x3 (xa2 ?_)))))
 exact xa3 Plain.mk' rfl rfl Le.refl
end An.S

/- Law 5: TimelineValues: the program and the reference agree on values. -/
namespace An.S
open Go Go.Proofs An
set_option maxHeartbeats 2000000
set_option maxRecDepth 100000
theorem fi17 : FnI Tryz.prog 17 := ⟨_, Tryz.func17, by kernel_rfl, rfl⟩
theorem fi20 : FnI Tryz.prog 20 := ⟨_, Tryz.func20, by kernel_rfl, rfl⟩
theorem fi21 : FnI Tryz.prog 21 := ⟨_, Tryz.func21, by kernel_rfl, rfl⟩
theorem fi65 : FnI Tryz.prog 65 := ⟨_, Tryz.func65, by kernel_rfl, rfl⟩
theorem fi67 : FnI Tryz.prog 67 := ⟨_, Tryz.func67, by kernel_rfl, rfl⟩
theorem fi69 : FnI Tryz.prog 69 := ⟨_, Tryz.func69, by kernel_rfl, rfl⟩
theorem fi70 : FnI Tryz.prog 70 := ⟨_, Tryz.func70, by kernel_rfl, rfl⟩
theorem fi115 : FnI Tryz.prog 115 := ⟨_, Tryz.func115, by kernel_rfl, rfl⟩
theorem fr0_eq {f : Fr} (h1 : f.n.neg = false) (h2 : f.d.neg = false) (h3 : f.n.l.length = 0) (h4 : f.d.l.length = 0) : f = fr0 := by
  obtain ⟨⟨n1, l1⟩, ⟨n2, l2⟩⟩ := f
  simp only at h1 h2 h3 h4
  rw [h1, h2, List.length_eq_zero_iff.1 h3, List.length_eq_zero_iff.1 h4]; rfl
theorem fr0_ne {f : Fr} (h : f.n.neg = true ∨ f.d.neg = true ∨ 0 < f.n.l.length ∨ 0 < f.d.l.length) : f ≠ fr0 := by
  rintro rfl
  rcases h with h | h | h | h <;> cases h
theorem va_no {v : Va} (h1 : ¬ (v.kind = 2 ∨ v.kind = 3)) (h2 : v.f ≠ fr0) : v.valid = false := by
  simp only [Va.valid]
  rw [if_neg h1, decide_eq_false h2]
  simp
theorem va_eq {u v : Va} : u = v ↔ u.kind = v.kind ∧ u.i = v.i ∧ u.f.n = v.f.n ∧ u.f.d = v.f.d := by
  constructor
  · rintro rfl; exact ⟨rfl, rfl, rfl, rfl⟩
  · obtain ⟨k, ⟨n, d⟩, i⟩ := u
    obtain ⟨k2, ⟨n2, d2⟩, i2⟩ := v
    rintro ⟨h1, h2, h3, h4⟩
    simp only at h1 h2 h3 h4
    rw [h1, h2, h3, h4]
theorem c_R5Valid (v : Va) (hD : v.f.dig) (h1 : v.f.n.l.length ≤ 1048576) (h2 : v.f.d.l.length ≤ 1048576) :
  Ct Tryz.prog 67 [tVa v] (tB v.valid) := by
 refine Ct.intro Tryz.func67 rfl Tryz.ntmps67 rfl ?_
 intro w F
 refine x6 ?_
 refine x8 ?_
 refine RE (xd2 (k := 1) ti53 rfl) ⟨rfl, trivial⟩ trivial ⟨rfl, trivial⟩ (R1 x5 rfl (x7 (by kernel_rfl) (x3 (x6 (x6 ?_)))))
 refine x8 ?_
 refine R1 (x9 fo53_0 rfl) rfl (xa5 (0) ti5 rfl rfl rfl (At.g 0 rfl rfl) rfl (R2 xe5 rfl rfl (R1 x4 rfl ?_)))
 refine RGcaseD (t := 6) rfl (fun h14 => ?_) (fun h14 => ?_)
 ·
  refine RGoff (decide_eq_true h14) rfl rfl (RGoff (decide_eq_true h14) rfl rfl (RGoff (decide_eq_true h14) rfl rfl (R2 (xa8 (decide_eq_true h14)) rfl rfl (x7 (by kernel_rfl) (x3 (C_bT rfl rfl (x6 ?_)))))))
  refine x8 ?_
  refine R1 (x9 fo53_2 rfl) rfl (xa5 (0) ti3 rfl rfl rfl (At.g 2 rfl rfl) rfl (R2 xe5 rfl rfl (R1 x4 rfl ?_)))
  refine RGcaseD (t := 14) rfl (fun h15 => ?_) (fun h15 => ?_)
  ·
   refine RGon (decide_eq_true h15) rfl (x9 fo53_1 rfl) rfl ⟨rfl, trivial⟩ trivial trivial (xb2 (decide_eq_true h15) rfl rfl (0) ti49 rfl rfl rfl (At.g 1 rfl rfl) rfl (RGon (decide_eq_true h15) rfl (xa0 (c_R2Valid v.f hD.1 hD.2) fi80 rfl) rfl ⟨rfl, trivial⟩ trivial trivial (R2 (xa8 (decide_eq_true h15)) rfl rfl (R1 x5 rfl (x7 (by kernel_rfl) (x3 (xa2 ?_)))))))
   refine xa6 ?_
   exact xa3 Plain.mk' rfl rfl (Le.bool (by simp only [Va.valid]; rw [if_pos (show v.kind = 2 ∨ v.kind = 3 by omega), decide_eq_true h15, Bool.true_and]))
  ·
   refine RGoff (decide_eq_false h15) rfl rfl (RGoff (decide_eq_false h15) rfl rfl (RGoff (decide_eq_false h15) rfl rfl (R2 (xa7 (decide_eq_false h15)) rfl rfl (R1 x5 rfl (x7 (by kernel_rfl) (x3 (xa2 ?_)))))))
   refine xa6 ?_
   exact xa3 Plain.mk' rfl rfl (Le.bool (by simp only [Va.valid]; rw [if_pos (show v.kind = 2 ∨ v.kind = 3 by omega), decide_eq_false h15]; rfl))
 ·
  refine RGon (decide_eq_false h14) rfl (x9 fo53_0 rfl) rfl ⟨rfl, trivial⟩ trivial trivial (xb2 (decide_eq_false h14) rfl rfl (0) ti5 rfl rfl rfl (At.g 0 rfl rfl) rfl (RGon (decide_eq_false h14) rfl xe5 rfl ⟨rfl, rfl, trivial⟩ trivial trivial (R2 (xa7 (decide_eq_false h14)) rfl rfl (x7 (by kernel_rfl) (x3 ?_)))))
  refine xc2 rfl (fun h14_2 => ?_) (fun h14_2 => ?_)
  ·
   refine x6 ?_
   refine x8 ?_
   refine R1 (x9 fo53_2 rfl) rfl (xa5 (0) ti3 rfl rfl rfl (At.g 2 rfl rfl) rfl (R2 xe5 rfl rfl (R1 x4 rfl ?_)))
   refine RGcaseD (t := 14) rfl (fun h15 => ?_) (fun h15 => ?_)
   ·
    refine RGon (decide_eq_true h15) rfl (x9 fo53_1 rfl) rfl ⟨rfl, trivial⟩ trivial trivial (xb2 (decide_eq_true h15) rfl rfl (0) ti49 rfl rfl rfl (At.g 1 rfl rfl) rfl (RGon (decide_eq_true h15) rfl (xa0 (c_R2Valid v.f hD.1 hD.2) fi80 rfl) rfl ⟨rfl, trivial⟩ trivial trivial (R2 (xa8 (decide_eq_true h15)) rfl rfl (R1 x5 rfl (x7 (by kernel_rfl) (x3 (xa2 ?_)))))))
    refine xa6 ?_
    exact xa3 Plain.mk' rfl rfl (Le.bool (by simp only [Va.valid]; rw [if_pos (show v.kind = 2 ∨ v.kind = 3 by omega), decide_eq_true h15, Bool.true_and]))
   ·
    refine RGoff (decide_eq_false h15) rfl rfl (RGoff (decide_eq_false h15) rfl rfl (RGoff (decide_eq_false h15) rfl rfl (R2 (xa7 (decide_eq_false h15)) rfl rfl (R1 x5 rfl (x7 (by kernel_rfl) (x3 (xa2 ?_)))))))
    refine xa6 ?_
    exact xa3 Plain.mk' rfl rfl (Le.bool (by simp only [Va.valid]; rw [if_pos (show v.kind = 2 ∨ v.kind = 3 by omega), decide_eq_false h15]; rfl))
  ·
   refine xa4 (x3 (x6 (x6 ?_)))
   refine x8 ?_
   refine R1 (x9 fo53_1 rfl) rfl (R1 (x9 fo49_0 rfl) rfl (R1 (x9 fo47_0 rfl) rfl (xa5 (0) ti4 rfl rfl rfl (At.t (At.g 1 rfl rfl) (At.t (At.g 0 rfl rfl) (At.g 0 rfl rfl))) rfl (R1 x4 rfl ?_))))
   refine RGcase (t := 23) rfl (fun h17 => ?_) (fun h17 => ?_)
   ·
    have hnf : v.f ≠ fr0 := fr0_ne (.inl h17)
    refine RGoff h17 rfl rfl (RGoff h17 rfl rfl (RGoff h17 rfl rfl (RGoff h17 rfl rfl (R2 (xa8 h17) rfl rfl (R1 x4 rfl (RGoff1 rfl rfl (RGoff1 rfl rfl ?_)))))))
    refine RGoff1 rfl rfl (RGoff1 rfl rfl (RGoff1 rfl rfl (RGoff1 rfl rfl (RGoff1 rfl rfl (RGoff1 rfl rfl (RGoff1 rfl rfl (RGoff1 rfl rfl ?_)))))))
    refine RGoff1 rfl rfl (RGoff1 rfl rfl (R2 (xa8 rfl) rfl rfl (x7 (by kernel_rfl) (x3 (C_bT rfl rfl (x6 ?_))))))
    refine x8 ?_
    refine R1 x5 rfl (x7 (by kernel_rfl) (x3 (xa2 (xa6 ?_))))
    exact xa3 Plain.mk' rfl rfl (Le.bool (va_no (by omega) hnf).symm)
   ·
    refine RGon h17 rfl (x9 fo53_1 rfl) rfl ⟨rfl, trivial⟩ trivial trivial (RGon h17 rfl (x9 fo49_1 rfl) rfl ⟨rfl, trivial⟩ trivial trivial (RGon h17 rfl (x9 fo47_0 rfl) rfl ⟨rfl, trivial⟩ trivial trivial (xb2 h17 rfl rfl (0) ti4 rfl rfl rfl (At.t (At.g 1 rfl rfl) (At.t (At.g 1 rfl rfl) (At.g 0 rfl rfl))) rfl (R2 (xa7 h17) rfl rfl (R1 x4 rfl ?_)))))
    refine RGcase (t := 29) rfl (fun h17_2 => ?_) (fun h17_2 => ?_)
    ·
     have hnf : v.f ≠ fr0 := fr0_ne (.inr (.inl h17_2))
     refine RGoff h17_2 rfl rfl (RGoff h17_2 rfl rfl (RGoff h17_2 rfl rfl (RGoff h17_2 rfl rfl (RGoff h17_2 rfl rfl (RGoff h17_2 rfl rfl (RGoff h17_2 rfl rfl (RGoff h17_2 rfl rfl ?_)))))))
     refine RGoff h17_2 rfl rfl (RGoff h17_2 rfl rfl (RGoff h17_2 rfl rfl (RGoff h17_2 rfl rfl (R2 (xa8 h17_2) rfl rfl (x7 (by kernel_rfl) (x3 (C_bT rfl rfl ?_)))))))
     refine x6 ?_
     refine x8 ?_
     refine R1 x5 rfl (x7 (by kernel_rfl) (x3 (xa2 (xa6 ?_))))
     exact xa3 Plain.mk' rfl rfl (Le.bool (va_no (by omega) hnf).symm)
    ·
     refine RGon h17_2 rfl (x9 fo53_1 rfl) rfl ⟨rfl, trivial⟩ trivial trivial (RGon h17_2 rfl (x9 fo49_0 rfl) rfl ⟨rfl, trivial⟩ trivial trivial (RGon h17_2 rfl (x9 fo47_1 rfl) rfl ⟨rfl, trivial⟩ trivial trivial (xb2 h17_2 rfl rfl (0) ti45 rfl rfl rfl (At.t (At.g 1 rfl rfl) (At.t (At.g 0 rfl rfl) (At.g 1 rfl rfl))) rfl (RGon h17_2 rfl (xb9 Tryz.underlying45) rfl ⟨rfl, trivial⟩ trivial trivial (RGon h17_2 rfl (x9 fo53_1 rfl) rfl ⟨rfl, trivial⟩ trivial trivial (RGon h17_2 rfl (x9 fo49_1 rfl) rfl ⟨rfl, trivial⟩ trivial trivial (RGon h17_2 rfl (x9 fo47_1 rfl) rfl ⟨rfl, trivial⟩ trivial trivial ?_)))))))
     refine xb2 h17_2 rfl rfl (0) ti45 rfl rfl rfl (At.t (At.g 1 rfl rfl) (At.t (At.g 1 rfl rfl) (At.g 1 rfl rfl))) rfl (RGon h17_2 rfl (xb9 Tryz.underlying45) rfl ⟨rfl, trivial⟩ trivial trivial (RGon h17_2 rfl (xc4 (wr64 (by omega) (by omega))) rfl ⟨rfl, rfl, trivial⟩ trivial trivial (RGon h17_2 rfl d_gtr rfl ⟨rfl, rfl, trivial⟩ trivial trivial (R2 (xa7 h17_2) rfl rfl (x7 (by kernel_rfl) (x3 ?_))))))
     refine xc2 rfl (fun h17_3 => ?_) (fun h17_3 => ?_)
     ·
      have hnf : v.f ≠ fr0 := fr0_ne (by omega)
      refine x6 ?_
      refine x8 ?_
      refine R1 x5 rfl (x7 (by kernel_rfl) (x3 (xa2 (xa6 ?_))))
      exact xa3 Plain.mk' rfl rfl (Le.bool (va_no (by omega) hnf).symm)
     ·
      have hf0 : v.f = fr0 := fr0_eq h17 h17_2 (by omega) (by omega)
      refine xa4 (x3 (x6 (x6 ?_)))
      refine x8 ?_
      refine R1 (x9 fo53_0 rfl) rfl (xa5 (0) ti5 rfl rfl rfl (At.g 0 rfl rfl) rfl (x7 (by kernel_rfl) (x3 (xa9 (x6 ?_)))))
      refine x8 ?_
      refine R2 xe5 rfl rfl (R1 x5 rfl (x7 (by kernel_rfl) (x3 ?_)))
      refine xc2 rfl (fun h21 => ?_) (fun h21 => ?_)
      ·
       refine x6 ?_
       refine x8 ?_
       refine R1 (x9 fo53_2 rfl) rfl (xa5 (0) ti3 rfl rfl rfl (At.g 2 rfl rfl) rfl (R2 xe5 rfl rfl (R1 x4 rfl ?_)))
       refine RGcaseD (t := 50) rfl (fun h22 => ?_) (fun h22 => ?_)
       ·
        refine RGoff (decide_eq_true h22) rfl rfl (RGoff (decide_eq_true h22) rfl rfl (RGoff (decide_eq_true h22) rfl rfl (R2 (xa8 (decide_eq_true h22)) rfl rfl (R1 x5 rfl (x7 (by kernel_rfl) (x3 (xa2 ?_)))))))
        refine xc8 (xa6 ?_)
        exact xa3 Plain.mk' rfl rfl (Le.bool (by simp only [Va.valid]; rw [if_neg (show ¬ (v.kind = 2 ∨ v.kind = 3) by omega), if_pos (show v.kind = 1 by omega), decide_eq_true hf0, Bool.true_and, decide_eq_true (show 0 ≤ v.i by omega), decide_eq_true (show v.i ≤ 1 by omega)]; rfl))
       ·
        refine RGon (decide_eq_false h22) rfl (x9 fo53_2 rfl) rfl ⟨rfl, trivial⟩ trivial trivial (xb2 (decide_eq_false h22) rfl rfl (0) ti3 rfl rfl rfl (At.g 2 rfl rfl) rfl (RGon (decide_eq_false h22) rfl xe5 rfl ⟨rfl, rfl, trivial⟩ trivial trivial (R2 (xa7 (decide_eq_false h22)) rfl rfl (R1 x5 rfl (x7 (by kernel_rfl) (x3 (xa2 ?_)))))))
        refine xc8 (xa6 ?_)
        exact xa3 Plain.mk' rfl rfl (Le.bool (by simp only [Va.valid]; rw [if_neg (show ¬ (v.kind = 2 ∨ v.kind = 3) by omega), if_pos (show v.kind = 1 by omega), decide_eq_true hf0, Bool.true_and, ← Bool.decide_and]; exact decide_eq_decide.2 (by omega)))
      ·
       refine x6 ?_
       refine x8 ?_
       refine R2 xe5 rfl rfl (R1 x5 rfl (x7 (by kernel_rfl) (x3 ?_)))
       refine xc2 rfl (fun h23 => ?_) (fun h23 => ?_)
       ·
        refine x6 ?_
        refine x8 ?_
        refine R1 (x9 fo53_2 rfl) rfl (xa5 (0) ti3 rfl rfl rfl (At.g 2 rfl rfl) rfl (R2 d_geq rfl rfl (R1 x4 rfl ?_)))
        refine RGcaseD (t := 60) rfl (fun h24 => ?_) (fun h24 => ?_)
        ·
         refine RGon (decide_eq_true h24) rfl (x9 fo53_2 rfl) rfl ⟨rfl, trivial⟩ trivial trivial (xb2 (decide_eq_true h24) rfl rfl (0) ti3 rfl rfl rfl (At.g 2 rfl rfl) rfl (RGon (decide_eq_true h24) rfl xd5 rfl ⟨rfl, rfl, trivial⟩ trivial trivial (R2 (xa8 (decide_eq_true h24)) rfl rfl (R1 x5 rfl (x7 (by kernel_rfl) (x3 (xa2 ?_)))))))
         refine xc8 (xa6 ?_)
         exact xa3 Plain.mk' rfl rfl (Le.bool (by simp only [Va.valid]; rw [if_neg (show ¬ (v.kind = 2 ∨ v.kind = 3) by omega), if_neg (show ¬ v.kind = 1 by omega), if_pos (show v.kind = 4 by omega), decide_eq_true hf0, Bool.true_and, ← Bool.decide_and]; exact decide_eq_decide.2 (by omega)))
        ·
         refine RGoff (decide_eq_false h24) rfl rfl (RGoff (decide_eq_false h24) rfl rfl (RGoff (decide_eq_false h24) rfl rfl (R2 (xa7 (decide_eq_false h24)) rfl rfl (R1 x5 rfl (x7 (by kernel_rfl) (x3 (xa2 ?_)))))))
         refine xc8 (xa6 ?_)
         exact xa3 Plain.mk' rfl rfl (Le.bool (by simp only [Va.valid]; rw [if_neg (show ¬ (v.kind = 2 ∨ v.kind = 3) by omega), if_neg (show ¬ v.kind = 1 by omega), if_pos (show v.kind = 4 by omega), decide_eq_true hf0, Bool.true_and, decide_eq_false (show ¬ 0 ≤ v.i by omega)]; rfl))
       ·
        refine x6 (x6 ?_)
        refine x8 ?_
        refine R2 xe5 rfl rfl (R1 x5 rfl (x7 (by kernel_rfl) (x3 ?_)))
        refine xc2 rfl (fun h25 => ?_) (fun h25 => ?_)
        ·
         refine xa4 (x3 (C_bT rfl (decide_eq_true (by omega)) (x6 ?_)))
         refine x8 ?_
         refine R1 (x9 fo53_2 rfl) rfl (xa5 (0) ti3 rfl rfl rfl (At.g 2 rfl rfl) rfl (R2 d_geq rfl rfl (R1 x4 rfl ?_)))
         refine RGcaseD (t := 71) rfl (fun h26 => ?_) (fun h26 => ?_)
         ·
          refine RGon (decide_eq_true h26) rfl (x9 fo53_2 rfl) rfl ⟨rfl, trivial⟩ trivial trivial (xb2 (decide_eq_true h26) rfl rfl (0) ti3 rfl rfl rfl (At.g 2 rfl rfl) rfl (RGon (decide_eq_true h26) rfl xg2 rfl ⟨rfl, rfl, trivial⟩ trivial trivial (R2 (xa8 (decide_eq_true h26)) rfl rfl (R1 x5 rfl (x7 (by kernel_rfl) (x3 (xa2 ?_)))))))
          refine xc8 (xa6 ?_)
          exact xa3 Plain.mk' rfl rfl (Le.bool (by simp only [Va.valid]; rw [if_neg (show ¬ (v.kind = 2 ∨ v.kind = 3) by omega), if_neg (show ¬ v.kind = 1 by omega), if_neg (show ¬ v.kind = 4 by omega), if_pos (show v.kind = 5 ∨ v.kind = 6 by omega), decide_eq_true hf0, Bool.true_and, ← Bool.decide_and]; exact decide_eq_decide.2 (by omega)))
         ·
          refine RGoff (decide_eq_false h26) rfl rfl (RGoff (decide_eq_false h26) rfl rfl (RGoff (decide_eq_false h26) rfl rfl (R2 (xa7 (decide_eq_false h26)) rfl rfl (R1 x5 rfl (x7 (by kernel_rfl) (x3 (xa2 ?_)))))))
          refine xc8 (xa6 ?_)
          exact xa3 Plain.mk' rfl rfl (Le.bool (by simp only [Va.valid]; rw [if_neg (show ¬ (v.kind = 2 ∨ v.kind = 3) by omega), if_neg (show ¬ v.kind = 1 by omega), if_neg (show ¬ v.kind = 4 by omega), if_pos (show v.kind = 5 ∨ v.kind = 6 by omega), decide_eq_true hf0, Bool.true_and, decide_eq_false (show ¬ -1048576 ≤ v.i by omega)]; rfl))
        ·
         refine x8 ?_
         refine R2 xe5 rfl rfl (R1 x5 rfl (x7 (by kernel_rfl) (x3 ?_)))
         refine xc2 rfl (fun h25_2 => ?_) (fun h25_2 => ?_)
         ·
          refine x6 ?_
          refine x8 ?_
          refine R1 (x9 fo53_2 rfl) rfl (xa5 (0) ti3 rfl rfl rfl (At.g 2 rfl rfl) rfl (R2 d_geq rfl rfl (R1 x4 rfl ?_)))
          refine RGcaseD (t := 71) rfl (fun h26 => ?_) (fun h26 => ?_)
          ·
           refine RGon (decide_eq_true h26) rfl (x9 fo53_2 rfl) rfl ⟨rfl, trivial⟩ trivial trivial (xb2 (decide_eq_true h26) rfl rfl (0) ti3 rfl rfl rfl (At.g 2 rfl rfl) rfl (RGon (decide_eq_true h26) rfl xg2 rfl ⟨rfl, rfl, trivial⟩ trivial trivial (R2 (xa8 (decide_eq_true h26)) rfl rfl (R1 x5 rfl (x7 (by kernel_rfl) (x3 (xa2 ?_)))))))
           refine xc8 (xa6 ?_)
           exact xa3 Plain.mk' rfl rfl (Le.bool (by simp only [Va.valid]; rw [if_neg (show ¬ (v.kind = 2 ∨ v.kind = 3) by omega), if_neg (show ¬ v.kind = 1 by omega), if_neg (show ¬ v.kind = 4 by omega), if_pos (show v.kind = 5 ∨ v.kind = 6 by omega), decide_eq_true hf0, Bool.true_and, ← Bool.decide_and]; exact decide_eq_decide.2 (by omega)))
          ·
           refine RGoff (decide_eq_false h26) rfl rfl (RGoff (decide_eq_false h26) rfl rfl (RGoff (decide_eq_false h26) rfl rfl (R2 (xa7 (decide_eq_false h26)) rfl rfl (R1 x5 rfl (x7 (by kernel_rfl) (x3 (xa2 ?_)))))))
           refine xc8 (xa6 ?_)
           exact xa3 Plain.mk' rfl rfl (Le.bool (by simp only [Va.valid]; rw [if_neg (show ¬ (v.kind = 2 ∨ v.kind = 3) by omega), if_neg (show ¬ v.kind = 1 by omega), if_neg (show ¬ v.kind = 4 by omega), if_pos (show v.kind = 5 ∨ v.kind = 6 by omega), decide_eq_true hf0, Bool.true_and, decide_eq_false (show ¬ -1048576 ≤ v.i by omega)]; rfl))
         ·
          refine xa4 (xc6 (x3 (x6 ?_)))
          refine x8 ?_
          refine R1 x5 rfl (x7 (by kernel_rfl) (x3 (xa2 ?_)))
          exact xa3 Plain.mk' rfl rfl (Le.bool (by simp only [Va.valid]; rw [if_neg (show ¬ (v.kind = 2 ∨ v.kind = 3) by omega), if_neg (show ¬ v.kind = 1 by omega), if_neg (show ¬ v.kind = 4 by omega), if_neg (show ¬ (v.kind = 5 ∨ v.kind = 6) by omega)]))
theorem c_R5whole (x y : Wh) (hx : x.l.length ≤ 1048576) :
  Ct Tryz.prog 115 [tWh x, tWh y] (tB (decide (x = y))) := by
 refine Ct.intro Tryz.func115 rfl Tryz.ntmps115 rfl ?_
 intro w F
 refine x6 ?_
 refine x8 ?_
 refine RE (xd2 (k := 2) ti47 rfl) ⟨rfl, trivial⟩ trivial ⟨rfl, trivial⟩ (RE (xd2 (k := 3) ti47 rfl) ⟨rfl, trivial⟩ trivial ⟨rfl, trivial⟩ (R1 x5 rfl (x7 (by kernel_rfl) (x3 (x6 (x6 ?_))))))
 refine x8 ?_
 refine R1 (x9 fo47_0 rfl) rfl (xa5 (0) ti4 rfl rfl rfl (At.g 0 rfl rfl) rfl (R1 (x9 fo47_0 rfl) rfl (xa5 (0) ti4 rfl rfl rfl (At.g 0 rfl rfl) rfl (R2 (d_neqB Tryz.underlying4) rfl rfl (R1 x4 rfl ?_)))))
 refine RGcase (t := 11) rfl (fun h33 => ?_) (fun h33 => ?_)
 ·
  have hn : x.neg ≠ y.neg := fun h => by rw [h] at h33; simp at h33
  refine RGoff h33 rfl rfl (RGoff h33 rfl rfl (RGoff h33 rfl rfl (RGoff h33 rfl rfl (RGoff h33 rfl rfl (RGoff h33 rfl rfl (RGoff h33 rfl rfl (R2 (xa8 h33) rfl rfl ?_)))))))
  refine x7 (by kernel_rfl) (x3 (C_bT rfl rfl (x6 ?_)))
  refine x8 ?_
  refine R1 x5 rfl (x7 (by kernel_rfl) (x3 (xa2 (xa6 ?_))))
  exact xa3 Plain.mk' rfl rfl (Le.bool (decide_eq_false (fun h => hn (by rw [h]))).symm)
 ·
  have hn : x.neg = y.neg := by simpa using h33
  refine RGon h33 rfl (x9 fo47_1 rfl) rfl ⟨rfl, trivial⟩ trivial trivial (xb2 h33 rfl rfl (0) ti45 rfl rfl rfl (At.g 1 rfl rfl) rfl (RGon h33 rfl (xb9 Tryz.underlying45) rfl ⟨rfl, trivial⟩ trivial trivial (RGon h33 rfl (x9 fo47_1 rfl) rfl ⟨rfl, trivial⟩ trivial trivial (xb2 h33 rfl rfl (0) ti45 rfl rfl rfl (At.g 1 rfl rfl) rfl (RGon h33 rfl (xb9 Tryz.underlying45) rfl ⟨rfl, trivial⟩ trivial trivial (RGon h33 rfl d_neq rfl ⟨rfl, rfl, trivial⟩ trivial trivial (R2 (xa7 h33) rfl rfl ?_)))))))
  refine x7 (by kernel_rfl) (x3 ?_)
  refine xc2 rfl (fun h33_2 => ?_) (fun h33_2 => ?_)
  ·
   refine x6 ?_
   refine x8 ?_
   refine R1 x5 rfl (x7 (by kernel_rfl) (x3 (xa2 (xa6 ?_))))
   exact xa3 Plain.mk' rfl rfl (Le.bool (decide_eq_false (fun h => by rw [h] at h33_2; omega)).symm)
  ·
   have hll : x.l.length = y.l.length := by omega
   refine xa4 (x3 (x6 (x6 ?_)))
   refine x8 ?_
   refine R1 x5 rfl (x7 (by kernel_rfl) (x3 (xa9 ?_)))
   refine xd6 (fun (i : Nat) => i ≤ x.l.length ∧ x.l.take i = y.l.take i) (fun (i : Nat) => upd (upd (upd (fun _ => none) 2 (some (.own (.ptr 2 0)))) 3 (some (.own (.ptr 3 0)))) 5 (some (.val (tI i)))) (fun (i : Nat) => upd (upd (fun _ => none) 2 (some (⟨47, 2, true, [.val (tWh x)]⟩))) 3 (some (⟨47, 2, true, [.val (tWh y)]⟩))) (nm [2, 3]) (fun (i : Nat) => x.l.length - i) (0) ⟨Nat.zero_le _, rfl⟩ (Sub.int rfl (by first | omega | rfl | (dsimp only; omega)) (Sub.cons rfl (Sub.cons rfl Sub.nil))) ((SubK.consI rfl ImpK.refl) ((SubK.consI rfl ImpK.refl) SubK.nil)) (SupG.val (SupG.own rfl (SupG.own rfl SupG.nil))) (SupH.cons rfl (supJL rfl) (SupH.cons rfl (supJL rfl) SupH.nil)) (lkOk rfl) ?_
   intro i hI
   obtain ⟨hi, ht⟩ := hI
   refine x6 (x6 ?_)
   refine x8 ?_
   refine R1 x4 rfl (R1 (x9 fo47_1 rfl) rfl (xa5 (0) ti45 rfl rfl rfl (At.g 1 rfl rfl) rfl (R1 (xb9 Tryz.underlying45) rfl (R2 xd5 rfl rfl (x7 (by kernel_rfl) (x3 ?_))))))
   refine xc2 rfl (fun h36 => ?_) (fun h36 => ?_)
   ·
    refine xa4 (x3 (x6 (xa9 (x6 ?_))))
    refine xe1 mixed ?_
    refine R1 (x9 fo47_1 rfl) rfl (xa5 (0) ti45 rfl rfl rfl (At.g 1 rfl rfl) rfl (R1 x4 rfl (R2 (xb8 sl45 (i) (by omega) (gN (by omega))) rfl rfl (R1 (xc1 ti166) rfl (R1 (x9 fo47_1 rfl) rfl (xa5 (0) ti45 rfl rfl rfl (At.g 1 rfl rfl) rfl (R1 x4 rfl ?_)))))))
    refine R2 (xb8 sl45 (i) (by omega) (gN (by omega))) rfl rfl (R1 (xc1 ti166) rfl (R2 d_neq rfl rfl (xd9 (by kernel_rfl) (x3 ?_))))
    refine xc2 rfl (fun h37 => ?_) (fun h37 => ?_)
    ·
     refine x6 ?_
     refine x8 ?_
     refine R1 x5 rfl (x7 (by kernel_rfl) (x3 (xa2 (xc8 (xa6 (xa6 (xc8 ?_)))))))
     refine xa6 ?_
     exact xa3 Plain.mk' rfl rfl (Le.bool (decide_eq_false (fun h => by rw [h] at h37; omega)).symm)
    ·
     refine xa4 (xc6 (x3 ?_))
     refine x8 ?_
     refine R1 x4 rfl (R2 (xc4 (wr64 (by omega) (by omega))) rfl rfl (R1 x5 rfl (x7 (by kernel_rfl) ?_)))
     exact xc7 (i + 1) ⟨⟨by omega, by rw [xg3 x.l i (by omega), xg3 y.l i (by omega), ht, show x.l.getD i 0 = y.l.getD i 0 by omega]⟩, (by omega)⟩ (Sub.int rfl (by first | omega | rfl | (dsimp only; omega)) (Sub.cons rfl (Sub.cons rfl Sub.nil))) ((SubK.consI rfl ImpK.refl) ((SubK.consI rfl ImpK.refl) SubK.nil)) (SupG.val (SupG.own rfl (SupG.own rfl SupG.nil))) (SupH.cons rfl (supJL rfl) (SupH.cons rfl (supJL rfl) SupH.nil)) (lkOk rfl)
   ·
    refine xd1 (xc0 (xc0 (xd8 (x3 (x6 ?_)))))
    refine x8 ?_
    refine R1 x5 rfl (x7 (by kernel_rfl) (x3 (xa2 ?_)))
    exact xa3 Plain.mk' rfl rfl (Le.bool (decide_eq_true (by rw [show i = x.l.length by omega, List.take_length, hll, List.take_length] at ht; obtain ⟨a, b⟩ := x; obtain ⟨c, d⟩ := y; simp only at hn ht; rw [hn, ht])).symm)
theorem c_R5Same (u v : Va) (h1 : u.f.n.l.length ≤ 1048576) (h2 : u.f.d.l.length ≤ 1048576) :
  Ct Tryz.prog 69 [tVa u, tVa v] (tB (decide (u = v))) := by
 refine Ct.intro Tryz.func69 rfl Tryz.ntmps69 rfl ?_
 intro w F
 refine x6 ?_
 refine x8 ?_
 refine RE (xd2 (k := 2) ti53 rfl) ⟨rfl, trivial⟩ trivial ⟨rfl, trivial⟩ (RE (xd2 (k := 3) ti53 rfl) ⟨rfl, trivial⟩ trivial ⟨rfl, trivial⟩ (R1 x5 rfl (x7 (by kernel_rfl) (x3 (x6 ?_)))))
 refine x8 ?_
 refine R1 (x9 fo53_0 rfl) rfl (xa5 (0) ti5 rfl rfl rfl (At.g 0 rfl rfl) rfl (R1 (x9 fo53_0 rfl) rfl (xa5 (0) ti5 rfl rfl rfl (At.g 0 rfl rfl) rfl (R2 xe5 rfl rfl (R1 x4 rfl ?_)))))
 refine RGcaseD (t := 10) rfl (fun h46 => ?_) (fun h46 => ?_)
 ·
  refine RGon (decide_eq_true h46) rfl (x9 fo53_2 rfl) rfl ⟨rfl, trivial⟩ trivial trivial (xb2 (decide_eq_true h46) rfl rfl (0) ti3 rfl rfl rfl (At.g 2 rfl rfl) rfl (RGon (decide_eq_true h46) rfl (x9 fo53_2 rfl) rfl ⟨rfl, trivial⟩ trivial trivial (xb2 (decide_eq_true h46) rfl rfl (0) ti3 rfl rfl rfl (At.g 2 rfl rfl) rfl (RGon (decide_eq_true h46) rfl xe5 rfl ⟨rfl, rfl, trivial⟩ trivial trivial (R2 (xa8 (decide_eq_true h46)) rfl rfl (R1 x4 rfl ?_))))))
  refine RGcaseD (t := 17) rfl (fun h46_2 => ?_) (fun h46_2 => ?_)
  ·
   refine RGon (decide_eq_true h46_2) rfl (x9 fo53_1 rfl) rfl ⟨rfl, trivial⟩ trivial trivial (RGon (decide_eq_true h46_2) rfl (x9 fo49_0 rfl) rfl ⟨rfl, trivial⟩ trivial trivial (xb2 (decide_eq_true h46_2) rfl rfl (0) ti47 rfl rfl rfl (At.t (At.g 1 rfl rfl) (At.g 0 rfl rfl)) rfl (RGon (decide_eq_true h46_2) rfl (x9 fo53_1 rfl) rfl ⟨rfl, trivial⟩ trivial trivial (RGon (decide_eq_true h46_2) rfl (x9 fo49_0 rfl) rfl ⟨rfl, trivial⟩ trivial trivial (xb2 (decide_eq_true h46_2) rfl rfl (0) ti47 rfl rfl rfl (At.t (At.g 1 rfl rfl) (At.g 0 rfl rfl)) rfl (RGon (decide_eq_true h46_2) rfl (xa0 (c_R5whole _ _ h1) fi115 rfl) rfl ⟨rfl, rfl, trivial⟩ trivial trivial (R2 (xa8 (decide_eq_true h46_2)) rfl rfl ?_)))))))
   refine R1 x4 rfl ?_
   refine RGcaseD (t := 26) rfl (fun h46_3 => ?_) (fun h46_3 => ?_)
   ·
    refine RGon (decide_eq_true h46_3) rfl (x9 fo53_1 rfl) rfl ⟨rfl, trivial⟩ trivial trivial (RGon (decide_eq_true h46_3) rfl (x9 fo49_1 rfl) rfl ⟨rfl, trivial⟩ trivial trivial (xb2 (decide_eq_true h46_3) rfl rfl (0) ti47 rfl rfl rfl (At.t (At.g 1 rfl rfl) (At.g 1 rfl rfl)) rfl (RGon (decide_eq_true h46_3) rfl (x9 fo53_1 rfl) rfl ⟨rfl, trivial⟩ trivial trivial (RGon (decide_eq_true h46_3) rfl (x9 fo49_1 rfl) rfl ⟨rfl, trivial⟩ trivial trivial (xb2 (decide_eq_true h46_3) rfl rfl (0) ti47 rfl rfl rfl (At.t (At.g 1 rfl rfl) (At.g 1 rfl rfl)) rfl (RGon (decide_eq_true h46_3) rfl (xa0 (c_R5whole _ _ h2) fi115 rfl) rfl ⟨rfl, rfl, trivial⟩ trivial trivial (R2 (xa8 (decide_eq_true h46_3)) rfl rfl ?_)))))))
    refine R1 x5 rfl (x7 (by kernel_rfl) (x3 (xa2 ?_)))
    exact xa3 Plain.mk' rfl rfl (Le.bool (decide_eq_decide.2 (by rw [va_eq]; exact ⟨fun h => ⟨by omega, by omega, h46_3, h⟩, fun h => h.2.2.2⟩)))
   ·
    refine RGoff (decide_eq_false h46_3) rfl rfl (RGoff (decide_eq_false h46_3) rfl rfl (RGoff (decide_eq_false h46_3) rfl rfl (RGoff (decide_eq_false h46_3) rfl rfl (RGoff (decide_eq_false h46_3) rfl rfl (RGoff (decide_eq_false h46_3) rfl rfl (RGoff (decide_eq_false h46_3) rfl rfl (R2 (xa7 (decide_eq_false h46_3)) rfl rfl ?_)))))))
    refine R1 x5 rfl (x7 (by kernel_rfl) (x3 (xa2 ?_)))
    exact xa3 Plain.mk' rfl rfl (Le.bool (decide_eq_false (fun h => h46_3 (va_eq.1 h).2.2.1)).symm)
  ·
   refine RGoff (decide_eq_false h46_2) rfl rfl (RGoff (decide_eq_false h46_2) rfl rfl (RGoff (decide_eq_false h46_2) rfl rfl (RGoff (decide_eq_false h46_2) rfl rfl (RGoff (decide_eq_false h46_2) rfl rfl (RGoff (decide_eq_false h46_2) rfl rfl (RGoff (decide_eq_false h46_2) rfl rfl (R2 (xa7 (decide_eq_false h46_2)) rfl rfl ?_)))))))
   refine R1 x4 rfl (RGoff0 rfl rfl (RGoff0 rfl rfl (RGoff0 rfl rfl (RGoff0 rfl rfl (RGoff0 rfl rfl (RGoff0 rfl rfl (RGoff0 rfl rfl ?_)))))))
   refine R2 (xa7 rfl) rfl rfl (R1 x5 rfl (x7 (by kernel_rfl) (x3 (xa2 ?_))))
   exact xa3 Plain.mk' rfl rfl (Le.bool (decide_eq_false (fun h => h46_2 (va_eq.1 h).2.1)).symm)
 ·
  refine RGoff (decide_eq_false h46) rfl rfl (RGoff (decide_eq_false h46) rfl rfl (RGoff (decide_eq_false h46) rfl rfl (RGoff (decide_eq_false h46) rfl rfl (RGoff (decide_eq_false h46) rfl rfl (R2 (xa7 (decide_eq_false h46)) rfl rfl (R1 x4 rfl (RGoff0 rfl rfl ?_)))))))
  refine RGoff0 rfl rfl (RGoff0 rfl rfl (RGoff0 rfl rfl (RGoff0 rfl rfl (RGoff0 rfl rfl (RGoff0 rfl rfl (R2 (xa7 rfl) rfl rfl (R1 x4 rfl ?_)))))))
  refine RGoff0 rfl rfl (RGoff0 rfl rfl (RGoff0 rfl rfl (RGoff0 rfl rfl (RGoff0 rfl rfl (RGoff0 rfl rfl (RGoff0 rfl rfl (R2 (xa7 rfl) rfl rfl ?_)))))))
  refine R1 x5 rfl (x7 (by kernel_rfl) (x3 (xa2 ?_)))
  exact xa3 Plain.mk' rfl rfl (Le.bool (decide_eq_false (fun h => h46 (by rw [h]))).symm)
theorem c_values (u v : Va) (hu : u.f.dig) (hv : v.f.dig) (hu1 : u.f.n.l.length ≤ 1048576) (hu2 : u.f.d.l.length ≤ 1048576) (hv1 : v.f.n.l.length ≤ 1048576) (hv2 : v.f.d.l.length ≤ 1048576) :
  Ct Tryz.prog 21 [tVa u, tVa v] (tB true) := by
 refine Ct.intro Tryz.func21 rfl Tryz.ntmps21 rfl ?_
 intro w F
 refine x6 ?_
 refine x8 ?_
 refine RE (xd2 (k := 2) ti53 rfl) ⟨rfl, trivial⟩ trivial ⟨rfl, trivial⟩ (RE (xd2 (k := 3) ti53 rfl) ⟨rfl, trivial⟩ trivial ⟨rfl, trivial⟩ (R1 x5 rfl (x7 (by kernel_rfl) (x3 (x6 ?_)))))
 refine xe1 mixed ?_
 refine RE (xb3 (0) ti53 rfl rfl) ⟨rfl, trivial⟩ ⟨rfl, trivial⟩ trivial (R1 (xa0 (c_LentValue u hu1 hu2) fi65 rfl) rfl (RE (xb3 (0) ti53 rfl rfl) ⟨rfl, trivial⟩ ⟨rfl, trivial⟩ trivial (R1 (xa0 (c_LentValue v hv1 hv2) fi65 rfl) rfl (RE (xc9 (k := 5) (n := 6) (agg := true) zr53.1 zr53.2 rfl) trivial trivial ⟨rfl, trivial⟩ (RE (xc9 (k := 6) (n := 6) (agg := true) zr53.1 zr53.2 rfl) trivial trivial ⟨rfl, trivial⟩ (RE (xb0 (es := 6) (agg := true) (0) ti53 rfl rfl rfl) ⟨rfl, rfl, trivial⟩ ⟨rfl, trivial⟩ trivial (RE (xb0 (es := 6) (agg := true) (0) ti53 rfl rfl rfl) ⟨rfl, rfl, trivial⟩ ⟨rfl, trivial⟩ trivial ?_)))))))
 refine xd9 (by kernel_rfl) (x3 (x6 (C_key (k := 5) (e' := ⟨53, 6, true, [.val (tVaK u)]⟩) rfl rfl (C_key (k := 6) (e' := ⟨53, 6, true, [.val (tVaK v)]⟩) rfl rfl ?_))))
 refine xe1 mixed ?_
 refine RE (xb3 (0) ti53 rfl rfl) ⟨rfl, trivial⟩ ⟨rfl, trivial⟩ trivial (R1 (d_callL (ts := [tVaK u]) (c_TValid u hu) fi66 rfl ⟨vaK_le, trivial⟩) rfl (RE (xb3 (0) ti53 rfl rfl) ⟨rfl, trivial⟩ ⟨rfl, trivial⟩ trivial (R1 (xa0 (c_R5Valid u hu hu1 hu2) fi67 rfl) rfl (R2 (d_eqlB Tryz.underlying4) rfl rfl (R1 x4 rfl (RGon (by simp) rfl (xb3 (0) ti53 rfl rfl) rfl ⟨rfl, trivial⟩ ⟨rfl, trivial⟩ trivial (RGon (by simp) rfl (xb3 (0) ti53 rfl rfl) rfl ⟨rfl, trivial⟩ ⟨rfl, trivial⟩ trivial ?_)))))))
 refine RGon (by simp) rfl (d_callL (ts := [tVaK u, tVaK v]) (c_TSame u v) fi68 rfl ⟨vaK_le, vaK_le, trivial⟩) rfl ⟨rfl, rfl, trivial⟩ trivial trivial (RGon (by simp) rfl (xb3 (0) ti53 rfl rfl) rfl ⟨rfl, trivial⟩ ⟨rfl, trivial⟩ trivial (RGon (by simp) rfl (xb3 (0) ti53 rfl rfl) rfl ⟨rfl, trivial⟩ ⟨rfl, trivial⟩ trivial (RGon (by simp) rfl (xa0 (c_R5Same u v hu1 hu2) fi69 rfl) rfl ⟨rfl, rfl, trivial⟩ trivial trivial (RGon (by simp) rfl (d_eqlB Tryz.underlying4) rfl ⟨rfl, rfl, trivial⟩ trivial trivial (R2 (xa8 (by simp)) rfl rfl (R1 x4 rfl (RGon (by simp) rfl (xb3 (0) ti53 rfl rfl) rfl ⟨rfl, trivial⟩ ⟨rfl, trivial⟩ trivial ?_)))))))
 refine RGon (by simp) rfl (xb3 (0) ti53 rfl rfl) rfl ⟨rfl, trivial⟩ ⟨rfl, trivial⟩ trivial (RGon (by simp) rfl (xa0 (c_KeptValue u hu1 hu2) fi70 rfl) rfl ⟨rfl, rfl, trivial⟩ trivial trivial (R2 (xa8 (by simp)) rfl rfl (R1 x4 rfl (RGon rfl rfl (xb3 (0) ti53 rfl rfl) rfl ⟨rfl, trivial⟩ ⟨rfl, trivial⟩ trivial (RGon rfl rfl (xb3 (0) ti53 rfl rfl) rfl ⟨rfl, trivial⟩ ⟨rfl, trivial⟩ trivial (RGon rfl rfl (xa0 (c_KeptValue v hv1 hv2) fi70 rfl) rfl ⟨rfl, rfl, trivial⟩ trivial trivial (R2 (xa8 rfl) rfl rfl ?_)))))))
 refine R1 x5 rfl (xd9 (by kernel_rfl) (x3 (xa2 ?_)))
 exact xa3 Plain.mk' rfl rfl Le.refl
theorem c_TlValues (u v : Va) (hu : u.f.dig) (hv : v.f.dig) (hu1 : u.f.n.l.length ≤ 70368744177664) (hu2 : u.f.d.l.length ≤ 70368744177664) (hv1 : v.f.n.l.length ≤ 70368744177664) (hv2 : v.f.d.l.length ≤ 70368744177664) :
  Ct Tryz.prog 5 [tVa u, tVa v] (tB true) := by
 refine Ct.intro Tryz.func5 rfl Tryz.ntmps5 rfl ?_
 intro w F
 refine x6 ?_
 refine x8 ?_
 refine RE (xd2 (k := 2) ti53 rfl) ⟨rfl, trivial⟩ trivial ⟨rfl, trivial⟩ (RE (xd2 (k := 3) ti53 rfl) ⟨rfl, trivial⟩ trivial ⟨rfl, trivial⟩ (R1 x5 rfl (x7 (by kernel_rfl) (x3 (x6 (x6 ?_))))))
 refine x8 ?_
 refine R1 (x9 fo53_1 rfl) rfl (xa5 (0) ti49 rfl rfl rfl (At.g 1 rfl rfl) rfl (R1 (xa0 (c_Limbs u.f (by omega) (by omega)) fi17 rfl) rfl (R2 d_gtr rfl rfl (R1 x4 rfl ?_))))
 refine RGcaseD (t := 9) rfl (fun h102 => ?_) (fun h102 => ?_)
 ·
  refine RGoff (decide_eq_true h102) rfl rfl (RGoff (decide_eq_true h102) rfl rfl (RGoff (decide_eq_true h102) rfl rfl (RGoff (decide_eq_true h102) rfl rfl (R2 (xa8 (decide_eq_true h102)) rfl rfl (x7 (by kernel_rfl) (x3 (C_bT rfl rfl ?_)))))))
  refine x6 ?_
  refine x8 ?_
  refine R0 (xa0 c_awake05 fi20 rfl)  (R1 x5 rfl (x7 (by kernel_rfl) (x3 (xa2 (xa6 ?_)))))
  exact xa3 Plain.mk' rfl rfl Le.refl
 ·
  refine RGon (decide_eq_false h102) rfl (x9 fo53_1 rfl) rfl ⟨rfl, trivial⟩ trivial trivial (xb2 (decide_eq_false h102) rfl rfl (0) ti49 rfl rfl rfl (At.g 1 rfl rfl) rfl (RGon (decide_eq_false h102) rfl (xa0 (c_Limbs v.f (by omega) (by omega)) fi17 rfl) rfl ⟨rfl, trivial⟩ trivial trivial (RGon (decide_eq_false h102) rfl d_gtr rfl ⟨rfl, rfl, trivial⟩ trivial trivial (R2 (xa7 (decide_eq_false h102)) rfl rfl (x7 (by kernel_rfl) (x3 ?_))))))
  refine xc2 rfl (fun h102_2 => ?_) (fun h102_2 => ?_)
  ·
   refine x6 ?_
   refine x8 ?_
   refine R0 (xa0 c_awake05 fi20 rfl)  (R1 x5 rfl (x7 (by kernel_rfl) (x3 (xa2 (xa6 ?_)))))
   exact xa3 Plain.mk' rfl rfl Le.refl
  ·
   refine xa4 (x3 (x6 ?_))
   refine x8 ?_
   refine RE (xb3 (0) ti53 rfl rfl) ⟨rfl, trivial⟩ ⟨rfl, trivial⟩ trivial (RE (xb3 (0) ti53 rfl rfl) ⟨rfl, trivial⟩ ⟨rfl, trivial⟩ trivial (R2 (xa0 (c_values u v hu hv (by omega) (by omega) (by omega) (by omega)) fi21 rfl) rfl rfl (R1 x4 rfl (RGon rfl rfl (xb3 (0) ti53 rfl rfl) rfl ⟨rfl, trivial⟩ ⟨rfl, trivial⟩ trivial (RGon rfl rfl (xb3 (0) ti53 rfl rfl) rfl ⟨rfl, trivial⟩ ⟨rfl, trivial⟩ trivial (RGon rfl rfl (xa0 (c_values v u hv hu (by omega) (by omega) (by omega) (by omega)) fi21 rfl) rfl ⟨rfl, rfl, trivial⟩ trivial trivial (R2 (xa8 rfl) rfl rfl ?_)))))))
   refine R1 x4 rfl (RGon rfl rfl (xb3 (0) ti53 rfl rfl) rfl ⟨rfl, trivial⟩ ⟨rfl, trivial⟩ trivial (RGon rfl rfl (xb3 (0) ti53 rfl rfl) rfl ⟨rfl, trivial⟩ ⟨rfl, trivial⟩ trivial (RGon rfl rfl (xa0 (c_values u u hu hu (by omega) (by omega) (by omega) (by omega)) fi21 rfl) rfl ⟨rfl, rfl, trivial⟩ trivial trivial (R2 (xa8 rfl) rfl rfl (R1 x4 rfl (RGon rfl rfl (xa0 c_awake05 fi20 rfl) rfl trivial trivial trivial (R2 (xa8 rfl) rfl rfl ?_)))))))
   refine R1 x5 rfl (x7 (by kernel_rfl) (x3 (xa2 ?_)))
   exact xa3 Plain.mk' rfl rfl Le.refl
end An.S

/- What the readers of law 5 read, within the reach: values. -/
namespace An.S
open Go Go.Proofs An
open Go.ChangeShapes Go.WideShapes Go.ChangeAt Go.RowKit
set_option maxRecDepth 100000
theorem own : ownKnob Tryz.prog.godebug = none := by kernel_rfl
theorem laidOut : laidOutB Tryz.prog = true := by kernel_rfl
theorem oBool : Opn Tryz.prog 4 1 false (fun b : Bool => tB b) (fun _ => True) := Opn.bool Tryz.underlying4 (by kernel_rfl)
theorem oInt : Opn Tryz.prog 3 1 false (fun n : Int => tI n) (fun n => IntKind.i64.min ≤ n ∧ n ≤ IntKind.i64.max) := Opn.int Tryz.underlying3 (by kernel_rfl)
theorem oU16 : Opn Tryz.prog 166 1 false (fun n : Nat => tE (.int .u16 n)) (fun n => n < 65536) := Opn.nat Tryz.underlying166 (by kernel_rfl) rfl rfl
theorem oU8 : Opn Tryz.prog 5 1 false (fun n : Nat => tE (.int .u8 n)) (fun n => n < 256) := Opn.nat Tryz.underlying5 (by kernel_rfl) rfl rfl
theorem oLm : OpnW Tryz.prog 45 1 false (fun l : List Nat => tLm l) (fun l => Dig 65536 l ∧ l.length ≤ 70368744177664) := (OpnW.slice (by_ := 2) Tryz.underlying45 (by kernel_rfl) (by kernel_rfl) (OpnW.of oU16)).as id (fun _ => rfl) (fun l h => ⟨h.1, by have h2 : l.length * 2 ≤ 140737488351232 := h.2; show l.length ≤ _; omega⟩)
/-- Numbers whose limbs are within the reach. -/
def whFits (x : Wh) : Prop := Dig 65536 x.l ∧ x.l.length ≤ 70368744177664
def frFits (x : Fr) : Prop := whFits x.n ∧ whFits x.d
theorem oWh : OpnW Tryz.prog 47 2 true (fun x : Wh => tWh x) whFits :=
  (OpnW.struct Tryz.underlying47 (by kernel_rfl) (by decide) (OpnWF.cons (OpnW.of oBool) rfl rfl (OpnWF.cons oLm rfl rfl OpnWF.nil rfl) rfl)).as (fun x => ⟨x.1, x.2.1⟩) (fun _ => rfl) (fun _ h => h.2.1)
theorem oFr : OpnW Tryz.prog 49 4 true (fun x : Fr => tFr x) frFits :=
  (OpnW.struct Tryz.underlying49 (by kernel_rfl) (by decide) (OpnWF.cons oWh rfl rfl (OpnWF.cons oWh rfl rfl OpnWF.nil rfl) rfl)).as (fun x => ⟨x.1, x.2.1⟩) (fun _ => rfl) (fun _ h => ⟨h.1, h.2.1⟩)
theorem oVa : OpnW Tryz.prog 53 6 true (fun x : Va => tVa x) (fun x => frFits x.f) :=
  (OpnW.struct Tryz.underlying53 (by kernel_rfl) (by decide) (OpnWF.cons (OpnW.of oU8) rfl rfl (OpnWF.cons oFr rfl rfl (OpnWF.cons (OpnW.of oInt) rfl rfl OpnWF.nil rfl) rfl) rfl)).as (fun x => ⟨x.1, x.2.1, x.2.2.1⟩) (fun _ => rfl) (fun _ h => h.2.1)
/-- What a contract says, as the frame of a statement wants it. -/
theorem walked {f : FuncId} {ts : List Ty} (h : Ct Tryz.prog f ts (tB true)) {vs : List Value} {W : World} (ha : Tup.all (Old W) W ts vs) : Calls Tryz.prog f vs.toArray W fun e W' => e = .returned (.bool true) ∧ Ext W W' :=
  (h (Old W) W vs ha).mono fun e W' ⟨v, h1, h2, h3⟩ => by
    have h3 : v = .bool true := h3
    subst h3; exact ⟨h1, h2⟩
end An.S
