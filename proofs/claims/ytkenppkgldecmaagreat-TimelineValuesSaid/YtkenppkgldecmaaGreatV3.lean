/- Part 3 of a proof: W4, Knuth, Dstep, W5, Div, W6, Diff, W7, Lehmer, W8, Wh, Wh2, W9, Wh3, W10, Fr. -/
import Derived.Lib.BitFns
import Derived.Test.YtkenppkgldecmaaGreatV2
/- Package whole: products and quotients by a word. -/
namespace An.S
open Go Go.Proofs An
theorem fi260 : FnI Tryz.prog 260 := ⟨_, Tryz.func260, by kernel_rfl, rfl⟩
theorem c_times (a b : Nat) (ha : (dig 4294967296 a).length ≤ 100000) (hb : (dig 4294967296 b).length ≤ 100000) :
  Ct Tryz.prog 205 [tN a, tN b] (tN (a * b)) := by
 refine Ct.intro Tryz.func205 rfl Tryz.ntmps205 rfl ?_
 intro w F
 have hbW := lt_len xb5 b
 refine x6 ?_
 refine x8 ?_
 refine R1 x5 rfl (x7 (by kernel_rfl) (x3 (x6 ?_)))
 refine x8 ?_
 refine R1 x4 rfl (R1 (xb9 Tryz.underlying179) rfl (R1 x4 rfl (R1 (xb9 Tryz.underlying179) rfl (R2 (xc4 (wr64 (by omega) (by omega))) rfl rfl (RE (d_makeO (k := 17) (t := tE (.int .u32 0)) (ts := rW .u32 (List.replicate (((dig 4294967296 a).length + (dig 4294967296 b).length)) 0)) (((dig 4294967296 a).length + (dig 4294967296 b).length)) (((dig 4294967296 a).length + (dig 4294967296 b).length)) Tryz.underlying179 el218 (fun _ _ => rfl) rfl (by omega) (by omega) (Nat.le_refl _) (by omega) (by omega) (rW_rep _)) ⟨rfl, rfl, trivial⟩ trivial ⟨rfl, trivial⟩ (R1 x5 rfl (x7 (by kernel_rfl) ?_)))))))
 refine x3 (x6 (x6 ?_))
 refine x8 ?_
 refine R1 x4 rfl (R1 (xb9 Tryz.underlying179) rfl (R1 x4 rfl (x7 (by kernel_rfl) (x3 (xa9 ?_)))))
 refine xd6 (fun (fm : (Nat) × (List Nat)) => (fun (i : Nat) (ws : List Nat) => i ≤ (dig 4294967296 a).length ∧ ws.length = (dig 4294967296 a).length + (dig 4294967296 b).length ∧ Dig 4294967296 ws ∧ ws.drop (i + (dig 4294967296 b).length) = List.replicate ((dig 4294967296 a).length - i) 0 ∧ val 4294967296 (ws.take (i + (dig 4294967296 b).length)) = a % 4294967296 ^ i * b) fm.1 fm.2) (fun (fm : (Nat) × (List Nat)) => (fun (i : Nat) (ws : List Nat) => upd (upd (upd (upd (upd (fun _ => none) 1 (some (.val (tN b)))) 5 (some (.own (.sl 17 1 0 ((dig 4294967296 a).length + (dig 4294967296 b).length))))) 18 (some (.val (tN a)))) 19 (some (.val (tI (dig 4294967296 a).length)))) 20 (some (.val (tI i)))) fm.1 fm.2) (fun (fm : (Nat) × (List Nat)) => (fun (i : Nat) (ws : List Nat) => upd (fun _ => none) 17 (some (⟨218, 1, false, rW .u32 ws⟩))) fm.1 fm.2) (nm [17]) (fun (fm : (Nat) × (List Nat)) => (fun (i : Nat) (ws : List Nat) => (dig 4294967296 a).length - i) fm.1 fm.2) ((0, List.replicate ((dig 4294967296 a).length + (dig 4294967296 b).length) 0)) (by dsimp only; exact ⟨Nat.zero_le _, by simp, Dig.rep (by decide) _, by rw [List.drop_replicate]; congr 1; omega, by rw [List.take_replicate, xh4, Nat.pow_zero, Nat.mod_one, Nat.zero_mul]⟩) (Sub.int rfl (by first | omega | rfl | (dsimp only; omega)) (Sub.int rfl (by first | omega | rfl | (dsimp only; omega)) (Sub.cons rfl (Sub.cons rfl (Sub.cons rfl Sub.nil))))) ((SubK.consI rfl ImpK.refl) SubK.nil) (SupG.val (SupG.val (SupG.val (SupG.own rfl (SupG.val SupG.nil))))) (SupH.cons rfl (supJ xc5) SupH.nil) (lkOk rfl) ?_
 intro fm hI
 obtain ⟨i, ws⟩ := fm
 replace hI : i ≤ (dig 4294967296 a).length ∧ ws.length = (dig 4294967296 a).length + (dig 4294967296 b).length ∧ Dig 4294967296 ws ∧ ws.drop (i + (dig 4294967296 b).length) = List.replicate ((dig 4294967296 a).length - i) 0 ∧ val 4294967296 (ws.take (i + (dig 4294967296 b).length)) = a % 4294967296 ^ i * b := hI
 show wc _ _ _ _ (upd (upd (upd (upd (upd (fun _ => none) 1 (some (.val (tN b)))) 5 (some (.own (.sl 17 1 0 ((dig 4294967296 a).length + (dig 4294967296 b).length))))) 18 (some (.val (tN a)))) 19 (some (.val (tI (dig 4294967296 a).length)))) 20 (some (.val (tI i)))) (upd (fun _ => none) 17 (some (⟨218, 1, false, rW .u32 ws⟩))) _
 obtain ⟨hi, hl, hD, hz, hv⟩ := hI
 have hx := xe6 xb5 a i
 have hx1 := (xe9 xb5 a).getD (by omega) i
 refine x6 ?_
 refine x8 ?_
 refine R2 xd5 rfl rfl (x7 (by kernel_rfl) (x3 (x6 ?_)))
 refine xc2 rfl (fun h137 => ?_) (fun h137 => ?_)
 ·
  refine xa4 (x3 (x6 (xa9 (x6 ?_))))
  refine x8 ?_
  refine R1 x4 rfl (R2 (xb8 sl179 (i) (by omega) (gN (by omega))) rfl rfl (R1 (xc1 ti218) rfl (R1 x5 rfl (R1 x5 rfl (x7 (by kernel_rfl) (x3 (x6 ?_)))))))
  refine x8 ?_
  refine R1 x5 rfl (x7 (by kernel_rfl) (x3 (x6 (x6 ?_))))
  refine x8 ?_
  refine R1 x4 rfl (R1 (xb9 Tryz.underlying179) rfl (R1 x4 rfl (x7 (by kernel_rfl) (x3 (xa9 ?_)))))
  refine xd6 (fun (fm : (Nat) × (List Nat) × (Nat)) => (fun (j : Nat) (vs : List Nat) (c : Nat) => j ≤ (dig 4294967296 b).length ∧ vs.length = (dig 4294967296 a).length + (dig 4294967296 b).length ∧ Dig 4294967296 vs ∧ vs.drop (i + j) = ws.drop (i + j) ∧ c < 4294967296 ∧ val 4294967296 (vs.take (i + j)) + c * 4294967296 ^ (i + j) = val 4294967296 (ws.take (i + j)) + (dig 4294967296 a).getD i 0 * 4294967296 ^ i * (b % 4294967296 ^ j)) fm.1 fm.2.1 fm.2.2) (fun (fm : (Nat) × (List Nat) × (Nat)) => (fun (j : Nat) (vs : List Nat) (c : Nat) => upd (upd (upd (upd (upd (upd (upd (upd (upd (upd (upd (fun _ => none) 1 (some (.val (tN b)))) 5 (some (.own (.sl 17 1 0 ((dig 4294967296 a).length + (dig 4294967296 b).length))))) 6 (some (.val (tI i)))) 7 (some (.val (tE (.int .u32 ((dig 4294967296 a).getD i 0 : Nat)))))) 8 (some (.val (tE (.int .u64 (c : Int)))))) 18 (some (.val (tN a)))) 19 (some (.val (tI (dig 4294967296 a).length)))) 20 (some (.val (tI i)))) 25 (some (.val (tN b)))) 26 (some (.val (tI (dig 4294967296 b).length)))) 27 (some (.val (tI j)))) fm.1 fm.2.1 fm.2.2) (fun (fm : (Nat) × (List Nat) × (Nat)) => (fun (j : Nat) (vs : List Nat) (c : Nat) => upd (fun _ => none) 17 (some (⟨218, 1, false, rW .u32 vs⟩))) fm.1 fm.2.1 fm.2.2) (nm [17]) (fun (fm : (Nat) × (List Nat) × (Nat)) => (fun (j : Nat) (vs : List Nat) (c : Nat) => (dig 4294967296 b).length - j) fm.1 fm.2.1 fm.2.2) ((0, ws, 0)) (by dsimp only; exact ⟨Nat.zero_le _, hl, hD, rfl, by omega, by rw [Nat.pow_zero, Nat.mod_one]; omega⟩) (Sub.int rfl (by first | omega | rfl | (dsimp only; omega)) (Sub.int rfl (by first | omega | rfl | (dsimp only; omega)) (Sub.cons rfl (Sub.int rfl (by first | omega | rfl | (dsimp only; omega)) (Sub.int rfl (by first | omega | rfl | (dsimp only; omega)) (Sub.cons rfl (Sub.int rfl (by first | omega | rfl | (dsimp only; omega)) (Sub.int rfl (by first | omega | rfl | (dsimp only; omega)) (Sub.int rfl (by first | omega | rfl | (dsimp only; omega)) (Sub.cons rfl (Sub.cons rfl Sub.nil))))))))))) ((SubK.consI rfl ImpK.refl) SubK.nil) (SupG.val (SupG.val (SupG.val (SupG.val (SupG.val (SupG.val (SupG.val (SupG.val (SupG.val (SupG.own rfl (SupG.val SupG.nil))))))))))) (SupH.cons rfl (supJ xc5) SupH.nil) (lkOk rfl) ?_
  intro fm hJ
  obtain ⟨j, vs, c⟩ := fm
  replace hJ : j ≤ (dig 4294967296 b).length ∧ vs.length = (dig 4294967296 a).length + (dig 4294967296 b).length ∧ Dig 4294967296 vs ∧ vs.drop (i + j) = ws.drop (i + j) ∧ c < 4294967296 ∧ val 4294967296 (vs.take (i + j)) + c * 4294967296 ^ (i + j) = val 4294967296 (ws.take (i + j)) + (dig 4294967296 a).getD i 0 * 4294967296 ^ i * (b % 4294967296 ^ j) := hJ
  show wc _ _ _ _ (upd (upd (upd (upd (upd (upd (upd (upd (upd (upd (upd (fun _ => none) 1 (some (.val (tN b)))) 5 (some (.own (.sl 17 1 0 ((dig 4294967296 a).length + (dig 4294967296 b).length))))) 6 (some (.val (tI i)))) 7 (some (.val (tE (.int .u32 ((dig 4294967296 a).getD i 0 : Nat)))))) 8 (some (.val (tE (.int .u64 (c : Int)))))) 18 (some (.val (tN a)))) 19 (some (.val (tI (dig 4294967296 a).length)))) 20 (some (.val (tI i)))) 25 (some (.val (tN b)))) 26 (some (.val (tI (dig 4294967296 b).length)))) 27 (some (.val (tI j)))) (upd (fun _ => none) 17 (some (⟨218, 1, false, rW .u32 vs⟩))) _
  obtain ⟨hj, kl, kD, kdr, kc, kv⟩ := hJ
  have hy := xe6 xb5 b j
  have hy1 := (xe9 xb5 b).getD (by omega) j
  have hw1 := kD.getD (by omega) (i + j)
  have hxy := mul_lt32 hx1 hy1
  refine x6 ?_
  refine x8 ?_
  refine R2 xd5 rfl rfl (x7 (by kernel_rfl) (x3 (x6 ?_)))
  refine xc2 rfl (fun h139 => ?_) (fun h139 => ?_)
  ·
   refine xa4 (x3 (x6 (xa9 (x6 ?_))))
   refine x8 ?_
   refine R1 x4 rfl (R2 (xb8 sl179 (j) (by omega) (gN (by omega))) rfl rfl (R1 (xc1 ti218) rfl (R1 x5 rfl (R1 x5 rfl (x7 (by kernel_rfl) (x3 (x6 ?_)))))))
   refine x8 ?_
   refine R1 x4 rfl (R1 (xb4 Tryz.underlying142 (isS Tryz.underlying218) (by first | exact wu64 (by omega) (by omega) | exact mu64)) rfl (R1 x4 rfl (R1 (xb4 Tryz.underlying142 (isS Tryz.underlying218) (by first | exact wu64 (by omega) (by omega) | exact mu64)) rfl (R2 (d_mul (wmul64 (by omega))) rfl rfl (R1 x4 rfl (R1 x4 rfl (R1 x4 rfl ?_)))))))
   refine R2 (xc4 (wr64 (by omega) (by omega))) rfl rfl (R2 (xd7 sl179 (by omega) (by omega) rfl) rfl rfl (RE (xb3 (i + j) ti218 (rW_get (by omega)) (by omega)) ⟨rfl, trivial⟩ ⟨rfl, trivial⟩ trivial (R1 (xb4 Tryz.underlying142 (isS Tryz.underlying218) (by first | exact wu64 (by omega) (by omega) | exact mu64)) rfl (R2 (xc4 (wadd64 (by omega))) rfl rfl (R1 x4 rfl (R2 (xc4 (wadd64 (by omega))) rfl rfl (R1 x5 rfl ?_)))))))
   refine x7 (by kernel_rfl) (x3 (x6 ?_))
   refine x8 ?_
   refine R1 x4 rfl (R1 x4 rfl (R1 x4 rfl (R2 (xc4 (wr64 (by omega) (by omega))) rfl rfl (R1 x4 rfl (R1 (xb4 Tryz.underlying218 (isS Tryz.underlying142) cut32) rfl (R2 (xd7 sl179 (by omega) (by omega) rfl) rfl rfl (RE (xb0 (i + j) ti218 (rW_lt (by omega)) (by omega) (rW_set (m := _) rfl)) ⟨rfl, rfl, trivial⟩ ⟨rfl, trivial⟩ trivial ?_)))))))
   refine x7 (by kernel_rfl) (x3 ?_)
   refine x8 ?_
   refine R1 x4 rfl (R2 (d_shr (by decide) shr32) rfl rfl (R1 x5 rfl (x7 (by kernel_rfl) (xc6 (x3 ?_)))))
   refine x8 ?_
   refine R2 (xc4 (wr64 (by omega) (by omega))) rfl rfl (R1 x4 rfl (x7 (by kernel_rfl) ?_))
   obtain ⟨n1, n2, n3, n4, n5⟩ := times_in (s := (dig 4294967296 a).getD i 0 * (dig 4294967296 b).getD j 0 + vs.getD (i + j) 0 + c) kl kD hl kdr (by omega) kc hx1 hy rfl kv
   exact xc7 ((j + 1, vs.set (i + j) (((dig 4294967296 a).getD i 0 * (dig 4294967296 b).getD j 0 + vs.getD (i + j) 0 + c) % 4294967296), ((dig 4294967296 a).getD i 0 * (dig 4294967296 b).getD j 0 + vs.getD (i + j) 0 + c) / 4294967296)) ⟨(by dsimp only; exact ⟨by omega, n1, n2, n3, n4, n5⟩), (by dsimp only; omega)⟩ (Sub.int rfl (by first | omega | rfl | (dsimp only; omega)) (Sub.int rfl (by first | omega | rfl | (dsimp only; omega)) (Sub.cons rfl (Sub.int rfl (by first | omega | rfl | (dsimp only; omega)) (Sub.int rfl (by first | omega | rfl | (dsimp only; omega)) (Sub.cons rfl (Sub.int rfl (by first | omega | rfl | (dsimp only; omega)) (Sub.int rfl (by first | omega | rfl | (dsimp only; omega)) (Sub.int rfl (by first | omega | rfl | (dsimp only; omega)) (Sub.cons rfl (Sub.cons rfl Sub.nil))))))))))) ((SubK.consI rfl ImpK.refl) SubK.nil) (SupG.val (SupG.val (SupG.val (SupG.val (SupG.val (SupG.val (SupG.val (SupG.val (SupG.val (SupG.own rfl (SupG.val SupG.nil))))))))))) (SupH.cons rfl (supJ xc5) SupH.nil) (lkOk rfl)
  ·
   have hjb : j = (dig 4294967296 b).length := by omega
   refine xd1 (xc0 (xc0 (xd8 (x3 ?_))))
   refine x8 ?_
   refine R1 x4 rfl (R1 x4 rfl (R1 x4 rfl (R1 (xb9 Tryz.underlying179) rfl (R2 (xc4 (wr64 (by omega) (by omega))) rfl rfl (R1 x4 rfl (R1 (xb4 Tryz.underlying218 (isS Tryz.underlying142) (wu32 (by omega) (by omega))) rfl (R2 (xd7 sl179 (by omega) (by omega) rfl) rfl rfl ?_)))))))
   refine RE (xb0 (i + (dig 4294967296 b).length) ti218 (rW_lt (by omega)) (by omega) (rW_set (m := _) rfl)) ⟨rfl, rfl, trivial⟩ ⟨rfl, trivial⟩ trivial (x7 (by kernel_rfl) (xc6 (x3 ?_)))
   refine x8 ?_
   refine R2 (xc4 (wr64 (by omega) (by omega))) rfl rfl (R1 x4 rfl (x7 (by kernel_rfl) ?_))
   obtain ⟨n1, n2, n3, n4⟩ := times_out (by omega) hl kl kD (by rw [← hjb]; exact kdr) hz kc hv hbW (by rw [← hjb, ← hx]; exact kv)
   exact xc7 ((i + 1, vs.set (i + (dig 4294967296 b).length) c)) ⟨(by dsimp only; exact ⟨by omega, n1, n2, n3, n4⟩), (by dsimp only; omega)⟩ (Sub.int rfl (by first | omega | rfl | (dsimp only; omega)) (Sub.int rfl (by first | omega | rfl | (dsimp only; omega)) (Sub.cons rfl (Sub.cons rfl (Sub.cons rfl Sub.nil))))) ((SubK.consI rfl ImpK.refl) SubK.nil) (SupG.val (SupG.val (SupG.val (SupG.own rfl (SupG.val SupG.nil))))) (SupH.cons rfl (supJ xc5) SupH.nil) (lkOk rfl)
 ·
  refine xd1 (xc0 (xc0 (xd8 (x3 (x6 ?_)))))
  refine x8 ?_
  refine RE (d_moveS (fun _ h => h) (rW_all hl) hl) ⟨rfl, trivial⟩ ⟨rfl, trivial⟩ trivial (RE (xa0 (c_trim _) fi241 rfl) ⟨rfl, trivial⟩ trivial trivial (R1 x5 rfl (x7 (by kernel_rfl) (x3 (xa2 ?_)))))
  exact xa3 Plain.mk' rfl rfl (Le.of (congrArg tWs (times_end hl hD (lt_len xb5 a) (by rw [← show i = (dig 4294967296 a).length by omega]; exact hv))))
theorem c_divideShort (a d : Nat) (ha : (dig 4294967296 a).length ≤ 100000) (hd : 0 < d) (hdW : d < 4294967296) :
  Ct Tryz.prog 244 [tN a, tE (.int .u32 (d : Int))] (tT [tN (a / d), tE (.int .u32 ((a % d : Nat) : Int))]) := by
 refine Ct.intro Tryz.func244 rfl Tryz.ntmps244 rfl ?_
 intro w F
 refine x6 ?_
 refine x8 ?_
 refine R1 x5 rfl (R1 x5 rfl (x7 (by kernel_rfl) (x3 (x6 ?_))))
 refine x8 ?_
 refine R1 x4 rfl (R1 (xb9 Tryz.underlying179) rfl (RE (d_makeO (k := 11) (t := tE (.int .u32 0)) (ts := rW .u32 (List.replicate ((dig 4294967296 a).length) 0)) ((dig 4294967296 a).length) ((dig 4294967296 a).length) Tryz.underlying179 el218 (fun _ _ => rfl) rfl (by omega) (by omega) (Nat.le_refl _) (by omega) (by omega) (rW_rep _)) ⟨rfl, rfl, trivial⟩ trivial ⟨rfl, trivial⟩ (R1 x5 rfl (x7 (by kernel_rfl) (x3 (x6 ?_))))))
 refine x8 ?_
 refine R1 x5 rfl (x7 (by kernel_rfl) (x3 (x6 (x6 ?_))))
 refine x8 ?_
 refine R1 x4 rfl (R1 (xb9 Tryz.underlying179) rfl (R2 (xe4 (wr64 (by omega) (by omega))) rfl rfl (R1 x5 rfl (x7 (by kernel_rfl) (x3 (xa9 ?_))))))
 refine xd6 (fun (fm : (Nat) × (List Nat)) => (fun (k : Nat) (qs : List Nat) => k ≤ (dig 4294967296 a).length ∧ qs.length = (dig 4294967296 a).length ∧ Dig 4294967296 qs ∧ val 4294967296 (qs.drop k) = a / 4294967296 ^ k / d) fm.1 fm.2) (fun (fm : (Nat) × (List Nat)) => (fun (k : Nat) (qs : List Nat) => upd (upd (upd (upd (upd (fun _ => none) 0 (some (.val (tN a)))) 1 (some (.val (tE (.int .u32 (d : Int)))))) 6 (some (.own (.sl 11 1 0 (dig 4294967296 a).length)))) 7 (some (.val (tE (.int .u32 ((a / 4294967296 ^ k % d : Nat) : Int)))))) 8 (some (.val (tI ((k : Int) - 1))))) fm.1 fm.2) (fun (fm : (Nat) × (List Nat)) => (fun (k : Nat) (qs : List Nat) => upd (fun _ => none) 11 (some (⟨218, 1, false, rW .u32 qs⟩))) fm.1 fm.2) (nm [11]) (fun (fm : (Nat) × (List Nat)) => (fun (k : Nat) (qs : List Nat) => k) fm.1 fm.2) (((dig 4294967296 a).length, List.replicate (dig 4294967296 a).length 0)) (by dsimp only; exact ⟨Nat.le_refl _, by simp, Dig.rep (by decide) _, by rw [Nat.div_eq_of_lt (lt_len xb5 a), Nat.zero_div, List.drop_replicate, xh4]⟩) (Sub.int rfl (by first | omega | rfl | (dsimp only; omega)) (Sub.le rfl (Le.int (by rw [Nat.div_eq_of_lt (lt_len xb5 a), Nat.zero_mod]; rfl)) (Sub.cons rfl (Sub.int rfl (by first | omega | rfl | (dsimp only; omega)) (Sub.cons rfl Sub.nil))))) ((SubK.consI rfl ImpK.refl) SubK.nil) (SupG.val (SupG.val (SupG.own rfl (SupG.val (SupG.val SupG.nil))))) (SupH.cons rfl (supJ xc5) SupH.nil) (lkOk rfl) ?_
 intro fm hI
 obtain ⟨k, qs⟩ := fm
 replace hI : k ≤ (dig 4294967296 a).length ∧ qs.length = (dig 4294967296 a).length ∧ Dig 4294967296 qs ∧ val 4294967296 (qs.drop k) = a / 4294967296 ^ k / d := hI
 show wc _ _ _ _ (upd (upd (upd (upd (upd (fun _ => none) 0 (some (.val (tN a)))) 1 (some (.val (tE (.int .u32 (d : Int)))))) 6 (some (.own (.sl 11 1 0 (dig 4294967296 a).length)))) 7 (some (.val (tE (.int .u32 ((a / 4294967296 ^ k % d : Nat) : Int)))))) 8 (some (.val (tI ((k : Int) - 1))))) (upd (fun _ => none) 11 (some (⟨218, 1, false, rW .u32 qs⟩))) _
 obtain ⟨hk, hl, hD, hv⟩ := hI
 have hr : a / 4294967296 ^ k % d < d := Nat.mod_lt _ hd
 refine x6 (x6 ?_)
 refine x8 ?_
 refine R1 x4 rfl (R2 d_geq rfl rfl (x7 (by kernel_rfl) (x3 ?_)))
 refine xc2 rfl (fun h166 => ?_) (fun h166 => ?_)
 ·
  have hx := xe6 xb5 a (k - 1)
  have hx1 := (xe9 xb5 a).getD (by omega) (k - 1)
  obtain ⟨n1, n2, n3, n4, n5⟩ := dshort_in (k := k - 1) (by omega) hl hD hd rfl (by rw [show k - 1 + 1 = k by omega]; exact hv) (by rw [show k - 1 + 1 = k by omega, ← hx])
  rw [show k - 1 + 1 = k by omega] at n3
  refine xa4 (x3 (x6 (xa9 ?_)))
  refine x8 ?_
  refine R1 x4 rfl (R1 x4 rfl (R1 x4 rfl (R1 x4 rfl (R1 x4 rfl (R2 (xb8 sl179 (k - 1) (by omega) (gN (by omega))) rfl rfl (R1 (xc1 ti218) rfl (R1 x4 rfl ?_)))))))

  refine RE (xa0 (c_Div32 _ _ _ _ _ (by omega) (by omega) (by omega) rfl rfl) fi260 rfl) ⟨rfl, rfl, rfl, trivial⟩ trivial trivial (R1 x4 rfl (R1 (xb7 rfl) rfl (R1 (xb7 rfl) rfl (R2 (xd7 sl179 (by omega) (by omega) rfl) rfl rfl (RE (xb0 (k - 1) ti218 (rW_lt (by omega)) (by omega) (rW_set (m := _) rfl)) ⟨rfl, rfl, trivial⟩ ⟨rfl, trivial⟩ trivial (R1 x5 rfl (x7 (by kernel_rfl) ?_)))))))
  refine xc6 (x3 ?_)
  refine x8 ?_
  refine R1 x4 rfl (R2 (xe4 (wr64 (by omega) (by omega))) rfl rfl (R1 x5 rfl (x7 (by kernel_rfl) ?_)))
  exact xc7 ((k - 1, qs.set (k - 1) (((dig 4294967296 a).getD (k - 1) 0 + a / 4294967296 ^ k % d * 2 ^ 32) / d))) ⟨(by dsimp only; exact ⟨by omega, n1, n2, n4⟩), (by dsimp only; omega)⟩ (Sub.int rfl (by first | omega | rfl | (dsimp only; omega)) (Sub.le rfl (Le.int (by dsimp only; rw [hx, n3])) (Sub.cons rfl (Sub.int rfl (by first | omega | rfl | (dsimp only; omega)) (Sub.cons rfl Sub.nil))))) ((SubK.consI rfl ImpK.refl) SubK.nil) (SupG.val (SupG.val (SupG.own rfl (SupG.val (SupG.val SupG.nil))))) (SupH.cons rfl (supJ xc5) SupH.nil) (lkOk rfl)
 ·
  refine xd1 (xc0 (xc0 (xd8 (x3 (x6 ?_)))))
  refine x8 ?_
  refine RE (d_moveS (fun _ h => h) (rW_all hl) hl) ⟨rfl, trivial⟩ ⟨rfl, trivial⟩ trivial (RE (xa0 (c_trim _) fi241 rfl) ⟨rfl, trivial⟩ trivial trivial (R1 x4 rfl (R1 x5 rfl (R1 x5 rfl (x7 (by kernel_rfl) (x3 (xa2 ?_)))))))
  exact xf2 Plain.mk' rfl rfl rfl (Le.of (by rw [xf9 xb5 hD, show val 4294967296 qs = a / d by rw [show k = 0 by omega] at hv; simpa using hv])) (Le.int (by rw [show k = 0 by omega, Nat.pow_zero, Nat.div_one]))
theorem c_shifted (a s : Nat) (ha : (dig 4294967296 a).length ≤ 100000) (hs : s ≤ 31) :
  CtG Tryz.prog 246 [] [.val (tN a), .val (tI s)] (.own (.sl 12 1 0 ((dig 4294967296 a).length + 1))) [(12, ⟨218, 1, false, rW .u32 (dgs 4294967296 ((dig 4294967296 a).length + 1) (a * 2 ^ s))⟩)] [12] := by
 refine CtG.intro [] Tryz.func246 rfl Tryz.ntmps246 rfl rfl trivial ?_
 intro w F η
 refine x6 ?_
 refine x8 ?_
 refine R1 x5 rfl (x7 (by kernel_rfl) (x3 (x6 ?_)))
 refine x8 ?_
 refine R1 x4 rfl (R1 (xb9 Tryz.underlying179) rfl (R2 (xc4 (wr64 (by omega) (by omega))) rfl rfl (RE (d_makeO (k := 12) (t := tE (.int .u32 0)) (ts := rW .u32 (List.replicate ((dig 4294967296 a).length + 1) 0)) ((dig 4294967296 a).length + 1) ((dig 4294967296 a).length + 1) Tryz.underlying179 el218 (fun _ _ => rfl) rfl (by omega) (by omega) (Nat.le_refl _) (by omega) (by omega) (rW_rep _)) ⟨rfl, rfl, trivial⟩ trivial ⟨rfl, trivial⟩ (R1 x5 rfl (x7 (by kernel_rfl) (x3 (x6 ?_)))))))
 refine x6 ?_
 refine x8 ?_
 refine R1 x4 rfl (R1 (xb9 Tryz.underlying179) rfl (R1 x4 rfl (x7 (by kernel_rfl) (x3 (xa9 ?_)))))
 refine xd6 (fun (fm : (Nat) × (List Nat)) => (fun (i : Nat) (ws : List Nat) => i ≤ (dig 4294967296 a).length ∧ ws.length = (dig 4294967296 a).length + 1 ∧ Dig 4294967296 ws ∧ ws.drop (i + 1) = List.replicate ((dig 4294967296 a).length - i) 0 ∧ val 4294967296 (ws.take (i + 1)) = a % 4294967296 ^ i * 2 ^ s) fm.1 fm.2) (fun (fm : (Nat) × (List Nat)) => (fun (i : Nat) (ws : List Nat) => upd (upd (upd (upd (upd (fun _ => none) 1 (some (.val (tI s)))) 5 (some (.own (.sl 12 1 0 ((dig 4294967296 a).length + 1))))) 13 (some (.val (tN a)))) 14 (some (.val (tI (dig 4294967296 a).length)))) 15 (some (.val (tI i)))) fm.1 fm.2) (fun (fm : (Nat) × (List Nat)) => (fun (i : Nat) (ws : List Nat) => upd (fun _ => none) 12 (some (⟨218, 1, false, rW .u32 ws⟩))) fm.1 fm.2) (nm [12]) (fun (fm : (Nat) × (List Nat)) => (fun (i : Nat) (ws : List Nat) => (dig 4294967296 a).length - i) fm.1 fm.2) ((0, List.replicate ((dig 4294967296 a).length + 1) 0)) (by dsimp only; exact ⟨Nat.zero_le _, by simp, Dig.rep (by decide) _, by rw [List.drop_replicate]; congr 1, by rw [List.take_replicate, xh4, Nat.pow_zero, Nat.mod_one, Nat.zero_mul]⟩) (Sub.int rfl (by first | omega | rfl | (dsimp only; omega)) (Sub.int rfl (by first | omega | rfl | (dsimp only; omega)) (Sub.cons rfl (Sub.cons rfl (Sub.int rfl (by first | omega | rfl | (dsimp only; omega)) Sub.nil))))) ((SubK.consI rfl ImpK.refl) SubK.nil) (SupG.val (SupG.val (SupG.val (SupG.own rfl (SupG.val SupG.nil))))) (SupH.cons rfl (supJ xc5) SupH.nil) (lkOk rfl) ?_
 intro fm hI
 obtain ⟨i, ws⟩ := fm
 replace hI : i ≤ (dig 4294967296 a).length ∧ ws.length = (dig 4294967296 a).length + 1 ∧ Dig 4294967296 ws ∧ ws.drop (i + 1) = List.replicate ((dig 4294967296 a).length - i) 0 ∧ val 4294967296 (ws.take (i + 1)) = a % 4294967296 ^ i * 2 ^ s := hI
 show wc _ _ _ _ (upd (upd (upd (upd (upd (fun _ => none) 1 (some (.val (tI s)))) 5 (some (.own (.sl 12 1 0 ((dig 4294967296 a).length + 1))))) 13 (some (.val (tN a)))) 14 (some (.val (tI (dig 4294967296 a).length)))) 15 (some (.val (tI i)))) (upd (fun _ => none) 12 (some (⟨218, 1, false, rW .u32 ws⟩))) _
 obtain ⟨hi, hl, hD, hz, hv⟩ := hI
 have hx := xe6 xb5 a i
 have hx1 := (xe9 xb5 a).getD (by omega) i
 refine x6 ?_
 refine x8 ?_
 refine R2 xd5 rfl rfl (x7 (by kernel_rfl) (x3 (x6 ?_)))
 refine xc2 rfl (fun h175 => ?_) (fun h175 => ?_)
 ·
  refine xa4 (x3 (x6 (xa9 (x6 ?_))))
  refine x8 ?_
  refine R1 x4 rfl (R2 (xb8 sl179 (i) (by omega) (gN (by omega))) rfl rfl (R1 (xc1 ti218) rfl (R1 x5 rfl (R1 x5 rfl (x7 (by kernel_rfl) (x3 (x6 ?_)))))))
  refine x8 ?_
  refine R1 x4 rfl (R1 (xb4 Tryz.underlying142 (isS Tryz.underlying218) (by first | exact wu64 (by omega) (by omega) | exact mu64)) rfl (R1 x4 rfl ?_))
  have hw := shl_lt hx1 hs
  have ht := top_lt (by omega) hv
  obtain ⟨ho, hoW⟩ := shl_or ht hx1 hs
  refine R2 (d_shl (by omega) (shlN64 (s := s) rfl (by omega) (by omega))) rfl rfl (R1 x5 rfl (x7 (by kernel_rfl) (x3 (x6 ?_))))
  refine x8 ?_
  refine R1 x4 rfl (R1 x4 rfl (R2 (xd7 sl179 (by omega) (by omega) rfl) rfl rfl (RE (xb3 (i) ti218 (rW_get (by omega)) (by omega)) ⟨rfl, trivial⟩ ⟨rfl, trivial⟩ trivial (R1 x4 rfl (R1 (xb4 Tryz.underlying218 (isS Tryz.underlying142) cut32) rfl (R2 (d_or ho) rfl rfl (R2 (xd7 sl179 (by omega) (by omega) rfl) rfl rfl ?_)))))))
  refine RE (xb0 (i) ti218 (rW_lt (by omega)) (by omega) (rW_set (m := _) rfl)) ⟨rfl, rfl, trivial⟩ ⟨rfl, trivial⟩ trivial (x7 (by kernel_rfl) (x3 ?_))
  refine x8 ?_
  refine R1 x4 rfl (R1 x4 rfl (R2 (xc4 (wr64 (by omega) (by omega))) rfl rfl (R1 x4 rfl (R2 (d_shr (by decide) shr32) rfl rfl (R1 (xb4 Tryz.underlying218 (isS Tryz.underlying142) (wu32 (by omega) (by omega))) rfl (R2 (xd7 sl179 (by omega) (by omega) rfl) rfl rfl (RE (xb0 (i + 1) ti218 (rW_lt (by rw [List.length_set]; omega)) (by omega) (rW_set (m := _) rfl)) ⟨rfl, rfl, trivial⟩ ⟨rfl, trivial⟩ trivial ?_)))))))
  refine x7 (by kernel_rfl) (xc6 (x3 ?_))
  refine x8 ?_
  refine R2 (xc4 (wr64 (by omega) (by omega))) rfl rfl (R1 x4 rfl (x7 (by kernel_rfl) ?_))
  obtain ⟨n1, n2, n3, n4⟩ := shift_in (by omega) hl hD hs hx hz hv
  exact xc7 ((i + 1, (ws.set i (ws.getD i 0 + (dig 4294967296 a).getD i 0 * 2 ^ s % 4294967296)).set (i + 1) ((dig 4294967296 a).getD i 0 * 2 ^ s / 4294967296))) ⟨(by dsimp only; exact ⟨by omega, n1, n2, n3, n4⟩), (by dsimp only; omega)⟩ (Sub.int rfl (by first | omega | rfl | (dsimp only; omega)) (Sub.int rfl (by first | omega | rfl | (dsimp only; omega)) (Sub.cons rfl (Sub.cons rfl (Sub.int rfl (by first | omega | rfl | (dsimp only; omega)) Sub.nil))))) ((SubK.consI rfl ImpK.refl) SubK.nil) (SupG.val (SupG.val (SupG.val (SupG.own rfl (SupG.val SupG.nil))))) (SupH.cons rfl (supJ xc5) SupH.nil) (lkOk rfl)
 ·
  refine xd1 (xc0 (xc0 (xd8 (x3 (x6 ?_)))))
  refine x8 ?_
  refine R1 x4 rfl (R1 x5 rfl (x7 (by kernel_rfl) (x3 (xa2 ?_))))
  have hA : i = (dig 4294967296 a).length := by omega
  subst hA
  have hw := shift_end hl hD (lt_len xb5 a) hv
  subst hw
  exact xh9 LentC.mk' rfl rfl Imp.refl ⟨rfl, trivial⟩ rfl ⟨⟨rfl, xc5⟩, trivial⟩ rfl
end An.S

/- One digit of a long division, estimated from the first digits; what is left is computed by subtracting. -/
namespace An
theorem quo_le {P U V m w q : Nat} (hV : w * P ≤ V) (hU : U < (m + 1) * P) (hq : q * V ≤ U) : q * w ≤ m := by
  have h1 : q * w * P ≤ U := by
    rw [Nat.mul_assoc]
    exact Nat.le_trans (Nat.mul_le_mul_left _ hV) hq
  have h2 : q * w < m + 1 := Nat.lt_of_mul_lt_mul_right (Nat.lt_of_le_of_lt h1 hU)
  omega
theorem quo_ge {P U V m w d : Nat} (hV0 : 0 < V) (hV : V ≤ (w + 1) * P) (hU : m * P ≤ U) (hd : d * w ≤ m) (hdP : d * P ≤ V) : d ≤ U / V + 1 := by
  rcases Nat.eq_zero_or_pos d with h0 | h0
  · rw [h0]; exact Nat.zero_le _
  have h1 : d * V ≤ U + V := by
    have h2 : d * V ≤ d * ((w + 1) * P) := Nat.mul_le_mul_left _ hV
    have h3 : d * ((w + 1) * P) = d * w * P + d * P := by rw [← Nat.mul_assoc, Nat.mul_add, Nat.add_mul, Nat.mul_one]
    have h4 : d * w * P ≤ m * P := Nat.mul_le_mul_right _ hd
    omega
  have h5 : (d - 1) * V ≤ U := by
    have : d * V = (d - 1) * V + V := by
      obtain ⟨e, rfl⟩ : ∃ e, d = e + 1 := ⟨d - 1, by omega⟩
      rw [Nat.add_sub_cancel, Nat.add_mul, Nat.one_mul]
    omega
  have h6 := (Nat.le_div_iff_mul_le hV0).2 h5
  exact Nat.sub_le_iff_le_add.1 h6
/-- A step of the subtraction of d * v. -/
theorem msub_step {B d u v c b w b' T Tu Tv X p : Nat} (hp : p = d * v + c) (hw : w + p % B + b = u + B * b') (h : T + d * Tv = Tu + (c + b) * X) :
    T + X * w + d * (Tv + X * v) = Tu + X * u + (p / B + b') * (X * B) := by
  have h1 := Nat.div_add_mod p B
  have h2 : X * w + X * (p % B) + X * b = X * u + X * (B * b') := by rw [← Nat.mul_add, ← Nat.mul_add, ← Nat.mul_add, hw]
  have h3 : X * p = X * (d * v) + X * c := by rw [hp, Nat.mul_add]
  have h4 : X * p = X * (B * (p / B)) + X * (p % B) := by rw [← Nat.mul_add, h1]
  have e1 : d * (Tv + X * v) = d * Tv + X * (d * v) := by rw [Nat.mul_add, Nat.mul_left_comm]
  have e2 : (p / B + b') * (X * B) = X * (B * (p / B)) + X * (B * b') := by
    rw [Nat.add_mul]; congr 1
    · rw [Nat.mul_comm, Nat.mul_assoc]
    · rw [Nat.mul_comm, Nat.mul_assoc]
  have e3 : (c + b) * X = X * c + X * b := by rw [Nat.mul_comm, Nat.mul_add]
  rw [e1, e2]; rw [e3] at h
  omega
end An

/- One digit of a long division: the laws. Plain numbers. -/
namespace An
open Go
theorem wquo64 {a b : Nat} (ha : a < 18446744073709551616) : IntKind.u64.wrap ((a : Int).tdiv (b : Int)) = ((a / b : Nat) : Int) := by
  rw [Int.tdiv_eq_ediv_of_nonneg (by omega)]
  have h : (a : Int) / (b : Int) = ((a / b : Nat) : Int) := (Int.natCast_ediv a b).symm
  rw [h]
  have := Nat.div_le_self a b
  generalize a / b = q at *
  exact wu64 (by omega) (by omega)
theorem wrem64 {a b : Nat} : (a : Int).tmod (b : Int) = ((a % b : Nat) : Int) := by
  rw [Int.tmod_eq_emod_of_nonneg (by omega)]
  exact (Int.natCast_emod a b).symm
theorem shr63 {m : Nat} : ((m : Nat) : Int).fdiv (2 ^ (min (63 : Int).toNat IntKind.u64.bits)) = ((m / 9223372036854775808 : Nat) : Int) := by
  have e : (2 : Int) ^ (min (63 : Int).toNat IntKind.u64.bits) = ((9223372036854775808 : Nat) : Int) := by decide
  rw [e, Int.fdiv_eq_ediv_of_nonneg _ (by omega)]; rfl
theorem val_top1 {l : List Nat} {k : Nat} (h : l.length = k + 1) : val W l = val W (l.take k) + W ^ k * l.getD k 0 := by
  rw [← xf7 _ _ _ (by omega), ← h, List.take_length]
theorem val_take_lt {l : List Nat} (hD : Dig W l) {k : Nat} (hk : k ≤ l.length) : val W (l.take k) < W ^ k := by
  have := val_lt (hD.take k)
  rwa [List.length_take, Nat.min_eq_left hk] at this
/-- What is known of the two numbers. -/
structure Two (m : Nat) (u v : List Nat) : Prop where
  lu : u.length = m + 3
  lv : v.length = m + 2
  Du : Dig W u
  Dv : Dig W v
  top : 2147483648 ≤ v.getD (m + 1) 0
  lt : val W u < val W v * W
namespace Two
variable {m : Nat} {u v : List Nat} (t : Two m u v)
include t
theorem hV1 : v.getD (m + 1) 0 * (W * W ^ m) ≤ val W v ∧ val W v < (v.getD (m + 1) 0 + 1) * (W * W ^ m) := by
  have h1 := val_top1 t.lv
  have h2 := val_take_lt t.Dv (k := m + 1) (by rw [t.lv]; omega)
  rw [h1, Nat.add_mul, Nat.one_mul, show W * W ^ m = W ^ (m + 1) by rw [Nat.pow_succ, Nat.mul_comm], Nat.mul_comm (v.getD (m + 1) 0)]
  omega
theorem pos : 0 < val W v := by
  have h1 := t.hV1.1
  have h2 : 0 < W * W ^ m := Nat.mul_pos (by decide) (Nat.pow_pos (by decide))
  have h3 := Nat.mul_le_mul_right (W * W ^ m) (show 1 ≤ v.getD (m + 1) 0 by have := t.top; omega)
  omega
theorem hV2 : (v.getD (m + 1) 0 * W + v.getD m 0) * W ^ m ≤ val W v ∧ val W v ≤ (v.getD (m + 1) 0 * W + v.getD m 0 + 1) * W ^ m := by
  have h1 := val_top1 t.lv
  have h2 := xf7 W v m (by rw [t.lv]; omega)
  have h3 := val_take_lt t.Dv (k := m) (by rw [t.lv]; omega)
  have e : v.getD (m + 1) 0 * W * W ^ m = W ^ (m + 1) * v.getD (m + 1) 0 := by rw [Nat.pow_succ]; ac_rfl
  rw [Nat.add_mul, Nat.add_mul, Nat.add_mul, Nat.one_mul, e, h1, h2, Nat.mul_comm (v.getD m 0)]
  omega
theorem hU : (u.getD (m + 1) 0 + u.getD (m + 2) 0 * 4294967296) * (W * W ^ m) ≤ val W u ∧ val W u < (u.getD (m + 1) 0 + u.getD (m + 2) 0 * 4294967296 + 1) * (W * W ^ m) ∧
    ((u.getD (m + 1) 0 + u.getD (m + 2) 0 * 4294967296) * W + u.getD m 0) * W ^ m ≤ val W u ∧ val W u < ((u.getD (m + 1) 0 + u.getD (m + 2) 0 * 4294967296) * W + u.getD m 0 + 1) * W ^ m := by
  have h1 := val_top1 t.lu
  have h2 := xf7 W u (m + 1) (by rw [t.lu]; omega)
  have h3 := val_take_lt t.Du (k := m + 1) (by rw [t.lu]; omega)
  have h4 := xf7 W u m (by rw [t.lu]; omega)
  have h5 := val_take_lt t.Du (k := m) (by rw [t.lu]; omega)
  have e0 : W * W ^ m = W ^ (m + 1) := by rw [Nat.pow_succ, Nat.mul_comm]
  have e1 : u.getD (m + 2) 0 * 4294967296 * (W * W ^ m) = W ^ (m + 2) * u.getD (m + 2) 0 := by
    rw [Nat.pow_succ, Nat.pow_succ]; show u.getD (m + 2) 0 * W * (W * W ^ m) = _; ac_rfl
  have e2 : (u.getD (m + 1) 0 + u.getD (m + 2) 0 * 4294967296) * (W * W ^ m) = W ^ (m + 1) * u.getD (m + 1) 0 + W ^ (m + 2) * u.getD (m + 2) 0 := by
    rw [Nat.add_mul, e1, e0, Nat.mul_comm (W ^ (m + 1))]
  have e3 : (u.getD (m + 1) 0 + u.getD (m + 2) 0 * 4294967296) * W * W ^ m = (u.getD (m + 1) 0 + u.getD (m + 2) 0 * 4294967296) * (W * W ^ m) := Nat.mul_assoc _ _ _
  refine ⟨?_, ?_, ?_, ?_⟩
  · rw [e2, h1, h2]; omega
  · rw [Nat.add_mul, Nat.one_mul, e2, h1, h2, e0]; omega
  · rw [Nat.add_mul, e3, e2, h1, h2, h4, Nat.mul_comm (u.getD m 0)]; omega
  · rw [Nat.add_mul, Nat.one_mul, Nat.add_mul, e3, e2, h1, h2, h4, Nat.mul_comm (u.getD m 0)]; omega
theorem q_lt : val W u / val W v < W := Nat.div_lt_of_lt_mul t.lt
/-- The first estimate. -/
theorem est0 : val W u / val W v ≤ (u.getD (m + 1) 0 + u.getD (m + 2) 0 * 4294967296) / v.getD (m + 1) 0 := by
  have h := quo_le t.hV1.1 t.hU.2.1 (Nat.div_mul_le_self (val W u) (val W v))
  exact (Nat.le_div_iff_mul_le (by have := t.top; omega)).2 h
theorem est1 : (u.getD (m + 1) 0 + u.getD (m + 2) 0 * 4294967296) / v.getD (m + 1) 0 ≤ 4294967297 := by
  have h1 := t.hV1.2
  have h2 := t.hU.1
  have h3 := t.lt
  have hp : 0 < W * W ^ m := Nat.mul_pos (by decide) (Nat.pow_pos (by decide))
  have h4 : (u.getD (m + 1) 0 + u.getD (m + 2) 0 * 4294967296) * (W * W ^ m) < (v.getD (m + 1) 0 + 1) * W * (W * W ^ m) := by
    refine Nat.lt_of_le_of_lt h2 (Nat.lt_of_lt_of_le h3 ?_)
    rw [Nat.mul_assoc, Nat.mul_comm W, ← Nat.mul_assoc]
    exact Nat.mul_le_mul_right _ (Nat.le_of_lt h1)
  have h5 := Nat.lt_of_mul_lt_mul_right h4
  have h6 : (u.getD (m + 1) 0 + u.getD (m + 2) 0 * 4294967296) / v.getD (m + 1) 0 < 4294967298 := by
    refine Nat.div_lt_of_lt_mul ?_
    have := t.top
    have h7 : (v.getD (m + 1) 0 + 1) * W = v.getD (m + 1) 0 * 4294967296 + 4294967296 := by rw [Nat.add_mul, Nat.one_mul]
    rw [h7] at h5
    generalize v.getD (m + 1) 0 = x at *
    generalize u.getD (m + 1) 0 + u.getD (m + 2) 0 * 4294967296 = y at *
    have h8 : x * 4294967298 = x * 4294967296 + 2 * x := by rw [Nat.mul_comm 2, ← Nat.mul_add]
    rw [h8]
    clear h1 h2 h3 h4 h7 h8
    omega
  exact Nat.le_of_lt_succ h6
/-- An estimate that is too great is made less by 1. -/
theorem dec {d r : Nat} (hq : val W u / val W v ≤ d) (hd : d * v.getD (m + 1) 0 + r = u.getD (m + 1) 0 + u.getD (m + 2) 0 * 4294967296) (hg : 4294967296 ≤ d ∨ u.getD m 0 + r * 2 ^ 32 < d * v.getD m 0) :
    val W u / val W v ≤ d - 1 ∧ (d - 1) * v.getD (m + 1) 0 + (r + v.getD (m + 1) 0) = u.getD (m + 1) 0 + u.getD (m + 2) 0 * 4294967296 ∧ 1 ≤ d := by
  have h0 := t.q_lt
  have h1 : 1 ≤ d := by
    rcases hg with hg | hg
    · omega
    · rcases Nat.eq_zero_or_pos d with h | h
      · rw [h, Nat.zero_mul] at hg; omega
      · exact h
  refine ⟨?_, ?_, h1⟩
  · rcases hg with hg | hg
    · have : val W u / val W v < 4294967296 := h0
      omega
    · rcases Nat.lt_or_eq_of_le hq with h1 | h1
      · omega
      · exfalso
        have h2 := quo_le t.hV2.1 t.hU.2.2.2 (Nat.div_mul_le_self (val W u) (val W v))
        rw [h1, ← hd, Nat.mul_add, ← Nat.mul_assoc, Nat.add_mul] at h2
        have e : r * W = r * 2 ^ 32 := rfl
        omega
  · obtain ⟨e, rfl⟩ : ∃ e, d = e + 1 := ⟨d - 1, by omega⟩
    rw [Nat.add_mul, Nat.one_mul] at hd
    rw [Nat.add_sub_cancel]; omega
/-- The estimate is good. -/
theorem good {d r : Nat} (hd : d * v.getD (m + 1) 0 + r = u.getD (m + 1) 0 + u.getD (m + 2) 0 * 4294967296) (hdW : d ≤ 4294967296) (hg : d * v.getD m 0 ≤ u.getD m 0 + r * 2 ^ 32) : d ≤ val W u / val W v + 1 := by
  refine quo_ge (P := W ^ m) t.pos t.hV2.2 t.hU.2.2.1 ?_ ?_
  · rw [← hd, Nat.mul_add, ← Nat.mul_assoc, Nat.add_mul]
    have e : r * W = r * 2 ^ 32 := rfl
    omega
  · refine Nat.le_trans ?_ t.hV1.1
    have h1 : d * W ^ m ≤ W * W ^ m := Nat.mul_le_mul_right _ hdW
    have h2 := Nat.mul_le_mul_right (W * W ^ m) (show 1 ≤ v.getD (m + 1) 0 by have := t.top; omega)
    omega
theorem good2 {d r : Nat} (hd : d * v.getD (m + 1) 0 + r = u.getD (m + 1) 0 + u.getD (m + 2) 0 * 4294967296) (hdW : d ≤ 4294967296) (hr : 4294967296 ≤ r) : d ≤ val W u / val W v + 1 := by
  refine t.good hd hdW ?_
  have h1 : v.getD m 0 < W := t.Dv.getD (by decide) m
  have h2 : d * v.getD m 0 ≤ 4294967296 * v.getD m 0 := Nat.mul_le_mul_right _ hdW
  have h3 : 4294967296 * v.getD m 0 ≤ 4294967296 * 4294967295 := Nat.mul_le_mul_left _ (by have : v.getD m 0 < 4294967296 := h1; omega)
  omega
end Two
/-! The subtraction. -/
def dif64 (x y b : Nat) : Nat := (x + 18446744073709551616 - y - b) % 18446744073709551616
theorem dif64_eq {x y b : Nat} (hy : y < 4294967296) (hb : b ≤ 1) : IntKind.u64.wrap (IntKind.u64.wrap ((x : Int) - (y : Int)) - (b : Int)) = ((dif64 x y b : Nat) : Int) := by
  rw [mu64, mu64, dif64]; omega
theorem dif64_top {x y b : Nat} (hx : x < 4294967296) (hy : y < 4294967296) (hb : b ≤ 1) : dif64 x y b / 9223372036854775808 = if x < y + b then 1 else 0 := by
  rw [dif64]; split <;> omega
theorem dif64_low {x y b : Nat} (hx : x < 4294967296) (hy : y < 4294967296) (hb : b ≤ 1) : dif64 x y b % 4294967296 + y + b = x + W * (dif64 x y b / 9223372036854775808) := by
  rw [dif64_top hx hy hb, dif64]; show _ = x + 4294967296 * _; split <;> omega
theorem dif64_le {x y b : Nat} (hx : x < 4294967296) (hy : y < 4294967296) (hb : b ≤ 1) : dif64 x y b / 9223372036854775808 ≤ 1 := by
  rw [dif64_top hx hy hb]; split <;> omega
theorem prod_lt {d v c : Nat} (hd : d ≤ 4294967296) (hv : v < 4294967296) (hc : c < 4294967296) : d * v ≤ 18446744069414584320 ∧ d * v + c < 18446744073709551616 := by
  have h1 : d * v ≤ 4294967296 * 4294967295 := Nat.mul_le_mul hd (by omega)
  omega
theorem msub_in {n d c b i : Nat} {u v ws : List Nat} (hi : i < n) (lu : u.length = n + 1) (lv : v.length = n) (Dv : Dig W v) (hl : ws.length = n + 1) (hD : Dig W ws) (hdr : ws.drop i = u.drop i) (hd : d ≤ 4294967296) (hc : c < 4294967296) (hb : b ≤ 1)
    (hv : val W (ws.take i) + d * val W (v.take i) = val W (u.take i) + (c + b) * W ^ i) :
    let p := d * v.getD i 0 + c
    let e := dif64 (ws.getD i 0) (p % 4294967296) b
    (ws.set i (e % 4294967296)).length = n + 1 ∧ Dig W (ws.set i (e % 4294967296)) ∧ (ws.set i (e % 4294967296)).drop (i + 1) = u.drop (i + 1) ∧ p / 4294967296 < 4294967296 ∧ e / 9223372036854775808 ≤ 1 ∧
      val W ((ws.set i (e % 4294967296)).take (i + 1)) + d * val W (v.take (i + 1)) = val W (u.take (i + 1)) + (p / 4294967296 + e / 9223372036854775808) * W ^ (i + 1) := by
  intro p e
  have hvi : v.getD i 0 < 4294967296 := Dv.getD (by decide) i
  have hwi : ws.getD i 0 < 4294967296 := hD.getD (by decide) i
  have hp := prod_lt hd hvi hc
  have hpm : p % 4294967296 < 4294967296 := Nat.mod_lt _ (by decide)
  refine ⟨by simpa using hl, hD.set (Nat.mod_lt _ (by decide)), by rw [xg7]; exact xi8 hdr (by omega), Nat.div_lt_of_lt_mul hp.2, dif64_le hwi hpm hb, ?_⟩
  rw [xh3 (by omega), xf7 _ v _ (by omega), xf7 _ u _ (by omega), Nat.pow_succ]
  refine msub_step (p := p) rfl ?_ hv
  rw [← xi3 hdr (Nat.le_refl _)]
  exact dif64_low hwi hpm hb
/-- Behind the subtraction. -/
theorem msub_end {n d c b : Nat} {u v ws : List Nat} (lu : u.length = n + 1) (lv : v.length = n) (hl : ws.length = n + 1) (hD : Dig W ws) (hdr : ws.drop n = u.drop n) (hc : c < 4294967296) (hb : b ≤ 1)
    (hv : val W (ws.take n) + d * val W (v.take n) = val W (u.take n) + (c + b) * W ^ n) :
    let e := dif64 (ws.getD n 0) c b
    (ws.set n (e % 4294967296)).length = n + 1 ∧ Dig W (ws.set n (e % 4294967296)) ∧ val W (ws.set n (e % 4294967296)) + d * val W v = val W u + e / 9223372036854775808 * W ^ (n + 1) ∧ e / 9223372036854775808 ≤ 1 := by
  intro e
  have hwi : ws.getD n 0 < 4294967296 := hD.getD (by decide) n
  have h1 := dif64_low hwi hc hb
  have hlen : (ws.set n (e % 4294967296)).length = n + 1 := by simpa using hl
  refine ⟨hlen, hD.set (Nat.mod_lt _ (by decide)), ?_, dif64_le hwi hc hb⟩
  have h2 := xh3 (B := W) (l := ws) (i := n) (d := e % 4294967296) (by omega)
  rw [← hlen, List.take_length] at h2
  have h3 := val_top1 lu
  rw [← xi3 hdr (Nat.le_refl _)] at h3
  have h4 : v.take n = v := by rw [← lv]; exact List.take_length
  rw [h4] at hv
  rw [h2, h3]
  have h5 : W ^ n * (e % 4294967296) + W ^ n * c + W ^ n * b = W ^ n * ws.getD n 0 + W ^ n * (W * (e / 9223372036854775808)) := by
    rw [← Nat.mul_add, ← Nat.mul_add, ← Nat.mul_add, h1]
  have h6 : e / 9223372036854775808 * W ^ (n + 1) = W ^ n * (W * (e / 9223372036854775808)) := by rw [Nat.pow_succ, Nat.mul_comm, Nat.mul_assoc]
  rw [h6]
  rw [Nat.mul_comm (c + b), Nat.mul_add] at hv
  omega
/-- Nothing was borrowed: the estimate is the quotient. -/
theorem step_same {m d : Nat} {u v zs : List Nat} (t : Two m u v) (hl : zs.length = m + 3) (hD : Dig W zs) (hq : val W u / val W v ≤ d) (h : val W zs + d * val W v = val W u + 0 * W ^ (m + 3)) : d = val W u / val W v ∧ zs = dgs W (m + 3) (val W u % val W v) := by
  have h0 : d ≤ val W u / val W v := (Nat.le_div_iff_mul_le t.pos).2 (by omega)
  have h1 : d = val W u / val W v := by omega
  refine ⟨h1, ?_⟩
  have h2 : val W zs = val W u % val W v := by
    have := Nat.div_add_mod (val W u) (val W v)
    rw [← h1, Nat.mul_comm] at this
    omega
  rw [← h2, ← hl, dgs_val (by decide) hD]
theorem step_more {m d : Nat} {u v zs : List Nat} (t : Two m u v) (hD : Dig W zs) (hl : zs.length = m + 3) (hq : d ≤ val W u / val W v + 1) (hq0 : val W u / val W v ≤ d) (h : val W zs + d * val W v = val W u + 1 * W ^ (m + 3)) :
    d = val W u / val W v + 1 ∧ val W zs + val W v = W ^ (m + 3) + val W u % val W v := by
  have hz := val_lt hD
  rw [hl] at hz
  have h0 : val W u < d * val W v := by omega
  have h1 : val W u / val W v < d := (Nat.div_lt_iff_lt_mul t.pos).2 h0
  have h2 : d = val W u / val W v + 1 := by omega
  refine ⟨h2, ?_⟩
  have := Nat.div_add_mod (val W u) (val W v)
  rw [h2, Nat.add_mul, Nat.one_mul, Nat.mul_comm] at h
  omega
/-! The addition. -/
theorem addb_in {n i b : Nat} {zs ws v : List Nat} (hi : i < n) (lw : ws.length = n + 1) (lv : v.length = n) (hl : zs.length = n + 1) (hD : Dig W zs) (hdr : zs.drop i = ws.drop i) (Dv : Dig W v) (hb : b ≤ 1)
    (hv : val W (zs.take i) + b * W ^ i = val W (ws.take i) + val W (v.take i)) :
    let s := zs.getD i 0 + v.getD i 0 + b
    (zs.set i (s % 4294967296)).length = n + 1 ∧ Dig W (zs.set i (s % 4294967296)) ∧ (zs.set i (s % 4294967296)).drop (i + 1) = ws.drop (i + 1) ∧ s / 4294967296 ≤ 1 ∧
      val W ((zs.set i (s % 4294967296)).take (i + 1)) + s / 4294967296 * W ^ (i + 1) = val W (ws.take (i + 1)) + val W (v.take (i + 1)) := by
  intro s
  have hvi : v.getD i 0 < 4294967296 := Dv.getD (by decide) i
  have hwi : zs.getD i 0 < 4294967296 := hD.getD (by decide) i
  have h1 := Nat.div_add_mod s 4294967296
  refine ⟨by simpa using hl, hD.set (Nat.mod_lt _ (by decide)), by rw [xg7]; exact xi8 hdr (by omega), by omega, ?_⟩
  rw [xh3 (by omega), xf7 _ v _ (by omega), xf7 _ ws _ (by omega), ← xi3 hdr (Nat.le_refl _)]
  have h2 : W ^ i * (s % 4294967296) + W ^ i * (W * (s / 4294967296)) = W ^ i * zs.getD i 0 + W ^ i * v.getD i 0 + W ^ i * b := by
    rw [← Nat.mul_add, ← Nat.mul_add, ← Nat.mul_add]; congr 1; show _ + 4294967296 * _ = _; omega
  have h3 : s / 4294967296 * W ^ (i + 1) = W ^ i * (W * (s / 4294967296)) := by rw [Nat.pow_succ, Nat.mul_comm, Nat.mul_assoc]
  rw [h3]
  rw [Nat.mul_comm b] at hv
  omega
theorem addb_end {m b r : Nat} {zs ws v : List Nat} (lw : ws.length = m + 3) (lv : v.length = m + 2) (hl : zs.length = m + 3) (hD : Dig W zs) (hdr : zs.drop (m + 2) = ws.drop (m + 2)) (hb : b ≤ 1)
    (hv : val W (zs.take (m + 2)) + b * W ^ (m + 2) = val W (ws.take (m + 2)) + val W (v.take (m + 2))) (h : val W ws + val W v = W ^ (m + 3) + r) :
    zs.set (m + 2) ((zs.getD (m + 2) 0 + b) % 4294967296) = dgs W (m + 3) r := by
  have hlen : (zs.set (m + 2) ((zs.getD (m + 2) 0 + b) % 4294967296)).length = m + 3 := by simpa using hl
  have hDz : Dig W (zs.set (m + 2) ((zs.getD (m + 2) 0 + b) % 4294967296)) := hD.set (Nat.mod_lt _ (by decide))
  have h2 := xh3 (B := W) (l := zs) (i := m + 2) (d := (zs.getD (m + 2) 0 + b) % 4294967296) (by omega)
  rw [← hlen, List.take_length] at h2
  have h4 : v.take (m + 2) = v := by rw [← lv]; exact List.take_length
  rw [h4] at hv
  have h3 := val_top1 lw
  rw [← xi3 hdr (Nat.le_refl _)] at h3
  have h5 := Nat.div_add_mod (zs.getD (m + 2) 0 + b) 4294967296
  have h6 : W ^ (m + 2) * ((zs.getD (m + 2) 0 + b) % 4294967296) + W ^ (m + 2) * (4294967296 * ((zs.getD (m + 2) 0 + b) / 4294967296)) = W ^ (m + 2) * zs.getD (m + 2) 0 + W ^ (m + 2) * b := by
    rw [← Nat.mul_add, ← Nat.mul_add]; congr 1; omega
  have hwi : zs.getD (m + 2) 0 < 4294967296 := hD.getD (by decide) _
  have h7 : val W (zs.set (m + 2) ((zs.getD (m + 2) 0 + b) % 4294967296)) < W ^ (m + 3) := by
    have := val_lt hDz; rwa [hlen] at this
  have h8 : W ^ (m + 3) = W ^ (m + 2) * 4294967296 := Nat.pow_succ ..
  have hval : val W (zs.set (m + 2) ((zs.getD (m + 2) 0 + b) % 4294967296)) = r := by
    rw [Nat.mul_comm b] at hv
    rcases Nat.lt_or_ge (zs.getD (m + 2) 0 + b) 4294967296 with h9 | h9
    · rw [Nat.div_eq_of_lt h9, Nat.mul_zero] at h6
      omega
    · have h10 : (zs.getD (m + 2) 0 + b) / 4294967296 = 1 := by omega
      rw [h10, Nat.mul_one, ← h8] at h6
      omega
  rw [← hval, ← hlen, dgs_val (by decide) hDz]
end An

/- Package whole: long division. -/
namespace An.S
open Go Go.Proofs An
theorem fi261 : FnI Tryz.prog 261 := ⟨_, Tryz.func261, by kernel_rfl, rfl⟩
theorem c_divideStep (p u q v : List Nat) (m : Nat) (t : Two m u v) (hm : m ≤ 100000) :
  CtG Tryz.prog 247 [(9, ⟨218, 1, false, rW .u32 (p ++ (u ++ q))⟩)] [.own (.sl 9 1 p.length (m + 3)), .val (tWs v)] (.val (tE (.int .u32 ((val 4294967296 u / val 4294967296 v : Nat) : Int)))) [(9, ⟨218, 1, false, rW .u32 (p ++ (dgs 4294967296 (m + 3) (val 4294967296 u % val 4294967296 v) ++ q))⟩)] [] := by
 refine CtG.intro [9] Tryz.func247 rfl Tryz.ntmps247 rfl rfl ⟨⟨rfl, xc5⟩, trivial⟩ ?_
 intro w F η
 have lu := t.lu
 have lv := t.lv
 have htop := t.top
 have hv1 : v.getD (m + 1) 0 < 4294967296 := t.Dv.getD (by decide) (m + 1)
 have hv0 : v.getD m 0 < 4294967296 := t.Dv.getD (by decide) m
 have hu2 : u.getD (m + 2) 0 < 4294967296 := t.Du.getD (by decide) (m + 2)
 have hu1 : u.getD (m + 1) 0 < 4294967296 := t.Du.getD (by decide) (m + 1)
 have hu0 : u.getD m 0 < 4294967296 := t.Du.getD (by decide) m
 have hqW : val 4294967296 u / val 4294967296 v < 4294967296 := t.q_lt
 refine x6 ?_
 refine x8 ?_
 refine R1 x5 rfl (x7 (by kernel_rfl) (x3 (x6 ?_)))
 refine x8 ?_
 refine R1 x4 rfl (R1 (xb9 Tryz.underlying179) rfl (R1 x5 rfl (x7 (by kernel_rfl) (x3 (x6 ?_)))))
 refine xe1 mixed ?_
 refine R1 x4 rfl (R1 x4 rfl (R2 (xd7 sl179 (by omega) (by omega) rfl) rfl rfl (RE (xb3 (p.length + (m + 2)) ti218 (rM_get (by omega)) (by omega)) ⟨rfl, trivial⟩ ⟨rfl, trivial⟩ trivial (R1 (xb4 Tryz.underlying142 (isS Tryz.underlying218) (by first | exact wu64 (by omega) (by omega) | exact mu64)) rfl (R2 (d_shl (by decide) (shl32 (by omega))) rfl rfl (R1 x4 rfl (R1 x4 rfl ?_)))))))
 refine R2 (xe4 (wr64 (by omega) (by omega))) rfl rfl (R2 (xd7 sl179 (by omega) (by omega) rfl) rfl rfl (RE (xb3 (p.length + (m + 1)) ti218 (rM_get (by omega)) (by omega)) ⟨rfl, trivial⟩ ⟨rfl, trivial⟩ trivial (R1 (xb4 Tryz.underlying142 (isS Tryz.underlying218) (by first | exact wu64 (by omega) (by omega) | exact mu64)) rfl (R2 (d_or (r := (((u.getD (m + 1) 0 + u.getD (m + 2) 0 * 4294967296) : Nat) : Int)) (or32 (by omega) (by omega))) rfl rfl (R1 x5 rfl (xd9 (by kernel_rfl) (x3 ?_)))))))
 refine x6 ?_
 refine x8 ?_
 refine R1 x4 rfl (R1 x4 rfl (R2 (xe4 (wr64 (by omega) (by omega))) rfl rfl (R2 (xb8 sl179 (m + 1) (by omega) (gN (by omega))) rfl rfl (R1 (xc1 ti218) rfl (R1 (xb4 Tryz.underlying142 (isS Tryz.underlying218) (by first | exact wu64 (by omega) (by omega) | exact mu64)) rfl (R1 x5 rfl (x7 (by kernel_rfl) ?_)))))))
 refine x3 (x6 ?_)
 refine xe1 mixed ?_
 refine R1 x4 rfl (R1 x4 rfl (R2 (d_quo (r := (((u.getD (m + 1) 0 + u.getD (m + 2) 0 * 4294967296) / v.getD (m + 1) 0 : Nat) : Int)) (by omega) (wquo64 (by omega))) rfl rfl (R1 x4 rfl (R1 x4 rfl (R2 (d_rem (by omega) wrem64) rfl rfl (R1 x5 rfl (R1 x5 rfl ?_)))))))
 refine xd9 (by kernel_rfl) (x3 ?_)
 refine xh2 (fun (d : Nat) => val 4294967296 u / val 4294967296 v ≤ d ∧ d ≤ val 4294967296 u / val 4294967296 v + 1) (fun (d : Nat) => upd (upd (upd (upd (fun _ => none) 0 (some (.own (.sl 9 1 p.length (m + 3))))) 1 (some (.val (tWs v)))) 5 (some (.val (tI v.length)))) 8 (some (.val (tE (.int .u64 ((d : Nat) : Int)))))) (fun (d : Nat) => upd (fun _ => none) 9 (some (⟨218, 1, false, rW .u32 (p ++ (u ++ q))⟩))) (nm [9]) ?_ ?_
 ·
  refine xa9 ?_
  refine xd6 (fun (fm : (Nat) × (Nat)) => (fun (d : Nat) (r : Nat) => val 4294967296 u / val 4294967296 v ≤ d ∧ d * v.getD (m + 1) 0 + r = (u.getD (m + 1) 0 + u.getD (m + 2) 0 * 4294967296) ∧ r < 4294967296 ∧ d ≤ 4294967297) fm.1 fm.2) (fun (fm : (Nat) × (Nat)) => (fun (d : Nat) (r : Nat) => upd (upd (upd (upd (upd (upd (fun _ => none) 0 (some (.own (.sl 9 1 p.length (m + 3))))) 1 (some (.val (tWs v)))) 5 (some (.val (tI v.length)))) 7 (some (.val (tE (.int .u64 ((v.getD (m + 1) 0 : Nat) : Int)))))) 8 (some (.val (tE (.int .u64 ((d : Nat) : Int)))))) 9 (some (.val (tE (.int .u64 ((r : Nat) : Int)))))) fm.1 fm.2) (fun (fm : (Nat) × (Nat)) => (fun (d : Nat) (r : Nat) => upd (fun _ => none) 9 (some (⟨218, 1, false, rW .u32 (p ++ (u ++ q))⟩))) fm.1 fm.2) (nm [9]) (fun (fm : (Nat) × (Nat)) => (fun (d : Nat) (r : Nat) => d) fm.1 fm.2) (((u.getD (m + 1) 0 + u.getD (m + 2) 0 * 4294967296) / v.getD (m + 1) 0, (u.getD (m + 1) 0 + u.getD (m + 2) 0 * 4294967296) % v.getD (m + 1) 0)) (by dsimp only; exact ⟨t.est0, Nat.div_add_mod' _ _, Nat.lt_trans (Nat.mod_lt _ (by omega)) hv1, t.est1⟩) (Sub.int rfl (by first | omega | rfl | (dsimp only; omega)) (Sub.int rfl (by first | omega | rfl | (dsimp only; omega)) (Sub.int rfl (by first | omega | rfl | (dsimp only; omega)) (Sub.int rfl (by first | omega | rfl | (dsimp only; omega)) (Sub.cons rfl (Sub.cons rfl Sub.nil)))))) ((SubK.consI rfl ImpK.refl) SubK.nil) (SupG.val (SupG.val (SupG.val (SupG.val (SupG.val (SupG.own rfl SupG.nil)))))) (SupH.cons rfl (supJ xc5) SupH.nil) (lkOk rfl) ?_
  intro fm hI
  obtain ⟨d, r⟩ := fm
  replace hI : val 4294967296 u / val 4294967296 v ≤ d ∧ d * v.getD (m + 1) 0 + r = (u.getD (m + 1) 0 + u.getD (m + 2) 0 * 4294967296) ∧ r < 4294967296 ∧ d ≤ 4294967297 := hI
  show wc _ _ _ _ (upd (upd (upd (upd (upd (upd (fun _ => none) 0 (some (.own (.sl 9 1 p.length (m + 3))))) 1 (some (.val (tWs v)))) 5 (some (.val (tI v.length)))) 7 (some (.val (tE (.int .u64 ((v.getD (m + 1) 0 : Nat) : Int)))))) 8 (some (.val (tE (.int .u64 ((d : Nat) : Int)))))) 9 (some (.val (tE (.int .u64 ((r : Nat) : Int)))))) (upd (fun _ => none) 9 (some (⟨218, 1, false, rW .u32 (p ++ (u ++ q))⟩))) _
  obtain ⟨hq, hd, hr, hdW⟩ := hI
  refine x6 (x6 ?_)
  refine xe1 mixed ?_
  refine R1 x4 rfl (R2 d_geq rfl rfl (R1 x4 rfl ?_))
  refine RGcaseD (t := 49) rfl (fun h213 => ?_) (fun h213 => ?_)
  ·
   have hdec := t.dec hq hd (.inl (by omega))
   refine RGoff (decide_eq_true h213) rfl rfl (RGoff (decide_eq_true h213) rfl rfl (RGoff (decide_eq_true h213) rfl rfl (RGoff (decide_eq_true h213) rfl rfl (RGoff (decide_eq_true h213) rfl rfl (RGoff (decide_eq_true h213) rfl rfl (RGoff (decide_eq_true h213) rfl rfl (RGoff (decide_eq_true h213) rfl rfl ?_)))))))
   refine RGoff (decide_eq_true h213) rfl rfl (RGoff (decide_eq_true h213) rfl rfl (RGoff (decide_eq_true h213) rfl rfl (RGoff (decide_eq_true h213) rfl rfl (RGoff (decide_eq_true h213) rfl rfl (RGoff (decide_eq_true h213) rfl rfl (RGoff (decide_eq_true h213) rfl rfl (RGoff (decide_eq_true h213) rfl rfl ?_)))))))
   refine RGoff (decide_eq_true h213) rfl rfl (RGoff (decide_eq_true h213) rfl rfl (R2 (xa8 (decide_eq_true h213)) rfl rfl (xd9 (by kernel_rfl) (x3 (C_bT rfl rfl (xa4 (x3 ?_)))))))
   refine xa9 (x6 ?_)
   refine x8 ?_
   refine R1 x4 rfl (R2 (xe4 (r := ((d - 1 : Nat) : Int)) (by rw [wu64 (by omega) (by omega)]; omega)) rfl rfl (R1 x5 rfl (x7 (by kernel_rfl) (x3 (x6 ?_)))))
   refine x8 ?_
   refine R1 x4 rfl (R1 x4 rfl (R2 (xc4 (wadd64 (by omega))) rfl rfl (R1 x5 rfl (x7 (by kernel_rfl) (x3 (x6 ?_))))))
   refine x8 ?_
   refine R1 x4 rfl (R2 d_geq rfl rfl (x7 (by kernel_rfl) (x3 ?_)))
   refine xc2 rfl (fun h216 => ?_) (fun h216 => ?_)
   ·
    refine xd1 (K_exO rfl (xc0 (xd8 ?_)))
    exact xc7 (d - 1) ⟨hdec.1, t.good2 hdec.2.1 (by omega) (by omega)⟩ (Sub.int rfl (by first | omega | rfl | (dsimp only; omega)) (Sub.int rfl (by first | omega | rfl | (dsimp only; omega)) (Sub.cons rfl (Sub.cons rfl Sub.nil)))) ((SubK.consI rfl ImpK.refl) SubK.nil) (SupG.val (SupG.val (SupG.val (SupG.own rfl SupG.nil)))) (SupH.cons rfl (supJ xc5) SupH.nil) (lkOk rfl)
   ·
    refine xa4 (xc6 ?_)
    exact xc7 ((d - 1, r + v.getD (m + 1) 0)) ⟨(by dsimp only; exact ⟨hdec.1, hdec.2.1, by omega, by omega⟩), (by dsimp only; omega)⟩ (Sub.int rfl (by first | omega | rfl | (dsimp only; omega)) (Sub.int rfl (by first | omega | rfl | (dsimp only; omega)) (Sub.int rfl (by first | omega | rfl | (dsimp only; omega)) (Sub.int rfl (by first | omega | rfl | (dsimp only; omega)) (Sub.cons rfl (Sub.cons rfl Sub.nil)))))) ((SubK.consI rfl ImpK.refl) SubK.nil) (SupG.val (SupG.val (SupG.val (SupG.val (SupG.val (SupG.own rfl SupG.nil)))))) (SupH.cons rfl (supJ xc5) SupH.nil) (lkOk rfl)
  ·
   refine RGon (decide_eq_false h213) rfl x4 rfl ⟨rfl, trivial⟩ trivial trivial (RGon (decide_eq_false h213) rfl x4 rfl ⟨rfl, trivial⟩ trivial trivial (RGon (decide_eq_false h213) rfl x4 rfl ⟨rfl, trivial⟩ trivial trivial (RGon (decide_eq_false h213) rfl (xe4 (wr64 (by omega) (by omega))) rfl ⟨rfl, rfl, trivial⟩ trivial trivial (RGon (decide_eq_false h213) rfl (xb8 sl179 (m) (by omega) (gN (by omega))) rfl ⟨rfl, rfl, trivial⟩ trivial trivial (RGon (decide_eq_false h213) rfl (xc1 ti218) rfl ⟨rfl, trivial⟩ trivial trivial (RGon (decide_eq_false h213) rfl (xb4 Tryz.underlying142 (isS Tryz.underlying218) (by first | exact wu64 (by omega) (by omega) | exact mu64)) rfl ⟨rfl, trivial⟩ trivial trivial ?_))))))
   have hdv := mul_lt32 (x := d) (y := v.getD m 0) (by omega) (by omega)
   refine RGon (decide_eq_false h213) rfl (d_mul (wmul64 (by omega))) rfl ⟨rfl, rfl, trivial⟩ trivial trivial (RGon (decide_eq_false h213) rfl x4 rfl ⟨rfl, trivial⟩ trivial trivial (RGon (decide_eq_false h213) rfl (d_shl (by decide) (shl32 (by omega))) rfl ⟨rfl, rfl, trivial⟩ trivial trivial (RGon (decide_eq_false h213) rfl x4 rfl ⟨rfl, trivial⟩ trivial trivial (RGon (decide_eq_false h213) rfl x4 rfl ⟨rfl, trivial⟩ trivial trivial (RGon (decide_eq_false h213) rfl (xe4 (wr64 (by omega) (by omega))) rfl ⟨rfl, rfl, trivial⟩ trivial trivial (RGon (decide_eq_false h213) rfl (xd7 sl179 (by omega) (by omega) rfl) rfl ⟨rfl, rfl, trivial⟩ trivial trivial (RGon (decide_eq_false h213) rfl (xb3 (p.length + (m)) ti218 (rM_get (by omega)) (by omega)) rfl ⟨rfl, trivial⟩ ⟨rfl, trivial⟩ trivial ?_)))))))
   refine RGon (decide_eq_false h213) rfl (xb4 Tryz.underlying142 (isS Tryz.underlying218) (by first | exact wu64 (by omega) (by omega) | exact mu64)) rfl ⟨rfl, trivial⟩ trivial trivial (RGon (decide_eq_false h213) rfl (d_or (or32 (by omega) (by omega))) rfl ⟨rfl, rfl, trivial⟩ trivial trivial (RGon (decide_eq_false h213) rfl d_gtr rfl ⟨rfl, rfl, trivial⟩ trivial trivial (R2 (xa7 (decide_eq_false h213)) rfl rfl (xd9 (by kernel_rfl) (x3 ?_)))))
   refine xc2 rfl (fun h213_2 => ?_) (fun h213_2 => ?_)
   ·
    have hdec := t.dec hq hd (.inr (by omega))
    refine xa4 (x3 (xa9 (x6 ?_)))
    refine x8 ?_
    refine R1 x4 rfl (R2 (xe4 (r := ((d - 1 : Nat) : Int)) (by rw [wu64 (by omega) (by omega)]; omega)) rfl rfl (R1 x5 rfl (x7 (by kernel_rfl) (x3 (x6 ?_)))))
    refine x8 ?_
    refine R1 x4 rfl (R1 x4 rfl (R2 (xc4 (wadd64 (by omega))) rfl rfl (R1 x5 rfl (x7 (by kernel_rfl) (x3 (x6 ?_))))))
    refine x8 ?_
    refine R1 x4 rfl (R2 d_geq rfl rfl (x7 (by kernel_rfl) (x3 ?_)))
    refine xc2 rfl (fun h216 => ?_) (fun h216 => ?_)
    ·
     refine xd1 (K_exO rfl (xc0 (xd8 ?_)))
     exact xc7 (d - 1) ⟨hdec.1, t.good2 hdec.2.1 (by omega) (by omega)⟩ (Sub.int rfl (by first | omega | rfl | (dsimp only; omega)) (Sub.int rfl (by first | omega | rfl | (dsimp only; omega)) (Sub.cons rfl (Sub.cons rfl Sub.nil)))) ((SubK.consI rfl ImpK.refl) SubK.nil) (SupG.val (SupG.val (SupG.val (SupG.own rfl SupG.nil)))) (SupH.cons rfl (supJ xc5) SupH.nil) (lkOk rfl)
    ·
     refine xa4 (xc6 ?_)
     exact xc7 ((d - 1, r + v.getD (m + 1) 0)) ⟨(by dsimp only; exact ⟨hdec.1, hdec.2.1, by omega, by omega⟩), (by dsimp only; omega)⟩ (Sub.int rfl (by first | omega | rfl | (dsimp only; omega)) (Sub.int rfl (by first | omega | rfl | (dsimp only; omega)) (Sub.int rfl (by first | omega | rfl | (dsimp only; omega)) (Sub.int rfl (by first | omega | rfl | (dsimp only; omega)) (Sub.cons rfl (Sub.cons rfl Sub.nil)))))) ((SubK.consI rfl ImpK.refl) SubK.nil) (SupG.val (SupG.val (SupG.val (SupG.val (SupG.val (SupG.own rfl SupG.nil)))))) (SupH.cons rfl (supJ xc5) SupH.nil) (lkOk rfl)
   ·
    refine xd1 (xc0 (xc0 (xd8 ?_)))
    exact xc7 (d) ⟨hq, t.good hd (by omega) (by omega)⟩ (Sub.int rfl (by first | omega | rfl | (dsimp only; omega)) (Sub.int rfl (by first | omega | rfl | (dsimp only; omega)) (Sub.cons rfl (Sub.cons rfl Sub.nil)))) ((SubK.consI rfl ImpK.refl) SubK.nil) (SupG.val (SupG.val (SupG.val (SupG.own rfl SupG.nil)))) (SupH.cons rfl (supJ xc5) SupH.nil) (lkOk rfl)
 ·
  intro d hj213
  obtain ⟨eq1, eq2⟩ := hj213
  have hd4 : d ≤ 4294967296 := by omega
  refine x6 ?_
  refine x8 ?_
  refine R1 x5 rfl (R1 x5 rfl (x7 (by kernel_rfl) (x3 (x6 (x6 ?_)))))
  refine x8 ?_
  refine R1 x4 rfl (R1 (xb9 Tryz.underlying179) rfl (R1 x4 rfl (x7 (by kernel_rfl) (x3 (xa9 ?_)))))
  refine xd6 (fun (fm : (Nat) × (List Nat) × (Nat) × (Nat)) => (fun (i : Nat) (ws : List Nat) (c : Nat) (b : Nat) => i ≤ m + 2 ∧ ws.length = m + 2 + 1 ∧ Dig 4294967296 ws ∧ ws.drop i = u.drop i ∧ c < 4294967296 ∧ b ≤ 1 ∧ val 4294967296 (ws.take i) + d * val 4294967296 (v.take i) = val 4294967296 (u.take i) + (c + b) * 4294967296 ^ i) fm.1 fm.2.1 fm.2.2.1 fm.2.2.2) (fun (fm : (Nat) × (List Nat) × (Nat) × (Nat)) => (fun (i : Nat) (ws : List Nat) (c : Nat) (b : Nat) => upd (upd (upd (upd (upd (upd (upd (upd (upd (fun _ => none) 0 (some (.own (.sl 9 1 p.length (m + 3))))) 1 (some (.val (tWs v)))) 5 (some (.val (tI v.length)))) 8 (some (.val (tE (.int .u64 ((d : Nat) : Int)))))) 10 (some (.val (tE (.int .u64 ((c : Nat) : Int)))))) 11 (some (.val (tE (.int .u64 ((b : Nat) : Int)))))) 76 (some (.val (tWs v)))) 77 (some (.val (tI v.length)))) 78 (some (.val (tI i)))) fm.1 fm.2.1 fm.2.2.1 fm.2.2.2) (fun (fm : (Nat) × (List Nat) × (Nat) × (Nat)) => (fun (i : Nat) (ws : List Nat) (c : Nat) (b : Nat) => upd (fun _ => none) 9 (some (⟨218, 1, false, rW .u32 (p ++ (ws ++ q))⟩))) fm.1 fm.2.1 fm.2.2.1 fm.2.2.2) (nm [9]) (fun (fm : (Nat) × (List Nat) × (Nat) × (Nat)) => (fun (i : Nat) (ws : List Nat) (c : Nat) (b : Nat) => m + 2 - i) fm.1 fm.2.1 fm.2.2.1 fm.2.2.2) ((0, u, 0, 0)) (by dsimp only; exact ⟨Nat.zero_le _, lu, t.Du, rfl, by omega, by omega, by simp [val]⟩) (Sub.int rfl (by first | omega | rfl | (dsimp only; omega)) (Sub.int rfl (by first | omega | rfl | (dsimp only; omega)) (Sub.cons rfl (Sub.int rfl (by first | omega | rfl | (dsimp only; omega)) (Sub.int rfl (by first | omega | rfl | (dsimp only; omega)) (Sub.int rfl (by first | omega | rfl | (dsimp only; omega)) (Sub.int rfl (by first | omega | rfl | (dsimp only; omega)) (Sub.cons rfl (Sub.cons rfl Sub.nil))))))))) ((SubK.consI rfl ImpK.refl) SubK.nil) (SupG.val (SupG.val (SupG.val (SupG.val (SupG.val (SupG.val (SupG.val (SupG.val (SupG.own rfl SupG.nil))))))))) (SupH.cons rfl (supJ xc5) SupH.nil) (lkOk rfl) ?_
  intro fm hI
  obtain ⟨i, ws, c, b⟩ := fm
  replace hI : i ≤ m + 2 ∧ ws.length = m + 2 + 1 ∧ Dig 4294967296 ws ∧ ws.drop i = u.drop i ∧ c < 4294967296 ∧ b ≤ 1 ∧ val 4294967296 (ws.take i) + d * val 4294967296 (v.take i) = val 4294967296 (u.take i) + (c + b) * 4294967296 ^ i := hI
  show wc _ _ _ _ (upd (upd (upd (upd (upd (upd (upd (upd (upd (fun _ => none) 0 (some (.own (.sl 9 1 p.length (m + 3))))) 1 (some (.val (tWs v)))) 5 (some (.val (tI v.length)))) 8 (some (.val (tE (.int .u64 ((d : Nat) : Int)))))) 10 (some (.val (tE (.int .u64 ((c : Nat) : Int)))))) 11 (some (.val (tE (.int .u64 ((b : Nat) : Int)))))) 76 (some (.val (tWs v)))) 77 (some (.val (tI v.length)))) 78 (some (.val (tI i)))) (upd (fun _ => none) 9 (some (⟨218, 1, false, rW .u32 (p ++ (ws ++ q))⟩))) _
  obtain ⟨hi, hl, hD, hdr, hc, hb, hv⟩ := hI
  have hvi : v.getD i 0 < 4294967296 := t.Dv.getD (by decide) i
  have hwi := hD.getD (by decide) i
  have hpr := prod_lt hd4 hvi hc
  have hwn := hD.getD (by decide) (m + 2)
  refine x6 ?_
  refine x8 ?_
  refine R2 xd5 rfl rfl (x7 (by kernel_rfl) (x3 (x6 ?_)))
  refine xc2 rfl (fun h221 => ?_) (fun h221 => ?_)
  ·
   refine xa4 (x3 (x6 (xa9 (x6 ?_))))
   refine x8 ?_
   refine R1 x4 rfl (R2 (xb8 sl179 (i) (by omega) (gN (by omega))) rfl rfl (R1 (xc1 ti218) rfl (R1 x5 rfl (R1 x5 rfl (x7 (by kernel_rfl) (x3 (x6 ?_)))))))
   refine x8 ?_
   refine R1 x4 rfl (R1 x4 rfl (R1 (xb4 Tryz.underlying142 (isS Tryz.underlying218) (by first | exact wu64 (by omega) (by omega) | exact mu64)) rfl (R2 (d_mul (wmul64 (by omega))) rfl rfl (R1 x4 rfl (R2 (xc4 (wadd64 (by omega))) rfl rfl (R1 x5 rfl (x7 (by kernel_rfl) ?_)))))))
   refine x3 (x6 ?_)
   refine x8 ?_
   refine R1 x4 rfl (R2 (d_shr (by decide) shr32) rfl rfl (R1 x5 rfl (x7 (by kernel_rfl) (x3 (x6 ?_)))))
   refine x8 ?_
   refine R1 x4 rfl (R1 x4 rfl (R2 (xd7 sl179 (by omega) (by omega) rfl) rfl rfl (RE (xb3 (p.length + (i)) ti218 (rM_get (by omega)) (by omega)) ⟨rfl, trivial⟩ ⟨rfl, trivial⟩ trivial (R1 (xb4 Tryz.underlying142 (isS Tryz.underlying218) (by first | exact wu64 (by omega) (by omega) | exact mu64)) rfl (R1 x4 rfl (R1 (xb4 Tryz.underlying218 (isS Tryz.underlying142) cut32) rfl (R1 (xb4 Tryz.underlying142 (isS Tryz.underlying218) (by first | exact wu64 (by omega) (by omega) | exact mu64)) rfl ?_)))))))
   refine R2 (xe4 rfl) rfl rfl (R1 x4 rfl (R2 (xe4 (dif64_eq (by omega) (by omega))) rfl rfl (R1 x5 rfl (x7 (by kernel_rfl) (x3 (x6 ?_))))))
   refine x8 ?_
   refine R1 x4 rfl (R1 x4 rfl (R1 x4 rfl (R1 (xb4 Tryz.underlying218 (isS Tryz.underlying142) cut32) rfl (R2 (xd7 sl179 (by omega) (by omega) rfl) rfl rfl (RE (xb0 (p.length + (i)) ti218 (rM_lt (by omega)) (by omega) (rM_set (m := _) rfl (by omega))) ⟨rfl, rfl, trivial⟩ ⟨rfl, trivial⟩ trivial (x7 (by kernel_rfl) (x3 ?_)))))))
   refine x8 ?_
   refine R1 x4 rfl (R2 (d_shr (by decide) shr63) rfl rfl (R1 x5 rfl (x7 (by kernel_rfl) (xc6 (x3 ?_)))))
   refine x8 ?_
   refine R2 (xc4 (wr64 (by omega) (by omega))) rfl rfl (R1 x4 rfl (x7 (by kernel_rfl) ?_))
   obtain ⟨n1, n2, n3, n4, n5, n6⟩ := msub_in (n := m + 2) (by omega) lu lv t.Dv hl hD hdr hd4 hc hb hv
   exact xc7 ((i + 1, ws.set i (dif64 (ws.getD i 0) ((d * v.getD i 0 + c) % 4294967296) b % 4294967296), (d * v.getD i 0 + c) / 4294967296, dif64 (ws.getD i 0) ((d * v.getD i 0 + c) % 4294967296) b / 9223372036854775808)) ⟨(by dsimp only; exact ⟨by omega, n1, n2, n3, n4, n5, n6⟩), (by dsimp only; omega)⟩ (Sub.int rfl (by first | omega | rfl | (dsimp only; omega)) (Sub.int rfl (by first | omega | rfl | (dsimp only; omega)) (Sub.cons rfl (Sub.int rfl (by first | omega | rfl | (dsimp only; omega)) (Sub.int rfl (by first | omega | rfl | (dsimp only; omega)) (Sub.int rfl (by first | omega | rfl | (dsimp only; omega)) (Sub.int rfl (by first | omega | rfl | (dsimp only; omega)) (Sub.cons rfl (Sub.cons rfl Sub.nil))))))))) ((SubK.consI rfl ImpK.refl) SubK.nil) (SupG.val (SupG.val (SupG.val (SupG.val (SupG.val (SupG.val (SupG.val (SupG.val (SupG.own rfl SupG.nil))))))))) (SupH.cons rfl (supJ xc5) SupH.nil) (lkOk rfl)
  ·
   have him : i = m + 2 := by omega
   subst him
   obtain ⟨y1, y2, y3, y4⟩ := msub_end (n := m + 2) lu lv hl hD hdr hc hb hv
   refine xd1 (xc0 (xc0 (xd8 (x3 (x6 ?_)))))
   refine x8 ?_
   refine R1 x4 rfl (R1 x4 rfl (R2 (xd7 sl179 (by omega) (by omega) rfl) rfl rfl (RE (xb3 (p.length + (m + 2)) ti218 (rM_get (by omega)) (by omega)) ⟨rfl, trivial⟩ ⟨rfl, trivial⟩ trivial (R1 (xb4 Tryz.underlying142 (isS Tryz.underlying218) (by first | exact wu64 (by omega) (by omega) | exact mu64)) rfl (R1 x4 rfl (R2 (xe4 rfl) rfl rfl (R1 x4 rfl ?_)))))))
   refine R2 (xe4 (dif64_eq (by omega) (by omega))) rfl rfl (R1 x5 rfl (x7 (by kernel_rfl) (x3 (x6 ?_))))
   refine x8 ?_
   refine R1 x4 rfl (R1 x4 rfl (R1 x4 rfl (R1 (xb4 Tryz.underlying218 (isS Tryz.underlying142) cut32) rfl (R2 (xd7 sl179 (by omega) (by omega) rfl) rfl rfl (RE (xb0 (p.length + (m + 2)) ti218 (rM_lt (by omega)) (by omega) (rM_set (m := _) rfl (by omega))) ⟨rfl, rfl, trivial⟩ ⟨rfl, trivial⟩ trivial (x7 (by kernel_rfl) (x3 ?_)))))))
   refine x6 (x6 ?_)
   refine x8 ?_
   refine R1 x4 rfl (R2 (d_shr (by decide) shr63) rfl rfl (R2 xe5 rfl rfl (x7 (by kernel_rfl) (x3 ?_))))
   refine xc2 rfl (fun h230 => ?_) (fun h230 => ?_)
   ·
    rw [show dif64 (ws.getD (m + 2) 0) c b / 9223372036854775808 = 0 by omega] at y3
    obtain ⟨z1, z2⟩ := step_same t y1 y2 eq1 y3
    refine x6 ?_
    refine x8 ?_
    refine R1 x4 rfl (R1 (xb4 Tryz.underlying218 (isS Tryz.underlying142) cut32) rfl (R1 x5 rfl (x7 (by kernel_rfl) (x3 (xa2 (xa6 ?_))))))
    exact xh9 LentC.mk' rfl rfl (Imp.int (by have z1 : d = val 4294967296 u / val 4294967296 v := z1; omega)) ⟨(congrArg (fun z => some (HEnt.mk 218 1 false (rW .u32 (p ++ (z ++ q))))) z2), trivial⟩ rfl ⟨⟨rfl, xc5⟩, trivial⟩ rfl
   ·
    rw [show dif64 (ws.getD (m + 2) 0) c b / 9223372036854775808 = 1 by omega] at y3
    obtain ⟨z1, z2⟩ := step_more t y2 y1 eq2 eq1 y3
    have hd1 : 1 ≤ d := by rw [z1]; exact Nat.le_add_left 1 _
    refine xa4 (x3 (x6 ?_))
    refine x8 ?_
    refine R1 x5 rfl (x7 (by kernel_rfl) (x3 (x6 (x6 ?_))))
    refine x8 ?_
    refine R1 x4 rfl (R1 (xb9 Tryz.underlying179) rfl (R1 x4 rfl (x7 (by kernel_rfl) (x3 (xa9 ?_)))))
    refine xd6 (fun (fm : (Nat) × (List Nat) × (Nat)) => (fun (i : Nat) (zs : List Nat) (f : Nat) => i ≤ m + 2 ∧ zs.length = m + 2 + 1 ∧ Dig 4294967296 zs ∧ zs.drop i = (ws.set (m + 2) (dif64 (ws.getD (m + 2) 0) c b % 4294967296)).drop i ∧ f ≤ 1 ∧ val 4294967296 (zs.take i) + f * 4294967296 ^ i = val 4294967296 ((ws.set (m + 2) (dif64 (ws.getD (m + 2) 0) c b % 4294967296)).take i) + val 4294967296 (v.take i)) fm.1 fm.2.1 fm.2.2) (fun (fm : (Nat) × (List Nat) × (Nat)) => (fun (i : Nat) (zs : List Nat) (f : Nat) => upd (upd (upd (upd (upd (upd (upd (upd (fun _ => none) 0 (some (.own (.sl 9 1 p.length (m + 3))))) 1 (some (.val (tWs v)))) 5 (some (.val (tI v.length)))) 8 (some (.val (tE (.int .u64 ((d : Nat) : Int)))))) 17 (some (.val (tE (.int .u32 ((f : Nat) : Int)))))) 129 (some (.val (tWs v)))) 130 (some (.val (tI v.length)))) 131 (some (.val (tI i)))) fm.1 fm.2.1 fm.2.2) (fun (fm : (Nat) × (List Nat) × (Nat)) => (fun (i : Nat) (zs : List Nat) (f : Nat) => upd (fun _ => none) 9 (some (⟨218, 1, false, rW .u32 (p ++ (zs ++ q))⟩))) fm.1 fm.2.1 fm.2.2) (nm [9]) (fun (fm : (Nat) × (List Nat) × (Nat)) => (fun (i : Nat) (zs : List Nat) (f : Nat) => m + 2 - i) fm.1 fm.2.1 fm.2.2) ((0, (ws.set (m + 2) (dif64 (ws.getD (m + 2) 0) c b % 4294967296)), 0)) (by dsimp only; exact ⟨Nat.zero_le _, y1, y2, rfl, by omega, by simp [val]⟩) (Sub.int rfl (by first | omega | rfl | (dsimp only; omega)) (Sub.int rfl (by first | omega | rfl | (dsimp only; omega)) (Sub.cons rfl (Sub.int rfl (by first | omega | rfl | (dsimp only; omega)) (Sub.int rfl (by first | omega | rfl | (dsimp only; omega)) (Sub.int rfl (by first | omega | rfl | (dsimp only; omega)) (Sub.cons rfl (Sub.cons rfl Sub.nil)))))))) ((SubK.consI rfl ImpK.refl) SubK.nil) (SupG.val (SupG.val (SupG.val (SupG.val (SupG.val (SupG.val (SupG.val (SupG.own rfl SupG.nil)))))))) (SupH.cons rfl (supJ xc5) SupH.nil) (lkOk rfl) ?_
    intro fm hZ
    obtain ⟨i, zs, f⟩ := fm
    replace hZ : i ≤ m + 2 ∧ zs.length = m + 2 + 1 ∧ Dig 4294967296 zs ∧ zs.drop i = (ws.set (m + 2) (dif64 (ws.getD (m + 2) 0) c b % 4294967296)).drop i ∧ f ≤ 1 ∧ val 4294967296 (zs.take i) + f * 4294967296 ^ i = val 4294967296 ((ws.set (m + 2) (dif64 (ws.getD (m + 2) 0) c b % 4294967296)).take i) + val 4294967296 (v.take i) := hZ
    show wc _ _ _ _ (upd (upd (upd (upd (upd (upd (upd (upd (fun _ => none) 0 (some (.own (.sl 9 1 p.length (m + 3))))) 1 (some (.val (tWs v)))) 5 (some (.val (tI v.length)))) 8 (some (.val (tE (.int .u64 ((d : Nat) : Int)))))) 17 (some (.val (tE (.int .u32 ((f : Nat) : Int)))))) 129 (some (.val (tWs v)))) 130 (some (.val (tI v.length)))) 131 (some (.val (tI i)))) (upd (fun _ => none) 9 (some (⟨218, 1, false, rW .u32 (p ++ (zs ++ q))⟩))) _
    clear hi hl hD hdr hc hv
    obtain ⟨hi, hl, hD, hdr, hf, hv⟩ := hZ
    have hvi : v.getD i 0 < 4294967296 := t.Dv.getD (by decide) i
    have hzi := hD.getD (by decide) i
    refine x6 ?_
    refine x8 ?_
    refine R2 xd5 rfl rfl (x7 (by kernel_rfl) (x3 (x6 ?_)))
    refine xc2 rfl (fun h234 => ?_) (fun h234 => ?_)
    ·
     refine xa4 (x3 (x6 (xa9 (x6 ?_))))
     refine x8 ?_
     refine R1 x4 rfl (R2 (xb8 sl179 (i) (by omega) (gN (by omega))) rfl rfl (R1 (xc1 ti218) rfl (R1 x5 rfl (R1 x5 rfl (x7 (by kernel_rfl) (x3 ?_))))))
     refine x8 ?_
     refine R1 x4 rfl (R1 x4 rfl (R1 x4 rfl (R1 x4 rfl (R2 (xd7 sl179 (by omega) (by omega) rfl) rfl rfl (RE (xb3 (p.length + (i)) ti218 (rM_get (by omega)) (by omega)) ⟨rfl, trivial⟩ ⟨rfl, trivial⟩ trivial (R1 x4 rfl (R1 x4 rfl ?_)))))))
     refine RE (xa0 (c_Add32 _ _ _ (by omega) (by omega) (by omega)) fi261 rfl) ⟨rfl, rfl, rfl, trivial⟩ trivial trivial (R1 x4 rfl (R1 (xb7 rfl) rfl (R1 (xb7 rfl) rfl (R2 (xd7 sl179 (by omega) (by omega) rfl) rfl rfl (RE (xb0 (p.length + (i)) ti218 (rM_lt (by omega)) (by omega) (rM_set (m := _) rfl (by omega))) ⟨rfl, rfl, trivial⟩ ⟨rfl, trivial⟩ trivial (R1 x5 rfl (x7 (by kernel_rfl) ?_)))))))
     refine xc6 (x3 ?_)
     refine x8 ?_
     refine R2 (xc4 (wr64 (by omega) (by omega))) rfl rfl (R1 x4 rfl (x7 (by kernel_rfl) ?_))
     obtain ⟨n1, n2, n3, n4, n5⟩ := addb_in (n := m + 2) (by omega) y1 lv hl hD hdr t.Dv hf hv
     exact xc7 ((i + 1, zs.set i ((zs.getD i 0 + v.getD i 0 + f) % 4294967296), (zs.getD i 0 + v.getD i 0 + f) / 4294967296)) ⟨(by dsimp only; exact ⟨by omega, n1, n2, n3, n4, n5⟩), (by dsimp only; omega)⟩ (Sub.int rfl (by first | omega | rfl | (dsimp only; omega)) (Sub.int rfl (by first | omega | rfl | (dsimp only; omega)) (Sub.cons rfl (Sub.int rfl (by first | omega | rfl | (dsimp only; omega)) (Sub.int rfl (by first | omega | rfl | (dsimp only; omega)) (Sub.int rfl (by first | omega | rfl | (dsimp only; omega)) (Sub.cons rfl (Sub.cons rfl Sub.nil)))))))) ((SubK.consI rfl ImpK.refl) SubK.nil) (SupG.val (SupG.val (SupG.val (SupG.val (SupG.val (SupG.val (SupG.val (SupG.own rfl SupG.nil)))))))) (SupH.cons rfl (supJ xc5) SupH.nil) (lkOk rfl)
    ·
     have him : i = m + 2 := by omega
     subst him
     have hfin := addb_end y1 lv hl hD hdr hf hv z2
     refine xd1 (xc0 (xc0 (xd8 (x3 (x6 ?_)))))
     refine x8 ?_
     refine R1 x4 rfl (R1 x4 rfl (R2 (xd7 sl179 (by omega) (by omega) rfl) rfl rfl (RE (xb3 (p.length + (m + 2)) ti218 (rM_get (by omega)) (by omega)) ⟨rfl, trivial⟩ ⟨rfl, trivial⟩ trivial (R1 x4 rfl (R2 (xc4 (r := (((zs.getD (m + 2) 0 + f) % 4294967296 : Nat) : Int)) (by rw [mu32]; omega)) rfl rfl (R2 (xd7 sl179 (by omega) (by omega) rfl) rfl rfl (RE (xb0 (p.length + (m + 2)) ti218 (rM_lt (by omega)) (by omega) (rM_set (m := _) rfl (by omega))) ⟨rfl, rfl, trivial⟩ ⟨rfl, trivial⟩ trivial ?_)))))))
     refine x7 (by kernel_rfl) (x3 (x6 ?_))
     refine x8 ?_
     refine R1 x4 rfl (R2 (xe4 (r := ((d - 1 : Nat) : Int)) (by rw [wu64 (by omega) (by omega)]; omega)) rfl rfl (R1 (xb4 Tryz.underlying218 (isS Tryz.underlying142) cut32) rfl (R1 x5 rfl (x7 (by kernel_rfl) (x3 (xa2 ?_))))))
     exact xh9 LentC.mk' rfl rfl (Imp.int (by have z1 : d = val 4294967296 u / val 4294967296 v + 1 := z1; omega)) ⟨(congrArg (fun z => some (HEnt.mk 218 1 false (rW .u32 (p ++ (z ++ q))))) hfin), trivial⟩ rfl ⟨⟨rfl, xc5⟩, trivial⟩ rfl
end An.S

/- Long division: the laws between the steps. Plain numbers. -/
namespace An
open Go
theorem bitLen_spec : ∀ (n x : Nat), x < n → x ≠ 0 → x < 2 ^ 64 → 2 ^ (Lib.bitLen x - 1) ≤ x ∧ x < 2 ^ Lib.bitLen x ∧ 1 ≤ Lib.bitLen x
  | 0, x, h, _, _ => by omega
  | n + 1, x, h, h0, h64 => by
    have h1 := Lib.bitLen_half x h0 h64
    rcases Nat.eq_zero_or_pos (x / 2) with h2 | h2
    · have h3 : x = 1 := by omega
      subst h3
      have h4 : Lib.bitLen 0 = 0 := by decide
      rw [h2, h4] at h1
      rw [h1]; decide
    · obtain ⟨i1, i2, i3⟩ := bitLen_spec n (x / 2) (by omega) (by omega) (by omega)
      rw [h1]
      refine ⟨?_, ?_, by omega⟩
      · have e : 1 + Lib.bitLen (x / 2) - 1 = (Lib.bitLen (x / 2) - 1) + 1 := by omega
        rw [e, Nat.pow_succ]; omega
      · rw [Nat.add_comm, Nat.pow_succ]; omega
theorem lz_spec {x s : Nat} (h0 : 0 < x) (h : x < 4294967296) (hs : 32 - Lib.bitLen x = s) : s ≤ 31 ∧ 2147483648 ≤ x * 2 ^ s ∧ x * 2 ^ s < 4294967296 := by
  obtain ⟨h1, h2, h3⟩ := bitLen_spec (x + 1) x (by omega) (by omega) (by omega)
  have h4 := Lib.bitLen_le x 32 (by decide) h
  have hp : 0 < 2 ^ s := Nat.pow_pos (by omega)
  refine ⟨by omega, ?_, ?_⟩
  · have e : (2147483648 : Nat) = 2 ^ (Lib.bitLen x - 1) * 2 ^ s := by rw [← Nat.pow_add, show Lib.bitLen x - 1 + s = 31 by omega]
    rw [e]; exact Nat.mul_le_mul_right _ h1
  · have e : (4294967296 : Nat) = 2 ^ Lib.bitLen x * 2 ^ s := by rw [← Nat.pow_add, show Lib.bitLen x + s = 32 by omega]
    rw [e]; exact Nat.mul_lt_mul_of_pos_right h2 hp
theorem dgs_split (B x y v : Nat) : dgs B (x + y) v = dgs B x v ++ dgs B y (v / B ^ x) := by
  induction y with
  | zero => rw [Nat.add_zero, dgs_zero, List.append_nil]
  | succ y ih => rw [← Nat.add_assoc, dgs_succ, dgs_succ, ih, List.append_assoc, Nat.div_div_eq_div_mul, ← Nat.pow_add]
theorem take_dgs {B n k v : Nat} (h : k ≤ n) : (dgs B n v).take k = dgs B k v := by
  obtain ⟨d, rfl⟩ : ∃ d, n = k + d := ⟨n - k, by omega⟩
  rw [dgs_split, List.take_left' (xg8 _ _ _)]
/-- The divisor, shifted. -/
theorem norm {b m s : Nat} (hl : (dig W b).length = m + 2) (hs : 32 - Lib.bitLen ((dig W b).getD (m + 1) 0) = s) :
    s ≤ 31 ∧ b * 2 ^ s < W ^ (m + 2) ∧ 2147483648 ≤ b * 2 ^ s / W ^ (m + 1) % W ∧ W ^ (m + 1) ≤ b ∧ 2147483648 * W ^ (m + 1) ≤ b * 2 ^ s := by
  have hb : b < W ^ (m + 2) := (xd3 xb5 b _).1 (Nat.le_of_eq hl)
  have hb0 : 0 < b := by
    rcases Nat.eq_zero_or_pos b with h | h
    · subst h; rw [xf0] at hl; simp at hl
    · exact h
  have hb1 : W ^ (m + 1) ≤ b := by
    have := pow_len_le xb5 hb0
    rwa [hl] at this
  have hp : 0 < W ^ (m + 1) := Nat.pow_pos (by decide)
  have ht : (dig W b).getD (m + 1) 0 = b / W ^ (m + 1) := by
    rw [xe6 xb5, Nat.mod_eq_of_lt]
    refine Nat.div_lt_of_lt_mul ?_
    rwa [Nat.pow_succ] at hb
  rw [ht] at hs
  have ht0 : 0 < b / W ^ (m + 1) := Nat.div_pos hb1 hp
  have ht1 : b / W ^ (m + 1) < 4294967296 := Nat.div_lt_of_lt_mul (by rwa [Nat.pow_succ] at hb)
  obtain ⟨h1, h2, h3⟩ := lz_spec ht0 ht1 hs
  have h2s : 0 < 2 ^ s := Nat.pow_pos (by omega)
  have h4 : (b / W ^ (m + 1) + 1) * 2 ^ s ≤ 4294967296 := by
    have e : (4294967296 : Nat) = 2 ^ (32 - s) * 2 ^ s := by rw [← Nat.pow_add, show 32 - s + s = 32 by omega]
    rw [e] at h3 ⊢
    exact Nat.mul_le_mul_right _ (Nat.lt_of_mul_lt_mul_right h3)
  have h5 := Nat.div_add_mod b (W ^ (m + 1))
  have h6 := Nat.mod_lt b hp
  have h7 : b * 2 ^ s < W ^ (m + 2) := by
    have e : W ^ (m + 2) = W ^ (m + 1) * 4294967296 := Nat.pow_succ ..
    rw [e]
    have h8 : b < W ^ (m + 1) * (b / W ^ (m + 1) + 1) := by rw [Nat.mul_add, Nat.mul_one]; omega
    have h9 : b * 2 ^ s < W ^ (m + 1) * (b / W ^ (m + 1) + 1) * 2 ^ s := Nat.mul_lt_mul_of_pos_right h8 h2s
    rw [Nat.mul_assoc] at h9
    exact Nat.lt_of_lt_of_le h9 (Nat.mul_le_mul_left _ h4)
  have h10 : 2147483648 * W ^ (m + 1) ≤ b * 2 ^ s := by
    have h11 : b / W ^ (m + 1) * 2 ^ s * W ^ (m + 1) ≤ b * 2 ^ s := by
      rw [Nat.mul_right_comm]
      exact Nat.mul_le_mul_right _ (Nat.div_mul_le_self _ _)
    exact Nat.le_trans (Nat.mul_le_mul_right _ h2) h11
  refine ⟨h1, h7, ?_, hb1, h10⟩
  have h8 : b * 2 ^ s / W ^ (m + 1) < W := Nat.div_lt_of_lt_mul (by rwa [Nat.pow_succ] at h7)
  rw [Nat.mod_eq_of_lt h8]
  exact (Nat.le_div_iff_mul_le hp).2 h10
/-- What remains behind the digits from k on. -/
theorem rem_lt {A B k : Nat} (hB : 0 < B) : A % (W ^ (k + 1) * B) / W ^ k < B * W := by
  have hp : 0 < W ^ k := Nat.pow_pos (by decide)
  refine Nat.div_lt_of_lt_mul ?_
  have h := Nat.mod_lt A (Nat.mul_pos (Nat.pow_pos (n := k + 1) (show 0 < W by decide)) hB)
  have e : W ^ (k + 1) * B = W ^ k * (B * W) := by rw [Nat.pow_succ]; ac_rfl
  rwa [e] at h ⊢
theorem two_of {A B m k : Nat} (hB : B < W ^ (m + 2)) (ht : 2147483648 ≤ B / W ^ (m + 1) % W) (hB0 : 0 < B) : Two m (dgs W (m + 3) (A % (W ^ (k + 1) * B) / W ^ k)) (dgs W (m + 2) B) := by
  have h1 := rem_lt (A := A) (k := k) hB0
  have h2 : A % (W ^ (k + 1) * B) / W ^ k < W ^ (m + 3) := by
    refine Nat.lt_trans h1 ?_
    rw [Nat.pow_succ]
    exact Nat.mul_lt_mul_of_pos_right hB (by decide)
  refine ⟨xg8 _ _ _, xg8 _ _ _, dgs_Dig (by decide) _ _, dgs_Dig (by decide) _ _, ?_, ?_⟩
  · rw [dgs_getD (by omega)]; exact ht
  · rw [val_dgs, val_dgs, Nat.mod_eq_of_lt h2, Nat.mod_eq_of_lt hB]; exact h1
/-- The row, cut. -/
theorem row_cut {n R m k : Nat} (hk : k + (m + 3) ≤ n) : dgs W n R = dgs W k R ++ (dgs W (m + 3) (R / W ^ k) ++ dgs W (n - k - (m + 3)) (R / W ^ k / W ^ (m + 3))) := by
  obtain ⟨d, rfl⟩ : ∃ d, n = k + (m + 3 + d) := ⟨n - k - (m + 3), by omega⟩
  rw [dgs_split, dgs_split, show k + (m + 3 + d) - k - (m + 3) = d by omega]
theorem rem_step (A B k : Nat) : A % (W ^ k * B) = A % (W ^ (k + 1) * B) % W ^ k + W ^ k * (A % (W ^ (k + 1) * B) / W ^ k % B) := by
  rw [← Nat.mod_mul]
  have e : W ^ (k + 1) * B = W ^ k * B * W := by rw [Nat.pow_succ]; ac_rfl
  rw [e, Nat.mod_mul_right_mod]
theorem row_join {A B n m k : Nat} (hk : k + (m + 3) ≤ n) (hB : B < W ^ (m + 2)) (hB0 : 0 < B) :
    dgs W k (A % (W ^ (k + 1) * B)) ++ (dgs W (m + 3) (val W (dgs W (m + 3) (A % (W ^ (k + 1) * B) / W ^ k)) % val W (dgs W (m + 2) B)) ++ dgs W (n - k - (m + 3)) (A % (W ^ (k + 1) * B) / W ^ k / W ^ (m + 3))) = dgs W n (A % (W ^ k * B)) := by
  have h1 := rem_lt (A := A) (k := k) hB0
  have h2 : A % (W ^ (k + 1) * B) / W ^ k < W ^ (m + 3) := by
    refine Nat.lt_trans h1 ?_
    rw [Nat.pow_succ]
    exact Nat.mul_lt_mul_of_pos_right hB (by decide)
  have hp : 0 < W ^ k := Nat.pow_pos (by decide)
  rw [val_dgs, val_dgs, Nat.mod_eq_of_lt h2, Nat.mod_eq_of_lt hB, row_cut (n := n) (R := A % (W ^ k * B)) hk]
  have h3 := rem_step A B k
  have h4 : A % (W ^ k * B) / W ^ k = A % (W ^ (k + 1) * B) / W ^ k % B := by
    rw [h3, Nat.add_mul_div_left _ _ hp, Nat.div_eq_of_lt (Nat.mod_lt _ hp), Nat.zero_add]
  have h5 : A % (W ^ k * B) % W ^ k = A % (W ^ (k + 1) * B) % W ^ k := by
    conv => lhs; rw [h3]
    rw [Nat.add_mul_mod_self_left, Nat.mod_mod]
  have h6 : A % (W ^ (k + 1) * B) / W ^ k % B < W ^ (m + 3) := Nat.lt_of_le_of_lt (Nat.mod_le _ _) h2
  rw [h4, dgs_congr h5, Nat.div_eq_of_lt h6, Nat.div_eq_of_lt h2]
theorem quo_step {A B m k : Nat} (hB : B < W ^ (m + 2)) (hB0 : 0 < B) :
    A / (W ^ k * B) = val W (dgs W (m + 3) (A % (W ^ (k + 1) * B) / W ^ k)) / val W (dgs W (m + 2) B) + W * (A / (W ^ (k + 1) * B)) := by
  have h1 := rem_lt (A := A) (k := k) hB0
  have h2 : A % (W ^ (k + 1) * B) / W ^ k < W ^ (m + 3) := by
    refine Nat.lt_trans h1 ?_
    rw [Nat.pow_succ]
    exact Nat.mul_lt_mul_of_pos_right hB (by decide)
  have hp : 0 < W ^ k := Nat.pow_pos (by decide)
  rw [val_dgs, val_dgs, Nat.mod_eq_of_lt h2, Nat.mod_eq_of_lt hB]
  have h3 := Nat.div_add_mod A (W ^ (k + 1) * B)
  conv => lhs; rw [← h3]
  have e : W ^ (k + 1) * B * (A / (W ^ (k + 1) * B)) = W ^ k * (B * (W * (A / (W ^ (k + 1) * B)))) := by rw [Nat.pow_succ]; ac_rfl
  rw [e, ← Nat.div_div_eq_div_mul, Nat.mul_add_div hp, Nat.mul_add_div hB0, Nat.add_comm]
theorem q_in {A B m k n q : Nat} {qs : List Nat} (hB : B < W ^ (m + 2)) (ht : 2147483648 ≤ B / W ^ (m + 1) % W) (hB0 : 0 < B) (hk : k < n) (hl : qs.length = n) (hD : Dig W qs) (hv : val W (qs.drop (k + 1)) = A / (W ^ (k + 1) * B))
    (hq : q = val W (dgs W (m + 3) (A % (W ^ (k + 1) * B) / W ^ k)) / val W (dgs W (m + 2) B)) : (qs.set k q).length = n ∧ Dig W (qs.set k q) ∧ val W ((qs.set k q).drop k) = A / (W ^ k * B) := by
  refine ⟨by simpa using hl, hD.set (hq ▸ (two_of hB ht hB0).q_lt), ?_⟩
  rw [val_drop_succ _ _ _ (by simpa using (by omega : k < qs.length)), getD_set_self (by omega), xg7, hv, hq]
  exact (quo_step hB hB0).symm
/-- Before the first digit. -/
theorem div_init {a b m s n : Nat} (hs : s ≤ 31) (ha : a < W ^ n) (hn : m + 2 ≤ n) (hB : 2147483648 * W ^ (m + 1) ≤ b * 2 ^ s) : a * 2 ^ s < W ^ (n - (m + 2) + 1) * (b * 2 ^ s) := by
  have h1 := pow2_le31 hs
  have hp : 0 < 2 ^ s := Nat.pow_pos (by omega)
  have h2 : a * 2 ^ s < W ^ n * 2 ^ s := Nat.mul_lt_mul_of_pos_right ha hp
  have h3 : W ^ n * 2 ^ s ≤ W ^ n * 2147483648 := Nat.mul_le_mul_left _ h1
  have h4 : W ^ n * 2147483648 = W ^ (n - (m + 2) + 1) * (2147483648 * W ^ (m + 1)) := by
    have : W ^ n = W ^ (n - (m + 2) + 1) * W ^ (m + 1) := by rw [← Nat.pow_add]; congr 1; omega
    rw [this, Nat.mul_assoc, Nat.mul_comm (W ^ (m + 1))]
  exact Nat.lt_of_lt_of_le h2 (Nat.le_trans h3 (h4 ▸ Nat.mul_le_mul_left _ hB))
/-! The remainder is shifted back. -/
theorem back_word (X s : Nat) (hs : s ≤ 31) : (X % W + X / W % W * 2 ^ 32) / 2 ^ s % W = X / 2 ^ s % W := by
  have e1 : X % W + X / W % W * 2 ^ 32 = X % (W * W) := by
    rw [Nat.mod_mul, Nat.mul_comm (X / W % W)]
  rw [e1]
  have h1 := Nat.div_add_mod X (W * W)
  have hp : 0 < 2 ^ s := Nat.pow_pos (by omega)
  have e2 : W * W * (X / (W * W)) = 2 ^ s * (W * (2 ^ (32 - s) * (X / (W * W)))) := by
    have : W = 2 ^ s * 2 ^ (32 - s) := by rw [← Nat.pow_add, show s + (32 - s) = 32 by omega]
    conv => lhs; rw [Nat.mul_assoc, this]
    conv => rhs; rw [Nat.mul_left_comm W, ← Nat.mul_assoc]
    rw [← this]
  conv => rhs; rw [← h1, e2, Nat.mul_add_div hp, Nat.mul_add_mod]
theorem back_in {r s i n m : Nat} {us : List Nat} (hs : s ≤ 31) (hi : i < m) (hm : m < n) (hl : us.length = n) (hD : Dig W us) (hdr : us.drop i = (dgs W n (r * 2 ^ s)).drop i) (ht : us.take i = dgs W i r) :
    (us.set i ((us.getD i 0 + us.getD (i + 1) 0 * 2 ^ 32) / 2 ^ s % W)).length = n ∧ Dig W (us.set i ((us.getD i 0 + us.getD (i + 1) 0 * 2 ^ 32) / 2 ^ s % W)) ∧ (us.set i ((us.getD i 0 + us.getD (i + 1) 0 * 2 ^ 32) / 2 ^ s % W)).drop (i + 1) = (dgs W n (r * 2 ^ s)).drop (i + 1) ∧
      (us.set i ((us.getD i 0 + us.getD (i + 1) 0 * 2 ^ 32) / 2 ^ s % W)).take (i + 1) = dgs W (i + 1) r := by
  have hp : 0 < 2 ^ s := Nat.pow_pos (by omega)
  refine ⟨by simpa using hl, hD.set (Nat.mod_lt _ (by decide)), by rw [xg7]; exact xi8 hdr (by omega), ?_⟩
  rw [xi6 (by omega), ht, dgs_succ]
  congr 2
  rw [xi3 hdr (Nat.le_refl _), xi3 hdr (Nat.le_succ i), dgs_getD (by omega), dgs_getD (by omega), Nat.pow_succ, ← Nat.div_div_eq_div_mul, back_word _ _ hs, Nat.div_div_eq_div_mul, Nat.mul_comm (W ^ i), ← Nat.div_div_eq_div_mul, Nat.mul_div_cancel _ hp]
end An

/- Package whole: quotient and remainder. -/
namespace An.S
open Go Go.Proofs An
theorem fi141 : FnI Tryz.prog 141 := ⟨_, Tryz.func141, by kernel_rfl, rfl⟩
theorem fi244 : FnI Tryz.prog 244 := ⟨_, Tryz.func244, by kernel_rfl, rfl⟩
theorem fi245 : FnI Tryz.prog 245 := ⟨_, Tryz.func245, by kernel_rfl, rfl⟩
theorem fi246 : FnI Tryz.prog 246 := ⟨_, Tryz.func246, by kernel_rfl, rfl⟩
theorem fi247 : FnI Tryz.prog 247 := ⟨_, Tryz.func247, by kernel_rfl, rfl⟩
theorem cmpN_neg {a b : Nat} : cmpN a b < 0 ↔ a < b := by
  simp only [cmpN]; constructor
  · intro h; split at h
    · assumption
    · split at h <;> simp at h
  · intro h; rw [if_pos h]; decide
theorem trim1 {x : Nat} (hx : x < 4294967296) : trimL [x] = dig 4294967296 x := by
  rw [xf9 xb5 (Dig.cons hx (Dig.nil _)), val_cons, val_nil]; simp
theorem one_word {b : Nat} (h : (dig 4294967296 b).length = 1) : (dig 4294967296 b).getD 0 0 = b := by
  rw [xe6 xb5, Nat.pow_zero, Nat.div_one]
  have := (xd3 xb5 b 1).1 (Nat.le_of_eq h)
  rw [Nat.pow_one] at this
  exact Nat.mod_eq_of_lt this
theorem c_divide (a b : Nat) (hb : 0 < b) (ha : (dig 4294967296 a).length ≤ 100000) (hbl : (dig 4294967296 b).length ≤ 100000) :
  Ct Tryz.prog 218 [tN a, tN b] (tT [tN (a / b), tN (a % b)]) := by
 refine Ct.intro Tryz.func218 rfl Tryz.ntmps218 rfl ?_
 intro w F
 refine x6 ?_
 refine x8 ?_
 refine R1 x5 rfl (R1 x5 rfl (x7 (by kernel_rfl) (x3 (x6 (x6 ?_)))))
 refine x8 ?_
 refine R1 x4 rfl (R1 x4 rfl (RE (xa0 (c_compare _ _) fi141 rfl) ⟨rfl, rfl, trivial⟩ trivial trivial (R2 xd5 rfl rfl (x7 (by kernel_rfl) (x3 ?_)))))
 refine xc2 rfl (fun h185 => ?_) (fun h185 => ?_)
 ·
  have hab := cmpN_neg.1 h185
  refine x6 ?_
  refine x8 ?_
  refine R1 x4 rfl (RE (xh1 (fun _ => 20) (c_clone32 _ (by omega)) fi243 rfl (krN (ρ := fun _ => 20)) (krC (ρ := fun _ => 20) (k := 2) xh5 (krN (ρ := fun _ => 20))) ⟨⟨rfl, xc5⟩, trivial⟩ rfl) ⟨rfl, trivial⟩ trivial ⟨rfl, trivial⟩ (R1 x5 rfl (RE (d_assignS (fun _ h => h) (rW_all rfl) rfl) ⟨rfl, trivial⟩ ⟨rfl, trivial⟩ trivial (x7 (by kernel_rfl) (x3 (xa2 (xa6 ?_)))))))
  exact xf2 Plain.mk' rfl rfl rfl (leNil (by rw [Nat.div_eq_of_lt hab, xf0])) (Le.of (by rw [Nat.mod_eq_of_lt hab]))
 ·
  have hab : b ≤ a := by
   have := mt cmpN_neg.2 h185
   omega
  have hlab := xf3 xb5 hab
  have hlb := len_pos xb5 hb
  refine xa4 (x3 (x6 (x6 ?_)))
  refine x8 ?_
  refine R1 x4 rfl (R1 (xb9 Tryz.underlying179) rfl (R2 xe5 rfl rfl (x7 (by kernel_rfl) (x3 ?_))))
  refine xc2 rfl (fun h188 => ?_) (fun h188 => ?_)
  ·
   have hb0 := one_word (b := b) (by omega)
   have hbW := (xe9 xb5 b).getD (by decide) 0
   refine x6 ?_
   refine x8 ?_
   refine R1 x4 rfl (R1 x4 rfl (R2 (xb8 sl179 (0) (by omega) (gN (by omega))) rfl rfl (R1 (xc1 ti218) rfl (RE (xa0 (c_divideShort _ _ (by omega) (by omega) (by omega)) fi244 rfl) ⟨rfl, rfl, trivial⟩ trivial trivial (R1 x4 rfl (R1 (xb7 rfl) rfl (R1 (xb7 rfl) rfl ?_)))))))
   refine R1 x5 rfl (R1 x5 rfl (x7 (by kernel_rfl) (x3 (x6 ?_))))
   refine x8 ?_
   refine R1 x4 rfl (R1 x4 rfl (R1 (d_nums (n := 1) [a % (dig 4294967296 b).getD 0 0] Tryz.underlying179 el218 zf218 rfl rfl rfl) rfl (RE (xa0 (c_trim _) fi241 rfl) ⟨rfl, trivial⟩ trivial trivial (R1 x5 rfl (R1 x5 rfl (x7 (by kernel_rfl) (x3 ?_)))))))
   refine xa2 (xa6 ?_)
   exact xf2 Plain.mk' rfl rfl rfl (Le.of (by rw [hb0])) (Le.of (by rw [hb0, trim1 (Nat.lt_trans (Nat.mod_lt _ hb) (hb0 ▸ hbW))]))
  ·
   obtain ⟨m, hm⟩ : ∃ m, (dig 4294967296 b).length = m + 2 := ⟨(dig 4294967296 b).length - 2, by omega⟩
   have ht := (xe9 xb5 b).getD (by decide) (m + 1)
   refine xa4 (x3 (x6 ?_))
   refine x8 ?_
   refine R1 x4 rfl (R1 (xb9 Tryz.underlying179) rfl (R1 x5 rfl (x7 (by kernel_rfl) (x3 (x6 ?_)))))
   refine x8 ?_
   refine R1 x4 rfl (R1 x4 rfl (R2 (xe4 (wr64 (by omega) (by omega))) rfl rfl (R2 (xb8 sl179 (m + 1) (by omega) (gN (by omega))) rfl rfl (R1 (xc1 ti218) rfl (RE (xa0 (c_LeadingZeros32 _ (by omega)) fi245 rfl) ⟨rfl, trivial⟩ trivial trivial (R1 x5 rfl (x7 (by kernel_rfl) ?_)))))))
   refine x3 (x6 ?_)
   refine x8 ?_
   refine R1 x4 rfl (R1 x4 rfl ?_)
   generalize hs : 32 - Lib.bitLen ((dig 4294967296 b).getD (m + 1) 0) = s
   obtain ⟨hs31, hBW, hBt, hb1, hB2⟩ := norm hm hs
   have hB0 : 0 < b * 2 ^ s := Nat.mul_pos hb (Nat.pow_pos (by decide))
   refine RE (xh1 (fun _ => 46) (c_shifted _ _ (by omega) (by omega)) fi246 rfl (krN (ρ := fun _ => 46)) (krC (ρ := fun _ => 46) (k := 12) xh5 (krN (ρ := fun _ => 46))) ⟨⟨rfl, xc5⟩, trivial⟩ rfl) ⟨rfl, rfl, trivial⟩ trivial ⟨rfl, trivial⟩ (R1 x4 rfl (R2 (d_sliceOTo sl179 (m + 2) (by omega) (by omega) rfl) rfl rfl (RE (d_assignS (xs := (dgs 4294967296 (m + 2) (b * 2 ^ s))) (fun _ h => h) (by rw [rW_take, take_dgs (by omega)]) (xg8 _ _ _)) ⟨rfl, trivial⟩ ⟨rfl, trivial⟩ trivial (x7 (by kernel_rfl) (x3 (x6 ?_))))))
   refine x8 ?_
   refine R1 x4 rfl (R1 x4 rfl (RE (xh1 (fun _ => 51) (c_shifted _ _ (by omega) (by omega)) fi246 rfl (krN (ρ := fun _ => 51)) (krC (ρ := fun _ => 51) (k := 12) xh5 (krN (ρ := fun _ => 51))) ⟨⟨rfl, xc5⟩, trivial⟩ rfl) ⟨rfl, rfl, trivial⟩ trivial ⟨rfl, trivial⟩ (R1 x5 rfl (x7 (by kernel_rfl) (x3 (x6 ?_))))))
   refine x8 ?_
   refine R1 x4 rfl (R1 (xb9 Tryz.underlying179) rfl (R1 x4 rfl (R2 (xe4 (wr64 (by omega) (by omega))) rfl rfl (R2 (xc4 (wr64 (by omega) (by omega))) rfl rfl (RE (d_makeO (k := 57) (t := tE (.int .u32 0)) (ts := rW .u32 (List.replicate (((dig 4294967296 a).length - (dig 4294967296 b).length + 1)) 0)) (((dig 4294967296 a).length - (dig 4294967296 b).length + 1)) (((dig 4294967296 a).length - (dig 4294967296 b).length + 1)) Tryz.underlying179 el218 (fun _ _ => rfl) rfl (by omega) (by omega) (Nat.le_refl _) (by omega) (by omega) (rW_rep _)) ⟨rfl, rfl, trivial⟩ trivial ⟨rfl, trivial⟩ (R1 x5 rfl (x7 (by kernel_rfl) ?_)))))))
   refine x3 (x6 (x6 ?_))
   refine x8 ?_
   refine R1 x4 rfl (R1 (d_lenO Tryz.underlying179) rfl (R2 (xe4 (wr64 (by omega) (by omega))) rfl rfl (R1 x5 rfl (x7 (by kernel_rfl) (x3 (xa9 ?_))))))
   have hA0 := div_init (n := (dig 4294967296 a).length) hs31 (lt_len xb5 a) (by omega) hB2
   rw [← hm] at hA0
   refine xd6 (fun (fm : (Nat) × (List Nat)) => (fun (k : Nat) (qs : List Nat) => k ≤ ((dig 4294967296 a).length - (dig 4294967296 b).length + 1) ∧ qs.length = ((dig 4294967296 a).length - (dig 4294967296 b).length + 1) ∧ Dig 4294967296 qs ∧ val 4294967296 (qs.drop k) = (a * 2 ^ s) / (4294967296 ^ k * (b * 2 ^ s))) fm.1 fm.2) (fun (fm : (Nat) × (List Nat)) => (fun (k : Nat) (qs : List Nat) => upd (upd (upd (upd (upd (upd (fun _ => none) 8 (some (.val (tI (dig 4294967296 b).length)))) 9 (some (.val (tI s)))) 10 (some (.val (tWs (dgs 4294967296 (m + 2) (b * 2 ^ s)))))) 11 (some (.own (.sl 51 1 0 ((dig 4294967296 a).length + 1))))) 12 (some (.own (.sl 57 1 0 ((dig 4294967296 a).length - (dig 4294967296 b).length + 1))))) 13 (some (.val (tI ((k : Int) - 1))))) fm.1 fm.2) (fun (fm : (Nat) × (List Nat)) => (fun (k : Nat) (qs : List Nat) => upd (upd (fun _ => none) 51 (some (⟨218, 1, false, rW .u32 (dgs 4294967296 ((dig 4294967296 a).length + 1) ((a * 2 ^ s) % (4294967296 ^ k * (b * 2 ^ s))))⟩))) 57 (some (⟨218, 1, false, rW .u32 qs⟩))) fm.1 fm.2) (nm [51, 57]) (fun (fm : (Nat) × (List Nat)) => (fun (k : Nat) (qs : List Nat) => k) fm.1 fm.2) ((((dig 4294967296 a).length - (dig 4294967296 b).length + 1), List.replicate ((dig 4294967296 a).length - (dig 4294967296 b).length + 1) 0)) (by dsimp only; exact ⟨Nat.le_refl _, by simp, Dig.rep (by decide) _, by rw [List.drop_replicate, xh4]; exact (Nat.div_eq_of_lt hA0).symm⟩) (Sub.int rfl (by first | omega | rfl | (dsimp only; omega)) (Sub.cons rfl (Sub.cons rfl (Sub.cons rfl (Sub.int rfl (by first | omega | rfl | (dsimp only; omega)) (Sub.int rfl (by first | omega | rfl | (dsimp only; omega)) Sub.nil)))))) ((SubK.consI rfl ImpK.refl) ((SubK.consI rfl (ImpK.ofTs (by dsimp only; rw [Nat.mod_eq_of_lt hA0]))) SubK.nil)) (SupG.val (SupG.own rfl (SupG.own rfl (SupG.val (SupG.val (SupG.val SupG.nil)))))) (SupH.cons rfl (supJ xc5) (SupH.cons rfl (supJ xc5) SupH.nil)) (lkOk rfl) ?_
   intro fm hI
   obtain ⟨k, qs⟩ := fm
   replace hI : k ≤ ((dig 4294967296 a).length - (dig 4294967296 b).length + 1) ∧ qs.length = ((dig 4294967296 a).length - (dig 4294967296 b).length + 1) ∧ Dig 4294967296 qs ∧ val 4294967296 (qs.drop k) = (a * 2 ^ s) / (4294967296 ^ k * (b * 2 ^ s)) := hI
   show wc _ _ _ _ (upd (upd (upd (upd (upd (upd (fun _ => none) 8 (some (.val (tI (dig 4294967296 b).length)))) 9 (some (.val (tI s)))) 10 (some (.val (tWs (dgs 4294967296 (m + 2) (b * 2 ^ s)))))) 11 (some (.own (.sl 51 1 0 ((dig 4294967296 a).length + 1))))) 12 (some (.own (.sl 57 1 0 ((dig 4294967296 a).length - (dig 4294967296 b).length + 1))))) 13 (some (.val (tI ((k : Int) - 1))))) (upd (upd (fun _ => none) 51 (some (⟨218, 1, false, rW .u32 (dgs 4294967296 ((dig 4294967296 a).length + 1) ((a * 2 ^ s) % (4294967296 ^ k * (b * 2 ^ s))))⟩))) 57 (some (⟨218, 1, false, rW .u32 qs⟩))) _
   obtain ⟨hk, hl, hD, hv⟩ := hI
   refine x6 (x6 ?_)
   refine x8 ?_
   refine R1 x4 rfl (R2 d_geq rfl rfl (x7 (by kernel_rfl) (x3 ?_)))
   refine xc2 rfl (fun h197 => ?_) (fun h197 => ?_)
   ·
    obtain ⟨j, rfl⟩ : ∃ j, k = j + 1 := ⟨k - 1, by omega⟩
    refine C_key (k := 51) rfl (congrArg (fun z => HEnt.mk 218 1 false (rW .u32 z)) (row_cut (m := m) (k := j) (by omega))) (xa4 (x3 (x6 (xa9 ?_))))
    refine x8 ?_
    refine R1 x4 rfl (R1 x4 rfl (R1 x4 rfl (R1 x4 rfl (R1 x4 rfl (R1 x4 rfl (R2 (xc4 (wr64 (by omega) (by omega))) rfl rfl (R2 (xc4 (wr64 (by omega) (by omega))) rfl rfl ?_)))))))
    refine R3 (d_sliceOFT (off' := (dgs 4294967296 j ((a * 2 ^ s) % (4294967296 ^ (j + 1) * (b * 2 ^ s)))).length) (len' := m + 3) sl179 j (j + (m + 3)) (by omega) (by omega) (by omega) (by omega) (by rw [xg8]; omega) (by omega)) rfl rfl rfl (R1 x4 rfl (RE (xh1 (fun _ => 51) (c_divideStep _ _ _ _ m (two_of hBW hBt hB0) (by omega)) fi247 rfl (krC (ρ := fun _ => 51) (k := 9) xh5 (krN (ρ := fun _ => 51))) (krC (ρ := fun _ => 51) (k := 9) xh5 (krN (ρ := fun _ => 51))) ⟨⟨rfl, xc5⟩, trivial⟩ rfl) ⟨rfl, rfl, trivial⟩ ⟨rfl, trivial⟩ trivial (R2 (xd7 sl179 (by omega) (by omega) rfl) rfl rfl (RE (xb0 (j) ti218 (rW_lt (by omega)) (by omega) (rW_set (m := _) rfl)) ⟨rfl, rfl, trivial⟩ ⟨rfl, trivial⟩ trivial (x7 (by kernel_rfl) (xc6 (x3 ?_)))))))
    refine x8 ?_
    refine R1 x4 rfl (R2 (xe4 (wr64 (by omega) (by omega))) rfl rfl (R1 x5 rfl (x7 (by kernel_rfl) ?_)))
    obtain ⟨n1, n2, n3⟩ := q_in hBW hBt hB0 (by omega) hl hD hv rfl
    exact xc7 ((j, qs.set j (val 4294967296 (dgs 4294967296 (m + 3) (((a * 2 ^ s) % (4294967296 ^ (j + 1) * (b * 2 ^ s))) / 4294967296 ^ j)) / val 4294967296 (dgs 4294967296 (m + 2) (b * 2 ^ s))))) ⟨(by dsimp only; exact ⟨by omega, n1, n2, n3⟩), (by dsimp only; omega)⟩ (Sub.int rfl (by first | omega | rfl | (dsimp only; omega)) (Sub.cons rfl (Sub.cons rfl (Sub.cons rfl (Sub.int rfl (by first | omega | rfl | (dsimp only; omega)) (Sub.int rfl (by first | omega | rfl | (dsimp only; omega)) Sub.nil)))))) ((SubK.consI rfl ImpK.refl) ((SubK.consI rfl (ImpK.ofTs (by dsimp only; exact congrArg (rW .u32) (row_join (by omega) hBW hB0)))) SubK.nil)) (SupG.val (SupG.own rfl (SupG.own rfl (SupG.val (SupG.val (SupG.val SupG.nil)))))) (SupH.cons rfl (supJ xc5) (SupH.cons rfl (supJ xc5) SupH.nil)) (lkOk rfl)
   ·
    have hk0 : k = 0 := by omega
    subst hk0
    have hR : ((a * 2 ^ s) % (4294967296 ^ 0 * (b * 2 ^ s))) = a % b * 2 ^ s := by rw [Nat.pow_zero, Nat.one_mul, Nat.mul_mod_mul_right]
    have hQ : val 4294967296 qs = a / b := by
     rw [List.drop_zero, Nat.pow_zero, Nat.one_mul, Nat.mul_div_mul_right _ _ (Nat.pow_pos (by decide))] at hv
     exact hv
    refine xd1 (xc0 (xc0 (xd8 (x3 (x6 (x6 ?_))))))
    refine x8 ?_
    refine R1 x4 rfl (R1 x4 rfl (x7 (by kernel_rfl) (x3 (xa9 ?_))))
    refine xd6 (fun (fm : (Nat) × (List Nat)) => (fun (i : Nat) (us : List Nat) => i ≤ m + 2 ∧ us.length = (dig 4294967296 a).length + 1 ∧ Dig 4294967296 us ∧ us.drop i = (dgs 4294967296 ((dig 4294967296 a).length + 1) (a % b * 2 ^ s)).drop i ∧ us.take i = dgs 4294967296 i (a % b)) fm.1 fm.2) (fun (fm : (Nat) × (List Nat)) => (fun (i : Nat) (us : List Nat) => upd (upd (upd (upd (upd (upd (fun _ => none) 8 (some (.val (tI (dig 4294967296 b).length)))) 9 (some (.val (tI s)))) 11 (some (.own (.sl 51 1 0 ((dig 4294967296 a).length + 1))))) 12 (some (.own (.sl 57 1 0 ((dig 4294967296 a).length - (dig 4294967296 b).length + 1))))) 77 (some (.val (tI (dig 4294967296 b).length)))) 78 (some (.val (tI i)))) fm.1 fm.2) (fun (fm : (Nat) × (List Nat)) => (fun (i : Nat) (us : List Nat) => upd (upd (fun _ => none) 51 (some (⟨218, 1, false, rW .u32 us⟩))) 57 (some (⟨218, 1, false, rW .u32 qs⟩))) fm.1 fm.2) (nm [51, 57]) (fun (fm : (Nat) × (List Nat)) => (fun (i : Nat) (us : List Nat) => m + 2 - i) fm.1 fm.2) ((0, dgs 4294967296 ((dig 4294967296 a).length + 1) ((a * 2 ^ s) % (4294967296 ^ 0 * (b * 2 ^ s))))) (by dsimp only; exact ⟨Nat.zero_le _, xg8 _ _ _, dgs_Dig (by decide) _ _, by rw [hR], rfl⟩) (Sub.int rfl (by first | omega | rfl | (dsimp only; omega)) (Sub.int rfl (by first | omega | rfl | (dsimp only; omega)) (Sub.cons rfl (Sub.cons rfl (Sub.int rfl (by first | omega | rfl | (dsimp only; omega)) (Sub.int rfl (by first | omega | rfl | (dsimp only; omega)) Sub.nil)))))) ((SubK.consI rfl ImpK.refl) ((SubK.consI rfl ImpK.refl) SubK.nil)) (SupG.val (SupG.val (SupG.own rfl (SupG.own rfl (SupG.val (SupG.val SupG.nil)))))) (SupH.cons rfl (supJ xc5) (SupH.cons rfl (supJ xc5) SupH.nil)) (lkOk rfl) ?_
    intro fm hJ
    obtain ⟨i, us⟩ := fm
    replace hJ : i ≤ m + 2 ∧ us.length = (dig 4294967296 a).length + 1 ∧ Dig 4294967296 us ∧ us.drop i = (dgs 4294967296 ((dig 4294967296 a).length + 1) (a % b * 2 ^ s)).drop i ∧ us.take i = dgs 4294967296 i (a % b) := hJ
    show wc _ _ _ _ (upd (upd (upd (upd (upd (upd (fun _ => none) 8 (some (.val (tI (dig 4294967296 b).length)))) 9 (some (.val (tI s)))) 11 (some (.own (.sl 51 1 0 ((dig 4294967296 a).length + 1))))) 12 (some (.own (.sl 57 1 0 ((dig 4294967296 a).length - (dig 4294967296 b).length + 1))))) 77 (some (.val (tI (dig 4294967296 b).length)))) 78 (some (.val (tI i)))) (upd (upd (fun _ => none) 51 (some (⟨218, 1, false, rW .u32 us⟩))) 57 (some (⟨218, 1, false, rW .u32 qs⟩))) _
    obtain ⟨hi, ul, uD, udr, ut⟩ := hJ
    have hu0 := uD.getD (by decide) i
    have hu1 := uD.getD (by decide) (i + 1)
    refine x6 ?_
    refine x8 ?_
    refine R2 xd5 rfl rfl (x7 (by kernel_rfl) (x3 (x6 ?_)))
    refine xc2 rfl (fun h200 => ?_) (fun h200 => ?_)
    ·
     refine xa4 (x3 (x6 (xa9 (x6 ?_))))
     refine x8 ?_
     refine R1 x4 rfl (R1 x5 rfl (x7 (by kernel_rfl) (x3 ?_)))
     refine xe1 mixed ?_
     refine R1 x4 rfl (R1 x4 rfl (R1 x4 rfl (R1 x4 rfl (R2 (xc4 (wr64 (by omega) (by omega))) rfl rfl (R2 (xd7 sl179 (by omega) (by omega) rfl) rfl rfl (RE (xb3 (i + 1) ti218 (rW_get (by omega)) (by omega)) ⟨rfl, trivial⟩ ⟨rfl, trivial⟩ trivial (R1 (xb4 Tryz.underlying142 (isS Tryz.underlying218) (by first | exact wu64 (by omega) (by omega) | exact mu64)) rfl ?_)))))))
     refine R2 (d_shl (by decide) (shl32 (by omega))) rfl rfl (R1 x4 rfl (R1 x4 rfl (R2 (xd7 sl179 (by omega) (by omega) rfl) rfl rfl (RE (xb3 (i) ti218 (rW_get (by omega)) (by omega)) ⟨rfl, trivial⟩ ⟨rfl, trivial⟩ trivial (R1 (xb4 Tryz.underlying142 (isS Tryz.underlying218) (by first | exact wu64 (by omega) (by omega) | exact mu64)) rfl (R2 (d_or (or32 (by omega) (by omega))) rfl rfl (R1 x4 rfl ?_)))))))
     refine R2 (d_shr (by omega) (shrN (s := s) rfl (by show s ≤ 64; omega))) rfl rfl (R1 (xb4 Tryz.underlying218 (isS Tryz.underlying142) cut32) rfl (R2 (xd7 sl179 (by omega) (by omega) rfl) rfl rfl (RE (xb0 (i) ti218 (rW_lt (by omega)) (by omega) (rW_set (m := _) rfl)) ⟨rfl, rfl, trivial⟩ ⟨rfl, trivial⟩ trivial (xd9 (by kernel_rfl) (xc6 (x3 ?_))))))
     refine x8 ?_
     refine R2 (xc4 (wr64 (by omega) (by omega))) rfl rfl (R1 x4 rfl (x7 (by kernel_rfl) ?_))
     obtain ⟨n1, n2, n3, n4⟩ := back_in (m := m + 2) hs31 (by omega) (by omega) ul uD udr ut
     exact xc7 ((i + 1, us.set i ((us.getD i 0 + us.getD (i + 1) 0 * 2 ^ 32) / 2 ^ s % 4294967296))) ⟨(by dsimp only; exact ⟨by omega, n1, n2, n3, n4⟩), (by dsimp only; omega)⟩ (Sub.int rfl (by first | omega | rfl | (dsimp only; omega)) (Sub.int rfl (by first | omega | rfl | (dsimp only; omega)) (Sub.cons rfl (Sub.cons rfl (Sub.int rfl (by first | omega | rfl | (dsimp only; omega)) (Sub.int rfl (by first | omega | rfl | (dsimp only; omega)) Sub.nil)))))) ((SubK.consI rfl ImpK.refl) ((SubK.consI rfl ImpK.refl) SubK.nil)) (SupG.val (SupG.val (SupG.own rfl (SupG.own rfl (SupG.val (SupG.val SupG.nil)))))) (SupH.cons rfl (supJ xc5) (SupH.cons rfl (supJ xc5) SupH.nil)) (lkOk rfl)
    ·
     refine xd1 (xc0 (xc0 (xd8 (x3 (x6 ?_)))))
     refine xe1 mixed ?_
     refine RE (d_moveS (fun _ h => h) (rW_all hl) hl) ⟨rfl, trivial⟩ ⟨rfl, trivial⟩ trivial (RE (xa0 (c_trim _) fi241 rfl) ⟨rfl, trivial⟩ trivial trivial (R1 x4 rfl (R1 x4 rfl (RE (Does.giveL (k := 51) (es := 1) (off := 0) (len := m + 2) (xs := us.take (m + 2)) (f := fun n : Nat => tE (.int .u32 n)) (ts := rW .u32 us) (d_sliceOTo sl179 (m + 2) (by omega) (by omega) rfl) (fun _ h => h) rW_take (by rw [List.length_take]; omega)) ⟨rfl, rfl, trivial⟩ ⟨rfl, trivial⟩ trivial (RE (xa0 (c_trim _) fi241 rfl) ⟨rfl, trivial⟩ trivial trivial (R1 x5 rfl (R1 x5 rfl ?_)))))))
     refine xd9 (by kernel_rfl) (x3 (xa2 ?_))
     exact xf2 Plain.mk' rfl rfl rfl (Le.of (by rw [xf9 xb5 hD, hQ])) (Le.of (by rw [show m + 2 = i by omega, ut, dgs_trim xb5 (Nat.lt_trans (Nat.mod_lt _ hb) (by rw [show i = (dig 4294967296 b).length by omega]; exact lt_len xb5 b))]))
end An.S

/- The first bits of a number; differences of products. Plain numbers. -/
namespace An
open Go
theorem head_eq (a k s : Nat) (hs : s ≤ 31) : a * 2 ^ s / W ^ (k + 1) = a / W ^ k % W / 2 ^ (32 - s) + a / W ^ (k + 1) * 2 ^ s := by
  have hp : 0 < 2 ^ s := Nat.pow_pos (by omega)
  have hq : 0 < 2 ^ (32 - s) := Nat.pow_pos (by omega)
  have e1 : W ^ (k + 1) = W ^ k * 2 ^ (32 - s) * 2 ^ s := by
    rw [Nat.mul_assoc, ← Nat.pow_add, show 32 - s + s = 32 by omega, Nat.pow_succ]
  have e2 : a / W ^ k = a / W ^ k % W + 2 ^ (32 - s) * (a / W ^ (k + 1) * 2 ^ s) := by
    have h := Nat.div_add_mod (a / W ^ k) W
    have e4 : a / W ^ k / W = a / W ^ (k + 1) := by rw [Nat.div_div_eq_div_mul, ← Nat.pow_succ]
    rw [e4] at h
    have e5 : W = 2 ^ (32 - s) * 2 ^ s := by rw [← Nat.pow_add, show 32 - s + s = 32 by omega]
    have e3 : 2 ^ (32 - s) * (a / W ^ (k + 1) * 2 ^ s) = W * (a / W ^ (k + 1)) := by
      generalize a / W ^ (k + 1) = z
      rw [e5]; ac_rfl
    rw [e3, Nat.add_comm]; exact h.symm
  conv => lhs; rw [e1, Nat.mul_div_mul_right _ _ hp, ← Nat.div_div_eq_div_mul, e2, Nat.add_mul_div_left _ _ hq]
theorem head_top {a k : Nat} (h : a < W ^ (k + 3)) : a / W ^ (k + 1) = a / W ^ (k + 1) % W + a / W ^ (k + 2) % W * 2 ^ 32 := by
  have h1 := Nat.div_add_mod (a / W ^ (k + 1)) W
  have e : a / W ^ (k + 1) / W = a / W ^ (k + 2) := by rw [Nat.div_div_eq_div_mul, ← Nat.pow_succ]
  rw [e] at h1
  have h2 : a / W ^ (k + 2) < W := Nat.div_lt_of_lt_mul (by rwa [Nat.pow_succ] at h)
  rw [Nat.mod_eq_of_lt h2, Nat.mul_comm (a / W ^ (k + 2))]
  show _ = _ + W * _
  omega
theorem head_lt {a n s : Nat} (hn : 2 ≤ n) (h : a * 2 ^ s < W ^ n) : a * 2 ^ s / W ^ (n - 2) < 18446744073709551616 := by
  refine Nat.div_lt_of_lt_mul ?_
  have e : W ^ n = W ^ (n - 2) * 18446744073709551616 := by
    rw [show (18446744073709551616 : Nat) = W ^ 2 by decide, ← Nat.pow_add]; congr 1; omega
  rwa [e] at h
/-- A step of a difference. -/
theorem diff_step {B u v a b T br x y i d X Y br' : Nat} (_hB : 0 < B) (h : T + v * (b % B ^ i) + x * B ^ i = u * (a % B ^ i) + y * B ^ i + br * B ^ i) (hX : X = x + u * (a / B ^ i % B)) (hY : Y = y + v * (b / B ^ i % B)) (hd : d + Y % B + br = X % B + B * br') :
    T + B ^ i * d + v * (b % B ^ (i + 1)) + X / B * B ^ (i + 1) = u * (a % B ^ (i + 1)) + Y / B * B ^ (i + 1) + br' * B ^ (i + 1) := by
  have h1 := Nat.div_add_mod X B
  have h2 := Nat.div_add_mod Y B
  rw [xi0, xi0, Nat.pow_succ]
  generalize a / B ^ i % B = ai at *
  generalize b / B ^ i % B = bi at *
  generalize B ^ i = P at *
  generalize a % P = al at *
  generalize b % P = bl at *
  generalize X / B = xq at *
  generalize X % B = xr at *
  generalize Y / B = yq at *
  generalize Y % B = yr at *
  grind
theorem carry_step {B u a x i : Nat} (hB : 0 < B) (hx : x = u * (a % B ^ i) / B ^ i) : (x + u * (a / B ^ i % B)) / B = u * (a % B ^ (i + 1)) / B ^ (i + 1) := by
  have hp : 0 < B ^ i := Nat.pow_pos hB
  rw [Nat.pow_succ, ← Nat.div_div_eq_div_mul, ← Nat.pow_succ, xi0, Nat.mul_add, ← Nat.mul_assoc, Nat.mul_comm u (B ^ i), Nat.mul_assoc, Nat.add_mul_div_left _ _ hp, ← hx]
theorem carry_lt {u a x i : Nat} (hu : u < 4294967296) (hx : x = u * (a % W ^ i) / W ^ i) : x < 4294967296 := by
  have hp : 0 < W ^ i := Nat.pow_pos (by decide)
  rw [hx]
  refine Nat.div_lt_of_lt_mul ?_
  have h1 : a % W ^ i < W ^ i := Nat.mod_lt _ hp
  have h2 : u * (a % W ^ i) ≤ 4294967295 * (a % W ^ i) := Nat.mul_le_mul_right _ (by omega)
  omega
theorem diff_in {u v a b n i x y br : Nat} {ws : List Nat} (hi : i < n) (hl : ws.length = n) (hD : Dig W ws) (hx : x = u * (a % W ^ i) / W ^ i) (hy : y = v * (b % W ^ i) / W ^ i)
    (h : val W (ws.take i) + v * (b % W ^ i) + x * W ^ i = u * (a % W ^ i) + y * W ^ i + br * W ^ i) {X Y d br' : Nat} (hX : X = x + u * (a / W ^ i % W)) (hY : Y = y + v * (b / W ^ i % W)) (hd : d + Y % W + br = X % W + W * br') (hdW : d < W) :
    (ws.set i d).length = n ∧ Dig W (ws.set i d) ∧ X / W = u * (a % W ^ (i + 1)) / W ^ (i + 1) ∧ Y / W = v * (b % W ^ (i + 1)) / W ^ (i + 1) ∧
      val W ((ws.set i d).take (i + 1)) + v * (b % W ^ (i + 1)) + X / W * W ^ (i + 1) = u * (a % W ^ (i + 1)) + Y / W * W ^ (i + 1) + br' * W ^ (i + 1) := by
  refine ⟨by simpa using hl, hD.set hdW, by rw [hX]; exact carry_step (by decide) hx, by rw [hY]; exact carry_step (by decide) hy, ?_⟩
  rw [xh3 (by omega)]
  exact diff_step (by decide) h hX hY hd
theorem diff_end {u v a b n x y br : Nat} {ws : List Nat} (hl : ws.length = n + 1) (hD : Dig W ws) (ha : a < W ^ n) (hb : b < W ^ n) (hu : u < 4294967296) (hv : v < 4294967296) (hx : x = u * (a % W ^ (n + 1)) / W ^ (n + 1)) (hy : y = v * (b % W ^ (n + 1)) / W ^ (n + 1))
    (h : val W (ws.take (n + 1)) + v * (b % W ^ (n + 1)) + x * W ^ (n + 1) = u * (a % W ^ (n + 1)) + y * W ^ (n + 1) + br * W ^ (n + 1)) (hle : v * b ≤ u * a) : trimL ws = dig W (u * a - v * b) := by
  have hp : 0 < W ^ n := Nat.pow_pos (by decide)
  have e : W ^ (n + 1) = W ^ n * 4294967296 := Nat.pow_succ ..
  have l1 : ∀ c w : Nat, c < W ^ n → w < 4294967296 → w * c < W ^ (n + 1) := fun c w hc hw => by
    rw [e, Nat.mul_comm]
    have h1 : c * w ≤ c * 4294967296 := Nat.mul_le_mul_left _ (by omega)
    have h2 : c * 4294967296 < W ^ n * 4294967296 := Nat.mul_lt_mul_of_pos_right hc (by decide)
    omega
  have ha1 := l1 a u ha hu
  have hb1 := l1 b v hb hv
  have ha2 : a < W ^ (n + 1) := by rw [e]; omega
  have hb2 : b < W ^ (n + 1) := by rw [e]; omega
  rw [Nat.mod_eq_of_lt ha2, Nat.mod_eq_of_lt hb2, ← hl, List.take_length, hl] at h
  rw [Nat.mod_eq_of_lt ha2, Nat.div_eq_of_lt ha1] at hx
  rw [Nat.mod_eq_of_lt hb2, Nat.div_eq_of_lt hb1] at hy
  subst hx; subst hy
  have hz := val_lt hD
  rw [hl] at hz
  rw [xf9 xb5 hD]
  congr 1
  rcases Nat.eq_zero_or_pos br with h0 | h0
  · subst h0; show val W ws = _; omega
  · have : W ^ (n + 1) ≤ br * W ^ (n + 1) := Nat.le_mul_of_pos_left _ h0
    omega
end An

/- Package whole: short values, the first bits, differences. -/
namespace An.S
open Go Go.Proofs An
theorem ti45 : TyI Tryz.prog 45 1 false := ⟨by kernel_rfl, by kernel_rfl⟩
theorem fi266 : FnI Tryz.prog 266 := ⟨_, Tryz.func266, by kernel_rfl, rfl⟩
theorem fi267 : FnI Tryz.prog 267 := ⟨_, Tryz.func267, by kernel_rfl, rfl⟩
theorem fi268 : FnI Tryz.prog 268 := ⟨_, Tryz.func268, by kernel_rfl, rfl⟩
theorem c_down32 (xs : List Nat) :
  CtG Tryz.prog 266 [] [.val (tL 1 false (fun n : Nat => tE (.int .u32 n)) xs)] (.own (.fn 268 [.ptr 1 0])) [(1, ⟨179, 1, false, [.val (tL 1 false (fun n : Nat => tE (.int .u32 n)) xs)]⟩)] [1] := by
 refine CtG.intro [] Tryz.func266 rfl Tryz.ntmps266 rfl rfl trivial ?_
 intro w F η
 refine x6 ?_
 refine x8 ?_
 refine RE (xd2 (k := 1) ti179 rfl) ⟨rfl, trivial⟩ trivial ⟨rfl, trivial⟩ (R1 x5 rfl (x7 (by kernel_rfl) (x3 (x6 ?_))))
 refine x8 ?_
 refine R1 (d_makeFunc (ps := [.ptr 1 0]) rfl) rfl (R1 x5 rfl (x7 (by kernel_rfl) (x3 (xa2 ?_))))
 exact xh9 LentC.mk' rfl rfl Imp.refl ⟨rfl, trivial⟩ rfl ⟨⟨rfl, (SupX.lit rfl)⟩, trivial⟩ rfl
theorem i_down32 (xs : List Nat) (hx : xs.length ≤ 1000000) :
  ItC Tryz.prog 268 [(1, ⟨179, 1, false, [.val (tL 1 false (fun n : Nat => tE (.int .u32 n)) xs)]⟩)] [.ptr 1 0] (xs.length) (fun k => [tE (.int .u32 ((xs.getD (xs.length - 1 - k) 0 : Nat) : Int))]) := by
 refine ItC.intro (K := 99) [1] Tryz.func268 rfl Tryz.ntmps268 rfl rfl ⟨⟨rfl, (SupX.lit rfl)⟩, trivial⟩ rfl ?_
 intro w F η l V J Jc hB
 refine x6 ?_
 refine x8 ?_
 refine RE (xb3 (0) ti179 rfl rfl) ⟨rfl, trivial⟩ ⟨rfl, trivial⟩ trivial (R1 (xb9 Tryz.underlying179) rfl (R2 (xe4 (wr64 (by omega) (by omega))) rfl rfl (R1 x5 rfl (x7 (by kernel_rfl) (x3 (xa9 ?_))))))
 refine xd6 (fun (k : Nat) => k ≤ xs.length) (fun (k : Nat) => upd (upd (upd (fun _ => none) 0 (some (.val (tE (.func (.yield l) #[] #[]))))) 1 (some (.own (.ptr 1 0)))) 3 (some (.val (tI ((xs.length : Int) - 1 - k))))) (fun (k : Nat) => upd (upd (fun _ => none) 1 (some (⟨179, 1, false, [.val (tL 1 false (fun n : Nat => tE (.int .u32 n)) xs)]⟩))) 99 (some (⟨2 * k, 1, false, []⟩))) (nm [1, 99]) (fun (k : Nat) => xs.length - k) (0) (Nat.zero_le _) (Sub.int rfl (by first | omega | rfl | (dsimp only; omega)) (Sub.cons rfl (Sub.cons rfl Sub.nil))) (SubK.cons rfl (SubK.cons rfl SubK.nil)) (SupG.val (SupG.own rfl (SupG.val SupG.nil))) (SupH.cons rfl (supJL rfl) (SupH.cons rfl (supJL rfl) SupH.nil)) (lkOk rfl) ?_
 intro k hI
 refine x6 (x6 ?_)
 refine x8 ?_
 refine R1 x4 rfl (R2 d_geq rfl rfl (x7 (by kernel_rfl) (x3 ?_)))
 refine xc2 rfl (fun h17 => ?_) (fun h17 => ?_)
 ·
  refine xa4 (x3 (x6 (xa9 (x6 ?_))))
  refine C_regY ?_
  refine wl_op x4 ⟨rfl, trivial⟩ trivial trivial rfl (wl_op (xb3 (0) ti179 rfl rfl) ⟨rfl, trivial⟩ ⟨rfl, trivial⟩ trivial rfl (wl_op x4 ⟨rfl, trivial⟩ trivial trivial rfl (wl_op (xb8 sl179 (xs.length - 1 - k) (by omega) (gN (by omega))) ⟨rfl, rfl, trivial⟩ trivial trivial rfl (wl_op (xc1 ti218) ⟨rfl, trivial⟩ trivial trivial rfl ?_))))
  refine wl_yield (ts := [tE (.int .u32 ((xs.getD (xs.length - 1 - k) 0 : Nat) : Int))]) hB (wanted_none rfl) rfl rfl ⟨rfl, trivial⟩ rfl rfl (by omega) ⟨Le.refl, trivial⟩ ?_ ?_
  ·
   refine wl_op xe7 ⟨rfl, trivial⟩ trivial trivial rfl (wl_nil (x3 (C_bF rfl rfl (xa4 (xc6 (x3 ?_))))))
   refine x8 ?_
   refine R1 x4 rfl (R2 (xe4 (wr64 (by omega) (by omega))) rfl rfl (R1 x5 rfl (x7 (by kernel_rfl) ?_)))
   exact xc7 (k + 1) ⟨(by omega), (by omega)⟩ (Sub.int rfl (by first | omega | rfl | (dsimp only; omega)) (Sub.cons rfl (Sub.cons rfl Sub.nil))) (SubK.cons rfl (SubK.cons rfl SubK.nil)) (SupG.val (SupG.own rfl (SupG.val SupG.nil))) (SupH.cons rfl (supJL rfl) (SupH.cons rfl (supJL rfl) SupH.nil)) (lkOk rfl)
  ·
   refine wl_op xe7 ⟨rfl, trivial⟩ trivial trivial rfl (wl_nil (x3 (C_bT rfl rfl (xa2 (xc8 (xa6 (xa6 ?_)))))))
   refine xc8 ?_
   exact E_it hB rfl trivial rfl (.inl rfl) rfl (.inr ⟨k, by omega, rfl⟩)
 ·
  refine xd1 (xc0 (xc0 (xd8 ?_)))
  exact E_it hB rfl trivial rfl (.inr rfl) rfl (.inl (by omega))
theorem c_long (xs : List Nat) (hx : xs.length ≤ 2) (hD : Dig 4294967296 xs) :
  Ct Tryz.prog 258 [tWs xs] (tE (.int .u64 ((val 4294967296 xs : Nat) : Int))) := by
 refine Ct.intro Tryz.func258 rfl Tryz.ntmps258 rfl ?_
 intro w F
 refine x6 ?_
 refine x8 ?_
 refine R1 x5 rfl (x7 (by kernel_rfl) (x3 (x6 ?_)))
 refine x8 ?_
 refine RE (xc9 (k := 3) (n := 1) (agg := false) zr142.1 zr142.2 rfl) trivial trivial ⟨rfl, trivial⟩ (RE (xb0 (es := 1) (agg := false) (0) ti142 rfl rfl rfl) ⟨rfl, rfl, trivial⟩ ⟨rfl, trivial⟩ trivial (x7 (by kernel_rfl) (x3 (x6 (x6 ?_)))))
 refine x8 ?_
 refine R1 x4 rfl (RE (xh1 (fun _ => 6) (c_down32 _) fi266 rfl (krN (ρ := fun _ => 6)) (krC (ρ := fun _ => 6) (k := 1) rfl (krN (ρ := fun _ => 6))) ⟨⟨rfl, (SupX.lit rfl)⟩, trivial⟩ rfl) ⟨rfl, trivial⟩ trivial ⟨rfl, trivial⟩ (x7 (by kernel_rfl) (x3 (xa9 ?_))))
 refine C_range (caps := [.ptr 1 0]) (κ := Empty) (fun j => cond (Nat.beq j 1) 6 (j)) rfl (fun _ h => h) trivial (i_down32 xs (by omega)) fi268 rfl ⟨rfl, trivial⟩ rfl rfl (fun _ _ => rfl) (upd (fun _ => none) 3 (some (.own (.ptr 3 0)))) [3] [3] (Sub.cons rfl Sub.nil) (SupG.own rfl SupG.nil) rfl (lkOk rfl) (fun (k : Nat) (_ : Unit) => True) (fun (k : Nat) (_ : Unit) => upd (fun _ => none) 3 (some (⟨142, 1, false, [.val (tE (.int .u64 ((val 4294967296 (xs.drop (xs.length - k)) : Nat) : Int)))]⟩))) (fun k x => (SupH.cons rfl (supJL rfl) SupH.nil)) (fun k x y hy => by simp at hy; subst hy; rfl) (fun _ _ => False) (fun i => i.elim) (fun _ _ h => h.elim) (()) trivial ((SubK.consI rfl (ImpK.one (Imp.int (by rw [Nat.sub_zero, List.drop_length]; rfl)))) SubK.nil) ?_ ?_ ?_
 ·
  intro D lp o1 o2 O W lη lb V0 k x hk hI
  have hv := val_lt (hD.drop (xs.length - k))
  rw [List.length_drop, show xs.length - (xs.length - k) = k by omega] at hv
  have hk1 : 4294967296 ^ k ≤ 4294967296 ^ 1 := Nat.pow_le_pow_right (by decide) (by omega)
  rw [Nat.pow_one] at hk1
  have hw := hD.getD (by decide) (xs.length - 1 - k)
  have hst := val_drop_succ 4294967296 xs (xs.length - 1 - k) (by omega)
  rw [show xs.length - 1 - k + 1 = xs.length - k by omega, Nat.mul_comm] at hst
  apply rnd_mk
  ·
   refine x8 ?_
   refine R1 x5 rfl (x7 (by kernel_rfl) ?_)
   exact K_thenF fun _ _ h => h
  ·
   refine xa9 ?_
   refine x8 ?_
   refine RE (xb3 (0) ti142 rfl rfl) ⟨rfl, trivial⟩ ⟨rfl, trivial⟩ trivial (R2 (d_shl (by decide) (shl32 (by omega))) rfl rfl (R1 x4 rfl (R1 (xb4 Tryz.underlying142 (isS Tryz.underlying218) (by first | exact wu64 (by omega) (by omega) | exact mu64)) rfl (R2 (d_or (or32 (by omega) (by omega))) rfl rfl (RE (xb0 (es := 1) (agg := false) (0) ti142 rfl rfl rfl) ⟨rfl, rfl, trivial⟩ ⟨rfl, trivial⟩ trivial (x7 (by kernel_rfl) (xc6 ?_)))))))
   exact K_rnd (()) trivial ((SubK.consI rfl (ImpK.one (Imp.int (by rw [show xs.length - (k + 1) = xs.length - 1 - k by omega, hst])))) SubK.nil) (SupH.cons rfl (supJL rfl) SupH.nil) (lkOk rfl)
 ·
  intro D hD x hI
  refine xc6 (x3 (x6 ?_))
  refine x8 ?_
  refine RE (xb3 (0) ti142 rfl rfl) ⟨rfl, trivial⟩ ⟨rfl, trivial⟩ trivial (R1 x5 rfl (x7 (by kernel_rfl) (x3 (xa2 ?_))))
  exact xa3 (Plain.loop Plain.mk' hD) rfl rfl (Le.int (by rw [Nat.sub_self]; rfl))
 ·
  intro D hD e i; exact i.elim
theorem c_short (x : Nat) (hx : x < 18446744073709551616) :
  Ct Tryz.prog 259 [tE (.int .u64 (x : Int))] (tN x) := by
 refine Ct.intro Tryz.func259 rfl Tryz.ntmps259 rfl ?_
 intro w F
 refine x6 ?_
 refine x8 ?_
 refine R1 x5 rfl (x7 (by kernel_rfl) (x3 (x6 ?_)))
 refine x8 ?_
 refine R1 x4 rfl (R1 (xb4 Tryz.underlying218 (isS Tryz.underlying142) cut32) rfl (R1 x4 rfl (R2 (d_shr (by decide) shr32) rfl rfl (R1 (xb4 Tryz.underlying218 (isS Tryz.underlying142) (wu32 (by omega) (by omega))) rfl (R2 (d_nums (n := 2) [x % 4294967296, x / 4294967296] Tryz.underlying179 el218 zf218 rfl rfl rfl) rfl rfl (RE (xa0 (c_trim _) fi241 rfl) ⟨rfl, trivial⟩ trivial trivial (R1 x5 rfl ?_)))))))
 refine x7 (by kernel_rfl) (x3 (xa2 ?_))
 exact xa3 Plain.mk' rfl rfl (Le.of (by rw [xf9 xb5 (Dig.cons (Nat.mod_lt _ (by decide)) (Dig.cons (by omega) (Dig.nil _))), val_cons, val_cons, val_nil, Nat.mul_zero, Nat.add_zero, Nat.mod_add_div]))
theorem c_head1 (xs : List Nat) (j : Int) (i : Nat) (hj : j = (i : Int)) (hxi : xs.getD i 0 < 4294967296) :
  CtG Tryz.prog 267 [(3, ⟨179, 1, false, [.val (tWs xs)]⟩)] [.val (tI j), .own (.ptr 3 0)] (.val (tE (.int .u64 ((xs.getD i 0 : Nat) : Int)))) [(3, ⟨179, 1, false, [.val (tWs xs)]⟩)] [] := by
 refine CtG.intro [3] Tryz.func267 rfl Tryz.ntmps267 rfl rfl ⟨⟨rfl, (SupX.lit rfl)⟩, trivial⟩ ?_
 intro w F η
 subst hj
 refine x6 ?_
 refine x8 ?_
 refine R1 x5 rfl (x7 (by kernel_rfl) (x3 (x6 (x6 ?_))))
 refine x8 ?_
 refine R1 x4 rfl (RE (xb3 (0) ti179 rfl rfl) ⟨rfl, trivial⟩ ⟨rfl, trivial⟩ trivial (R1 (xb9 Tryz.underlying179) rfl (R2 d_geq rfl rfl (x7 (by kernel_rfl) (x3 ?_)))))
 refine xc2 rfl (fun h66 => ?_) (fun h66 => ?_)
 ·
  refine x6 ?_
  refine x8 ?_
  refine R1 x5 rfl (x7 (by kernel_rfl) (x3 (xa2 (xa6 ?_))))
  exact xh9 LentC.mk' rfl rfl (Imp.int (by rw [List.getD_eq_getElem?_getD, List.getElem?_eq_none (by omega)]; rfl)) ⟨rfl, trivial⟩ rfl ⟨⟨rfl, (SupX.lit rfl)⟩, trivial⟩ rfl
 ·
  refine xa4 (x3 (x6 ?_))
  refine x8 ?_
  refine RE (xb3 (0) ti179 rfl rfl) ⟨rfl, trivial⟩ ⟨rfl, trivial⟩ trivial (R1 x4 rfl (R2 (xb8 sl179 (i) (by omega) (gN (by omega))) rfl rfl (R1 (xc1 ti218) rfl (R1 (xb4 Tryz.underlying142 (isS Tryz.underlying218) (by first | exact wu64 (by omega) (by omega) | exact mu64)) rfl (R1 x5 rfl (x7 (by kernel_rfl) (x3 ?_)))))))
  refine xa2 ?_
  exact xh9 LentC.mk' rfl rfl Imp.refl ⟨rfl, trivial⟩ rfl ⟨⟨rfl, (SupX.lit rfl)⟩, trivial⟩ rfl
theorem c_head (a n s k : Nat) (hn : n = k + 3) (hs : s ≤ 31) (h : a * 2 ^ s < 4294967296 ^ n) (hk : k ≤ 1000000) :
  Ct Tryz.prog 265 [tN a, tI n, tI s] (tE (.int .u64 ((a * 2 ^ s / 4294967296 ^ (k + 1) : Nat) : Int))) := by
 subst hn
 have ha : a < 4294967296 ^ (k + 3) := Nat.lt_of_le_of_lt (Nat.le_mul_of_pos_right a (Nat.pow_pos (by decide))) h
 have w1 := xe6 xb5 a (k + 2)
 have w2 := xe6 xb5 a (k + 1)
 have w3 := xe6 xb5 a k
 have l1 := (xe9 xb5 a).getD (by decide) (k + 2)
 have l2 := (xe9 xb5 a).getD (by decide) (k + 1)
 have l3 := (xe9 xb5 a).getD (by decide) k
 have htop := head_top ha
 have heq : a * 2 ^ s / 4294967296 ^ (k + 1) = a / 4294967296 ^ k % 4294967296 / 2 ^ (32 - s) + a / 4294967296 ^ (k + 1) * 2 ^ s := head_eq a k s hs
 have hlt : a * 2 ^ s / 4294967296 ^ (k + 1) < 18446744073709551616 := head_lt (n := k + 3) (by omega) h
 have hm : ((dig 4294967296 a).getD (k + 1) 0) + ((dig 4294967296 a).getD (k + 2) 0) * 2 ^ 32 = a / 4294967296 ^ (k + 1) := by rw [w1, w2]; exact htop.symm
 rw [← w3] at heq
 rw [← hm] at heq
 have hlow : ((dig 4294967296 a).getD (k) 0) / 2 ^ (32 - s) < 2 ^ s := Nat.div_lt_of_lt_mul (by rw [← Nat.pow_add, show 32 - s + s = 32 by omega]; exact l3)
 have hp0 := Nat.zero_le (((dig 4294967296 a).getD (k) 0) / 2 ^ (32 - s))
 refine Ct.intro Tryz.func265 rfl Tryz.ntmps265 rfl ?_
 intro w F
 refine x6 ?_
 refine x8 ?_
 refine RE (xd2 (k := 3) ti179 rfl) ⟨rfl, trivial⟩ trivial ⟨rfl, trivial⟩ (R1 x5 rfl (x7 (by kernel_rfl) (x3 (x6 ?_))))
 refine x8 ?_
 refine R1 (d_makeFunc (ps := [.ptr 3 0]) rfl) rfl (R1 x5 rfl (x7 (by kernel_rfl) (x3 (x6 ?_))))
 refine xe1 mixed ?_
 refine R1 x4 rfl (R1 x4 rfl (R2 (xe4 (wr64 (by omega) (by omega))) rfl rfl (RE (d_callCX (ps := [.val (tI _)]) (caps := [.ptr 3 0]) (fun _ => 3) (c_head1 _ _ (k + 2) (by omega) (by omega)) fi267 rfl (krC (ρ := fun _ => 3) (k := 3) rfl (krN (ρ := fun _ => 3))) (krC (ρ := fun _ => 3) (k := 3) rfl (krN (ρ := fun _ => 3))) ⟨⟨rfl, (SupX.lit rfl)⟩, trivial⟩ rfl) ⟨rfl, rfl, trivial⟩ ⟨rfl, trivial⟩ trivial (R2 (d_shl (by decide) (shl32 (by omega))) rfl rfl (R1 x4 rfl (R1 x4 rfl (R2 (xe4 (wr64 (by omega) (by omega))) rfl rfl ?_)))))))
 refine RE (d_callCX (ps := [.val (tI _)]) (caps := [.ptr 3 0]) (fun _ => 3) (c_head1 _ _ (k + 1) (by omega) (by omega)) fi267 rfl (krC (ρ := fun _ => 3) (k := 3) rfl (krN (ρ := fun _ => 3))) (krC (ρ := fun _ => 3) (k := 3) rfl (krN (ρ := fun _ => 3))) ⟨⟨rfl, (SupX.lit rfl)⟩, trivial⟩ rfl) ⟨rfl, rfl, trivial⟩ ⟨rfl, trivial⟩ trivial (R2 (d_or (or32 (by omega) (by omega))) rfl rfl (R1 x4 rfl (R2 (d_shl (by omega) (shlN64 (s := s) rfl (by omega) (by omega))) rfl rfl (R1 x4 rfl (R1 x4 rfl (R2 (xe4 (wr64 (by omega) (by omega))) rfl rfl (RE (d_callCX (ps := [.val (tI _)]) (caps := [.ptr 3 0]) (fun _ => 3) (c_head1 _ _ (k) (by omega) (by omega)) fi267 rfl (krC (ρ := fun _ => 3) (k := 3) rfl (krN (ρ := fun _ => 3))) (krC (ρ := fun _ => 3) (k := 3) rfl (krN (ρ := fun _ => 3))) ⟨⟨rfl, (SupX.lit rfl)⟩, trivial⟩ rfl) ⟨rfl, rfl, trivial⟩ ⟨rfl, trivial⟩ trivial ?_)))))))
 refine R1 x4 rfl (R2 (xe4 (r := ((32 - s : Nat) : Int)) (by rw [wr64 (by omega) (by omega)]; omega)) rfl rfl (R2 (d_shr (by omega) (shrN (s := 32 - s) rfl (by show 32 - s ≤ 64; omega))) rfl rfl (R2 (d_or (or_sum' _ _ s rfl rfl hlow (wu64 (by omega) (by omega)) (by show _ < 18446744073709551616; omega))) rfl rfl (R1 x5 rfl (xd9 (by kernel_rfl) (x3 (xa2 ?_)))))))
 exact xa3 Plain.mk' rfl rfl (Le.int (congrArg _ heq.symm))
theorem c_difference (u a v b : Nat) (hu : u < 4294967296) (hvv : v < 4294967296) (hle : v * b ≤ u * a) (ha : (dig 4294967296 a).length ≤ 100000) (hb : (dig 4294967296 b).length ≤ 100000) :
  Ct Tryz.prog 257 [tE (.int .u64 (u : Int)), tN a, tE (.int .u64 (v : Int)), tN b] (tN (u * a - v * b)) := by
 refine Ct.intro Tryz.func257 rfl Tryz.ntmps257 rfl ?_
 intro w F
 refine x6 ?_
 refine x8 ?_
 refine R1 x5 rfl (x7 (by kernel_rfl) (x3 (x6 ?_)))
 refine x8 ?_
 refine R1 x4 rfl (R1 (xb9 Tryz.underlying179) rfl (R1 x4 rfl (R1 (xb9 Tryz.underlying179) rfl (R2 d_max2 rfl rfl (R2 (xc4 (wr64 (by omega) (by omega))) rfl rfl (RE (d_makeO (k := 20) (t := tE (.int .u32 0)) (ts := rW .u32 (List.replicate ((max (dig 4294967296 a).length (dig 4294967296 b).length + 1)) 0)) ((max (dig 4294967296 a).length (dig 4294967296 b).length + 1)) ((max (dig 4294967296 a).length (dig 4294967296 b).length + 1)) Tryz.underlying179 el218 (fun _ _ => rfl) rfl (by omega) (by omega) (Nat.le_refl _) (by omega) (by omega) (rW_rep _)) ⟨rfl, rfl, trivial⟩ trivial ⟨rfl, trivial⟩ (R1 x5 rfl ?_)))))))
 refine x7 (by kernel_rfl) (x3 (x6 ?_))
 refine x8 ?_
 refine R1 x5 rfl (R1 x5 rfl (R1 x5 rfl (x7 (by kernel_rfl) (x3 (x6 (x6 ?_))))))
 refine x8 ?_
 refine R1 x4 rfl (R1 (d_lenO Tryz.underlying179) rfl (R1 x4 rfl (x7 (by kernel_rfl) (x3 (xa9 ?_)))))
 refine xd6 (fun (fm : (Nat) × (List Nat) × (Nat) × (Nat) × (Nat)) => (fun (i : Nat) (ws : List Nat) (x : Nat) (y : Nat) (br : Nat) => i ≤ (max (dig 4294967296 a).length (dig 4294967296 b).length + 1) ∧ ws.length = (max (dig 4294967296 a).length (dig 4294967296 b).length + 1) ∧ Dig 4294967296 ws ∧ x = u * (a % 4294967296 ^ i) / 4294967296 ^ i ∧ y = v * (b % 4294967296 ^ i) / 4294967296 ^ i ∧ br ≤ 1 ∧ val 4294967296 (ws.take i) + v * (b % 4294967296 ^ i) + x * 4294967296 ^ i = u * (a % 4294967296 ^ i) + y * 4294967296 ^ i + br * 4294967296 ^ i) fm.1 fm.2.1 fm.2.2.1 fm.2.2.2.1 fm.2.2.2.2) (fun (fm : (Nat) × (List Nat) × (Nat) × (Nat) × (Nat)) => (fun (i : Nat) (ws : List Nat) (x : Nat) (y : Nat) (br : Nat) => upd (upd (upd (upd (upd (upd (upd (upd (upd (upd (fun _ => none) 0 (some (.val (tE (.int .u64 ((u : Nat) : Int)))))) 1 (some (.val (tN a)))) 2 (some (.val (tE (.int .u64 ((v : Nat) : Int)))))) 3 (some (.val (tN b)))) 9 (some (.own (.sl 20 1 0 (max (dig 4294967296 a).length (dig 4294967296 b).length + 1))))) 12 (some (.val (tE (.int .u32 (br : Int)))))) 22 (some (.val (tI (max (dig 4294967296 a).length (dig 4294967296 b).length + 1))))) 23 (some (.val (tI i)))) 10 (some (.val (tE (.int .u64 ((x : Nat) : Int)))))) 11 (some (.val (tE (.int .u64 ((y : Nat) : Int)))))) fm.1 fm.2.1 fm.2.2.1 fm.2.2.2.1 fm.2.2.2.2) (fun (fm : (Nat) × (List Nat) × (Nat) × (Nat) × (Nat)) => (fun (i : Nat) (ws : List Nat) (x : Nat) (y : Nat) (br : Nat) => upd (fun _ => none) 20 (some (⟨218, 1, false, rW .u32 ws⟩))) fm.1 fm.2.1 fm.2.2.1 fm.2.2.2.1 fm.2.2.2.2) (nm [20]) (fun (fm : (Nat) × (List Nat) × (Nat) × (Nat) × (Nat)) => (fun (i : Nat) (ws : List Nat) (x : Nat) (y : Nat) (br : Nat) => (max (dig 4294967296 a).length (dig 4294967296 b).length + 1) - i) fm.1 fm.2.1 fm.2.2.1 fm.2.2.2.1 fm.2.2.2.2) ((0, List.replicate (max (dig 4294967296 a).length (dig 4294967296 b).length + 1) 0, 0, 0, 0)) (by dsimp only; exact ⟨Nat.zero_le _, by simp, Dig.rep (by decide) _, by simp [Nat.mod_one], by simp [Nat.mod_one], by omega, by simp [Nat.mod_one, val]⟩) (Sub.int rfl (by first | omega | rfl | (dsimp only; omega)) (Sub.int rfl (by first | omega | rfl | (dsimp only; omega)) (Sub.int rfl (by first | omega | rfl | (dsimp only; omega)) (Sub.int rfl (by first | omega | rfl | (dsimp only; omega)) (Sub.int rfl (by first | omega | rfl | (dsimp only; omega)) (Sub.cons rfl (Sub.cons rfl (Sub.int rfl (by first | omega | rfl | (dsimp only; omega)) (Sub.cons rfl (Sub.int rfl (by first | omega | rfl | (dsimp only; omega)) Sub.nil)))))))))) ((SubK.consI rfl ImpK.refl) SubK.nil) (SupG.val (SupG.val (SupG.val (SupG.val (SupG.val (SupG.own rfl (SupG.val (SupG.val (SupG.val (SupG.val SupG.nil)))))))))) (SupH.cons rfl (supJ xc5) SupH.nil) (lkOk rfl) ?_
 intro fm hI
 obtain ⟨i, ws, x, y, br⟩ := fm
 replace hI : i ≤ (max (dig 4294967296 a).length (dig 4294967296 b).length + 1) ∧ ws.length = (max (dig 4294967296 a).length (dig 4294967296 b).length + 1) ∧ Dig 4294967296 ws ∧ x = u * (a % 4294967296 ^ i) / 4294967296 ^ i ∧ y = v * (b % 4294967296 ^ i) / 4294967296 ^ i ∧ br ≤ 1 ∧ val 4294967296 (ws.take i) + v * (b % 4294967296 ^ i) + x * 4294967296 ^ i = u * (a % 4294967296 ^ i) + y * 4294967296 ^ i + br * 4294967296 ^ i := hI
 show wc _ _ _ _ (upd (upd (upd (upd (upd (upd (upd (upd (upd (upd (fun _ => none) 0 (some (.val (tE (.int .u64 ((u : Nat) : Int)))))) 1 (some (.val (tN a)))) 2 (some (.val (tE (.int .u64 ((v : Nat) : Int)))))) 3 (some (.val (tN b)))) 9 (some (.own (.sl 20 1 0 (max (dig 4294967296 a).length (dig 4294967296 b).length + 1))))) 12 (some (.val (tE (.int .u32 (br : Int)))))) 22 (some (.val (tI (max (dig 4294967296 a).length (dig 4294967296 b).length + 1))))) 23 (some (.val (tI i)))) 10 (some (.val (tE (.int .u64 ((x : Nat) : Int)))))) 11 (some (.val (tE (.int .u64 ((y : Nat) : Int)))))) (upd (fun _ => none) 20 (some (⟨218, 1, false, rW .u32 ws⟩))) _
 obtain ⟨hi, hl, hD, hx, hy, hbr, hv⟩ := hI
 refine x6 ?_
 refine x8 ?_
 refine R2 xd5 rfl rfl (x7 (by kernel_rfl) (x3 (x6 ?_)))
 refine xc2 rfl (fun h78 => ?_) (fun h78 => ?_)
 ·
  have xW : x < 4294967296 := carry_lt hu hx
  have yW : y < 4294967296 := carry_lt hvv hy
  refine xa4 (x3 (x6 (xa9 (x6 ?_))))
  refine x8 ?_
  refine R1 x4 rfl (R1 x5 rfl (x7 (by kernel_rfl) (x3 ?_)))
  refine xh2 (fun (X : Nat) => X = x + u * (a / 4294967296 ^ i % 4294967296) ∧ X < 18446744073709551616) (fun (X : Nat) => upd (upd (upd (upd (upd (upd (upd (upd (upd (upd (upd (fun _ => none) 0 (some (.val (tE (.int .u64 ((u : Nat) : Int)))))) 1 (some (.val (tN a)))) 2 (some (.val (tE (.int .u64 ((v : Nat) : Int)))))) 3 (some (.val (tN b)))) 9 (some (.own (.sl 20 1 0 (max (dig 4294967296 a).length (dig 4294967296 b).length + 1))))) 12 (some (.val (tE (.int .u32 (br : Int)))))) 22 (some (.val (tI (max (dig 4294967296 a).length (dig 4294967296 b).length + 1))))) 23 (some (.val (tI i)))) 10 (some (.val (tE (.int .u64 ((X : Nat) : Int)))))) 11 (some (.val (tE (.int .u64 ((y : Nat) : Int)))))) 13 (some (.val (tI i)))) (fun (X : Nat) => upd (fun _ => none) 20 (some (⟨218, 1, false, rW .u32 ws⟩))) (nm [20]) ?_ ?_
  ·
   refine x6 ?_
   refine x8 ?_
   refine R1 x4 rfl (R1 x4 rfl (R1 (xb9 Tryz.underlying179) rfl (R2 xd5 rfl rfl (x7 (by kernel_rfl) (x3 ?_)))))
   refine xc2 rfl (fun h79 => ?_) (fun h79 => ?_)
   ·
    have ai := xe6 xb5 a i
    have ai1 := (xe9 xb5 a).getD (by decide) i
    have ua := mul_lt32 hu ai1
    refine x8 ?_
    refine R1 x4 rfl (R1 x4 rfl (R1 x4 rfl (R1 x4 rfl (R2 (xb8 sl179 (i) (by omega) (gN (by omega))) rfl rfl (R1 (xc1 ti218) rfl (R1 (xb4 Tryz.underlying142 (isS Tryz.underlying218) (by first | exact wu64 (by omega) (by omega) | exact mu64)) rfl (R2 (d_mul (wmul64 (by omega))) rfl rfl ?_)))))))
    refine R2 (xc4 (wadd64 (by omega))) rfl rfl (R1 x5 rfl (x7 (by kernel_rfl) ?_))
    exact xc7 ((x + u * (dig 4294967296 a).getD i 0)) ⟨by rw [ai], by omega⟩ (Sub.int rfl (by first | omega | rfl | (dsimp only; omega)) (Sub.int rfl (by first | omega | rfl | (dsimp only; omega)) (Sub.int rfl (by first | omega | rfl | (dsimp only; omega)) (Sub.int rfl (by first | omega | rfl | (dsimp only; omega)) (Sub.int rfl (by first | omega | rfl | (dsimp only; omega)) (Sub.int rfl (by first | omega | rfl | (dsimp only; omega)) (Sub.cons rfl (Sub.cons rfl (Sub.int rfl (by first | omega | rfl | (dsimp only; omega)) (Sub.cons rfl (Sub.int rfl (by first | omega | rfl | (dsimp only; omega)) Sub.nil))))))))))) ((SubK.consI rfl ImpK.refl) SubK.nil) (SupG.val (SupG.val (SupG.val (SupG.val (SupG.val (SupG.val (SupG.own rfl (SupG.val (SupG.val (SupG.val (SupG.val SupG.nil))))))))))) (SupH.cons rfl (supJ xc5) SupH.nil) (lkOk rfl)
   ·
    refine xa4 ?_
    exact xc7 (x) ⟨by rw [dig_out xb5 (by omega), Nat.mul_zero, Nat.add_zero], by omega⟩ (Sub.int rfl (by first | omega | rfl | (dsimp only; omega)) (Sub.int rfl (by first | omega | rfl | (dsimp only; omega)) (Sub.int rfl (by first | omega | rfl | (dsimp only; omega)) (Sub.int rfl (by first | omega | rfl | (dsimp only; omega)) (Sub.int rfl (by first | omega | rfl | (dsimp only; omega)) (Sub.int rfl (by first | omega | rfl | (dsimp only; omega)) (Sub.cons rfl (Sub.cons rfl (Sub.int rfl (by first | omega | rfl | (dsimp only; omega)) (Sub.cons rfl (Sub.int rfl (by first | omega | rfl | (dsimp only; omega)) Sub.nil))))))))))) ((SubK.consI rfl ImpK.refl) SubK.nil) (SupG.val (SupG.val (SupG.val (SupG.val (SupG.val (SupG.val (SupG.own rfl (SupG.val (SupG.val (SupG.val (SupG.val SupG.nil))))))))))) (SupH.cons rfl (supJ xc5) SupH.nil) (lkOk rfl)
  ·
   intro X hX
   refine xh2 (fun (Y : Nat) => Y = y + v * (b / 4294967296 ^ i % 4294967296) ∧ Y < 18446744073709551616) (fun (Y : Nat) => upd (upd (upd (upd (upd (upd (upd (upd (upd (upd (upd (fun _ => none) 0 (some (.val (tE (.int .u64 ((u : Nat) : Int)))))) 1 (some (.val (tN a)))) 2 (some (.val (tE (.int .u64 ((v : Nat) : Int)))))) 3 (some (.val (tN b)))) 9 (some (.own (.sl 20 1 0 (max (dig 4294967296 a).length (dig 4294967296 b).length + 1))))) 12 (some (.val (tE (.int .u32 (br : Int)))))) 22 (some (.val (tI (max (dig 4294967296 a).length (dig 4294967296 b).length + 1))))) 23 (some (.val (tI i)))) 10 (some (.val (tE (.int .u64 ((X : Nat) : Int)))))) 11 (some (.val (tE (.int .u64 ((Y : Nat) : Int)))))) 13 (some (.val (tI i)))) (fun (Y : Nat) => upd (fun _ => none) 20 (some (⟨218, 1, false, rW .u32 ws⟩))) (nm [20]) ?_ ?_
   ·
    refine x6 ?_
    refine x8 ?_
    refine R1 x4 rfl (R1 x4 rfl (R1 (xb9 Tryz.underlying179) rfl (R2 xd5 rfl rfl (x7 (by kernel_rfl) (x3 ?_)))))
    refine xc2 rfl (fun h82 => ?_) (fun h82 => ?_)
    ·
     have bi := xe6 xb5 b i
     have bi1 := (xe9 xb5 b).getD (by decide) i
     have vb := mul_lt32 hvv bi1
     refine x8 ?_
     refine R1 x4 rfl (R1 x4 rfl (R1 x4 rfl (R1 x4 rfl (R2 (xb8 sl179 (i) (by omega) (gN (by omega))) rfl rfl (R1 (xc1 ti218) rfl (R1 (xb4 Tryz.underlying142 (isS Tryz.underlying218) (by first | exact wu64 (by omega) (by omega) | exact mu64)) rfl (R2 (d_mul (wmul64 (by omega))) rfl rfl ?_)))))))
     refine R2 (xc4 (wadd64 (by omega))) rfl rfl (R1 x5 rfl (x7 (by kernel_rfl) ?_))
     exact xc7 ((y + v * (dig 4294967296 b).getD i 0)) ⟨by rw [bi], by omega⟩ (Sub.int rfl (by first | omega | rfl | (dsimp only; omega)) (Sub.int rfl (by first | omega | rfl | (dsimp only; omega)) (Sub.int rfl (by first | omega | rfl | (dsimp only; omega)) (Sub.int rfl (by first | omega | rfl | (dsimp only; omega)) (Sub.int rfl (by first | omega | rfl | (dsimp only; omega)) (Sub.int rfl (by first | omega | rfl | (dsimp only; omega)) (Sub.cons rfl (Sub.cons rfl (Sub.int rfl (by first | omega | rfl | (dsimp only; omega)) (Sub.cons rfl (Sub.int rfl (by first | omega | rfl | (dsimp only; omega)) Sub.nil))))))))))) ((SubK.consI rfl ImpK.refl) SubK.nil) (SupG.val (SupG.val (SupG.val (SupG.val (SupG.val (SupG.val (SupG.own rfl (SupG.val (SupG.val (SupG.val (SupG.val SupG.nil))))))))))) (SupH.cons rfl (supJ xc5) SupH.nil) (lkOk rfl)
    ·
     refine xa4 ?_
     exact xc7 (y) ⟨by rw [dig_out xb5 (by omega), Nat.mul_zero, Nat.add_zero], by omega⟩ (Sub.int rfl (by first | omega | rfl | (dsimp only; omega)) (Sub.int rfl (by first | omega | rfl | (dsimp only; omega)) (Sub.int rfl (by first | omega | rfl | (dsimp only; omega)) (Sub.int rfl (by first | omega | rfl | (dsimp only; omega)) (Sub.int rfl (by first | omega | rfl | (dsimp only; omega)) (Sub.int rfl (by first | omega | rfl | (dsimp only; omega)) (Sub.cons rfl (Sub.cons rfl (Sub.int rfl (by first | omega | rfl | (dsimp only; omega)) (Sub.cons rfl (Sub.int rfl (by first | omega | rfl | (dsimp only; omega)) Sub.nil))))))))))) ((SubK.consI rfl ImpK.refl) SubK.nil) (SupG.val (SupG.val (SupG.val (SupG.val (SupG.val (SupG.val (SupG.own rfl (SupG.val (SupG.val (SupG.val (SupG.val SupG.nil))))))))))) (SupH.cons rfl (supJ xc5) SupH.nil) (lkOk rfl)
   ·
    intro Y hY
    refine x6 ?_
    refine x8 ?_
    refine R1 x4 rfl (R1 x4 rfl (R1 x4 rfl (R1 (xb4 Tryz.underlying218 (isS Tryz.underlying142) cut32) rfl (R1 x4 rfl (R1 (xb4 Tryz.underlying218 (isS Tryz.underlying142) cut32) rfl (R1 x4 rfl (RE (xa0 (c_Sub32 _ _ _ (Nat.mod_lt _ (by decide)) (Nat.mod_lt _ (by decide)) (by omega)) fi249 rfl) ⟨rfl, rfl, rfl, trivial⟩ trivial trivial ?_)))))))
    refine R1 x4 rfl (R1 (xb7 rfl) rfl (R1 (xb7 rfl) rfl (R2 (xd7 sl179 (by omega) (by omega) rfl) rfl rfl (RE (xb0 (i) ti218 (rW_lt (by omega)) (by omega) (rW_set (m := _) rfl)) ⟨rfl, rfl, trivial⟩ ⟨rfl, trivial⟩ trivial (R1 x5 rfl (x7 (by kernel_rfl) (x3 ?_)))))))
    refine x6 ?_
    refine x8 ?_
    refine R1 x4 rfl (R2 (d_shr (by decide) shr32) rfl rfl (R1 x5 rfl (x7 (by kernel_rfl) (x3 ?_))))
    refine x8 ?_
    refine R1 x4 rfl (R2 (d_shr (by decide) shr32) rfl rfl (R1 x5 rfl (x7 (by kernel_rfl) (xc6 (x3 ?_)))))
    refine x8 ?_
    refine R2 (xc4 (wr64 (by omega) (by omega))) rfl rfl (R1 x4 rfl (x7 (by kernel_rfl) ?_))
    obtain ⟨n1, n2, n3, n4, n5⟩ := diff_in (X := X) (Y := Y) (br' := subB (X % 4294967296) (Y % 4294967296) br) (by omega) hl hD hx hy hv hX.1 hY.1 (subD_add (Nat.mod_lt _ (by decide)) (Nat.mod_lt _ (by decide)) hbr) (subD_lt _ _ _)
    have n6 := subB_le (X % 4294967296) (Y % 4294967296) br
    exact xc7 ((i + 1, ws.set i (subD (X % 4294967296) (Y % 4294967296) br), X / 4294967296, Y / 4294967296, subB (X % 4294967296) (Y % 4294967296) br)) ⟨(by dsimp only; exact ⟨by omega, n1, n2, n3, n4, n6, n5⟩), (by dsimp only; omega)⟩ (Sub.int rfl (by first | omega | rfl | (dsimp only; omega)) (Sub.int rfl (by first | omega | rfl | (dsimp only; omega)) (Sub.int rfl (by first | omega | rfl | (dsimp only; omega)) (Sub.int rfl (by first | omega | rfl | (dsimp only; omega)) (Sub.int rfl (by first | omega | rfl | (dsimp only; omega)) (Sub.cons rfl (Sub.cons rfl (Sub.int rfl (by first | omega | rfl | (dsimp only; omega)) (Sub.cons rfl (Sub.int rfl (by first | omega | rfl | (dsimp only; omega)) Sub.nil)))))))))) ((SubK.consI rfl ImpK.refl) SubK.nil) (SupG.val (SupG.val (SupG.val (SupG.val (SupG.val (SupG.own rfl (SupG.val (SupG.val (SupG.val (SupG.val SupG.nil)))))))))) (SupH.cons rfl (supJ xc5) SupH.nil) (lkOk rfl)
 ·
  refine xd1 (xc0 (xc0 (xd8 (x3 (x6 ?_)))))
  refine x8 ?_
  refine RE (d_moveS (fun _ h => h) (rW_all hl) hl) ⟨rfl, trivial⟩ ⟨rfl, trivial⟩ trivial (RE (xa0 (c_trim _) fi241 rfl) ⟨rfl, trivial⟩ trivial trivial (R1 x5 rfl (x7 (by kernel_rfl) (x3 (xa2 ?_)))))
  have him : i = (max (dig 4294967296 a).length (dig 4294967296 b).length + 1) := by omega
  subst him
  have hfin := diff_end hl hD ((xd3 xb5 a _).1 (Nat.le_max_left _ _)) ((xd3 xb5 b _).1 (Nat.le_max_right _ _)) hu hvv hx hy hv hle
  exact xa3 Plain.mk' rfl rfl (Le.of (congrArg tWs hfin))
end An.S

/- Steps of Euclid's algorithm from the first bits of two numbers (Lehmer, by the condition of Collins). Plain numbers. -/
namespace An
/-- Several steps at once: what they lead to. -/
def Steps (a b u0 u1 v0 v1 : Nat) (e : Bool) : Prop :=
  u0 < 4294967296 ∧ u1 < 4294967296 ∧ v0 < 4294967296 ∧ v1 < 4294967296 ∧
    ∃ x y, (e = true → u0 * a = v0 * b + x ∧ v1 * b = u1 * a + y) ∧ (e = false → v0 * b = u0 * a + x ∧ u1 * a = v1 * b + y) ∧ y ≤ x ∧ x + y ≤ a ∧ Nat.gcd x y = Nat.gcd a b
def sg (e : Bool) : Int := if e then -1 else 1
/-- What holds between the steps. α and β: the first bits of a and b. -/
structure Sim (α β a1 a2 u1 v1 u2 v2 : Nat) (e : Bool) : Prop where
  h1 : (a1 : Int) = sg e * (u1 * α - v1 * β)
  h2 : (a2 : Int) = - (sg e * (u2 * α - v2 * β))
  det : (u1 : Int) * v2 - u2 * v1 = sg e
  le1 : u2 ≤ v2
  le2 : u1 + u2 ≤ v1 + v2
  pos : 1 ≤ v2
  ge : a2 ≤ a1
theorem combA {σ u1 v1 u2 v2 A B : Int} (hσ : σ * σ = 1) (hd : u1 * v2 - u2 * v1 = σ) : v2 * (σ * (u1 * A - v1 * B)) + v1 * (-(σ * (u2 * A - v2 * B))) = A := by grind
theorem combB {σ u1 v1 u2 v2 A B : Int} (hσ : σ * σ = 1) (hd : u1 * v2 - u2 * v1 = σ) : u2 * (σ * (u1 * A - v1 * B)) + u1 * (-(σ * (u2 * A - v2 * B))) = B := by grind
theorem sg_sq (e : Bool) : sg e * sg e = 1 := by cases e <;> rfl
theorem sg_not (e : Bool) : sg (!e) = - sg e := by cases e <;> rfl
theorem Sim.sumA {α β a1 a2 u1 v1 u2 v2 : Nat} {e : Bool} (s : Sim α β a1 a2 u1 v1 u2 v2 e) : v2 * a1 + v1 * a2 = α := by
  have h := sg_sq e
  have h1 := s.h1; have h2 := s.h2; have hd := s.det
  have : (v2 : Int) * a1 + v1 * a2 = α := by rw [h1, h2]; exact combA h hd
  exact_mod_cast this
theorem Sim.sumB {α β a1 a2 u1 v1 u2 v2 : Nat} {e : Bool} (s : Sim α β a1 a2 u1 v1 u2 v2 e) : u2 * a1 + u1 * a2 = β := by
  have h := sg_sq e
  have h1 := s.h1; have h2 := s.h2; have hd := s.det
  have : (u2 : Int) * a1 + u1 * a2 = β := by rw [h1, h2]; exact combB h hd
  exact_mod_cast this
theorem Sim.init {α β : Nat} (h : β ≤ α) : Sim α β α β 1 0 0 1 false := ⟨by simp [sg], by simp [sg], by simp [sg], by omega, by omega, by omega, h⟩
theorem Sim.step {α β a1 a2 u1 v1 u2 v2 : Nat} {e : Bool} (s : Sim α β a1 a2 u1 v1 u2 v2 e) (hc : v2 ≤ a2) : Sim α β a2 (a1 % a2) u2 v2 (u1 + a1 / a2 * u2) (v1 + a1 / a2 * v2) (!e) := by
  have h0 : 1 ≤ a2 := by have := s.pos; omega
  have hq : 1 ≤ a1 / a2 := (Nat.le_div_iff_mul_le h0).2 (by have := s.ge; omega)
  have hdm := Nat.div_add_mod a1 a2
  have hm : ((a1 % a2 : Nat) : Int) = a1 - a2 * ((a1 / a2 : Nat) : Int) := by
    have : ((a2 * (a1 / a2) + a1 % a2 : Nat) : Int) = a1 := by rw [hdm]
    rw [Int.natCast_add, Int.natCast_mul] at this; omega
  have h1 := s.h1; have h2 := s.h2; have hd := s.det
  refine ⟨?_, ?_, ?_, ?_, ?_, ?_, Nat.le_of_lt (Nat.mod_lt _ h0)⟩
  · rw [sg_not, h2]; generalize sg e = σ at *; grind
  · rw [hm, sg_not]
    simp only [Int.natCast_add, Int.natCast_mul]
    generalize sg e = σ at *
    generalize ((a1 / a2 : Nat) : Int) = q at *
    grind
  · rw [sg_not, ← hd]
    simp only [Int.natCast_add, Int.natCast_mul]
    generalize ((a1 / a2 : Nat) : Int) = q at *
    grind
  · generalize a1 / a2 = q at *
    obtain ⟨p, rfl⟩ : ∃ p, q = p + 1 := ⟨q - 1, by omega⟩
    rw [Nat.add_mul, Nat.add_mul]
    have := Nat.mul_le_mul_left p s.le1
    have := s.le2
    omega
  · generalize a1 / a2 = q at *
    obtain ⟨p, rfl⟩ : ∃ p, q = p + 1 := ⟨q - 1, by omega⟩
    rw [Nat.add_mul, Nat.add_mul]
    have := Nat.mul_le_mul_left p s.le1
    have := s.le2; have := s.le1
    omega
  · have := Nat.mul_le_mul hq s.pos
    omega
/-- All numbers are small. -/
theorem Sim.small {α β a1 a2 u1 v1 u2 v2 : Nat} {e : Bool} (s : Sim α β a1 a2 u1 v1 u2 v2 e) (hc : v2 ≤ a2) (hα : α < 18446744073709551616) (hβ : β ≤ α) :
    v1 + v2 < 18446744073709551616 ∧ u1 < 18446744073709551616 ∧ a1 / a2 * u2 < 18446744073709551616 ∧ u1 + a1 / a2 * u2 < 18446744073709551616 ∧ a1 / a2 * v2 < 18446744073709551616 ∧ v1 + a1 / a2 * v2 < 18446744073709551616 := by
  have hA := s.sumA
  have hB := s.sumB
  have h0 := s.pos
  have hge := s.ge
  have k1 : v2 ≤ v2 * a1 := Nat.le_mul_of_pos_right _ (by omega)
  have k2 : v1 ≤ v1 * a2 := Nat.le_mul_of_pos_right _ (by omega)
  have k3 : u1 ≤ u1 * a2 := Nat.le_mul_of_pos_right _ (by omega)
  have k4 : a1 / a2 * u2 ≤ a1 * u2 := Nat.mul_le_mul_right _ (Nat.div_le_self _ _)
  have k5 : a1 / a2 * v2 ≤ a1 * v2 := Nat.mul_le_mul_right _ (Nat.div_le_self _ _)
  rw [Nat.mul_comm a1] at k4 k5
  omega
theorem Sim.small32 {α β a1 a2 u1 v1 u2 v2 : Nat} {e : Bool} (s : Sim α β a1 a2 u1 v1 u2 v2 e) (hc : v2 ≤ a2) (hα : α < 18446744073709551616) : u2 < 4294967296 ∧ v2 < 4294967296 := by
  have hA := s.sumA
  have h0 := s.pos
  have hge := s.ge
  have h1 : v2 * v2 ≤ v2 * a1 := Nat.mul_le_mul_left _ (by omega)
  have h2 : v2 < 4294967296 := by
    rcases Nat.lt_or_ge v2 4294967296 with h | h
    · exact h
    · have := Nat.mul_le_mul h h
      omega
  have := s.le1
  omega
/-- For the numbers themselves. -/
theorem Sim.whole {a b P : Nat} {α β a1 a2 u1 v1 u2 v2 : Nat} {e : Bool} (s : Sim α β a1 a2 u1 v1 u2 v2 e) (hP : 0 < P) (hα : a / P = α) (hβ : b / P = β) (hc : v2 ≤ a2) (hd : v1 + v2 ≤ a1 - a2) :
    ∃ x y : Nat, (x : Int) = sg e * (u1 * a - v1 * b) ∧ (y : Int) = -(sg e * (u2 * a - v2 * b)) ∧ y ≤ x ∧ v2 * x + v1 * y = a ∧ Nat.gcd x y = Nat.gcd a b := by
  have hσ := sg_sq e
  have h1 := s.h1; have h2 := s.h2; have hdet := s.det
  have ha := Nat.div_add_mod a P
  have hb := Nat.div_add_mod b P
  have ra := Nat.mod_lt a hP
  have rb := Nat.mod_lt b hP
  rw [hα] at ha; rw [hβ] at hb
  generalize a % P = ρ at *
  generalize b % P = τ at *
  have ha' : (a : Int) = P * α + ρ := by rw [← ha]; simp
  have hb' : (b : Int) = P * β + τ := by rw [← hb]; simp
  have l1 := s.le1; have l2 := s.le2; have hge := s.ge
  -- the bounds
  have b1 : u2 * ρ ≤ v2 * (P - 1) := Nat.mul_le_mul l1 (by omega)
  have b2 : v2 * τ ≤ v2 * (P - 1) := Nat.mul_le_mul_left _ (by omega)
  have b3 : (u1 + u2) * ρ ≤ (v1 + v2) * (P - 1) := Nat.mul_le_mul l2 (by omega)
  have b4 : (v1 + v2) * τ ≤ (v1 + v2) * (P - 1) := Nat.mul_le_mul_left _ (by omega)
  have b5 : v2 * P ≤ a2 * P := Nat.mul_le_mul_right _ hc
  have b6 : (v1 + v2) * P ≤ (a1 - a2) * P := Nat.mul_le_mul_right _ hd
  have b7 : v2 * (P - 1) ≤ v2 * P := Nat.mul_le_mul_left _ (by omega)
  have b8 : (v1 + v2) * (P - 1) ≤ (v1 + v2) * P := Nat.mul_le_mul_left _ (by omega)
  have c1 : ((u2 * ρ : Nat) : Int) ≤ ((a2 * P : Nat) : Int) := by omega
  have c2 : ((v2 * τ : Nat) : Int) ≤ ((a2 * P : Nat) : Int) := by omega
  have c3 : (((u1 + u2) * ρ : Nat) : Int) ≤ (((a1 - a2) * P : Nat) : Int) := by omega
  have c4 : (((v1 + v2) * τ : Nat) : Int) ≤ (((a1 - a2) * P : Nat) : Int) := by omega
  have p1 : (0 : Int) ≤ ((u2 * ρ : Nat) : Int) := by omega
  have p2 : (0 : Int) ≤ ((v2 * τ : Nat) : Int) := by omega
  have p3 : (0 : Int) ≤ (((u1 + u2) * ρ : Nat) : Int) := by omega
  have p4 : (0 : Int) ≤ (((v1 + v2) * τ : Nat) : Int) := by omega
  rw [Int.natCast_mul, Int.natCast_mul, ] at c1 c2
  rw [Int.natCast_mul, Int.natCast_mul, Int.natCast_add, Int.natCast_sub hge] at c3 c4
  rw [Int.natCast_mul] at p1 p2
  rw [Int.natCast_mul, Int.natCast_add] at p3 p4
  have hy : (0 : Int) ≤ -(sg e * (u2 * a - v2 * b)) := by
    rw [ha', hb']
    have e1 : -(sg e * ((u2 : Int) * (P * α + ρ) - v2 * (P * β + τ))) = a2 * P - sg e * (u2 * ρ - v2 * τ) := by
      rw [h2]; generalize sg e = σ; grind
    rw [e1]
    cases e with
    | false => simp only [sg, Bool.false_eq_true, ↓reduceIte]; omega
    | true => simp only [sg, ↓reduceIte]; omega
  have hxy : (0 : Int) ≤ sg e * (u1 * a - v1 * b) - -(sg e * (u2 * a - v2 * b)) := by
    rw [ha', hb']
    have e1 : sg e * ((u1 : Int) * (P * α + ρ) - v1 * (P * β + τ)) - -(sg e * ((u2 : Int) * (P * α + ρ) - v2 * (P * β + τ))) = (a1 - a2) * P + sg e * ((u1 + u2) * ρ - (v1 + v2) * τ) := by
      rw [h1, h2]; generalize sg e = σ; grind
    rw [e1]
    cases e with
    | false => simp only [sg, Bool.false_eq_true, ↓reduceIte]; omega
    | true => simp only [sg, ↓reduceIte]; omega
  obtain ⟨y, hy'⟩ := Int.eq_ofNat_of_zero_le hy
  obtain ⟨x, hx'⟩ := Int.eq_ofNat_of_zero_le (show (0 : Int) ≤ sg e * (u1 * a - v1 * b) by omega)
  have hle : y ≤ x := by omega
  have eA : (v2 : Int) * x + v1 * y = a := by
    rw [← hx', ← hy']; exact combA hσ hdet
  have eB : (u2 : Int) * x + u1 * y = b := by
    rw [← hx', ← hy']; exact combB hσ hdet
  have eA' : v2 * x + v1 * y = a := by exact_mod_cast eA
  have eB' : u2 * x + u1 * y = b := by exact_mod_cast eB
  refine ⟨x, y, hx'.symm, hy'.symm, hle, eA', ?_⟩
  apply Nat.dvd_antisymm
  · refine Nat.dvd_gcd ?_ ?_
    · rw [← eA']; exact Nat.dvd_add (Nat.dvd_mul_left_of_dvd (Nat.gcd_dvd_left x y) _) (Nat.dvd_mul_left_of_dvd (Nat.gcd_dvd_right x y) _)
    · rw [← eB']; exact Nat.dvd_add (Nat.dvd_mul_left_of_dvd (Nat.gcd_dvd_left x y) _) (Nat.dvd_mul_left_of_dvd (Nat.gcd_dvd_right x y) _)
  · have ga : ((Nat.gcd a b : Nat) : Int) ∣ (a : Int) := Int.natCast_dvd_natCast.2 (Nat.gcd_dvd_left a b)
    have gb : ((Nat.gcd a b : Nat) : Int) ∣ (b : Int) := Int.natCast_dvd_natCast.2 (Nat.gcd_dvd_right a b)
    refine Nat.dvd_gcd ?_ ?_
    · apply Int.natCast_dvd_natCast.1
      have hx2 : (x : Int) = sg e * (u1 * a - v1 * b) := hx'.symm
      rw [hx2]
      exact Int.dvd_mul_of_dvd_right (Int.dvd_sub (Int.dvd_mul_of_dvd_right ga) (Int.dvd_mul_of_dvd_right gb))
    · apply Int.natCast_dvd_natCast.1
      have hy2 : (y : Int) = -(sg e * (u2 * a - v2 * b)) := hy'.symm
      rw [hy2]
      exact Int.dvd_neg.2 (Int.dvd_mul_of_dvd_right (Int.dvd_sub (Int.dvd_mul_of_dvd_right ga) (Int.dvd_mul_of_dvd_right gb)))
/-- What the steps are good for. -/
theorem Sim.steps {a b P s : Nat} {α β a1 a2 u1 v1 u2 v2 : Nat} {e : Bool} (t : Sim α β a1 a2 u1 v1 u2 v2 e) (hP : 0 < P) (hα : a * 2 ^ s / P = α) (hβ : b * 2 ^ s / P = β) (hc : v2 ≤ a2) (hd : v1 + v2 ≤ a1 - a2) (hW : α < 18446744073709551616) (hu1 : u1 < 4294967296) (hv1 : v1 < 4294967296) :
    v1 = 0 ∨ Steps a b u1 u2 v1 v2 (!e) := by
  rcases Nat.eq_zero_or_pos v1 with h | h
  · exact .inl h
  · refine .inr ?_
    obtain ⟨k1, k2⟩ := t.small32 hc hW
    obtain ⟨X, Y, hX, hY, hle, hA, hg⟩ := t.whole hP hα hβ hc hd
    have h2s : 0 < 2 ^ s := Nat.pow_pos (by omega)
    have hc2 : ((2 ^ s : Nat) : Int) ≠ 0 := by omega
    -- both are multiples of 2^s
    have fac : ∀ (Z : Nat) (w : Int), (Z : Int) = ((2 ^ s : Nat) : Int) * w → ∃ z : Nat, (z : Int) = w ∧ Z = 2 ^ s * z := fun Z w hZ => by
      have hw : 0 ≤ w := by
        rcases Int.lt_or_le w 0 with h' | h'
        · have h1 : ((2 ^ s : Nat) : Int) * w < 0 := Int.mul_neg_of_pos_of_neg (by omega) h'
          omega
        · exact h'
      obtain ⟨z, hz⟩ := Int.eq_ofNat_of_zero_le hw
      refine ⟨z, hz.symm, ?_⟩
      have : (Z : Int) = ((2 ^ s * z : Nat) : Int) := by rw [hZ, hz, Int.natCast_mul]
      exact_mod_cast this
    have ea : ((a * 2 ^ s : Nat) : Int) = a * ((2 ^ s : Nat) : Int) := Int.natCast_mul _ _
    have eb : ((b * 2 ^ s : Nat) : Int) = b * ((2 ^ s : Nat) : Int) := Int.natCast_mul _ _
    rw [ea, eb] at hX hY
    obtain ⟨x, hx, rfl⟩ := fac X (sg e * (u1 * a - v1 * b)) (by rw [hX]; generalize sg e = σ; generalize ((2 ^ s : Nat) : Int) = p; grind)
    obtain ⟨y, hy, rfl⟩ := fac Y (-(sg e * (u2 * a - v2 * b))) (by rw [hY]; generalize sg e = σ; generalize ((2 ^ s : Nat) : Int) = p; grind)
    refine ⟨hu1, k1, hv1, k2, x, y, fun he => ?_, fun he => ?_, Nat.le_of_mul_le_mul_left hle h2s, ?_, ?_⟩
    · have he' : e = false := by cases e <;> simp_all
      subst he'
      simp only [sg, Bool.false_eq_true, ↓reduceIte] at hx hy
      have h1 : ((u1 * a : Nat) : Int) = ((v1 * b + x : Nat) : Int) := by push_cast; omega
      have h2 : ((v2 * b : Nat) : Int) = ((u2 * a + y : Nat) : Int) := by push_cast; omega
      exact ⟨by exact_mod_cast h1, by exact_mod_cast h2⟩
    · have he' : e = true := by cases e <;> simp_all
      subst he'
      simp only [sg, ↓reduceIte] at hx hy
      have h1 : ((v1 * b : Nat) : Int) = ((u1 * a + x : Nat) : Int) := by push_cast; omega
      have h2 : ((u2 * a : Nat) : Int) = ((v2 * b + y : Nat) : Int) := by push_cast; omega
      exact ⟨by exact_mod_cast h1, by exact_mod_cast h2⟩
    · have h3 : 2 ^ s * (v2 * x + v1 * y) = 2 ^ s * a := by
        rw [Nat.mul_comm (2 ^ s) a, ← hA, Nat.mul_add]; ac_rfl
      have h4 := Nat.eq_of_mul_eq_mul_left h2s h3
      have h5 : x ≤ v2 * x := Nat.le_mul_of_pos_left _ t.pos
      have h6 : y ≤ v1 * y := Nat.le_mul_of_pos_left _ h
      omega
    · rw [Nat.gcd_mul_left, Nat.mul_comm a, Nat.mul_comm b, Nat.gcd_mul_left] at hg
      exact Nat.eq_of_mul_eq_mul_left h2s hg
end An

/- Package whole: the greatest common divisor. -/
namespace An.S
open Go Go.Proofs An
set_option maxHeartbeats 1000000
theorem ti4 : TyI Tryz.prog 4 1 false := ⟨by kernel_rfl, by kernel_rfl⟩
theorem ti268 : TyI Tryz.prog 268 5 true := ⟨by kernel_rfl, by kernel_rfl⟩
theorem fo268_0 : fieldO Tryz.prog 268 0 = some 0 := by kernel_rfl
theorem fo268_1 : fieldO Tryz.prog 268 1 = some 1 := by kernel_rfl
theorem fo268_2 : fieldO Tryz.prog 268 2 = some 2 := by kernel_rfl
theorem fo268_3 : fieldO Tryz.prog 268 3 = some 3 := by kernel_rfl
theorem fo268_4 : fieldO Tryz.prog 268 4 = some 4 := by kernel_rfl
theorem fi218 : FnI Tryz.prog 218 := ⟨_, Tryz.func218, by kernel_rfl, rfl⟩
theorem fi256 : FnI Tryz.prog 256 := ⟨_, Tryz.func256, by kernel_rfl, rfl⟩
theorem fi257 : FnI Tryz.prog 257 := ⟨_, Tryz.func257, by kernel_rfl, rfl⟩
theorem fi258 : FnI Tryz.prog 258 := ⟨_, Tryz.func258, by kernel_rfl, rfl⟩
theorem fi259 : FnI Tryz.prog 259 := ⟨_, Tryz.func259, by kernel_rfl, rfl⟩
theorem fi265 : FnI Tryz.prog 265 := ⟨_, Tryz.func265, by kernel_rfl, rfl⟩
theorem zr268 : (Tryz.prog.info? 268).bind (·.zero) = some (.agg #[.int .u64 0, .int .u64 0, .int .u64 0, .int .u64 0, .bool false]) ∧ ∀ F w, (tS [⟨1, false, (tE (.int .u64 0))⟩, ⟨1, false, (tE (.int .u64 0))⟩, ⟨1, false, (tE (.int .u64 0))⟩, ⟨1, false, (tE (.int .u64 0))⟩, ⟨1, false, (tE (.bool false))⟩]).p F w (.agg #[.int .u64 0, .int .u64 0, .int .u64 0, .int .u64 0, .bool false]) := ⟨by kernel_rfl, fun _ _ => ⟨_, rfl, rfl, ⟨fun _ => rfl, rfl⟩, ⟨fun _ => rfl, rfl⟩, ⟨fun _ => rfl, rfl⟩, ⟨fun _ => rfl, rfl⟩, ⟨fun _ => rfl, rfl⟩, trivial⟩⟩
theorem bu268 : BuI Tryz.prog 268 (fun i => [(0, 1), (1, 1), (2, 1), (3, 1), (4, 1)][i]?) (.agg #[.int .u64 0, .int .u64 0, .int .u64 0, .int .u64 0, .bool false]) := BuI.struct Tryz.underlying268 (by kernel_rfl) (by kernel_rfl)
theorem c_simulate (a b : Nat) (hab : b ≤ a) (hla : 3 ≤ (dig 4294967296 a).length) (ha : (dig 4294967296 a).length ≤ 100000) :
  Ct Tryz.prog 256 [tN a, tN b] (tX (fun y : Nat × Nat × Nat × Nat × Bool => y.2.2.1 = 0 ∨ Steps a b y.1 y.2.1 y.2.2.1 y.2.2.2.1 y.2.2.2.2) (fun y => tS [⟨1, false, tE (.int .u64 ((y.1 : Nat) : Int))⟩, ⟨1, false, tE (.int .u64 ((y.2.1 : Nat) : Int))⟩, ⟨1, false, tE (.int .u64 ((y.2.2.1 : Nat) : Int))⟩, ⟨1, false, tE (.int .u64 ((y.2.2.2.1 : Nat) : Int))⟩, ⟨1, false, tB y.2.2.2.2⟩])) := by
 refine Ct.intro Tryz.func256 rfl Tryz.ntmps256 rfl ?_
 intro w F
 obtain ⟨k, hk⟩ : ∃ k, (dig 4294967296 a).length = k + 3 := ⟨(dig 4294967296 a).length - 3, by omega⟩
 have ht := (xe9 xb5 a).getD (by decide) (k + 2)
 refine x6 ?_
 refine x8 ?_
 refine RE (xc9 (k := 4) (n := 5) (agg := true) zr268.1 zr268.2 rfl) trivial trivial ⟨rfl, trivial⟩ (x7 (by kernel_rfl) (x3 (x6 ?_)))
 refine x8 ?_
 refine R1 x4 rfl (R1 (xb9 Tryz.underlying179) rfl (R1 x5 rfl (x7 (by kernel_rfl) (x3 (x6 ?_)))))
 refine x8 ?_
 refine R1 x4 rfl (R1 x4 rfl (R2 (xe4 (wr64 (by omega) (by omega))) rfl rfl (R2 (xb8 sl179 (k + 2) (by omega) (gN (by omega))) rfl rfl (R1 (xc1 ti218) rfl (RE (xa0 (c_LeadingZeros32 _ (by omega)) fi245 rfl) ⟨rfl, trivial⟩ trivial trivial (R1 x5 rfl (x7 (by kernel_rfl) ?_)))))))
 refine x3 (x6 ?_)
 refine x8 ?_
 refine R1 x4 rfl (R1 x4 rfl (R1 x4 rfl ?_))
 generalize hs : 32 - Lib.bitLen ((dig 4294967296 a).getD (k + 2) 0) = s
 obtain ⟨hs31, hAW, _h1, _h2, _h3⟩ := norm (m := k + 1) hk hs
 have hBA0 : b * 2 ^ s ≤ a * 2 ^ s := Nat.mul_le_mul_right _ hab
 have hBA : (b * 2 ^ s / 4294967296 ^ (k + 1)) ≤ (a * 2 ^ s / 4294967296 ^ (k + 1)) := Nat.div_le_div_right hBA0
 have hAL : (a * 2 ^ s / 4294967296 ^ (k + 1)) < 18446744073709551616 := head_lt (n := k + 3) (by omega) hAW
 refine RE (xa0 (c_head a _ s k hk hs31 (by rw [hk]; exact hAW) (by omega)) fi265 rfl) ⟨rfl, rfl, rfl, trivial⟩ trivial trivial (R1 x4 rfl (R1 x4 rfl (R1 x4 rfl (RE (xa0 (c_head b _ s k hk hs31 (by rw [hk]; exact Nat.lt_of_le_of_lt hBA0 hAW) (by omega)) fi265 rfl) ⟨rfl, rfl, rfl, trivial⟩ trivial trivial (R1 x5 rfl (R1 x5 rfl (x7 (by kernel_rfl) ?_)))))))
 refine x3 (x6 ?_)
 refine x8 ?_
 refine R1 (xe0 (r := tS [⟨1, false, (tE (.int .u64 0))⟩, ⟨1, false, tE (.int .u64 ((1 : Nat) : Int))⟩, ⟨1, false, (tE (.int .u64 0))⟩, ⟨1, false, (tE (.int .u64 0))⟩, ⟨1, false, (tE (.bool false))⟩]) (ts := [(1, tE (.int .u64 ((1 : Nat) : Int)))]) bu268 zr268.2 ⟨_, rfl⟩ rfl ⟨_, _, _, _, rfl, Up.f (fs := [⟨1, false, (tE (.int .u64 0))⟩, ⟨1, false, (tE (.int .u64 0))⟩, ⟨1, false, (tE (.int .u64 0))⟩, ⟨1, false, (tE (.int .u64 0))⟩, ⟨1, false, (tE (.bool false))⟩]) (f := ⟨1, false, (tE (.int .u64 0))⟩) (fs' := [⟨1, false, (tE (.int .u64 0))⟩, ⟨1, false, tE (.int .u64 ((1 : Nat) : Int))⟩, ⟨1, false, (tE (.int .u64 0))⟩, ⟨1, false, (tE (.int .u64 0))⟩, ⟨1, false, (tE (.bool false))⟩]) 1 rfl rfl rfl, inferInstance, Le.refl⟩) rfl (RE (xc9 (k := 9) (n := 5) (agg := true) zr268.1 zr268.2 rfl) trivial trivial ⟨rfl, trivial⟩ (RE (xb0 (es := 5) (agg := true) (0) ti268 rfl rfl rfl) ⟨rfl, rfl, trivial⟩ ⟨rfl, trivial⟩ trivial (x7 (by kernel_rfl) (x3 (x6 ?_)))))
 refine x8 ?_
 refine R1 x5 rfl (R1 x5 rfl (x7 (by kernel_rfl) (x3 (x6 (xa9 ?_)))))
 refine xd6 (fun (fm : (Nat) × (Nat) × (Nat) × (Nat) × (Nat) × (Nat) × (Nat) × (Nat) × (Bool)) => (fun (a1 : Nat) (a2 : Nat) (u0 : Nat) (u1 : Nat) (v0 : Nat) (v1 : Nat) (u2 : Nat) (v2 : Nat) (e : Bool) => Sim (a * 2 ^ s / 4294967296 ^ (k + 1)) (b * 2 ^ s / 4294967296 ^ (k + 1)) a1 a2 u1 v1 u2 v2 e ∧ (v0 = 0 ∨ Steps a b u0 u1 v0 v1 e) ∧ u1 < 4294967296 ∧ v1 < 4294967296) fm.1 fm.2.1 fm.2.2.1 fm.2.2.2.1 fm.2.2.2.2.1 fm.2.2.2.2.2.1 fm.2.2.2.2.2.2.1 fm.2.2.2.2.2.2.2.1 fm.2.2.2.2.2.2.2.2) (fun (fm : (Nat) × (Nat) × (Nat) × (Nat) × (Nat) × (Nat) × (Nat) × (Nat) × (Bool)) => (fun (a1 : Nat) (a2 : Nat) (u0 : Nat) (u1 : Nat) (v0 : Nat) (v1 : Nat) (u2 : Nat) (v2 : Nat) (e : Bool) => upd (upd (upd (upd (upd (upd (fun _ => none) 4 (some (.own (.ptr 4 0)))) 7 (some (.val (tE (.int .u64 ((a1 : Nat) : Int)))))) 8 (some (.val (tE (.int .u64 ((a2 : Nat) : Int)))))) 9 (some (.own (.ptr 9 0)))) 10 (some (.val (tE (.int .u64 ((u2 : Nat) : Int)))))) 11 (some (.val (tE (.int .u64 ((v2 : Nat) : Int)))))) fm.1 fm.2.1 fm.2.2.1 fm.2.2.2.1 fm.2.2.2.2.1 fm.2.2.2.2.2.1 fm.2.2.2.2.2.2.1 fm.2.2.2.2.2.2.2.1 fm.2.2.2.2.2.2.2.2) (fun (fm : (Nat) × (Nat) × (Nat) × (Nat) × (Nat) × (Nat) × (Nat) × (Nat) × (Bool)) => (fun (a1 : Nat) (a2 : Nat) (u0 : Nat) (u1 : Nat) (v0 : Nat) (v1 : Nat) (u2 : Nat) (v2 : Nat) (e : Bool) => upd (upd (fun _ => none) 4 (some (⟨268, 5, true, [.val (tS [⟨1, false, tE (.int .u64 ((0 : Nat) : Int))⟩, ⟨1, false, tE (.int .u64 ((0 : Nat) : Int))⟩, ⟨1, false, tE (.int .u64 ((0 : Nat) : Int))⟩, ⟨1, false, tE (.int .u64 ((0 : Nat) : Int))⟩, ⟨1, false, tB false⟩])]⟩))) 9 (some (⟨268, 5, true, [.val (tS [⟨1, false, tE (.int .u64 ((u0 : Nat) : Int))⟩, ⟨1, false, tE (.int .u64 ((u1 : Nat) : Int))⟩, ⟨1, false, tE (.int .u64 ((v0 : Nat) : Int))⟩, ⟨1, false, tE (.int .u64 ((v1 : Nat) : Int))⟩, ⟨1, false, tB e⟩])]⟩))) fm.1 fm.2.1 fm.2.2.1 fm.2.2.2.1 fm.2.2.2.2.1 fm.2.2.2.2.2.1 fm.2.2.2.2.2.2.1 fm.2.2.2.2.2.2.2.1 fm.2.2.2.2.2.2.2.2) (nm [4, 9]) (fun (fm : (Nat) × (Nat) × (Nat) × (Nat) × (Nat) × (Nat) × (Nat) × (Nat) × (Bool)) => (fun (a1 : Nat) (a2 : Nat) (u0 : Nat) (u1 : Nat) (v0 : Nat) (v1 : Nat) (u2 : Nat) (v2 : Nat) (e : Bool) => a2) fm.1 fm.2.1 fm.2.2.1 fm.2.2.2.1 fm.2.2.2.2.1 fm.2.2.2.2.2.1 fm.2.2.2.2.2.2.1 fm.2.2.2.2.2.2.2.1 fm.2.2.2.2.2.2.2.2) (((a * 2 ^ s / 4294967296 ^ (k + 1)), (b * 2 ^ s / 4294967296 ^ (k + 1)), 0, 1, 0, 0, 0, 1, false)) (by dsimp only; exact ⟨Sim.init hBA, .inl rfl, by omega, by omega⟩) (Sub.int rfl (by first | omega | rfl | (dsimp only; omega)) (Sub.int rfl (by first | omega | rfl | (dsimp only; omega)) (Sub.cons rfl (Sub.int rfl (by first | omega | rfl | (dsimp only; omega)) (Sub.int rfl (by first | omega | rfl | (dsimp only; omega)) (Sub.cons rfl Sub.nil)))))) ((SubK.consI rfl ImpK.refl) ((SubK.consI rfl ImpK.refl) SubK.nil)) (SupG.val (SupG.val (SupG.own rfl (SupG.val (SupG.val (SupG.own rfl SupG.nil)))))) (SupH.cons rfl (supJL rfl) (SupH.cons rfl (supJL rfl) SupH.nil)) (lkOk rfl) ?_
 intro fm hI
 obtain ⟨a1, a2, u0, u1, v0, v1, u2, v2, e⟩ := fm
 replace hI : Sim (a * 2 ^ s / 4294967296 ^ (k + 1)) (b * 2 ^ s / 4294967296 ^ (k + 1)) a1 a2 u1 v1 u2 v2 e ∧ (v0 = 0 ∨ Steps a b u0 u1 v0 v1 e) ∧ u1 < 4294967296 ∧ v1 < 4294967296 := hI
 show wc _ _ _ _ (upd (upd (upd (upd (upd (upd (fun _ => none) 4 (some (.own (.ptr 4 0)))) 7 (some (.val (tE (.int .u64 ((a1 : Nat) : Int)))))) 8 (some (.val (tE (.int .u64 ((a2 : Nat) : Int)))))) 9 (some (.own (.ptr 9 0)))) 10 (some (.val (tE (.int .u64 ((u2 : Nat) : Int)))))) 11 (some (.val (tE (.int .u64 ((v2 : Nat) : Int)))))) (upd (upd (fun _ => none) 4 (some (⟨268, 5, true, [.val (tS [⟨1, false, tE (.int .u64 ((0 : Nat) : Int))⟩, ⟨1, false, tE (.int .u64 ((0 : Nat) : Int))⟩, ⟨1, false, tE (.int .u64 ((0 : Nat) : Int))⟩, ⟨1, false, tE (.int .u64 ((0 : Nat) : Int))⟩, ⟨1, false, tB false⟩])]⟩))) 9 (some (⟨268, 5, true, [.val (tS [⟨1, false, tE (.int .u64 ((u0 : Nat) : Int))⟩, ⟨1, false, tE (.int .u64 ((u1 : Nat) : Int))⟩, ⟨1, false, tE (.int .u64 ((v0 : Nat) : Int))⟩, ⟨1, false, tE (.int .u64 ((v1 : Nat) : Int))⟩, ⟨1, false, tB e⟩])]⟩))) _
 obtain ⟨hS, hR, hu1, hv1⟩ := hI
 have hge := hS.ge
 have hpos := hS.pos
 have ha1 : a1 ≤ (a * 2 ^ s / 4294967296 ^ (k + 1)) := by have h := hS.sumA; have h2 : a1 ≤ v2 * a1 := Nat.le_mul_of_pos_left _ hpos; omega
 refine x6 (x6 ?_)
 refine x8 ?_
 refine R1 x4 rfl (R1 x4 rfl (R2 d_geq rfl rfl (R1 x4 rfl ?_)))
 refine RGcaseD (t := 34) rfl (fun h53 => ?_) (fun h53 => ?_)
 ·
  have hc : v2 ≤ a2 := by omega
  refine RGon (decide_eq_true h53) rfl x4 rfl ⟨rfl, trivial⟩ trivial trivial (RGon (decide_eq_true h53) rfl x4 rfl ⟨rfl, trivial⟩ trivial trivial (RGon (decide_eq_true h53) rfl (xe4 (wsub64 (by omega) (by omega))) rfl ⟨rfl, rfl, trivial⟩ trivial trivial (RGon (decide_eq_true h53) rfl (x9 fo268_3 rfl) rfl ⟨rfl, trivial⟩ trivial trivial (xb2 (decide_eq_true h53) rfl rfl (0) ti142 rfl rfl rfl (At.g 3 rfl rfl) rfl (RGon (decide_eq_true h53) rfl x4 rfl ⟨rfl, trivial⟩ trivial trivial ?_)))))
  obtain ⟨s1, s2, s3, s4, s5, s6⟩ := hS.small (by omega) hAL hBA
  refine RGon (decide_eq_true h53) rfl (xc4 (wadd64 (by omega))) rfl ⟨rfl, rfl, trivial⟩ trivial trivial (RGon (decide_eq_true h53) rfl d_geq rfl ⟨rfl, rfl, trivial⟩ trivial trivial (R2 (xa8 (decide_eq_true h53)) rfl rfl (x7 (by kernel_rfl) (x3 ?_))))
  refine xc2 rfl (fun h53_2 => ?_) (fun h53_2 => ?_)
  ·
   have hcd : v1 + v2 ≤ a1 - a2 := by omega
   refine xa4 (x3 (xa9 (x6 ?_)))
   refine xe1 mixed ?_
   refine R1 x4 rfl (R1 x4 rfl (R2 (d_quo (r := ((a1 / a2 : Nat) : Int)) (by omega) (wquo64 (by omega))) rfl rfl (R1 x4 rfl (R1 x4 rfl (R2 (d_rem (by omega) wrem64) rfl rfl (R1 x5 rfl (R1 x5 rfl ?_)))))))
   refine xd9 (by kernel_rfl) (x3 (x6 ?_))
   refine x8 ?_
   refine R1 x4 rfl (R1 x4 rfl (R1 x5 rfl (R1 x5 rfl (x7 (by kernel_rfl) (x3 (x6 ?_))))))
   refine x8 ?_
   refine R1 (x9 fo268_1 rfl) rfl (xa5 (0) ti142 rfl rfl rfl (At.g 1 rfl rfl) rfl (R1 x4 rfl (R1 (x9 fo268_1 rfl) rfl (xa5 (0) ti142 rfl rfl rfl (At.g 1 rfl rfl) rfl (R1 x4 rfl (R1 x4 rfl (R2 (d_mul (wmul64 (by omega))) rfl rfl ?_)))))))
   refine R2 (xc4 (wadd64 (by omega))) rfl rfl (R1 (x9 fo268_0 rfl) rfl (R_storeF (0) ti142 rfl rfl rfl rfl (Up.g 0 rfl rfl rfl) rfl rfl (R1 (x9 fo268_1 rfl) rfl (R_storeF (0) ti142 rfl rfl rfl rfl (Up.g 1 rfl rfl rfl) rfl rfl (R1 x5 rfl (x7 (by kernel_rfl) (x3 ?_)))))))
   refine x6 ?_
   refine x8 ?_
   refine R1 (x9 fo268_3 rfl) rfl (xa5 (0) ti142 rfl rfl rfl (At.g 3 rfl rfl) rfl (R1 x4 rfl (R1 (x9 fo268_3 rfl) rfl (xa5 (0) ti142 rfl rfl rfl (At.g 3 rfl rfl) rfl (R1 x4 rfl (R1 x4 rfl (R2 (d_mul (wmul64 (by omega))) rfl rfl ?_)))))))
   refine R2 (xc4 (wadd64 (by omega))) rfl rfl (R1 (x9 fo268_2 rfl) rfl (R_storeF (0) ti142 rfl rfl rfl rfl (Up.g 2 rfl rfl rfl) rfl rfl (R1 (x9 fo268_3 rfl) rfl (R_storeF (0) ti142 rfl rfl rfl rfl (Up.g 3 rfl rfl rfl) rfl rfl (R1 x5 rfl (x7 (by kernel_rfl) (x3 ?_)))))))
   refine x8 ?_
   refine R1 (x9 fo268_4 rfl) rfl (xa5 (0) ti4 rfl rfl rfl (At.g 4 rfl rfl) rfl (R1 xe7 rfl (R1 (x9 fo268_4 rfl) rfl (R_storeF (0) ti4 rfl rfl rfl rfl (Up.g 4 rfl rfl rfl) rfl rfl (x7 (by kernel_rfl) (xc6 ?_))))))
   have hst := hS.step hc
   have hnx := hS.steps (s := s) (Nat.pow_pos (by decide)) rfl rfl hc hcd hAL hu1 hv1
   obtain ⟨m1, m2⟩ := hS.small32 hc hAL
   have hlt : a1 % a2 < a2 := Nat.mod_lt _ (by omega)
   exact xc7 ((a2, a1 % a2, u1, u2, v1, v2, u1 + (a1 / a2) * u2, v1 + (a1 / a2) * v2, !e)) ⟨(by dsimp only; exact ⟨hst, hnx, m1, m2⟩), (by dsimp only; omega)⟩ (Sub.int rfl (by first | omega | rfl | (dsimp only; omega)) (Sub.int rfl (by first | omega | rfl | (dsimp only; omega)) (Sub.cons rfl (Sub.int rfl (by first | omega | rfl | (dsimp only; omega)) (Sub.int rfl (by first | omega | rfl | (dsimp only; omega)) (Sub.cons rfl Sub.nil)))))) ((SubK.consI rfl ImpK.refl) ((SubK.consI rfl ImpK.refl) SubK.nil)) (SupG.val (SupG.val (SupG.own rfl (SupG.val (SupG.val (SupG.own rfl SupG.nil)))))) (SupH.cons rfl (supJL rfl) (SupH.cons rfl (supJL rfl) SupH.nil)) (lkOk rfl)
  ·
   refine xd1 (xc0 (xc0 (xd8 (x3 (x6 ?_)))))
   refine x8 ?_
   refine RE (xb3 (0) ti268 rfl rfl) ⟨rfl, trivial⟩ ⟨rfl, trivial⟩ trivial (RE (xb0 (es := 5) (agg := true) (0) ti268 rfl rfl rfl) ⟨rfl, rfl, trivial⟩ ⟨rfl, trivial⟩ trivial (x7 (by kernel_rfl) (x3 (xa2 ?_))))
   exact xg5 Plain.mk' rfl ⟨_, _, _, _, _, rfl, rfl, ti268, (fun F w v h => ⟨(u0, u1, v0, v1, e), hR, h⟩)⟩
 ·
  refine RGoff (decide_eq_false h53) rfl rfl (RGoff (decide_eq_false h53) rfl rfl (RGoff (decide_eq_false h53) rfl rfl (RGoff (decide_eq_false h53) rfl rfl (RGoff (decide_eq_false h53) rfl rfl (RGoff (decide_eq_false h53) rfl rfl (RGoff (decide_eq_false h53) rfl rfl (RGoff (decide_eq_false h53) rfl rfl ?_)))))))
  refine R2 (xa7 (decide_eq_false h53)) rfl rfl (x7 (by kernel_rfl) (x3 (C_bF rfl rfl (xd1 (xc0 (xc0 (xd8 ?_)))))))
  refine x3 (x6 ?_)
  refine x8 ?_
  refine RE (xb3 (0) ti268 rfl rfl) ⟨rfl, trivial⟩ ⟨rfl, trivial⟩ trivial (RE (xb0 (es := 5) (agg := true) (0) ti268 rfl rfl rfl) ⟨rfl, rfl, trivial⟩ ⟨rfl, trivial⟩ trivial (x7 (by kernel_rfl) (x3 (xa2 ?_))))
  exact xg5 Plain.mk' rfl ⟨_, _, _, _, _, rfl, rfl, ti268, (fun F w v h => ⟨(u0, u1, v0, v1, e), hR, h⟩)⟩
theorem c_commonDivisor (a b : Nat) (ha : (dig 4294967296 a).length ≤ 100000) (hb : (dig 4294967296 b).length ≤ 100000) :
    Ct Tryz.prog 240 [tN a, tN b] (tN (Nat.gcd a b)) := by
  refine Ct.intro Tryz.func240 rfl Tryz.ntmps240 rfl ?_
  intro w F
  refine x6 ?_
  refine x8 ?_
  refine R1 x5 rfl (x7 (by kernel_rfl) (x3 ?_))
  refine xh2 (fun (fm : (Nat) × (Nat)) => (fun (p : Nat) (q : Nat) => q ≤ p ∧ Nat.gcd p q = Nat.gcd a b ∧ (dig 4294967296 p).length ≤ 100000) fm.1 fm.2) (fun (fm : (Nat) × (Nat)) => (fun (p : Nat) (q : Nat) => upd (upd (fun _ => none) 0 (some (.val (tN p)))) 1 (some (.val (tN q)))) fm.1 fm.2) (fun (fm : (Nat) × (Nat)) => (fun (p : Nat) (q : Nat) => fun _ => none) fm.1 fm.2) (nm []) ?_ ?_
  ·
    refine x6 ?_
    refine x8 ?_
    refine R1 x4 rfl (R1 x4 rfl (RE (xa0 (c_compare _ _) fi141 rfl) ⟨rfl, rfl, trivial⟩ trivial trivial (R2 xd5 rfl rfl (x7 (by kernel_rfl) (x3 ?_)))))
    refine xc2 rfl (fun h10 => ?_) (fun h10 => ?_)
    ·
      refine x8 ?_
      refine R1 x4 rfl (R1 x4 rfl (R1 x5 rfl (R1 x5 rfl (x7 (by kernel_rfl) ?_))))
      exact xc7 ((b, a)) (by dsimp only; exact ⟨Nat.le_of_lt (cmpN_neg.1 h10), Nat.gcd_comm _ _, hb⟩) (Sub.cons rfl (Sub.cons rfl Sub.nil)) SubK.nil (SupG.val (SupG.val SupG.nil)) SupH.nil (lkOk rfl)
    ·
      refine xa4 ?_
      exact xc7 ((a, b)) (by dsimp only; exact ⟨by have := mt cmpN_neg.2 h10; omega, rfl, ha⟩) (Sub.cons rfl (Sub.cons rfl Sub.nil)) SubK.nil (SupG.val (SupG.val SupG.nil)) SupH.nil (lkOk rfl)
  ·
    intro fm hj
    obtain ⟨p, q⟩ := fm
    replace hj : q ≤ p ∧ Nat.gcd p q = Nat.gcd a b ∧ (dig 4294967296 p).length ≤ 100000 := hj
    show wc _ _ _ _ (upd (upd (fun _ => none) 0 (some (.val (tN p)))) 1 (some (.val (tN q)))) (fun _ => none) _
    obtain ⟨j1, j2, j3⟩ := hj
    refine x6 (xa9 ?_)
    refine xd6 (fun (fm : (Nat) × (Nat)) => (fun (x : Nat) (y : Nat) => y ≤ x ∧ Nat.gcd x y = Nat.gcd a b ∧ (dig 4294967296 x).length ≤ 100000) fm.1 fm.2) (fun (fm : (Nat) × (Nat)) => (fun (x : Nat) (y : Nat) => upd (upd (fun _ => none) 0 (some (.val (tN x)))) 1 (some (.val (tN y)))) fm.1 fm.2) (fun (fm : (Nat) × (Nat)) => (fun (x : Nat) (y : Nat) => fun _ => none) fm.1 fm.2) (nm []) (fun (fm : (Nat) × (Nat)) => (fun (x : Nat) (y : Nat) => x + y) fm.1 fm.2) ((p, q)) (by dsimp only; exact ⟨j1, j2, j3⟩) (Sub.cons rfl (Sub.cons rfl Sub.nil)) SubK.nil (SupG.val (SupG.val SupG.nil)) SupH.nil (lkOk rfl) ?_
    intro fm hI
    obtain ⟨x, y⟩ := fm
    replace hI : y ≤ x ∧ Nat.gcd x y = Nat.gcd a b ∧ (dig 4294967296 x).length ≤ 100000 := hI
    show wc _ _ _ _ (upd (upd (fun _ => none) 0 (some (.val (tN x)))) 1 (some (.val (tN y)))) (fun _ => none) _
    obtain ⟨hle, hg, hl⟩ := hI
    have hyx := xf3 xb5 hle
    refine x6 (x6 ?_)
    refine x8 ?_
    refine R1 x4 rfl (R1 (xb9 Tryz.underlying179) rfl (R2 d_gtr rfl rfl (x7 (by kernel_rfl) (x3 ?_))))
    refine xc2 rfl (fun h13 => ?_) (fun h13 => ?_)
    ·
      have hy0 : 0 < y := by
        rcases Nat.eq_zero_or_pos y with h | h
        · subst h; rw [xf0] at h13; simp at h13
        · exact h
      refine xa4 (x3 (xa9 (x6 ?_)))
      refine x8 ?_
      refine R1 x4 rfl (R1 x4 rfl (R2 (xa0 (c_simulate x y (by omega) (by omega) (by omega)) fi256 rfl) rfl rfl (RE (xc9 (k := 5) (n := 5) (agg := true) zr268.1 zr268.2 rfl) trivial trivial ⟨rfl, trivial⟩ (RE (xb0 (agg := true) (es := 5) (0) ti268 rfl rfl rfl) ⟨rfl, rfl, trivial⟩ ⟨rfl, trivial⟩ trivial (x7 (by kernel_rfl) (x3 (x6 ?_)))))))
      refine C_caseK (k := 5) rfl ?_
      rintro ⟨u0, u1, v0, v1, e⟩ hst
      refine C_key (k := 5) (e' := ⟨268, 5, true, [.val (tS [⟨1, false, tE (.int .u64 ((u0 : Nat) : Int))⟩, ⟨1, false, tE (.int .u64 ((u1 : Nat) : Int))⟩, ⟨1, false, tE (.int .u64 ((v0 : Nat) : Int))⟩, ⟨1, false, tE (.int .u64 ((v1 : Nat) : Int))⟩, ⟨1, false, tB e⟩])]⟩) rfl rfl ?_
      refine x8 ?_
      refine R1 (x9 fo268_2 rfl) rfl (xa5 (0) ti142 rfl rfl rfl (At.g 2 rfl rfl) rfl (R2 xe5 rfl rfl (x7 (by kernel_rfl) (x3 ?_))))
      refine xc2 rfl (fun h15 => ?_) (fun h15 => ?_)
      ·
        refine x6 ?_
        refine x8 ?_
        refine R1 x4 rfl (R1 x4 rfl (RE (xa0 (c_divide _ _ (by omega) (by omega) (by omega)) fi218 rfl) ⟨rfl, rfl, trivial⟩ trivial trivial (R1 x4 rfl (R1 (xb7 rfl) rfl (R1 (xb7 rfl) rfl (R1 x5 rfl (R1 x5 rfl ?_)))))))
        refine x7 (by kernel_rfl) (x3 ?_)
        refine x8 ?_
        refine R1 x4 rfl (R1 x4 rfl (R1 x5 rfl (R1 x5 rfl (x7 (by kernel_rfl) (xc6 ?_)))))
        have hlt : x % y < y := Nat.mod_lt _ hy0
        exact xc7 ((y, x % y)) ⟨(by dsimp only; exact ⟨by omega, by rw [Nat.gcd_comm, ← Nat.gcd_rec, Nat.gcd_comm]; exact hg, by omega⟩), (by dsimp only; omega)⟩ (Sub.cons rfl (Sub.cons rfl Sub.nil)) SubK.nil (SupG.val (SupG.val SupG.nil)) SupH.nil (lkOk rfl)
      ·
        have hst := hst.resolve_left (by show ¬ v0 = 0; omega)
        obtain ⟨k1, k2, k3, k4, X, Y, hE, hO, hYX, hsum, hgg⟩ := hst
        replace k1 : u0 < 4294967296 := k1
        replace k2 : u1 < 4294967296 := k2
        replace k3 : v0 < 4294967296 := k3
        replace k4 : v1 < 4294967296 := k4
        refine x6 ?_
        refine x8 ?_
        refine R1 (x9 fo268_4 rfl) rfl (xa5 (0) ti4 rfl rfl rfl (At.g 4 rfl rfl) rfl (x7 (by kernel_rfl) (x3 ?_)))
        refine xg6 rfl (fun h18 => ?_) (fun h18 => ?_)
        ·
          obtain ⟨e1, e2⟩ := hE h18
          replace e1 : u0 * x = v0 * y + X := e1
          replace e2 : v1 * y = u1 * x + Y := e2
          refine xe1 mixed ?_
          refine R1 (x9 fo268_0 rfl) rfl (xa5 (0) ti142 rfl rfl rfl (At.g 0 rfl rfl) rfl (R1 x4 rfl (R1 (x9 fo268_2 rfl) rfl (xa5 (0) ti142 rfl rfl rfl (At.g 2 rfl rfl) rfl (R1 x4 rfl (RE (xa0 (c_difference _ _ _ _ (by omega) (by omega) (by omega) (by omega) (by omega)) fi257 rfl) ⟨rfl, rfl, rfl, rfl, trivial⟩ trivial trivial (R1 (x9 fo268_3 rfl) rfl ?_)))))))
          refine xa5 (0) ti142 rfl rfl rfl (At.g 3 rfl rfl) rfl (R1 x4 rfl (R1 (x9 fo268_1 rfl) rfl (xa5 (0) ti142 rfl rfl rfl (At.g 1 rfl rfl) rfl (R1 x4 rfl (RE (xa0 (c_difference _ _ _ _ (by omega) (by omega) (by omega) (by omega) (by omega)) fi257 rfl) ⟨rfl, rfl, rfl, rfl, trivial⟩ trivial trivial (R1 x5 rfl (R1 x5 rfl ?_)))))))
          refine xd9 (by kernel_rfl) (xc6 ?_)
          have hXl := xf3 xb5 (show X ≤ x by omega)
          exact xc7 ((X, Y)) ⟨(by dsimp only; exact ⟨hYX, by rw [hgg]; exact hg, by omega⟩), (by dsimp only; omega)⟩ (Sub.le rfl (Le.of (by dsimp only; rw [show v1 * y - u1 * x = Y by omega])) (Sub.le rfl (Le.of (by dsimp only; rw [show u0 * x - v0 * y = X by omega])) Sub.nil)) SubK.nil (SupG.val (SupG.val SupG.nil)) SupH.nil (lkOk rfl)
        ·
          obtain ⟨e1, e2⟩ := hO h18
          replace e1 : v0 * y = u0 * x + X := e1
          replace e2 : u1 * x = v1 * y + Y := e2
          refine xe1 mixed ?_
          refine R1 (x9 fo268_2 rfl) rfl (xa5 (0) ti142 rfl rfl rfl (At.g 2 rfl rfl) rfl (R1 x4 rfl (R1 (x9 fo268_0 rfl) rfl (xa5 (0) ti142 rfl rfl rfl (At.g 0 rfl rfl) rfl (R1 x4 rfl (RE (xa0 (c_difference _ _ _ _ (by omega) (by omega) (by omega) (by omega) (by omega)) fi257 rfl) ⟨rfl, rfl, rfl, rfl, trivial⟩ trivial trivial (R1 (x9 fo268_1 rfl) rfl ?_)))))))
          refine xa5 (0) ti142 rfl rfl rfl (At.g 1 rfl rfl) rfl (R1 x4 rfl (R1 (x9 fo268_3 rfl) rfl (xa5 (0) ti142 rfl rfl rfl (At.g 3 rfl rfl) rfl (R1 x4 rfl (RE (xa0 (c_difference _ _ _ _ (by omega) (by omega) (by omega) (by omega) (by omega)) fi257 rfl) ⟨rfl, rfl, rfl, rfl, trivial⟩ trivial trivial (R1 x5 rfl (R1 x5 rfl ?_)))))))
          refine xd9 (by kernel_rfl) (xc6 ?_)
          have hXl := xf3 xb5 (show X ≤ x by omega)
          exact xc7 ((X, Y)) ⟨(by dsimp only; exact ⟨hYX, by rw [hgg]; exact hg, by omega⟩), (by dsimp only; omega)⟩ (Sub.le rfl (Le.of (by dsimp only; rw [show u1 * x - v1 * y = Y by omega])) (Sub.le rfl (Le.of (by dsimp only; rw [show v0 * y - u0 * x = X by omega])) Sub.nil)) SubK.nil (SupG.val (SupG.val SupG.nil)) SupH.nil (lkOk rfl)
    ·
      refine xd1 (xc0 (xc0 (xd8 (x3 (x6 (x6 ?_))))))
      refine x8 ?_
      refine R1 x4 rfl (R1 (xb9 Tryz.underlying179) rfl (R2 xe5 rfl rfl (x7 (by kernel_rfl) (x3 ?_))))
      refine xc2 rfl (fun h24 => ?_) (fun h24 => ?_)
      ·
        refine x6 ?_
        refine x8 ?_
        refine R1 x4 rfl (R1 x5 rfl (x7 (by kernel_rfl) (x3 (xa2 (xa6 ?_)))))
        have hy0 : y = 0 := (xi2 xb5).1 (List.length_eq_zero_iff.1 (by omega))
        subst hy0
        exact xa3 Plain.mk' rfl rfl (Le.of (by rw [← hg, Nat.gcd_zero_right]))
      ·
        have hy0 : 0 < y := by
          rcases Nat.eq_zero_or_pos y with h | h
          · subst h; rw [xf0] at h24; simp at h24
          · exact h
        refine xa4 (x3 ?_)
        refine xh2 (fun (fm : (Nat) × (Nat)) => (fun (p2 : Nat) (q2 : Nat) => Nat.gcd p2 q2 = Nat.gcd a b ∧ (dig 4294967296 p2).length ≤ 2 ∧ (dig 4294967296 q2).length ≤ 2) fm.1 fm.2) (fun (fm : (Nat) × (Nat)) => (fun (p2 : Nat) (q2 : Nat) => upd (upd (fun _ => none) 0 (some (.val (tN p2)))) 1 (some (.val (tN q2)))) fm.1 fm.2) (fun (fm : (Nat) × (Nat)) => (fun (p2 : Nat) (q2 : Nat) => fun _ => none) fm.1 fm.2) (nm []) ?_ ?_
        ·
          refine x6 ?_
          refine x8 ?_
          refine R1 x4 rfl (R1 (xb9 Tryz.underlying179) rfl (R2 d_gtr rfl rfl (x7 (by kernel_rfl) (x3 ?_))))
          refine xc2 rfl (fun h27 => ?_) (fun h27 => ?_)
          ·
            refine x6 ?_
            refine x8 ?_
            refine R1 x4 rfl (R1 x4 rfl (RE (xa0 (c_divide _ _ (by omega) (by omega) (by omega)) fi218 rfl) ⟨rfl, rfl, trivial⟩ trivial trivial (R1 x4 rfl (R1 (xb7 rfl) rfl (R1 (xb7 rfl) rfl (R1 x5 rfl (R1 x5 rfl ?_)))))))
            refine x7 (by kernel_rfl) (x3 ?_)
            refine x8 ?_
            refine R1 x4 rfl (R1 x4 rfl (R1 x5 rfl (R1 x5 rfl (x7 (by kernel_rfl) ?_))))
            have hlt : x % y < y := Nat.mod_lt _ hy0
            have hml := xf3 xb5 (Nat.le_of_lt hlt)
            exact xc7 ((y, x % y)) (by dsimp only; exact ⟨by rw [Nat.gcd_comm, ← Nat.gcd_rec, Nat.gcd_comm]; exact hg, by omega, by omega⟩) (Sub.cons rfl (Sub.cons rfl Sub.nil)) SubK.nil (SupG.val (SupG.val SupG.nil)) SupH.nil (lkOk rfl)
          ·
            refine xa4 ?_
            exact xc7 ((x, y)) (by dsimp only; exact ⟨hg, by omega, by omega⟩) (Sub.cons rfl (Sub.cons rfl Sub.nil)) SubK.nil (SupG.val (SupG.val SupG.nil)) SupH.nil (lkOk rfl)
        ·
          intro fm hm
          obtain ⟨p2, q2⟩ := fm
          replace hm : Nat.gcd p2 q2 = Nat.gcd a b ∧ (dig 4294967296 p2).length ≤ 2 ∧ (dig 4294967296 q2).length ≤ 2 := hm
          show wc _ _ _ _ (upd (upd (fun _ => none) 0 (some (.val (tN p2)))) 1 (some (.val (tN q2)))) (fun _ => none) _
          obtain ⟨m1, m2, m3⟩ := hm
          refine x6 ?_
          refine x8 ?_
          refine R1 x4 rfl (R1 (xa0 (c_long (dig 4294967296 p2) (by omega) (xe9 xb5 _)) fi258 rfl) rfl (R1 x4 rfl (R1 (xa0 (c_long (dig 4294967296 q2) (by omega) (xe9 xb5 _)) fi258 rfl) rfl (R1 x5 rfl (R1 x5 rfl (x7 (by kernel_rfl) (x3 ?_)))))))
          refine x6 (xa9 ?_)
          have hp2 := (xd3 xb5 p2 2).1 m2
          have hq2 := (xd3 xb5 q2 2).1 m3
          refine xd6 (fun (fm : (Nat) × (Nat)) => (fun (r : Nat) (t : Nat) => Nat.gcd r t = Nat.gcd a b ∧ r < 18446744073709551616 ∧ t < 18446744073709551616) fm.1 fm.2) (fun (fm : (Nat) × (Nat)) => (fun (r : Nat) (t : Nat) => upd (upd (fun _ => none) 10 (some (.val (tE (.int .u64 ((r : Nat) : Int)))))) 11 (some (.val (tE (.int .u64 ((t : Nat) : Int)))))) fm.1 fm.2) (fun (fm : (Nat) × (Nat)) => (fun (r : Nat) (t : Nat) => fun _ => none) fm.1 fm.2) (nm []) (fun (fm : (Nat) × (Nat)) => (fun (r : Nat) (t : Nat) => t) fm.1 fm.2) ((p2, q2)) (by dsimp only; exact ⟨m1, hp2, hq2⟩) (Sub.le rfl (Le.int (by dsimp only; rw [val_dig xb5])) (Sub.le rfl (Le.int (by dsimp only; rw [val_dig xb5])) Sub.nil)) SubK.nil (SupG.val (SupG.val SupG.nil)) SupH.nil (lkOk rfl) ?_
          intro fm hT
          obtain ⟨r, t⟩ := fm
          replace hT : Nat.gcd r t = Nat.gcd a b ∧ r < 18446744073709551616 ∧ t < 18446744073709551616 := hT
          show wc _ _ _ _ (upd (upd (fun _ => none) 10 (some (.val (tE (.int .u64 ((r : Nat) : Int)))))) 11 (some (.val (tE (.int .u64 ((t : Nat) : Int)))))) (fun _ => none) _
          obtain ⟨t1, t2, t3⟩ := hT
          refine x6 (x6 ?_)
          refine x8 ?_
          refine R1 x4 rfl (R2 d_neq rfl rfl (x7 (by kernel_rfl) (x3 ?_)))
          refine xc2 rfl (fun h32 => ?_) (fun h32 => ?_)
          ·
            refine xa4 (x3 (xa9 ?_))
            refine xe1 mixed ?_
            refine R1 x4 rfl (R1 x4 rfl (R1 x4 rfl (R2 (d_rem (by omega) wrem64) rfl rfl (R1 x5 rfl (R1 x5 rfl (xd9 (by kernel_rfl) (xc6 ?_)))))))
            have hlt : r % t < t := Nat.mod_lt _ (by omega)
            exact xc7 ((t, r % t)) ⟨(by dsimp only; exact ⟨by rw [Nat.gcd_comm, ← Nat.gcd_rec, Nat.gcd_comm]; exact t1, by omega, by omega⟩), (by dsimp only; omega)⟩ (Sub.int rfl (by first | omega | rfl | (dsimp only; omega)) (Sub.int rfl (by first | omega | rfl | (dsimp only; omega)) Sub.nil)) SubK.nil (SupG.val (SupG.val SupG.nil)) SupH.nil (lkOk rfl)
          ·
            refine xd1 (xc0 (xc0 (xd8 (x3 (x6 ?_)))))
            refine x8 ?_
            refine R1 x4 rfl (RE (xa0 (c_short _ (by omega)) fi259 rfl) ⟨rfl, trivial⟩ trivial trivial (R1 x5 rfl (x7 (by kernel_rfl) (x3 (xa2 ?_)))))
            exact xa3 Plain.mk' rfl rfl (Le.of (by rw [← t1, show t = 0 by omega, Nat.gcd_zero_right]))
end An.S

/- Whole numbers: signs and limbs. -/
namespace An
open Go
structure Wh where
  neg : Bool
  l : List Nat
deriving DecidableEq
abbrev tWh (x : Wh) : Ty := tS [⟨1, false, tB x.neg⟩, ⟨1, false, tLm x.l⟩]
def wh (z : Int) : Wh := ⟨decide (z < 0), dig 65536 z.natAbs⟩
def len16 (z : Int) : Nat := (dig 65536 z.natAbs).length
def Wh.valid (x : Wh) : Bool := if x.l.length = 0 then !x.neg else decide (x.l.length ≤ 1024) && decide (x.l.getD (x.l.length - 1) 0 ≠ 0)
theorem xb6 : 2 ≤ 65536 := by decide
theorem val_zero_of_dig {l : List Nat} (hD : Dig 65536 l) (ht : Top l) (h : val 65536 l = 0) : l = [] := by
  have := dig_unique xb6 hD ht
  rw [h, xf0] at this; exact this.symm
theorem Wh.of_valid {x : Wh} (hD : Dig 65536 x.l) (h : x.valid = true) : ∃ z : Int, x = wh z ∧ len16 z ≤ 1024 := by
  obtain ⟨neg, l⟩ := x
  simp only [Wh.valid] at h
  split at h
  · rename_i h0
    have hl : l = [] := List.length_eq_zero_iff.1 h0
    subst hl
    refine ⟨0, ?_, by simp [len16, xf0]⟩
    have : neg = false := by simpa using h
    subst this
    simp [wh, xf0]
  · rename_i h0
    simp only [Bool.and_eq_true, decide_eq_true_eq] at h
    have ht : Top l := by
      intro x hx
      have h1 : l.getD (l.length - 1) 0 = x := by
        rw [List.getD_eq_getElem?_getD, ← List.getLast?_eq_getElem?, hx]; rfl
      rw [← h1]; exact h.2
    have hu := dig_unique xb6 hD ht
    have hv : val 65536 l ≠ 0 := fun h' => h0 (by have hl0 : l = [] := val_zero_of_dig hD ht h'; rw [hl0]; rfl)
    refine ⟨if neg then -(val 65536 l : Int) else (val 65536 l : Int), ?_, ?_⟩
    · cases neg with
      | true =>
        simp only [wh, ↓reduceIte, Int.natAbs_neg, Int.natAbs_natCast]
        rw [hu]; congr 1; simp; omega
      | false =>
        simp only [wh, Bool.false_eq_true, ↓reduceIte, Int.natAbs_natCast]
        rw [hu]; simp
    · have e : (if neg then -(val 65536 l : Int) else (val 65536 l : Int)).natAbs = val 65536 l := by cases neg <;> simp
      rw [len16, e, hu]; exact h.1
theorem valid_wh {z : Int} (h : len16 z ≤ 1024) : (wh z).valid = true := by
  unfold Wh.valid
  by_cases h0 : (wh z).l.length = 0
  · rw [if_pos h0]
    have : z.natAbs = 0 := (xi2 xb6).1 (List.length_eq_zero_iff.1 h0)
    show (!decide (z < 0)) = true
    simp; omega
  · rw [if_neg h0]
    have h1 : (wh z).l.length ≤ 1024 := h
    simp only [Bool.and_eq_true, decide_eq_true_eq]
    refine ⟨h1, ?_⟩
    have ht : Top (wh z).l := dig_Top xb6 z.natAbs
    refine ht _ ?_
    rw [List.getLast?_eq_getElem?, List.getD_eq_getElem?_getD]
    rw [List.getElem?_eq_getElem (by omega)]; rfl
/-- A number with a sign. -/
def sgn (p : Bool) (v : Nat) : Int := if p then -(v : Int) else v
theorem natAbs_sgn (p : Bool) (v : Nat) : (sgn p v).natAbs = v := by cases p <;> simp [sgn]
theorem wh_sgn (p : Bool) (v : Nat) : wh (sgn p v) = ⟨p && decide (v ≠ 0), dig 65536 v⟩ := by
  simp only [wh, natAbs_sgn]
  congr 1
  cases p
  · simp [sgn]
  · simp only [sgn, ↓reduceIte, Bool.true_and]
    by_cases h : v = 0 <;> simp [h]; omega
theorem sgn_wh (z : Int) : sgn (wh z).neg z.natAbs = z := by
  simp only [sgn, wh]
  by_cases h : z < 0 <;> simp [h] <;> omega
theorem wh_inj {x y : Int} (h : wh x = wh y) : x = y := by
  have h1 : dig 65536 x.natAbs = dig 65536 y.natAbs := congrArg Wh.l h
  have h2 : (wh x).neg = (wh y).neg := congrArg Wh.neg h
  have h3 : x.natAbs = y.natAbs := by rw [← val_dig xb6 x.natAbs, h1, val_dig xb6]
  rw [← sgn_wh x, ← sgn_wh y, h2, h3]
/-! Limbs and words. -/
theorem pow2k (k : Nat) : 4294967296 ^ k = 65536 ^ (2 * k) := by rw [Nat.pow_mul]
theorem len32 (v : Nat) : (dig 4294967296 v).length = ((dig 65536 v).length + 1) / 2 := by
  have h : ∀ k, (dig 4294967296 v).length ≤ k ↔ (dig 65536 v).length ≤ 2 * k := fun k => by
    rw [xd3 xb5, xd3 xb6, pow2k]
  have h1 := (h (dig 4294967296 v).length).1 (Nat.le_refl _)
  have h2 := (h (((dig 65536 v).length + 1) / 2)).2 (by omega)
  omega
theorem pack_dig (v : Nat) : dgs 4294967296 (((dig 65536 v).length + 1) / 2) (val 65536 (dig 65536 v)) = dig 4294967296 v := by
  rw [val_dig xb6, ← len32, dig_eq_dgs xb5]
theorem unpack_in {v i n : Nat} {ls : List Nat} (hi : i < n) (hl : ls.length = 2 * n) (ht : ls.take (2 * i) = dgs 65536 (2 * i) v) :
    ((ls.set (2 * i) (v / 4294967296 ^ i % 4294967296 % 65536)).set (2 * i + 1) (v / 4294967296 ^ i % 4294967296 / 2 ^ 16)).length = 2 * n ∧
      ((ls.set (2 * i) (v / 4294967296 ^ i % 4294967296 % 65536)).set (2 * i + 1) (v / 4294967296 ^ i % 4294967296 / 2 ^ 16)).take (2 * (i + 1)) = dgs 65536 (2 * (i + 1)) v := by
  refine ⟨by simpa using hl, ?_⟩
  rw [show 2 * (i + 1) = 2 * i + 1 + 1 by omega, xi6 (by simpa using (by omega : 2 * i + 1 < ls.length)), xi6 (by omega), ht, dgs_succ, dgs_succ, pow2k]
  congr 1
  · congr 2
    exact Nat.mod_mod_of_dvd _ (by decide)
  · congr 1
    show v / 65536 ^ (2 * i) % 4294967296 / 65536 = _
    rw [Nat.pow_succ 65536 (2 * i), ← Nat.div_div_eq_div_mul]
    have : ∀ x : Nat, x % 4294967296 / 65536 = x / 65536 % 65536 := fun x => by omega
    exact this _
theorem unpack_end {v n : Nat} {ls : List Nat} (hn : (dig 4294967296 v).length = n) (hv : 0 < v) (hl : ls.length = 2 * n) (ht : ls.take (2 * n) = dgs 65536 (2 * n) v) :
    (ls.getD (2 * n - 1) 0 = 0 → ls.take (2 * n - 1) = dig 65536 v) ∧ (ls.getD (2 * n - 1) 0 ≠ 0 → ls = dig 65536 v) ∧ 1 ≤ n := by
  have h32 := len32 v
  rw [hn] at h32
  have h16 := len_pos xb6 hv
  rw [← hl, List.take_length, hl] at ht
  subst ht
  have hg : (dgs 65536 (2 * n) v).getD (2 * n - 1) 0 = v / 65536 ^ (2 * n - 1) % 65536 := dgs_getD (by omega)
  refine ⟨fun h => ?_, fun h => ?_, by omega⟩
  · rw [hg] at h
    rw [take_dgs (by omega)]
    have h1 : v < 65536 ^ (2 * n - 1) := by
      have h2 := (xd3 xb6 v (2 * n)).1 (by omega)
      have e : 65536 ^ (2 * n) = 65536 ^ (2 * n - 1) * 65536 := by rw [← Nat.pow_succ]; congr 1; omega
      rw [e] at h2
      have h3 : v / 65536 ^ (2 * n - 1) < 65536 := Nat.div_lt_of_lt_mul h2
      rw [Nat.mod_eq_of_lt h3] at h
      exact (Nat.div_eq_zero_iff_lt (Nat.pow_pos (by decide))).1 h
    have h4 := (xd3 xb6 v (2 * n - 1)).2 h1
    have h5 : (dig 65536 v).length = 2 * n - 1 := by omega
    rw [← h5, dig_eq_dgs xb6]
  · rw [hg] at h
    have h4 : ¬ (dig 65536 v).length ≤ 2 * n - 1 := fun h' => h (by rw [Nat.div_eq_of_lt ((xd3 xb6 v _).1 h')])
    have h5 : (dig 65536 v).length = 2 * n := by omega
    rw [← h5, dig_eq_dgs xb6]
theorem cut16 {m : Nat} : IntKind.u16.wrap (m : Int) = ((m % 65536 : Nat) : Int) := by rw [mu16]; omega
end An

/- Whole numbers: sums, products, comparing, quotients. -/
namespace An
def resW (z : Int) : Wh := if len16 z ≤ 1024 then wh z else ⟨false, []⟩
def resE (z : Int) : Int := if len16 z ≤ 1024 then 0 else 3
theorem len32_le {z : Int} {n : Nat} (h : len16 z ≤ n) : (dig 4294967296 z.natAbs).length ≤ n := by
  have h1 : (dig 65536 z.natAbs).length ≤ n := h
  rw [len32]; omega
theorem len_add {m n k : Nat} (hm : (dig 4294967296 m).length ≤ k) (hn : (dig 4294967296 n).length ≤ k) : (dig 4294967296 (m + n)).length ≤ k + 1 := by
  rw [xd3 xb5] at *
  rw [Nat.pow_succ]; generalize (4294967296 : Nat) ^ k = P at *; omega
theorem len_mul {m n k : Nat} (hm : (dig 4294967296 m).length ≤ k) (hn : (dig 4294967296 n).length ≤ k) : (dig 4294967296 (m * n)).length ≤ k + k := by
  rw [xd3 xb5] at *
  rw [Nat.pow_add]
  exact Nat.mul_lt_mul'' hm hn
theorem len_gcd {m n k : Nat} (hm : (dig 4294967296 m).length ≤ k) (hn : (dig 4294967296 n).length ≤ k) : (dig 4294967296 (Nat.gcd m n)).length ≤ k := by
  rcases Nat.eq_zero_or_pos m with h | h
  · subst h; rw [Nat.gcd_zero_left]; exact hn
  · exact Nat.le_trans (xf3 xb5 (Nat.gcd_le_left n h)) hm
theorem sgn_add {p : Bool} {m n : Nat} : sgn p (m + n) = sgn p m + sgn p n := by
  cases p <;> simp only [sgn, Bool.false_eq_true, ↓reduceIte] <;> omega
theorem sgn_sub {p : Bool} {m n : Nat} (h : n ≤ m) : sgn p (m - n) = sgn p m + sgn (!p) n := by
  cases p <;> simp only [sgn, Bool.false_eq_true, ↓reduceIte, Bool.not_true, Bool.not_false] <;> omega
theorem sgn_sub' {p : Bool} {m n : Nat} (h : m ≤ n) : sgn (!p) (n - m) = sgn p m + sgn (!p) n := by
  cases p <;> simp only [sgn, Bool.false_eq_true, ↓reduceIte, Bool.not_true, Bool.not_false] <;> omega
theorem sgn_mul {x y : Int} : sgn (!((wh x).neg == (wh y).neg)) (x.natAbs * y.natAbs) = x * y := by
  have hx := sgn_wh x
  have hy := sgn_wh y
  conv => rhs; rw [← hx, ← hy]
  generalize (wh x).neg = p
  generalize (wh y).neg = q
  cases p <;> cases q <;> simp [sgn, Int.mul_neg, Int.neg_mul]
/-- -1, 0, 1. -/
def cmpZ (x y : Int) : Int := if x < y then -1 else if x = y then 0 else 1
end An

/- Package whole: numbers with signs. -/
namespace An.S
open Go Go.Proofs An
set_option maxHeartbeats 1000000
theorem ti47 : TyI Tryz.prog 47 2 true := ⟨by kernel_rfl, by kernel_rfl⟩
theorem sl222 : SlI Tryz.prog 222 47 2 true := ⟨Tryz.underlying222, ti47⟩
theorem fo47_0 : fieldO Tryz.prog 47 0 = some 0 := by kernel_rfl
theorem fo47_1 : fieldO Tryz.prog 47 1 = some 1 := by kernel_rfl
theorem fi140 : FnI Tryz.prog 140 := ⟨_, Tryz.func140, by kernel_rfl, rfl⟩
theorem fi142 : FnI Tryz.prog 142 := ⟨_, Tryz.func142, by kernel_rfl, rfl⟩
theorem fi144 : FnI Tryz.prog 144 := ⟨_, Tryz.func144, by kernel_rfl, rfl⟩
theorem fi204 : FnI Tryz.prog 204 := ⟨_, Tryz.func204, by kernel_rfl, rfl⟩
theorem fi205 : FnI Tryz.prog 205 := ⟨_, Tryz.func205, by kernel_rfl, rfl⟩
theorem fi206 : FnI Tryz.prog 206 := ⟨_, Tryz.func206, by kernel_rfl, rfl⟩
theorem fi219 : FnI Tryz.prog 219 := ⟨_, Tryz.func219, by kernel_rfl, rfl⟩
theorem fi220 : FnI Tryz.prog 220 := ⟨_, Tryz.func220, by kernel_rfl, rfl⟩
theorem fi221 : FnI Tryz.prog 221 := ⟨_, Tryz.func221, by kernel_rfl, rfl⟩
theorem fi240 : FnI Tryz.prog 240 := ⟨_, Tryz.func240, by kernel_rfl, rfl⟩
theorem el47 : ElI Tryz.prog 47 2 32 true (.agg #[.bool false, .slice none 0 0]) := ⟨ti47, by kernel_rfl, by kernel_rfl⟩
theorem zr47 : (Tryz.prog.info? 47).bind (·.zero) = some (.agg #[.bool false, .slice none 0 0]) ∧ ∀ F w, (tS [⟨1, false, (tE (.bool false))⟩, ⟨1, false, (tLm [])⟩]).p F w (.agg #[.bool false, .slice none 0 0]) := ⟨by kernel_rfl, fun _ _ => ⟨_, rfl, rfl, ⟨fun _ => rfl, rfl⟩, ⟨fun _ => rfl, ⟨none, 0, rfl, Nat.le_refl _, by decide, .inl rfl⟩⟩, trivial⟩⟩
theorem bu47 : BuI Tryz.prog 47 (fun i => [(0, 1), (1, 1)][i]?) (.agg #[.bool false, .slice none 0 0]) := BuI.struct Tryz.underlying47 (by kernel_rfl) (by kernel_rfl)
theorem zf47 : Flat 2 true (.agg #[.bool false, .slice none 0 0]) := flat_agg (by intro u hu; simp at hu; rcases hu with rfl | rfl <;> rfl)
theorem all_take_succ {α : Type} {p : α → Bool} {l : List α} {i : Nat} {d : α} (hi : i < l.length) : (l.take (i + 1)).all p = ((l.take i).all p && p (l.getD i d)) := by
  rw [List.take_succ_eq_append_getElem hi, List.all_append]
  simp [hi]
theorem all_stop {α : Type} {p : α → Bool} {l : List α} {i : Nat} {d : α} (hi : i < l.length) (h : p (l.getD i d) = false) : l.all p = false := by
  rw [List.all_eq_false]
  refine ⟨l[i], List.getElem_mem hi, ?_⟩
  rw [List.getD_eq_getElem?_getD, List.getElem?_eq_getElem hi] at h
  simpa using h
theorem c_WValid (x : Wh) :
  Ct Tryz.prog 144 [tWh x] (tB x.valid) := by
 refine Ct.intro Tryz.func144 rfl Tryz.ntmps144 rfl ?_
 intro w F
 refine x6 ?_
 refine x8 ?_
 refine RE (xd2 (k := 1) ti47 rfl) ⟨rfl, trivial⟩ trivial ⟨rfl, trivial⟩ (R1 x5 rfl (x7 (by kernel_rfl) (x3 (x6 ?_))))
 refine x8 ?_
 refine R1 (x9 fo47_1 rfl) rfl (xa5 (0) ti45 rfl rfl rfl (At.g 1 rfl rfl) rfl (R1 (xb9 Tryz.underlying45) rfl (R1 x5 rfl (x7 (by kernel_rfl) (x3 (x6 (x6 ?_)))))))
 refine C_len (s := 5) rfl (fun hl5 => ?_)
 refine x8 ?_
 refine R1 x4 rfl (R2 xe5 rfl rfl (x7 (by kernel_rfl) (x3 ?_)))
 refine xc2 rfl (fun h24 => ?_) (fun h24 => ?_)
 ·
  refine x6 ?_
  refine x8 ?_
  refine R1 (x9 fo47_0 rfl) rfl (xa5 (0) ti4 rfl rfl rfl (At.g 0 rfl rfl) rfl (R1 xe7 rfl (R1 x5 rfl (x7 (by kernel_rfl) (x3 (xa2 (xa6 ?_)))))))
  exact xa3 Plain.mk' rfl rfl (Le.bool (by simp only [Wh.valid]; rw [if_pos (by omega)]))
 ·
  refine xa4 (x3 (x6 ?_))
  refine x8 ?_
  refine R1 x4 rfl (R2 xg2 rfl rfl (R1 x4 rfl ?_))
  refine RGcaseD (t := 14) rfl (fun h27 => ?_) (fun h27 => ?_)
  ·
   refine RGon (decide_eq_true h27) rfl (x9 fo47_1 rfl) rfl ⟨rfl, trivial⟩ trivial trivial (xb2 (decide_eq_true h27) rfl rfl (0) ti45 rfl rfl rfl (At.g 1 rfl rfl) rfl (RGon (decide_eq_true h27) rfl x4 rfl ⟨rfl, trivial⟩ trivial trivial (RGon (decide_eq_true h27) rfl (xe4 (wr64 (by omega) (by omega))) rfl ⟨rfl, rfl, trivial⟩ trivial trivial (RGon (decide_eq_true h27) rfl (xb8 sl45 (x.l.length - 1) (by omega) (gN (by omega))) rfl ⟨rfl, rfl, trivial⟩ trivial trivial (RGon (decide_eq_true h27) rfl (xc1 ti166) rfl ⟨rfl, trivial⟩ trivial trivial (RGon (decide_eq_true h27) rfl d_neq rfl ⟨rfl, rfl, trivial⟩ trivial trivial (R2 (xa8 (decide_eq_true h27)) rfl rfl ?_)))))))
   refine R1 x5 rfl (x7 (by kernel_rfl) (x3 (xa2 ?_)))
   exact xa3 Plain.mk' rfl rfl (Le.bool (by simp only [Wh.valid]; rw [if_neg (by omega), decide_eq_true (show x.l.length ≤ 1024 by omega), Bool.true_and]; exact decide_eq_decide.2 (by omega)))
  ·
   refine RGoff (decide_eq_false h27) rfl rfl (RGoff (decide_eq_false h27) rfl rfl (RGoff (decide_eq_false h27) rfl rfl (RGoff (decide_eq_false h27) rfl rfl (RGoff (decide_eq_false h27) rfl rfl (RGoff (decide_eq_false h27) rfl rfl (RGoff (decide_eq_false h27) rfl rfl (R2 (xa7 (decide_eq_false h27)) rfl rfl ?_)))))))
   refine R1 x5 rfl (x7 (by kernel_rfl) (x3 (xa2 ?_)))
   exact xa3 Plain.mk' rfl rfl (Le.bool (by simp only [Wh.valid]; rw [if_neg (by omega), decide_eq_false (show ¬ x.l.length ≤ 1024 by omega), Bool.false_and]))
theorem c_WallValid (ws : List Wh) :
  Ct Tryz.prog 140 [tL 2 true tWh ws] (tB (ws.all Wh.valid)) := by
 refine Ct.intro Tryz.func140 rfl Tryz.ntmps140 rfl ?_
 intro w F
 refine C_len (s := 0) rfl (fun hl0 => ?_)
 refine x6 ?_
 refine x8 ?_
 refine R1 x5 rfl (x7 (by kernel_rfl) (x3 (x6 (x6 ?_))))
 refine x8 ?_
 refine R1 x4 rfl (R1 (xb9 Tryz.underlying222) rfl (R1 x4 rfl (x7 (by kernel_rfl) (x3 (xa9 ?_)))))
 refine xd6 (fun (i : Nat) => i ≤ ws.length ∧ (ws.take i).all Wh.valid = true) (fun (i : Nat) => upd (upd (upd (fun _ => none) 5 (some (.val (tL 2 true tWh ws)))) 6 (some (.val (tI ws.length)))) 7 (some (.val (tI i)))) (fun (i : Nat) => fun _ => none) (nm []) (fun (i : Nat) => ws.length - i) (0) ⟨Nat.zero_le _, rfl⟩ (Sub.int rfl (by first | omega | rfl | (dsimp only; omega)) (Sub.int rfl (by first | omega | rfl | (dsimp only; omega)) (Sub.cons rfl Sub.nil))) SubK.nil (SupG.val (SupG.val (SupG.val SupG.nil))) SupH.nil (lkOk rfl) ?_
 intro i hI
 obtain ⟨hi, ha⟩ := hI
 refine x6 ?_
 refine x8 ?_
 refine R2 xd5 rfl rfl (x7 (by kernel_rfl) (x3 (x6 ?_)))
 refine xc2 rfl (fun h32 => ?_) (fun h32 => ?_)
 ·
  refine xa4 (x3 (x6 (xa9 (x6 ?_))))
  refine x8 ?_
  refine R2 (xb8 sl222 i (by omega) (gD (l := ws) (n := i) (d := ⟨false, []⟩) (by omega))) rfl rfl (R1 (xc1 ti47) rfl (RE (xc9 (k := 4) (n := 2) (agg := true) zr47.1 zr47.2 rfl) trivial trivial ⟨rfl, trivial⟩ (RE (xb0 (es := 2) (agg := true) (0) ti47 rfl rfl rfl) ⟨rfl, rfl, trivial⟩ ⟨rfl, trivial⟩ trivial (x7 (by kernel_rfl) (x3 (x6 ?_))))))
  refine x8 ?_
  refine RE (xb3 (0) ti47 rfl rfl) ⟨rfl, trivial⟩ ⟨rfl, trivial⟩ trivial (R1 (xa0 (c_WValid _) fi144 rfl) rfl (R1 xe7 rfl (x7 (by kernel_rfl) (x3 ?_))))
  refine xg6 rfl (fun h33 => ?_) (fun h33 => ?_)
  ·
   refine x6 ?_
   refine x8 ?_
   refine R1 x5 rfl (x7 (by kernel_rfl) (x3 (xa2 (xc8 (xa6 (xa6 (xc8 ?_)))))))
   refine xa6 ?_
   exact xa3 Plain.mk' rfl rfl (Le.bool (all_stop (l := ws) (i := i) (d := ⟨false, []⟩) (by omega) (by simpa using h33)).symm)
  ·
   refine xa4 (xc6 (x3 ?_))
   refine x8 ?_
   refine R2 (xc4 (wr64 (by omega) (by omega))) rfl rfl (R1 x4 rfl (x7 (by kernel_rfl) ?_))
   exact xc7 (i + 1) ⟨⟨by omega, by rw [all_take_succ (l := ws) (i := i) (d := ⟨false, []⟩) (by omega), ha]; simpa using h33⟩, (by omega)⟩ (Sub.int rfl (by first | omega | rfl | (dsimp only; omega)) (Sub.int rfl (by first | omega | rfl | (dsimp only; omega)) (Sub.cons rfl Sub.nil))) SubK.nil (SupG.val (SupG.val (SupG.val SupG.nil))) SupH.nil (lkOk rfl)
 ·
  refine xd1 (xc0 (xc0 (xd8 (x3 (x6 ?_)))))
  refine x8 ?_
  refine R1 x5 rfl (x7 (by kernel_rfl) (x3 (xa2 ?_)))
  exact xa3 Plain.mk' rfl rfl (Le.bool (by rw [← ha, show i = ws.length by omega, List.take_length]))
theorem c_WallValid2 (x y : Int) (hx : len16 x ≤ 1024) (hy : len16 y ≤ 1024) : Ct Tryz.prog 140 [tL 2 true tWh [wh x, wh y]] (tB true) := by
  have := c_WallValid [wh x, wh y]
  simp only [List.all_cons, List.all_nil, valid_wh hx, valid_wh hy, Bool.and_true] at this
  exact this
theorem c_packN (v : Nat) (h : (dig 65536 v).length ≤ 1000000) : Ct Tryz.prog 142 [tLm (dig 65536 v)] (tN v) := by
  have := c_pack (dig 65536 v) (xe9 xb6 v) h
  rw [pack_dig] at this; exact this
theorem c_trimN (v : Nat) : Ct Tryz.prog 241 [tN v] (tN v) := by
  have := c_trim (dig 4294967296 v)
  rw [trimL_Top (dig_Top xb5 v)] at this; exact this
theorem c_clone16V (xs : List Nat) (h : xs.length ≤ 1000000) : Ct Tryz.prog 143 [tLm xs] (tLm xs) := Ct.ofG (c_clone16 xs h) rfl
theorem c_unpack (p : Bool) (v : Nat) (h : (dig 4294967296 v).length ≤ 100000) :
    Ct Tryz.prog 221 [tB p, tN v] (tWh (wh (sgn p v))) := by
  refine Ct.intro Tryz.func221 rfl Tryz.ntmps221 rfl ?_
  intro w F
  refine x6 ?_
  refine x8 ?_
  refine RE (xc9 (k := 4) (n := 2) (agg := true) zr47.1 zr47.2 rfl) trivial trivial ⟨rfl, trivial⟩ (x7 (by kernel_rfl) (x3 (x6 ?_)))
  refine x8 ?_
  refine R1 x4 rfl (R1 (xa0 (c_trimN _) fi241 rfl) rfl (R1 x5 rfl (x7 (by kernel_rfl) (x3 (x6 (x6 ?_))))))
  refine x8 ?_
  refine R1 x4 rfl (R1 (xb9 Tryz.underlying179) rfl (R2 xe5 rfl rfl (x7 (by kernel_rfl) (x3 ?_))))
  refine xc2 rfl (fun h37 => ?_) (fun h37 => ?_)
  ·
    have hv0 : v = 0 := (xi2 xb5).1 (List.length_eq_zero_iff.1 (by omega))
    subst hv0
    refine x6 ?_
    refine x8 ?_
    refine R0 (xe0 (r := tS [⟨1, false, (tE (.bool false))⟩, ⟨1, false, (tLm [])⟩]) (ts := []) bu47 zr47.2 ⟨_, rfl⟩ rfl Le.refl)  (RE (xb0 (es := 2) (agg := true) (0) ti47 rfl rfl rfl) ⟨rfl, rfl, trivial⟩ ⟨rfl, trivial⟩ trivial (x7 (by kernel_rfl) (x3 (xa2 (xa6 ?_)))))
    exact xg5 Plain.mk' rfl ⟨_, _, _, _, _, rfl, rfl, ti47, (Le.of (by rw [wh_sgn, xf0]; simp))⟩
  ·
    have hv0 : 0 < v := by
      rcases Nat.eq_zero_or_pos v with h' | h'
      · subst h'; rw [xf0] at h37; simp at h37
      · exact h'
    refine xa4 (x3 (x6 ?_))
    refine x8 ?_
    refine R1 x4 rfl (R1 (xb9 Tryz.underlying179) rfl (R2 (d_mul (wr64 (by omega) (by omega))) rfl rfl (RE (d_makeO (k := 17) (t := tE (.int .u16 0)) (ts := rW .u16 (List.replicate (2 * (dig 4294967296 v).length) 0)) (2 * (dig 4294967296 v).length) (2 * (dig 4294967296 v).length) Tryz.underlying45 el166 (fun _ _ => rfl) rfl (by omega) (by omega) (Nat.le_refl _) (by omega) (by omega) (rW_rep _)) ⟨rfl, rfl, trivial⟩ trivial ⟨rfl, trivial⟩ (R1 x5 rfl (x7 (by kernel_rfl) (x3 (x6 ?_)))))))
    refine x6 ?_
    refine x8 ?_
    refine R1 x4 rfl (R1 (xb9 Tryz.underlying179) rfl (R1 x4 rfl (x7 (by kernel_rfl) (x3 (xa9 ?_)))))
    refine xd6 (fun (fm : (Nat) × (List Nat)) => (fun (i : Nat) (ls : List Nat) => i ≤ (dig 4294967296 v).length ∧ ls.length = 2 * (dig 4294967296 v).length ∧ ls.take (2 * i) = dgs 65536 (2 * i) v) fm.1 fm.2) (fun (fm : (Nat) × (List Nat)) => (fun (i : Nat) (ls : List Nat) => upd (upd (upd (upd (upd (upd (fun _ => none) 0 (some (.val (tB p)))) 4 (some (.own (.ptr 4 0)))) 5 (some (.own (.sl 17 1 0 (2 * (dig 4294967296 v).length))))) 18 (some (.val (tN v)))) 19 (some (.val (tI (dig 4294967296 v).length)))) 20 (some (.val (tI i)))) fm.1 fm.2) (fun (fm : (Nat) × (List Nat)) => (fun (i : Nat) (ls : List Nat) => upd (upd (fun _ => none) 4 (some (⟨47, 2, true, [.val (tWh ⟨false, []⟩)]⟩))) 17 (some (⟨166, 1, false, rW .u16 ls⟩))) fm.1 fm.2) (nm [4, 17]) (fun (fm : (Nat) × (List Nat)) => (fun (i : Nat) (ls : List Nat) => (dig 4294967296 v).length - i) fm.1 fm.2) ((0, List.replicate (2 * (dig 4294967296 v).length) 0)) (by dsimp only; exact ⟨Nat.zero_le _, by simp, rfl⟩) (Sub.int rfl (by first | omega | rfl | (dsimp only; omega)) (Sub.int rfl (by first | omega | rfl | (dsimp only; omega)) (Sub.cons rfl (Sub.cons rfl (Sub.cons rfl (Sub.cons rfl Sub.nil)))))) ((SubK.consI rfl ImpK.refl) ((SubK.consI rfl ImpK.refl) SubK.nil)) (SupG.val (SupG.val (SupG.val (SupG.own rfl (SupG.own rfl (SupG.val SupG.nil)))))) (SupH.cons rfl (supJ xc5) (SupH.cons rfl (supJL rfl) SupH.nil)) (lkOk rfl) ?_
    intro fm hI
    obtain ⟨i, ls⟩ := fm
    replace hI : i ≤ (dig 4294967296 v).length ∧ ls.length = 2 * (dig 4294967296 v).length ∧ ls.take (2 * i) = dgs 65536 (2 * i) v := hI
    show wc _ _ _ _ (upd (upd (upd (upd (upd (upd (fun _ => none) 0 (some (.val (tB p)))) 4 (some (.own (.ptr 4 0)))) 5 (some (.own (.sl 17 1 0 (2 * (dig 4294967296 v).length))))) 18 (some (.val (tN v)))) 19 (some (.val (tI (dig 4294967296 v).length)))) 20 (some (.val (tI i)))) (upd (upd (fun _ => none) 4 (some (⟨47, 2, true, [.val (tWh ⟨false, []⟩)]⟩))) 17 (some (⟨166, 1, false, rW .u16 ls⟩))) _
    obtain ⟨hi, hl, ht⟩ := hI
    have hx := xe6 xb5 v i
    have hxW := (xe9 xb5 v).getD (by decide) i
    refine x6 ?_
    refine x8 ?_
    refine R2 xd5 rfl rfl (x7 (by kernel_rfl) (x3 (x6 ?_)))
    refine xc2 rfl (fun h41 => ?_) (fun h41 => ?_)
    ·
      refine xa4 (x3 (x6 (xa9 (x6 ?_))))
      refine x8 ?_
      refine R1 x4 rfl (R2 (xb8 sl179 (i) (by omega) (gN (by omega))) rfl rfl (R1 (xc1 ti218) rfl (R1 x5 rfl (R1 x5 rfl (x7 (by kernel_rfl) (x3 (x6 ?_)))))))
      refine x8 ?_
      refine R1 x4 rfl (R1 x4 rfl (R2 (d_mul (wr64 (by omega) (by omega))) rfl rfl (R1 x4 rfl (R1 (xb4 Tryz.underlying166 (isS Tryz.underlying218) cut16) rfl (R2 (xd7 sl45 (by omega) (by omega) rfl) rfl rfl (RE (xb0 (2 * i) ti166 (rW_lt (by omega)) (by omega) (rW_set (m := _) rfl)) ⟨rfl, rfl, trivial⟩ ⟨rfl, trivial⟩ trivial (x7 (by kernel_rfl) ?_)))))))
      refine x3 ?_
      refine x8 ?_
      refine R1 x4 rfl (R1 x4 rfl (R2 (d_mul (wr64 (by omega) (by omega))) rfl rfl (R2 (xc4 (wr64 (by omega) (by omega))) rfl rfl (R1 x4 rfl (R2 (d_shr (by decide) (shrN (s := 16) rfl (by decide))) rfl rfl (R1 (xb4 Tryz.underlying166 (isS Tryz.underlying218) (wu16 (by omega) (by omega))) rfl (R2 (xd7 sl45 (by omega) (by omega) rfl) rfl rfl ?_)))))))
      refine RE (xb0 (2 * i + 1) ti166 (rW_lt (by rw [List.length_set]; omega)) (by omega) (rW_set (m := _) rfl)) ⟨rfl, rfl, trivial⟩ ⟨rfl, trivial⟩ trivial (x7 (by kernel_rfl) (xc6 (x3 ?_)))
      refine x8 ?_
      refine R2 (xc4 (wr64 (by omega) (by omega))) rfl rfl (R1 x4 rfl (x7 (by kernel_rfl) ?_))
      obtain ⟨n1, n2⟩ := unpack_in (by omega) hl ht
      rw [← hx] at n1 n2
      exact xc7 ((i + 1, (ls.set (2 * i) ((dig 4294967296 v).getD i 0 % 65536)).set (2 * i + 1) ((dig 4294967296 v).getD i 0 / 2 ^ 16))) ⟨(by dsimp only; exact ⟨by omega, n1, n2⟩), (by dsimp only; omega)⟩ (Sub.int rfl (by first | omega | rfl | (dsimp only; omega)) (Sub.int rfl (by first | omega | rfl | (dsimp only; omega)) (Sub.cons rfl (Sub.cons rfl (Sub.cons rfl (Sub.cons rfl Sub.nil)))))) ((SubK.consI rfl ImpK.refl) ((SubK.consI rfl ImpK.refl) SubK.nil)) (SupG.val (SupG.val (SupG.val (SupG.own rfl (SupG.own rfl (SupG.val SupG.nil)))))) (SupH.cons rfl (supJ xc5) (SupH.cons rfl (supJL rfl) SupH.nil)) (lkOk rfl)
    ·
      have him : i = (dig 4294967296 v).length := by omega
      subst him
      obtain ⟨e1, e2, e3⟩ := unpack_end rfl hv0 hl ht
      refine xd1 (xc0 (xc0 (xd8 (x3 (x6 (x6 ?_))))))
      refine x8 ?_
      refine R1 x4 rfl (R1 x4 rfl (R1 (d_lenO Tryz.underlying45) rfl (R2 (xe4 (wr64 (by omega) (by omega))) rfl rfl (R2 (xd7 sl45 (by omega) (by omega) rfl) rfl rfl (RE (xb3 (2 * (dig 4294967296 v).length - 1) ti166 (rW_get (by omega)) (by omega)) ⟨rfl, trivial⟩ ⟨rfl, trivial⟩ trivial (R2 xe5 rfl rfl (x7 (by kernel_rfl) ?_)))))))
      refine x3 ?_
      refine xc2 rfl (fun h45 => ?_) (fun h45 => ?_)
      ·
        refine x8 ?_
        refine R1 x4 rfl (R1 x4 rfl (R1 (d_lenO Tryz.underlying45) rfl (R2 (xe4 (wr64 (by omega) (by omega))) rfl rfl (R2 (d_sliceOTo sl45 (2 * (dig 4294967296 v).length - 1) (by omega) (by omega) rfl) rfl rfl (R1 x5 rfl (x7 (by kernel_rfl) (x3 ?_)))))))
        refine x6 ?_
        refine x8 ?_
        refine R1 x4 rfl (RE (d_moveS (f := fun n : Nat => tE (.int .u16 n)) (xs := ls.take (2 * (dig 4294967296 v).length - 1)) (fun _ h => h) rW_take (by rw [List.length_take]; omega)) ⟨rfl, trivial⟩ ⟨rfl, trivial⟩ trivial (R2 (xe0 (r := tS [⟨1, false, tB p⟩, ⟨1, false, tLm (ls.take (2 * (dig 4294967296 v).length - 1))⟩]) (ts := [(0, tB p), (1, tLm (ls.take (2 * (dig 4294967296 v).length - 1)))]) bu47 zr47.2 ⟨_, rfl⟩ rfl ⟨_, _, _, _, rfl, Up.f (fs := [⟨1, false, (tE (.bool false))⟩, ⟨1, false, (tLm [])⟩]) (f := ⟨1, false, (tE (.bool false))⟩) (fs' := [⟨1, false, tB p⟩, ⟨1, false, (tLm [])⟩]) 0 rfl rfl rfl, inferInstance, ⟨_, _, _, _, rfl, Up.f (fs := [⟨1, false, tB p⟩, ⟨1, false, (tLm [])⟩]) (f := ⟨1, false, (tLm [])⟩) (fs' := [⟨1, false, tB p⟩, ⟨1, false, tLm (ls.take (2 * (dig 4294967296 v).length - 1))⟩]) 1 rfl rfl rfl, inferInstance, Le.refl⟩⟩) rfl rfl (RE (xb0 (es := 2) (agg := true) (0) ti47 rfl rfl rfl) ⟨rfl, rfl, trivial⟩ ⟨rfl, trivial⟩ trivial (x7 (by kernel_rfl) (x3 (xa2 ?_))))))
        exact xg5 Plain.mk' rfl ⟨_, _, _, _, _, rfl, rfl, ti47, (Le.of (by rw [wh_sgn, e1 (by omega), decide_eq_true (show v ≠ 0 by omega), Bool.and_true]))⟩
      ·
        refine xa4 (x3 (x6 ?_))
        refine x8 ?_
        refine R1 x4 rfl (RE (d_moveS (f := fun n : Nat => tE (.int .u16 n)) (xs := ls) (fun _ h => h) (rW_all hl) hl) ⟨rfl, trivial⟩ ⟨rfl, trivial⟩ trivial (R2 (xe0 (r := tS [⟨1, false, tB p⟩, ⟨1, false, tLm ls⟩]) (ts := [(0, tB p), (1, tLm ls)]) bu47 zr47.2 ⟨_, rfl⟩ rfl ⟨_, _, _, _, rfl, Up.f (fs := [⟨1, false, (tE (.bool false))⟩, ⟨1, false, (tLm [])⟩]) (f := ⟨1, false, (tE (.bool false))⟩) (fs' := [⟨1, false, tB p⟩, ⟨1, false, (tLm [])⟩]) 0 rfl rfl rfl, inferInstance, ⟨_, _, _, _, rfl, Up.f (fs := [⟨1, false, tB p⟩, ⟨1, false, (tLm [])⟩]) (f := ⟨1, false, (tLm [])⟩) (fs' := [⟨1, false, tB p⟩, ⟨1, false, tLm ls⟩]) 1 rfl rfl rfl, inferInstance, Le.refl⟩⟩) rfl rfl (RE (xb0 (es := 2) (agg := true) (0) ti47 rfl rfl rfl) ⟨rfl, rfl, trivial⟩ ⟨rfl, trivial⟩ trivial (x7 (by kernel_rfl) (x3 (xa2 ?_))))))
        exact xg5 Plain.mk' rfl ⟨_, _, _, _, _, rfl, rfl, ti47, (Le.of (by rw [wh_sgn, e2 (by omega), decide_eq_true (show v ≠ 0 by omega), Bool.and_true]))⟩
theorem c_result (p : Bool) (v : Nat) (h : (dig 4294967296 v).length ≤ 100000) :
  Ct Tryz.prog 204 [tB p, tN v] (tT [tWh (resW (sgn p v)), tI (resE (sgn p v))]) := by
 refine Ct.intro Tryz.func204 rfl Tryz.ntmps204 rfl ?_
 intro w F
 refine x6 ?_
 refine x8 ?_
 refine RE (xc9 (k := 4) (n := 2) (agg := true) zr47.1 zr47.2 rfl) trivial trivial ⟨rfl, trivial⟩ (R1 x5 rfl (x7 (by kernel_rfl) (x3 (x6 ?_))))
 refine x8 ?_
 refine R1 x4 rfl (R1 x4 rfl (R2 (xa0 (c_unpack _ _ h) fi221 rfl) rfl rfl (RE (xc9 (k := 6) (n := 2) (agg := true) zr47.1 zr47.2 rfl) trivial trivial ⟨rfl, trivial⟩ (RE (xb0 (es := 2) (agg := true) (0) ti47 rfl rfl rfl) ⟨rfl, rfl, trivial⟩ ⟨rfl, trivial⟩ trivial (x7 (by kernel_rfl) (x3 (x6 ?_)))))))
 refine x6 ?_
 refine x8 ?_
 refine R1 (x9 fo47_1 rfl) rfl (xa5 (0) ti45 rfl rfl rfl (At.g 1 rfl rfl) rfl (R1 (xb9 Tryz.underlying45) rfl (R2 d_gtr rfl rfl (x7 (by kernel_rfl) (x3 ?_)))))
 refine xc2 rfl (fun h89 => ?_) (fun h89 => ?_)
 ·
  have hn : ¬ len16 (sgn p v) ≤ 1024 := by show ¬ (wh (sgn p v)).l.length ≤ 1024; omega
  refine x6 ?_
  refine x8 ?_
  refine R0 (xe0 (r := tS [⟨1, false, (tE (.bool false))⟩, ⟨1, false, (tLm [])⟩]) (ts := []) bu47 zr47.2 ⟨_, rfl⟩ rfl Le.refl)  (RE (xb0 (es := 2) (agg := true) (0) ti47 rfl rfl rfl) ⟨rfl, rfl, trivial⟩ ⟨rfl, trivial⟩ trivial (R1 x5 rfl (x7 (by kernel_rfl) (x3 (xa2 (xa6 ?_))))))
  exact xg4 Plain.mk' (rs := [.cell 4 47, .tmp 5]) rfl rfl ⟨⟨_, _, _, _, _, rfl, rfl, ti47, (Le.of (by rw [resW, if_neg hn]))⟩, ⟨_, rfl, (Le.int (by rw [resE, if_neg hn]))⟩, trivial⟩
 ·
  have hn : len16 (sgn p v) ≤ 1024 := by show (wh (sgn p v)).l.length ≤ 1024; omega
  refine xa4 (x3 (x6 ?_))
  refine x8 ?_
  refine RE (xb3 (0) ti47 rfl rfl) ⟨rfl, trivial⟩ ⟨rfl, trivial⟩ trivial (RE (xb0 (es := 2) (agg := true) (0) ti47 rfl rfl rfl) ⟨rfl, rfl, trivial⟩ ⟨rfl, trivial⟩ trivial (R1 x5 rfl (x7 (by kernel_rfl) (x3 (xa2 ?_)))))
  exact xg4 Plain.mk' (rs := [.cell 4 47, .tmp 5]) rfl rfl ⟨⟨_, _, _, _, _, rfl, rfl, ti47, (Le.of (by rw [resW, if_pos hn]))⟩, ⟨_, rfl, (Le.int (by rw [resE, if_pos hn]))⟩, trivial⟩
theorem c_sum (p : Bool) (m : Nat) (q : Bool) (n : Nat) (hm : (dig 4294967296 m).length ≤ 10000) (hn : (dig 4294967296 n).length ≤ 10000) :
  Ct Tryz.prog 206 [tB p, tN m, tB q, tN n] (tT [tWh (resW (sgn p m + sgn q n)), tI (resE (sgn p m + sgn q n))]) := by
 have hmn := len_add (m := m) (n := n) hm hn
 refine Ct.intro Tryz.func206 rfl Tryz.ntmps206 rfl ?_
 intro w F
 refine x6 ?_
 refine x8 ?_
 refine RE (xc9 (k := 8) (n := 2) (agg := true) zr47.1 zr47.2 rfl) trivial trivial ⟨rfl, trivial⟩ (R1 x5 rfl (x7 (by kernel_rfl) (x3 (x6 (x6 ?_)))))
 refine x8 ?_
 refine R1 x4 rfl (R1 x4 rfl (R2 (d_eqlB Tryz.underlying4) rfl rfl (x7 (by kernel_rfl) (x3 ?_))))
 refine xg6 rfl (fun h97 => ?_) (fun h97 => ?_)
 ·
  have hpq : p = q := by simpa using h97
  subst hpq
  refine x6 ?_
  refine x8 ?_
  refine R1 x4 rfl (R1 x4 rfl (R1 x4 rfl (R2 (xa0 (c_plus m n (by omega) (by omega)) fi219 rfl) rfl rfl (R2 (xa0 (c_result p (m + n) (by omega)) fi204 rfl) rfl rfl (R1 (xb7 rfl) rfl (R1 (xb7 rfl) rfl (RE (xb0 (es := 2) (agg := true) (0) ti47 rfl rfl rfl) ⟨rfl, rfl, trivial⟩ ⟨rfl, trivial⟩ trivial ?_)))))))
  refine R1 x5 rfl (x7 (by kernel_rfl) (x3 (xa2 (xa6 ?_))))
  exact xg4 Plain.mk' (rs := [.cell 8 47, .tmp 9]) rfl rfl ⟨⟨_, _, _, _, _, rfl, rfl, ti47, (Le.of (by rw [sgn_add]))⟩, ⟨_, rfl, (Le.int (by rw [sgn_add]))⟩, trivial⟩
 ·
  have hpq : q = !p := by cases p <;> cases q <;> simp_all
  subst hpq
  refine xa4 (x3 (x6 (x6 ?_)))
  refine x8 ?_
  refine R1 x4 rfl (R1 x4 rfl (R2 (xa0 (c_compare m n) fi141 rfl) rfl rfl (R2 d_geq rfl rfl (x7 (by kernel_rfl) (x3 ?_)))))
  refine xc2 rfl (fun h100 => ?_) (fun h100 => ?_)
  ·
   have hle : n ≤ m := by
    have := mt cmpN_neg.2 (by omega : ¬ cmpN m n < 0)
    omega
   refine x6 ?_
   refine x8 ?_
   refine R1 x4 rfl (R1 x4 rfl (R1 x4 rfl (R2 (xa0 (c_minus m n (by omega) (by omega)) fi220 rfl) rfl rfl (R2 (xa0 (c_result p (m - n) (by have := xf3 xb5 (Nat.sub_le m n); omega)) fi204 rfl) rfl rfl (R1 (xb7 rfl) rfl (R1 (xb7 rfl) rfl (RE (xb0 (es := 2) (agg := true) (0) ti47 rfl rfl rfl) ⟨rfl, rfl, trivial⟩ ⟨rfl, trivial⟩ trivial ?_)))))))
   refine R1 x5 rfl (x7 (by kernel_rfl) (x3 (xa2 (xa6 ?_))))
   exact xg4 Plain.mk' (rs := [.cell 8 47, .tmp 9]) rfl rfl ⟨⟨_, _, _, _, _, rfl, rfl, ti47, (Le.of (by rw [sgn_sub hle]))⟩, ⟨_, rfl, (Le.int (by rw [sgn_sub hle]))⟩, trivial⟩
  ·
   have hle : m < n := cmpN_neg.1 (by omega)
   refine xa4 (x3 (x6 ?_))
   refine x8 ?_
   refine R1 x4 rfl (R1 x4 rfl (R1 x4 rfl (R2 (xa0 (c_minus n m (by omega) (by omega)) fi220 rfl) rfl rfl (R2 (xa0 (c_result (!p) (n - m) (by have := xf3 xb5 (Nat.sub_le n m); omega)) fi204 rfl) rfl rfl (R1 (xb7 rfl) rfl (R1 (xb7 rfl) rfl (RE (xb0 (es := 2) (agg := true) (0) ti47 rfl rfl rfl) ⟨rfl, rfl, trivial⟩ ⟨rfl, trivial⟩ trivial ?_)))))))
   refine R1 x5 rfl (x7 (by kernel_rfl) (x3 (xa2 ?_)))
   exact xg4 Plain.mk' (rs := [.cell 8 47, .tmp 9]) rfl rfl ⟨⟨_, _, _, _, _, rfl, rfl, ti47, (Le.of (by rw [sgn_sub' (Nat.le_of_lt hle)]))⟩, ⟨_, rfl, (Le.int (by rw [sgn_sub' (Nat.le_of_lt hle)]))⟩, trivial⟩
theorem c_Add (x y : Int) (hx : len16 x ≤ 1024) (hy : len16 y ≤ 1024) :
  Ct Tryz.prog 170 [tWh (wh x), tWh (wh y)] (tT [tWh (resW (x + y)), tI (resE (x + y))]) := by
 have hx32 := len32_le hx
 have hy32 := len32_le hy
 refine Ct.intro Tryz.func170 rfl Tryz.ntmps170 rfl ?_
 intro w F
 refine x6 ?_
 refine x8 ?_
 refine RE (xd2 (k := 2) ti47 rfl) ⟨rfl, trivial⟩ trivial ⟨rfl, trivial⟩ (RE (xd2 (k := 3) ti47 rfl) ⟨rfl, trivial⟩ trivial ⟨rfl, trivial⟩ (RE (xc9 (k := 4) (n := 2) (agg := true) zr47.1 zr47.2 rfl) trivial trivial ⟨rfl, trivial⟩ (R1 x5 rfl (x7 (by kernel_rfl) (x3 (x6 (x6 ?_)))))))
 refine x8 ?_
 refine RE (xb3 (0) ti47 rfl rfl) ⟨rfl, trivial⟩ ⟨rfl, trivial⟩ trivial (RE (xb3 (0) ti47 rfl rfl) ⟨rfl, trivial⟩ ⟨rfl, trivial⟩ trivial (R2 (xf4 (n := 2) (f := tWh) [wh x, wh y] Tryz.underlying222 el47 zf47 rfl (fun _ => inferInstance) rfl rfl rfl) rfl rfl (R1 (xa0 (c_WallValid2 x y hx hy) fi140 rfl) rfl (R1 xe7 rfl (x7 (by kernel_rfl) (x3 (C_bF rfl rfl ?_)))))))
 refine xa4 (x3 (x6 ?_))
 refine xe1 mixed ?_
 refine R1 (x9 fo47_0 rfl) rfl (xa5 (0) ti4 rfl rfl rfl (At.g 0 rfl rfl) rfl (R1 (x9 fo47_1 rfl) rfl (xa5 (0) ti45 rfl rfl rfl (At.g 1 rfl rfl) rfl (R1 (xa0 (c_packN (Int.natAbs x) (by show len16 x ≤ 1000000; omega)) fi142 rfl) rfl (R1 (x9 fo47_0 rfl) rfl (xa5 (0) ti4 rfl rfl rfl (At.g 0 rfl rfl) rfl (R1 (x9 fo47_1 rfl) rfl ?_)))))))
 refine xa5 (0) ti45 rfl rfl rfl (At.g 1 rfl rfl) rfl (R1 (xa0 (c_packN (Int.natAbs y) (by show len16 y ≤ 1000000; omega)) fi142 rfl) rfl (RE (xa0 (c_sum (wh x).neg x.natAbs (wh y).neg y.natAbs (by omega) (by omega)) fi206 rfl) ⟨rfl, rfl, rfl, rfl, trivial⟩ trivial trivial (R1 (xb7 rfl) rfl (R1 (xb7 rfl) rfl (RE (xb0 (es := 2) (agg := true) (0) ti47 rfl rfl rfl) ⟨rfl, rfl, trivial⟩ ⟨rfl, trivial⟩ trivial (R1 x5 rfl (xd9 (by kernel_rfl) ?_)))))))
 refine x3 (xa2 ?_)
 exact xg4 Plain.mk' (rs := [.cell 4 47, .tmp 5]) rfl rfl ⟨⟨_, _, _, _, _, rfl, rfl, ti47, (Le.of (by rw [sgn_wh, sgn_wh]))⟩, ⟨_, rfl, (Le.int (by rw [sgn_wh, sgn_wh]))⟩, trivial⟩
theorem c_Mul (x y : Int) (hx : len16 x ≤ 1024) (hy : len16 y ≤ 1024) :
  Ct Tryz.prog 168 [tWh (wh x), tWh (wh y)] (tT [tWh (resW (x * y)), tI (resE (x * y))]) := by
 have hx32 := len32_le hx
 have hy32 := len32_le hy
 have hmul := len_mul (k := 1024) (m := x.natAbs) (n := y.natAbs) (by omega) (by omega)
 refine Ct.intro Tryz.func168 rfl Tryz.ntmps168 rfl ?_
 intro w F
 refine x6 ?_
 refine x8 ?_
 refine RE (xd2 (k := 2) ti47 rfl) ⟨rfl, trivial⟩ trivial ⟨rfl, trivial⟩ (RE (xd2 (k := 3) ti47 rfl) ⟨rfl, trivial⟩ trivial ⟨rfl, trivial⟩ (RE (xc9 (k := 4) (n := 2) (agg := true) zr47.1 zr47.2 rfl) trivial trivial ⟨rfl, trivial⟩ (R1 x5 rfl (x7 (by kernel_rfl) (x3 (x6 (x6 ?_)))))))
 refine x8 ?_
 refine RE (xb3 (0) ti47 rfl rfl) ⟨rfl, trivial⟩ ⟨rfl, trivial⟩ trivial (RE (xb3 (0) ti47 rfl rfl) ⟨rfl, trivial⟩ ⟨rfl, trivial⟩ trivial (R2 (xf4 (n := 2) (f := tWh) [wh x, wh y] Tryz.underlying222 el47 zf47 rfl (fun _ => inferInstance) rfl rfl rfl) rfl rfl (R1 (xa0 (c_WallValid2 x y hx hy) fi140 rfl) rfl (R1 xe7 rfl (x7 (by kernel_rfl) (x3 (C_bF rfl rfl ?_)))))))
 refine xa4 (x3 (x6 ?_))
 refine xe1 mixed ?_
 refine R1 (x9 fo47_0 rfl) rfl (xa5 (0) ti4 rfl rfl rfl (At.g 0 rfl rfl) rfl (R1 (x9 fo47_0 rfl) rfl (xa5 (0) ti4 rfl rfl rfl (At.g 0 rfl rfl) rfl (R2 (d_neqB Tryz.underlying4) rfl rfl (R1 (x9 fo47_1 rfl) rfl (xa5 (0) ti45 rfl rfl rfl (At.g 1 rfl rfl) rfl (R1 (xa0 (c_packN (Int.natAbs x) (by show len16 x ≤ 1000000; omega)) fi142 rfl) rfl ?_)))))))
 refine R1 (x9 fo47_1 rfl) rfl (xa5 (0) ti45 rfl rfl rfl (At.g 1 rfl rfl) rfl (R1 (xa0 (c_packN (Int.natAbs y) (by show len16 y ≤ 1000000; omega)) fi142 rfl) rfl (R2 (xa0 (c_times x.natAbs y.natAbs (by omega) (by omega)) fi205 rfl) rfl rfl (R2 (xa0 (c_result (!((wh x).neg == (wh y).neg)) (x.natAbs * y.natAbs) (by omega)) fi204 rfl) rfl rfl (R1 (xb7 rfl) rfl (R1 (xb7 rfl) rfl (RE (xb0 (es := 2) (agg := true) (0) ti47 rfl rfl rfl) ⟨rfl, rfl, trivial⟩ ⟨rfl, trivial⟩ trivial ?_)))))))
 refine R1 x5 rfl (xd9 (by kernel_rfl) (x3 (xa2 ?_)))
 exact xg4 Plain.mk' (rs := [.cell 4 47, .tmp 5]) rfl rfl ⟨⟨_, _, _, _, _, rfl, rfl, ti47, (Le.of (by rw [sgn_mul]))⟩, ⟨_, rfl, (Le.int (by rw [sgn_mul]))⟩, trivial⟩
theorem c_Gcd (x y : Int) (hx : len16 x ≤ 1024) (hy : len16 y ≤ 1024) :
  Ct Tryz.prog 203 [tWh (wh x), tWh (wh y)] (tT [tWh (wh ((Int.gcd x y : Nat) : Int)), tI 0]) := by
 have hx32 := len32_le hx
 have hy32 := len32_le hy
 have hg := len_gcd (k := 1024) (m := x.natAbs) (n := y.natAbs) (by omega) (by omega)
 refine Ct.intro Tryz.func203 rfl Tryz.ntmps203 rfl ?_
 intro w F
 refine x6 ?_
 refine x8 ?_
 refine RE (xd2 (k := 2) ti47 rfl) ⟨rfl, trivial⟩ trivial ⟨rfl, trivial⟩ (RE (xd2 (k := 3) ti47 rfl) ⟨rfl, trivial⟩ trivial ⟨rfl, trivial⟩ (RE (xc9 (k := 4) (n := 2) (agg := true) zr47.1 zr47.2 rfl) trivial trivial ⟨rfl, trivial⟩ (R1 x5 rfl (x7 (by kernel_rfl) (x3 (x6 (x6 ?_)))))))
 refine x8 ?_
 refine RE (xb3 (0) ti47 rfl rfl) ⟨rfl, trivial⟩ ⟨rfl, trivial⟩ trivial (RE (xb3 (0) ti47 rfl rfl) ⟨rfl, trivial⟩ ⟨rfl, trivial⟩ trivial (R2 (xf4 (n := 2) (f := tWh) [wh x, wh y] Tryz.underlying222 el47 zf47 rfl (fun _ => inferInstance) rfl rfl rfl) rfl rfl (R1 (xa0 (c_WallValid2 x y hx hy) fi140 rfl) rfl (R1 xe7 rfl (x7 (by kernel_rfl) (x3 (C_bF rfl rfl ?_)))))))
 refine xa4 (x3 (x6 ?_))
 refine xe1 mixed ?_
 refine R1 (x9 fo47_1 rfl) rfl (xa5 (0) ti45 rfl rfl rfl (At.g 1 rfl rfl) rfl (R1 (xa0 (c_packN (Int.natAbs x) (by show len16 x ≤ 1000000; omega)) fi142 rfl) rfl (R1 (x9 fo47_1 rfl) rfl (xa5 (0) ti45 rfl rfl rfl (At.g 1 rfl rfl) rfl (R1 (xa0 (c_packN (Int.natAbs y) (by show len16 y ≤ 1000000; omega)) fi142 rfl) rfl (R2 (xa0 (c_commonDivisor x.natAbs y.natAbs (by omega) (by omega)) fi240 rfl) rfl rfl (R2 (xa0 (c_unpack false (Nat.gcd x.natAbs y.natAbs) (by omega)) fi221 rfl) rfl rfl ?_)))))))
 refine RE (xb0 (es := 2) (agg := true) (0) ti47 rfl rfl rfl) ⟨rfl, rfl, trivial⟩ ⟨rfl, trivial⟩ trivial (R1 x5 rfl (xd9 (by kernel_rfl) (x3 (xa2 ?_))))
 exact xg4 Plain.mk' (rs := [.cell 4 47, .tmp 5]) rfl rfl ⟨⟨_, _, _, _, _, rfl, rfl, ti47, Le.refl⟩, ⟨_, rfl, Le.refl⟩, trivial⟩
end An.S

/- Whole numbers: quotients, numbers of 64 bits. -/
namespace An
open Go
/-! Rounding down. -/
theorem div_neg {m y : Nat} (hy : 0 < y) : (-(m : Int)) / (y : Int) = (if m % y = 0 then -((m / y : Nat) : Int) else -((m / y + 1 : Nat) : Int)) ∧ (-(m : Int)) % (y : Int) = (if m % y = 0 then 0 else ((y - m % y : Nat) : Int)) := by
  have h1 := Nat.div_add_mod m y
  have h2 := Nat.mod_lt m hy
  have hm : (m : Int) = y * ((m / y : Nat) : Int) + ((m % y : Nat) : Int) := by
    rw [← Int.natCast_mul, ← Int.natCast_add, h1]
  generalize m / y = q at *
  generalize m % y = r at *
  have hu := @Int.ediv_emod_unique (-(m : Int)) (y : Int)
  split
  · rename_i h0
    refine (hu (by omega)).2 ⟨?_, by omega, by omega⟩
    rw [hm, h0]; grind
  · refine (hu (by omega)).2 ⟨?_, by omega, by omega⟩
    rw [hm, Int.natCast_sub (Nat.le_of_lt h2), Int.natCast_add]; grind
theorem dm_quo {x y : Int} (hy : 0 < y) {Q R : Nat} (h : (decide (x < 0) = true ∧ x.natAbs % y.natAbs ≠ 0 → Q = x.natAbs / y.natAbs + 1 ∧ R = y.natAbs - x.natAbs % y.natAbs) ∧ (¬ (decide (x < 0) = true ∧ x.natAbs % y.natAbs ≠ 0) → Q = x.natAbs / y.natAbs ∧ R = x.natAbs % y.natAbs)) :
    sgn (!((wh x).neg == (wh y).neg)) Q = x / y ∧ sgn (wh y).neg R = x % y := by
  have ey : (wh y).neg = false := decide_eq_false (by omega)
  have ex : (wh x).neg = decide (x < 0) := rfl
  rw [ey, ex]
  obtain ⟨n, rfl⟩ := Int.eq_ofNat_of_zero_le (Int.le_of_lt hy)
  have hn : 0 < n := by omega
  simp only [Int.natAbs_natCast] at h
  by_cases hx : x < 0
  · obtain ⟨m, hm⟩ := Int.eq_ofNat_of_zero_le (show 0 ≤ -x by omega)
    have hxm : x = -(m : Int) := by omega
    subst hxm
    obtain ⟨d1, d2⟩ := div_neg (m := m) hn
    simp only [Int.natAbs_neg, Int.natAbs_natCast] at h
    rw [d1, d2, decide_eq_true hx]
    by_cases h0 : m % n = 0
    · obtain ⟨e1, e2⟩ := h.2 (by simp [h0])
      rw [e1, e2, if_pos h0, if_pos h0, h0]
      simp [sgn]
    · obtain ⟨e1, e2⟩ := h.1 ⟨decide_eq_true hx, h0⟩
      rw [e1, e2, if_neg h0, if_neg h0]
      simp [sgn]
  · obtain ⟨m, rfl⟩ := Int.eq_ofNat_of_zero_le (show 0 ≤ x by omega)
    simp only [Int.natAbs_natCast] at h
    obtain ⟨e1, e2⟩ := h.2 fun h' => hx (of_decide_eq_true h'.1)
    rw [e1, e2, decide_eq_false hx]
    simp [sgn]
theorem len_one : (dig 4294967296 1).length ≤ 1 := (xd3 xb5 1 1).2 (by decide)
/-! Numbers of 64 bits. -/
theorem wh_len (v : Nat) (h : v < 18446744073709551616) : (dig 65536 v).length ≤ 4 := (xd3 xb6 v 4).2 (by simpa using h)
theorem count_step {v i c : Nat} (h : c = (dig 65536 (v % 65536 ^ i)).length) : (v / 65536 ^ i % 65536 ≠ 0 → i + 1 = (dig 65536 (v % 65536 ^ (i + 1))).length) ∧ (v / 65536 ^ i % 65536 = 0 → c = (dig 65536 (v % 65536 ^ (i + 1))).length) := by
  have e := xi0 65536 v i
  refine ⟨fun h0 => ?_, fun h0 => by rw [e, h0, Nat.mul_zero, Nat.add_zero]; exact h⟩
  have hp : 0 < 65536 ^ i := Nat.pow_pos (by decide)
  have h1 : (dig 65536 (v % 65536 ^ (i + 1))).length ≤ i + 1 := (xd3 xb6 _ _).2 (Nat.mod_lt _ (Nat.pow_pos (by decide)))
  have h2 : ¬ (dig 65536 (v % 65536 ^ (i + 1))).length ≤ i := fun h' => by
    have h3 := (xd3 xb6 _ _).1 h'
    rw [e] at h3
    have h4 : 65536 ^ i * 1 ≤ 65536 ^ i * (v / 65536 ^ i % 65536) := Nat.mul_le_mul_left _ (by omega)
    omega
  omega
theorem shr16i (v i : Nat) : v / 2 ^ (16 * i) = v / 65536 ^ i := by rw [Nat.pow_mul]
theorem toU64 {n : Int} : IntKind.u64.wrap n = (((n % 18446744073709551616).toNat : Nat) : Int) := by
  rw [mu64]; omega
theorem negU64 {v : Nat} (hv : v < 18446744073709551616) : IntKind.u64.wrap (0 - (v : Int)) = (((18446744073709551616 - v) % 18446744073709551616 : Nat) : Int) := by
  rw [mu64]; omega
/-- What fits into 64 bits. -/
def fits (z : Int) : Bool := decide (-9223372036854775808 ≤ z) && decide (z ≤ 9223372036854775807)
end An

/- Package whole: quotients, numbers of 64 bits. -/
namespace An.S
open Go Go.Proofs An
set_option maxHeartbeats 1000000
theorem fi143 : FnI Tryz.prog 143 := ⟨_, Tryz.func143, by kernel_rfl, rfl⟩
theorem fi200 : FnI Tryz.prog 200 := ⟨_, Tryz.func200, by kernel_rfl, rfl⟩
theorem ar181 : ArI Tryz.prog 181 166 4 1 false := ⟨by kernel_rfl, ti166⟩
theorem c_plusOne (a : Nat) (ha : (dig 4294967296 a).length ≤ 10000) : Ct Tryz.prog 219 [tN a, tWs [1]] (tN (a + 1)) := by
  have e : dig 4294967296 1 = [1] := by rw [dig_pos xb5 (by decide), show (1 : Nat) / 4294967296 = 0 by decide, xf0]
  have := c_plus a 1 (by omega) (by rw [e]; decide)
  rw [tN, tN, e] at this; exact this
theorem c_DivMod (x y : Int) (hx : len16 x ≤ 1024) (hy : len16 y ≤ 1024) (hy0 : 0 < y) :
  Ct Tryz.prog 192 [tWh (wh x), tWh (wh y)] (tT [tWh (wh (x / y)), tWh (wh (x % y)), tI 0]) := by
 have hx32 := len32_le hx
 have hy32 := len32_le hy
 have hq32 : (dig 4294967296 (x.natAbs / y.natAbs)).length ≤ 1024 := Nat.le_trans (xf3 xb5 (Nat.div_le_self _ _)) hx32
 have hrl : x.natAbs % y.natAbs < y.natAbs := Nat.mod_lt _ (by omega)
 have hr32 : (dig 4294967296 (x.natAbs % y.natAbs)).length ≤ 1024 := Nat.le_trans (xf3 xb5 (Nat.le_of_lt hrl)) hy32
 have hs32 : (dig 4294967296 (y.natAbs - x.natAbs % y.natAbs)).length ≤ 1024 := Nat.le_trans (xf3 xb5 (Nat.sub_le _ _)) hy32
 have hq1 := len_add (k := 1024) (m := x.natAbs / y.natAbs) (n := 1) hq32 (Nat.le_trans len_one (by decide))
 have ey : (wh y).neg = false := decide_eq_false (by omega)
 have ex : (wh x).neg = decide (x < 0) := rfl
 refine Ct.intro Tryz.func192 rfl Tryz.ntmps192 rfl ?_
 intro w F
 refine x6 ?_
 refine x8 ?_
 refine RE (xd2 (k := 2) ti47 rfl) ⟨rfl, trivial⟩ trivial ⟨rfl, trivial⟩ (RE (xd2 (k := 3) ti47 rfl) ⟨rfl, trivial⟩ trivial ⟨rfl, trivial⟩ (RE (xc9 (k := 4) (n := 2) (agg := true) zr47.1 zr47.2 rfl) trivial trivial ⟨rfl, trivial⟩ (RE (xc9 (k := 5) (n := 2) (agg := true) zr47.1 zr47.2 rfl) trivial trivial ⟨rfl, trivial⟩ (R1 x5 rfl (x7 (by kernel_rfl) (x3 (x6 ?_)))))))
 refine x6 ?_
 refine x8 ?_
 refine RE (xb3 (0) ti47 rfl rfl) ⟨rfl, trivial⟩ ⟨rfl, trivial⟩ trivial (RE (xb3 (0) ti47 rfl rfl) ⟨rfl, trivial⟩ ⟨rfl, trivial⟩ trivial (R2 (xf4 (n := 2) (f := tWh) [wh x, wh y] Tryz.underlying222 el47 zf47 rfl (fun _ => inferInstance) rfl rfl rfl) rfl rfl (R1 (xa0 (c_WallValid2 x y hx hy) fi140 rfl) rfl (R1 xe7 rfl (x7 (by kernel_rfl) (x3 (C_bF rfl rfl ?_)))))))
 refine xa4 (x3 (x6 (x6 ?_)))
 refine x8 ?_
 refine R1 (x9 fo47_1 rfl) rfl (xa5 (0) ti45 rfl rfl rfl (At.g 1 rfl rfl) rfl (R1 (xb9 Tryz.underlying45) rfl (R2 xe5 rfl rfl (x7 (by kernel_rfl) (x3 (C_bF rfl (decide_eq_false (by (intro h; have h2 : (wh y).l.length = 0 := (by omega); have h3 : y.natAbs = 0 := (xi2 xb6).1 (List.length_eq_zero_iff.1 h2); omega))) (xa4 ?_)))))))
 refine x3 (x6 ?_)
 refine x8 ?_
 refine R1 (x9 fo47_1 rfl) rfl (xa5 (0) ti45 rfl rfl rfl (At.g 1 rfl rfl) rfl (R1 (xa0 (c_packN (Int.natAbs y) (by show len16 y ≤ 1000000; omega)) fi142 rfl) rfl (R1 x5 rfl (x7 (by kernel_rfl) (x3 (x6 ?_))))))
 refine x8 ?_
 refine R1 (x9 fo47_1 rfl) rfl (xa5 (0) ti45 rfl rfl rfl (At.g 1 rfl rfl) rfl (R1 (xa0 (c_packN (Int.natAbs x) (by show len16 x ≤ 1000000; omega)) fi142 rfl) rfl (R1 x4 rfl (R2 (xa0 (c_divide x.natAbs y.natAbs (by omega) (by omega) (by omega)) fi218 rfl) rfl rfl (R1 x4 rfl (R1 (xb7 rfl) rfl (R1 (xb7 rfl) rfl ?_)))))))
 refine R1 x5 rfl (R1 x5 rfl (x7 (by kernel_rfl) (x3 ?_)))
 refine xh2 (fun (fm : (Nat) × (Nat)) => (fun (Q : Nat) (R : Nat) => (sgn (!((wh x).neg == (wh y).neg)) Q = x / y ∧ sgn (wh y).neg R = x % y) ∧ (dig 4294967296 Q).length ≤ 1025 ∧ (dig 4294967296 R).length ≤ 1024) fm.1 fm.2) (fun (fm : (Nat) × (Nat)) => (fun (Q : Nat) (R : Nat) => upd (upd (upd (upd (upd (upd (fun _ => none) 2 (some (.own (.ptr 2 0)))) 3 (some (.own (.ptr 3 0)))) 4 (some (.own (.ptr 4 0)))) 5 (some (.own (.ptr 5 0)))) 8 (some (.val (tN Q)))) 9 (some (.val (tN R)))) fm.1 fm.2) (fun (fm : (Nat) × (Nat)) => (fun (Q : Nat) (R : Nat) => upd (upd (upd (upd (fun _ => none) 2 (some (⟨47, 2, true, [.val (tWh (wh x))]⟩))) 3 (some (⟨47, 2, true, [.val (tWh (wh y))]⟩))) 4 (some (⟨47, 2, true, [.val (tWh ⟨false, []⟩)]⟩))) 5 (some (⟨47, 2, true, [.val (tWh ⟨false, []⟩)]⟩))) fm.1 fm.2) (nm [2, 3, 4, 5]) ?_ ?_
 ·
  refine x6 ?_
  refine x8 ?_
  refine R1 (x9 fo47_0 rfl) rfl (xa5 (0) ti4 rfl rfl rfl (At.g 0 rfl rfl) rfl (R1 (x9 fo47_0 rfl) rfl (xa5 (0) ti4 rfl rfl rfl (At.g 0 rfl rfl) rfl (R2 (d_neqB Tryz.underlying4) rfl rfl (R1 x4 rfl ?_)))))
  refine RGcase (t := 39) rfl (fun h140 => ?_) (fun h140 => ?_)
  ·
   have hxn : decide (x < 0) = true := by have h := h140; rw [ey, ex] at h; simpa using h
   refine RGon h140 rfl x4 rfl ⟨rfl, trivial⟩ trivial trivial (RGon h140 rfl (xb9 Tryz.underlying179) rfl ⟨rfl, trivial⟩ trivial trivial (RGon h140 rfl d_gtr rfl ⟨rfl, rfl, trivial⟩ trivial trivial (R2 (xa8 h140) rfl rfl (x7 (by kernel_rfl) (x3 ?_)))))
   refine xc2 rfl (fun h140_2 => ?_) (fun h140_2 => ?_)
   ·
    have hr0 : x.natAbs % y.natAbs ≠ 0 := fun h => by rw [h, xf0] at h140_2; simp at h140_2
    refine x6 ?_
    refine x8 ?_
    refine R1 x4 rfl (R1 (d_nums (n := 1) [1] Tryz.underlying179 el218 zf218 rfl rfl rfl) rfl (R2 (xa0 (c_plusOne _ (by omega)) fi219 rfl) rfl rfl (R1 x5 rfl (x7 (by kernel_rfl) (x3 ?_)))))
    refine x8 ?_
    refine R1 x4 rfl (R1 x4 rfl (R2 (xa0 (c_minus y.natAbs (x.natAbs % y.natAbs) (by omega) (by omega)) fi220 rfl) rfl rfl (R1 x5 rfl (x7 (by kernel_rfl) ?_))))
    exact xc7 ((x.natAbs / y.natAbs + 1, y.natAbs - x.natAbs % y.natAbs)) (by dsimp only; exact ⟨dm_quo hy0 ⟨fun _ => ⟨rfl, rfl⟩, fun h => (h ⟨hxn, hr0⟩).elim⟩, hq1, hs32⟩) (Sub.cons rfl (Sub.cons rfl (Sub.cons rfl (Sub.cons rfl (Sub.cons rfl (Sub.cons rfl Sub.nil)))))) ((SubK.consI rfl ImpK.refl) ((SubK.consI rfl ImpK.refl) (SubK.cons rfl (SubK.cons rfl SubK.nil)))) (SupG.val (SupG.val (SupG.own rfl (SupG.own rfl (SupG.own rfl (SupG.own rfl SupG.nil)))))) (SupH.cons rfl (supJL rfl) (SupH.cons rfl (supJL rfl) (SupH.cons rfl (supJL rfl) (SupH.cons rfl (supJL rfl) SupH.nil)))) (lkOk rfl)
   ·
    have hr0 : x.natAbs % y.natAbs = 0 := (xi2 xb5).1 (List.length_eq_zero_iff.1 (by omega))
    refine xa4 ?_
    exact xc7 ((x.natAbs / y.natAbs, x.natAbs % y.natAbs)) (by dsimp only; exact ⟨dm_quo hy0 ⟨fun h => (h.2 hr0).elim, fun _ => ⟨rfl, rfl⟩⟩, by omega, hr32⟩) (Sub.cons rfl (Sub.cons rfl (Sub.cons rfl (Sub.cons rfl (Sub.cons rfl (Sub.cons rfl Sub.nil)))))) ((SubK.consI rfl ImpK.refl) ((SubK.consI rfl ImpK.refl) (SubK.cons rfl (SubK.cons rfl SubK.nil)))) (SupG.val (SupG.val (SupG.own rfl (SupG.own rfl (SupG.own rfl (SupG.own rfl SupG.nil)))))) (SupH.cons rfl (supJL rfl) (SupH.cons rfl (supJL rfl) (SupH.cons rfl (supJL rfl) (SupH.cons rfl (supJL rfl) SupH.nil)))) (lkOk rfl)
  ·
   have hxn : ¬ decide (x < 0) = true := by have h := h140; rw [ey, ex] at h; simpa using h
   refine RGoff h140 rfl rfl (RGoff h140 rfl rfl (RGoff h140 rfl rfl (R2 (xa7 h140) rfl rfl (x7 (by kernel_rfl) (x3 (C_bF rfl rfl (xa4 ?_)))))))
   exact xc7 ((x.natAbs / y.natAbs, x.natAbs % y.natAbs)) (by dsimp only; exact ⟨dm_quo hy0 ⟨fun h => (hxn h.1).elim, fun _ => ⟨rfl, rfl⟩⟩, by omega, hr32⟩) (Sub.cons rfl (Sub.cons rfl (Sub.cons rfl (Sub.cons rfl (Sub.cons rfl (Sub.cons rfl Sub.nil)))))) ((SubK.consI rfl ImpK.refl) ((SubK.consI rfl ImpK.refl) (SubK.cons rfl (SubK.cons rfl SubK.nil)))) (SupG.val (SupG.val (SupG.own rfl (SupG.own rfl (SupG.own rfl (SupG.own rfl SupG.nil)))))) (SupH.cons rfl (supJL rfl) (SupH.cons rfl (supJL rfl) (SupH.cons rfl (supJL rfl) (SupH.cons rfl (supJL rfl) SupH.nil)))) (lkOk rfl)
 ·
  intro fm hj
  obtain ⟨Q, R⟩ := fm
  replace hj : (sgn (!((wh x).neg == (wh y).neg)) Q = x / y ∧ sgn (wh y).neg R = x % y) ∧ (dig 4294967296 Q).length ≤ 1025 ∧ (dig 4294967296 R).length ≤ 1024 := hj
  show wc _ _ _ _ (upd (upd (upd (upd (upd (upd (fun _ => none) 2 (some (.own (.ptr 2 0)))) 3 (some (.own (.ptr 3 0)))) 4 (some (.own (.ptr 4 0)))) 5 (some (.own (.ptr 5 0)))) 8 (some (.val (tN Q)))) 9 (some (.val (tN R)))) (upd (upd (upd (upd (fun _ => none) 2 (some (⟨47, 2, true, [.val (tWh (wh x))]⟩))) 3 (some (⟨47, 2, true, [.val (tWh (wh y))]⟩))) 4 (some (⟨47, 2, true, [.val (tWh ⟨false, []⟩)]⟩))) 5 (some (⟨47, 2, true, [.val (tWh ⟨false, []⟩)]⟩))) _
  obtain ⟨⟨hQ, hR⟩, hQl, hRl⟩ := hj
  refine x6 ?_
  refine xe1 mixed ?_
  refine R1 (x9 fo47_0 rfl) rfl (xa5 (0) ti4 rfl rfl rfl (At.g 0 rfl rfl) rfl (R1 (x9 fo47_0 rfl) rfl (xa5 (0) ti4 rfl rfl rfl (At.g 0 rfl rfl) rfl (R2 (d_neqB Tryz.underlying4) rfl rfl (R1 x4 rfl (R2 (xa0 (c_unpack (!((wh x).neg == (wh y).neg)) Q (by omega)) fi221 rfl) rfl rfl (R1 (x9 fo47_0 rfl) rfl ?_)))))))
  refine xa5 (0) ti4 rfl rfl rfl (At.g 0 rfl rfl) rfl (R1 x4 rfl (R2 (xa0 (c_unpack (wh y).neg R (by omega)) fi221 rfl) rfl rfl (RE (xb0 (es := 2) (agg := true) (0) ti47 rfl rfl rfl) ⟨rfl, rfl, trivial⟩ ⟨rfl, trivial⟩ trivial (RE (xb0 (es := 2) (agg := true) (0) ti47 rfl rfl rfl) ⟨rfl, rfl, trivial⟩ ⟨rfl, trivial⟩ trivial (R1 x5 rfl (xd9 (by kernel_rfl) (x3 ?_)))))))
  refine xa2 ?_
  exact xg4 Plain.mk' (rs := [.cell 4 47, .cell 5 47, .tmp 6]) rfl rfl ⟨⟨_, _, _, _, _, rfl, rfl, ti47, (Le.of (by rw [hQ]))⟩, ⟨_, _, _, _, _, rfl, rfl, ti47, (Le.of (by rw [hR]))⟩, ⟨_, rfl, Le.refl⟩, trivial⟩
theorem rW_take0 {k : IntKind} {xs : List Nat} {n : Nat} : (rW k xs).take n = (xs.take n).map fun x : Nat => .val (tE (.int k (x : Int))) := by
  rw [rW, List.map_take]
theorem c_FromInt (n : Int) (h1 : -9223372036854775808 ≤ n) (h2 : n ≤ 9223372036854775807) :
  Ct Tryz.prog 91 [tI n] (tWh (wh n)) := by
 refine Ct.intro Tryz.func91 rfl Tryz.ntmps91 rfl ?_
 intro w F
 refine x6 ?_
 refine x8 ?_
 refine RE (xc9 (k := 2) (n := 2) (agg := true) zr47.1 zr47.2 rfl) trivial trivial ⟨rfl, trivial⟩ (x7 (by kernel_rfl) (x3 (x6 ?_)))
 refine x8 ?_
 refine R1 x4 rfl (R1 (xb4 Tryz.underlying142 (isS Tryz.underlying3) toU64) rfl (R1 x5 rfl (x7 (by kernel_rfl) (x3 ?_))))
 refine xh2 (fun (v : Nat) => v = n.natAbs) (fun (v : Nat) => upd (upd (upd (fun _ => none) 0 (some (.val (tI n)))) 2 (some (.own (.ptr 2 0)))) 3 (some (.val (tE (.int .u64 ((v : Nat) : Int)))))) (fun (v : Nat) => upd (fun _ => none) 2 (some (⟨47, 2, true, [.val (tWh ⟨false, []⟩)]⟩))) (nm [2]) ?_ ?_
 ·
  refine x6 ?_
  refine x8 ?_
  refine R1 x4 rfl (R2 xd5 rfl rfl (x7 (by kernel_rfl) (x3 ?_)))
  refine xc2 rfl (fun h48 => ?_) (fun h48 => ?_)
  ·
   refine x8 ?_
   refine R1 x4 rfl (R1 (d_neg (negU64 (by omega))) rfl (R1 x5 rfl (x7 (by kernel_rfl) ?_)))
   exact xc7 ((18446744073709551616 - (n % 18446744073709551616).toNat) % 18446744073709551616) (by omega) (Sub.int rfl (by first | omega | rfl | (dsimp only; omega)) (Sub.cons rfl (Sub.int rfl (by first | omega | rfl | (dsimp only; omega)) Sub.nil))) ((SubK.consI rfl ImpK.refl) SubK.nil) (SupG.val (SupG.own rfl (SupG.val SupG.nil))) (SupH.cons rfl (supJL rfl) SupH.nil) (lkOk rfl)
  ·
   refine xa4 ?_
   exact xc7 ((n % 18446744073709551616).toNat) (by omega) (Sub.int rfl (by first | omega | rfl | (dsimp only; omega)) (Sub.cons rfl (Sub.int rfl (by first | omega | rfl | (dsimp only; omega)) Sub.nil))) ((SubK.consI rfl ImpK.refl) SubK.nil) (SupG.val (SupG.own rfl (SupG.val SupG.nil))) (SupH.cons rfl (supJL rfl) SupH.nil) (lkOk rfl)
 ·
  intro v hv
  refine x6 ?_
  refine x8 ?_
  refine RE (d_allocA (k := 4) (len := 4) (u := .int .u16 0) Tryz.underlying181 (z := .agg #[.int .u16 0, .int .u16 0, .int .u16 0, .int .u16 0]) (by kernel_rfl) rfl rfl) trivial trivial ⟨rfl, trivial⟩ (x7 (by kernel_rfl) (x3 (x6 ?_)))
  refine x8 ?_
  refine R1 x5 rfl (x7 (by kernel_rfl) (x3 (x6 (x6 ?_))))
  refine x8 ?_
  refine R1 x4 rfl (x7 (by kernel_rfl) (x3 (xa9 ?_)))
  refine xd6 (fun (fm : (Nat) × (List Nat) × (Nat)) => (fun (i : Nat) (ls : List Nat) (c : Nat) => i ≤ 4 ∧ ls.length = 4 ∧ ls.take i = dgs 65536 i v ∧ c = (dig 65536 (v % 65536 ^ i)).length) fm.1 fm.2.1 fm.2.2) (fun (fm : (Nat) × (List Nat) × (Nat)) => (fun (i : Nat) (ls : List Nat) (c : Nat) => upd (upd (upd (upd (upd (upd (fun _ => none) 0 (some (.val (tI n)))) 2 (some (.own (.ptr 2 0)))) 3 (some (.val (tE (.int .u64 ((v : Nat) : Int)))))) 4 (some (.own (.ptr 4 0)))) 5 (some (.val (tI c)))) 13 (some (.val (tI i)))) fm.1 fm.2.1 fm.2.2) (fun (fm : (Nat) × (List Nat) × (Nat)) => (fun (i : Nat) (ls : List Nat) (c : Nat) => upd (upd (fun _ => none) 2 (some (⟨47, 2, true, [.val (tWh ⟨false, []⟩)]⟩))) 4 (some (⟨181, 1, false, rW .u16 ls⟩))) fm.1 fm.2.1 fm.2.2) (nm [2, 4]) (fun (fm : (Nat) × (List Nat) × (Nat)) => (fun (i : Nat) (ls : List Nat) (c : Nat) => 4 - i) fm.1 fm.2.1 fm.2.2) ((0, [0, 0, 0, 0], 0)) (by dsimp only; exact ⟨by omega, rfl, rfl, by rw [Nat.pow_zero, Nat.mod_one, xf0]; rfl⟩) (Sub.int rfl (by first | omega | rfl | (dsimp only; omega)) (Sub.int rfl (by first | omega | rfl | (dsimp only; omega)) (Sub.cons rfl (Sub.int rfl (by first | omega | rfl | (dsimp only; omega)) (Sub.cons rfl (Sub.int rfl (by first | omega | rfl | (dsimp only; omega)) Sub.nil)))))) ((SubK.consI rfl ImpK.refl) ((SubK.consI rfl ImpK.refl) SubK.nil)) (SupG.val (SupG.val (SupG.own rfl (SupG.val (SupG.own rfl (SupG.val SupG.nil)))))) (SupH.cons rfl (supJ xc5) (SupH.cons rfl (supJL rfl) SupH.nil)) (lkOk rfl) ?_
  intro fm hI
  obtain ⟨i, ls, c⟩ := fm
  replace hI : i ≤ 4 ∧ ls.length = 4 ∧ ls.take i = dgs 65536 i v ∧ c = (dig 65536 (v % 65536 ^ i)).length := hI
  show wc _ _ _ _ (upd (upd (upd (upd (upd (upd (fun _ => none) 0 (some (.val (tI n)))) 2 (some (.own (.ptr 2 0)))) 3 (some (.val (tE (.int .u64 ((v : Nat) : Int)))))) 4 (some (.own (.ptr 4 0)))) 5 (some (.val (tI c)))) 13 (some (.val (tI i)))) (upd (upd (fun _ => none) 2 (some (⟨47, 2, true, [.val (tWh ⟨false, []⟩)]⟩))) 4 (some (⟨181, 1, false, rW .u16 ls⟩))) _
  obtain ⟨hi, hl, ht, hc⟩ := hI
  obtain ⟨k1, k2⟩ := count_step hc
  have hcl : c ≤ i := by rw [hc]; exact (xd3 xb6 _ _).2 (Nat.mod_lt _ (Nat.pow_pos (by decide)))
  refine x6 ?_
  refine x8 ?_
  refine R2 xd5 rfl rfl (x7 (by kernel_rfl) (x3 (x6 ?_)))
  refine xc2 rfl (fun h53 => ?_) (fun h53 => ?_)
  ·
   refine xa4 (x3 (x6 (xa9 (x6 ?_))))
   refine x8 ?_
   refine R1 x4 rfl (R1 x5 rfl (x7 (by kernel_rfl) (x3 (x6 ?_))))
   refine x8 ?_
   refine R1 x4 rfl (R1 x4 rfl (R1 x4 rfl (R2 (d_mul (wr64 (by omega) (by omega))) rfl rfl (R2 (d_shr (by omega) (shrN (s := 16 * i) (by omega) (by show 16 * i ≤ 64; omega))) rfl rfl (R1 (xb4 Tryz.underlying166 (isS Tryz.underlying142) cut16) rfl (R2 (d_indexA ar181 (by omega) (by omega) rfl) rfl rfl (RE (xb0 (i) ti166 (rW_lt (by omega)) (by omega) (rW_set (m := _) rfl)) ⟨rfl, rfl, trivial⟩ ⟨rfl, trivial⟩ trivial ?_)))))))
   refine x7 (by kernel_rfl) (x3 (x6 ?_))
   refine x8 ?_
   refine R1 x4 rfl (R2 (d_indexA ar181 (by omega) (by omega) rfl) rfl rfl (RE (xb3 (i) ti166 (rW_get (by rw [List.length_set]; omega)) (by omega)) ⟨rfl, trivial⟩ ⟨rfl, trivial⟩ trivial (R2 d_neq rfl rfl (x7 (by kernel_rfl) (x3 ?_)))))
   refine xc2 rfl (fun h55 => ?_) (fun h55 => ?_)
   ·
    have hd : (ls.set i (v / 2 ^ (16 * i) % 65536)).getD i 0 = v / 65536 ^ i % 65536 := by rw [getD_set_self (by omega), shr16i]
    refine x8 ?_
    refine R1 x4 rfl (R2 (xc4 (wr64 (by omega) (by omega))) rfl rfl (R1 x5 rfl (x7 (by kernel_rfl) (xc6 (x3 ?_)))))
    refine x8 ?_
    refine R2 (xc4 (wr64 (by omega) (by omega))) rfl rfl (R1 x4 rfl (x7 (by kernel_rfl) ?_))
    rw [hd] at h55
    exact xc7 ((i + 1, ls.set i (v / 2 ^ (16 * i) % 65536), i + 1)) ⟨(by dsimp only; exact ⟨by omega, by simpa using hl, by rw [xi6 (by omega), ht, dgs_succ, shr16i], k1 (by omega)⟩), (by dsimp only; omega)⟩ (Sub.int rfl (by first | omega | rfl | (dsimp only; omega)) (Sub.int rfl (by first | omega | rfl | (dsimp only; omega)) (Sub.cons rfl (Sub.int rfl (by first | omega | rfl | (dsimp only; omega)) (Sub.cons rfl (Sub.int rfl (by first | omega | rfl | (dsimp only; omega)) Sub.nil)))))) ((SubK.consI rfl ImpK.refl) ((SubK.consI rfl ImpK.refl) SubK.nil)) (SupG.val (SupG.val (SupG.own rfl (SupG.val (SupG.own rfl (SupG.val SupG.nil)))))) (SupH.cons rfl (supJ xc5) (SupH.cons rfl (supJL rfl) SupH.nil)) (lkOk rfl)
   ·
    have hd : (ls.set i (v / 2 ^ (16 * i) % 65536)).getD i 0 = v / 65536 ^ i % 65536 := by rw [getD_set_self (by omega), shr16i]
    refine xa4 (xc6 (x3 ?_))
    refine x8 ?_
    refine R2 (xc4 (wr64 (by omega) (by omega))) rfl rfl (R1 x4 rfl (x7 (by kernel_rfl) ?_))
    rw [hd] at h55
    exact xc7 ((i + 1, ls.set i (v / 2 ^ (16 * i) % 65536), c)) ⟨(by dsimp only; exact ⟨by omega, by simpa using hl, by rw [xi6 (by omega), ht, dgs_succ, shr16i], k2 (by omega)⟩), (by dsimp only; omega)⟩ (Sub.int rfl (by first | omega | rfl | (dsimp only; omega)) (Sub.int rfl (by first | omega | rfl | (dsimp only; omega)) (Sub.cons rfl (Sub.int rfl (by first | omega | rfl | (dsimp only; omega)) (Sub.cons rfl (Sub.int rfl (by first | omega | rfl | (dsimp only; omega)) Sub.nil)))))) ((SubK.consI rfl ImpK.refl) ((SubK.consI rfl ImpK.refl) SubK.nil)) (SupG.val (SupG.val (SupG.own rfl (SupG.val (SupG.own rfl (SupG.val SupG.nil)))))) (SupH.cons rfl (supJ xc5) (SupH.cons rfl (supJL rfl) SupH.nil)) (lkOk rfl)
  ·
   refine xd1 (xc0 (xc0 (xd8 (x3 (x6 ?_)))))
   refine x8 ?_
   refine R1 x4 rfl (R2 xd5 rfl rfl (R1 x4 rfl (RE (d_sliceAS (f := fun n : Nat => tE (.int .u16 n)) (ys := ls.take c) (u := c) ar181 (fun _ h => h) (fun h => by cases h) (by omega) rW_take0 (by rw [rW_len]; exact hl) (by rw [List.length_take]; omega) rfl) ⟨rfl, rfl, trivial⟩ ⟨rfl, trivial⟩ trivial (R1 (xa0 (c_clone16V (ls.take c) (by rw [List.length_take]; omega)) fi143 rfl) rfl (R2 (xe0 (r := tS [⟨1, false, tB (decide (n < 0))⟩, ⟨1, false, tLm (ls.take c)⟩]) (ts := [(0, tB (decide (n < 0))), (1, tLm (ls.take c))]) bu47 zr47.2 ⟨_, rfl⟩ rfl ⟨_, _, _, _, rfl, Up.f (fs := [⟨1, false, (tE (.bool false))⟩, ⟨1, false, (tLm [])⟩]) (f := ⟨1, false, (tE (.bool false))⟩) (fs' := [⟨1, false, tB (decide (n < 0))⟩, ⟨1, false, (tLm [])⟩]) 0 rfl rfl rfl, inferInstance, ⟨_, _, _, _, rfl, Up.f (fs := [⟨1, false, tB (decide (n < 0))⟩, ⟨1, false, (tLm [])⟩]) (f := ⟨1, false, (tLm [])⟩) (fs' := [⟨1, false, tB (decide (n < 0))⟩, ⟨1, false, tLm (ls.take c)⟩]) 1 rfl rfl rfl, inferInstance, Le.refl⟩⟩) rfl rfl (RE (xb0 (es := 2) (agg := true) (0) ti47 rfl rfl rfl) ⟨rfl, rfl, trivial⟩ ⟨rfl, trivial⟩ trivial (x7 (by kernel_rfl) ?_)))))))
   refine x3 (xa2 ?_)
   have hi4 : i = 4 := by omega
   subst hi4
   have hfin : ls.take c = dig 65536 n.natAbs := by
    rw [← hl, List.take_length, hl] at ht
    rw [ht, take_dgs (by omega), ← hv]
    rw [Nat.mod_eq_of_lt (by show v < 18446744073709551616; omega)] at hc
    rw [hc, dig_eq_dgs xb6]
   exact xg5 Plain.mk' rfl ⟨_, _, _, _, _, rfl, rfl, ti47, (Le.of (by rw [hfin]; rfl))⟩
theorem c_Equal16 (xs ys : List Nat) :
  Ct Tryz.prog 200 [tLm xs, tLm ys] (tB (decide (xs = ys))) := by
 refine Ct.intro Tryz.func200 rfl Tryz.ntmps200 rfl ?_
 intro w F
 refine C_len (s := 0) rfl (fun hl0 => ?_)
 refine x6 ?_
 refine x8 ?_
 refine R1 x5 rfl (x7 (by kernel_rfl) (x3 (x6 (x6 ?_))))
 refine x8 ?_
 refine R1 x4 rfl (R1 (xb9 Tryz.underlying45) rfl (R1 x4 rfl (R1 (xb9 Tryz.underlying45) rfl (R2 d_neq rfl rfl (x7 (by kernel_rfl) (x3 ?_))))))
 refine xc2 rfl (fun h21 => ?_) (fun h21 => ?_)
 ·
  refine x6 ?_
  refine x8 ?_
  refine R1 x5 rfl (x7 (by kernel_rfl) (x3 (xa2 (xa6 ?_))))
  exact xa3 Plain.mk' rfl rfl (Le.bool (decide_eq_false (fun h => by rw [h] at h21; omega)).symm)
 ·
  have hll : xs.length = ys.length := by omega
  refine xa4 (x3 (x6 (x6 ?_)))
  refine x8 ?_
  refine R1 x4 rfl (R1 (xb9 Tryz.underlying45) rfl (R1 x4 rfl (x7 (by kernel_rfl) (x3 (xa9 ?_)))))
  refine xd6 (fun (i : Nat) => i ≤ xs.length ∧ xs.take i = ys.take i) (fun (i : Nat) => upd (upd (upd (upd (fun _ => none) 0 (some (.val (tLm xs)))) 1 (some (.val (tLm ys)))) 12 (some (.val (tI xs.length)))) 13 (some (.val (tI i)))) (fun (i : Nat) => fun _ => none) (nm []) (fun (i : Nat) => xs.length - i) (0) ⟨Nat.zero_le _, rfl⟩ (Sub.int rfl (by first | omega | rfl | (dsimp only; omega)) (Sub.int rfl (by first | omega | rfl | (dsimp only; omega)) (Sub.cons rfl (Sub.cons rfl Sub.nil)))) SubK.nil (SupG.val (SupG.val (SupG.val (SupG.val SupG.nil)))) SupH.nil (lkOk rfl) ?_
  intro i hI
  obtain ⟨hi, ht⟩ := hI
  refine x6 ?_
  refine x8 ?_
  refine R2 xd5 rfl rfl (x7 (by kernel_rfl) (x3 (x6 ?_)))
  refine xc2 rfl (fun h24 => ?_) (fun h24 => ?_)
  ·
   refine xa4 (x3 (x6 (xa9 (x6 ?_))))
   refine x8 ?_
   refine R1 x4 rfl (R1 x5 rfl (x7 (by kernel_rfl) (x3 (x6 ?_))))
   refine xe1 mixed ?_
   refine R1 x4 rfl (R1 x4 rfl (R2 (xb8 sl45 (i) (by omega) (gN (by omega))) rfl rfl (R1 (xc1 ti166) rfl (R1 x4 rfl (R1 x4 rfl (R2 (xb8 sl45 (i) (by omega) (gN (by omega))) rfl rfl (R1 (xc1 ti166) rfl ?_)))))))
   refine R2 d_neq rfl rfl (xd9 (by kernel_rfl) (x3 ?_))
   refine xc2 rfl (fun h25 => ?_) (fun h25 => ?_)
   ·
    refine x6 ?_
    refine x8 ?_
    refine R1 x5 rfl (x7 (by kernel_rfl) (x3 (xa2 (xc8 (xa6 (xa6 (xc8 ?_)))))))
    refine xa6 ?_
    exact xa3 Plain.mk' rfl rfl (Le.bool (decide_eq_false (fun h => by rw [h] at h25; omega)).symm)
   ·
    refine xa4 (xc6 (x3 ?_))
    refine x8 ?_
    refine R2 (xc4 (wr64 (by omega) (by omega))) rfl rfl (R1 x4 rfl (x7 (by kernel_rfl) ?_))
    exact xc7 (i + 1) ⟨⟨by omega, by rw [xg3 xs i (by omega), xg3 ys i (by omega), ht, show xs.getD i 0 = ys.getD i 0 by omega]⟩, (by omega)⟩ (Sub.int rfl (by first | omega | rfl | (dsimp only; omega)) (Sub.int rfl (by first | omega | rfl | (dsimp only; omega)) (Sub.cons rfl (Sub.cons rfl Sub.nil)))) SubK.nil (SupG.val (SupG.val (SupG.val (SupG.val SupG.nil)))) SupH.nil (lkOk rfl)
  ·
   refine xd1 (xc0 (xc0 (xd8 (x3 (x6 ?_)))))
   refine x8 ?_
   refine R1 x5 rfl (x7 (by kernel_rfl) (x3 (xa2 ?_)))
   exact xa3 Plain.mk' rfl rfl (Le.bool (decide_eq_true (by rw [show i = xs.length by omega, List.take_length, hll, List.take_length] at ht; exact ht)).symm)
theorem c_WSame (x y : Wh) :
  Ct Tryz.prog 163 [tWh x, tWh y] (tB (decide (x = y))) := by
 refine Ct.intro Tryz.func163 rfl Tryz.ntmps163 rfl ?_
 intro w F
 refine x6 ?_
 refine x8 ?_
 refine RE (xd2 (k := 2) ti47 rfl) ⟨rfl, trivial⟩ trivial ⟨rfl, trivial⟩ (RE (xd2 (k := 3) ti47 rfl) ⟨rfl, trivial⟩ trivial ⟨rfl, trivial⟩ (R1 x5 rfl (x7 (by kernel_rfl) (x3 (x6 ?_)))))
 refine x8 ?_
 refine R1 (x9 fo47_0 rfl) rfl (xa5 (0) ti4 rfl rfl rfl (At.g 0 rfl rfl) rfl (R1 (x9 fo47_0 rfl) rfl (xa5 (0) ti4 rfl rfl rfl (At.g 0 rfl rfl) rfl (R2 (d_eqlB Tryz.underlying4) rfl rfl (R1 x4 rfl ?_)))))
 refine RGcase (t := 10) rfl (fun h42 => ?_) (fun h42 => ?_)
 ·
  have hn : x.neg = y.neg := eq_of_beq h42
  refine RGon h42 rfl (x9 fo47_1 rfl) rfl ⟨rfl, trivial⟩ trivial trivial (xb2 h42 rfl rfl (0) ti45 rfl rfl rfl (At.g 1 rfl rfl) rfl (RGon h42 rfl (x9 fo47_1 rfl) rfl ⟨rfl, trivial⟩ trivial trivial (xb2 h42 rfl rfl (0) ti45 rfl rfl rfl (At.g 1 rfl rfl) rfl (RGon h42 rfl (xa0 (c_Equal16 _ _) fi200 rfl) rfl ⟨rfl, rfl, trivial⟩ trivial trivial (R2 (xa8 h42) rfl rfl (R1 x5 rfl (x7 (by kernel_rfl) ?_)))))))
  refine x3 (xa2 ?_)
  exact xa3 Plain.mk' rfl rfl (Le.bool (by obtain ⟨a, b⟩ := x; obtain ⟨c, d⟩ := y; simp only at hn; subst hn; simp))
 ·
  have hn : x.neg ≠ y.neg := fun h => by rw [h] at h42; simp at h42
  refine RGoff h42 rfl rfl (RGoff h42 rfl rfl (RGoff h42 rfl rfl (RGoff h42 rfl rfl (RGoff h42 rfl rfl (R2 (xa7 h42) rfl rfl (R1 x5 rfl (x7 (by kernel_rfl) ?_)))))))
  refine x3 (xa2 ?_)
  exact xa3 Plain.mk' rfl rfl (Le.bool (decide_eq_false (fun h => hn (by rw [h]))).symm)
end An.S

/- Fractions. -/
namespace An
open Go
structure Fr where
  n : Wh
  d : Wh
deriving DecidableEq
abbrev tFr (f : Fr) : Ty := tS [⟨2, true, tWh f.n⟩, ⟨2, true, tWh f.d⟩]
abbrev tTm (f : Fr) : Ty := tS [⟨4, true, tFr f⟩]
def fr (q : Rat) : Fr := ⟨wh q.num, wh q.den⟩
def fr0 : Fr := ⟨⟨false, []⟩, ⟨false, []⟩⟩
/-- Neither part is too long. -/
def Fr.sh (f : Fr) : Bool := decide (f.n.l.length ≤ 256) && decide (f.d.l.length ≤ 256)
def short (q : Rat) : Prop := len16 q.num ≤ 256 ∧ len16 q.den ≤ 256
instance (q : Rat) : Decidable (short q) := inferInstanceAs (Decidable (_ ∧ _))
def resF (q : Rat) : Fr := if short q then fr q else fr0
def resFE (q : Rat) : Int := if short q then 0 else 3
theorem sh_fr (q : Rat) : (fr q).sh = decide (short q) := by
  show (decide (len16 q.num ≤ 256) && decide (len16 q.den ≤ 256)) = _
  exact (Bool.decide_and _ _).symm
/-- The number of signs and limbs. -/
def Wh.int (x : Wh) : Int := sgn x.neg (val 65536 x.l)
theorem int_wh (z : Int) : (wh z).int = z := by
  show sgn (wh z).neg (val 65536 (dig 65536 z.natAbs)) = z
  rw [val_dig xb6]; exact sgn_wh z
def Fr.valid (f : Fr) : Bool := f.sh && f.n.valid && f.d.valid && decide (0 < f.d.int) && decide (Int.gcd f.n.int f.d.int = 1)
theorem Fr.of_valid {f : Fr} (hn : Dig 65536 f.n.l) (hd : Dig 65536 f.d.l) (h : f.valid = true) : ∃ q : Rat, f = fr q ∧ short q := by
  obtain ⟨n, d⟩ := f
  simp only [Fr.valid, Bool.and_eq_true, decide_eq_true_eq] at h
  obtain ⟨⟨⟨⟨h1, h2⟩, h3⟩, h4⟩, h5⟩ := h
  obtain ⟨x, hx, hxl⟩ := Wh.of_valid hn h2
  obtain ⟨y, hy, hyl⟩ := Wh.of_valid hd h3
  simp only at hx hy
  subst hx; subst hy
  rw [int_wh] at h4; rw [int_wh, int_wh] at h5
  obtain ⟨m, rfl⟩ := Int.eq_ofNat_of_zero_le (Int.le_of_lt h4)
  have hm : m ≠ 0 := by omega
  have hq : ∃ q : Rat, q.num = x ∧ q.den = m := ⟨⟨x, m, hm, by simpa [Int.gcd] using h5⟩, rfl, rfl⟩
  obtain ⟨q, q1, q2⟩ := hq
  have e : (⟨wh x, wh m⟩ : Fr) = fr q := by rw [fr, q1, q2]
  refine ⟨q, e, ?_⟩
  rw [e, sh_fr] at h1
  exact of_decide_eq_true h1
theorem valid_fr {q : Rat} (h : short q) : (fr q).valid = true := by
  have h1 : (wh q.num).valid = true := valid_wh (Nat.le_trans h.1 (by decide))
  have h2 : (wh (q.den : Int)).valid = true := valid_wh (Nat.le_trans h.2 (by decide))
  have hd := q.den_nz
  have hg : Int.gcd q.num (q.den : Int) = 1 := by simpa [Int.gcd] using q.reduced
  have e1 : (fr q).n.int = q.num := int_wh _
  have e2 : (fr q).d.int = (q.den : Int) := int_wh _
  simp only [Fr.valid, Bool.and_eq_true, decide_eq_true_eq]
  rw [e1, e2]
  exact ⟨⟨⟨⟨by rw [sh_fr]; exact decide_eq_true h, h1⟩, h2⟩, by omega⟩, hg⟩
theorem wh_one : wh 1 = ⟨false, [1]⟩ := by
  have e : dig 65536 1 = [1] := by rw [dig_pos xb6 (by decide), show (1 : Nat) / 65536 = 0 by decide, xf0]
  show (⟨decide ((1 : Int) < 0), dig 65536 1⟩ : Wh) = _
  rw [e]; rfl
theorem wh_zero : wh 0 = ⟨false, []⟩ := by
  show (⟨decide ((0 : Int) < 0), dig 65536 0⟩ : Wh) = _
  rw [xf0]; rfl
/-! Bounds. -/
theorem len16_mul {x y : Int} {k l : Nat} (hx : len16 x ≤ k) (hy : len16 y ≤ l) : len16 (x * y) ≤ k + l := by
  have h1 := (xd3 xb6 x.natAbs k).1 hx
  have h2 := (xd3 xb6 y.natAbs l).1 hy
  refine (xd3 xb6 _ _).2 ?_
  rw [Int.natAbs_mul, Nat.pow_add]
  exact Nat.mul_lt_mul'' h1 h2
theorem len16_add {x y : Int} {k : Nat} (hx : len16 x ≤ k) (hy : len16 y ≤ k) : len16 (x + y) ≤ k + 1 := by
  have h1 := (xd3 xb6 x.natAbs k).1 hx
  have h2 := (xd3 xb6 y.natAbs k).1 hy
  refine (xd3 xb6 _ _).2 ?_
  rw [Nat.pow_succ]
  generalize 65536 ^ k = P at *
  omega
theorem len16_neg (x : Int) : len16 (-x) = len16 x := by rw [len16, len16, Int.natAbs_neg]
theorem len16_le {x y : Int} (h : x.natAbs ≤ y.natAbs) : len16 x ≤ len16 y := xf3 xb6 h
theorem len16_div {x y : Int} {k : Nat} (hx : len16 x ≤ k) : len16 (x / y) ≤ k := by
  refine Nat.le_trans (len16_le ?_) hx
  exact Int.natAbs_ediv_le_natAbs x y
/-! The lowest terms. -/
theorem lowest_eq {n d : Int} (hd : 0 < d) : fr (Rat.divInt n d) = ⟨wh (n / (Int.gcd n d : Int)), wh (d / (Int.gcd n d : Int))⟩ := by
  obtain ⟨m, rfl⟩ := Int.eq_ofNat_of_zero_le (Int.le_of_lt hd)
  have hm : m ≠ 0 := by omega
  rw [Rat.divInt_ofNat, ← Rat.normalize_eq_mkRat hm, Rat.normalize_eq]
  simp only [fr]
  have e : Int.gcd n (m : Int) = n.natAbs.gcd m := by simp [Int.gcd]
  rw [e, ← Int.natCast_ediv]
/-- -1, 0, 1. -/
def cmpQ (a b : Rat) : Int := if a < b then -1 else if a = b then 0 else 1
end An
