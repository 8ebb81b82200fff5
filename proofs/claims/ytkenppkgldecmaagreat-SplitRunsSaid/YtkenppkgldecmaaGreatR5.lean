/- Part 5 of a proof: W20, W24, W25, Back, Shares, W26, W27, LawA, W28, W29, O24, LawB, W30, LibZh, LibZi, LibMa, LibMb, LibZ, Sums, Whole, LibZf, W32, Ref4, W34, RefS, RefT. -/
import Derived.Test.YtkenppkgldecmaaGreatChecked
import Derived.Maps.RangeRun
import Derived.MapKept
import Derived.Carry
import Derived.Shelf.SlSortCmp.NoneTotal
import Derived.Test.YtkenppkgldecmaaGreatR4
/- The reference of layer 2; small functions of the laws. -/
namespace An.S
open Go Go.Proofs An
set_option maxHeartbeats 2000000
theorem fi75 : FnI Tryz.prog 75 := ⟨_, Tryz.func75, by kernel_rfl, rfl⟩
theorem fi76 : FnI Tryz.prog 76 := ⟨_, Tryz.func76, by kernel_rfl, rfl⟩
theorem fi77 : FnI Tryz.prog 77 := ⟨_, Tryz.func77, by kernel_rfl, rfl⟩
theorem fi124 : FnI Tryz.prog 124 := ⟨_, Tryz.func124, by kernel_rfl, rfl⟩
theorem fi125 : FnI Tryz.prog 125 := ⟨_, Tryz.func125, by kernel_rfl, rfl⟩
theorem c_RLowest (n d : Int) (hn : len16 n ≤ 4000) (hd : len16 d ≤ 4000) (hd0 : d ≠ 0) :
  Ct Tryz.prog 76 [tWh (wh n), tWh (wh d)] (tFr (fr (Rat.divInt n d))) := by
 have hg0 : 0 < (Nat.gcd n.natAbs d.natAbs) := Nat.gcd_pos_of_pos_right _ (by omega)
 have hgl := lenM (Nat.le_of_dvd (by omega) (Nat.gcd_dvd_right n.natAbs d.natAbs)) hd
 refine Ct.intro Tryz.func76 rfl Tryz.ntmps76 rfl ?_
 intro w F
 refine x6 ?_
 refine x8 ?_
 refine RE (xd4 (k := 2) ti47 rfl) ⟨rfl, trivial⟩ trivial ⟨rfl, trivial⟩ (RE (xd4 (k := 3) ti47 rfl) ⟨rfl, trivial⟩ trivial ⟨rfl, trivial⟩ (RE (xc4 (k := 4) (n := 4) (agg := true) zr49.1 zr49.2 rfl) trivial trivial ⟨rfl, trivial⟩ (x7 (by kernel_rfl) (x3 (x6 ?_)))))
 refine x8 ?_
 refine R1 (x9 fo47_1 rfl) rfl (xa4 (0) ti45 rfl rfl rfl (At.g 1 rfl rfl) rfl (R1 (x9 fo47_1 rfl) rfl (xa4 (0) ti45 rfl rfl rfl (At.g 1 rfl rfl) rfl (R2 (xa0 (c_RCommon n.natAbs d.natAbs hn hd) fi124 rfl) rfl rfl (R1 x5 rfl (x7 (by kernel_rfl) (x3 ?_)))))))
 refine x6 (x6 ?_)
 refine x8 ?_
 refine R1 x4 rfl (R1 (xa0 (c_Rone _) fi125 rfl) rfl (x7 (by kernel_rfl) (x3 ?_)))
 refine xf0 rfl (fun h15 => ?_) (fun h15 => ?_)
 ·
  have hg1 : (Nat.gcd n.natAbs d.natAbs) = 1 := by
   have h := of_decide_eq_true h15
   rw [← val_dig xb0 (Nat.gcd n.natAbs d.natAbs), h]; rfl
  refine x6 ?_
  refine xc9 mixed ?_
  refine R1 (x9 fo47_0 rfl) rfl (xa4 (0) ti4 rfl rfl rfl (At.g 0 rfl rfl) rfl (R1 (x9 fo47_0 rfl) rfl (xa4 (0) ti4 rfl rfl rfl (At.g 0 rfl rfl) rfl (R2 (d_neqB Tryz.underlying4) rfl rfl (R1 (x9 fo47_1 rfl) rfl (xa4 (0) ti45 rfl rfl rfl (At.g 1 rfl rfl) rfl (R2 (xa0 (xi2 (!((wh n).neg == (wh d).neg)) n.natAbs) fi126 rfl) rfl rfl ?_)))))))
  refine R1 (x9 fo47_1 rfl) rfl (xa4 (0) ti45 rfl rfl rfl (At.g 1 rfl rfl) rfl (R2 (xa0 (xi2 false d.natAbs) fi126 rfl) rfl rfl (R2 (xd9 (r := tS [⟨2, true, tWh (wh (sgn (!((wh n).neg == (wh d).neg)) n.natAbs))⟩, ⟨2, true, tWh (wh (sgn false d.natAbs))⟩]) (ts := [(0, tWh (wh (sgn (!((wh n).neg == (wh d).neg)) n.natAbs))), (1, tWh (wh (sgn false d.natAbs)))]) bu49 zr49.2 ⟨_, rfl⟩ rfl ⟨_, _, _, _, rfl, Up.f (fs := [⟨2, true, (tS [⟨1, false, (tE (.bool false))⟩, ⟨1, false, (tLm [])⟩])⟩, ⟨2, true, (tS [⟨1, false, (tE (.bool false))⟩, ⟨1, false, (tLm [])⟩])⟩]) (f := ⟨2, true, (tS [⟨1, false, (tE (.bool false))⟩, ⟨1, false, (tLm [])⟩])⟩) (fs' := [⟨2, true, tWh (wh (sgn (!((wh n).neg == (wh d).neg)) n.natAbs))⟩, ⟨2, true, (tS [⟨1, false, (tE (.bool false))⟩, ⟨1, false, (tLm [])⟩])⟩]) 0 rfl rfl rfl, inferInstance, ⟨_, _, _, _, rfl, Up.f (fs := [⟨2, true, tWh (wh (sgn (!((wh n).neg == (wh d).neg)) n.natAbs))⟩, ⟨2, true, (tS [⟨1, false, (tE (.bool false))⟩, ⟨1, false, (tLm [])⟩])⟩]) (f := ⟨2, true, (tS [⟨1, false, (tE (.bool false))⟩, ⟨1, false, (tLm [])⟩])⟩) (fs' := [⟨2, true, tWh (wh (sgn (!((wh n).neg == (wh d).neg)) n.natAbs))⟩, ⟨2, true, tWh (wh (sgn false d.natAbs))⟩]) 1 rfl rfl rfl, inferInstance, Le.refl⟩⟩) rfl rfl (RE (xa6 (es := 4) (agg := true) (0) ti49 rfl rfl rfl) ⟨rfl, rfl, trivial⟩ ⟨rfl, trivial⟩ trivial (xd1 (by kernel_rfl) (x3 (xa2 ?_)))))))
  refine xa3 ?_
  exact xg2 Plain.mk' rfl ⟨_, _, _, _, _, rfl, rfl, ti49, (Le.of (by rw [low_sgn hd0, hg1, Nat.div_one, Nat.div_one]))⟩
 ·
  refine xa5 (x3 (x6 ?_))
  refine x8 ?_
  refine R1 (x9 fo47_1 rfl) rfl (xa4 (0) ti45 rfl rfl rfl (At.g 1 rfl rfl) rfl (R1 x4 rfl (R2 (xa0 (c_RDivided n.natAbs (Nat.gcd n.natAbs d.natAbs) hg0 hn hgl) fi127 rfl) rfl rfl (R1 x4 rfl (R1 (xa8 rfl) rfl (R1 (xa8 rfl) rfl (R1 x5 rfl ?_)))))))
  refine R1 x5 rfl (x7 (by kernel_rfl) (x3 (x6 ?_)))
  refine x8 ?_
  refine R1 (x9 fo47_1 rfl) rfl (xa4 (0) ti45 rfl rfl rfl (At.g 1 rfl rfl) rfl (R1 x4 rfl (R2 (xa0 (c_RDivided d.natAbs (Nat.gcd n.natAbs d.natAbs) hg0 hd hgl) fi127 rfl) rfl rfl (R1 x4 rfl (R1 (xa8 rfl) rfl (R1 (xa8 rfl) rfl (R1 x5 rfl ?_)))))))
  refine R1 x5 rfl (x7 (by kernel_rfl) (x3 (x6 ?_)))
  refine x8 ?_
  refine R1 (x9 fo47_0 rfl) rfl (xa4 (0) ti4 rfl rfl rfl (At.g 0 rfl rfl) rfl (R1 (x9 fo47_0 rfl) rfl (xa4 (0) ti4 rfl rfl rfl (At.g 0 rfl rfl) rfl (R2 (d_neqB Tryz.underlying4) rfl rfl (R1 x4 rfl (R2 (xa0 (xi2 (!((wh n).neg == (wh d).neg)) (n.natAbs / (Nat.gcd n.natAbs d.natAbs))) fi126 rfl) rfl rfl (R1 x4 rfl ?_)))))))
  refine R2 (xa0 (xi2 false (d.natAbs / (Nat.gcd n.natAbs d.natAbs))) fi126 rfl) rfl rfl (R2 (xd9 (r := tS [⟨2, true, tWh (wh (sgn (!((wh n).neg == (wh d).neg)) (n.natAbs / (Nat.gcd n.natAbs d.natAbs))))⟩, ⟨2, true, tWh (wh (sgn false (d.natAbs / (Nat.gcd n.natAbs d.natAbs))))⟩]) (ts := [(0, tWh (wh (sgn (!((wh n).neg == (wh d).neg)) (n.natAbs / (Nat.gcd n.natAbs d.natAbs))))), (1, tWh (wh (sgn false (d.natAbs / (Nat.gcd n.natAbs d.natAbs)))))]) bu49 zr49.2 ⟨_, rfl⟩ rfl ⟨_, _, _, _, rfl, Up.f (fs := [⟨2, true, (tS [⟨1, false, (tE (.bool false))⟩, ⟨1, false, (tLm [])⟩])⟩, ⟨2, true, (tS [⟨1, false, (tE (.bool false))⟩, ⟨1, false, (tLm [])⟩])⟩]) (f := ⟨2, true, (tS [⟨1, false, (tE (.bool false))⟩, ⟨1, false, (tLm [])⟩])⟩) (fs' := [⟨2, true, tWh (wh (sgn (!((wh n).neg == (wh d).neg)) (n.natAbs / (Nat.gcd n.natAbs d.natAbs))))⟩, ⟨2, true, (tS [⟨1, false, (tE (.bool false))⟩, ⟨1, false, (tLm [])⟩])⟩]) 0 rfl rfl rfl, inferInstance, ⟨_, _, _, _, rfl, Up.f (fs := [⟨2, true, tWh (wh (sgn (!((wh n).neg == (wh d).neg)) (n.natAbs / (Nat.gcd n.natAbs d.natAbs))))⟩, ⟨2, true, (tS [⟨1, false, (tE (.bool false))⟩, ⟨1, false, (tLm [])⟩])⟩]) (f := ⟨2, true, (tS [⟨1, false, (tE (.bool false))⟩, ⟨1, false, (tLm [])⟩])⟩) (fs' := [⟨2, true, tWh (wh (sgn (!((wh n).neg == (wh d).neg)) (n.natAbs / (Nat.gcd n.natAbs d.natAbs))))⟩, ⟨2, true, tWh (wh (sgn false (d.natAbs / (Nat.gcd n.natAbs d.natAbs))))⟩]) 1 rfl rfl rfl, inferInstance, Le.refl⟩⟩) rfl rfl (RE (xa6 (es := 4) (agg := true) (0) ti49 rfl rfl rfl) ⟨rfl, rfl, trivial⟩ ⟨rfl, trivial⟩ trivial (x7 (by kernel_rfl) (x3 (xa2 ?_)))))
  exact xg2 Plain.mk' rfl ⟨_, _, _, _, _, rfl, rfl, ti49, (Le.of (by rw [low_sgn hd0]))⟩
theorem c_RQuick (n d : Int) (hd0 : d ≠ 0) (h1 : -9223372036854775808 ≤ n) (h2 : n ≤ 9223372036854775807) (h3 : -9223372036854775808 ≤ d) (h4 : d ≤ 9223372036854775807) :
  Ct Tryz.prog 25 [tI n, tI d] (tFr (fr (Rat.divInt n d))) := by
 have l1 := len16_64 h1 h2
 have l2 := len16_64 h3 h4
 refine Ct.intro Tryz.func25 rfl Tryz.ntmps25 rfl ?_
 intro w F
 refine x6 ?_
 refine x8 ?_
 refine RE (xc4 (k := 4) (n := 4) (agg := true) zr49.1 zr49.2 rfl) trivial trivial ⟨rfl, trivial⟩ (x7 (by kernel_rfl) (x3 (x6 ?_)))
 refine x8 ?_
 refine R1 x4 rfl (R1 (xa0 (c_RFromInt n h1 h2) fi77 rfl) rfl (R1 x4 rfl (R1 (xa0 (c_RFromInt d h3 h4) fi77 rfl) rfl (R2 (xa0 (c_RLowest n d (by omega) (by omega) hd0) fi76 rfl) rfl rfl (RE (xa6 (es := 4) (agg := true) (0) ti49 rfl rfl rfl) ⟨rfl, rfl, trivial⟩ ⟨rfl, trivial⟩ trivial (x7 (by kernel_rfl) (x3 ?_)))))))
 refine xa2 ?_
 exact xg2 Plain.mk' rfl ⟨_, _, _, _, _, rfl, rfl, ti49, Le.refl⟩
theorem c_R2Same (f g : Fr) :
  Ct Tryz.prog 24 [tFr f, tFr g] (tB (decide (f = g))) := by
 refine Ct.intro Tryz.func24 rfl Tryz.ntmps24 rfl ?_
 intro w F
 refine x6 ?_
 refine x8 ?_
 refine RE (xd4 (k := 2) ti49 rfl) ⟨rfl, trivial⟩ trivial ⟨rfl, trivial⟩ (RE (xd4 (k := 3) ti49 rfl) ⟨rfl, trivial⟩ trivial ⟨rfl, trivial⟩ (R1 x5 rfl (x7 (by kernel_rfl) (x3 (x6 ?_)))))
 refine x8 ?_
 refine R1 (x9 fo49_0 rfl) rfl (xa4 (0) ti47 rfl rfl rfl (At.g 0 rfl rfl) rfl (R1 (x9 fo49_0 rfl) rfl (xa4 (0) ti47 rfl rfl rfl (At.g 0 rfl rfl) rfl (R2 (xa0 (c_RSame _ _) fi75 rfl) rfl rfl (R1 x4 rfl ?_)))))
 refine RGcase (t := 10) rfl (fun h47 => ?_) (fun h47 => ?_)
 ·
  have hn : f.n = g.n := of_decide_eq_true h47
  refine RGon h47 rfl (x9 fo49_1 rfl) rfl ⟨rfl, trivial⟩ trivial trivial (xd2 h47 rfl rfl (0) ti47 rfl rfl rfl (At.g 1 rfl rfl) rfl (RGon h47 rfl (x9 fo49_1 rfl) rfl ⟨rfl, trivial⟩ trivial trivial (xd2 h47 rfl rfl (0) ti47 rfl rfl rfl (At.g 1 rfl rfl) rfl (RGon h47 rfl (xa0 (c_RSame _ _) fi75 rfl) rfl ⟨rfl, rfl, trivial⟩ trivial trivial (R2 (xb2 h47) rfl rfl (R1 x5 rfl (x7 (by kernel_rfl) ?_)))))))
  refine x3 (xa2 ?_)
  exact xa9 Plain.mk' rfl rfl (Le.bool (by obtain ⟨a, b⟩ := f; obtain ⟨c, d⟩ := g; simp only at hn; subst hn; simp))
 ·
  have hn : f.n ≠ g.n := of_decide_eq_false h47
  refine RGoff h47 rfl rfl (RGoff h47 rfl rfl (RGoff h47 rfl rfl (RGoff h47 rfl rfl (RGoff h47 rfl rfl (R2 (xc0 h47) rfl rfl (R1 x5 rfl (x7 (by kernel_rfl) ?_)))))))
  refine x3 (xa2 ?_)
  exact xa9 Plain.mk' rfl rfl (Le.bool (decide_eq_false (fun h => hn (by rw [h]))).symm)
theorem take_succ_getZ (l : List Int) (k : Nat) (hk : k < l.length) : l.take (k + 1) = l.take k ++ [l.getD k 0] := by
  rw [List.take_succ_eq_append_getElem hk, List.getD_eq_getElem?_getD, List.getElem?_eq_getElem hk]; rfl
/-- A list that is too large. -/
def largeL (l : List Deal) (m k : Int) : Bool := (List.range l.length).any fun i => decide (m ≤ (i : Int)) || decide (k < ((l.getD i deal0).share.n.l.length : Int)) || decide (k < ((l.getD i deal0).share.d.l.length : Int))
theorem any_next {i : Nat} {f : Nat → Bool} : (List.range (i + 1)).any f = ((List.range i).any f || f i) := by
  rw [List.range_succ, List.any_append]; simp
theorem any_stop {n i : Nat} {f : Nat → Bool} (hi : i < n) (h : f i = true) : (List.range n).any f = true := List.any_eq_true.2 ⟨i, List.mem_range.2 hi, h⟩
theorem c_SameInts (xs ys : List Int) :
  Ct Tryz.prog 13 [tIs xs, tIs ys] (tB (decide (xs = ys))) := by
 refine Ct.intro Tryz.func13 rfl Tryz.ntmps13 rfl ?_
 intro w F
 refine C_len (s := 0) rfl (fun hl0 => ?_)
 refine x6 ?_
 refine x8 ?_
 refine R1 x5 rfl (x7 (by kernel_rfl) (x3 (x6 (x6 ?_))))
 refine x8 ?_
 refine R1 x4 rfl (R1 (xb7 Tryz.underlying23) rfl (R1 x4 rfl (R1 (xb7 Tryz.underlying23) rfl (R2 xg8 rfl rfl (x7 (by kernel_rfl) (x3 ?_))))))
 refine xc5 rfl (fun h27 => ?_) (fun h27 => ?_)
 ·
  refine x6 ?_
  refine x8 ?_
  refine R1 x5 rfl (x7 (by kernel_rfl) (x3 (xa2 (xa3 ?_))))
  exact xa9 Plain.mk' rfl rfl (Le.bool (decide_eq_false (fun h => by rw [h] at h27; omega)).symm)
 ·
  have hll : xs.length = ys.length := by omega
  refine xa5 (x3 (x6 (x6 ?_)))
  refine x8 ?_
  refine R1 x5 rfl (x7 (by kernel_rfl) (x3 (xb3 ?_)))
  refine xe0 (fun (i : Nat) => i ≤ xs.length ∧ xs.take i = ys.take i) (fun (i : Nat) => upd (upd (upd (fun _ => none) 0 (some (.val (tIs xs)))) 1 (some (.val (tIs ys)))) 5 (some (.val (tI i)))) (fun (i : Nat) => fun _ => none) (nm []) (fun (i : Nat) => xs.length - i) (0) ⟨Nat.zero_le _, rfl⟩ (Sub.int rfl (by first | omega | rfl | (dsimp only; omega)) (Sub.cons rfl (Sub.cons rfl Sub.nil))) SubK.nil (SupG.val (SupG.val (SupG.val SupG.nil))) SupH.nil (lkOk rfl) ?_
  intro i hI
  obtain ⟨hi, ht⟩ := hI
  refine x6 (x6 ?_)
  refine x8 ?_
  refine R1 x4 rfl (R1 x4 rfl (R1 (xb7 Tryz.underlying23) rfl (R2 xd7 rfl rfl (x7 (by kernel_rfl) (x3 ?_)))))
  refine xc5 rfl (fun h30 => ?_) (fun h30 => ?_)
  ·
   refine xa5 (x3 (x6 (xb3 (x6 ?_))))
   refine xc9 mixed ?_
   refine R1 x4 rfl (R1 x4 rfl (R2 (xb6 sl23 (i) (by omega) (gZ (by omega))) rfl rfl (R1 (xb8 ti3) rfl (R1 x4 rfl (R1 x4 rfl (R2 (xb6 sl23 (i) (by omega) (gZ (by omega))) rfl rfl (R1 (xb8 ti3) rfl ?_)))))))
   refine R2 xg8 rfl rfl (xd1 (by kernel_rfl) (x3 ?_))
   refine xc5 rfl (fun h31 => ?_) (fun h31 => ?_)
   ·
    refine x6 ?_
    refine x8 ?_
    refine R1 x5 rfl (x7 (by kernel_rfl) (x3 (xa2 (xc7 (xa3 (xa3 (xc7 ?_)))))))
    refine xa3 ?_
    exact xa9 Plain.mk' rfl rfl (Le.bool (decide_eq_false (fun h => by rw [h] at h31; omega)).symm)
   ·
    refine xa5 (xc8 (x3 ?_))
    refine x8 ?_
    refine R1 x4 rfl (R2 (xc2 (wr64 (by omega) (by omega))) rfl rfl (R1 x5 rfl (x7 (by kernel_rfl) ?_)))
    exact xc6 (i + 1) ⟨⟨by omega, by rw [take_succ_getZ xs i (by omega), take_succ_getZ ys i (by omega), ht, show xs.getD i 0 = ys.getD i 0 by omega]⟩, (by omega)⟩ (Sub.int rfl (by first | omega | rfl | (dsimp only; omega)) (Sub.cons rfl (Sub.cons rfl Sub.nil))) SubK.nil (SupG.val (SupG.val (SupG.val SupG.nil))) SupH.nil (lkOk rfl)
  ·
   refine xd8 (xc1 (xc1 (xe3 (x3 (x6 ?_)))))
   refine x8 ?_
   refine R1 x5 rfl (x7 (by kernel_rfl) (x3 (xa2 ?_)))
   exact xa9 Plain.mk' rfl rfl (Le.bool (decide_eq_true (by rw [show i = xs.length by omega, List.take_length, hll, List.take_length] at ht; exact ht)).symm)
theorem c_large24 (l : List Deal) (m k : Int) :
  Ct Tryz.prog 6 [tL 7 true tDeal l, tI m, tI k] (tB (largeL l m k)) := by
 refine Ct.intro Tryz.func6 rfl Tryz.ntmps6 rfl ?_
 intro w F
 refine C_len (s := 0) rfl (fun hl0 => ?_)
 refine x6 ?_
 refine x8 ?_
 refine R1 x5 rfl (x7 (by kernel_rfl) (x3 (x6 (x6 ?_))))
 refine x8 ?_
 refine R1 x5 rfl (x7 (by kernel_rfl) (x3 (xb3 ?_)))
 refine xe0 (fun (i : Nat) => i ≤ l.length ∧ (List.range i).any (fun i => decide (m ≤ (i : Int)) || decide (k < ((l.getD i deal0).share.n.l.length : Int)) || decide (k < ((l.getD i deal0).share.d.l.length : Int))) = false) (fun (i : Nat) => upd (upd (upd (upd (fun _ => none) 0 (some (.val (tL 7 true tDeal l)))) 1 (some (.val (tI m)))) 2 (some (.val (tI k)))) 7 (some (.val (tI i)))) (fun (i : Nat) => fun _ => none) (nm []) (fun (i : Nat) => l.length - i) (0) ⟨Nat.zero_le _, rfl⟩ (Sub.int rfl (by first | omega | rfl | (dsimp only; omega)) (Sub.int rfl (by first | omega | rfl | (dsimp only; omega)) (Sub.int rfl (by first | omega | rfl | (dsimp only; omega)) (Sub.cons rfl Sub.nil)))) SubK.nil (SupG.val (SupG.val (SupG.val (SupG.val SupG.nil)))) SupH.nil (lkOk rfl) ?_
 intro i hI
 obtain ⟨hi, ha⟩ := hI
 refine x6 (x6 ?_)
 refine x8 ?_
 refine R1 x4 rfl (R1 x4 rfl (R1 (xb7 Tryz.underlying22) rfl (R2 xd7 rfl rfl (x7 (by kernel_rfl) (x3 ?_)))))
 refine xc5 rfl (fun h72 => ?_) (fun h72 => ?_)
 ·
  refine xa5 (x3 (x6 (xb3 (x6 ?_))))
  refine x8 ?_
  refine R1 x4 rfl (R1 x4 rfl (R2 d_geq rfl rfl (R1 x4 rfl ?_)))
  refine RGcaseD (t := 17) rfl (fun h73 => ?_) (fun h73 => ?_)
  ·
   refine RGoff (decide_eq_true h73) rfl rfl (RGoff (decide_eq_true h73) rfl rfl (RGoff (decide_eq_true h73) rfl rfl (RGoff (decide_eq_true h73) rfl rfl (RGoff (decide_eq_true h73) rfl rfl (RGoff (decide_eq_true h73) rfl rfl (RGoff (decide_eq_true h73) rfl rfl (RGoff (decide_eq_true h73) rfl rfl ?_)))))))
   refine RGoff (decide_eq_true h73) rfl rfl (RGoff (decide_eq_true h73) rfl rfl (R2 (xb2 (decide_eq_true h73)) rfl rfl (R1 x4 rfl (RGoff1 rfl rfl (RGoff1 rfl rfl (RGoff1 rfl rfl (RGoff1 rfl rfl ?_)))))))
   refine RGoff1 rfl rfl (RGoff1 rfl rfl (RGoff1 rfl rfl (RGoff1 rfl rfl (RGoff1 rfl rfl (RGoff1 rfl rfl (R2 (xb2 rfl) rfl rfl (x7 (by kernel_rfl) ?_)))))))
   refine x3 (C_bT rfl rfl (x6 ?_))
   refine x8 ?_
   refine R1 x5 rfl (x7 (by kernel_rfl) (x3 (xa2 (xc7 (xa3 (xa3 (xc7 ?_)))))))
   refine xa3 ?_
   exact xa9 Plain.mk' rfl rfl (Le.bool (any_stop (i := i) (by omega) (by simp only [decide_eq_true h73, Bool.true_or])).symm)
  ·
   refine RGon (decide_eq_false h73) rfl x4 rfl ⟨rfl, trivial⟩ trivial trivial (RGon (decide_eq_false h73) rfl x4 rfl ⟨rfl, trivial⟩ trivial trivial (RGon (decide_eq_false h73) rfl (xb6 sl22 i (by omega) (gD (l := l) (n := i) (d := deal0) (by omega))) rfl ⟨rfl, rfl, trivial⟩ trivial trivial (RGon (decide_eq_false h73) rfl (xh4 fo56_2 (At.g (fs := [⟨1, false, tI (l.getD i deal0).lo⟩, ⟨1, false, tI (l.getD i deal0).hi⟩, ⟨4, true, tFr (l.getD i deal0).share⟩, ⟨1, false, tI (l.getD i deal0).acc⟩]) 2 rfl rfl) rfl) rfl ⟨rfl, trivial⟩ trivial trivial (RGon (decide_eq_false h73) rfl (xh4 fo49_0 (At.g (fs := [⟨2, true, tWh (l.getD i deal0).share.n⟩, ⟨2, true, tWh (l.getD i deal0).share.d⟩]) 0 rfl rfl) rfl) rfl ⟨rfl, trivial⟩ trivial trivial (RGon (decide_eq_false h73) rfl (xh4 fo47_1 (At.g (fs := [⟨1, false, tB (l.getD i deal0).share.n.neg⟩, ⟨1, false, tLm (l.getD i deal0).share.n.l⟩]) 1 rfl rfl) rfl) rfl ⟨rfl, trivial⟩ trivial trivial (RGon (decide_eq_false h73) rfl (xb8 ti45) rfl ⟨rfl, trivial⟩ trivial trivial (RGon (decide_eq_false h73) rfl (xb7 Tryz.underlying45) rfl ⟨rfl, trivial⟩ trivial trivial ?_)))))))
   refine RGon (decide_eq_false h73) rfl x4 rfl ⟨rfl, trivial⟩ trivial trivial (RGon (decide_eq_false h73) rfl xf2 rfl ⟨rfl, rfl, trivial⟩ trivial trivial (R2 (xc0 (decide_eq_false h73)) rfl rfl (R1 x4 rfl ?_)))
   refine RGcaseD (t := 29) rfl (fun h73_2 => ?_) (fun h73_2 => ?_)
   ·
    refine RGoff (decide_eq_true h73_2) rfl rfl (RGoff (decide_eq_true h73_2) rfl rfl (RGoff (decide_eq_true h73_2) rfl rfl (RGoff (decide_eq_true h73_2) rfl rfl (RGoff (decide_eq_true h73_2) rfl rfl (RGoff (decide_eq_true h73_2) rfl rfl (RGoff (decide_eq_true h73_2) rfl rfl (RGoff (decide_eq_true h73_2) rfl rfl ?_)))))))
    refine RGoff (decide_eq_true h73_2) rfl rfl (RGoff (decide_eq_true h73_2) rfl rfl (R2 (xb2 (decide_eq_true h73_2)) rfl rfl (x7 (by kernel_rfl) (x3 (C_bT rfl rfl (x6 ?_))))))
    refine x8 ?_
    refine R1 x5 rfl (x7 (by kernel_rfl) (x3 (xa2 (xc7 (xa3 (xa3 (xc7 ?_)))))))
    refine xa3 ?_
    exact xa9 Plain.mk' rfl rfl (Le.bool (any_stop (i := i) (by omega) (by simp only [decide_eq_true h73_2, Bool.or_true, Bool.true_or])).symm)
   ·
    refine RGon (decide_eq_false h73_2) rfl x4 rfl ⟨rfl, trivial⟩ trivial trivial (RGon (decide_eq_false h73_2) rfl x4 rfl ⟨rfl, trivial⟩ trivial trivial (RGon (decide_eq_false h73_2) rfl (xb6 sl22 i (by omega) (gD (l := l) (n := i) (d := deal0) (by omega))) rfl ⟨rfl, rfl, trivial⟩ trivial trivial (RGon (decide_eq_false h73_2) rfl (xh4 fo56_2 (At.g (fs := [⟨1, false, tI (l.getD i deal0).lo⟩, ⟨1, false, tI (l.getD i deal0).hi⟩, ⟨4, true, tFr (l.getD i deal0).share⟩, ⟨1, false, tI (l.getD i deal0).acc⟩]) 2 rfl rfl) rfl) rfl ⟨rfl, trivial⟩ trivial trivial (RGon (decide_eq_false h73_2) rfl (xh4 fo49_1 (At.g (fs := [⟨2, true, tWh (l.getD i deal0).share.n⟩, ⟨2, true, tWh (l.getD i deal0).share.d⟩]) 1 rfl rfl) rfl) rfl ⟨rfl, trivial⟩ trivial trivial (RGon (decide_eq_false h73_2) rfl (xh4 fo47_1 (At.g (fs := [⟨1, false, tB (l.getD i deal0).share.d.neg⟩, ⟨1, false, tLm (l.getD i deal0).share.d.l⟩]) 1 rfl rfl) rfl) rfl ⟨rfl, trivial⟩ trivial trivial (RGon (decide_eq_false h73_2) rfl (xb8 ti45) rfl ⟨rfl, trivial⟩ trivial trivial (RGon (decide_eq_false h73_2) rfl (xb7 Tryz.underlying45) rfl ⟨rfl, trivial⟩ trivial trivial ?_)))))))
    refine RGon (decide_eq_false h73_2) rfl x4 rfl ⟨rfl, trivial⟩ trivial trivial (RGon (decide_eq_false h73_2) rfl xf2 rfl ⟨rfl, rfl, trivial⟩ trivial trivial (R2 (xc0 (decide_eq_false h73_2)) rfl rfl (x7 (by kernel_rfl) (x3 ?_))))
    refine xc5 rfl (fun h73_3 => ?_) (fun h73_3 => ?_)
    ·
     refine x6 ?_
     refine x8 ?_
     refine R1 x5 rfl (x7 (by kernel_rfl) (x3 (xa2 (xc7 (xa3 (xa3 (xc7 ?_)))))))
     refine xa3 ?_
     exact xa9 Plain.mk' rfl rfl (Le.bool (any_stop (i := i) (by omega) (by simp only [decide_eq_true h73_3, Bool.or_true])).symm)
    ·
     refine xa5 (xc8 (x3 ?_))
     refine x8 ?_
     refine R1 x4 rfl (R2 (xc2 (wr64 (by omega) (by omega))) rfl rfl (R1 x5 rfl (x7 (by kernel_rfl) ?_)))
     exact xc6 (i + 1) ⟨⟨by omega, by rw [any_next, ha, Bool.false_or, decide_eq_false h73, decide_eq_false h73_2, decide_eq_false h73_3]; rfl⟩, (by omega)⟩ (Sub.int rfl (by first | omega | rfl | (dsimp only; omega)) (Sub.int rfl (by first | omega | rfl | (dsimp only; omega)) (Sub.int rfl (by first | omega | rfl | (dsimp only; omega)) (Sub.cons rfl Sub.nil)))) SubK.nil (SupG.val (SupG.val (SupG.val (SupG.val SupG.nil)))) SupH.nil (lkOk rfl)
 ·
  refine xd8 (xc1 (xc1 (xe3 (x3 (x6 ?_)))))
  refine x8 ?_
  refine R1 x5 rfl (x7 (by kernel_rfl) (x3 (xa2 ?_)))
  exact xa9 Plain.mk' rfl rfl (Le.bool (by rw [largeL, ← show i = l.length by omega, ha]))
end An.S

/- Law 24: the examples of the chapter, deals. -/
namespace An.S
open Go Go.Proofs An
set_option maxHeartbeats 2000000
theorem sl64 : SlI Tryz.prog 64 23 1 false := ⟨Tryz.underlying64, ti23⟩
theorem fi8 : FnI Tryz.prog 8 := ⟨_, Tryz.func8, by kernel_rfl, rfl⟩
theorem fi11 : FnI Tryz.prog 11 := ⟨_, Tryz.func11, by kernel_rfl, rfl⟩
theorem fi13 : FnI Tryz.prog 13 := ⟨_, Tryz.func13, by kernel_rfl, rfl⟩
/-- One step behind the other, each with the parts that are wanted. -/
def stepsL (l : List Deal) (m : Int) : Int → List Int → List Int → List Int → List (List Int) → Bool
  | _, _, _, [], _ => true
  | o, b, p, a :: us, w => decide (stepE l o b p m a = 0) && decide (stepQ l o b p m a = w.headD []) && stepsL l m (stepO l o b p m a) (stepB l o b p m a) (stepP l o b p m a) us w.tail
theorem steps_end {l : List Deal} {m o : Int} {b p us : List Int} {w : List (List Int)} {i : Nat} (h : us.length ≤ i) : stepsL l m o b p (us.drop i) (w.drop i) = true := by
  rw [List.drop_eq_nil_of_le h, stepsL]
theorem steps_at {l : List Deal} {m o : Int} {b p us : List Int} {w : List (List Int)} {i : Nat} (h : i < us.length) (hw : i < w.length) : stepsL l m o b p (us.drop i) (w.drop i) =
    (decide (stepE l o b p m (us.getD i 0) = 0) && decide (stepQ l o b p m (us.getD i 0) = w.getD i []) && stepsL l m (stepO l o b p m (us.getD i 0)) (stepB l o b p m (us.getD i 0)) (stepP l o b p m (us.getD i 0)) (us.drop (i + 1)) (w.drop (i + 1))) := by
  rw [List.drop_eq_getElem_cons h, List.drop_eq_getElem_cons hw, stepsL]
  simp [h, hw]
theorem c_steps (l : List Deal) (m : Int) (us : List Int) (ws : List (List Int)) (hv : validL l = true) (hd : ∀ d ∈ l, d.share.dig) (hw : us.length ≤ ws.length) :
  Ct Tryz.prog 26 [tL 7 true tDeal l, tI m, tIs us, tL 1 false (fun x : List Int => tIs x) ws] (tB (stepsL l m 0 (List.replicate l.length (0 : Int)) (List.replicate l.length (0 : Int)) us ws)) := by
 refine Ct.intro Tryz.func26 rfl Tryz.ntmps26 rfl ?_
 intro w F
 refine C_len (s := 2) rfl (fun hl0 => ?_)
 refine x6 ?_
 refine x8 ?_
 refine R1 x5 rfl (x7 (by kernel_rfl) (x3 (x6 ?_)))
 refine x8 ?_
 refine R1 x4 rfl (R1 (xa0 (c_SNew l hd) fi8 rfl) rfl (R1 x4 rfl (R1 (xa8 rfl) rfl (R1 (xa8 rfl) rfl (RE (xc4 (k := 9) (n := 3) (agg := true) zr27.1 zr27.2 rfl) trivial trivial ⟨rfl, trivial⟩ (RE (xa6 (es := 3) (agg := true) (0) ti27 rfl rfl rfl) ⟨rfl, rfl, trivial⟩ ⟨rfl, trivial⟩ trivial (R1 x5 rfl ?_)))))))
 refine x7 (by kernel_rfl) (x3 (x6 (x6 ?_)))
 refine x8 ?_
 refine R1 x5 rfl (x7 (by kernel_rfl) (x3 (xb3 ?_)))
 refine xe0 (fun (fm : (Nat) × (Int) × (List Int) × (List Int)) => (fun (i : Nat) (o : Int) (b : List Int) (p : List Int) => i ≤ us.length ∧ stepsL l m o b p (us.drop i) (ws.drop i) = stepsL l m 0 (List.replicate l.length (0 : Int)) (List.replicate l.length (0 : Int)) us ws) fm.1 fm.2.1 fm.2.2.1 fm.2.2.2) (fun (fm : (Nat) × (Int) × (List Int) × (List Int)) => (fun (i : Nat) (o : Int) (b : List Int) (p : List Int) => upd (upd (upd (upd (upd (upd (upd (fun _ => none) 0 (some (.val (tL 7 true tDeal l)))) 1 (some (.val (tI m)))) 2 (some (.val (tIs us)))) 3 (some (.val (tL 1 false (fun x : List Int => tIs x) ws)))) 9 (some (.own (.ptr 9 0)))) 10 (some (.val (tI 0)))) 11 (some (.val (tI i)))) fm.1 fm.2.1 fm.2.2.1 fm.2.2.2) (fun (fm : (Nat) × (Int) × (List Int) × (List Int)) => (fun (i : Nat) (o : Int) (b : List Int) (p : List Int) => upd (fun _ => none) 9 (some (⟨27, 3, true, [.val (tState o b p)]⟩))) fm.1 fm.2.1 fm.2.2.1 fm.2.2.2) (nm [9]) (fun (fm : (Nat) × (Int) × (List Int) × (List Int)) => (fun (i : Nat) (o : Int) (b : List Int) (p : List Int) => us.length - i) fm.1 fm.2.1 fm.2.2.1 fm.2.2.2) ((0, 0, (List.replicate l.length (0 : Int)), (List.replicate l.length (0 : Int)))) (by dsimp only; exact ⟨Nat.zero_le _, rfl⟩) (Sub.int rfl (by first | omega | rfl | (dsimp only; omega)) (Sub.int rfl (by rw [hv]; rfl) (Sub.cons rfl (Sub.cons rfl (Sub.cons rfl (Sub.int rfl (by first | omega | rfl | (dsimp only; omega)) (Sub.cons rfl Sub.nil))))))) (SubK.cons (by rw [hv]; rfl) SubK.nil) (SupG.val (SupG.val (SupG.own rfl (SupG.val (SupG.val (SupG.val (SupG.val SupG.nil))))))) (SupH.cons rfl (supJL rfl) SupH.nil) (lkOk rfl) ?_
 intro fm hI
 obtain ⟨i, o, b, p⟩ := fm
 replace hI : i ≤ us.length ∧ stepsL l m o b p (us.drop i) (ws.drop i) = stepsL l m 0 (List.replicate l.length (0 : Int)) (List.replicate l.length (0 : Int)) us ws := hI
 show wc _ _ _ _ (upd (upd (upd (upd (upd (upd (upd (fun _ => none) 0 (some (.val (tL 7 true tDeal l)))) 1 (some (.val (tI m)))) 2 (some (.val (tIs us)))) 3 (some (.val (tL 1 false (fun x : List Int => tIs x) ws)))) 9 (some (.own (.ptr 9 0)))) 10 (some (.val (tI 0)))) 11 (some (.val (tI i)))) (upd (fun _ => none) 9 (some (⟨27, 3, true, [.val (tState o b p)]⟩))) _
 obtain ⟨hi, hT⟩ := hI
 refine x6 (x6 ?_)
 refine x8 ?_
 refine R1 x4 rfl (R1 x4 rfl (R1 (xb7 Tryz.underlying23) rfl (R2 xd7 rfl rfl (x7 (by kernel_rfl) (x3 ?_)))))
 refine xc5 rfl (fun h24 => ?_) (fun h24 => ?_)
 ·
  refine xa5 (x3 (x6 (xb3 (x6 ?_))))
  refine xc9 mixed ?_
  refine R1 x4 rfl (RE (xa7 (0) ti27 rfl rfl) ⟨rfl, trivial⟩ ⟨rfl, trivial⟩ trivial (R1 x4 rfl (R1 x4 rfl (R1 x4 rfl (R2 (xb6 sl23 (i) (by omega) (gZ (by omega))) rfl rfl (R1 (xb8 ti3) rfl (RE (xa0 (c_Step l o b p m _ hd) fi11 rfl) ⟨rfl, rfl, rfl, rfl, trivial⟩ trivial trivial ?_)))))))
  refine R1 x4 rfl (R1 (xa8 rfl) rfl (R1 (xa8 rfl) rfl (R1 (xa8 rfl) rfl (RE (xc4 (k := 12) (n := 3) (agg := true) zr27.1 zr27.2 rfl) trivial trivial ⟨rfl, trivial⟩ (RE (xa6 (es := 3) (agg := true) (0) ti27 rfl rfl rfl) ⟨rfl, rfl, trivial⟩ ⟨rfl, trivial⟩ trivial (R1 x5 rfl (R1 x5 rfl ?_)))))))
  refine xd1 (by kernel_rfl) (x3 (x6 (x6 ?_)))
  refine x8 ?_
  refine R1 x4 rfl (R2 xg8 rfl rfl (R1 x4 rfl ?_))
  refine RGcaseD (t := 40) rfl (fun h26 => ?_) (fun h26 => ?_)
  ·
   exact absurd h26 (by omega)
  ·
   refine RGon (decide_eq_false h26) rfl x4 rfl ⟨rfl, trivial⟩ trivial trivial (RGon (decide_eq_false h26) rfl xg8 rfl ⟨rfl, rfl, trivial⟩ trivial trivial (R2 (xc0 (decide_eq_false h26)) rfl rfl (R1 x4 rfl ?_)))
   refine RGcaseD (t := 44) rfl (fun h26_2 => ?_) (fun h26_2 => ?_)
   ·
    refine RGoff (decide_eq_true h26_2) rfl rfl (RGoff (decide_eq_true h26_2) rfl rfl (RGoff (decide_eq_true h26_2) rfl rfl (RGoff (decide_eq_true h26_2) rfl rfl (RGoff (decide_eq_true h26_2) rfl rfl (RGoff (decide_eq_true h26_2) rfl rfl (RGoff (decide_eq_true h26_2) rfl rfl (R2 (xb2 (decide_eq_true h26_2)) rfl rfl ?_)))))))
    refine x7 (by kernel_rfl) (x3 (C_bT rfl rfl (x6 ?_)))
    refine x8 ?_
    refine R1 x5 rfl (x7 (by kernel_rfl) (x3 (xa2 (xa3 (xc7 (xa3 (xa3 ?_)))))))
    refine xc7 (xa3 ?_)
    exact xa9 Plain.mk' rfl rfl (Le.bool (by rw [← hT, steps_at (by omega) (by omega), decide_eq_false h26_2]; rfl))
   ·
    have hE : stepE l o b p m (us.getD i 0) = 0 := by omega
    refine RGon (decide_eq_false h26_2) rfl x4 rfl ⟨rfl, trivial⟩ trivial trivial (RGon (decide_eq_false h26_2) rfl x4 rfl ⟨rfl, trivial⟩ trivial trivial (RGon (decide_eq_false h26_2) rfl x4 rfl ⟨rfl, trivial⟩ trivial trivial (RGon (decide_eq_false h26_2) rfl (xb6 sl64 i (by omega) (gD (d := []) (by omega))) rfl ⟨rfl, rfl, trivial⟩ trivial trivial (RGon (decide_eq_false h26_2) rfl (xb8 ti23) rfl ⟨rfl, trivial⟩ trivial trivial (RGon (decide_eq_false h26_2) rfl (xa0 (c_SameInts _ _) fi13 rfl) rfl ⟨rfl, rfl, trivial⟩ trivial trivial (RGon (decide_eq_false h26_2) rfl xe2 rfl ⟨rfl, trivial⟩ trivial trivial (R2 (xc0 (decide_eq_false h26_2)) rfl rfl ?_)))))))
    refine x7 (by kernel_rfl) (x3 ?_)
    refine C_ifn rfl (fun h26_3 => ?_) (fun h26_3 => ?_)
    ·
     refine x6 ?_
     refine x8 ?_
     refine R1 x5 rfl (x7 (by kernel_rfl) (x3 (xa2 (xa3 (xc7 (xa3 (xa3 ?_)))))))
     refine xc7 (xa3 ?_)
     exact xa9 Plain.mk' rfl rfl (Le.bool (by rw [← hT, steps_at (by omega) (by omega), decide_eq_false h26_3, Bool.and_false, Bool.false_and]))
    ·
     refine xa5 (x3 ?_)
     refine x8 ?_
     refine RE (xa7 (0) ti27 rfl rfl) ⟨rfl, trivial⟩ ⟨rfl, trivial⟩ trivial (RE (xa6 (es := 3) (agg := true) (0) ti27 rfl rfl rfl) ⟨rfl, rfl, trivial⟩ ⟨rfl, trivial⟩ trivial (x7 (by kernel_rfl) (xc8 (x3 ?_))))
     refine x8 ?_
     refine R1 x4 rfl (R2 (xc2 (wr64 (by omega) (by omega))) rfl rfl (R1 x5 rfl (x7 (by kernel_rfl) ?_)))
     have hT2 := steps_at (l := l) (m := m) (o := o) (b := b) (p := p) (us := us) (w := ws) (i := i) (by omega) (by omega)
     rw [hT, decide_eq_true hE, decide_eq_true h26_3, Bool.true_and, Bool.true_and] at hT2
     exact xc6 ((i + 1, stepO l o b p m (us.getD i 0), stepB l o b p m (us.getD i 0), stepP l o b p m (us.getD i 0))) ⟨(by dsimp only; exact ⟨by omega, hT2.symm⟩), (by dsimp only; omega)⟩ (Sub.int rfl (by first | omega | rfl | (dsimp only; omega)) (Sub.int rfl (by first | omega | rfl | (dsimp only; omega)) (Sub.cons rfl (Sub.cons rfl (Sub.cons rfl (Sub.int rfl (by first | omega | rfl | (dsimp only; omega)) (Sub.cons rfl Sub.nil))))))) (SubK.cons rfl SubK.nil) (SupG.val (SupG.val (SupG.own rfl (SupG.val (SupG.val (SupG.val (SupG.val SupG.nil))))))) (SupH.cons rfl (supJL rfl) SupH.nil) (lkOk rfl)
 ·
  refine xd8 (xc1 (xc1 (xe3 (x3 (x6 ?_)))))
  refine x8 ?_
  refine R1 x5 rfl (x7 (by kernel_rfl) (x3 (xa2 ?_)))
  exact xa9 Plain.mk' rfl rfl (Le.bool (by rw [← hT, steps_end (by omega)]))
end An.S

/- Law 24: the lists of the examples. -/
namespace An.S
open Go Go.Proofs An
set_option maxHeartbeats 2000000
theorem fi25 : FnI Tryz.prog 25 := ⟨_, Tryz.func25, by kernel_rfl, rfl⟩
theorem el56 : ElI Tryz.prog 56 7 88 true (.agg #[.int .i64 0, .int .i64 0, .bool false, .slice none 0 0, .bool false, .slice none 0 0, .int .i64 0]) := ⟨ti56, by kernel_rfl, by kernel_rfl⟩
theorem bu56 : BuI Tryz.prog 56 (fun i => [(0, 1), (1, 1), (2, 4), (6, 1)][i]?) (.agg #[.int .i64 0, .int .i64 0, .bool false, .slice none 0 0, .bool false, .slice none 0 0, .int .i64 0]) := BuI.struct Tryz.underlying56 (by kernel_rfl) (by kernel_rfl)
theorem zf56 : Flat 7 true (.agg #[.int .i64 0, .int .i64 0, .bool false, .slice none 0 0, .bool false, .slice none 0 0, .int .i64 0]) := flat_agg (by intro u hu; simp at hu; rcases hu with rfl | rfl | rfl | rfl | rfl | rfl | rfl <;> rfl)
def deal3 : Deal := ⟨0, 12, fr (Rat.divInt 1 3), 7⟩
def dealA : Deal := ⟨0, 9, fr (Rat.divInt 1 2), 3⟩
def dealB : Deal := ⟨0, 9, fr (Rat.divInt 1 2), 1⟩
theorem c_third  :
  Ct Tryz.prog 27 [] (tL 7 true tDeal [deal3]) := by
 refine Ct.intro Tryz.func27 rfl Tryz.ntmps27 rfl ?_
 intro w F
 refine x6 ?_
 refine x8 ?_
 refine R1 x5 rfl (x7 (by kernel_rfl) (x3 (x6 ?_)))
 refine x8 ?_
 refine R2 (xa0 (c_RQuick 1 3 (by decide) (by decide) (by decide) (by decide) (by decide)) fi25 rfl) rfl rfl (RE (xd9 (r := tS [⟨1, false, tI 0⟩, ⟨1, false, tI 12⟩, ⟨4, true, tFr (fr (Rat.divInt 1 3))⟩, ⟨1, false, tI 7⟩]) (ts := [(0, tI 0), (1, tI 12), (2, tFr (fr (Rat.divInt 1 3))), (3, tI 7)]) bu56 zr56.2 ⟨_, rfl⟩ rfl ⟨_, _, _, _, rfl, Up.f (fs := [⟨1, false, (tE (.int .i64 0))⟩, ⟨1, false, (tE (.int .i64 0))⟩, ⟨4, true, (tS [⟨2, true, (tS [⟨1, false, (tE (.bool false))⟩, ⟨1, false, (tLm [])⟩])⟩, ⟨2, true, (tS [⟨1, false, (tE (.bool false))⟩, ⟨1, false, (tLm [])⟩])⟩])⟩, ⟨1, false, (tE (.int .i64 0))⟩]) (f := ⟨1, false, (tE (.int .i64 0))⟩) (fs' := [⟨1, false, tI 0⟩, ⟨1, false, (tE (.int .i64 0))⟩, ⟨4, true, (tS [⟨2, true, (tS [⟨1, false, (tE (.bool false))⟩, ⟨1, false, (tLm [])⟩])⟩, ⟨2, true, (tS [⟨1, false, (tE (.bool false))⟩, ⟨1, false, (tLm [])⟩])⟩])⟩, ⟨1, false, (tE (.int .i64 0))⟩]) 0 rfl rfl rfl, inferInstance, ⟨_, _, _, _, rfl, Up.f (fs := [⟨1, false, tI 0⟩, ⟨1, false, (tE (.int .i64 0))⟩, ⟨4, true, (tS [⟨2, true, (tS [⟨1, false, (tE (.bool false))⟩, ⟨1, false, (tLm [])⟩])⟩, ⟨2, true, (tS [⟨1, false, (tE (.bool false))⟩, ⟨1, false, (tLm [])⟩])⟩])⟩, ⟨1, false, (tE (.int .i64 0))⟩]) (f := ⟨1, false, (tE (.int .i64 0))⟩) (fs' := [⟨1, false, tI 0⟩, ⟨1, false, tI 12⟩, ⟨4, true, (tS [⟨2, true, (tS [⟨1, false, (tE (.bool false))⟩, ⟨1, false, (tLm [])⟩])⟩, ⟨2, true, (tS [⟨1, false, (tE (.bool false))⟩, ⟨1, false, (tLm [])⟩])⟩])⟩, ⟨1, false, (tE (.int .i64 0))⟩]) 1 rfl rfl rfl, inferInstance, ⟨_, _, _, _, rfl, Up.f (fs := [⟨1, false, tI 0⟩, ⟨1, false, tI 12⟩, ⟨4, true, (tS [⟨2, true, (tS [⟨1, false, (tE (.bool false))⟩, ⟨1, false, (tLm [])⟩])⟩, ⟨2, true, (tS [⟨1, false, (tE (.bool false))⟩, ⟨1, false, (tLm [])⟩])⟩])⟩, ⟨1, false, (tE (.int .i64 0))⟩]) (f := ⟨4, true, (tS [⟨2, true, (tS [⟨1, false, (tE (.bool false))⟩, ⟨1, false, (tLm [])⟩])⟩, ⟨2, true, (tS [⟨1, false, (tE (.bool false))⟩, ⟨1, false, (tLm [])⟩])⟩])⟩) (fs' := [⟨1, false, tI 0⟩, ⟨1, false, tI 12⟩, ⟨4, true, tFr (fr (Rat.divInt 1 3))⟩, ⟨1, false, (tE (.int .i64 0))⟩]) 2 rfl rfl rfl, inferInstance, ⟨_, _, _, _, rfl, Up.f (fs := [⟨1, false, tI 0⟩, ⟨1, false, tI 12⟩, ⟨4, true, tFr (fr (Rat.divInt 1 3))⟩, ⟨1, false, (tE (.int .i64 0))⟩]) (f := ⟨1, false, (tE (.int .i64 0))⟩) (fs' := [⟨1, false, tI 0⟩, ⟨1, false, tI 12⟩, ⟨4, true, tFr (fr (Rat.divInt 1 3))⟩, ⟨1, false, tI 7⟩]) 3 rfl rfl rfl, inferInstance, Le.refl⟩⟩⟩⟩) ⟨rfl, rfl, rfl, rfl, trivial⟩ trivial trivial (R1 (xf3 (n := 1) (f := tDeal) [deal3] Tryz.underlying22 el56 zf56 rfl (fun _ => inferInstance) rfl rfl rfl) rfl (R1 x5 rfl (x7 (by kernel_rfl) (x3 (xa2 ?_))))))
 exact xa9 Plain.mk' rfl rfl Le.refl
theorem c_halves  :
  Ct Tryz.prog 23 [] (tL 7 true tDeal [dealA, dealB]) := by
 refine Ct.intro Tryz.func23 rfl Tryz.ntmps23 rfl ?_
 intro w F
 refine x6 ?_
 refine x8 ?_
 refine R1 x5 rfl (x7 (by kernel_rfl) (x3 (x6 ?_)))
 refine x8 ?_
 refine R2 (xa0 (c_RQuick 1 2 (by decide) (by decide) (by decide) (by decide) (by decide)) fi25 rfl) rfl rfl (R3 (xd9 (r := tS [⟨1, false, (tE (.int .i64 0))⟩, ⟨1, false, tI 9⟩, ⟨4, true, tFr (fr (Rat.divInt 1 2))⟩, ⟨1, false, tI 3⟩]) (ts := [(1, tI 9), (2, tFr (fr (Rat.divInt 1 2))), (3, tI 3)]) bu56 zr56.2 ⟨_, rfl⟩ rfl ⟨_, _, _, _, rfl, Up.f (fs := [⟨1, false, (tE (.int .i64 0))⟩, ⟨1, false, (tE (.int .i64 0))⟩, ⟨4, true, (tS [⟨2, true, (tS [⟨1, false, (tE (.bool false))⟩, ⟨1, false, (tLm [])⟩])⟩, ⟨2, true, (tS [⟨1, false, (tE (.bool false))⟩, ⟨1, false, (tLm [])⟩])⟩])⟩, ⟨1, false, (tE (.int .i64 0))⟩]) (f := ⟨1, false, (tE (.int .i64 0))⟩) (fs' := [⟨1, false, (tE (.int .i64 0))⟩, ⟨1, false, tI 9⟩, ⟨4, true, (tS [⟨2, true, (tS [⟨1, false, (tE (.bool false))⟩, ⟨1, false, (tLm [])⟩])⟩, ⟨2, true, (tS [⟨1, false, (tE (.bool false))⟩, ⟨1, false, (tLm [])⟩])⟩])⟩, ⟨1, false, (tE (.int .i64 0))⟩]) 1 rfl rfl rfl, inferInstance, ⟨_, _, _, _, rfl, Up.f (fs := [⟨1, false, (tE (.int .i64 0))⟩, ⟨1, false, tI 9⟩, ⟨4, true, (tS [⟨2, true, (tS [⟨1, false, (tE (.bool false))⟩, ⟨1, false, (tLm [])⟩])⟩, ⟨2, true, (tS [⟨1, false, (tE (.bool false))⟩, ⟨1, false, (tLm [])⟩])⟩])⟩, ⟨1, false, (tE (.int .i64 0))⟩]) (f := ⟨4, true, (tS [⟨2, true, (tS [⟨1, false, (tE (.bool false))⟩, ⟨1, false, (tLm [])⟩])⟩, ⟨2, true, (tS [⟨1, false, (tE (.bool false))⟩, ⟨1, false, (tLm [])⟩])⟩])⟩) (fs' := [⟨1, false, (tE (.int .i64 0))⟩, ⟨1, false, tI 9⟩, ⟨4, true, tFr (fr (Rat.divInt 1 2))⟩, ⟨1, false, (tE (.int .i64 0))⟩]) 2 rfl rfl rfl, inferInstance, ⟨_, _, _, _, rfl, Up.f (fs := [⟨1, false, (tE (.int .i64 0))⟩, ⟨1, false, tI 9⟩, ⟨4, true, tFr (fr (Rat.divInt 1 2))⟩, ⟨1, false, (tE (.int .i64 0))⟩]) (f := ⟨1, false, (tE (.int .i64 0))⟩) (fs' := [⟨1, false, (tE (.int .i64 0))⟩, ⟨1, false, tI 9⟩, ⟨4, true, tFr (fr (Rat.divInt 1 2))⟩, ⟨1, false, tI 3⟩]) 3 rfl rfl rfl, inferInstance, Le.refl⟩⟩⟩) rfl rfl rfl (R2 (xa0 (c_RQuick 1 2 (by decide) (by decide) (by decide) (by decide) (by decide)) fi25 rfl) rfl rfl (R3 (xd9 (r := tS [⟨1, false, (tE (.int .i64 0))⟩, ⟨1, false, tI 9⟩, ⟨4, true, tFr (fr (Rat.divInt 1 2))⟩, ⟨1, false, tI 1⟩]) (ts := [(1, tI 9), (2, tFr (fr (Rat.divInt 1 2))), (3, tI 1)]) bu56 zr56.2 ⟨_, rfl⟩ rfl ⟨_, _, _, _, rfl, Up.f (fs := [⟨1, false, (tE (.int .i64 0))⟩, ⟨1, false, (tE (.int .i64 0))⟩, ⟨4, true, (tS [⟨2, true, (tS [⟨1, false, (tE (.bool false))⟩, ⟨1, false, (tLm [])⟩])⟩, ⟨2, true, (tS [⟨1, false, (tE (.bool false))⟩, ⟨1, false, (tLm [])⟩])⟩])⟩, ⟨1, false, (tE (.int .i64 0))⟩]) (f := ⟨1, false, (tE (.int .i64 0))⟩) (fs' := [⟨1, false, (tE (.int .i64 0))⟩, ⟨1, false, tI 9⟩, ⟨4, true, (tS [⟨2, true, (tS [⟨1, false, (tE (.bool false))⟩, ⟨1, false, (tLm [])⟩])⟩, ⟨2, true, (tS [⟨1, false, (tE (.bool false))⟩, ⟨1, false, (tLm [])⟩])⟩])⟩, ⟨1, false, (tE (.int .i64 0))⟩]) 1 rfl rfl rfl, inferInstance, ⟨_, _, _, _, rfl, Up.f (fs := [⟨1, false, (tE (.int .i64 0))⟩, ⟨1, false, tI 9⟩, ⟨4, true, (tS [⟨2, true, (tS [⟨1, false, (tE (.bool false))⟩, ⟨1, false, (tLm [])⟩])⟩, ⟨2, true, (tS [⟨1, false, (tE (.bool false))⟩, ⟨1, false, (tLm [])⟩])⟩])⟩, ⟨1, false, (tE (.int .i64 0))⟩]) (f := ⟨4, true, (tS [⟨2, true, (tS [⟨1, false, (tE (.bool false))⟩, ⟨1, false, (tLm [])⟩])⟩, ⟨2, true, (tS [⟨1, false, (tE (.bool false))⟩, ⟨1, false, (tLm [])⟩])⟩])⟩) (fs' := [⟨1, false, (tE (.int .i64 0))⟩, ⟨1, false, tI 9⟩, ⟨4, true, tFr (fr (Rat.divInt 1 2))⟩, ⟨1, false, (tE (.int .i64 0))⟩]) 2 rfl rfl rfl, inferInstance, ⟨_, _, _, _, rfl, Up.f (fs := [⟨1, false, (tE (.int .i64 0))⟩, ⟨1, false, tI 9⟩, ⟨4, true, tFr (fr (Rat.divInt 1 2))⟩, ⟨1, false, (tE (.int .i64 0))⟩]) (f := ⟨1, false, (tE (.int .i64 0))⟩) (fs' := [⟨1, false, (tE (.int .i64 0))⟩, ⟨1, false, tI 9⟩, ⟨4, true, tFr (fr (Rat.divInt 1 2))⟩, ⟨1, false, tI 1⟩]) 3 rfl rfl rfl, inferInstance, Le.refl⟩⟩⟩) rfl rfl rfl (R2 (xf3 (n := 2) (f := tDeal) [dealA, dealB] Tryz.underlying22 el56 zf56 rfl (fun _ => inferInstance) rfl rfl rfl) rfl rfl (R1 x5 rfl (x7 (by kernel_rfl) (x3 ?_)))))))
 refine xa2 ?_
 exact xa9 Plain.mk' rfl rfl Le.refl
end An.S

/- Layer 24: what a run of the divider keeps; dividing the negative leads back. Plain data. -/
namespace An
open Go
theorem gset_ne {l : List Int} {i j : Nat} {x : Int} (h : j ≠ i) : (l.set i x).getD j 0 = l.getD j 0 := by
  rw [List.getD_eq_getElem?_getD, List.getD_eq_getElem?_getD, List.getElem?_set_ne (fun e => h e.symm)]
theorem gset_same {l : List Int} {i : Nat} {x : Int} (h : i < l.length) : (l.set i x).getD i 0 = x := by
  rw [getD_set_int h, if_pos rfl]
theorem grep0 {n i : Nat} : (List.replicate n (0 : Int)).getD i 0 = 0 := by
  rw [List.getD_eq_getElem?_getD, List.getElem?_replicate]; split <;> rfl
/-- The rows are long enough for the deals. -/
structure Dv.fit (s : Dv) (n : Nat) : Prop where
  b : s.b.length = n
  p : s.p.length = n
  q : s.q.length = n + 1
theorem Dv.fit.next {l : List Deal} {s : Dv} {n i : Nat} (h : s.fit n) : (dv1 l s i).fit n := ⟨by simp [dv1, h.b], by simp [dv1, h.p], by simp [dv1, h.q]⟩
theorem run_fit {l : List Deal} {n : Nat} : ∀ (is : List Nat) (s : Dv), s.fit n → (dvRun l s is).1.fit n
  | [], s, h => h
  | i :: r, s, h => by
    rw [dvRun]
    split
    · exact run_fit r _ h.next
    · exact ⟨by simp [h.b], h.p, h.q⟩
/-- Deals that don't apply keep what they have. -/
theorem run_keep {l : List Deal} : ∀ (is : List Nat) (s : Dv) (j : Nat), j ∉ is → (dvRun l s is).1.b.getD j 0 = s.b.getD j 0 ∧ (dvRun l s is).1.p.getD j 0 = s.p.getD j 0 ∧ (dvRun l s is).1.q.getD (j + 1) 0 = s.q.getD (j + 1) 0
  | [], s, j, _ => ⟨rfl, rfl, rfl⟩
  | i :: r, s, j, h => by
    simp only [List.mem_cons, not_or] at h
    rw [dvRun]
    split
    · obtain ⟨h1, h2, h3⟩ := run_keep r (dv1 l s i) j h.2
      refine ⟨h1.trans ?_, h2.trans ?_, h3.trans ?_⟩
      · exact gset_ne h.1
      · exact gset_ne h.1
      · exact gset_ne (by omega)
    · exact ⟨gset_ne h.1, rfl, rfl⟩
/-- Each deal has got its share of its base. -/
def Dv.ok (l : List Deal) (s : Dv) (n : Nat) : Prop := ∀ j, j < n → wIn (s.b.getD j 0) = true ∧ s.p.getD j 0 = take (shr l j) (s.b.getD j 0)
theorem Dv.ok.next {l : List Deal} {s : Dv} {n i : Nat} (h : s.ok l n) (hf : s.fit n) (hi : i < n) (hw : wIn (s.n i) = true) : (dv1 l s i).ok l n := fun j hj => by
  have := hf.b; have := hf.p
  simp only [dv1]
  by_cases hji : j = i
  · subst hji
    rw [gset_same (by omega), gset_same (by omega)]
    exact ⟨hw, rfl⟩
  · rw [gset_ne hji, gset_ne hji]
    exact h j hj
theorem run_ok {l : List Deal} {n : Nat} : ∀ (is : List Nat) (s : Dv), (∀ i ∈ is, i < n) → s.fit n → s.ok l n → (dvRun l s is).2 = true → (dvRun l s is).1.ok l n
  | [], s, _, _, h, _ => h
  | i :: r, s, hi, hf, h, ht => by
    rw [dvRun] at ht ⊢
    split at ht
    · rename_i hw
      rw [if_pos hw]
      exact run_ok r _ (fun j hj => hi j (by simp [hj])) hf.next (h.next hf (hi i (by simp)) hw) ht
    · cases ht
theorem xh7 {l : List Deal} (s : Dv) (i : Nat) (r : List Nat) : dvRun l s (i :: r) = if wIn (s.n i) then dvRun l (dv1 l s i) r else (⟨s.b.set i (s.n i), s.p, s.q, s.r⟩, false) := by rw [dvRun]
theorem apl_nodup {l : List Deal} {m : Int} : (apl l m).Nodup := List.Pairwise.filter _ List.nodup_range
theorem apl_mem {l : List Deal} {m : Int} : ∀ i ∈ apl l m, i < l.length := fun _ hi => List.mem_range.1 (List.mem_filter.1 hi).1
theorem fit0 {l : List Deal} {b p : List Int} {a : Int} (hb : b.length = l.length) (hp : p.length = l.length) : (Dv.mk b p (List.replicate (l.length + 1) 0) a).fit l.length := ⟨hb, hp, by simp⟩
end An

/- Layer 24: the exact shares. Plain data. -/
namespace An
open Go
/-- The shares so far, and what is left. -/
structure Sh where
  q : List Fr
  r : Rat
def sh1 (l : List Deal) (s : Sh) (i : Nat) : Sh := ⟨s.q.set (i + 1) (fr (s.r * shr l i)), s.r - s.r * shr l i⟩
def shRun (l : List Deal) : Sh → List Nat → Sh
  | s, [] => s
  | s, i :: r => shRun l (sh1 l s i) r
/-- The shares' row while it is filled with zeros. -/
def sh0 (n i : Nat) : List Fr := List.replicate i (fr ((0 : Int) : Rat)) ++ List.replicate (n - i) fr0
theorem sh0_zero {n : Nat} : sh0 n 0 = List.replicate n fr0 := by simp [sh0]
theorem sh0_full {n : Nat} : sh0 n n = List.replicate n (fr ((0 : Int) : Rat)) := by simp [sh0]
theorem sh0_len {n i : Nat} (h : i ≤ n) : (sh0 n i).length = n := by simp [sh0]; omega
theorem sh0_set {n i : Nat} (h : i < n) : (sh0 n i).set i (fr ((0 : Int) : Rat)) = sh0 n (i + 1) := by
  apply List.ext_getElem?
  intro j
  rw [List.getElem?_set]
  simp only [sh0, List.getElem?_append, List.length_replicate, List.length_append, List.getElem?_replicate]
  repeat' split
  all_goals first | rfl | (exfalso; omega)
structure ShI (l : List Deal) (k : Nat) (s : Sh) : Prop where
  q : s.q.length = l.length + 1
  lo : 0 ≤ s.r
  hi : s.r ≤ 1
  den : len16 (s.r.den : Int) ≤ 4 * k + 1
theorem num_le_den {q : Rat} (h0 : 0 ≤ q) (h1 : q ≤ 1) : len16 q.num ≤ len16 (q.den : Int) := by
  have h2 : 0 ≤ q.num := Rat.num_nonneg.2 h0
  have h3 : q.num ≤ (q.den : Int) := by
    have := (Rat.le_iff q 1).1 h1
    simpa using this
  exact len16_le (by omega)
theorem one_sub_den (q : Rat) : len16 ((1 - q).den : Int) ≤ len16 (q.den : Int) := by
  have hd := q.den_nz
  have h := lowest_eq (n := (q.den : Int) - q.num) (d := (q.den : Int)) (by omega)
  have e : Rat.divInt ((q.den : Int) - q.num) (q.den : Int) = 1 - q := by
    rw [Rat.divInt_eq_div]
    have h2 : ((q.den : Int) : Rat) ≠ 0 := by
      intro h'; have := Rat.intCast_eq_zero_iff.1 h'; omega
    rw [Rat.intCast_sub]
    have h3 : (q.num : Rat) / ((q.den : Int) : Rat) = q := by
      rw [← Rat.divInt_eq_div, Rat.num_divInt_den]
    grind
  rw [e, fr] at h
  injection h with _ h2
  rw [wh_inj h2]
  exact len16_div (Nat.le_refl _)
/-- The parts of a valid share are short. -/
theorem shr_len {l : List Deal} {i : Nat} (hv : validL l = true) (hD : ∀ d ∈ l, d.share.dig) (hi : i < l.length) : len16 (shr l i).num ≤ 4 ∧ len16 ((shr l i).den : Int) ≤ 4 ∧ (l.getD i deal0).share = fr (shr l i) := by
  obtain ⟨_, _, _, v1, v2, v3, v4, v5, _⟩ := Deal.valid_iff.1 (validL_at hv hi)
  have e' : l.getD i deal0 = l[i] := by simp [hi]
  obtain ⟨e, _⟩ := Fr.of_valid' (by rw [e']; exact hD _ (List.getElem_mem hi)) v1
  rw [e] at v4 v5
  exact ⟨v4, v5, e⟩
theorem short_lt {q : Rat} (h1 : len16 q.num ≤ 256) (h2 : len16 (q.den : Int) ≤ 256) : short q := ⟨h1, h2⟩
section
variable {l : List Deal} {k : Nat} {s : Sh} {i : Nat}
theorem ShI.short (h : ShI l k s) (hk : k ≤ 16) : short s.r := by
  have := num_le_den h.lo h.hi
  have := h.den
  exact short_lt (by omega) (by omega)
theorem ShI.shortM (h : ShI l k s) (hk : k ≤ 16) (hv : validL l = true) (hD : ∀ d ∈ l, d.share.dig) (hi : i < l.length) : An.short (s.r * shr l i) := by
  have h1 := num_le_den h.lo h.hi
  have h2 := h.den
  obtain ⟨s1, s2, _⟩ := shr_len hv hD hi
  obtain ⟨m1, m2⟩ := len_mul_parts (Nat.le_trans h1 h2) s1 h2 s2
  exact short_lt (by omega) (by omega)
theorem ShI.next (h : ShI l k s) (hv : validL l = true) (hD : ∀ d ∈ l, d.share.dig) (hi : i < l.length) : ShI l (k + 1) (sh1 l s i) := by
  obtain ⟨s1, s2, _⟩ := shr_len hv hD hi
  obtain ⟨q0, q1⟩ := shr_bd hv hD hi
  have e : s.r - s.r * shr l i = s.r * (1 - shr l i) := by grind
  have h0 : 0 ≤ 1 - shr l i := by grind
  have h1 : 1 - shr l i ≤ 1 := by grind
  have lo := Rat.mul_nonneg h.lo h0
  have hi' : s.r * (1 - shr l i) ≤ 1 := by
    have := Rat.mul_le_mul_of_nonneg_right h.hi h0
    grind
  refine ⟨by simp [sh1, h.q], by simp only [sh1]; rw [e]; exact lo, by simp only [sh1]; rw [e]; exact hi', ?_⟩
  simp only [sh1]
  rw [e]
  have hn := num_le_den h.lo h.hi
  have hn2 := num_le_den h0 h1
  have hd := one_sub_den (shr l i)
  have := (len_mul_parts (Nat.le_trans hn h.den) (Nat.le_trans hn2 (Nat.le_trans hd s2)) h.den (Nat.le_trans hd s2)).2
  omega
theorem shI0 {l : List Deal} : ShI l 0 ⟨List.replicate (l.length + 1) (fr ((0 : Int) : Rat)), ((1 : Int) : Rat)⟩ := by
  refine ⟨by simp, (by decide +kernel : (0 : Rat) ≤ ((1 : Int) : Rat)), (by decide +kernel : ((1 : Int) : Rat) ≤ 1), ?_⟩
  show len16 ((((1 : Int) : Rat).den : Nat) : Int) ≤ 1
  rw [Rat.den_intCast]
  show (wh 1).l.length ≤ 1
  rw [wh_one]; decide
end
theorem sh_next {l : List Deal} {s : Sh} {is : List Nat} {k : Nat} {X : Sh} (hk : k < is.length) (h : shRun l s (is.drop k) = X) : shRun l (sh1 l s (is.getD k 0)) (is.drop (k + 1)) = X := by
  rw [drop_at hk, shRun] at h; exact h
theorem sh_end {l : List Deal} {s : Sh} {is : List Nat} {X : Sh} (h : shRun l s (is.drop is.length) = X) : X = s := by
  rw [List.drop_length, shRun] at h; exact h.symm
def shAll (l : List Deal) (m : Int) : Sh := shRun l ⟨List.replicate (l.length + 1) (fr ((0 : Int) : Rat)), ((1 : Int) : Rat)⟩ (apl l m)
def shBad (l : List Deal) (m : Int) : Bool := !validL l || decide (m < 0) || decide (1048576 < m)
end An

/- Package split: the exact shares. -/
namespace An.S
open Go Go.Proofs An
set_option maxHeartbeats 2000000
theorem ti57 : TyI Tryz.prog 57 1 false := ⟨by kernel_rfl, by kernel_rfl⟩
theorem fi74 : FnI Tryz.prog 74 := ⟨_, Tryz.func74, by kernel_rfl, rfl⟩
theorem zr57 : (Tryz.prog.info? 57).bind (·.zero) = some (.slice none 0 0) ∧ ∀ F w, (tE (.slice none 0 0)).p F w (.slice none 0 0) := ⟨by kernel_rfl, fun _ _ => rfl⟩
theorem c_FMulV (r : Rat) (l : List Deal) (i : Nat) (hv : validL l = true) (hD : ∀ d ∈ l, d.share.dig) (hi : i < l.length) (h1 : short r) (h2 : short (r * shr l i)) : Ct Tryz.prog 73 [tFr (fr r), tFr (l.getD i deal0).share] (tT [tFr (fr (r * shr l i)), tI 0]) := by
  obtain ⟨s1, s2, e⟩ := shr_len hv hD hi
  have h := c_FMul r (shr l i) h1 (short_lt (by omega) (by omega))
  rw [resF, resFE, if_pos h2, if_pos h2] at h
  rw [e]; exact h
theorem c_FSubS (a b : Rat) (h1 : short a) (h2 : short b) (h3 : short (a - b)) : Ct Tryz.prog 74 [tFr (fr a), tFr (fr b)] (tT [tFr (fr (a - b)), tI 0]) := by
  have h := c_FSub a b h1 h2
  rw [resF, resFE, if_pos h3, if_pos h3] at h
  exact h
theorem rV_rep0 (n : Nat) : List.replicate n (Ent.val (tFr fr0)) = rV tFr (sh0 n 0) := by rw [sh0_zero]; exact rV_rep n fr0 rfl
theorem c_Shares (l : List Deal) (m : Int) (hd : ∀ d ∈ l, d.share.dig) :
  Ct Tryz.prog 22 [tL 7 true tDeal l, tI m] (tT [tL 4 true tFr (bif shBad l m then [] else ((shAll l m)).q.set 0 (fr ((shAll l m)).r)), tI (bif shBad l m then 2 else 0)]) := by
 refine Ct.intro Tryz.func22 rfl Tryz.ntmps22 rfl ?_
 intro w F
 refine x6 ?_
 refine x8 ?_
 refine R1 x5 rfl (R1 x5 rfl (x7 (by kernel_rfl) (x3 (x6 (x6 ?_)))))
 refine x8 ?_
 refine R1 x4 rfl (R1 (xa0 (c_SValid l hd) fi28 rfl) rfl (R1 xe2 rfl (R1 x4 rfl ?_)))
 refine RGcase (t := 14) rfl (fun h164 => ?_) (fun h164 => ?_)
 ·
  have hB : shBad l m = true := by rw [shBad, h164]; rfl
  refine RGoff h164 rfl rfl (RGoff h164 rfl rfl (R2 (xb2 h164) rfl rfl (R1 x4 rfl (RGoff1 rfl rfl (RGoff1 rfl rfl (R2 (xb2 rfl) rfl rfl (x7 (by kernel_rfl) ?_)))))))
  refine x3 (C_bT rfl rfl (x6 ?_))
  refine x8 ?_
  refine R1 x5 rfl (R1 x5 rfl (x7 (by kernel_rfl) (x3 (xa2 (xa3 ?_)))))
  exact xf6 Plain.mk' rfl rfl rfl (leNil (by rw [hB]; rfl)) (Le.int (by rw [hB]; rfl))
 ·
  have hv : validL l = true := by rw [Bool.not_eq_false'] at h164; exact h164
  have hl16 := xi6 hv
  refine RGon h164 rfl x4 rfl ⟨rfl, trivial⟩ trivial trivial (RGon h164 rfl xd7 rfl ⟨rfl, rfl, trivial⟩ trivial trivial (R2 (xc0 h164) rfl rfl (R1 x4 rfl ?_)))
  refine RGcaseD (t := 18) rfl (fun h164_2 => ?_) (fun h164_2 => ?_)
  ·
   have hB : shBad l m = true := by rw [shBad, decide_eq_true h164_2]; simp
   refine RGoff (decide_eq_true h164_2) rfl rfl (RGoff (decide_eq_true h164_2) rfl rfl (R2 (xb2 (decide_eq_true h164_2)) rfl rfl (x7 (by kernel_rfl) (x3 (C_bT rfl rfl (x6 ?_))))))
   refine x8 ?_
   refine R1 x5 rfl (R1 x5 rfl (x7 (by kernel_rfl) (x3 (xa2 (xa3 ?_)))))
   exact xf6 Plain.mk' rfl rfl rfl (leNil (by rw [hB]; rfl)) (Le.int (by rw [hB]; rfl))
  ·
   refine RGon (decide_eq_false h164_2) rfl x4 rfl ⟨rfl, trivial⟩ trivial trivial (RGon (decide_eq_false h164_2) rfl xf2 rfl ⟨rfl, rfl, trivial⟩ trivial trivial (R2 (xc0 (decide_eq_false h164_2)) rfl rfl (x7 (by kernel_rfl) (x3 ?_))))
   refine xc5 rfl (fun h164_3 => ?_) (fun h164_3 => ?_)
   ·
    have hB : shBad l m = true := by rw [shBad, decide_eq_true h164_3]; simp
    refine x6 ?_
    refine x8 ?_
    refine R1 x5 rfl (R1 x5 rfl (x7 (by kernel_rfl) (x3 (xa2 (xa3 ?_)))))
    exact xf6 Plain.mk' rfl rfl rfl (leNil (by rw [hB]; rfl)) (Le.int (by rw [hB]; rfl))
   ·
    have hB : shBad l m = false := by rw [shBad, hv, decide_eq_false h164_2, decide_eq_false h164_3]; rfl
    refine xa5 (x3 (x6 ?_))
    refine x8 ?_
    refine R1 x4 rfl (R1 (xb7 Tryz.underlying22) rfl (R2 (xc2 (wr64 (by omega) (by omega))) rfl rfl (RE (d_makeO (k := 25) (t := tFr fr0) (ts := rV tFr (sh0 (l.length + 1) 0)) (l.length + 1) (l.length + 1) Tryz.underlying57 el49 zr49.2 rfl (by omega) (by omega) (Nat.le_refl _) (by omega) (by omega) (rV_rep0 _)) ⟨rfl, rfl, trivial⟩ trivial ⟨rfl, trivial⟩ (RE (xc4 (k := 6) (n := 1) (agg := false) zr57.1 zr57.2 rfl) trivial trivial ⟨rfl, trivial⟩ (RE (xa6 (es := 1) (agg := false) (0) ti57 rfl rfl rfl) ⟨rfl, rfl, trivial⟩ ⟨rfl, trivial⟩ trivial (x7 (by kernel_rfl) (x3 ?_)))))))
    refine x6 (x6 ?_)
    refine x8 ?_
    refine RE (xa7 (0) ti57 rfl rfl) ⟨rfl, trivial⟩ ⟨rfl, trivial⟩ trivial (R1 (d_lenO Tryz.underlying57) rfl (R1 x4 rfl (x7 (by kernel_rfl) (x3 (xb3 ?_)))))
    refine xe0 (fun (i : Nat) => i ≤ l.length + 1) (fun (i : Nat) => upd (upd (upd (upd (upd (fun _ => none) 0 (some (.val (tL 7 true tDeal l)))) 1 (some (.val (tI m)))) 6 (some (.own (.ptr 6 0)))) 27 (some (.val (tI ((l.length + 1 : Nat) : Int))))) 28 (some (.val (tI i)))) (fun (i : Nat) => upd (upd (fun _ => none) 6 (some (⟨57, 1, false, [.own (.sl 25 4 0 (l.length + 1))]⟩))) 25 (some (⟨49, 4, true, rV tFr (sh0 (l.length + 1) i)⟩))) (nm [6, 25]) (fun (i : Nat) => l.length + 1 - i) (0) (Nat.zero_le _) (Sub.int rfl (by first | omega | rfl | (dsimp only; omega)) (Sub.int rfl (by first | omega | rfl | (dsimp only; omega)) (Sub.cons rfl (Sub.int rfl (by first | omega | rfl | (dsimp only; omega)) (Sub.cons rfl Sub.nil))))) (SubK.cons rfl (SubK.cons rfl SubK.nil)) (SupG.val (SupG.val (SupG.own rfl (SupG.val (SupG.val SupG.nil))))) (SupH.cons rfl (supJ xg3) (SupH.cons rfl (supJL rfl) SupH.nil)) (lkOk rfl) ?_
    intro i hI
    refine x6 ?_
    refine x8 ?_
    refine R2 xd7 rfl rfl (x7 (by kernel_rfl) (x3 (x6 ?_)))
    refine xc5 rfl (fun h168 => ?_) (fun h168 => ?_)
    ·
     refine xa5 (x3 (x6 (xb3 (x6 ?_))))
     refine x8 ?_
     refine R1 x4 rfl (R1 x5 rfl (x7 (by kernel_rfl) (x3 ?_)))
     refine xc9 mixed ?_
     refine RE (xa7 (0) ti57 rfl rfl) ⟨rfl, trivial⟩ ⟨rfl, trivial⟩ trivial (R1 x4 rfl (R1 (xa0 (c_FFromInt 0 (by decide) (by decide)) fi71 rfl) rfl (R2 (xd0 sl57 (by omega) (by omega) rfl) rfl rfl (RE (xa6 (i) ti49 (rV_lt (by rw [sh0_len (by omega)]; omega)) (by omega) (rV_set (m := fr ((0 : Int) : Rat)) rfl)) ⟨rfl, rfl, trivial⟩ ⟨rfl, trivial⟩ trivial (xd1 (by kernel_rfl) (xc8 (x3 ?_)))))))
     refine x8 ?_
     refine R2 (xc2 (wr64 (by omega) (by omega))) rfl rfl (R1 x4 rfl (x7 (by kernel_rfl) ?_))
     exact xc6 (i + 1) ⟨(by omega), (by omega)⟩ (Sub.int rfl (by first | omega | rfl | (dsimp only; omega)) (Sub.int rfl (by first | omega | rfl | (dsimp only; omega)) (Sub.cons rfl (Sub.int rfl (by first | omega | rfl | (dsimp only; omega)) (Sub.cons rfl Sub.nil))))) (SubK.cons (by rw [sh0_set (by omega)]; rfl) (SubK.cons rfl SubK.nil)) (SupG.val (SupG.val (SupG.own rfl (SupG.val (SupG.val SupG.nil))))) (SupH.cons rfl (supJ xg3) (SupH.cons rfl (supJL rfl) SupH.nil)) (lkOk rfl)
    ·
     refine xd8 (xc1 (xc1 (xe3 (x3 (x6 ?_)))))
     refine x8 ?_
     refine R1 (xa0 (c_FFromInt 1 (by decide) (by decide)) fi71 rfl) rfl (RE (xc4 (k := 8) (n := 4) (agg := true) zr49.1 zr49.2 rfl) trivial trivial ⟨rfl, trivial⟩ (RE (xa6 (es := 4) (agg := true) (0) ti49 rfl rfl rfl) ⟨rfl, rfl, trivial⟩ ⟨rfl, trivial⟩ trivial (x7 (by kernel_rfl) (x3 (x6 (x6 ?_))))))
     refine x8 ?_
     refine R1 x4 rfl (R1 x4 rfl (RE (xi0 (fun j => cond (Nat.beq j 2) 39 (1039)) (c_applying l m) fi72 rfl (krN (ρ := fun j => cond (Nat.beq j 2) 39 (1039))) (krC (ρ := fun j => cond (Nat.beq j 2) 39 (1039)) (k := 2) rfl (krC (ρ := fun j => cond (Nat.beq j 2) 39 (1039)) (k := 3) rfl (krN (ρ := fun j => cond (Nat.beq j 2) 39 (1039))))) ⟨⟨rfl, (SupX.lit rfl)⟩, ⟨rfl, (SupX.lit rfl)⟩, trivial⟩ rfl) ⟨rfl, rfl, trivial⟩ trivial ⟨rfl, rfl, trivial⟩ (x7 (by kernel_rfl) (x3 (xb3 ?_)))))
     refine C_range (caps := [.ptr 1 0, .ptr 2 0]) (κ := Empty) (fun j => cond (Nat.beq j 2) 1039 (cond (Nat.beq j 1) 39 (j))) rfl (fun _ h => h) trivial (i_applying l m hl16) fi117 rfl ⟨rfl, rfl, trivial⟩ rfl rfl (fun _ _ => rfl) (upd (upd (fun _ => none) 6 (some (.own (.ptr 6 0)))) 8 (some (.own (.ptr 8 0)))) [6, 8, 25] [6, 8] (Sub.cons rfl (Sub.cons rfl Sub.nil)) (SupG.own rfl (SupG.own rfl SupG.nil)) rfl (lkOk rfl) (fun (k : Nat) (s : Sh) => ShI l k s ∧ shRun l s ((apl l m).drop k) = (shAll l m)) (fun (k : Nat) (s : Sh) => upd (upd (upd (fun _ => none) 6 (some (⟨57, 1, false, [.own (.sl 25 4 0 (l.length + 1))]⟩))) 8 (some (⟨49, 4, true, [.val (tFr (fr s.r))]⟩))) 25 (some (⟨49, 4, true, rV tFr s.q⟩))) (fun k x => (SupH.cons rfl (supJ xg3) (SupH.cons rfl (supJL rfl) (SupH.cons rfl (supJL rfl) SupH.nil)))) (fun k x y hy => by simp only [List.mem_cons, List.not_mem_nil, or_false] at hy; rcases hy with rfl | rfl <;> rfl) (fun _ _ => False) (fun i => i.elim) (fun _ _ h => h.elim) (⟨List.replicate (l.length + 1) (fr ((0 : Int) : Rat)), ((1 : Int) : Rat)⟩) ⟨shI0, rfl⟩ (SubK.cons (by rw [show i = l.length + 1 by omega, sh0_full]; rfl) (SubK.cons rfl (SubK.cons rfl SubK.nil))) ?_ ?_ ?_
     ·
      intro D lp o1 o2 O W lη lb V0 k s hk hI
      obtain ⟨hv1, hrun⟩ := hI
      have hql := hv1.q
      have hN := apl_len (l := l) (m := m)
      obtain ⟨hi, hon⟩ := apl_lt hk
      have hs1 := hv1.short (by omega)
      have hs2 := hv1.shortM (by omega) hv hd hi
      have hnx := hv1.next hv hd hi
      have hs3 := hnx.short (by omega)
      apply rnd_mk
      ·
       refine x6 ?_
       refine x8 ?_
       refine R1 x5 rfl (x7 (by kernel_rfl) (x3 ?_))
       refine x8 ?_
       refine RE (xc4 (k := 10) (n := 7) (agg := true) zr56.1 zr56.2 rfl) trivial trivial ⟨rfl, trivial⟩ (RE (xa6 (es := 7) (agg := true) (0) ti56 rfl rfl rfl) ⟨rfl, rfl, trivial⟩ ⟨rfl, trivial⟩ trivial (x7 (by kernel_rfl) ?_))
       exact K_thenF fun _ _ h => h
      ·
       refine xb3 (x6 ?_)
       refine xc9 mixed ?_
       refine RE (xa7 (0) ti57 rfl rfl) ⟨rfl, trivial⟩ ⟨rfl, trivial⟩ trivial (R1 x4 rfl (R2 (xc2 (wr64 (by omega) (by omega))) rfl rfl (RE (xa7 (0) ti49 rfl rfl) ⟨rfl, trivial⟩ ⟨rfl, trivial⟩ trivial (R1 (x9 fo56_2 rfl) rfl (xa4 (0) ti49 rfl rfl rfl (At.g 2 rfl rfl) rfl (R2 (xa0 (c_FMulV s.r l ((apl l m).getD k 0) hv hd hi hs1 hs2) fi73 rfl) rfl rfl (R1 x4 rfl ?_)))))))
       refine R1 (xa8 rfl) rfl (R1 (xa8 rfl) rfl (R2 (xd0 sl57 (by omega) (by omega) rfl) rfl rfl (RE (xa6 (((apl l m).getD k 0) + 1) ti49 (rV_lt (by omega)) (by omega) (rV_set (m := fr (s.r * shr l ((apl l m).getD k 0))) rfl)) ⟨rfl, rfl, trivial⟩ ⟨rfl, trivial⟩ trivial (xd1 (by kernel_rfl) (x3 ?_)))))
       refine xc9 mixed ?_
       refine RE (xa7 (0) ti49 rfl rfl) ⟨rfl, trivial⟩ ⟨rfl, trivial⟩ trivial (RE (xa7 (0) ti57 rfl rfl) ⟨rfl, trivial⟩ ⟨rfl, trivial⟩ trivial (R1 x4 rfl (R2 (xc2 (wr64 (by omega) (by omega))) rfl rfl (R2 (xd0 sl57 (by omega) (by omega) rfl) rfl rfl (RE (xa7 (((apl l m).getD k 0) + 1) ti49 (rV_get_set (by omega)) (by omega)) ⟨rfl, trivial⟩ ⟨rfl, trivial⟩ trivial (R2 (xa0 (c_FSubS s.r (s.r * shr l ((apl l m).getD k 0)) hs1 hs2 hs3) fi74 rfl) rfl rfl (R1 x4 rfl ?_)))))))
       refine R1 (xa8 rfl) rfl (R1 (xa8 rfl) rfl (RE (xa6 (es := 4) (agg := true) (0) ti49 rfl rfl rfl) ⟨rfl, rfl, trivial⟩ ⟨rfl, trivial⟩ trivial (xd1 (by kernel_rfl) (xc8 ?_))))
       exact K_rnd (sh1 l s ((apl l m).getD k 0)) ⟨hnx, sh_next hk hrun⟩ (SubK.cons rfl (SubK.cons rfl (SubK.cons rfl SubK.nil))) (SupH.cons rfl (supJ xg3) (SupH.cons rfl (supJL rfl) (SupH.cons rfl (supJL rfl) SupH.nil))) (lkOk rfl)
     ·
      intro D hD s hI
      obtain ⟨hv1, hrun⟩ := hI
      have hql := hv1.q
      have hR := sh_end hrun
      refine xc8 (x3 (x6 ?_))
      refine x8 ?_
      refine RE (xa7 (0) ti57 rfl rfl) ⟨rfl, trivial⟩ ⟨rfl, trivial⟩ trivial (RE (xa7 (0) ti49 rfl rfl) ⟨rfl, trivial⟩ ⟨rfl, trivial⟩ trivial (R2 (xd0 sl57 (by omega) (by omega) rfl) rfl rfl (RE (xa6 (0) ti49 (rV_lt (by omega)) (by omega) (rV_set (m := fr s.r) rfl)) ⟨rfl, rfl, trivial⟩ ⟨rfl, trivial⟩ trivial (x7 (by kernel_rfl) (x3 (x6 ?_))))))
      refine x8 ?_
      refine RE (xa7 (0) ti57 rfl rfl) ⟨rfl, trivial⟩ ⟨rfl, trivial⟩ trivial (RE (d_assignS (f := tFr) (xs := s.q.set 0 (fr s.r)) (fun _ h => h) (rV_all (by rw [List.length_set]; exact hql)) (by rw [List.length_set]; exact hql)) ⟨rfl, trivial⟩ ⟨rfl, trivial⟩ trivial (R1 x5 rfl (x7 (by kernel_rfl) (x3 (xa2 ?_)))))
      exact xf6 (Plain.loop Plain.mk' hD) rfl rfl rfl (Le.of (by rw [hB, hR]; rfl)) (Le.int (by rw [hB]; rfl))
     ·
      intro D hD e i; exact i.elim
end An.S

/- Law 24: the examples of the chapter hold. -/
namespace An.S
open Go Go.Proofs An
set_option maxHeartbeats 2000000
set_option maxRecDepth 100000
theorem fi22 : FnI Tryz.prog 22 := ⟨_, Tryz.func22, by kernel_rfl, rfl⟩
theorem fi23 : FnI Tryz.prog 23 := ⟨_, Tryz.func23, by kernel_rfl, rfl⟩
theorem fi24 : FnI Tryz.prog 24 := ⟨_, Tryz.func24, by kernel_rfl, rfl⟩
theorem fi26 : FnI Tryz.prog 26 := ⟨_, Tryz.func26, by kernel_rfl, rfl⟩
theorem fi27 : FnI Tryz.prog 27 := ⟨_, Tryz.func27, by kernel_rfl, rfl⟩
theorem el23 : ElI Tryz.prog 23 1 24 false (.slice none 0 0) := ⟨ti23, by kernel_rfl, by kernel_rfl⟩
theorem zf23 : Flat 1 false (.slice none 0 0) := xh2 rfl
theorem dig_fr (q : Rat) : (fr q).dig := ⟨xe6 xb0 _, xe6 xb0 _⟩
theorem digH : ∀ d ∈ [dealA, dealB], d.share.dig := fun d hd => by
  simp only [List.mem_cons, List.not_mem_nil, or_false] at hd
  rcases hd with rfl | rfl <;> exact dig_fr _
theorem digA : ∀ d ∈ [dealA], d.share.dig := fun d hd => by
  simp only [List.mem_cons, List.not_mem_nil, or_false] at hd
  subst hd; exact dig_fr _
theorem dig3 : ∀ d ∈ [deal3], d.share.dig := fun d hd => by
  simp only [List.mem_cons, List.not_mem_nil, or_false] at hd
  subst hd; exact dig_fr _
theorem c_SharesH : Ct Tryz.prog 22 [tL 7 true tDeal [dealA, dealB], tI 4] (tT [tL 4 true tFr [fr (Rat.divInt 1 4), fr (Rat.divInt 1 2), fr (Rat.divInt 1 4)], tI 0]) := by
  have h := c_Shares [dealA, dealB] 4 digH
  have e1 : (bif shBad [dealA, dealB] 4 then [] else (shAll [dealA, dealB] 4).q.set 0 (fr (shAll [dealA, dealB] 4).r)) = [fr (Rat.divInt 1 4), fr (Rat.divInt 1 2), fr (Rat.divInt 1 4)] := by decide +kernel
  have e2 : (bif shBad [dealA, dealB] 4 then 2 else 0 : Int) = 0 := by decide +kernel
  rw [e1, e2] at h; exact h
theorem c_sameT (f : Fr) : Ct Tryz.prog 24 [tFr f, tFr f] (tB true) := by
  have h := c_R2Same f f
  rw [decide_eq_true rfl] at h; exact h
theorem c_stepsT (l : List Deal) (m : Int) (us : List Int) (ws : List (List Int)) (hv : validL l = true) (hd : ∀ d ∈ l, d.share.dig) (hw : us.length ≤ ws.length) (hT : stepsL l m 0 (List.replicate l.length 0) (List.replicate l.length 0) us ws = true) :
    Ct Tryz.prog 26 [tL 7 true tDeal l, tI m, tIs us, tL 1 false (fun x : List Int => tIs x) ws] (tB true) := by
  have h := c_steps l m us ws hv hd hw
  rw [hT] at h; exact h
theorem c_awake  :
  Ct Tryz.prog 7 [] (tB true) := by
 refine Ct.intro Tryz.func7 rfl Tryz.ntmps7 rfl ?_
 intro w F
 refine x6 ?_
 refine x8 ?_
 refine R1 x5 rfl (x7 (by kernel_rfl) (x3 (x6 ?_)))
 refine x8 ?_
 refine R0 (xa0 c_halves fi23 rfl)  (R2 (xa0 c_SharesH fi22 rfl) rfl rfl (R1 x4 rfl (R1 (xa8 rfl) rfl (R1 (xa8 rfl) rfl (R1 x5 rfl (R1 x5 rfl (x7 (by kernel_rfl) ?_)))))))
 refine x3 (x6 (x6 ?_))
 refine xc9 mixed ?_
 refine R1 x4 rfl (R2 xg8 rfl rfl (R1 x4 rfl (RGon (decide_eq_false (by omega)) rfl x4 rfl ⟨rfl, trivial⟩ trivial trivial (RGon (decide_eq_false (by omega)) rfl (xb7 Tryz.underlying57) rfl ⟨rfl, trivial⟩ trivial trivial (RGon (decide_eq_false (by omega)) rfl xg8 rfl ⟨rfl, rfl, trivial⟩ trivial trivial (R2 (xc0 (decide_eq_false (by omega))) rfl rfl (R1 x4 rfl ?_)))))))
 refine RGon (decide_eq_false (by simp)) rfl x4 rfl ⟨rfl, trivial⟩ trivial trivial (RGon (decide_eq_false (by simp)) rfl (xb6 sl57 0 rfl rfl) rfl ⟨rfl, rfl, trivial⟩ trivial trivial (RGon (decide_eq_false (by simp)) rfl (xb8 ti49) rfl ⟨rfl, trivial⟩ trivial trivial (RGon (decide_eq_false (by simp)) rfl (xa0 (c_RQuick 1 4 (by decide) (by decide) (by decide) (by decide) (by decide)) fi25 rfl) rfl ⟨rfl, rfl, trivial⟩ trivial trivial (RGon (decide_eq_false (by simp)) rfl (xa0 (c_sameT _) fi24 rfl) rfl ⟨rfl, rfl, trivial⟩ trivial trivial (RGon (decide_eq_false (by simp)) rfl xe2 rfl ⟨rfl, trivial⟩ trivial trivial (R2 (xc0 (decide_eq_false (by simp))) rfl rfl (R1 x4 rfl ?_)))))))
 refine RGon rfl rfl x4 rfl ⟨rfl, trivial⟩ trivial trivial (RGon rfl rfl (xb6 sl57 1 rfl rfl) rfl ⟨rfl, rfl, trivial⟩ trivial trivial (RGon rfl rfl (xb8 ti49) rfl ⟨rfl, trivial⟩ trivial trivial (RGon rfl rfl (xa0 (c_RQuick 1 2 (by decide) (by decide) (by decide) (by decide) (by decide)) fi25 rfl) rfl ⟨rfl, rfl, trivial⟩ trivial trivial (RGon rfl rfl (xa0 (c_sameT _) fi24 rfl) rfl ⟨rfl, rfl, trivial⟩ trivial trivial (RGon rfl rfl xe2 rfl ⟨rfl, trivial⟩ trivial trivial (R2 (xc0 rfl) rfl rfl (xd1 (by kernel_rfl) ?_)))))))
 refine x3 (C_bF rfl rfl (xa5 (x3 (x6 ?_))))
 refine x8 ?_
 refine R0 (xa0 c_third fi27 rfl)  (RE (xf3 (n := 4) (f := fun n : Int => tI n) [100, 100, 100, -100] Tryz.underlying23 el3 zf3 rfl (fun _ => inferInstance) rfl rfl rfl) ⟨rfl, rfl, rfl, rfl, trivial⟩ trivial trivial (R2 (xf3 (n := 2) (f := fun n : Int => tI n) [67, 33] Tryz.underlying23 el3 zf3 rfl (fun _ => inferInstance) rfl rfl rfl) rfl rfl (R2 (xf3 (n := 2) (f := fun n : Int => tI n) [67, 33] Tryz.underlying23 el3 zf3 rfl (fun _ => inferInstance) rfl rfl rfl) rfl rfl (R2 (xf3 (n := 2) (f := fun n : Int => tI n) [66, 34] Tryz.underlying23 el3 zf3 rfl (fun _ => inferInstance) rfl rfl rfl) rfl rfl (R2 (xf3 (n := 2) (f := fun n : Int => tI n) [-66, -34] Tryz.underlying23 el3 zf3 rfl (fun _ => inferInstance) rfl rfl rfl) rfl rfl (RE (xf3 (n := 4) (f := fun x : List Int => tIs x) [[67, 33], [67, 33], [66, 34], [-66, -34]] Tryz.underlying64 el23 zf23 rfl (fun _ => inferInstance) rfl rfl rfl) ⟨rfl, rfl, rfl, rfl, trivial⟩ trivial trivial (RE (xa0 (c_stepsT [deal3] 5 [100, 100, 100, -100] [[67, 33], [67, 33], [66, 34], [-66, -34]] (by decide +kernel) dig3 (by decide) (by decide +kernel)) fi26 rfl) ⟨rfl, rfl, rfl, rfl, trivial⟩ trivial trivial ?_)))))))
 refine R1 x4 rfl (RGon rfl rfl (xa0 c_third fi27 rfl) rfl trivial trivial trivial (RGon rfl rfl (xf3 (n := 1) (f := fun n : Int => tI n) [100] Tryz.underlying23 el3 zf3 rfl (fun _ => inferInstance) rfl rfl rfl) rfl ⟨rfl, trivial⟩ trivial trivial (RGon rfl rfl (xf3 (n := 2) (f := fun n : Int => tI n) [100, 0] Tryz.underlying23 el3 zf3 rfl (fun _ => inferInstance) rfl rfl rfl) rfl ⟨rfl, rfl, trivial⟩ trivial trivial (RGon rfl rfl (xf3 (n := 1) (f := fun x : List Int => tIs x) [[100, 0]] Tryz.underlying64 el23 zf23 rfl (fun _ => inferInstance) rfl rfl rfl) rfl ⟨rfl, trivial⟩ trivial trivial (RGon rfl rfl (xa0 (c_stepsT [deal3] 12 [100] [[100, 0]] (by decide +kernel) dig3 (by decide) (by decide +kernel)) fi26 rfl) rfl ⟨rfl, rfl, rfl, rfl, trivial⟩ trivial trivial (R2 (xb2 rfl) rfl rfl (R1 x4 rfl ?_)))))))
 refine RGon rfl rfl (xa0 c_halves fi23 rfl) rfl trivial trivial trivial (RGon rfl rfl (xf3 (n := 1) (f := fun n : Int => tI n) [5] Tryz.underlying23 el3 zf3 rfl (fun _ => inferInstance) rfl rfl rfl) rfl ⟨rfl, trivial⟩ trivial trivial (RGon rfl rfl (xf3 (n := 3) (f := fun n : Int => tI n) [2, 2, 1] Tryz.underlying23 el3 zf3 rfl (fun _ => inferInstance) rfl rfl rfl) rfl ⟨rfl, rfl, rfl, trivial⟩ trivial trivial (RGon rfl rfl (xf3 (n := 1) (f := fun x : List Int => tIs x) [[2, 2, 1]] Tryz.underlying64 el23 zf23 rfl (fun _ => inferInstance) rfl rfl rfl) rfl ⟨rfl, trivial⟩ trivial trivial (RGon rfl rfl (xa0 (c_stepsT [dealA, dealB] 4 [5] [[2, 2, 1]] (by decide +kernel) digH (by decide) (by decide +kernel)) fi26 rfl) rfl ⟨rfl, rfl, rfl, rfl, trivial⟩ trivial trivial (R2 (xb2 rfl) rfl rfl (R1 x4 rfl (RGon rfl rfl (xa0 c_halves fi23 rfl) rfl trivial trivial trivial ?_)))))))
 refine RGon rfl rfl (d_sliceT (xs := [dealA, dealB]) (ys := [dealA]) (l := 0) (u := 1) sl22 (fun _ => rfl) (fun h => by cases h) (by decide) (by decide) rfl) rfl ⟨rfl, rfl, trivial⟩ trivial trivial (RGon rfl rfl (xf3 (n := 1) (f := fun n : Int => tI n) [-1] Tryz.underlying23 el3 zf3 rfl (fun _ => inferInstance) rfl rfl rfl) rfl ⟨rfl, trivial⟩ trivial trivial (RGon rfl rfl (xf3 (n := 2) (f := fun n : Int => tI n) [0, -1] Tryz.underlying23 el3 zf3 rfl (fun _ => inferInstance) rfl rfl rfl) rfl ⟨rfl, rfl, trivial⟩ trivial trivial (RGon rfl rfl (xf3 (n := 1) (f := fun x : List Int => tIs x) [[0, -1]] Tryz.underlying64 el23 zf23 rfl (fun _ => inferInstance) rfl rfl rfl) rfl ⟨rfl, trivial⟩ trivial trivial (RGon rfl rfl (xa0 (c_stepsT [dealA] 4 [-1] [[0, -1]] (by decide +kernel) digA (by decide) (by decide +kernel)) fi26 rfl) rfl ⟨rfl, rfl, rfl, rfl, trivial⟩ trivial trivial (R2 (xb2 rfl) rfl rfl (R1 x5 rfl (x7 (by kernel_rfl) ?_)))))))
 refine x3 (xa2 ?_)
 exact xa9 Plain.mk' rfl rfl Le.refl
end An.S

/- Layer 24: what a step of the divider answers. Plain data. -/
namespace An.S
open An
theorem right_mk {l : List Deal} {o : Int} {b p : List Int} (h1 : validL l = true) (h2 : b.length = l.length) (h3 : p.length = l.length) (h4 : wIn o = true) (h5 : (Dv.mk b p [] 0).ok l l.length) : rightL l o b p = true := by
  simp only [rightL, Bool.and_eq_true, decide_eq_true_eq, List.all_eq_true, List.mem_range]
  exact ⟨⟨⟨⟨h1, h2⟩, h3⟩, h4⟩, fun i hi => h5 i hi⟩
theorem stepE_zero {l : List Deal} {o : Int} {b p : List Int} {m a : Int} : stepE l o b p m a = 0 ↔ stepBad l o b p m a = false ∧ stepOk l o b p m a = true := by
  rw [stepE]
  cases stepBad l o b p m a <;> cases stepOk l o b p m a <;> simp
theorem bad_mk {l : List Deal} {o : Int} {b p : List Int} {m a : Int} (h1 : rightL l o b p = true) (h2 : 0 ≤ m) (h3 : m ≤ 1048576) (h4 : wIn a = true) : stepBad l o b p m a = false := by
  rw [stepBad, h1, h4, decide_eq_false (by omega), decide_eq_false (by omega)]; rfl
theorem bad_of {l : List Deal} {o : Int} {b p : List Int} {m a : Int} (h : stepBad l o b p m a = false) : rightL l o b p = true ∧ 0 ≤ m ∧ m ≤ 1048576 ∧ wIn a = true := by
  simp only [stepBad, Bool.or_eq_false_iff, Bool.not_eq_false', decide_eq_false_iff_not] at h
  obtain ⟨⟨⟨h1, h2⟩, h3⟩, h4⟩ := h
  exact ⟨h1, by omega, by omega, h4⟩
/-- A step that is not rejected. -/
structure StepI (l : List Deal) (o : Int) (b p : List Int) (m a : Int) : Prop where
  v : validL l = true
  lb : b.length = l.length
  lp : p.length = l.length
  ok : (Dv.mk b p (List.replicate (l.length + 1) 0) a).ok l l.length
  wo : wIn o = true
  m0 : 0 ≤ m
  m1 : m ≤ 1048576
  wa : wIn a = true
  all : (dvAll l m b p a).2 = true
  wr : wIn (o + (dvAll l m b p a).1.r) = true
  eo : stepO l o b p m a = o + (dvAll l m b p a).1.r
  eb : stepB l o b p m a = (dvAll l m b p a).1.b
  ep : stepP l o b p m a = (dvAll l m b p a).1.p
  eq : stepQ l o b p m a = (dvAll l m b p a).1.q.set 0 (dvAll l m b p a).1.r
section
variable {l : List Deal} {o : Int} {b p : List Int} {m a : Int}
theorem StepI.of (hd : ∀ d ∈ l, d.share.dig) (h : stepE l o b p m a = 0) : StepI l o b p m a := by
  obtain ⟨h1, h2⟩ := stepE_zero.1 h
  obtain ⟨r1, r2, r3, r4⟩ := bad_of h1
  obtain ⟨e1, e2, e3, e4, _, e6⟩ := step_good h1 h2
  obtain ⟨p1, p2, p3, p4, p5⟩ := xj2 hd r1
  exact ⟨p1, p2, p3, fun i hi => p5 i hi, p4, r2, r3, r4, e6, (Bool.and_eq_true_iff.1 h2).2, e1, e2, e3, e4⟩
theorem StepI.mk' (h1 : rightL l o b p = true) (h2 : 0 ≤ m) (h3 : m ≤ 1048576) (h4 : wIn a = true) (h5 : (dvAll l m b p a).2 = true) (h6 : wIn (o + (dvAll l m b p a).1.r) = true) : stepE l o b p m a = 0 :=
  stepE_zero.2 ⟨bad_mk h1 h2 h3 h4, by rw [stepOk, h5, h6]; rfl⟩
theorem StepI.fit0 (s : StepI l o b p m a) : (Dv.mk b p (List.replicate (l.length + 1) 0) a).fit l.length := An.fit0 s.lb s.lp
theorem StepI.fit (s : StepI l o b p m a) : (dvAll l m b p a).1.fit l.length := run_fit _ _ s.fit0
theorem StepI.oks (s : StepI l o b p m a) : (dvAll l m b p a).1.ok l l.length := run_ok _ _ apl_mem s.fit0 s.ok s.all
theorem StepI.right (s : StepI l o b p m a) : rightL l (stepO l o b p m a) (stepB l o b p m a) (stepP l o b p m a) = true := by
  rw [s.eo, s.eb, s.ep]
  exact right_mk s.v s.fit.b s.fit.p s.wr fun i hi => s.oks i hi
theorem StepI.len (s : StepI l o b p m a) : (stepQ l o b p m a).length = l.length + 1 ∧ (stepB l o b p m a).length = l.length ∧ (stepP l o b p m a).length = l.length := by
  rw [s.eq, s.eb, s.ep, List.length_set]
  exact ⟨s.fit.q, s.fit.b, s.fit.p⟩
/-- Bounds of what a run leaves. -/
theorem run_bd {l : List Deal} (hv : validL l = true) (hd : ∀ d ∈ l, d.share.dig) : ∀ (is : List Nat) (s : Dv) (k : Nat), (∀ i ∈ is, i < l.length) → DvI l k s → (∀ j, -2199023255552 ≤ s.q.getD j 0 ∧ s.q.getD j 0 ≤ 2199023255552) → (dvRun l s is).2 = true →
    DvI l (k + is.length) (dvRun l s is).1 ∧ ∀ j, -2199023255552 ≤ (dvRun l s is).1.q.getD j 0 ∧ (dvRun l s is).1.q.getD j 0 ≤ 2199023255552
  | [], s, k, _, h, hq, _ => ⟨h, hq⟩
  | i :: r, s, k, hi, h, hq, ht => by
    rw [xh7] at ht ⊢
    split at ht
    · rename_i hw
      rw [if_pos hw]
      have hin := hi i (by simp)
      have hp := xe8.1 (DvI.pd (s := s) hv hd hin hw)
      have hp2 := xe8.1 (h.w i hin).2
      have := run_bd hv hd r (dv1 l s i) (k + 1) (fun j hj => hi j (by simp [hj])) (h.next hv hd hin hw) (fun j => by
        by_cases hj : j = i + 1
        · subst hj
          have e : (dv1 l s i).q.getD (i + 1) 0 = s.pd l i - s.p.getD i 0 := gset_same (by rw [h.q]; omega)
          rw [e]; omega
        · have e : (dv1 l s i).q.getD j 0 = s.q.getD j 0 := gset_ne hj
          rw [e]; exact hq j) ht
      rw [List.length_cons, show k + (r.length + 1) = k + 1 + r.length by omega]
      exact this
    · cases ht
theorem StepI.dvI (hd : ∀ d ∈ l, d.share.dig) (s : StepI l o b p m a) : DvI l 0 ⟨b, p, List.replicate (l.length + 1) 0, a⟩ := by
  obtain ⟨a1, a2⟩ := xe8.1 s.wa
  refine ⟨s.lb, s.lp, by simp, fun i hi => ?_, by simp only [Int.natCast_zero]; omega⟩
  obtain ⟨h1, h2⟩ := s.ok i hi
  obtain ⟨q0, q1⟩ := shr_bd s.v hd hi
  exact ⟨h1, by rw [h2]; exact wIn_take q0 q1 h1⟩
theorem StepI.bd (hd : ∀ d ∈ l, d.share.dig) (s : StepI l o b p m a) : (∀ j, -2199023255552 ≤ (dvAll l m b p a).1.q.getD j 0 ∧ (dvAll l m b p a).1.q.getD j 0 ≤ 2199023255552) ∧ -36283883716608 ≤ (dvAll l m b p a).1.r ∧ (dvAll l m b p a).1.r ≤ 36283883716608 := by
  have h := run_bd s.v hd (apl l m) _ 0 apl_mem (s.dvI hd) (fun j => by simp only [grep0]; omega) s.all
  have hl := xi6 s.v
  have hn := apl_len (l := l) (m := m)
  have hr := h.1.r
  refine ⟨h.2, ?_, ?_⟩
  · have := hr.1; simp only [dvAll]; omega
  · have := hr.2; simp only [dvAll]; omega
theorem getD_set0 {q : List Int} {r : Int} {i : Nat} (h : 0 < q.length) : (q.set 0 r).getD i 0 = if i = 0 then r else q.getD i 0 := getD_set_int h
end
end An.S

/- Law 24: SplitBack: dividing the negative of an amount leads back. -/
namespace An.S
open Go Go.Proofs An
set_option maxHeartbeats 2000000
end An.S

/- Law 24: SplitMerge: two amounts one behind the other are divided as their sum. -/
namespace An.S
open Go Go.Proofs An
set_option maxHeartbeats 2000000
set_option maxRecDepth 100000
theorem ti31 : TyI Tryz.prog 31 3 true := ⟨by kernel_rfl, by kernel_rfl⟩
theorem fo31_0 : fieldO Tryz.prog 31 0 = some 0 := by kernel_rfl
theorem fo31_1 : fieldO Tryz.prog 31 1 = some 1 := by kernel_rfl
theorem fo31_2 : fieldO Tryz.prog 31 2 = some 2 := by kernel_rfl
theorem zr31 : (Tryz.prog.info? 31).bind (·.zero) = some (.agg #[.int .i64 0, .slice none 0 0, .slice none 0 0]) ∧ ∀ F w, (tS [⟨1, false, (tE (.int .i64 0))⟩, ⟨1, false, (tIs [])⟩, ⟨1, false, (tIs [])⟩]).p F w (.agg #[.int .i64 0, .slice none 0 0, .slice none 0 0]) := ⟨by kernel_rfl, fun _ _ => ⟨_, rfl, rfl, ⟨fun _ => rfl, rfl⟩, ⟨fun _ => rfl, ⟨none, 0, rfl, Nat.le_refl _, by decide, .inl rfl⟩⟩, ⟨fun _ => rfl, ⟨none, 0, rfl, Nat.le_refl _, by decide, .inl rfl⟩⟩, trivial⟩⟩
theorem bu31 : BuI Tryz.prog 31 (fun i => [(0, 1), (1, 1), (2, 1)][i]?) (.agg #[.int .i64 0, .slice none 0 0, .slice none 0 0]) := BuI.struct Tryz.underlying31 (by kernel_rfl) (by kernel_rfl)
end An.S

/- What the readers of law 24 read: deals, states, numbers. -/
namespace An.S
open Go Go.Proofs An
open Go.ChangeShapes Go.WideShapes Go.ChangeAt Go.RowKit
set_option maxRecDepth 100000
theorem own : ownKnob Tryz.prog.godebug = none := by kernel_rfl
theorem laidOut : laidOutB Tryz.prog = true := by kernel_rfl
theorem oBool : Opn Tryz.prog 4 1 false (fun b : Bool => tB b) (fun _ => True) := Opn.bool Tryz.underlying4 (by kernel_rfl)
theorem oInt : Opn Tryz.prog 3 1 false (fun n : Int => tI n) (fun n => IntKind.i64.min ≤ n ∧ n ≤ IntKind.i64.max) := Opn.int Tryz.underlying3 (by kernel_rfl)
theorem oU16 : Opn Tryz.prog 166 1 false (fun n : Nat => tE (.int .u16 n)) (fun n => n < 65536) := Opn.nat Tryz.underlying166 (by kernel_rfl) rfl rfl
theorem oLm : Opn Tryz.prog 45 1 false (fun l : List Nat => tLm l) (fun l => Dig 65536 l) := (Opn.slice Tryz.underlying45 (by kernel_rfl) oU16).as id (fun _ => rfl) (fun _ h => h)
theorem oInts : Opn Tryz.prog 23 1 false (fun l : List Int => tIs l) (fun l => ∀ x ∈ l, -9223372036854775808 ≤ x ∧ x ≤ 9223372036854775807) := (Opn.slice Tryz.underlying23 (by kernel_rfl) oInt).as id (fun _ => rfl) (fun _ h => h)
theorem oWh : Opn Tryz.prog 47 2 true (fun x : Wh => tWh x) (fun x => Dig 65536 x.l) :=
  (Opn.struct Tryz.underlying47 (by kernel_rfl) (by decide) (OpnF.cons oBool rfl rfl (OpnF.cons oLm rfl rfl OpnF.nil rfl) rfl)).as (fun x => ⟨x.1, x.2.1⟩) (fun _ => rfl) (fun _ h => h.2.1)
theorem oFr : Opn Tryz.prog 49 4 true (fun x : Fr => tFr x) (fun x => x.dig) :=
  (Opn.struct Tryz.underlying49 (by kernel_rfl) (by decide) (OpnF.cons oWh rfl rfl (OpnF.cons oWh rfl rfl OpnF.nil rfl) rfl)).as (fun x => ⟨x.1, x.2.1⟩) (fun _ => rfl) (fun _ h => ⟨h.1, h.2.1⟩)
theorem oDeal : Opn Tryz.prog 56 7 true (fun x : Deal => tDeal x) (fun x => x.share.dig) :=
  (Opn.struct Tryz.underlying56 (by kernel_rfl) (by decide) (OpnF.cons oInt rfl rfl (OpnF.cons oInt rfl rfl (OpnF.cons oFr rfl rfl (OpnF.cons oInt rfl rfl OpnF.nil rfl) rfl) rfl) rfl)).as (fun x => ⟨x.1, x.2.1, x.2.2.1, x.2.2.2.1⟩) (fun _ => rfl) (fun _ h => h.2.2.1)
theorem oDeals : Opn Tryz.prog 22 1 false (fun l : List Deal => tL 7 true tDeal l) (fun l => ∀ d ∈ l, d.share.dig) := Opn.slice Tryz.underlying22 (by kernel_rfl) oDeal
/-- What a contract says, as the frame of a statement wants it. -/
theorem walked {f : FuncId} {ts : List Ty} (h : Ct Tryz.prog f ts (tB true)) {vs : List Value} {W : World} (ha : Tup.all (Old W) W ts vs) : Calls Tryz.prog f vs.toArray W fun e W' => e = .returned (.bool true) ∧ Ext W W' :=
  (h (Old W) W vs ha).mono fun e W' ⟨v, h1, h2, h3⟩ => by
    have h3 : v = .bool true := h3
    subst h3; exact ⟨h1, h2⟩
end An.S

/- Layer 24: amounts that fit are not rejected. Plain data. -/
namespace An.S
open An Go
theorem take_diff {q : Rat} {b r : Int} (h0 : 0 ≤ q) (h1 : q ≤ 1) : (0 ≤ r → 0 ≤ take q (b + r) - take q b ∧ take q (b + r) - take q b ≤ r) ∧ (r ≤ 0 → r ≤ take q (b + r) - take q b ∧ take q (b + r) - take q b ≤ 0) := by
  have up : ∀ (x y : Int), 0 ≤ y → take q x ≤ take q (x + y) ∧ take q (x + y) ≤ take q x + y := fun x y hy => by
    have hy' : (0 : Rat) ≤ (y : Rat) := by exact_mod_cast hy
    have e : ((x + y : Int) : Rat) = (x : Rat) + (y : Rat) := by simp
    have k0 := Rat.mul_nonneg h0 hy'
    have k1 := Rat.mul_le_mul_of_nonneg_right h1 hy'
    simp only [take]
    rw [e]
    constructor
    · exact Rat.floor_monotone (by grind)
    · have h := Rat.floor_monotone (a := q * ((x : Rat) + (y : Rat))) (b := q * (x : Rat) + (y : Rat)) (by grind)
      rw [Rat.floor_add_intCast] at h
      exact h
  refine ⟨fun hr => ?_, fun hr => ?_⟩
  · have := up b r hr; omega
  · have := up (b + r) (-r) (by omega)
    rw [Int.add_neg_cancel_right] at this; omega
theorem run_full {l : List Deal} (hv : validL l = true) (hd : ∀ d ∈ l, d.share.dig) {A B : Int} (hAB : A + B ≤ 1099511627776) (hA : 0 ≤ A) : ∀ (is : List Nat) (s : Dv), is.Nodup → (∀ i ∈ is, i < l.length) → s.fit l.length → s.ok l l.length → -A ≤ s.r ∧ s.r ≤ A → (∀ i ∈ is, -B ≤ s.b.getD i 0 ∧ s.b.getD i 0 ≤ B) → (∀ j, j < l.length → -(A + B) ≤ s.b.getD j 0 ∧ s.b.getD j 0 ≤ A + B) →
    (dvRun l s is).2 = true ∧ (-A ≤ (dvRun l s is).1.r ∧ (dvRun l s is).1.r ≤ A) ∧ ∀ j, j < l.length → -(A + B) ≤ (dvRun l s is).1.b.getD j 0 ∧ (dvRun l s is).1.b.getD j 0 ≤ A + B
  | [], s, _, _, _, _, hr, _, hj => ⟨rfl, hr, hj⟩
  | i :: r, s, hN, hi, hf, ho, hr, hb, hj => by
    obtain ⟨hN1, hN2⟩ := List.nodup_cons.1 hN
    have hin := hi i (by simp)
    obtain ⟨b1, b2⟩ := hb i (by simp)
    have f1 := hf.b
    have hn : s.n i = s.b.getD i 0 + s.r := rfl
    have hw : wIn (s.n i) = true := by rw [xe8, hn]; omega
    obtain ⟨q0, q1⟩ := shr_bd hv hd hin
    have hd' := take_diff (q := shr l i) (b := s.b.getD i 0) (r := s.r) q0 q1
    have hp : s.pd l i - s.p.getD i 0 = take (shr l i) (s.b.getD i 0 + s.r) - take (shr l i) (s.b.getD i 0) := by rw [Dv.pd, hn, (ho i hin).2]
    have hr' : -A ≤ (dv1 l s i).r ∧ (dv1 l s i).r ≤ A := by
      simp only [dv1]
      rw [hp]
      rcases Int.le_total 0 s.r with h | h
      · have := hd'.1 h; omega
      · have := hd'.2 h; omega
    rw [xh7, if_pos hw]
    refine run_full hv hd hAB hA r (dv1 l s i) hN2 (fun j hj => hi j (by simp [hj])) hf.next (ho.next hf hin hw) hr' (fun j hjr => ?_) (fun j hjl => ?_)
    · have hji : j ≠ i := fun e => hN1 (e ▸ hjr)
      have e : (dv1 l s i).b.getD j 0 = s.b.getD j 0 := gset_ne hji
      rw [e]; exact hb j (by simp [hjr])
    · by_cases hji : j = i
      · subst hji
        have e : (dv1 l s j).b.getD j 0 = s.n j := gset_same (by omega)
        rw [e, hn]; omega
      · have e : (dv1 l s i).b.getD j 0 = s.b.getD j 0 := gset_ne hji
        rw [e]; exact hj j hjl
theorem run_zero {l : List Deal} {n : Nat} : ∀ (is : List Nat) (s : Dv), (∀ i ∈ is, i < n) → s.fit n → s.ok l n → s.r = 0 → (∀ j, s.q.getD j 0 = 0) → (dvRun l s is).1.r = 0 ∧ ∀ j, (dvRun l s is).1.q.getD j 0 = 0
  | [], s, _, _, _, hr, hq => ⟨hr, hq⟩
  | i :: r, s, hi, hf, ho, hr, hq => by
    have hin := hi i (by simp)
    have hn : s.n i = s.b.getD i 0 := by rw [Dv.n, hr]; omega
    have hp : s.pd l i = s.p.getD i 0 := by rw [Dv.pd, hn, (ho i hin).2]
    have hw : wIn (s.n i) = true := by rw [hn]; exact (ho i hin).1
    rw [xh7, if_pos hw]
    refine run_zero r (dv1 l s i) (fun j hj => hi j (by simp [hj])) hf.next (ho.next hf hin hw) ?_ (fun j => ?_)
    · simp only [dv1]; rw [hp, hr]; omega
    · have f3 := hf.q
      by_cases hj : j = i + 1
      · subst hj
        have e : (dv1 l s i).q.getD (i + 1) 0 = s.pd l i - s.p.getD i 0 := gset_same (by omega)
        rw [e, hp]; omega
      · have e : (dv1 l s i).q.getD j 0 = s.q.getD j 0 := gset_ne hj
        rw [e]; exact hq j
/-- A state that has room for what is left. -/
structure FullI (l : List Deal) (left o : Int) (b p : List Int) : Prop where
  r : rightL l o b p = true
  l0 : 0 ≤ left
  l1 : left ≤ 1099511627776
  o : -(1099511627776 - left) ≤ o ∧ o ≤ 1099511627776 - left
  b : ∀ j, j < l.length → -(1099511627776 - left) ≤ b.getD j 0 ∧ b.getD j 0 ≤ 1099511627776 - left
theorem FullI.next {l : List Deal} {left o : Int} {b p : List Int} {m a z : Int} (hd : ∀ d ∈ l, d.share.dig) (s : FullI l left o b p) (m0 : 0 ≤ m) (m1 : m ≤ 1048576) (h0 : 0 ≤ z) (h1 : -z ≤ a) (h2 : a ≤ z) (h3 : z ≤ left) :
    stepE l o b p m a = 0 ∧ FullI l (left - z) (stepO l o b p m a) (stepB l o b p m a) (stepP l o b p m a) := by
  obtain ⟨v, lb, lp, wo, hok⟩ := xj2 hd s.r
  have := s.l0; have := s.l1; have ho := s.o
  obtain ⟨c1, c2, c3⟩ := run_full v hd (A := z) (B := 1099511627776 - left) (by omega) h0 (apl l m) ⟨b, p, List.replicate (l.length + 1) 0, a⟩ apl_nodup apl_mem (An.fit0 lb lp) (fun i hi => hok i hi) ⟨h1, h2⟩
    (fun i hi => s.b i (apl_mem i hi)) (fun j hj => by have := s.b j hj; simp only; omega)
  have c2 : -z ≤ (dvAll l m b p a).1.r ∧ (dvAll l m b p a).1.r ≤ z := c2
  have c3 : ∀ j, j < l.length → -(z + (1099511627776 - left)) ≤ (dvAll l m b p a).1.b.getD j 0 ∧ (dvAll l m b p a).1.b.getD j 0 ≤ z + (1099511627776 - left) := c3
  have hE : stepE l o b p m a = 0 := StepI.mk' s.r m0 m1 (by rw [xe8]; omega) c1 (by rw [xe8]; omega)
  have t := StepI.of hd hE
  refine ⟨hE, t.right, by omega, by omega, by rw [t.eo]; omega, fun j hj => by have := c3 j hj; rw [t.eb]; omega⟩
theorem getD_Z {l : List Deal} {j : Nat} : (List.replicate l.length (0 : Int)).getD j 0 = 0 := grep0
theorem take_zero {q : Rat} : take q 0 = 0 := by
  have : take q 0 = (0 : Rat).floor := by simp [take]
  rw [this]; rfl
theorem right0 {l : List Deal} (hv : validL l = true) : rightL l 0 (List.replicate l.length 0) (List.replicate l.length 0) = true :=
  right_mk hv (by simp) (by simp) (by decide) fun j _ => by simp only [getD_Z, take_zero]; decide
theorem fullI0 {l : List Deal} (hv : validL l = true) : FullI l 1099511627776 0 (List.replicate l.length 0) (List.replicate l.length 0) :=
  ⟨right0 hv, by decide, by decide, by decide, fun j _ => by rw [getD_Z]; decide⟩
end An.S

/- Law 24: SplitFull: an amount that fits is not rejected. -/
namespace An.S
open Go Go.Proofs An
set_option maxHeartbeats 2000000
set_option maxRecDepth 100000
end An.S

/- Several results, of which some lead to own memory: a tuple of own values. For any program. -/
namespace An
open Go
/-- A part of a tuple, as what a slot holds. -/
def VP.ent : VP → Ent
  | .ty u => .val u
  | p => .own p
section
variable {P : Program} {c : Base} {g : Slots} {h : Keys} {al : Names} {d ty : Nat} {pos : String} {af : Array Edge} {gd : Option (Nat × Bool)}
end
end An

/- A call that is handed an own slice to read, and hands back a plain value: what is one's own stays so. For any program. -/
namespace An
open Go
section
variable {P : Program} {c : Base} {d ty : Nat} {pos : String} {af : Array Edge} {gd : Option (Nat × Bool)}
/-- Arguments: values, or the own slice. -/
def ArgsR (k es len : Nat) (t0 : Ty) : List Ent → List Ty → Prop
  | [], [] => True
  | e :: r, t :: s => (e = .val t ∨ (e = .own (.sl k es 0 len) ∧ t = t0)) ∧ ArgsR k es len t0 r s
  | _, _ => False
theorem ArgsR.all {g : Slots} {h : Keys} {al : Names} {a : Act} {w : World} {η : Env} {k T es len : Nat} {agg : Bool} {ts : List Ent} {α : Type} {f : α → Ty} {zs : List α} (st : St' c g h al a w η) (hk : h k = some ⟨T, es, agg, ts⟩) (hlb : NoLb c) (hts : (ts.drop 0).take len = zs.map fun x => .val (f x)) (hl : zs.length = len) :
    ∀ {xs : List Operand} {es' : List Ent} {us : List Ty}, Rd g (xs.zip es') → xs.length = us.length → ArgsR k es len (tL es agg f zs) es' us → Tup.all (c.dom (upd h k none) η) w us (xs.map a.eval)
  | [], _, [], _, _, _ => trivial
  | x :: xs, e :: es', u :: us, hr, hn, ha => by
    refine ⟨?_, ArgsR.all st hk hlb hts hl hr.2 (by simpa using hn) ha.2⟩
    rcases ha.1 with e1 | ⟨e1, e2⟩
    · subst e1
      exact (xb9 (st.drop k) hr.1).1
    · subst e1; subst e2
      exact st.give hk hlb hts hl (xb9 st hr.1).1
  | [], _, _ :: _, _, hn, _ => by simp at hn
  | _ :: _, _, [], _, hn, _ => by simp at hn
  | _ :: _, [], _ :: _, _, _, ha => ha.elim
end
end An

/- Maps of one's own: made, read, written, walked. For any program. -/
namespace An
open Go
/-! ### Codes: what a map holds, as a number -/
def cP (a b : Nat) : Nat := 2 ^ a * (2 * b + 1)
theorem cP_pos {a b : Nat} : 0 < cP a b := Nat.mul_pos (Nat.pow_pos (by decide)) (by omega)
theorem cP_succ {a b : Nat} : cP (a + 1) b = 2 * cP a b := by rw [cP, cP, Nat.pow_succ, Nat.mul_comm (2 ^ a) 2, Nat.mul_assoc]
theorem cP_zero {b : Nat} : cP 0 b = 2 * b + 1 := by simp [cP]
theorem cP_inj : ∀ {a b a' b' : Nat}, cP a b = cP a' b' → a = a' ∧ b = b'
  | 0, b, 0, b', h => by rw [cP_zero, cP_zero] at h; exact ⟨rfl, by omega⟩
  | a + 1, b, a' + 1, b', h => by
    rw [cP_succ, cP_succ] at h
    have := cP_inj (a := a) (b := b) (a' := a') (b' := b') (by omega)
    exact ⟨by omega, this.2⟩
  | 0, b, a' + 1, b', h => by rw [cP_zero, cP_succ] at h; omega
  | a + 1, b, 0, b', h => by rw [cP_zero, cP_succ] at h; omega
def cL : List Nat → Nat
  | [] => 0
  | x :: r => cP x (cL r)
theorem cL_inj : ∀ {l m : List Nat}, cL l = cL m → l = m
  | [], [], _ => rfl
  | [], y :: s, h => by simp only [cL] at h; have := cP_pos (a := y) (b := cL s); omega
  | x :: r, [], h => by simp only [cL] at h; have := cP_pos (a := x) (b := cL r); omega
  | x :: r, y :: s, h => by
    simp only [cL] at h
    obtain ⟨h1, h2⟩ := cP_inj h
    rw [h1, cL_inj h2]
def cI : Int → Nat
  | .ofNat n => 2 * n
  | .negSucc n => 2 * n + 1
theorem cI_inj : ∀ {x y : Int}, cI x = cI y → x = y
  | .ofNat n, .ofNat m, h => by simp only [cI] at h; rw [show n = m by omega]
  | .negSucc n, .negSucc m, h => by simp only [cI] at h; rw [show n = m by omega]
  | .ofNat n, .negSucc m, h => by simp only [cI] at h; omega
  | .negSucc n, .ofNat m, h => by simp only [cI] at h; omega
theorem map_injL {α β : Type} {f : α → β} (hf : ∀ x y, f x = f y → x = y) : ∀ {l m : List α}, l.map f = m.map f → l = m
  | [], [], _ => rfl
  | [], _ :: _, h => by cases h
  | _ :: _, [], h => by cases h
  | x :: r, y :: s, h => by
    simp only [List.map_cons, List.cons.injEq] at h
    rw [hf x y h.1, map_injL hf h.2]
/-! ### What a map holds -/
/-- Keys and elements as values, and as numbers. -/
structure MK (α β : Type) where
  fk : α → Value
  fv : β → Value
  ca : α → Nat
  cb : β → Nat
  ja : ∀ x y, ca x = ca y → x = y
  jb : ∀ x y, cb x = cb y → x = y
/-- The map at a block, its entries as they came; the walk over it: where its book is, which entries have been. -/
structure MS (α β : Type) where
  b : Nat
  l : List (α × β)
  it : Option (Nat × List Nat)
variable {α β : Type}
def MK.ents (M : MK α β) : Nat → List (α × β) → List MapEntry
  | _, [] => []
  | i, p :: r => ⟨M.fk p.1, M.fv p.2, i⟩ :: M.ents (i + 1) r
def MK.obj (M : MK α β) (l : List (α × β)) : Obj := .map (M.ents 0 l).toArray l.length
def MK.c2 (M : MK α β) (p : α × β) : Nat := cP (M.ca p.1) (M.cb p.2)
theorem MK.c2_inj (M : MK α β) (x y : α × β) (h : M.c2 x = M.c2 y) : x = y := by
  obtain ⟨h1, h2⟩ := cP_inj h
  exact Prod.ext (M.ja _ _ h1) (M.jb _ _ h2)
def cIt : Option (Nat × List Nat) → Nat
  | none => 0
  | some (r, q) => cP r (cL q)
theorem cIt_inj : ∀ {x y : Option (Nat × List Nat)}, cIt x = cIt y → x = y
  | none, none, _ => rfl
  | none, some (r, q), h => by simp only [cIt] at h; have := cP_pos (a := r) (b := cL q); omega
  | some (r, q), none, h => by simp only [cIt] at h; have := cP_pos (a := r) (b := cL q); omega
  | some (r, q), some (r', q'), h => by
    obtain ⟨h1, h2⟩ := cP_inj h
    rw [h1, cL_inj h2]
def MK.code (M : MK α β) : Option (MS α β) → Nat
  | none => 0
  | some s => cP s.b (cP (cL (s.l.map M.c2)) (cIt s.it))
theorem MK.code_inj (M : MK α β) : ∀ {x y : Option (MS α β)}, M.code x = M.code y → x = y
  | none, none, _ => rfl
  | none, some s, h => by simp only [MK.code] at h; have := cP_pos (a := s.b) (b := cP (cL (s.l.map M.c2)) (cIt s.it)); omega
  | some s, none, h => by simp only [MK.code] at h; have := cP_pos (a := s.b) (b := cP (cL (s.l.map M.c2)) (cIt s.it)); omega
  | some ⟨b, l, t⟩, some ⟨b', l', t'⟩, h => by
    obtain ⟨h1, h2⟩ := cP_inj h
    obtain ⟨h3, h4⟩ := cP_inj h2
    have h1 : b = b' := h1
    have h3 : l = l' := map_injL M.c2_inj (cL_inj h3)
    have h4 : t = t' := cIt_inj h4
    rw [h1, h3, h4]
/-- What lies in memory. -/
def MK.at (M : MK α β) : Option (MS α β) → Dom → Dom → World → Prop
  | none, _, _, _ => True
  | some s, O, V, w => (w.heap[s.b]? = some (M.obj s.l) ∧ V s.b ∧ ¬ O s.b) ∧ ∀ r q, s.it = some (r, q) → w.heap[r]? = some (.mapIter (some s.b) s.l.length q.toArray s.l.length) ∧ V r ∧ ¬ O r ∧ r ≠ s.b
def MK.J (M : MK α β) (n : Nat) (O V : Dom) (w : World) : Prop := ∃ s, M.code s = n ∧ M.at s O V w
theorem MK.J_at (M : MK α β) {s : Option (MS α β)} {O V : Dom} {w : World} : M.J (M.code s) O V w ↔ M.at s O V w := by
  constructor
  · rintro ⟨t, h1, h2⟩
    rw [← M.code_inj h1]; exact h2
  · exact fun h => ⟨s, rfl, h⟩
theorem MK.Jc (M : MK α β) : JcOf M.J := by
  rintro n O O' V w w' ⟨s, h1, h2⟩ hs hO
  refine ⟨s, h1, ?_⟩
  cases s with
  | none => trivial
  | some s =>
    obtain ⟨⟨h3, h4, h5⟩, h6⟩ := h2
    have key : ∀ b, b < w.heap.size → ¬ O b → ¬ O' b := fun b hb h h' => by
      rcases (hO b h').2 with h7 | h7
      · exact h h7
      · omega
    refine ⟨⟨(hs.block _ (xd5 h3) h5).trans h3, h4, key _ (xd5 h3) h5⟩, fun r q hr => ?_⟩
    obtain ⟨h7, h8, h9, h10⟩ := h6 r q hr
    exact ⟨(hs.block _ (xd5 h7) h9).trans h7, h8, key _ (xd5 h7) h9, h10⟩
/-- A call that has a map of its own. -/
structure MB (M : MK α β) (c : Base) (K : Nat) : Prop where
  yk : c.yk = some K
  ln : K ∈ c.ln
  c0 : c.lη.c K = 0
  ro : c.ro = none
  J : c.J = M.J
def Base.maps (N : Nat) (w : World) (F : Dom) (K : Nat) (M : MK α β) : Base := ⟨N, w, F, [K], ⟨fun _ => 0, fun _ => 0, fun _ => False⟩, fun _ => False, none, [], [], fun _ => False, some K, fun _ => False, M.J, M.Jc⟩
theorem MB.mk' {M : MK α β} {N K : Nat} {w : World} {F : Dom} : MB M (Base.maps N w F K M) K := ⟨rfl, by simp [Base.maps], rfl, rfl, rfl⟩
theorem Plain.maps {M : MK α β} {N K : Nat} {w : World} {F : Dom} : Plain (Base.maps N w F K M) w F := ⟨rfl, rfl, fun _ h => h, fun _ h => h, trivial⟩
section
variable {P : Program} {c : Base} {g : Slots} {h : Keys} {al : Names} {Q : Exit → Act → World → Prop} {M : MK α β} {K : Nat}
/-- One operation that changes the map, or only reads it; what comes of it may be one of many. -/
theorem wl_ghost {A : Array Oper} {rest : List Oper} {o : Oper} {d : Nat} {s : Option (MS α β)} {ι : Type} (p : ι → Prop) (t : ι → Ty) (s' : ι → Option (MS α β)) (hB : MB M c K) (hdst : o.dst = some d)
    (hw : ∀ a w η, St' c g h al a w η → Region.wanted o (yielded A a.tmps) = true) (hdN : Nat.blt d c.N = true) (hK : h K = some ⟨M.code s, 1, false, []⟩)
    (hrun : ∀ a w η, St' c g h al a w η → M.at s (c.chg h η) η.vo w → ∃ i v w' V', (execOp a.eval o).run P w = .ok (.value v) w' ∧ Kept η.vo V' w w' ∧ M.at (s' i) (c.chg h η) V' w' ∧ (∀ F, (t i).p F w' v) ∧ p i)
    (H : ∀ i, p i → wl P c A Q rest (upd g d (some (.val (t i)))) (upd h K (some ⟨M.code (s' i), 1, false, []⟩)) al) : wl P c A Q (o :: rest) g h al := fun a w ⟨η, st⟩ => by
  unfold wpListIn
  rw [if_pos (hw a w η st)]
  have hj := st.jj K _ hB.yk hK
  rw [hB.J] at hj
  obtain ⟨i, v, w', V', h1, h2, h3, h4, h5⟩ := hrun a w η st (M.J_at.1 hj)
  refine xg6 h1 ?_
  have s2 := st.fed hB.yk hB.ln hB.c0 hK h2 (m := M.code (s' i)) (by rw [hB.J]; exact M.J_at.2 h3)
  rw [hdst]
  exact H i h5 _ _ ⟨_, s2.put (by simpa using hdN) (e := .val (t i)) (h4 _) fun k hk => by cases hk⟩
/-- The same, with nothing handed back. -/
theorem wl_ghost0 {A : Array Oper} {rest : List Oper} {o : Oper} {s : Option (MS α β)} (s' : Option (MS α β)) (hB : MB M c K) (hdst : o.dst = none)
    (hw : ∀ a w η, St' c g h al a w η → Region.wanted o (yielded A a.tmps) = true) (hK : h K = some ⟨M.code s, 1, false, []⟩)
    (hrun : ∀ a w η, St' c g h al a w η → M.at s (c.chg h η) η.vo w → ∃ w' V', (execOp a.eval o).run P w = .ok .skip w' ∧ Kept η.vo V' w w' ∧ M.at s' (c.chg h η) V' w')
    (H : wl P c A Q rest g (upd h K (some ⟨M.code s', 1, false, []⟩)) al) : wl P c A Q (o :: rest) g h al := fun a w ⟨η, st⟩ => by
  unfold wpListIn
  rw [if_pos (hw a w η st)]
  have hj := st.jj K _ hB.yk hK
  rw [hB.J] at hj
  obtain ⟨w', V', h1, h2, h3⟩ := hrun a w η st (M.J_at.1 hj)
  refine upon_skip h1 ?_
  have s2 := st.fed hB.yk hB.ln hB.c0 hK h2 (m := M.code s') (by rw [hB.J]; exact M.J_at.2 h3)
  rw [hdst]
  exact H _ _ ⟨_, s2⟩
end
end An

/- Maps of one's own: the operations. For any program. -/
namespace An
open Go
variable {α β : Type} {M : MK α β}
theorem MK.ents_len (M : MK α β) : ∀ (l : List (α × β)) (i : Nat), (M.ents i l).length = l.length
  | [], _ => rfl
  | _ :: r, i => by rw [MK.ents, List.length_cons, M.ents_len r]; rfl
theorem MK.ents_get (M : MK α β) : ∀ (l : List (α × β)) (i j : Nat), (M.ents i l)[j]? = l[j]?.map fun p => ⟨M.fk p.1, M.fv p.2, i + j⟩
  | [], _, _ => by simp [MK.ents]
  | p :: r, i, 0 => by simp [MK.ents]
  | p :: r, i, j + 1 => by
    rw [MK.ents, List.getElem?_cons_succ, List.getElem?_cons_succ, M.ents_get r (i + 1) j, show i + 1 + j = i + (j + 1) by omega]
theorem MK.ents_mem {l : List (α × β)} {e : MapEntry} (he : e ∈ M.ents 0 l) : ∃ i p, l[i]? = some p ∧ e = ⟨M.fk p.1, M.fv p.2, i⟩ := by
  obtain ⟨i, hi⟩ := List.getElem?_of_mem he
  rw [M.ents_get] at hi
  cases hp : l[i]? with
  | none => rw [hp] at hi; cases hi
  | some p => rw [hp] at hi; simp at hi; exact ⟨i, p, hp, hi.symm⟩
theorem MK.ents_at {l : List (α × β)} {i : Nat} {p : α × β} (h : l[i]? = some p) : (⟨M.fk p.1, M.fv p.2, i⟩ : MapEntry) ∈ M.ents 0 l := by
  refine List.mem_of_getElem? (i := i) ?_
  rw [M.ents_get, h]; simp
theorem MK.ents_born (M : MK α β) : ∀ (l : List (α × β)) (i : Nat), (M.ents i l).map (·.born) = List.range' i l.length
  | [], _ => rfl
  | _ :: r, i => by rw [MK.ents, List.map_cons, M.ents_born r, List.length_cons, List.range'_succ]
theorem MK.ents_nodup {l : List (α × β)} : ((M.ents 0 l).map (·.born)).Nodup := by rw [M.ents_born]; exact List.nodup_range'
theorem MK.ents_lt {l : List (α × β)} {e : MapEntry} (he : e ∈ M.ents 0 l) : e.born < l.length := by
  obtain ⟨i, p, h1, rfl⟩ := MK.ents_mem he
  exact (List.getElem?_eq_some_iff.1 h1).1
section
variable [DecidableEq α]
/-- Where a key stands, and its element. -/
def getI (a : α) : Nat → List (α × β) → Option (Nat × β)
  | _, [] => none
  | i, p :: r => if a = p.1 then some (i, p.2) else getI a (i + 1) r
theorem getI_some {a : α} : ∀ {l : List (α × β)} {i j : Nat} {v : β}, getI a i l = some (j, v) → i ≤ j ∧ l[j - i]? = some (a, v)
  | [], _, _, _, h => by cases h
  | p :: r, i, j, v, h => by
    rw [getI] at h
    split at h
    · rename_i e
      cases h
      exact ⟨Nat.le_refl _, by simp [e]⟩
    · obtain ⟨h1, h2⟩ := getI_some h
      refine ⟨by omega, ?_⟩
      rw [show j - i = (j - (i + 1)) + 1 by omega, List.getElem?_cons_succ]; exact h2
theorem getI_none {a : α} : ∀ {l : List (α × β)} {i : Nat}, getI a i l = none ↔ ∀ p ∈ l, p.1 ≠ a
  | [], _ => by simp [getI]
  | p :: r, i => by
    rw [getI]
    split
    · rename_i e
      simp [e]
    · rename_i e
      rw [getI_none (l := r) (i := i + 1)]
      have e2 : ¬ p.1 = a := fun h => e h.symm
      simp [e2]
def getM (l : List (α × β)) (a : α) : Option β := (getI a 0 l).map (·.2)
/-- m[k]: what is there, or the new entry. -/
def entM (z : β) (l : List (α × β)) (a : α) : List (α × β) := if (getI a 0 l).isSome then l else l ++ [(a, z)]
def entV (z : β) (l : List (α × β)) (a : α) : β := ((getI a 0 l).map (·.2)).getD z
def entI (l : List (α × β)) (a : α) : Nat := ((getI a 0 l).map (·.1)).getD l.length
/-- m[k] = v. -/
def putM (l : List (α × β)) (a : α) (v : β) : List (α × β) := match getI a 0 l with
  | some (i, _) => l.set i (a, v)
  | none => l ++ [(a, v)]
/-- The entry at a stamp, changed. -/
def setV (l : List (α × β)) (i : Nat) (v : β) : List (α × β) := match l[i]? with
  | some p => l.set i (p.1, v)
  | none => l
theorem find_ents {d : TypeDesc} (hs : ∀ x y, Instr.sameNow d (M.fk x) (M.fk y) = some (decide (x = y))) (a : α) : ∀ (l : List (α × β)) (i : Nat), Instr.findNow d (M.fk a) (M.ents i l) i = some ((getI a i l).map fun x => (x.1, M.fv x.2))
  | [], _ => rfl
  | p :: r, i => by
    rw [MK.ents, Instr.findNow, getI]
    by_cases h : a = p.1
    · simp [hs, h]
    · simp [hs, h, find_ents hs a r (i + 1)]
end
/-- A map's type, and that its keys are compared. -/
structure MapF [DecidableEq α] (P : Program) (t : TypeId) (M : MK α β) (z : β) : Prop where
  und : ∃ kt e d, P.underlying t = some (.map kt e) ∧ P.underlying kt = some d ∧ (∀ x y, Instr.sameNow d (M.fk x) (M.fk y) = some (decide (x = y))) ∧ (∀ x, MapKept.IsKey d (M.fk x)) ∧ (∀ x, Instr.sameBits 10000 (M.fk x) (M.fk x) = true) ∧ ∀ w, (zeroValue e).run P w = .ok (M.fv z) w
section
variable {P : Program} {w : World} {b : Nat} {l : List (α × β)} [DecidableEq α] {t : TypeId} {z : β}
theorem run_lookupM (hf : MapF P t M z) (hb : w.heap[b]? = some (M.obj l)) (a : α) : (Instr.lookup t (.map (some b)) (M.fk a) false).run P w = .ok (M.fv ((getM l a).getD z)) w := by
  obtain ⟨kt, e, d, ht, hd, hs, hk, hy, hz⟩ := hf.und
  have h1 := MapKept.run_findKey (w := w) hd (find_ents hs a l 0)
  have h2 := fun em => MapKept.run_checkKey (w := w) hd (hk a) em 9999
  have hb' : w.heap[b]? = some (.map (M.ents 0 l).toArray l.length) := hb
  cases hg : getI a 0 l with
  | none => simp [hg] at h1; simp [Instr.lookup, run_underlying ht, MapKept.run_getObj_map hb', h2, h1, hz, Result.andThen, getM, hg]
  | some x => simp [hg] at h1; simp [Instr.lookup, run_underlying ht, MapKept.run_getObj_map hb', h2, h1, Result.andThen, getM, hg]
omit [DecidableEq α] in
theorem ents_push {p : α × β} : (M.ents 0 l).toArray.push ⟨M.fk p.1, M.fv p.2, l.length⟩ = (M.ents 0 (l ++ [p])).toArray := by
  apply Array.ext'
  rw [Array.toList_push]
  apply List.ext_getElem?
  intro i
  rw [M.ents_get]
  rcases Nat.lt_trichotomy i l.length with h | h | h
  · rw [List.getElem?_append_left (by rw [M.ents_len]; exact h), List.getElem?_append_left h, M.ents_get]
  · subst h
    rw [List.getElem?_append_right (by rw [M.ents_len]; exact Nat.le_refl _), List.getElem?_append_right (Nat.le_refl _), M.ents_len]; simp
  · rw [List.getElem?_append_right (by rw [M.ents_len]; omega), List.getElem?_append_right (by omega), M.ents_len, List.getElem?_eq_none (by simp; omega), List.getElem?_eq_none (by simp; omega)]; rfl
omit [DecidableEq α] in
theorem ents_set {i : Nat} {p : α × β} {f : MapEntry → MapEntry} (hf : ∀ q, l[i]? = some q → f ⟨M.fk q.1, M.fv q.2, i⟩ = ⟨M.fk p.1, M.fv p.2, i⟩) : (M.ents 0 l).modify i f = M.ents 0 (l.set i p) := by
  apply List.ext_getElem?
  intro j
  rw [M.ents_get, List.getElem?_modify, List.getElem?_set, M.ents_get]
  by_cases h : i = j
  · subst h
    cases hq : l[i]? with
    | none =>
      have : l.length ≤ i := List.getElem?_eq_none_iff.1 hq
      simp; omega
    | some q =>
      have := (List.getElem?_eq_some_iff.1 hq).1
      simp [hf q hq, this]
  · simp [h]
end
section
variable {P : Program} {w : World} {b : Nat} {l : List (α × β)} {t : TypeId}
end
section
variable {P : Program} {w : World} {b : Nat} {l : List (α × β)} [DecidableEq α] {t : TypeId} {z : β}
theorem run_updateM (hf : MapF P t M z) (hb : w.heap[b]? = some (M.obj l)) (a : α) (v : β) : (Instr.mapUpdate t (.map (some b)) (M.fk a) (M.fv v)).run P w = .ok () (ChangeMaps.setBlock w b (M.obj (putM l a v))) := by
  obtain ⟨kt, e, d, ht, hd, hs, hk, hy, hz⟩ := hf.und
  have h1 := MapKept.run_findKey (w := w) hd (find_ents hs a l 0)
  have h2 := fun em => MapKept.run_checkKey (w := w) hd (hk a) em 9999
  have hb' : w.heap[b]? = some (.map (M.ents 0 l).toArray l.length) := hb
  have hset := fun o => MapKept.run_setObj_map (P := P) o hb'
  cases hg : getI a 0 l with
  | none =>
    simp [hg] at h1
    have hp := ents_push (M := M) (l := l) (p := (a, v))
    simp [Instr.mapUpdate, run_underlying ht, MapKept.run_getObj_map hb', h2, h1, hset, Result.andThen, putM, hg, ChangeMaps.setBlock, MK.obj]
    rw [← hp]; simp
  | some x =>
    obtain ⟨i, u⟩ := x
    have hi := (getI_some hg).2
    simp only [Nat.sub_zero] at hi
    simp [hg] at h1
    have he : (M.ents 0 l)[i]? = some ⟨M.fk a, M.fv u, i⟩ := by rw [M.ents_get, hi]; simp
    have hm := ents_set (M := M) (l := l) (i := i) (p := (a, v)) (f := fun e => { e with key := M.fk a, val := M.fv v }) (fun q hq => by rfl)
    simp [Instr.mapUpdate, run_underlying ht, MapKept.run_getObj_map hb', h2, h1, he, Instr.keyThatStays, hy, hset, Result.andThen, putM, hg, ChangeMaps.setBlock, MK.obj, hm]
end
theorem stp_set {V : Dom} {w : World} {b : Nat} {o : Obj} (hV : V b) : Stp V w (ChangeMaps.setBlock w b o) := ⟨rfl, rfl, rfl, by simp [ChangeMaps.setBlock], fun x _ hx => by
  show (w.heap.setIfInBounds b o)[x]? = _
  rw [Array.getElem?_setIfInBounds, if_neg (fun e => hx (by rw [← e]; exact hV))]⟩
theorem set_same {w : World} {b : Nat} {o o' : Obj} (hb : w.heap[b]? = some o) : (ChangeMaps.setBlock w b o').heap[b]? = some o' := (MapKept.heap_set hb).1
theorem set_other {w : World} {b x : Nat} {o' : Obj} (hx : x ≠ b) : (ChangeMaps.setBlock w b o').heap[x]? = w.heap[x]? := by
  show (w.heap.setIfInBounds b o')[x]? = _
  rw [Array.getElem?_setIfInBounds, if_neg (fun e => hx e.symm)]
section
variable {P : Program} {c : Base} {g : Slots} {h : Keys} {al : Names} {Q : Exit → Act → World → Prop} {K : Nat} {A : Array Oper} {rest : List Oper} {d ty : Nat} {pos : String} {af : Array Edge} {gd : Option (Nat × Bool)} {t : TypeId} {b : Nat} {l : List (α × β)}
theorem kept_same {a : Act} {w w' : World} {η : Env} (st : St' c g h al a w η) (hs : Stp η.vo w w') : Kept η.vo η.vo w w' :=
  ⟨hs, fun _ h => h, fun b hb => ⟨Nat.lt_of_lt_of_le (st.fr.vnew b hb).1 hs.size, .inl hb⟩⟩
theorem kept_new {a : Act} {w : World} {η : Env} (o : Obj) (st : St' c g h al a w η) : Kept η.vo (fun x => η.vo x ∨ x = w.heap.size) w (w.alloc o) :=
  ⟨⟨rfl, rfl, rfl, by simp, fun b hb _ => (MapKept.heap_alloc w o).2 b hb⟩, fun _ h => .inl h, fun b hb => by
    rcases hb with hb | rfl
    · exact ⟨by have := (st.fr.vnew b hb).1; simp; omega, .inl hb⟩
    · exact ⟨by simp, .inr (Nat.le_refl _)⟩⟩
/-- make. -/
theorem wl_makeM (hB : MB M c K) (hw : ∀ a w η, St' c g h al a w η → Region.wanted ⟨some d, .makeMap t none, ty, pos, af, gd⟩ (yielded A a.tmps) = true) (hdN : Nat.blt d c.N = true) (hK : h K = some ⟨0, 1, false, []⟩)
    (H : ∀ b, wl P c A Q rest (upd g d (some (.val (tE (.map (some b)))))) (upd h K (some ⟨M.code (some ⟨b, [], none⟩), 1, false, []⟩)) al) : wl P c A Q (⟨some d, .makeMap t none, ty, pos, af, gd⟩ :: rest) g h al :=
  wl_ghost (s := none) (fun _ => True) (fun b => tE (.map (some b))) (fun b => some ⟨b, [], none⟩) hB rfl hw hdN hK (fun a w η st _ => ⟨w.heap.size, _, _, _, rfl, kept_new _ st, ⟨⟨(MapKept.heap_alloc w _).1, .inr rfl, fun hO => absurd (st.chg_lt hO) (Nat.lt_irrefl _)⟩, fun r q hr => by cases hr⟩, fun _ => rfl, trivial⟩) fun b _ => H b
/-- m[k] = v. -/
theorem wl_putM [DecidableEq α] {z : β} {x y u : Operand} {a : α} {v : β} (hf : MapF P t M z) (hB : MB M c K) (hw : ∀ a w η, St' c g h al a w η → Region.wanted ⟨none, .mapUpdate t x y u, ty, pos, af, gd⟩ (yielded A a.tmps) = true)
    (hx : look g x = some (.val (tE (.map (some b))))) (hy : look g y = some (.val (tE (M.fk a)))) (hu : look g u = some (.val (tE (M.fv v)))) (hK : h K = some ⟨M.code (some ⟨b, l, none⟩), 1, false, []⟩)
    (H : wl P c A Q rest g (upd h K (some ⟨M.code (some ⟨b, putM l a v, none⟩), 1, false, []⟩)) al) : wl P c A Q (⟨none, .mapUpdate t x y u, ty, pos, af, gd⟩ :: rest) g h al :=
  wl_ghost0 (s := some ⟨b, l, none⟩) (some ⟨b, putM l a v, none⟩) hB rfl hw hK (fun a' w η st hm => by
    have e1 : a'.eval x = .map (some b) := (xb9 st hx).1
    have e2 : a'.eval y = M.fk a := (xb9 st hy).1
    have e3 : a'.eval u = M.fv v := (xb9 st hu).1
    obtain ⟨⟨h1, h2, h3⟩, _⟩ := hm
    refine ⟨_, η.vo, ?_, kept_same st (stp_set (b := b) (o := M.obj (putM l a v)) h2), ⟨⟨set_same h1, h2, h3⟩, fun r q hr => by cases hr⟩⟩
    simp only [execOp, e1, e2, e3, Sem.run_bind, run_updateM hf h1, Result.andThen]; rfl) H
/-- m[k]. -/
theorem d_lookupM [DecidableEq α] {z : β} {x y : Operand} (hf : MapF P t M z) (hB : MB M c K) (b : Nat) (l : List (α × β)) (a : α) :
    Does P c ⟨some d, .lookup t x y false, ty, pos, af, gd⟩ ⟨[(x, .val (tE (.map (some b)))), (y, .val (tE (M.fk a)))], [(K, ⟨M.code (some ⟨b, l, none⟩), 1, false, []⟩)], some (d, some (.val (tE (M.fv (entV z l a))))), [], []⟩ :=
  Does.value rfl fun g h al a' w η hrd hkr st => by
    have e1 : a'.eval x = .map (some b) := (xb9 st hrd.1).1
    have e2 : a'.eval y = M.fk a := (xb9 st hrd.2.1).1
    have hj := st.jj K _ hB.yk hkr.1
    rw [hB.J] at hj
    have hj : M.J (M.code (some ⟨b, l, none⟩)) (c.chg h η) η.vo w := hj
    obtain ⟨⟨h1, _⟩, _⟩ := M.J_at.1 hj
    refine ⟨_, w, ?_, Ext.refl w, rfl, fun k hk => by cases hk⟩
    simp only [execOp, e1, e2, Sem.run_bind, run_lookupM hf h1, Result.andThen]; rfl
/-- A walk begins. -/
theorem wl_rangeM {x : Operand} {kt e : TypeId} (ht : P.underlying t = some (.map kt e)) (hB : MB M c K) (hw : ∀ a w η, St' c g h al a w η → Region.wanted ⟨some d, .range t x, ty, pos, af, gd⟩ (yielded A a.tmps) = true) (hdN : Nat.blt d c.N = true)
    (hx : look g x = some (.val (tE (.map (some b))))) (hK : h K = some ⟨M.code (some ⟨b, l, none⟩), 1, false, []⟩)
    (H : ∀ r, wl P c A Q rest (upd g d (some (.val (tE (.pointer (some ⟨r, 0, none⟩)))))) (upd h K (some ⟨M.code (some ⟨b, l, some (r, [])⟩), 1, false, []⟩)) al) : wl P c A Q (⟨some d, .range t x, ty, pos, af, gd⟩ :: rest) g h al :=
  wl_ghost (s := some ⟨b, l, none⟩) (fun _ => True) (fun r => tE (.pointer (some ⟨r, 0, none⟩))) (fun r => some ⟨b, l, some (r, [])⟩) hB rfl hw hdN hK (fun a w η st hm => by
    have e1 : a.eval x = .map (some b) := (xb9 st hx).1
    obtain ⟨⟨h1, h2, h3⟩, _⟩ := hm
    refine ⟨w.heap.size, _, _, _, ?_, kept_new (.mapIter (some b) l.length #[] l.length) st, ⟨⟨((MapKept.heap_alloc w _).2 b (xd5 h1)).trans h1, .inl h2, h3⟩, fun r q hr => ?_⟩, fun _ => rfl, trivial⟩
    · simp only [execOp, e1, Sem.run_bind, run_range_map w t kt e b _ _ ht h1, Result.andThen]; rfl
    · cases hr
      exact ⟨(MapKept.heap_alloc w _).1, .inr rfl, fun hO => absurd (st.chg_lt hO) (Nat.lt_irrefl _), fun e => by have h9 : b < w.heap.size := xd5 h1; have e : w.heap.size = b := e; omega⟩) fun r _ => H r
/-- A step of the walk. -/
theorem wl_nextM {x : Operand} {r : Nat} {q : List Nat} (hB : MB M c K) (hw : ∀ a w η, St' c g h al a w η → Region.wanted ⟨some d, .next x false, ty, pos, af, gd⟩ (yielded A a.tmps) = true) (hdN : Nat.blt d c.N = true)
    (hx : look g x = some (.val (tE (.pointer (some ⟨r, 0, none⟩))))) (hK : h K = some ⟨M.code (some ⟨b, l, some (r, q)⟩), 1, false, []⟩)
    (hN : (∀ i, i < l.length → i ∈ q) → wl P c A Q rest (upd g d (some (.val (tT [tB false])))) (upd h K (some ⟨M.code (some ⟨b, l, some (r, q)⟩), 1, false, []⟩)) al)
    (hS : ∀ i k v, l[i]? = some (k, v) → i ∉ q → wl P c A Q rest (upd g d (some (.val (tT [tB true, tE (M.fk k), tE (M.fv v)])))) (upd h K (some ⟨M.code (some ⟨b, l, some (r, q ++ [i])⟩), 1, false, []⟩)) al) : wl P c A Q (⟨some d, .next x false, ty, pos, af, gd⟩ :: rest) g h al :=
  wl_ghost (s := some ⟨b, l, some (r, q)⟩) (ι := Option (Nat × α × β)) (fun i => match i with | none => ∀ i, i < l.length → i ∈ q | some (i, k, v) => l[i]? = some (k, v) ∧ i ∉ q) (fun i => match i with | none => tT [tB false] | some (_, k, v) => tT [tB true, tE (M.fk k), tE (M.fv v)])
    (fun i => match i with | none => some ⟨b, l, some (r, q)⟩ | some (i, _, _) => some ⟨b, l, some (r, q ++ [i])⟩) hB rfl hw hdN hK (fun a w η st hm => by
    have e1 : a.eval x = .pointer (some ⟨r, 0, none⟩) := (xb9 st hx).1
    have hm' := hm
    obtain ⟨⟨h1, h2, h3⟩, h4⟩ := hm
    obtain ⟨h5, h6, h7, h8⟩ := h4 r q rfl
    rcases run_next_at (P := P) w ty r b l.length l.length q.toArray (M.ents 0 l).toArray l.length h5 h1 (fun x hx => MK.ents_lt (M := M) (by simpa using hx)) (Nat.le_refl _) with ⟨h0, hrun⟩ | ⟨e, he, w1, hal, hrun⟩
    · refine ⟨none, _, w, η.vo, ?_, kept_same st (Stp.refl _ _), hm', fun F => ⟨[_], rfl, rfl, trivial⟩, fun i hi => ?_⟩
      · simp only [execOp, e1, Sem.run_bind, hrun, Result.andThen]; rfl
      · have := all_seen _ _ h0 ⟨M.fk l[i].1, M.fv l[i].2, i⟩ (by simpa using MK.ents_at (M := M) (List.getElem?_eq_getElem hi))
        simpa using this
    · obtain ⟨hem, hes⟩ := mem_left he
      obtain ⟨i, ⟨k, v⟩, hi, rfl⟩ := MK.ents_mem (M := M) (by simpa using hem)
      have hd1 : Ext w w1 := by
        rcases hal with rfl | rfl
        · exact Ext.refl _
        · exact Ext.drew _
      have hh : w1.heap = w.heap := by rcases hal with rfl | rfl <;> rfl
      refine ⟨some (i, k, v), _, _, η.vo, ?_, kept_same st ((hd1.stp _).trans (stp_set (b := r) (o := .mapIter (some b) l.length (q ++ [i]).toArray l.length) h6) fun _ _ h => h), ⟨⟨?_, h2, h3⟩, fun r' q' hr => ?_⟩, fun F => ⟨[_, _, _], rfl, rfl, rfl, rfl, trivial⟩, hi, by simpa using hes⟩
      · have e2 : q.toArray.push i = (q ++ [i]).toArray := by simp
        simp only [execOp, e1, Sem.run_bind, hrun, Result.andThen, e2]; rfl
      · rw [set_other (fun e => h8 e.symm), hh]; exact h1
      · cases hr
        exact ⟨set_same (by rw [hh]; exact h5), h6, h7, h8⟩) fun i hi => by
    cases i with
    | none => exact hN hi
    | some i => exact hS _ _ _ hi.1 hi.2
/-- The entry of the round. -/
theorem wl_entM {x : Operand} {r i : Nat} {q : List Nat} {k : α} {v : β} (hi : l[i]? = some (k, v)) (hB : MB M c K) (hw : ∀ a w η, St' c g h al a w η → Region.wanted ⟨some d, .entry x, ty, pos, af, gd⟩ (yielded A a.tmps) = true) (hdN : Nat.blt d c.N = true)
    (hx : look g x = some (.val (tE (.pointer (some ⟨r, 0, none⟩))))) (hK : h K = some ⟨M.code (some ⟨b, l, some (r, q ++ [i])⟩), 1, false, []⟩)
    (H : wl P c A Q rest (upd g d (some (.val (tT [tE (M.fk k), tE (M.fv v)])))) (upd h K (some ⟨M.code (some ⟨b, l, some (r, q ++ [i])⟩), 1, false, []⟩)) al) : wl P c A Q (⟨some d, .entry x, ty, pos, af, gd⟩ :: rest) g h al :=
  wl_ghost (s := some ⟨b, l, some (r, q ++ [i])⟩) (ι := Unit) (fun _ => True) (fun _ => tT [tE (M.fk k), tE (M.fv v)]) (fun _ => some ⟨b, l, some (r, q ++ [i])⟩) hB rfl hw hdN hK (fun a w η st hm => by
    have e1 : a.eval x = .pointer (some ⟨r, 0, none⟩) := (xb9 st hx).1
    have hm' := hm
    obtain ⟨⟨h1, h2, h3⟩, h4⟩ := hm
    obtain ⟨h5, h6, h7, h8⟩ := h4 r _ rfl
    have hrun := run_entry_at (P := P) w r b l.length q.toArray (M.ents 0 l).toArray l.length ⟨M.fk k, M.fv v, i⟩ (by rw [h5]; simp) h1 (by simpa using MK.ents_at (M := M) hi) (by simpa using MK.ents_nodup (M := M) (l := l))
    refine ⟨(), _, w, η.vo, ?_, kept_same st (Stp.refl _ _), hm', fun F => ⟨[_, _], rfl, rfl, rfl, trivial⟩, trivial⟩
    simp only [execOp, e1, Sem.run_bind, hrun, Result.andThen]; rfl) fun _ _ => H
end
/-- A call that makes a map. -/
theorem Ct.introM {P : Program} {f : FuncId} {fn : Func} {x : Code} {N : Nat} {ts : List Ty} {r : Ty} (M : MK α β) (K : Nat) (hf : P.funcs[f]? = some fn) (hb : fn.body = some x) (hN : fn.ntmps = N) (hlb : Nat.ble ts.length N = true)
    (H : ∀ w F, MB M (Base.maps N w F K M) K → wc P (Base.maps N w F K M) x (Post P w F fn r) (args 0 ts) (upd (fun _ => none) K (some ⟨0, 1, false, []⟩)) (nm [K])) : Ct P f ts r := by
  intro F w vs hvs
  have hl : ts.length ≤ N := Nat.le_of_ble_eq_true hlb
  have hlen : vs.length = ts.length := by
    clear H hlb hl
    induction ts generalizing vs with
    | nil => cases vs with
      | nil => rfl
      | cons => exact hvs.elim
    | cons t r ih => cases vs with
      | nil => exact hvs.elim
      | cons v s => simp [ih s hvs.2]
  have hkey : ∀ k y, upd (fun _ => none) K (some (⟨0, 1, false, []⟩ : HEnt)) k = some y → k = K ∧ y = ⟨0, 1, false, []⟩ := fun k y hy => by
    by_cases hk : k = K
    · subst hk; rw [xe1] at hy; cases hy; exact ⟨rfl, rfl⟩
    · rw [xd3 _ _ _ hk] at hy; cases hy
  have hK : memN K [K] = true := xe7.2 (by simp)
  have hown : ∀ b, ¬ Own (upd (fun _ => none) K (some (⟨0, 1, false, []⟩ : HEnt))) ⟨fun _ => 0, fun _ => 0, fun _ => False⟩ b := by
    rintro b ⟨k, y, _, hc, _⟩
    exact absurd hc (Nat.lt_irrefl 0)
  refine calls_of_post hf hb (H w F MB.mk' _ w ⟨⟨fun _ => 0, fun _ => 0, fun _ => False⟩, ?_⟩)
  refine ⟨?_, rfl, fun s e hs => ?_, fun k x hx => ?_, fun k k' x x' hx _ _ hc => absurd hc (Nat.lt_irrefl 0), ⟨rfl, rfl, rfl, Nat.le_refl _, fun _ _ _ _ => rfl, fun _ hb => hb, fun _ hb => hb.elim⟩, fun k hk => ?_, fun x hx => (by cases hx), fun b hb => hb.elim, fun k hk => ?_, fun k x hk hx => ?_, fun b hb => hb.elim⟩
  · simp [hlen, hN, Base.maps]; omega
  · obtain ⟨j, t, h1, h2, h3⟩ := args_spec ts 0 s e hs
    subst h3
    have hj : j < ts.length := (List.getElem?_eq_some_iff.1 h2).1
    obtain ⟨v, hv, hp⟩ := Tup.get ts vs j t hvs h2
    refine ⟨by show s < N; omega, fun k hk => (by cases hk), ?_⟩
    have e1 : (vs.toArray ++ Array.replicate (fn.ntmps - vs.toArray.size) undef).getD s undef = v := by
      rw [Array.getD_eq_getD_getElem?, Array.getElem?_append, if_pos (by simp; omega)]
      rw [h1, Nat.zero_add, List.getElem?_toArray, hv]; rfl
    show t.p _ w _
    simp only [e1]
    exact t.mono hp fun b o hb hl _ => ⟨⟨.inr ⟨hb, fun hv => hv⟩, hown b, fun hv => hv, fun hv => hv⟩, hl⟩
  · obtain ⟨rfl, rfl⟩ := hkey k x hx
    exact ⟨hK, fun j hj => (by cases hj), ⟨by simp, by simp, fun _ => rfl, by simp, fun hc => absurd hc (Nat.lt_irrefl 0)⟩, fun hc => absurd hc (Nat.lt_irrefl 0)⟩
  · have hk : k ∈ [K] := hk
    rw [List.mem_singleton.1 hk]
    exact ⟨hK, rfl, rfl⟩
  · have hk : some K = some k := hk
    cases hk
    exact hK
  · have hk : some K = some k := hk
    cases hk
    rw [xe1] at hx
    cases hx
    exact (M.J_at (s := none)).2 trivial
abbrev MK.cd (M : MK α β) (b : Nat) (l : List (α × β)) : Nat := M.code (some ⟨b, l, none⟩)
abbrev MK.ci (M : MK α β) (b : Nat) (l : List (α × β)) (r : Nat) (q : List Nat) : Nat := M.code (some ⟨b, l, some (r, q)⟩)
/-- Maps of whole numbers. -/
abbrev mkII : MK Int Int := ⟨fun k => .int .i64 k, fun v => .int .i64 v, cI, cI, fun _ _ h => cI_inj h, fun _ _ h => cI_inj h⟩
theorem mapF_II {P : Program} {t kt e : TypeId} (h1 : P.underlying t = some (.map kt e)) (h2 : P.underlying kt = some (.int .i64)) (h3 : ∀ w, (zeroValue e).run P w = .ok (.int .i64 0) w) : MapF P t mkII 0 :=
  ⟨kt, e, _, h1, h2, fun x y => by simp only [Instr.sameNow, if_pos]; rfl, fun x => by simp [MapKept.IsKey], fun x => by simp [Instr.sameBits], h3⟩
end An

/- slices.SortFunc at structs, as a contract that is lent the row. For any program. -/
namespace An
open Go Go.Proofs Go.Shelf Go.Sort
section
variable {α : Type} [Inhabited α]
/-- What the sort leaves. -/
def srt (cf : α → α → Int) (xs : List α) : List α := (pdq (ltOf cf) xs.toArray 0 xs.toArray.size (Go.Lib.bitLen xs.toArray.size) true true).toList
theorem srt_spec {cf : α → α → Int} (hO : SWO (ltOf cf)) (xs : List α) : (srt cf xs).length = xs.length ∧ (srt cf xs).Perm xs ∧ (srt cf xs).Pairwise fun a b => ltOf cf b a = false := by
  obtain ⟨⟨h1, _, h2⟩, h3⟩ := pdq_sorts (ltOf cf) hO xs.toArray 0 xs.toArray.size (Go.Lib.bitLen xs.toArray.size) true true (Nat.zero_le _) (Nat.le_refl _) (Or.inl rfl)
  rw [srt]
  generalize pdq (ltOf cf) xs.toArray 0 xs.toArray.size (Go.Lib.bitLen xs.toArray.size) true true = D at *
  have e1 : D.size = xs.length := by simpa using h1
  have x1 : D.extract 0 xs.toArray.size = D := by rw [← h1]; simp
  have x2 : xs.toArray.extract 0 xs.toArray.size = xs.toArray := by simp
  rw [x1, x2] at h2
  refine ⟨by simpa using e1, by simpa using h2, ?_⟩
  rw [List.pairwise_iff_getElem]
  intro i j hi hj hij
  have hi' : i < D.size := by simpa using hi
  have hj' : j < D.size := by simpa using hj
  have h6 := h3 i j (Nat.zero_le _) hij (by rw [← h1]; exact hj')
  rw [getElem!_pos _ i hi', getElem!_pos _ j hj'] at h6
  simpa using h6
end
theorem flat_at {α : Type} [Inhabited α] {enc : α → List Value} {k : Nat} (_hk : ∀ x, (enc x).length = k) (d : Array α) {i j : Nat} (hi : i < d.size) (hj : j < k) : (flatK enc k d)[i * k + j]! = (enc d[i]!)[j]! := by
  have lt : i * k + j < d.size * k := by
    have := Nat.mul_le_mul_right k (show i + 1 ≤ d.size from hi); rw [Nat.add_mul, Nat.one_mul] at this; omega
  rw [get_flatK _ _ _ _ lt]
  have e1 : (i * k + j) / k = i := by rw [Nat.mul_comm, Nat.mul_add_div (by omega), Nat.div_eq_of_lt hj]; omega
  have e2 : (i * k + j) % k = j := by rw [Nat.mul_comm, Nat.mul_add_mod, Nat.mod_eq_of_lt hj]
  rw [e1, e2]
/-- slices.SortFunc. -/
theorem sortG {P : Program} {ρ : Ren} {α : Type} [Inhabited α] (L : SlLaysF0.n6 P ρ) {T k : Nat} {f : α → Ty} {enc : α → List Value} {cf : α → α → Int} {g : Nat} (aE : ∀ w, (isAgg (ρ.t 24)).run P w = .ok true w) (zE : ∀ w, (Go.sizeOf (ρ.t 24)).run P w = .ok k w)
    (hk : ∀ x, (enc x).length = k) (h1 : ∀ x, ∀ v ∈ enc x, v.oneCell' = true) (hf1 : ∀ F w x v, (f x).p F w v → v = .agg (enc x).toArray) (hf2 : ∀ F w x, (f x).p F w (.agg (enc x).toArray)) (hO : SWO (ltOf cf))
    (eg : ∀ args w, (callFunc g args).run P w = .ok (.enter g args) w) (hcmp : ∀ (x y : α) (W : World), Calls P g #[.agg (enc x).toArray, .agg (enc y).toArray] W fun e w' => e = .returned (.int .i64 (cf x y)) ∧ ∃ q os', w' = grow (W.drewN q) os') (xs : List α) (hn : xs.length < 4611686018427387904) :
    CtG P (ρ.f 6) [(1, ⟨T, k, true, rV f xs⟩)] [.own (.sl 1 k 0 xs.length), .val (tE (.func (.func g) #[] #[]))] (.val (tE (.tuple #[]))) [(1, ⟨T, k, true, rV f (srt cf xs)⟩)] [] := by
  intro F w η vs hS hA hI hF
  match vs, hS with
  | [v0, v1], hS =>
  obtain ⟨⟨A, rfl, hle, hadr⟩, h2, _⟩ := hS
  have h2 : v1 = .func (.func g) #[] #[] := h2
  subst h2
  obtain ⟨k1, k2, k3, k4, k5⟩ := hA (1, ⟨T, k, true, rV f xs⟩) (by simp)
  have k1 : (rV f xs).length ≤ η.c 1 := k1
  have k2 : 0 < k := k2
  have k4 : η.c 1 ≤ 9223372036854775807 := k4
  rw [rV_len] at k1
  obtain ⟨s1, s2, _⟩ := srt_spec hO xs
  by_cases h0 : xs.length = 0
  · have hx : xs = [] := List.length_eq_zero_iff.1 h0
    subst hx
    have e0 : srt cf ([] : List α) = [] := List.length_eq_zero_iff.1 s1
    rw [e0]
    refine (AnyF.slices_SortFunc_none L A (η.c 1 - 0) (.func (.func g) #[] #[]) w).mono ?_
    rintro e w' ⟨rfl, rfl⟩
    refine ⟨_, η, rfl, ⟨Stp.refl _ _, fun _ _ => ⟨rfl, rfl⟩, rfl, fun x hx => ?_, hI, fun b hb => .inl hb⟩⟩
    simp only [List.mem_singleton] at hx
    subst hx
    refine ⟨by simp [rV], k2, k3, k4, fun hc => ?_⟩
    obtain ⟨cs, c1, c2, _⟩ := k5 hc
    exact ⟨cs, c1, c2, fun i e hi => by simp [rV] at hi⟩
  · have hc0 : 0 < η.c 1 := by omega
    obtain ⟨cs, c1, c2, c3⟩ := k5 hc0
    have c1 : w.heap[η.b 1]? = some (.cells cs T (0, 0)) := c1
    have c2 : cs.size = η.c 1 * k := c2
    have hA' := hadr hc0
    rw [Nat.zero_mul] at hA'
    subst hA'
    have hblk : η.b 1 < w.heap.size := xd5 c1
    have hmul : ∀ i, i < xs.length → i * k + k ≤ cs.size := fun i hi => by
      rw [c2, ← Nat.succ_mul]; exact Nat.mul_le_mul_right _ (by omega)
    have hget : ∀ i (hi : i < xs.length) j, j < k → cs[i * k + j]? = (enc xs[i])[j]? := fun i hi j hj => by
      have h3 := c3 i (.val (f xs[i])) (by rw [rV, List.getElem?_map, List.getElem?_eq_getElem hi]; rfl)
      have h4 := hf1 _ _ _ _ h3
      simp only [pick, cond_true, Value.agg.injEq] at h4
      have h5 := congrArg (fun a : Array Value => a[j]?) h4
      simp only [Array.getElem?_extract, List.getElem?_toArray] at h5
      have := hmul i hi
      rw [if_pos (by omega)] at h5
      exact h5
    have hsize : xs.toArray.size = xs.length := by simp
    have hH : HoldsK enc k w (η.b 1) 0 xs.toArray := by
      intro j hj
      rw [size_flatK, hsize] at hj
      have hj1 : j / k < xs.length := by rw [Nat.div_lt_iff_lt_mul k2]; exact hj
      have hj2 : j % k < k := Nat.mod_lt _ k2
      have hje : j / k * k + j % k = j := by rw [Nat.mul_comm]; exact Nat.div_add_mod j k
      have h6 := hget (j / k) hj1 (j % k) hj2
      rw [hje] at h6
      have h7 := flat_at hk xs.toArray (i := j / k) (j := j % k) (by rw [hsize]; exact hj1) hj2
      rw [hje] at h7
      have hlen : j % k < (enc xs[j / k]).length := by rw [hk]; exact hj2
      have h8 : xs.toArray[j / k]! = xs[j / k] := by rw [getElem!_pos _ _ (by rw [hsize]; exact hj1)]; simp
      refine ⟨?_, ?_⟩
      · show w.cell? ⟨η.b 1, 0 + j, none⟩ = some (flatK enc k xs.toArray)[j]!
        rw [h7, h8, getElem!_pos (enc xs[j / k]) (j % k) hlen]
        simp only [World.cell?, c1, Nat.zero_add, Option.isSome_none, Bool.false_eq_true, if_false]
        rw [h6, List.getElem?_eq_getElem hlen]
      · simp [World.frozen?, c1]
    have hcon := AnyQ.slices_SortFunc_eq L k aE zE enc hk h1 cf hO g #[] (η.b 1) 0 (η.c 1 - 0) xs.toArray w eg (fun m os dk _ x y => hcmp x y _) hH hblk (by rw [hsize]; exact hn)
    rw [hsize] at hcon
    refine hcon.mono ?_
    rintro e w' ⟨rfl, m, os, rfl⟩
    have hd : (pdq (ltOf cf) xs.toArray 0 xs.length (Go.Lib.bitLen xs.length) true true).size = xs.length := by
      have : (srt cf xs).length = xs.length := s1
      simpa [srt] using this
    have hl : (pdq (ltOf cf) xs.toArray 0 xs.length (Go.Lib.bitLen xs.length) true true).toList = srt cf xs := by simp [srt]
    generalize pdq (ltOf cf) xs.toArray 0 xs.length (Go.Lib.bitLen xs.length) true true = d at hd hl
    have hheap : ∀ b', b' < w.heap.size → (sortWorldK enc k w (η.b 1) 0 m d os).heap[b']? = if b' = η.b 1 then some (.cells (putCells id 0 (flatK enc k d) cs) T (0, 0)) else w.heap[b']? := fun b' hb' => by
      show (grow (putRowK enc k (Sort.ahead w m) (η.b 1) 0 d) os).heap[b']? = _
      rw [heap_grow_old _ _ (by simp [putRowK]; exact hb')]
      simp only [putRowK, putRow, mapBlock, Array.getElem?_modify]
      by_cases hb : b' = η.b 1
      · subst hb
        rw [if_pos rfl, if_pos rfl]
        show Option.map _ (w.heap[η.b 1]?) = _
        rw [c1]; rfl
      · rw [if_neg (fun h => hb h.symm), if_neg hb]; rfl
    have hsz : w.heap.size ≤ (sortWorldK enc k w (η.b 1) 0 m d os).heap.size := by
      show w.heap.size ≤ (grow (putRowK enc k (Sort.ahead w m) (η.b 1) 0 d) os).heap.size
      simp [grow, putRowK, putRow, mapBlock, Sort.ahead]
    refine ⟨_, η, rfl, ⟨⟨rfl, rfl, rfl, hsz, fun b' hb' hn' => ?_⟩, fun _ _ => ⟨rfl, rfl⟩, rfl, fun x hx => ?_, fun x hx y hy hne => ?_, fun b' hb' => .inl ?_⟩⟩
    · rw [hheap b' hb', if_neg]
      intro hb; exact hn' ⟨(1, ⟨T, k, true, rV f xs⟩), by simp, hc0, hb⟩
    · simp only [List.mem_singleton] at hx
      subst hx
      refine ⟨by rw [rV_len, s1]; exact k1, k2, k3, k4, fun _ => ⟨putCells id 0 (flatK enc k d) cs, ?_, ?_, fun i e hi => ?_⟩⟩
      · rw [hheap _ hblk, if_pos rfl]
      · simp only [putCells, Array.size_mapIdx]; exact c2
      · have hil : i < (srt cf xs).length := by
          have := (List.getElem?_eq_some_iff.1 hi).1; rwa [rV_len] at this
        have hi2 : i < xs.length := by rw [← s1]; exact hil
        rw [rV, List.getElem?_map, List.getElem?_eq_getElem hil] at hi
        simp only [Option.map_some, Option.some.injEq] at hi
        subst hi
        have hdi : d[i]! = (srt cf xs)[i] := by
          rw [getElem!_pos d i (by rw [hd]; exact hi2)]
          simp only [← hl, Array.getElem_toList]
        have : pick true k (putCells id 0 (flatK enc k d) cs) (i * k) = .agg (enc (srt cf xs)[i]).toArray := by
          simp only [pick, cond_true, Value.agg.injEq]
          apply Array.ext_getElem?
          intro j
          rw [Array.getElem?_extract]
          have hm := hmul i hi2
          simp only [List.getElem?_toArray]
          by_cases hj : j < k
          · rw [if_pos (by simp only [putCells, Array.size_mapIdx]; omega)]
            have hlt : i * k + j < d.size * k := by
              rw [hd]
              have := Nat.mul_le_mul_right k (show i + 1 ≤ xs.length from hi2); rw [Nat.add_mul, Nat.one_mul] at this; omega
            simp only [putCells, Array.getElem?_mapIdx, size_flatK]
            have hcs : cs[i * k + j]? = some (cs[i * k + j]'(by omega)) := by rw [Array.getElem?_eq_getElem]
            rw [hcs]
            simp only [Option.map_some]
            rw [if_pos ⟨Nat.zero_le _, by omega⟩, Nat.sub_zero, flat_at hk d (by rw [hd]; exact hi2) hj, hdi]
            have hjl : j < (enc (srt cf xs)[i]).length := by rw [hk]; exact hj
            rw [getElem!_pos (enc (srt cf xs)[i]) j hjl, List.getElem?_eq_getElem hjl]; rfl
          · rw [if_neg (by simp only [putCells, Array.size_mapIdx]; omega), List.getElem?_eq_none (by rw [hk]; omega)]
        simp only []
        rw [this]
        exact hf2 _ _ _
    · simp only [List.mem_singleton] at hx hy
      subst hx; subst hy
      exact absurd rfl hne
    · obtain ⟨x, hx, hc, rfl⟩ := hb'
      simp only [List.mem_singleton] at hx
      subst hx
      exact ⟨(1, ⟨T, k, true, rV f xs⟩), by simp, hc, rfl⟩
end An

/- Layer 24: what each account has got: a map of sums, sorted. Plain data. -/
namespace An.S
open An Go Go.Proofs Go.Sort
/-- A sum with the number of an account. -/
structure Sm where
  acc : Int
  amt : Int
  h : 0 ≤ acc ∧ acc ≤ 1099511627776
def sm0 : Sm := ⟨0, 0, by decide⟩
instance : Inhabited Sm := ⟨sm0⟩
abbrev tSm (s : Sm) : Ty := tS [⟨1, false, tI s.acc⟩, ⟨1, false, tI s.amt⟩]
def cfSm (x y : Sm) : Int := x.acc - y.acc
theorem ltSm (x y : Sm) : ltOf cfSm x y = decide (x.acc < y.acc) := by
  unfold ltOf cfSm
  by_cases h : x.acc < y.acc
  · simp [h]; omega
  · simp [h]; omega
theorem swoSm : SWO (ltOf cfSm) where
  irrefl x := by rw [ltSm]; simp
  trans x y z h1 h2 := by rw [ltSm] at *; simp at *; omega
  ntrans x y z h1 h2 := by rw [ltSm] at *; simp at *; omega
/-- Two sorted rows of the same sums are one. -/
theorem sort_uniq : ∀ {xs ys : List Sm}, xs.Perm ys → (xs.Pairwise fun a b => a.acc ≤ b.acc) → (ys.Pairwise fun a b => a.acc ≤ b.acc) → (xs.map Sm.acc).Nodup → xs = ys
  | [], ys, hp, _, _, _ => hp.symm.eq_nil.symm
  | x :: xs, [], hp, _, _, _ => absurd hp.eq_nil (by simp)
  | x :: xs, y :: ys, hp, hx, hy, hn => by
    obtain ⟨x1, x2⟩ := List.pairwise_cons.1 hx
    obtain ⟨y1, y2⟩ := List.pairwise_cons.1 hy
    rw [List.map_cons, List.nodup_cons] at hn
    have hxy : x = y := by
      rcases List.mem_cons.1 (hp.mem_iff.1 (List.mem_cons_self ..)) with e | h1
      · exact e
      · rcases List.mem_cons.1 (hp.mem_iff.2 (List.mem_cons_self ..)) with e | h2
        · exact e.symm
        · have a1 := y1 x h1
          have a2 := x1 y h2
          exact absurd (List.mem_map.2 ⟨y, h2, by omega⟩) hn.1
    subst hxy
    rw [sort_uniq (List.perm_cons x |>.1 hp) x2 y2 hn.2]
theorem srt_pw (xs : List Sm) : (srt cfSm xs).Pairwise fun a b => a.acc ≤ b.acc := by
  refine (srt_spec swoSm xs).2.2.imp fun {a b} h => ?_
  rw [ltSm] at h
  simp at h; omega
theorem srt_perm {xs ys : List Sm} (hp : xs.Perm ys) (hn : (xs.map Sm.acc).Nodup) : srt cfSm xs = srt cfSm ys := by
  have h1 := (srt_spec swoSm xs).2.1
  have h2 := (srt_spec swoSm ys).2.1
  refine sort_uniq (h1.trans (hp.trans h2.symm)) (srt_pw xs) (srt_pw ys) ?_
  exact (h1.map Sm.acc).nodup_iff.2 hn
/-! ### The map -/
theorem put_sum {m : List (Int × Int)} {a v : Int} : ((putM m a v).map (·.2)).sum = (m.map (·.2)).sum - entV 0 m a + v := by
  have set2 : ∀ {m : List (Int × Int)} {i : Nat} {u : Int}, m[i]? = some (a, u) → ((m.set i (a, v)).map (·.2)).sum = (m.map (·.2)).sum - u + v := by
    intro m
    induction m with
    | nil => intro i u h; simp at h
    | cons p r ih =>
      intro i u h
      cases i with
      | zero => simp at h; subst h; simp; omega
      | succ i =>
        have := ih (i := i) (u := u) (by simpa using h)
        simp only [List.set_cons_succ, List.map_cons, List.sum_cons]
        rw [this]; omega
  cases hg : getI a 0 m with
  | none => simp [putM, entV, hg]
  | some x =>
    obtain ⟨i, u⟩ := x
    have := (getI_some hg).2
    simp only [Nat.sub_zero] at this
    simp only [putM, entV, hg, Option.map_some, Option.getD_some]
    exact set2 this
theorem put_mem {m : List (Int × Int)} {a v : Int} {e : Int × Int} (h : e ∈ putM m a v) : e ∈ m ∨ e = (a, v) := by
  rw [putM] at h
  split at h
  · exact List.mem_or_eq_of_mem_set h
  · rcases List.mem_append.1 h with h | h
    · exact .inl h
    · exact .inr (List.mem_singleton.1 h)
theorem put_keys {m : List (Int × Int)} {a v : Int} (hn : (m.map (·.1)).Nodup) : ((putM m a v).map (·.1)).Nodup := by
  cases hg : getI a 0 m with
  | none =>
    simp only [putM, hg, List.map_append, List.map_cons, List.map_nil]
    rw [List.nodup_append]
    refine ⟨hn, by simp, fun x hx y hy => ?_⟩
    rw [List.mem_singleton.1 hy]
    obtain ⟨p, hp, rfl⟩ := List.mem_map.1 hx
    exact getI_none.1 hg p hp
  | some x =>
    obtain ⟨i, u⟩ := x
    have := (getI_some hg).2
    simp only [Nat.sub_zero] at this
    have e : (m.set i (a, v)).map (·.1) = m.map (·.1) := by
      apply List.ext_getElem?
      intro j
      rw [List.getElem?_map, List.getElem?_map, List.getElem?_set]
      by_cases h : i = j
      · subst h
        rw [if_pos rfl, if_pos (List.getElem?_eq_some_iff.1 this).1, this]; rfl
      · rw [if_neg h]
    simp only [putM, hg]
    rw [e]; exact hn
theorem put_len {m : List (Int × Int)} {a v : Int} : (putM m a v).length ≤ m.length + 1 := by
  rw [putM]; split <;> simp
theorem entV_mem {m : List (Int × Int)} {a : Int} : entV 0 m a = 0 ∨ (a, entV 0 m a) ∈ m := by
  cases hg : getI a 0 m with
  | none => left; simp [entV, hg]
  | some x =>
    obtain ⟨i, u⟩ := x
    right
    have := (getI_some hg).2
    simp only [entV, hg, Option.map_some, Option.getD_some]
    exact List.mem_of_getElem? this
theorem sum_tk {l : List Int} {k : Nat} (hk : k < l.length) : (l.take (k + 1)).sum = (l.take k).sum + l.getD k 0 := by
  rw [List.take_succ_eq_append_getElem hk, List.sum_append, List.getD_eq_getElem?_getD, List.getElem?_eq_getElem hk]; simp
theorem perm_sum {xs ys : List Int} (h : xs.Perm ys) : xs.sum = ys.sum := by
  induction h with
  | nil => rfl
  | cons x _ ih => simp [ih]
  | swap x y l => simp; omega
  | trans _ _ h1 h2 => exact h1.trans h2
/-- What the accounts of the first deals have got. -/
def mpS (l : List Deal) (p : List Int) : Nat → List (Int × Int)
  | 0 => []
  | i + 1 => putM (mpS l p i) (l.getD i deal0).acc (entV 0 (mpS l p i) (l.getD i deal0).acc + p.getD i 0)
structure MpI (l : List Deal) (p : List Int) (i : Nat) : Prop where
  keys : ((mpS l p i).map (·.1)).Nodup
  acc : ∀ e ∈ mpS l p i, 1 ≤ e.1 ∧ e.1 ≤ 1099511627776
  amt : ∀ e ∈ mpS l p i, -((i : Int) * 1099511627776) ≤ e.2 ∧ e.2 ≤ (i : Int) * 1099511627776
  sum : ((mpS l p i).map (·.2)).sum = (p.take i).sum
  len : (mpS l p i).length ≤ i
theorem MpI.at {l : List Deal} {p : List Int} (hv : validL l = true) (hl : p.length = l.length) (hw : ∀ i, i < l.length → wIn (p.getD i 0) = true) : ∀ i, i ≤ l.length → MpI l p i
  | 0, _ => ⟨List.nodup_nil, fun e he => (by cases he), fun e he => (by cases he), rfl, Nat.le_refl _⟩
  | i + 1, hi => by
    have ih := MpI.at hv hl hw i (by omega)
    have hw := xe8.1 (hw i (by omega))
    have ha := (Deal.valid_iff.1 (validL_at hv (show i < l.length by omega))).2.2.2.2.2.2.2.2
    have hb : -((i : Int) * 1099511627776) ≤ entV 0 (mpS l p i) (l.getD i deal0).acc ∧ entV 0 (mpS l p i) (l.getD i deal0).acc ≤ (i : Int) * 1099511627776 := by
      rcases entV_mem (m := mpS l p i) (a := (l.getD i deal0).acc) with h | h
      · rw [h]; omega
      · exact ih.amt _ h
    refine ⟨put_keys ih.keys, fun e he => ?_, fun e he => ?_, ?_, ?_⟩
    · rcases put_mem he with h | rfl
      · exact ih.acc e h
      · exact ha
    · rcases put_mem he with h | rfl
      · have := ih.amt e h
        rw [Int.natCast_add]; omega
      · rw [Int.natCast_add]; simp only; omega
    · rw [mpS, put_sum, ih.sum, sum_tk (show i < p.length by omega)]; omega
    · have := put_len (m := mpS l p i) (a := (l.getD i deal0).acc) (v := entV 0 (mpS l p i) (l.getD i deal0).acc + p.getD i 0)
      have := ih.len
      rw [mpS]; omega
/-! ### The walk over the map -/
def mkSm (e : Int × Int) : Sm := if h : 0 ≤ e.1 ∧ e.1 ≤ 1099511627776 then ⟨e.1, e.2, h⟩ else sm0
theorem mkSm_eta (x : Sm) : mkSm (x.acc, x.amt) = x := by simp [mkSm, x.h]
def own0 (o : Int) : Sm := ⟨0, o, by decide⟩
theorem own0_eq {o : Int} : mkSm (0, o) = own0 o := mkSm_eta (own0 o)
/-- The sums, as they come. -/
def vsS (o : Int) (m : List (Int × Int)) (q : List Nat) : List Sm := own0 o :: q.map fun i => mkSm (m.getD i (0, 0))
/-- The sums, sorted. -/
def sumsL (o : Int) (m : List (Int × Int)) : List Sm := srt cfSm (mkSm (0, o) :: m.map mkSm)
theorem nodup_full {q : List Nat} {n : Nat} (hn : q.Nodup) (hq : ∀ i ∈ q, i < n) (hf : ∀ i, i < n → i ∈ q) : q.Perm (List.range n) := by
  rw [List.perm_iff_count]
  intro a
  by_cases h : a < n
  · rw [Nat.le_antisymm (List.nodup_iff_count.1 hn a) (List.count_pos_iff.2 (hf a h)), Nat.le_antisymm (List.nodup_iff_count.1 List.nodup_range a) (List.count_pos_iff.2 (List.mem_range.2 h))]
  · rw [List.count_eq_zero.2 (fun hm => h (hq a hm)), List.count_eq_zero.2 (fun hm => h (List.mem_range.1 hm))]
theorem nodup_len {q : List Nat} {n : Nat} (hn : q.Nodup) (hq : ∀ i ∈ q, i < n) : q.length ≤ n := by
  have hp : q.Perm ((List.range n).filter fun i => decide (i ∈ q)) := by
    rw [List.perm_iff_count]
    intro a
    have hf : ((List.range n).filter fun i => decide (i ∈ q)).Nodup := List.Pairwise.filter _ List.nodup_range
    by_cases h : a ∈ q
    · rw [Nat.le_antisymm (List.nodup_iff_count.1 hn a) (List.count_pos_iff.2 h), Nat.le_antisymm (List.nodup_iff_count.1 hf a) (List.count_pos_iff.2 (List.mem_filter.2 ⟨List.mem_range.2 (hq a h), decide_eq_true h⟩))]
    · rw [List.count_eq_zero.2 h, List.count_eq_zero.2 (fun hm => h (by simpa using (List.mem_filter.1 hm).2))]
  have := hp.length_eq
  have h2 := List.length_filter_le (fun i => decide (i ∈ q)) (List.range n)
  rw [List.length_range] at h2
  omega
/-- How many entries are left. -/
def lft (n : Nat) (q : List Nat) : Nat := ((List.range n).filter fun i => decide (i ∉ q)).length
theorem lft_next {n i : Nat} {q : List Nat} (hi : i < n) (hq : i ∉ q) : lft n (q ++ [i]) < lft n q :=
  filter_lt _ _ (fun x hx => by simp at hx ⊢; exact hx.1) i (by simpa using hq) (by simp) _ (List.mem_range.2 hi)
theorem vs_next {o : Int} {m : List (Int × Int)} {q : List Nat} {i : Nat} {k v : Int} (h : m[i]? = some (k, v)) : vsS o m (q ++ [i]) = vsS o m q ++ [mkSm (k, v)] := by
  simp [vsS, h]
theorem keys_ok {o : Int} {m : List (Int × Int)} (hk : (m.map (·.1)).Nodup) (ha : ∀ e ∈ m, 1 ≤ e.1 ∧ e.1 ≤ 1099511627776) : ((mkSm (0, o) :: m.map mkSm).map Sm.acc).Nodup := by
  have e1 : (m.map mkSm).map Sm.acc = m.map (·.1) := by
    rw [List.map_map]
    refine List.map_congr_left fun e he => ?_
    have := ha e he
    simp [mkSm, show 0 ≤ e.1 ∧ e.1 ≤ 1099511627776 by omega]
  rw [List.map_cons, e1, List.nodup_cons]
  refine ⟨fun h => ?_, hk⟩
  obtain ⟨e, he, h0⟩ := List.mem_map.1 h
  have := ha e he
  simp [mkSm] at h0
  omega
theorem vs_sort {o : Int} {m : List (Int × Int)} {q : List Nat} (hn : q.Nodup) (hq : ∀ i ∈ q, i < m.length) (hf : ∀ i, i < m.length → i ∈ q) (hk : (m.map (·.1)).Nodup) (ha : ∀ e ∈ m, 1 ≤ e.1 ∧ e.1 ≤ 1099511627776) : srt cfSm (vsS o m q) = sumsL o m := by
  have hp := (nodup_full hn hq hf).map fun i => mkSm (m.getD i (0, 0))
  have e : (List.range m.length).map (fun i => mkSm (m.getD i (0, 0))) = m.map mkSm := by
    apply List.ext_getElem?
    intro j
    rw [List.getElem?_map, List.getElem?_map]
    by_cases h : j < m.length
    · rw [List.getElem?_range h, List.getElem?_eq_getElem h]; simp [h]
    · rw [List.getElem?_eq_none (by simp; omega), List.getElem?_eq_none (by omega)]; rfl
  rw [e] at hp
  have hp2 : (vsS o m q).Perm (mkSm (0, o) :: m.map mkSm) := own0_eq ▸ hp.cons _
  exact (srt_perm hp2.symm (keys_ok hk ha)).symm
theorem vs_len {o : Int} {m : List (Int × Int)} {q : List Nat} : (vsS o m q).length = q.length + 1 := by simp [vsS]
theorem mp_sm {m : List (Int × Int)} (ha : ∀ e ∈ m, 1 ≤ e.1 ∧ e.1 ≤ 1099511627776) {i : Nat} {k v : Int} (h : m[i]? = some (k, v)) : ∃ x : Sm, k = x.acc ∧ v = x.amt := by
  have := ha _ (List.mem_of_getElem? h)
  exact ⟨⟨k, v, by simp only at this; omega⟩, rfl, rfl⟩
theorem q_snoc {q : List Nat} {n i : Nat} (hn : q.Nodup) (hq : ∀ i ∈ q, i < n) (hi : i < n) (h : i ∉ q) : (q ++ [i]).Nodup ∧ ∀ j ∈ q ++ [i], j < n := by
  refine ⟨?_, fun j hj => ?_⟩
  · rw [List.nodup_append]
    exact ⟨hn, by simp, fun x hx y hy e => h (by rw [List.mem_singleton.1 hy] at e; exact e ▸ hx)⟩
  · rcases List.mem_append.1 hj with hj | hj
    · exact hq j hj
    · rw [List.mem_singleton.1 hj]; exact hi
theorem mkSm_acc {e : Int × Int} (h : 0 ≤ e.1 ∧ e.1 ≤ 1099511627776) : (mkSm e).acc = e.1 ∧ (mkSm e).amt = e.2 := by simp [mkSm, h]
/-- What the sorted sums are. -/
theorem sums_ok {o : Int} {m : List (Int × Int)} (hk : (m.map (·.1)).Nodup) (ha : ∀ e ∈ m, 1 ≤ e.1 ∧ e.1 ≤ 1099511627776) :
    ((sumsL o m).map Sm.amt).sum = o + (m.map (·.2)).sum ∧ (sumsL o m).Pairwise (fun a b => a.acc < b.acc) ∧ (sumsL o m).length = m.length + 1 ∧ ∀ s ∈ sumsL o m, s.amt = o ∨ ∃ e ∈ m, s.amt = e.2 := by
  obtain ⟨h1, h2, _⟩ := srt_spec swoSm (mkSm (0, o) :: m.map mkSm)
  have hs := srt_pw (mkSm (0, o) :: m.map mkSm)
  have hno := (h2.map Sm.acc).nodup_iff.2 (keys_ok (o := o) hk ha)
  refine ⟨?_, ?_, by simpa [sumsL] using h1, fun s hs' => ?_⟩
  · have := perm_sum (h2.map Sm.amt)
    rw [sumsL, this, List.map_cons, List.sum_cons, List.map_map]
    have e1 : (m.map (Sm.amt ∘ mkSm)) = m.map (·.2) := List.map_congr_left fun e he => (mkSm_acc (by have := ha e he; omega)).2
    rw [e1, (mkSm_acc (e := (0, o)) ⟨Int.le_refl _, by simp⟩).2]
  · rw [List.Nodup, List.pairwise_map] at hno
    exact (hs.and hno).imp fun h => by omega
  · rcases List.mem_cons.1 (h2.mem_iff.1 hs') with rfl | h
    · exact .inl (mkSm_acc (e := (0, o)) ⟨Int.le_refl _, by simp⟩).2
    · obtain ⟨e, he, rfl⟩ := List.mem_map.1 h
      exact .inr ⟨e, he, (mkSm_acc (by have := ha e he; omega)).2⟩
end An.S

/- Layer 24: the parts of an amount add up to it, and lie between nothing and all of it; what everybody has got. Plain data. -/
namespace An.S
open An Go
theorem sum_set : ∀ {l : List Int} {i : Nat} {x : Int}, i < l.length → (l.set i x).sum = l.sum - l.getD i 0 + x
  | [], _, _, h => by simp at h
  | y :: r, 0, x, _ => by simp; omega
  | y :: r, i + 1, x, h => by
    have ih := sum_set (l := r) (i := i) (x := x) (by simpa using h)
    simp only [List.set_cons_succ, List.sum_cons, List.getD_cons_succ]
    rw [ih]; omega
/-- Between nothing and a. -/
def btw (x a : Int) : Prop := min 0 a ≤ x ∧ x ≤ max 0 a
theorem btw_zero {a : Int} : btw 0 a := by unfold btw; omega
theorem run_whole {l : List Deal} (hv : validL l = true) (hd : ∀ d ∈ l, d.share.dig) {a : Int} : ∀ (is : List Nat) (s : Dv), is.Nodup → (∀ i ∈ is, i < l.length) → s.fit l.length → s.ok l l.length → (dvRun l s is).2 = true → btw s.r a →
    (dvRun l s is).1.p.sum + (dvRun l s is).1.r = s.p.sum + s.r ∧ btw (dvRun l s is).1.r a ∧ ∀ j ∈ is, (dvRun l s is).1.q.getD (j + 1) 0 = (dvRun l s is).1.p.getD j 0 - s.p.getD j 0 ∧ btw ((dvRun l s is).1.q.getD (j + 1) 0) a
  | [], s, _, _, _, _, _, hr => ⟨rfl, hr, fun j hj => by cases hj⟩
  | i :: r, s, hN, hi, hf, ho, ht, hr => by
    obtain ⟨hN1, hN2⟩ := List.nodup_cons.1 hN
    have hin := hi i (by simp)
    rw [xh7] at ht ⊢
    split at ht
    · rename_i hw
      rw [if_pos hw]
      obtain ⟨q0, q1⟩ := shr_bd hv hd hin
      have hdf := take_diff (q := shr l i) (b := s.b.getD i 0) (r := s.r) q0 q1
      have hn : s.n i = s.b.getD i 0 + s.r := rfl
      have hp : s.pd l i - s.p.getD i 0 = take (shr l i) (s.b.getD i 0 + s.r) - take (shr l i) (s.b.getD i 0) := by rw [Dv.pd, hn, (ho i hin).2]
      rw [← hp] at hdf
      have f2 := hf.p
      have f3 := hf.q
      have e1 : (dv1 l s i).p = s.p.set i (s.pd l i) := rfl
      have e2 : (dv1 l s i).r = s.r - (s.pd l i - s.p.getD i 0) := rfl
      have e3 : (dv1 l s i).q.getD (i + 1) 0 = s.pd l i - s.p.getD i 0 := gset_same (by omega)
      generalize hx : s.pd l i - s.p.getD i 0 = x at *
      have hb : btw x a ∧ btw (s.r - x) a := by
        unfold btw at *
        rcases Int.le_total 0 s.r with h | h
        · have := hdf.1 h; omega
        · have := hdf.2 h; omega
      obtain ⟨c1, c2, c3⟩ := run_whole hv hd (a := a) r (dv1 l s i) hN2 (fun j hj => hi j (by simp [hj])) hf.next (ho.next hf hin hw) ht (by rw [e2]; exact hb.2)
      refine ⟨?_, c2, fun j hj => ?_⟩
      · rw [c1, e1, e2, sum_set (by omega)]; omega
      · rcases List.mem_cons.1 hj with rfl | hj
        · obtain ⟨_, k2, k3⟩ := run_keep (l := l) r (dv1 l s j) j hN1
          rw [k2, k3, e3, e1, gset_same (by omega)]
          exact ⟨hx.symm, hb.1⟩
        · have hji : j ≠ i := fun e => hN1 (e ▸ hj)
          have := c3 j hj
          rw [e1, gset_ne hji] at this
          exact this
    · cases ht
/-- What a step gives. -/
structure WhI (l : List Deal) (o : Int) (b p : List Int) (m a : Int) : Prop where
  right : rightL l (stepO l o b p m a) (stepB l o b p m a) (stepP l o b p m a) = true
  len : (stepQ l o b p m a).length = l.length + 1 ∧ (stepB l o b p m a).length = l.length ∧ (stepP l o b p m a).length = l.length
  q0 : btw ((stepQ l o b p m a).getD 0 0) a
  qj : ∀ j, j < l.length → (stepQ l o b p m a).getD (j + 1) 0 = (stepP l o b p m a).getD j 0 - p.getD j 0 ∧ btw ((stepQ l o b p m a).getD (j + 1) 0) a ∧ ((l.getD j deal0).on m = false → (stepQ l o b p m a).getD (j + 1) 0 = 0)
  sum : (stepQ l o b p m a).getD 0 0 + ((stepP l o b p m a).sum - p.sum) = a
  tot : stepO l o b p m a + (stepP l o b p m a).sum = o + p.sum + a
  wa : wIn a = true
theorem WhI.of {l : List Deal} {o : Int} {b p : List Int} {m a : Int} (hd : ∀ d ∈ l, d.share.dig) (h : stepE l o b p m a = 0) : WhI l o b p m a := by
  have s := StepI.of hd h
  have hf := s.fit
  obtain ⟨c1, c2, c3⟩ := run_whole s.v hd (a := a) (apl l m) ⟨b, p, List.replicate (l.length + 1) 0, a⟩ apl_nodup apl_mem s.fit0 s.ok s.all (by unfold btw; simp only; omega)
  have c1 : (dvAll l m b p a).1.p.sum + (dvAll l m b p a).1.r = p.sum + a := c1
  have c2 : btw (dvAll l m b p a).1.r a := c2
  have e0 : (stepQ l o b p m a).getD 0 0 = (dvAll l m b p a).1.r := by
    rw [s.eq, getD_set0 (by rw [hf.q]; omega), if_pos rfl]
  have ej : ∀ j, (stepQ l o b p m a).getD (j + 1) 0 = (dvAll l m b p a).1.q.getD (j + 1) 0 := fun j => by
    rw [s.eq, getD_set0 (by rw [hf.q]; omega), if_neg (by omega)]
  refine ⟨s.right, s.len, by rw [e0]; exact c2, fun j hj => ?_, by rw [e0, s.ep]; omega, by rw [s.eo, s.ep]; omega, s.wa⟩
  rw [ej, s.ep]
  by_cases hm : j ∈ apl l m
  · have hon : (l.getD j deal0).on m = true := (List.mem_filter.1 hm).2
    exact ⟨(c3 j hm).1, (c3 j hm).2, fun h => by rw [hon] at h; cases h⟩
  · obtain ⟨_, k2, k3⟩ := run_keep (l := l) (apl l m) ⟨b, p, List.replicate (l.length + 1) 0, a⟩ j hm
    have k2 : (dvAll l m b p a).1.p.getD j 0 = p.getD j 0 := k2
    have k3 : (dvAll l m b p a).1.q.getD (j + 1) 0 = 0 := k3.trans (by simp only [grep0])
    rw [k2, k3]
    exact ⟨by omega, btw_zero, fun _ => rfl⟩
end An.S

/- A region whose operations come in whatever order, but for the last ones, ahead of which all others come: a function that feeds a loop calls back in such a region. For any program. -/
namespace An
open Go
section
variable {P : Program} {c : Base}
theorem left_ge {D : Nat → Bool} {n : Nat} (h : ∀ j, n ≤ j → D j = false) : ∀ m, m - n ≤ left D m
  | 0 => by simp [left]
  | m + 1 => by
    have ih := left_ge h m
    simp only [left]
    rcases Nat.lt_or_ge m n with h1 | h1
    · omega
    · rw [h m h1]; simp only [cond_false]; omega
/-- The first n operations come in whatever order; then what stands behind them. -/
theorem any_pre {ops : List Oper} {Es : List Eff} {n : Nat} {g0 : Slots} {h0 : Keys} {al0 : Nat → Bool} {Q : Exit → Act → World → Prop} (hn : n ≤ ops.length) (hlen : n = Es.length)
    (hD : ∀ (i : Nat) (o : Oper) (E : Eff), ops[i]? = some o → Es[i]? = some E → DoesR P c ops.toArray o E)
    (hpre : ∀ (i : Nat) (E : Eff), Es[i]? = some E → E.PreL (runC (fun j => decide (j < i)) 0 (Es.map Eff.cg) g0) (runC (fun j => decide (j < i)) 0 (Es.map Eff.ch) h0) (runC (fun j => decide (j < i)) 0 (Es.map Eff.ca) al0))
    (hgo : goAll (masks ops #[]) [] (Es.map Eff.sm) = true) (hd : dOk c.N (Es.map Eff.sm) = true) (hnk : nkOk (Es.map Eff.sm) [] = true) (hed : edgesOk 0 ops = true)
    (hrest : ∀ i, n ≤ i → i < ops.length → ∀ j, j < i → ((masks ops #[]).getD i 0).testBit j = true)
    (hQ : ∀ (fuel : Nat) (listed : Array Bool) (a : Act) (w : World), listed.size = ops.length → Closed ops (fun i => listed.getD i false) → (∀ j, listed.getD j false = decide (j < n)) → ops.length - n ≤ fuel →
      St c (runC (fun _ => true) 0 (Es.map Eff.cg) g0) (runC (fun _ => true) 0 (Es.map Eff.ch) h0) (runC (fun _ => true) 0 (Es.map Eff.ca) al0) a w → wpAnyIn (fc c.ro) 0 P .any ops.toArray Q fuel listed a w) :
    ∀ (fuel : Nat) (listed : Array Bool) (a : Act) (w : World), listed.size = ops.length → Closed ops (fun i => listed.getD i false) → (∀ j, n ≤ j → listed.getD j false = false) →
      left (fun i => listed.getD i false) ops.length ≤ fuel →
      St c (runC (fun i => listed.getD i false) 0 (Es.map Eff.cg) g0) (runC (fun i => listed.getD i false) 0 (Es.map Eff.ch) h0) (runC (fun i => listed.getD i false) 0 (Es.map Eff.ca) al0) a w →
      wpAnyIn (fc c.ro) 0 P .any ops.toArray Q fuel listed a w := by
  have hsm : ∀ (i : Nat) (E : Eff), Es[i]? = some E → (Es.map Eff.sm)[i]? = some E.sm := fun i E h => by rw [List.getElem?_map, h]; rfl
  have hpair : ∀ (i j : Nat) (E E' : Eff), i < j → Es[i]? = some E → Es[j]? = some E' → ((masks ops #[]).getD j 0).testBit i = true ∨ Indep E.sm E'.sm := fun i j E E' hij hi hj =>
    goAll_spec (Es.map Eff.sm) [] hgo i j _ _ hij (Nat.zero_le _) (by simpa using hsm i E hi) (by simpa using hsm j E' hj)
  have hmask : ∀ D, Closed ops D → ∀ i j, ((masks ops #[]).getD i 0).testBit j = true → (∀ o, ops[i]? = some o → ∀ e ∈ o.after.toList, Region.binds .any e = true → D e.on = true) → D j = true := by
    intro D hcl i j hj hi
    rw [Array.getD_eq_getD_getElem?] at hj
    cases hm : (masks ops #[])[i]? with
    | none => rw [hm] at hj; simp at hj
    | some m => rw [hm] at hj; exact masks_spec (ops := ops) ops #[] (by simp) (by simp) D hcl i m hm hi j hj
  have hmaskD : ∀ D, Closed ops D → ∀ i j, ((masks ops #[]).getD i 0).testBit j = true → D i = true → D j = true := fun D hcl i j hj hi => hmask D hcl i j hj fun o ho => hcl i o ho hi
  have hall : ∀ (fuel : Nat) (listed : Array Bool) (a : Act) (w : World), listed.size = ops.length → Closed ops (fun i => listed.getD i false) → (∀ j, n ≤ j → listed.getD j false = false) → left (fun i => listed.getD i false) ops.length ≤ fuel →
      St c (runC (fun i => listed.getD i false) 0 (Es.map Eff.cg) g0) (runC (fun i => listed.getD i false) 0 (Es.map Eff.ch) h0) (runC (fun i => listed.getD i false) 0 (Es.map Eff.ca) al0) a w →
      (∀ j, j < n → listed.getD j false = true) → wpAnyIn (fc c.ro) 0 P .any ops.toArray Q fuel listed a w := by
    intro fuel listed a w hsz hcl hno hleft hs hall
    have hcong : ∀ {β : Type} (l : List (Chg β)) (f : Nat → β), l.length = n → runC (fun i => listed.getD i false) 0 l f = runC (fun _ => true) 0 l f := fun l f hl => by
      funext s
      refine xh9 l 0 f f rfl fun j C hj _ => ?_
      rw [Nat.zero_add]
      exact hall j (by have := (List.getElem?_eq_some_iff.1 hj).1; omega)
    rw [hcong _ _ (by simp [hlen]), hcong _ _ (by simp [hlen]), hcong _ _ (by simp [hlen])] at hs
    have hge := left_ge (D := fun i => listed.getD i false) hno ops.length
    refine hQ fuel listed a w hsz hcl (fun j => ?_) (by omega) hs
    rcases Nat.lt_or_ge j n with h1 | h1
    · rw [hall j h1, decide_eq_true h1]
    · rw [hno j h1, decide_eq_false (by omega)]
  -- one that is ready, as long as not all of the first ones are done
  have hsome : ∀ (listed : Array Bool), listed.size = ops.length → ¬ (∀ j, j < n → listed.getD j false = true) → Region.ready .any ops.toArray listed ≠ [] := by
    intro listed hsz hnall hr
    refine hnall fun i => ?_
    induction i using Nat.strongRecOn with
    | _ i ih =>
      intro hi
      cases hl : listed.getD i false with
      | true => rfl
      | false =>
        exfalso
        have : i ∈ Region.ready .any ops.toArray listed := by
          rw [mem_ready]
          refine ⟨?_, ops[i], by simp [show i < ops.length by omega], fun e he hb => ?_⟩
          · rw [Array.getD_eq_getD_getElem?] at hl ⊢
            rw [Array.getElem?_eq_getElem (by omega)] at hl ⊢
            simpa using hl
          · have hon := edgesOk_spec ops 0 hed i ops[i] (List.getElem?_eq_getElem (by omega)) e (by simpa using he) hb
            exact ih e.on (by omega) (by omega)
        rw [hr] at this
        cases this
  intro fuel
  induction fuel with
  | zero =>
    intro listed a w hsz hcl hno hleft hs
    refine hall 0 listed a w hsz hcl hno hleft hs fun j hj => ?_
    exact left_zero (D := fun i => listed.getD i false) ops.length (by omega) j (by omega)
  | succ fuel ih =>
    intro listed a w hsz hcl hno hleft hs
    by_cases hal : ∀ j, j < n → listed.getD j false = true
    · exact hall _ listed a w hsz hcl hno hleft hs hal
    refine ⟨fun hr => absurd hr (hsome listed hsz hal), fun i hi => ?_⟩
    have hin : i < n := by
      rw [mem_ready] at hi
      obtain ⟨h1, o, ho, hedge⟩ := hi
      have hlt : i < ops.length := by
        have := (Array.getElem?_eq_some_iff.1 ho).1
        simpa using this
      refine Decidable.byContradiction fun hge => hal fun j hj => ?_
      exact hmask _ hcl i j (hrest i (by omega) hlt j (by omega)) fun o' ho'' e he hbd => by
        have ho3 : ops[i]? = some o := by simpa using ho
        rw [ho3] at ho''
        cases ho''
        exact hedge e (by simpa using he) hbd
    rw [mem_ready] at hi
    obtain ⟨h1, o, ho, hedge⟩ := hi
    have hlt : i < ops.length := by
      have := (Array.getElem?_eq_some_iff.1 ho).1
      simpa using this
    have ho' : ops[i]? = some o := by simpa using ho
    have hEi : Es[i]? = some (Es[i]'(by omega)) := List.getElem?_eq_getElem (by omega)
    generalize hE : Es[i]'(by omega) = E at hEi
    have hDi : listed.getD i false = false := by
      rw [Array.getD_eq_getD_getElem?, Array.getElem?_eq_getElem (by omega)] at h1 ⊢
      simpa using h1
    -- those ahead are done, those behind are not
    have hahead : ∀ j E', Es[j]? = some E' → j ≠ i → ¬ Indep E'.sm E.sm → ¬ Indep E.sm E'.sm → listed.getD j false = decide (j < i) := by
      intro j E' hj hji hn1 hn2
      rcases Nat.lt_or_ge j i with hlt' | hge
      · rw [decide_eq_true hlt']
        rcases hpair j i E' E hlt' hj hEi with hb | hb
        · exact hmask _ hcl i j hb fun o' ho'' e he hbd => by
            rw [ho'] at ho''
            cases ho''
            exact hedge e (by simpa using he) hbd
        · exact absurd hb hn1
      · rw [decide_eq_false (by omega)]
        rcases hpair i j E E' (by omega) hEi hj with hb | hb
        · cases hd' : listed.getD j false with
          | false => rfl
          | true =>
            have this : listed.getD i false = true := hmaskD _ hcl j i hb hd'
            rw [hDi] at this
            cases this
        · exact absurd hb hn2
    have hp0 := hpre i E hEi
    have hpD : E.Pre c (runC (fun i => listed.getD i false) 0 (Es.map Eff.cg) g0) (runC (fun i => listed.getD i false) 0 (Es.map Eff.ch) h0) (runC (fun i => listed.getD i false) 0 (Es.map Eff.ca) al0) := by
      refine ⟨Rd.congr (fun s hs => ?_) hp0.rd, Kr.congr (fun s hs => ?_) hp0.kr, Nk.congr (fun s hs => ?_) hp0.nk, fun x hx => ?_⟩
      · refine xh9 _ 0 _ _ rfl fun j C hj hsome => ?_
        rw [List.getElem?_map] at hj
        cases hj' : Es[j]? with
        | none => rw [hj'] at hj; cases hj
        | some E' =>
          rw [hj'] at hj
          cases hj
          have hw := Eff.cg_some.1 hsome
          rw [Nat.zero_add]
          by_cases hji : j = i
          · subst hji; rw [decide_eq_false (by omega)]; exact hDi.symm
          · exact (hahead j E' hj' hji (fun hI => hI.h1 s hw hs) (fun hI => hI.h3 s hw hs)).symm
      · refine xh9 _ 0 _ _ rfl fun j C hj hsome => ?_
        rw [List.getElem?_map] at hj
        cases hj' : Es[j]? with
        | none => rw [hj'] at hj; cases hj
        | some E' =>
          rw [hj'] at hj
          cases hj
          have hw := Eff.ch_some.1 hsome
          rw [Nat.zero_add]
          by_cases hji : j = i
          · subst hji; rw [decide_eq_false (by omega)]; exact hDi.symm
          · exact (hahead j E' hj' hji (fun hI => hI.h4 s hw hs) (fun hI => hI.h6 s hw hs)).symm
      · refine xh9 _ 0 _ _ rfl fun j C hj hsome => ?_
        rw [List.getElem?_map] at hj
        cases hj' : Es[j]? with
        | none => rw [hj'] at hj; cases hj
        | some E' =>
          rw [hj'] at hj
          cases hj
          rw [Nat.zero_add]
          by_cases hji : j = i
          · subst hji; rw [decide_eq_false (by omega)]; exact hDi.symm
          · exfalso
            have hm : s ∈ E'.nk := Eff.ca_mem hsome
            have hs' : s ∈ E.sm.nk := hs
            rcases Nat.lt_or_ge j i with hlt' | hge
            · exact (nkOk_spec hnk).2 j i _ _ hlt' (hsm j E' hj') (hsm i E hEi) s hm hs'
            · exact (nkOk_spec hnk).2 i j _ _ (by omega) (hsm i E hEi) (hsm j E' hj') s hs' hm
      · exact dOk_spec hd i _ (hsm i E hEi) x.1 (by simp [Eff.sm, hx])
    -- the state behind it
    have hD' : ∀ j, j ≠ i → (listed.setIfInBounds i true).getD j false = listed.getD j false := fun j hj => Go.getD_set_ne false (fun h => hj h.symm)
    have hi' : (listed.setIfInBounds i true).getD i false = true := by
      rw [Array.getD_eq_getD_getElem?]; simp [hsz, hlt]
    have hg' : E.g (runC (fun i => listed.getD i false) 0 (Es.map Eff.cg) g0) = runC (fun j => (listed.setIfInBounds i true).getD j false) 0 (Es.map Eff.cg) g0 := by
      rw [← Eff.cg_run]
      refine run_step (D' := fun j => (listed.setIfInBounds i true).getD j false) (i := i) (by rw [List.getElem?_map, hEi]; rfl) hD' hi' (fun j C' hj hij s h1 h2 => ?_) _
      rw [List.getElem?_map] at hj
      cases hj' : Es[j]? with
      | none => rw [hj'] at hj; cases hj
      | some E' =>
        rw [hj'] at hj
        cases hj
        have := hahead j E' hj' (by omega) (fun hI => hI.h2 s (Eff.cg_some.1 h2) (Eff.cg_some.1 h1)) (fun hI => hI.h2 s (Eff.cg_some.1 h1) (Eff.cg_some.1 h2))
        rw [this, decide_eq_false (by omega)]
    have hh' : E.h (runC (fun i => listed.getD i false) 0 (Es.map Eff.ch) h0) = runC (fun j => (listed.setIfInBounds i true).getD j false) 0 (Es.map Eff.ch) h0 := by
      rw [← Eff.ch_run]
      refine run_step (D' := fun j => (listed.setIfInBounds i true).getD j false) (i := i) (by rw [List.getElem?_map, hEi]; rfl) hD' hi' (fun j C' hj hij s h1 h2 => ?_) _
      rw [List.getElem?_map] at hj
      cases hj' : Es[j]? with
      | none => rw [hj'] at hj; cases hj
      | some E' =>
        rw [hj'] at hj
        cases hj
        have := hahead j E' hj' (by omega) (fun hI => hI.h5 s (Eff.ch_some.1 h2) (Eff.ch_some.1 h1)) (fun hI => hI.h5 s (Eff.ch_some.1 h1) (Eff.ch_some.1 h2))
        rw [this, decide_eq_false (by omega)]
    have ha' : E.al (runC (fun i => listed.getD i false) 0 (Es.map Eff.ca) al0) = runC (fun j => (listed.setIfInBounds i true).getD j false) 0 (Es.map Eff.ca) al0 := by
      rw [← Eff.ca_run]
      refine run_step (D' := fun j => (listed.setIfInBounds i true).getD j false) (i := i) (by rw [List.getElem?_map, hEi]; rfl) hD' hi' (fun j C' hj hij s h1 h2 => ?_) _
      rw [List.getElem?_map] at hj
      cases hj' : Es[j]? with
      | none => rw [hj'] at hj; cases hj
      | some E' =>
        rw [hj'] at hj
        cases hj
        exfalso
        exact (nkOk_spec hnk).2 i j _ _ hij (hsm i E hEi) (hsm j E' hj') s (Eff.ca_mem h1) (Eff.ca_mem h2)
    have hcl' : Closed ops (fun j => (listed.setIfInBounds i true).getD j false) := by
      intro j o' hj hDj e he hb
      by_cases hji : j = i
      · subst hji
        rw [ho'] at hj
        cases hj
        exact getD_set_true (hedge e (by simpa using he) hb)
      · simp only [hD' j hji] at hDj
        exact getD_set_true (hcl j o' hj hDj e he hb)
    have hleft' : left (fun j => (listed.setIfInBounds i true).getD j false) ops.length ≤ fuel := by
      have := left_set (D := fun j => listed.getD j false) (D' := fun j => (listed.setIfInBounds i true).getD j false) (i := i) hD' hi' hDi ops.length hlt
      omega
    have hdo := hD i o E ho' hEi _ _ _ a w hpD hs
    have hgo' : ∀ a' w', St c (E.g (runC (fun i => listed.getD i false) 0 (Es.map Eff.cg) g0)) (E.h (runC (fun i => listed.getD i false) 0 (Es.map Eff.ch) h0)) (E.al (runC (fun i => listed.getD i false) 0 (Es.map Eff.ca) al0)) a' w' →
        wpAnyIn (fc c.ro) 0 P .any ops.toArray Q fuel (listed.setIfInBounds i true) a' w' := fun a' w' hs' => by
      rw [hg', hh', ha'] at hs'
      exact ih _ a' w' (by simp [hsz]) hcl' (fun j hj => by rw [hD' j (by omega)]; exact hno j hj) hleft' hs'
    unfold wpOpIn
    rw [ho]
    simp only
    split
    · rename_i hw
      rw [if_pos hw] at hdo
      exact Oper.wpIn_mono hgo' (noQ_imp hdo)
    · rename_i hw
      rw [if_neg hw] at hdo
      exact ⟨fun _ _ => trivial, hgo' _ _ hdo⟩
/-- The last operations come in the text's order. -/
theorem any_tail {ops : List Oper} {Q : Exit → Act → World → Prop} {n : Nat} (hed : edgesOk 0 ops = true) (hrest : ∀ i, n ≤ i → i < ops.length → ∀ j, j < i → ((masks ops #[]).getD i 0).testBit j = true) :
    ∀ (k m : Nat) (fuel : Nat) (listed : Array Bool) (a : Act) (w : World), n ≤ m → m + k = ops.length → listed.size = ops.length → Closed ops (fun i => listed.getD i false) → (∀ j, listed.getD j false = decide (j < m)) → k ≤ fuel →
      wpListIn (fc c.ro) 0 P ops.toArray Q (ops.drop m) a w → wpAnyIn (fc c.ro) 0 P .any ops.toArray Q fuel listed a w := by
  have hmask : ∀ D, Closed ops D → ∀ i j, ((masks ops #[]).getD i 0).testBit j = true → (∀ o, ops[i]? = some o → ∀ e ∈ o.after.toList, Region.binds .any e = true → D e.on = true) → D j = true := by
    intro D hcl i j hj hi
    rw [Array.getD_eq_getD_getElem?] at hj
    cases hm : (masks ops #[])[i]? with
    | none => rw [hm] at hj; simp at hj
    | some m => rw [hm] at hj; exact masks_spec (ops := ops) ops #[] (by simp) (by simp) D hcl i m hm hi j hj
  intro k
  induction k with
  | zero =>
    intro m fuel listed a w hnm hmk hsz hcl hli hfu hw
    have hnil : Region.ready .any ops.toArray listed = [] := by
      cases hr : Region.ready .any ops.toArray listed with
      | nil => rfl
      | cons i rs =>
        have hi : i ∈ Region.ready .any ops.toArray listed := by rw [hr]; simp
        rw [mem_ready] at hi
        obtain ⟨h1, o, ho, _⟩ := hi
        have hlt : i < ops.length := by
          have := (Array.getElem?_eq_some_iff.1 ho).1
          simpa using this
        have this := hli i
        rw [decide_eq_true (by omega)] at this
        rw [Array.getD_eq_getD_getElem?, Array.getElem?_eq_getElem (by omega)] at h1 this
        simp at h1 this
        rw [h1] at this
        cases this
    rw [List.drop_of_length_le (by omega)] at hw
    cases fuel with
    | zero => exact ⟨hnil, hw⟩
    | succ f =>
      refine ⟨fun _ => hw, fun i hi => ?_⟩
      rw [hnil] at hi; cases hi
  | succ k ih =>
    intro m fuel listed a w hnm hmk hsz hcl hli hfu hw
    have hlt : m < ops.length := by omega
    have hmr : m ∈ Region.ready .any ops.toArray listed := by
      rw [mem_ready]
      have hl := hli m
      rw [decide_eq_false (by omega)] at hl
      refine ⟨?_, ops[m], by simp [hlt], fun e he hb => ?_⟩
      · rw [Array.getD_eq_getD_getElem?] at hl ⊢
        rw [Array.getElem?_eq_getElem (by omega)] at hl ⊢
        simpa using hl
      · have hon := edgesOk_spec ops 0 hed m ops[m] (List.getElem?_eq_getElem (by omega)) e (by simpa using he) hb
        rw [hli, decide_eq_true (by omega)]
    cases fuel with
    | zero => omega
    | succ f =>
      refine ⟨fun hr => (by rw [hr] at hmr; cases hmr), fun i hi => ?_⟩
      rw [mem_ready] at hi
      obtain ⟨h1, o, ho, hedge⟩ := hi
      have hlt2 : i < ops.length := by
        have := (Array.getElem?_eq_some_iff.1 ho).1
        simpa using this
      have ho3 : ops[i]? = some o := by simpa using ho
      have him : i = m := by
        have hge : m ≤ i := Decidable.byContradiction fun hge => by
          have this := hli i
          rw [decide_eq_true (by omega)] at this
          rw [Array.getD_eq_getD_getElem?, Array.getElem?_eq_getElem (by omega)] at h1 this
          simp at h1 this
          rw [h1] at this
          cases this
        refine Decidable.byContradiction fun hne => ?_
        have hb := hrest i (by omega) hlt2 m (by omega)
        have := hmask _ hcl i m hb fun o' ho'' e he hbd => by
          rw [ho3] at ho''
          cases ho''
          exact hedge e (by simpa using he) hbd
        rw [hli, decide_eq_false (by omega)] at this
        cases this
      subst him
      have edr : ops.drop i = o :: ops.drop (i + 1) := by
        rw [List.drop_eq_getElem_cons hlt]
        rw [List.getElem?_eq_getElem hlt] at ho3
        cases ho3; rfl
      rw [edr] at hw
      unfold wpListIn at hw
      have hcl' : Closed ops (fun j => (listed.setIfInBounds i true).getD j false) := by
        intro j o' hj hDj e he hb
        by_cases hji : j = i
        · subst hji
          rw [ho3] at hj
          cases hj
          exact getD_set_true (hedge e (by simpa using he) hb)
        · simp only [Go.getD_set_ne false (fun h => hji h.symm)] at hDj
          exact getD_set_true (hcl j o' hj hDj e he hb)
      have hli' : ∀ j, (listed.setIfInBounds i true).getD j false = decide (j < i + 1) := fun j => by
        by_cases hji : j = i
        · subst hji
          rw [Array.getD_eq_getD_getElem?]; simp [hsz, hlt]
        · rw [Go.getD_set_ne false (fun h => hji h.symm), hli]
          by_cases h2 : j < i
          · rw [decide_eq_true h2, decide_eq_true (by omega)]
          · rw [decide_eq_false h2, decide_eq_false (by omega)]
      have key := fun a w (hw2 : wpListIn (fc c.ro) 0 P ops.toArray Q (ops.drop (i + 1)) a w) => ih (i + 1) f (listed.setIfInBounds i true) a w (by omega) (by omega) (by simp [hsz]) hcl' hli' (by omega) hw2
      unfold wpOpIn
      rw [ho]
      simp only
      split
      · rename_i hwa
        rw [if_pos hwa] at hw
        exact Oper.wpIn_mono key hw
      · rename_i hwa
        rw [if_neg hwa] at hw
        exact ⟨hw.1, key _ _ hw.2⟩
end
/-- Ahead of the operations from the n-th on come all others. -/
def lastB (n : Nat) (ops : List Oper) : Bool := (List.range ops.length).all fun i => Nat.blt i n || (List.range i).all fun j => ((masks ops #[]).getD i 0).testBit j
theorem lastB_spec {n : Nat} {ops : List Oper} (h : lastB n ops = true) : ∀ i, n ≤ i → i < ops.length → ∀ j, j < i → ((masks ops #[]).getD i 0).testBit j = true := fun i h1 h2 j hj => by
  have h3 := List.all_eq_true.1 h i (List.mem_range.2 h2)
  rw [Bool.or_eq_true] at h3
  rcases h3 with h3 | h3
  · have : i < n := by simpa using h3
    omega
  · exact List.all_eq_true.1 h3 j (List.mem_range.2 hj)
def chkY (ops : List Oper) (sms : List Sm) (n N : Nat) : Bool := goAll (masks ops #[]) [] sms && dOk N sms && nkOk sms [] && edgesOk 0 ops && lastB n ops && Nat.ble n ops.length
section
variable {P : Program} {c : Base} {Q : Exit → Act → World → Prop} {g : Slots} {h : Keys} {al : Names}
/-- A region in whatever order, in which the last operations come in the text's order. -/
theorem C_drawY (hm : P.follows .mixedOrders = true) {id n : Nat} {ops : List Oper}
    (H : RSeq P c ops.toArray (fun sms g h al => chkY ops sms n c.N = true ∧ wl P c ops.toArray Q (ops.drop n) g h al) (ops.take n) [] g h al) : wc P c (.region id ops.toArray true) Q g h al := by
  intro a w hs
  obtain ⟨Es, h1, h2, h3, h4⟩ := RSeq.split (g0 := g) (h0 := h) (al0 := al) (ops.take n) [] H
  simp only [chkY, Bool.and_eq_true, List.nil_append] at h3
  obtain ⟨⟨⟨⟨⟨c1, c2⟩, c3⟩, c4⟩, c5⟩, c6⟩ := h3
  have hn : n ≤ ops.length := Nat.le_of_ble_eq_true c6
  have hle : n = Es.length := by rw [h1, List.length_take]; omega
  refine wpIn_region_any hm ?_
  have hsz : (Array.replicate ops.toArray.size false).size = ops.length := by simp
  have hfl : ∀ i, (Array.replicate ops.toArray.size false).getD i false = false := fun i => by
    rw [Array.getD_eq_getD_getElem?, Array.getElem?_replicate]
    split <;> rfl
  have hfalse : (fun i => (Array.replicate ops.toArray.size false).getD i false) = fun _ => false := funext hfl
  have h0 : ∀ {β : Type} (l : List (Chg β)) (i : Nat) (f : Nat → β), runC (fun _ => false) i l f = f := by
    intro β l
    induction l with
    | nil => intro i f; rfl
    | cons C l ih => intro i f; simp only [runC, cond_false]; exact ih _ _
  have htake : ∀ (i : Nat) (o : Oper) (E : Eff), ops[i]? = some o → Es[i]? = some E → (ops.take n)[i]? = some o := fun i o E ho hE => by
    have hi : i < Es.length := (List.getElem?_eq_some_iff.1 hE).1
    rw [List.getElem?_take, if_pos (by omega)]; exact ho
  refine any_pre (g0 := g) (h0 := h) (al0 := al) hn hle (fun i o E ho hE => (h2 i o E (htake i o E ho hE) hE).1) (fun i E hE => ?_) c1 c2 c3 c4 (lastB_spec c5) (fun fuel listed a w hsz hcl hli hfu hs => ?_) _ _ a _ hsz ?_ (fun j _ => hfl j) ?_ ?_
  · have hi : i < Es.length := (List.getElem?_eq_some_iff.1 hE).1
    have := (h2 i ops[i] E (htake i _ E (List.getElem?_eq_getElem (by omega)) hE) hE).2
    rw [runC_lt, runC_lt, runC_lt]
    simpa [List.map_take] using this
  · rw [runC_true, runC_true, runC_true] at hs
    exact any_tail c4 (lastB_spec c5) (ops.length - n) n fuel listed a w (Nat.le_refl _) (by omega) hsz hcl hli hfu (h4 a w (by simpa using hs))
  · rw [hfalse]; intro i o _ hD; cases hD
  · rw [hfalse]
    have : ∀ n, left (fun _ => false) n = n := by
      intro n
      induction n with
      | zero => rfl
      | succ n ih => simp only [left, ih]; rfl
    rw [this]; simp
  · rw [hfalse, h0, h0, h0]
    obtain ⟨η, s⟩ := hs
    exact ⟨η, s.ext (Ext.drew w)⟩
end
/-- The first operations end. -/
theorem R_endY {P : Program} {c : Base} {Q : Exit → Act → World → Prop} {g : Slots} {h : Keys} {al : Names} {A : Array Oper} {sms : List Sm} {n N : Nat} {ops rest : List Oper} (h1 : chkY ops sms n N = true) (h2 : wl P c A Q rest g h al) : RSeq P c A (fun sms g h al => chkY ops sms n N = true ∧ wl P c A Q rest g h al) [] sms g h al := ⟨h1, h2⟩
end An

/- Layer 24: what each account has got. -/
namespace An.S
open Go Go.Proofs An
open Go.RowKit Go.Sort
set_option maxHeartbeats 2000000
set_option maxRecDepth 100000
theorem ti84 : TyI Tryz.prog 84 2 true := ⟨by kernel_rfl, by kernel_rfl⟩
theorem fi87 : FnI Tryz.prog 87 := ⟨_, Tryz.func87, by kernel_rfl, rfl⟩
theorem el84 : ElI Tryz.prog 84 2 16 true (.agg #[.int .i64 0, .int .i64 0]) := ⟨ti84, by kernel_rfl, by kernel_rfl⟩
theorem zr84 : (Tryz.prog.info? 84).bind (·.zero) = some (.agg #[.int .i64 0, .int .i64 0]) ∧ ∀ F w, (tS [⟨1, false, (tE (.int .i64 0))⟩, ⟨1, false, (tE (.int .i64 0))⟩]).p F w (.agg #[.int .i64 0, .int .i64 0]) := ⟨by kernel_rfl, fun _ _ => ⟨_, rfl, rfl, ⟨fun _ => rfl, rfl⟩, ⟨fun _ => rfl, rfl⟩, trivial⟩⟩
theorem bu84 : BuI Tryz.prog 84 (fun i => [(0, 1), (1, 1)][i]?) (.agg #[.int .i64 0, .int .i64 0]) := BuI.struct Tryz.underlying84 (by kernel_rfl) (by kernel_rfl)
theorem zf84 : Flat 2 true (.agg #[.int .i64 0, .int .i64 0]) := flat_agg (by intro u hu; simp at hu; rcases hu with rfl | rfl <;> rfl)
/-- The numbers of the functions and types of slices.SortFunc in this program. -/
def sortSumR : Go.Shelf.Ren := ⟨fun n => match n with | 6 => 87 | 14 => 137 | 15 => 138 | 20 => 182 | 21 => 183 | 22 => 184 | 23 => 185 | 24 => 186 | 25 => 187 | 26 => 188 | 27 => 189 | 28 => 190 | 29 => 191 | 46 => 213 | 47 => 214 | 48 => 215 | 49 => 216 | 50 => 217 | 57 => 242 | n => n, fun n => match n with | 0 => 0 | 3 => 3 | 4 => 4 | 5 => 5 | 9 => 9 | 22 => 77 | 24 => 84 | 25 => 134 | 39 => 176 | 45 => 210 | 46 => 211 | 50 => 215 | 53 => 218 | 55 => 142 | 66 => 231 | 70 => 235 | 76 => 251 | 77 => 252 | n => n, fun n => n⟩
theorem sortSum : Go.Proofs.SlLaysF0.n6 Tryz.prog sortSumR where
  mixed := by kernel_rfl
  f6 := ⟨Tryz.f87.name, by kernel_rfl, by kernel_rfl⟩
  f14 := ⟨Tryz.f137.name, by kernel_rfl, by kernel_rfl⟩
  f15 := by kernel_rfl
  f20 := ⟨Tryz.f182.name, by kernel_rfl, by kernel_rfl⟩
  f21 := ⟨Tryz.f183.name, by kernel_rfl, by kernel_rfl⟩
  f22 := ⟨Tryz.f184.name, by kernel_rfl, by kernel_rfl⟩
  f23 := ⟨Tryz.f185.name, by kernel_rfl, by kernel_rfl⟩
  f24 := ⟨Tryz.f186.name, by kernel_rfl, by kernel_rfl⟩
  f25 := ⟨Tryz.f187.name, by kernel_rfl, by kernel_rfl⟩
  f26 := ⟨Tryz.f188.name, by kernel_rfl, by kernel_rfl⟩
  f27 := ⟨Tryz.f189.name, by kernel_rfl, by kernel_rfl⟩
  f28 := by kernel_rfl
  f29 := by kernel_rfl
  f46 := ⟨Tryz.f213.name, by kernel_rfl, by kernel_rfl⟩
  f47 := by kernel_rfl
  f48 := by kernel_rfl
  f49 := ⟨Tryz.f216.name, by kernel_rfl, by kernel_rfl⟩
  f50 := ⟨Tryz.f217.name, by kernel_rfl, by kernel_rfl⟩
  f57 := ⟨Tryz.f242.name, by kernel_rfl, by kernel_rfl⟩
  t0 := by kernel_rfl
  a0 := fun w => by kernel_rfl
  z0 := fun w => by kernel_rfl
  v0 := fun w => by kernel_rfl
  t3 := by kernel_rfl
  a3 := fun w => by kernel_rfl
  z3 := fun w => by kernel_rfl
  v3 := fun w => by kernel_rfl
  t4 := by kernel_rfl
  a4 := fun w => by kernel_rfl
  z4 := fun w => by kernel_rfl
  v4 := fun w => by kernel_rfl
  t5 := by kernel_rfl
  a5 := fun w => by kernel_rfl
  z5 := fun w => by kernel_rfl
  v5 := fun w => by kernel_rfl
  t9 := by kernel_rfl
  a9 := fun w => by kernel_rfl
  z9 := fun w => by kernel_rfl
  v9 := fun w => by kernel_rfl
  t22 := by kernel_rfl
  a22 := fun w => by kernel_rfl
  z22 := fun w => by kernel_rfl
  v22 := fun w => by kernel_rfl
  t25 := by kernel_rfl
  a25 := fun w => by kernel_rfl
  z25 := fun w => by kernel_rfl
  v25 := fun w => by kernel_rfl
  t39 := by kernel_rfl
  a39 := fun w => by kernel_rfl
  z39 := fun w => by kernel_rfl
  v39 := fun w => by kernel_rfl
  t45 := by kernel_rfl
  a45 := fun w => by kernel_rfl
  z45 := fun w => by kernel_rfl
  v45 := fun w => by kernel_rfl
  t46 := by kernel_rfl
  a46 := fun w => by kernel_rfl
  z46 := fun w => by kernel_rfl
  v46 := fun w => by kernel_rfl
  t50 := by kernel_rfl
  a50 := fun w => by kernel_rfl
  z50 := fun w => by kernel_rfl
  v50 := fun w => by kernel_rfl
  t53 := by kernel_rfl
  a53 := fun w => by kernel_rfl
  z53 := fun w => by kernel_rfl
  v53 := fun w => by kernel_rfl
  t55 := by kernel_rfl
  a55 := fun w => by kernel_rfl
  z55 := fun w => by kernel_rfl
  v55 := fun w => by kernel_rfl
  t66 := by kernel_rfl
  a66 := fun w => by kernel_rfl
  z66 := fun w => by kernel_rfl
  v66 := fun w => by kernel_rfl
  t70 := by kernel_rfl
  a70 := fun w => by kernel_rfl
  z70 := fun w => by kernel_rfl
  v70 := fun w => by kernel_rfl
  t76 := by kernel_rfl
  a76 := fun w => by kernel_rfl
  z76 := fun w => by kernel_rfl
  v76 := fun w => by kernel_rfl
  t77 := by kernel_rfl
  a77 := fun w => by kernel_rfl
  z77 := fun w => by kernel_rfl
  v77 := fun w => by kernel_rfl
def encSm (x : Sm) : List Value := [.int .i64 x.acc, .int .i64 x.amt]
theorem tSm_mk {F : Dom} {w : World} {s : Sm} : (tSm s).p F w (.agg (encSm s).toArray) := ⟨_, rfl, rfl, ⟨fun _ => rfl, rfl⟩, ⟨fun _ => rfl, rfl⟩, trivial⟩
theorem tSm_val {F : Dom} {w : World} {s : Sm} {v : Value} (h : (tSm s).p F w v) : v = .agg (encSm s).toArray := by
  obtain ⟨cs, rfl, h1, h2⟩ := h
  have h1 : cs.size = 2 := h1
  obtain ⟨⟨_, h3⟩, ⟨_, h4⟩, _⟩ := h2
  have h3 : cs.getD 0 undef = .int .i64 s.acc := h3
  have h4 : cs.getD 1 undef = .int .i64 s.amt := h4
  congr 1
  apply Array.ext
  · simpa [encSm] using h1
  · intro i hi hi2
    simp [encSm] at hi2
    rw [Array.getD_eq_getD_getElem?] at h3 h4
    match i, hi2 with
    | 0, _ => rw [Array.getElem?_eq_getElem (by omega)] at h3; simpa [encSm] using h3
    | 1, _ => rw [Array.getElem?_eq_getElem (by omega)] at h4; simpa [encSm] using h4
theorem closSm (x y : Sm) (W : World) : Calls Tryz.prog 88 #[.agg (encSm x).toArray, .agg (encSm y).toArray] W fun e w' => e = .returned (.int .i64 (cfSm x y)) ∧ ∃ q os', w' = grow (W.drewN q) os' := by
  have hx := x.h
  have hy := y.h
  have hw : IntKind.i64.wrap (x.acc - y.acc) = cfSm x y := wr64 (by omega) (by omega)
  show Calls Tryz.prog 88 #[.agg #[.int .i64 x.acc, .int .i64 x.amt], .agg #[.int .i64 y.acc, .int .i64 y.amt]] W fun e w' => e = .returned (.int .i64 (cfSm x y)) ∧ ∃ q os', w' = grow (W.drewN q) os'
  generalize cfSm x y = r at hw ⊢
  go_enter Tryz.func88, Tryz.ntmps88
  go_wp2
  go_ret
  exact ⟨rfl, 0, _, by rw [alloc_eq_grow, alloc_eq_grow, grow_grow]; rfl⟩
theorem c_sortSm (xs : List Sm) (hn : xs.length < 4611686018427387904) : CtG Tryz.prog 87 [(1, ⟨84, 2, true, rV tSm xs⟩)] [.own (.sl 1 2 0 xs.length), .val (tE (.func (.func 88) #[] #[]))] (.val (tE (.tuple #[]))) [(1, ⟨84, 2, true, rV tSm (srt cfSm xs)⟩)] [] :=
  sortG sortSum (enc := encSm) (cf := cfSm) (fun w => by kernel_rfl) (fun w => by kernel_rfl) (fun _ => rfl) (fun x v hv => by simp [encSm] at hv; rcases hv with rfl | rfl <;> rfl) (fun F w x v h => tSm_val h) (fun F w x => tSm_mk) swoSm (enters_of Tryz.func88 (by kernel_rfl) rfl) closSm xs hn
theorem srtSm_len {xs : List Sm} : (srt cfSm xs).length = xs.length := (srt_spec swoSm xs).1
theorem hMF : MapF Tryz.prog 132 mkII 0 := mapF_II Tryz.underlying132 Tryz.underlying3 (fun w => by kernel_rfl)
theorem c_Sums (l : List Deal) (o : Int) (b p : List Int) (hd : ∀ d ∈ l, d.share.dig) :
    Ct Tryz.prog 38 [tL 7 true tDeal l, tState o b p] (tT [tL 2 true tSm (if rightL l o b p = true then sumsL o (mpS l p l.length) else []), tI (if rightL l o b p = true then 0 else 2)]) := by
  refine Ct.introM mkII 90 Tryz.func38 rfl Tryz.ntmps38 rfl ?_
  intro w F hM
  refine x6 ?_
  refine x8 ?_
  refine RE (xd4 (k := 3) ti27 rfl) ⟨rfl, trivial⟩ trivial ⟨rfl, trivial⟩ (R1 x5 rfl (R1 x5 rfl (x7 (by kernel_rfl) (x3 (x6 (x6 ?_))))))
  refine x8 ?_
  refine R1 x4 rfl (RE (xa7 (0) ti27 rfl rfl) ⟨rfl, trivial⟩ ⟨rfl, trivial⟩ trivial (R2 (xa0 (c_SRight l o b p hd) fi30 rfl) rfl rfl (R1 xe2 rfl (x7 (by kernel_rfl) (x3 ?_)))))
  refine xf0 rfl (fun h147 => ?_) (fun h147 => ?_)
  ·
    have hr : ¬ rightL l o b p = true := by simpa using h147
    refine x6 ?_
    refine x8 ?_
    refine R1 x5 rfl (R1 x5 rfl (x7 (by kernel_rfl) (x3 (xa2 (xa3 ?_)))))
    exact xf6 Plain.maps rfl rfl rfl (leNil (by rw [if_neg hr])) (Le.int (by rw [if_neg hr]))
  ·
    have hr : rightL l o b p = true := by simpa using h147
    refine xa5 (x3 (x6 ?_))
    obtain ⟨v1, v2, v3, v4, v5⟩ := xj2 hd hr
    have hl16 := xi6 v1
    have hpw : ∀ i, i < l.length → wIn (p.getD i 0) = true := fun i hi => by
      obtain ⟨h1, h2⟩ := v5 i hi
      obtain ⟨q0, q1⟩ := shr_bd v1 hd hi
      rw [h2]; exact wIn_take q0 q1 h1
    have hm := MpI.at v1 v3 hpw l.length (Nat.le_refl _)
    have hml := hm.len
    refine C_regY ?_
    refine wl_makeM hM (xj1 rfl) rfl rfl (fun bm => ?_)
    refine xf8 x5 ⟨rfl, trivial⟩ trivial trivial rfl (wl_nil (x3 (x6 (x6 ?_))))
    refine x8 ?_
    refine R1 x4 rfl (R1 (xb7 Tryz.underlying22) rfl (R1 x4 rfl (x7 (by kernel_rfl) (x3 (xb3 ?_)))))
    refine xe0 (fun (i : Nat) => i ≤ l.length) (fun (i : Nat) => upd (upd (upd (upd (upd (fun _ => none) 3 (some (.own (.ptr 3 0)))) 6 (some (.val (tE (.map (some bm)))))) 17 (some (.val (tL 7 true tDeal l)))) 18 (some (.val (tI l.length)))) 19 (some (.val (tI i)))) (fun (i : Nat) => upd (upd (fun _ => none) 3 (some (⟨27, 3, true, [.val (tState o b p)]⟩))) 90 (some (⟨mkII.cd bm (mpS l p i), 1, false, []⟩))) (nm [3, 90]) (fun (i : Nat) => l.length - i) (0) (Nat.zero_le _) (Sub.int rfl (by first | omega | rfl | (dsimp only; omega)) (Sub.int rfl (by first | omega | rfl | (dsimp only; omega)) (Sub.cons rfl (Sub.cons rfl (Sub.cons rfl Sub.nil))))) ((SubK.consI rfl ImpK.refl) ((SubK.consI rfl ImpK.refl) SubK.nil)) (SupG.val (SupG.val (SupG.val (SupG.val (SupG.own rfl SupG.nil))))) (SupH.cons rfl (supJL rfl) (SupH.cons rfl (supJL rfl) SupH.nil)) (lkOk rfl) ?_
    intro i hI
    refine x6 ?_
    refine x8 ?_
    refine R2 xd7 rfl rfl (x7 (by kernel_rfl) (x3 (x6 ?_)))
    refine xc5 rfl (fun h151 => ?_) (fun h151 => ?_)
    ·
      refine xa5 (x3 (x6 (xb3 (x6 ?_))))
      refine x8 ?_
      refine R1 x4 rfl (R2 (xb6 sl22 (i) (by omega) (gD (l := l) (n := i) (d := deal0) (by omega))) rfl rfl (R1 (xb8 ti56) rfl (RE (xc4 (k := 8) (n := 7) (agg := true) zr56.1 zr56.2 rfl) trivial trivial ⟨rfl, trivial⟩ (R1 x5 rfl (RE (xa6 (es := 7) (agg := true) (0) ti56 rfl rfl rfl) ⟨rfl, rfl, trivial⟩ ⟨rfl, trivial⟩ trivial (x7 (by kernel_rfl) (x3 ?_)))))))
      have hmi := MpI.at v1 v3 hpw i (by omega)
      have hpi := xe8.1 (hpw i (by omega))
      have hbi : -(16 * 1099511627776) ≤ entV 0 (mpS l p i) (l.getD i deal0).acc ∧ entV 0 (mpS l p i) (l.getD i deal0).acc ≤ 16 * 1099511627776 := by
        rcases entV_mem (m := mpS l p i) (a := (l.getD i deal0).acc) with h | h
        · rw [h]; omega
        · have := hmi.amt _ h; simp only at this; omega
      refine C_drawY (n := 10) mixed ?_
      refine R1 x4 rfl (R1 (x9 fo56_3 rfl) rfl (xa4 (0) ti3 rfl rfl rfl (At.g 3 rfl rfl) rfl (RE (d_lookupM hMF hM bm (mpS l p i) (l.getD i deal0).acc) ⟨rfl, rfl, trivial⟩ ⟨rfl, trivial⟩ trivial (R1 (x9 fo27_2 rfl) rfl (xa4 (0) ti23 rfl rfl rfl (At.g 2 rfl rfl) rfl (R1 x4 rfl (R2 (xb6 sl23 (i) (by omega) (gZ (by omega))) rfl rfl ?_)))))))
      refine R1 (xb8 ti3) rfl (R2 (xc2 (wr64 (by omega) (by omega))) rfl rfl (R_endY (by kernel_rfl) (wl_putM (b := bm) (l := (mpS l p i)) (a := (l.getD i deal0).acc) (v := (entV 0 (mpS l p i) (l.getD i deal0).acc + p.getD i 0)) hMF hM (xj1 rfl) rfl rfl rfl rfl (wl_nil (xc8 (x3 ?_))))))
      refine x8 ?_
      refine R2 (xc2 (wr64 (by omega) (by omega))) rfl rfl (R1 x4 rfl (x7 (by kernel_rfl) ?_))
      exact xc6 (i + 1) ⟨(by omega), (by omega)⟩ (Sub.int rfl (by first | omega | rfl | (dsimp only; omega)) (Sub.int rfl (by first | omega | rfl | (dsimp only; omega)) (Sub.cons rfl (Sub.cons rfl (Sub.cons rfl Sub.nil))))) ((SubK.consI rfl ImpK.refl) ((SubK.consI rfl ImpK.refl) SubK.nil)) (SupG.val (SupG.val (SupG.val (SupG.val (SupG.own rfl SupG.nil))))) (SupH.cons rfl (supJL rfl) (SupH.cons rfl (supJL rfl) SupH.nil)) (lkOk rfl)
    ·
      refine xd8 (xc1 (xc1 (xe3 (x3 (x6 ?_)))))
      have hil : i = l.length := by omega
      subst hil
      refine x8 ?_
      refine R1 (x9 fo27_0 rfl) rfl (xa4 (0) ti3 rfl rfl rfl (At.g 0 rfl rfl) rfl (R2 (xd9 (r := tS [⟨1, false, tI 0⟩, ⟨1, false, tI o⟩]) (ts := [(0, tI 0), (1, tI o)]) bu84 zr84.2 ⟨_, rfl⟩ rfl ⟨_, _, _, _, rfl, Up.f (fs := [⟨1, false, (tE (.int .i64 0))⟩, ⟨1, false, (tE (.int .i64 0))⟩]) (f := ⟨1, false, (tE (.int .i64 0))⟩) (fs' := [⟨1, false, tI 0⟩, ⟨1, false, (tE (.int .i64 0))⟩]) 0 rfl rfl rfl, inferInstance, ⟨_, _, _, _, rfl, Up.f (fs := [⟨1, false, tI 0⟩, ⟨1, false, (tE (.int .i64 0))⟩]) (f := ⟨1, false, (tE (.int .i64 0))⟩) (fs' := [⟨1, false, tI 0⟩, ⟨1, false, tI o⟩]) 1 rfl rfl rfl, inferInstance, Le.refl⟩⟩) rfl rfl (RE (d_sliceOfO (k := 38) (ents := rV tSm [own0 o]) Tryz.underlying77 el84 zf84 rfl (fun e he => by simp only [rV, List.map_cons, List.map_nil, List.mem_singleton] at he; subst he; infer_instance) rfl rfl rfl) ⟨rfl, trivial⟩ trivial ⟨rfl, trivial⟩ (R1 x5 rfl (x7 (by kernel_rfl) (x3 (x6 ?_)))))))
      refine x6 ?_
      refine C_regY ?_
      refine xf8 x4 ⟨rfl, trivial⟩ trivial trivial rfl ?_
      refine wl_rangeM (b := bm) (l := (mpS l p l.length)) Tryz.underlying132 hM (xj1 rfl) rfl rfl rfl (fun ri => ?_)
      refine wl_nil (x3 (xb3 ?_))
      refine xe0 (fun (q : List Nat) => q.Nodup ∧ ∀ i ∈ q, i < (mpS l p l.length).length) (fun (q : List Nat) => upd (upd (fun _ => none) 9 (some (.own (.sl 38 2 0 (vsS o (mpS l p l.length) q).length)))) 40 (some (.val (tE (.pointer (some ⟨ri, 0, none⟩)))))) (fun (q : List Nat) => upd (upd (fun _ => none) 38 (some (⟨84, 2, true, rV tSm (vsS o (mpS l p l.length) q)⟩))) 90 (some (⟨mkII.ci bm (mpS l p l.length) ri q, 1, false, []⟩))) (nm [38, 90]) (fun (q : List Nat) => lft (mpS l p l.length).length q) ([]) ⟨List.nodup_nil, fun _ h => by cases h⟩ (Sub.cons rfl (Sub.cons rfl Sub.nil)) ((SubK.consI rfl ImpK.refl) ((SubK.consI rfl ImpK.refl) SubK.nil)) (SupG.val (SupG.own rfl SupG.nil)) (SupH.cons rfl (supJL rfl) (SupH.cons rfl (supJ xg3) SupH.nil)) (lkOk rfl) ?_
      intro q hI
      obtain ⟨hq1, hq2⟩ := hI
      have hql := nodup_len hq1 hq2
      refine x6 ?_
      refine C_regY ?_
      refine wl_nextM (b := bm) (l := (mpS l p l.length)) (r := ri) (q := q) hM (xj1 rfl) rfl rfl rfl (fun hend => ?_) (fun ie ke ve hie hqe => ?_)
      ·
        refine xf8 (xa8 rfl) ⟨rfl, trivial⟩ trivial trivial rfl (wl_nil (x3 (x6 (C_bF rfl rfl (xd8 (xc1 (xc1 ?_)))))))
        refine xe3 (x3 (x6 ?_))
        have hq9 : q.length ≤ l.length := by have := (nodup_full hq1 hq2 hend).length_eq; rw [List.length_range] at this; omega
        refine x8 ?_
        refine R1 x4 rfl (RE (xi0 (fun _ => 38) (c_sortSm (vsS o (mpS l p l.length) q) (by rw [vs_len]; omega)) fi87 rfl (krC (ρ := fun _ => 38) (k := 1) ren_rV (krN (ρ := fun _ => 38))) (krC (ρ := fun _ => 38) (k := 1) ren_rV (krN (ρ := fun _ => 38))) ⟨⟨rfl, xg3⟩, trivial⟩ rfl) ⟨rfl, rfl, trivial⟩ ⟨rfl, trivial⟩ trivial (x7 (by kernel_rfl) (x3 (x6 ?_))))
        refine x8 ?_
        refine R1 x4 rfl (RE (d_assignS (f := tSm) (xs := srt cfSm (vsS o (mpS l p l.length) q)) (fun _ h => h) (rV_all srtSm_len) srtSm_len) ⟨rfl, trivial⟩ ⟨rfl, trivial⟩ trivial (R1 x5 rfl (x7 (by kernel_rfl) (x3 (xa2 ?_)))))
        exact xf6 Plain.maps rfl rfl rfl (Le.of (by rw [if_pos hr, vs_sort hq1 hq2 hend hm.keys hm.acc])) (Le.int (by rw [if_pos hr]))
      ·
        obtain ⟨x, rfl, rfl⟩ := mp_sm hm.acc hie
        have hil := (List.getElem?_eq_some_iff.1 hie).1
        have hq3 := q_snoc hq1 hq2 hil hqe
        refine xf8 (xa8 rfl) ⟨rfl, trivial⟩ trivial trivial rfl (wl_nil (x3 (x6 (C_bT rfl rfl (xa5 (x3 (xb3 ?_)))))))
        refine x6 ?_
        refine C_regY ?_
        refine wl_entM (b := bm) (l := (mpS l p l.length)) (r := ri) (i := ie) (q := q) hie hM (xj1 rfl) rfl rfl rfl (xf8 (xa8 rfl) ⟨rfl, trivial⟩ trivial trivial rfl (xf8 (xa8 rfl) ⟨rfl, trivial⟩ trivial trivial rfl (xf8 x5 ⟨rfl, trivial⟩ trivial trivial rfl (xf8 x5 ⟨rfl, trivial⟩ trivial trivial rfl (wl_nil (x3 ?_))))))
        refine x8 ?_
        refine R1 x4 rfl (R1 x4 rfl (R1 x4 rfl (R2 (xd9 (r := tS [⟨1, false, tI x.acc⟩, ⟨1, false, tI x.amt⟩]) (ts := [(0, tI x.acc), (1, tI x.amt)]) bu84 zr84.2 ⟨_, rfl⟩ rfl ⟨_, _, _, _, rfl, Up.f (fs := [⟨1, false, (tE (.int .i64 0))⟩, ⟨1, false, (tE (.int .i64 0))⟩]) (f := ⟨1, false, (tE (.int .i64 0))⟩) (fs' := [⟨1, false, tI x.acc⟩, ⟨1, false, (tE (.int .i64 0))⟩]) 0 rfl rfl rfl, inferInstance, ⟨_, _, _, _, rfl, Up.f (fs := [⟨1, false, tI x.acc⟩, ⟨1, false, (tE (.int .i64 0))⟩]) (f := ⟨1, false, (tE (.int .i64 0))⟩) (fs' := [⟨1, false, tI x.acc⟩, ⟨1, false, tI x.amt⟩]) 1 rfl rfl rfl, inferInstance, Le.refl⟩⟩) rfl rfl (R1 (xf3 (n := 1) (f := tSm) [x] Tryz.underlying77 el84 zf84 rfl (fun _ => inferInstance) rfl rfl rfl) rfl (RE (xg4 (k := 38) (k' := 51) (f := tSm) (ys := [x]) (ts' := rV tSm ((vsS o (mpS l p l.length) q) ++ [x])) Tryz.underlying77 el84 zf84 rfl rfl (fun _ => inferInstance) rV_len (by simp [vs_len]; omega) (by simp [vs_len]; omega) (by simp [rV]) (n' := (vsS o (mpS l p l.length) q).length + 1) rfl) ⟨rfl, rfl, trivial⟩ ⟨rfl, trivial⟩ ⟨rfl, trivial⟩ (R1 x5 rfl (x7 (by kernel_rfl) ?_)))))))
        refine xc8 ?_
        exact K_famR (l := [38, 90]) (fun j => cond (Nat.beq j 38) 51 (j)) (q ++ [ie]) ⟨hq3, (lft_next hil hqe)⟩ (SubR.cons rfl ((SubR.consI rfl (Imp.of (by rw [vs_next hie, List.length_append]; rfl))) SubR.nil)) ((SubKR.consI rfl ImpK.refl) ((SubKR.consI rfl (ImpK.of (by rw [vs_next hie, mkSm_eta]; exact ren_rV.symm))) SubKR.nil)) (SupG.val (SupG.own rfl SupG.nil)) (SupH.cons rfl (supJL rfl) (SupH.cons rfl (supJ xg3) SupH.nil)) (lkOk rfl) rfl rfl (fun k h => by have h : some 90 = some k := h; cases h; rfl)
end An.S

/- Multiplying limb by limb: plain numbers. -/
namespace An
open Go
theorem mul_lt16 {x y : Nat} (hx : x < 65536) (hy : y < 65536) : x * y ≤ 4294836225 := by
  have := Nat.mul_le_mul (show x ≤ 65535 by omega) (show y ≤ 65535 by omega)
  omega
theorem rtimes_in {b i j c x y s la : Nat} {w0 vs : List Nat} (hl : vs.length = la) (hD : Dig 65536 vs) (hw : w0.length = la) (hdr : vs.drop (i + j) = w0.drop (i + j)) (hij : i + j < la) (hc : c < 65536) (hx : x < 65536) (hy : y = b / 65536 ^ j % 65536)
    (hs : s = x * y + vs.getD (i + j) 0 + c) (h : val 65536 (vs.take (i + j)) + c * 65536 ^ (i + j) = val 65536 (w0.take (i + j)) + x * 65536 ^ i * (b % 65536 ^ j)) :
    (vs.set (i + j) (s % 65536)).length = la ∧ Dig 65536 (vs.set (i + j) (s % 65536)) ∧ (vs.set (i + j) (s % 65536)).drop (i + (j + 1)) = w0.drop (i + (j + 1)) ∧ s / 65536 < 65536 ∧
      val 65536 ((vs.set (i + j) (s % 65536)).take (i + (j + 1))) + s / 65536 * 65536 ^ (i + (j + 1)) = val 65536 (w0.take (i + (j + 1))) + x * 65536 ^ i * (b % 65536 ^ (j + 1)) := by
  have hyW : y < 65536 := by rw [hy]; exact Nat.mod_lt _ (by decide)
  have hg : vs.getD (i + j) 0 < 65536 := hD.getD (by decide) _
  refine ⟨by simpa using hl, hD.set (Nat.mod_lt _ (by decide)), by rw [← Nat.add_assoc, xg1]; exact xi7 hdr (by omega), ?_, ?_⟩
  · have := mul_lt16 hx hyW
    refine Nat.div_lt_of_lt_mul ?_
    show s < 65536 * 65536
    have : vs.getD (i + j) 0 < 65536 := hg
    have : c < 65536 := hc
    omega
  · rw [← Nat.add_assoc, xg7 (by omega), xf7 _ w0 _ (by omega), ← xh8 hdr (Nat.le_refl _)]
    exact mul_step h hs hy
theorem rtimes_out {a b i c la lb : Nat} {w0 vs : List Nat} (hi : i < la) (hw : w0.length = la + lb) (hl : vs.length = la + lb) (hD : Dig 65536 vs) (hdr : vs.drop (i + lb) = w0.drop (i + lb)) (hz : w0.drop (i + lb) = List.replicate (la - i) 0) (hc : c < 65536)
    (h0 : val 65536 (w0.take (i + lb)) = a % 65536 ^ i * b) (hb : b < 65536 ^ lb) (h : val 65536 (vs.take (i + lb)) + c * 65536 ^ (i + lb) = val 65536 (w0.take (i + lb)) + a / 65536 ^ i % 65536 * 65536 ^ i * (b % 65536 ^ lb)) :
    (vs.set (i + lb) c).length = la + lb ∧ Dig 65536 (vs.set (i + lb) c) ∧ (vs.set (i + lb) c).drop (i + 1 + lb) = List.replicate (la - (i + 1)) 0 ∧ val 65536 ((vs.set (i + lb) c).take (i + 1 + lb)) = a % 65536 ^ (i + 1) * b := by
  refine ⟨by simpa using hl, hD.set hc, ?_, ?_⟩
  · rw [show i + 1 + lb = i + lb + 1 by omega, xg1, xi7 (j := i + lb + 1) hdr (by omega), ← List.drop_drop, hz, List.drop_replicate]; congr 1
  · rw [show i + 1 + lb = i + lb + 1 by omega, xg7 (by omega), Nat.mul_comm _ c, h, h0, xi1, Nat.mod_eq_of_lt hb, Nat.add_mul]
    congr 1
    rw [Nat.mul_comm (65536 ^ i)]
theorem rtimes_end {a b la lb : Nat} {ws : List Nat} (hl : ws.length = la + lb) (hD : Dig 65536 ws) (ha : a < 65536 ^ la) (h : val 65536 (ws.take (la + lb)) = a % 65536 ^ la * b) : trimL ws = dig 65536 (a * b) := by
  rw [xf9 xb0 hD]
  rw [← hl, List.take_length, Nat.mod_eq_of_lt ha] at h
  rw [h]
end An

/- The references of layers 1 and 2: products, sums, quotients, numbers of 64 bits, fractions. -/
namespace An.S
open Go Go.Proofs An
set_option maxHeartbeats 2000000
set_option maxRecDepth 100000
theorem fi80 : FnI Tryz.prog 80 := ⟨_, Tryz.func80, by kernel_rfl, rfl⟩
theorem fi84 : FnI Tryz.prog 84 := ⟨_, Tryz.func84, by kernel_rfl, rfl⟩
theorem fi85 : FnI Tryz.prog 85 := ⟨_, Tryz.func85, by kernel_rfl, rfl⟩
theorem fi129 : FnI Tryz.prog 129 := ⟨_, Tryz.func129, by kernel_rfl, rfl⟩
theorem fi130 : FnI Tryz.prog 130 := ⟨_, Tryz.func130, by kernel_rfl, rfl⟩
theorem fi131 : FnI Tryz.prog 131 := ⟨_, Tryz.func131, by kernel_rfl, rfl⟩
theorem fi136 : FnI Tryz.prog 136 := ⟨_, Tryz.func136, by kernel_rfl, rfl⟩
theorem fi176 : FnI Tryz.prog 176 := ⟨_, Tryz.func176, by kernel_rfl, rfl⟩
theorem fi177 : FnI Tryz.prog 177 := ⟨_, Tryz.func177, by kernel_rfl, rfl⟩
theorem c_RTimes (a b : Nat) (ha : (dig 65536 a).length ≤ 100000) (hb : (dig 65536 b).length ≤ 100000) :
  Ct Tryz.prog 136 [tM a, tM b] (tM (a * b)) := by
 refine Ct.intro Tryz.func136 rfl Tryz.ntmps136 rfl ?_
 intro w F
 have hbW := xh3 xb0 b
 refine x6 ?_
 refine x8 ?_
 refine R1 x5 rfl (x7 (by kernel_rfl) (x3 (x6 ?_)))
 refine x8 ?_
 refine R1 x4 rfl (R1 (xb7 Tryz.underlying45) rfl (R1 x4 rfl (R1 (xb7 Tryz.underlying45) rfl (R2 (xc2 (wr64 (by omega) (by omega))) rfl rfl (RE (d_makeO (k := 14) (t := tE (.int .u16 0)) (ts := rW .u16 (List.replicate (((dig 65536 a).length + (dig 65536 b).length)) 0)) (((dig 65536 a).length + (dig 65536 b).length)) (((dig 65536 a).length + (dig 65536 b).length)) Tryz.underlying45 el166 (fun _ _ => rfl) rfl (by omega) (by omega) (Nat.le_refl _) (by omega) (by omega) (rW_rep _)) ⟨rfl, rfl, trivial⟩ trivial ⟨rfl, trivial⟩ (R1 x5 rfl (x7 (by kernel_rfl) ?_)))))))
 refine x3 (x6 (x6 ?_))
 refine x8 ?_
 refine R1 x5 rfl (x7 (by kernel_rfl) (x3 (xb3 ?_)))
 refine xe0 (fun (fm : (Nat) × (List Nat)) => (fun (i : Nat) (ws : List Nat) => i ≤ (dig 65536 a).length ∧ ws.length = (dig 65536 a).length + (dig 65536 b).length ∧ Dig 65536 ws ∧ ws.drop (i + (dig 65536 b).length) = List.replicate ((dig 65536 a).length - i) 0 ∧ val 65536 (ws.take (i + (dig 65536 b).length)) = a % 65536 ^ i * b) fm.1 fm.2) (fun (fm : (Nat) × (List Nat)) => (fun (i : Nat) (ws : List Nat) => upd (upd (upd (upd (fun _ => none) 0 (some (.val (tM a)))) 1 (some (.val (tM b)))) 5 (some (.own (.sl 14 1 0 ((dig 65536 a).length + (dig 65536 b).length))))) 6 (some (.val (tI i)))) fm.1 fm.2) (fun (fm : (Nat) × (List Nat)) => (fun (i : Nat) (ws : List Nat) => upd (fun _ => none) 14 (some (⟨166, 1, false, rW .u16 ws⟩))) fm.1 fm.2) (nm [14]) (fun (fm : (Nat) × (List Nat)) => (fun (i : Nat) (ws : List Nat) => (dig 65536 a).length - i) fm.1 fm.2) ((0, List.replicate ((dig 65536 a).length + (dig 65536 b).length) 0)) (by dsimp only; exact ⟨Nat.zero_le _, by simp, Dig.rep (by decide) _, by rw [List.drop_replicate]; congr 1; omega, by rw [List.take_replicate, xg9, Nat.pow_zero, Nat.mod_one, Nat.zero_mul]⟩) (Sub.int rfl (by first | omega | rfl | (dsimp only; omega)) (Sub.cons rfl (Sub.cons rfl (Sub.cons rfl Sub.nil)))) ((SubK.consI rfl ImpK.refl) SubK.nil) (SupG.val (SupG.own rfl (SupG.val (SupG.val SupG.nil)))) (SupH.cons rfl (supJ xc3) SupH.nil) (lkOk rfl) ?_
 intro fm hI
 obtain ⟨i, ws⟩ := fm
 replace hI : i ≤ (dig 65536 a).length ∧ ws.length = (dig 65536 a).length + (dig 65536 b).length ∧ Dig 65536 ws ∧ ws.drop (i + (dig 65536 b).length) = List.replicate ((dig 65536 a).length - i) 0 ∧ val 65536 (ws.take (i + (dig 65536 b).length)) = a % 65536 ^ i * b := hI
 show wc _ _ _ _ (upd (upd (upd (upd (fun _ => none) 0 (some (.val (tM a)))) 1 (some (.val (tM b)))) 5 (some (.own (.sl 14 1 0 ((dig 65536 a).length + (dig 65536 b).length))))) 6 (some (.val (tI i)))) (upd (fun _ => none) 14 (some (⟨166, 1, false, rW .u16 ws⟩))) _
 obtain ⟨hi, hl, hD, hz, hv⟩ := hI
 have hx := xe5 xb0 a i
 have hx1 := (xe6 xb0 a).getD (by omega) i
 refine x6 (x6 ?_)
 refine x8 ?_
 refine R1 x4 rfl (R1 x4 rfl (R1 (xb7 Tryz.underlying45) rfl (R2 xd7 rfl rfl (x7 (by kernel_rfl) (x3 ?_)))))
 refine xc5 rfl (fun h66 => ?_) (fun h66 => ?_)
 ·
  refine xa5 (x3 (x6 (xb3 (x6 ?_))))
  refine x8 ?_
  refine R1 x5 rfl (x7 (by kernel_rfl) (x3 (x6 (x6 ?_))))
  refine x8 ?_
  refine R1 x5 rfl (x7 (by kernel_rfl) (x3 (xb3 ?_)))
  refine xe0 (fun (fm : (Nat) × (List Nat) × (Nat)) => (fun (j : Nat) (vs : List Nat) (c : Nat) => j ≤ (dig 65536 b).length ∧ vs.length = (dig 65536 a).length + (dig 65536 b).length ∧ Dig 65536 vs ∧ vs.drop (i + j) = ws.drop (i + j) ∧ c < 65536 ∧ val 65536 (vs.take (i + j)) + c * 65536 ^ (i + j) = val 65536 (ws.take (i + j)) + (dig 65536 a).getD i 0 * 65536 ^ i * (b % 65536 ^ j)) fm.1 fm.2.1 fm.2.2) (fun (fm : (Nat) × (List Nat) × (Nat)) => (fun (j : Nat) (vs : List Nat) (c : Nat) => upd (upd (upd (upd (upd (upd (fun _ => none) 0 (some (.val (tM a)))) 1 (some (.val (tM b)))) 5 (some (.own (.sl 14 1 0 ((dig 65536 a).length + (dig 65536 b).length))))) 6 (some (.val (tI i)))) 7 (some (.val (tI c)))) 8 (some (.val (tI j)))) fm.1 fm.2.1 fm.2.2) (fun (fm : (Nat) × (List Nat) × (Nat)) => (fun (j : Nat) (vs : List Nat) (c : Nat) => upd (fun _ => none) 14 (some (⟨166, 1, false, rW .u16 vs⟩))) fm.1 fm.2.1 fm.2.2) (nm [14]) (fun (fm : (Nat) × (List Nat) × (Nat)) => (fun (j : Nat) (vs : List Nat) (c : Nat) => (dig 65536 b).length - j) fm.1 fm.2.1 fm.2.2) ((0, ws, 0)) (by dsimp only; exact ⟨Nat.zero_le _, hl, hD, rfl, by omega, by rw [Nat.pow_zero, Nat.mod_one]; omega⟩) (Sub.int rfl (by first | omega | rfl | (dsimp only; omega)) (Sub.int rfl (by first | omega | rfl | (dsimp only; omega)) (Sub.int rfl (by first | omega | rfl | (dsimp only; omega)) (Sub.cons rfl (Sub.cons rfl (Sub.cons rfl Sub.nil)))))) ((SubK.consI rfl ImpK.refl) SubK.nil) (SupG.val (SupG.val (SupG.val (SupG.own rfl (SupG.val (SupG.val SupG.nil)))))) (SupH.cons rfl (supJ xc3) SupH.nil) (lkOk rfl) ?_
  intro fm hJ
  obtain ⟨j, vs, c⟩ := fm
  replace hJ : j ≤ (dig 65536 b).length ∧ vs.length = (dig 65536 a).length + (dig 65536 b).length ∧ Dig 65536 vs ∧ vs.drop (i + j) = ws.drop (i + j) ∧ c < 65536 ∧ val 65536 (vs.take (i + j)) + c * 65536 ^ (i + j) = val 65536 (ws.take (i + j)) + (dig 65536 a).getD i 0 * 65536 ^ i * (b % 65536 ^ j) := hJ
  show wc _ _ _ _ (upd (upd (upd (upd (upd (upd (fun _ => none) 0 (some (.val (tM a)))) 1 (some (.val (tM b)))) 5 (some (.own (.sl 14 1 0 ((dig 65536 a).length + (dig 65536 b).length))))) 6 (some (.val (tI i)))) 7 (some (.val (tI c)))) 8 (some (.val (tI j)))) (upd (fun _ => none) 14 (some (⟨166, 1, false, rW .u16 vs⟩))) _
  obtain ⟨hj, kl, kD, kdr, kc, kv⟩ := hJ
  have hy := xe5 xb0 b j
  have hy1 := (xe6 xb0 b).getD (by omega) j
  have hw1 := kD.getD (by omega) (i + j)
  have hxy := mul_lt16 hx1 hy1
  refine x6 (x6 ?_)
  refine x8 ?_
  refine R1 x4 rfl (R1 x4 rfl (R1 (xb7 Tryz.underlying45) rfl (R2 xd7 rfl rfl (x7 (by kernel_rfl) (x3 ?_)))))
  refine xc5 rfl (fun h68 => ?_) (fun h68 => ?_)
  ·
   refine xa5 (x3 (x6 (xb3 (x6 ?_))))
   refine xc9 mixed ?_
   refine R1 x4 rfl (R1 x4 rfl (R1 x4 rfl (R2 (xb6 sl45 (i) (by omega) (gN (by omega))) rfl rfl (R1 (xb8 ti166) rfl (R1 (xb4 Tryz.underlying3 (isS Tryz.underlying166) (wr64 (by omega) (by omega))) rfl (R1 x4 rfl (R1 x4 rfl ?_)))))))
   refine R2 (xb6 sl45 (j) (by omega) (gN (by omega))) rfl rfl (R1 (xb8 ti166) rfl (R1 (xb4 Tryz.underlying3 (isS Tryz.underlying166) (wr64 (by omega) (by omega))) rfl (R2 (d_mul (r := (((dig 65536 a).getD i 0 * (dig 65536 b).getD j 0 : Nat) : Int)) (by rw [← Int.natCast_mul, wr64 (by omega) (by omega)])) rfl rfl (R2 (xc2 (r := ((c + (dig 65536 a).getD i 0 * (dig 65536 b).getD j 0 : Nat) : Int)) (by rw [wr64 (by omega) (by omega)]; omega)) rfl rfl (R1 x4 rfl (R1 x4 rfl (R1 x4 rfl ?_)))))))
   refine R2 (xc2 (wr64 (by omega) (by omega))) rfl rfl (R2 (xd0 sl45 (by omega) (by omega) rfl) rfl rfl (RE (xa7 (i + j) ti166 (rW_get (by omega)) (by omega)) ⟨rfl, trivial⟩ ⟨rfl, trivial⟩ trivial (R1 (xb4 Tryz.underlying3 (isS Tryz.underlying166) (wr64 (by omega) (by omega))) rfl (R2 (xc2 (r := (((c + (dig 65536 a).getD i 0 * (dig 65536 b).getD j 0 + vs.getD (i + j) 0) : Nat) : Int)) (by rw [wr64 (by omega) (by omega)]; omega)) rfl rfl (R1 x5 rfl (xd1 (by kernel_rfl) (x3 ?_)))))))
   refine x6 ?_
   refine x8 ?_
   refine R1 x4 rfl (R1 x4 rfl (R1 x4 rfl (R2 (xc2 (wr64 (by omega) (by omega))) rfl rfl (R1 x4 rfl (R2 (d_rem (r := (((c + (dig 65536 a).getD i 0 * (dig 65536 b).getD j 0 + vs.getD (i + j) 0) % 65536 : Nat) : Int)) (by decide) (wrem64 (b := 65536))) rfl rfl (R1 (xb4 Tryz.underlying166 (isS Tryz.underlying3) (wu16 (by omega) (by omega))) rfl (R2 (xd0 sl45 (by omega) (by omega) rfl) rfl rfl ?_)))))))
   refine RE (xa6 (i + j) ti166 (rW_lt (by omega)) (by omega) (rW_set (m := _) rfl)) ⟨rfl, rfl, trivial⟩ ⟨rfl, trivial⟩ trivial (x7 (by kernel_rfl) (x3 ?_))
   refine x8 ?_
   refine R1 x4 rfl (R2 (d_quo (r := (((c + (dig 65536 a).getD i 0 * (dig 65536 b).getD j 0 + vs.getD (i + j) 0) / 65536 : Nat) : Int)) (by decide) (iquo64 (b := 65536) (by omega))) rfl rfl (R1 x5 rfl (x7 (by kernel_rfl) (xc8 (x3 ?_)))))
   refine x8 ?_
   refine R1 x4 rfl (R2 (xc2 (wr64 (by omega) (by omega))) rfl rfl (R1 x5 rfl (x7 (by kernel_rfl) ?_)))
   obtain ⟨n1, n2, n3, n4, n5⟩ := rtimes_in (s := (c + (dig 65536 a).getD i 0 * (dig 65536 b).getD j 0 + vs.getD (i + j) 0)) kl kD hl kdr (by omega) kc hx1 hy (by omega) kv
   exact xc6 ((j + 1, vs.set (i + j) ((c + (dig 65536 a).getD i 0 * (dig 65536 b).getD j 0 + vs.getD (i + j) 0) % 65536), (c + (dig 65536 a).getD i 0 * (dig 65536 b).getD j 0 + vs.getD (i + j) 0) / 65536)) ⟨(by dsimp only; exact ⟨by omega, n1, n2, n3, n4, n5⟩), (by dsimp only; omega)⟩ (Sub.int rfl (by first | omega | rfl | (dsimp only; omega)) (Sub.int rfl (by first | omega | rfl | (dsimp only; omega)) (Sub.int rfl (by first | omega | rfl | (dsimp only; omega)) (Sub.cons rfl (Sub.cons rfl (Sub.cons rfl Sub.nil)))))) ((SubK.consI rfl ImpK.refl) SubK.nil) (SupG.val (SupG.val (SupG.val (SupG.own rfl (SupG.val (SupG.val SupG.nil)))))) (SupH.cons rfl (supJ xc3) SupH.nil) (lkOk rfl)
  ·
   have hjb : j = (dig 65536 b).length := by omega
   refine xd8 (xc1 (xc1 (xe3 (x3 ?_))))
   refine x8 ?_
   refine R1 x4 rfl (R1 x4 rfl (R1 x4 rfl (R1 (xb7 Tryz.underlying45) rfl (R2 (xc2 (wr64 (by omega) (by omega))) rfl rfl (R1 x4 rfl (R1 (xb4 Tryz.underlying166 (isS Tryz.underlying3) (wu16 (by omega) (by omega))) rfl (R2 (xd0 sl45 (by omega) (by omega) rfl) rfl rfl ?_)))))))
   refine RE (xa6 (i + (dig 65536 b).length) ti166 (rW_lt (by omega)) (by omega) (rW_set (m := _) rfl)) ⟨rfl, rfl, trivial⟩ ⟨rfl, trivial⟩ trivial (x7 (by kernel_rfl) (xc8 (x3 ?_)))
   refine x8 ?_
   refine R1 x4 rfl (R2 (xc2 (wr64 (by omega) (by omega))) rfl rfl (R1 x5 rfl (x7 (by kernel_rfl) ?_)))
   obtain ⟨n1, n2, n3, n4⟩ := rtimes_out (by omega) hl kl kD (by rw [← hjb]; exact kdr) hz kc hv hbW (by rw [← hjb, ← hx]; exact kv)
   exact xc6 ((i + 1, vs.set (i + (dig 65536 b).length) c)) ⟨(by dsimp only; exact ⟨by omega, n1, n2, n3, n4⟩), (by dsimp only; omega)⟩ (Sub.int rfl (by first | omega | rfl | (dsimp only; omega)) (Sub.cons rfl (Sub.cons rfl (Sub.cons rfl Sub.nil)))) ((SubK.consI rfl ImpK.refl) SubK.nil) (SupG.val (SupG.own rfl (SupG.val (SupG.val SupG.nil)))) (SupH.cons rfl (supJ xc3) SupH.nil) (lkOk rfl)
 ·
  refine xd8 (xc1 (xc1 (xe3 (x3 (x6 ?_)))))
  refine x8 ?_
  refine RE (xi3 (f := fun n : Nat => tE (.int .u16 n)) (xs := ws) (fun _ h => h) (rW_all hl) hl) ⟨rfl, trivial⟩ ⟨rfl, trivial⟩ trivial (R1 (xa0 (c_RTrim _) fi181 rfl) rfl (R1 x5 rfl (x7 (by kernel_rfl) (x3 (xa2 ?_)))))
  exact xa9 Plain.mk' rfl rfl (Le.of (congrArg tLm (rtimes_end hl hD (xh3 xb0 a) (by rw [← show i = (dig 65536 a).length by omega]; exact hv))))
theorem c_RValid (x : Wh) :
  Ct Tryz.prog 129 [tWh x] (tB x.valid) := by
 refine Ct.intro Tryz.func129 rfl Tryz.ntmps129 rfl ?_
 intro w F
 refine x6 ?_
 refine x8 ?_
 refine RE (xd4 (k := 1) ti47 rfl) ⟨rfl, trivial⟩ trivial ⟨rfl, trivial⟩ (R1 x5 rfl (x7 (by kernel_rfl) (x3 (x6 (x6 ?_)))))
 refine x8 ?_
 refine R1 (x9 fo47_1 rfl) rfl (xa4 (0) ti45 rfl rfl rfl (At.g 1 rfl rfl) rfl (R1 (xb7 Tryz.underlying45) rfl (R2 d_eql rfl rfl (x7 (by kernel_rfl) (x3 ?_)))))
 refine xc5 rfl (fun h142 => ?_) (fun h142 => ?_)
 ·
  refine x6 ?_
  refine x8 ?_
  refine R1 (x9 fo47_0 rfl) rfl (xa4 (0) ti4 rfl rfl rfl (At.g 0 rfl rfl) rfl (R1 xe2 rfl (R1 x5 rfl (x7 (by kernel_rfl) (x3 (xa2 (xa3 ?_)))))))
  exact xa9 Plain.mk' rfl rfl (Le.bool (by simp only [Wh.valid]; rw [if_pos (by omega)]))
 ·
  refine xa5 (x3 (x6 ?_))
  refine C_len (s := 4) rfl (fun hl4 => ?_)
  refine x8 ?_
  refine R1 (x9 fo47_1 rfl) rfl (xa4 (0) ti45 rfl rfl rfl (At.g 1 rfl rfl) rfl (R1 (xb7 Tryz.underlying45) rfl (R2 d_leq rfl rfl (R1 x4 rfl ?_))))
  refine RGcaseD (t := 14) rfl (fun h145 => ?_) (fun h145 => ?_)
  ·
   refine RGon (decide_eq_true h145) rfl (x9 fo47_1 rfl) rfl ⟨rfl, trivial⟩ trivial trivial (xd2 (decide_eq_true h145) rfl rfl (0) ti45 rfl rfl rfl (At.g 1 rfl rfl) rfl (RGon (decide_eq_true h145) rfl (x9 fo47_1 rfl) rfl ⟨rfl, trivial⟩ trivial trivial (xd2 (decide_eq_true h145) rfl rfl (0) ti45 rfl rfl rfl (At.g 1 rfl rfl) rfl (RGon (decide_eq_true h145) rfl (xb7 Tryz.underlying45) rfl ⟨rfl, trivial⟩ trivial trivial (RGon (decide_eq_true h145) rfl (xe4 (wr64 (by omega) (by omega))) rfl ⟨rfl, rfl, trivial⟩ trivial trivial (RGon (decide_eq_true h145) rfl (xb6 sl45 (x.l.length - 1) (by omega) (gN (by omega))) rfl ⟨rfl, rfl, trivial⟩ trivial trivial (RGon (decide_eq_true h145) rfl (xb8 ti166) rfl ⟨rfl, trivial⟩ trivial trivial ?_)))))))
   refine RGon (decide_eq_true h145) rfl xg8 rfl ⟨rfl, rfl, trivial⟩ trivial trivial (R2 (xb2 (decide_eq_true h145)) rfl rfl (R1 x5 rfl (x7 (by kernel_rfl) (x3 (xa2 ?_)))))
   exact xa9 Plain.mk' rfl rfl (Le.bool (by simp only [Wh.valid]; rw [if_neg (by omega), decide_eq_true (show x.l.length ≤ 1024 by omega), Bool.true_and]; exact decide_eq_decide.2 (by omega)))
  ·
   refine RGoff (decide_eq_false h145) rfl rfl (RGoff (decide_eq_false h145) rfl rfl (RGoff (decide_eq_false h145) rfl rfl (RGoff (decide_eq_false h145) rfl rfl (RGoff (decide_eq_false h145) rfl rfl (RGoff (decide_eq_false h145) rfl rfl (RGoff (decide_eq_false h145) rfl rfl (RGoff (decide_eq_false h145) rfl rfl ?_)))))))
   refine RGoff (decide_eq_false h145) rfl rfl (R2 (xc0 (decide_eq_false h145)) rfl rfl (R1 x5 rfl (x7 (by kernel_rfl) (x3 (xa2 ?_)))))
   exact xa9 Plain.mk' rfl rfl (Le.bool (by simp only [Wh.valid]; rw [if_neg (by omega), decide_eq_false (show ¬ x.l.length ≤ 1024 by omega), Bool.false_and]))
theorem rsum1 {x y : Int} (h : ((wh x).neg == (wh y).neg) = true) : sgn (wh x).neg (x.natAbs + y.natAbs) = x + y := by
  have h : decide (x < 0) = decide (y < 0) := eq_of_beq h
  show sgn (decide (x < 0)) _ = _
  by_cases hx : x < 0 <;> by_cases hy : y < 0 <;> simp [hx, hy] at h <;> simp [sgn, hx] <;> omega
theorem rsum2 {x y : Int} (h : ((wh x).neg == (wh y).neg) = false) (hl : x.natAbs < y.natAbs) : sgn (wh y).neg (y.natAbs - x.natAbs) = x + y := by
  have h : (decide (x < 0) == decide (y < 0)) = false := h
  show sgn (decide (y < 0)) _ = _
  by_cases hx : x < 0 <;> by_cases hy : y < 0 <;> simp [hx, hy] at h <;> simp [sgn, hy] <;> omega
theorem rsum3 {x y : Int} (h : ((wh x).neg == (wh y).neg) = false) (hl : ¬ x.natAbs < y.natAbs) : sgn (wh x).neg (x.natAbs - y.natAbs) = x + y := by
  have h : (decide (x < 0) == decide (y < 0)) = false := h
  show sgn (decide (x < 0)) _ = _
  by_cases hx : x < 0 <;> by_cases hy : y < 0 <;> simp [hx, hy] at h <;> simp [sgn, hx] <;> omega
theorem rneg1 {x : Int} : sgn (!(wh x).neg) x.natAbs = -x := by
  show sgn (!decide (x < 0)) _ = _
  by_cases hx : x < 0 <;> simp [sgn, hx] <;> omega
theorem c_RValidV (z : Int) (h : len16 z ≤ 1024) : Ct Tryz.prog 129 [tWh (wh z)] (tB true) := by
  have := c_RValid (wh z)
  rw [valid_wh h] at this; exact this
theorem len_nil {x : Int} : (wh x).l.length = 0 ↔ x = 0 := by
  show (dig 65536 x.natAbs).length = 0 ↔ _
  rw [List.length_eq_zero_iff, xg5 xb0]; omega
theorem c_RSum (x y : Int) (hx : len16 x ≤ 4001) (hy : len16 y ≤ 4001) :
  Ct Tryz.prog 176 [tWh (wh x), tWh (wh y)] (tWh (wh (x + y))) := by
 refine Ct.intro Tryz.func176 rfl Tryz.ntmps176 rfl ?_
 intro w F
 refine x6 ?_
 refine x8 ?_
 refine RE (xd4 (k := 2) ti47 rfl) ⟨rfl, trivial⟩ trivial ⟨rfl, trivial⟩ (RE (xd4 (k := 3) ti47 rfl) ⟨rfl, trivial⟩ trivial ⟨rfl, trivial⟩ (RE (xc4 (k := 4) (n := 2) (agg := true) zr47.1 zr47.2 rfl) trivial trivial ⟨rfl, trivial⟩ (x7 (by kernel_rfl) (x3 (x6 (x6 ?_))))))
 refine x8 ?_
 refine R1 (x9 fo47_0 rfl) rfl (xa4 (0) ti4 rfl rfl rfl (At.g 0 rfl rfl) rfl (R1 (x9 fo47_0 rfl) rfl (xa4 (0) ti4 rfl rfl rfl (At.g 0 rfl rfl) rfl (R2 (d_eqlB Tryz.underlying4) rfl rfl (x7 (by kernel_rfl) (x3 ?_))))))
 refine xf0 rfl (fun h198 => ?_) (fun h198 => ?_)
 ·
  refine x6 ?_
  refine xc9 mixed ?_
  refine R1 (x9 fo47_0 rfl) rfl (xa4 (0) ti4 rfl rfl rfl (At.g 0 rfl rfl) rfl (R1 (x9 fo47_1 rfl) rfl (xa4 (0) ti45 rfl rfl rfl (At.g 1 rfl rfl) rfl (R1 (x9 fo47_1 rfl) rfl (xa4 (0) ti45 rfl rfl rfl (At.g 1 rfl rfl) rfl (R2 (xa0 (c_RPlus x.natAbs y.natAbs (by show len16 x ≤ 100000; omega) (by show len16 y ≤ 100000; omega)) fi134 rfl) rfl rfl (R2 (xa0 (xi2 _ _) fi126 rfl) rfl rfl ?_)))))))
  refine RE (xa6 (es := 2) (agg := true) (0) ti47 rfl rfl rfl) ⟨rfl, rfl, trivial⟩ ⟨rfl, trivial⟩ trivial (xd1 (by kernel_rfl) (x3 (xa2 (xa3 ?_))))
  exact xg2 Plain.mk' rfl ⟨_, _, _, _, _, rfl, rfl, ti47, (Le.of (by rw [rsum1 h198]))⟩
 ·
  refine xa5 (x3 (x6 (x6 ?_)))
  refine x8 ?_
  refine R1 (x9 fo47_1 rfl) rfl (xa4 (0) ti45 rfl rfl rfl (At.g 1 rfl rfl) rfl (R1 (x9 fo47_1 rfl) rfl (xa4 (0) ti45 rfl rfl rfl (At.g 1 rfl rfl) rfl (R2 (xa0 (c_RLess x.natAbs y.natAbs) fi172 rfl) rfl rfl (x7 (by kernel_rfl) (x3 ?_))))))
  refine xc5 rfl (fun h201 => ?_) (fun h201 => ?_)
  ·
   refine x6 ?_
   refine xc9 mixed ?_
   refine R1 (x9 fo47_0 rfl) rfl (xa4 (0) ti4 rfl rfl rfl (At.g 0 rfl rfl) rfl (R1 (x9 fo47_1 rfl) rfl (xa4 (0) ti45 rfl rfl rfl (At.g 1 rfl rfl) rfl (R1 (x9 fo47_1 rfl) rfl (xa4 (0) ti45 rfl rfl rfl (At.g 1 rfl rfl) rfl (R2 (xa0 (c_RMinus y.natAbs x.natAbs (by omega) (by show len16 y ≤ 100000; omega)) fi135 rfl) rfl rfl (R2 (xa0 (xi2 _ _) fi126 rfl) rfl rfl ?_)))))))
   refine RE (xa6 (es := 2) (agg := true) (0) ti47 rfl rfl rfl) ⟨rfl, rfl, trivial⟩ ⟨rfl, trivial⟩ trivial (xd1 (by kernel_rfl) (x3 (xa2 (xa3 ?_))))
   exact xg2 Plain.mk' rfl ⟨_, _, _, _, _, rfl, rfl, ti47, (Le.of (by rw [rsum2 h198 h201]))⟩
  ·
   refine xa5 (x3 (x6 ?_))
   refine xc9 mixed ?_
   refine R1 (x9 fo47_0 rfl) rfl (xa4 (0) ti4 rfl rfl rfl (At.g 0 rfl rfl) rfl (R1 (x9 fo47_1 rfl) rfl (xa4 (0) ti45 rfl rfl rfl (At.g 1 rfl rfl) rfl (R1 (x9 fo47_1 rfl) rfl (xa4 (0) ti45 rfl rfl rfl (At.g 1 rfl rfl) rfl (R2 (xa0 (c_RMinus x.natAbs y.natAbs (by omega) (by show len16 x ≤ 100000; omega)) fi135 rfl) rfl rfl (R2 (xa0 (xi2 _ _) fi126 rfl) rfl rfl ?_)))))))
   refine RE (xa6 (es := 2) (agg := true) (0) ti47 rfl rfl rfl) ⟨rfl, rfl, trivial⟩ ⟨rfl, trivial⟩ trivial (xd1 (by kernel_rfl) (x3 (xa2 ?_)))
   exact xg2 Plain.mk' rfl ⟨_, _, _, _, _, rfl, rfl, ti47, (Le.of (by rw [rsum3 h198 h201]))⟩
theorem c_RNeg (x : Int) :
  Ct Tryz.prog 177 [tWh (wh x)] (tWh (wh (-x))) := by
 refine Ct.intro Tryz.func177 rfl Tryz.ntmps177 rfl ?_
 intro w F
 refine x6 ?_
 refine x8 ?_
 refine RE (xd4 (k := 1) ti47 rfl) ⟨rfl, trivial⟩ trivial ⟨rfl, trivial⟩ (RE (xc4 (k := 2) (n := 2) (agg := true) zr47.1 zr47.2 rfl) trivial trivial ⟨rfl, trivial⟩ (x7 (by kernel_rfl) (x3 (x6 ?_))))
 refine x8 ?_
 refine R1 (x9 fo47_0 rfl) rfl (xa4 (0) ti4 rfl rfl rfl (At.g 0 rfl rfl) rfl (R1 xe2 rfl (R1 (x9 fo47_1 rfl) rfl (xa4 (0) ti45 rfl rfl rfl (At.g 1 rfl rfl) rfl (R2 (xa0 (xi2 _ x.natAbs) fi126 rfl) rfl rfl (RE (xa6 (es := 2) (agg := true) (0) ti47 rfl rfl rfl) ⟨rfl, rfl, trivial⟩ ⟨rfl, trivial⟩ trivial (x7 (by kernel_rfl) ?_)))))))
 refine x3 (xa2 ?_)
 exact xg2 Plain.mk' rfl ⟨_, _, _, _, _, rfl, rfl, ti47, (Le.of (by rw [rneg1]))⟩
theorem c_RProduct (x y : Int) (hx : len16 x ≤ 4001) (hy : len16 y ≤ 4001) :
  Ct Tryz.prog 85 [tWh (wh x), tWh (wh y)] (tWh (wh (x * y))) := by
 refine Ct.intro Tryz.func85 rfl Tryz.ntmps85 rfl ?_
 intro w F
 refine x6 ?_
 refine x8 ?_
 refine RE (xd4 (k := 2) ti47 rfl) ⟨rfl, trivial⟩ trivial ⟨rfl, trivial⟩ (RE (xd4 (k := 3) ti47 rfl) ⟨rfl, trivial⟩ trivial ⟨rfl, trivial⟩ (RE (xc4 (k := 4) (n := 2) (agg := true) zr47.1 zr47.2 rfl) trivial trivial ⟨rfl, trivial⟩ (x7 (by kernel_rfl) (x3 (x6 ?_)))))
 refine xc9 mixed ?_
 refine R1 (x9 fo47_0 rfl) rfl (xa4 (0) ti4 rfl rfl rfl (At.g 0 rfl rfl) rfl (R1 (x9 fo47_0 rfl) rfl (xa4 (0) ti4 rfl rfl rfl (At.g 0 rfl rfl) rfl (R2 (d_neqB Tryz.underlying4) rfl rfl (R1 (x9 fo47_1 rfl) rfl (xa4 (0) ti45 rfl rfl rfl (At.g 1 rfl rfl) rfl (R1 (x9 fo47_1 rfl) rfl ?_)))))))
 refine xa4 (0) ti45 rfl rfl rfl (At.g 1 rfl rfl) rfl (R2 (xa0 (c_RTimes x.natAbs y.natAbs (by show len16 x ≤ 100000; omega) (by show len16 y ≤ 100000; omega)) fi136 rfl) rfl rfl (R2 (xa0 (xi2 _ _) fi126 rfl) rfl rfl (RE (xa6 (es := 2) (agg := true) (0) ti47 rfl rfl rfl) ⟨rfl, rfl, trivial⟩ ⟨rfl, trivial⟩ trivial (xd1 (by kernel_rfl) (x3 (xa2 ?_))))))
 exact xg2 Plain.mk' rfl ⟨_, _, _, _, _, rfl, rfl, ti47, (Le.of (by rw [sgn_mul]))⟩
theorem c_RFloor (x y : Int) (hx : len16 x ≤ 4000) (hy : len16 y ≤ 4000) (hy0 : 0 < y) :
  Ct Tryz.prog 84 [tWh (wh x), tWh (wh y)] (tT [tWh (wh (x / y)), tWh (wh (x % y))]) := by
 have hrl : x.natAbs % y.natAbs < y.natAbs := Nat.mod_lt _ (by omega)
 have ey : (wh y).neg = false := decide_eq_false (by omega)
 have ex : (wh x).neg = decide (x < 0) := rfl
 have hql : (dig 65536 (x.natAbs / y.natAbs)).length ≤ 4000 := lenM (Nat.div_le_self _ _) hx
 refine Ct.intro Tryz.func84 rfl Tryz.ntmps84 rfl ?_
 intro w F
 refine x6 ?_
 refine x8 ?_
 refine RE (xd4 (k := 2) ti47 rfl) ⟨rfl, trivial⟩ trivial ⟨rfl, trivial⟩ (RE (xd4 (k := 3) ti47 rfl) ⟨rfl, trivial⟩ trivial ⟨rfl, trivial⟩ (RE (xc4 (k := 4) (n := 2) (agg := true) zr47.1 zr47.2 rfl) trivial trivial ⟨rfl, trivial⟩ (RE (xc4 (k := 5) (n := 2) (agg := true) zr47.1 zr47.2 rfl) trivial trivial ⟨rfl, trivial⟩ (x7 (by kernel_rfl) (x3 (x6 ?_))))))
 refine x8 ?_
 refine R1 (x9 fo47_1 rfl) rfl (xa4 (0) ti45 rfl rfl rfl (At.g 1 rfl rfl) rfl (R1 (x9 fo47_1 rfl) rfl (xa4 (0) ti45 rfl rfl rfl (At.g 1 rfl rfl) rfl (R2 (xa0 (c_RDivided x.natAbs y.natAbs (by omega) hx hy) fi127 rfl) rfl rfl (R1 x4 rfl (R1 (xa8 rfl) rfl (R1 (xa8 rfl) rfl ?_)))))))
 refine R1 x5 rfl (R1 x5 rfl (x7 (by kernel_rfl) (x3 (x6 (x6 ?_)))))
 refine x8 ?_
 refine R1 (x9 fo47_0 rfl) rfl (xa4 (0) ti4 rfl rfl rfl (At.g 0 rfl rfl) rfl (R1 (x9 fo47_0 rfl) rfl (xa4 (0) ti4 rfl rfl rfl (At.g 0 rfl rfl) rfl (R2 (d_neqB Tryz.underlying4) rfl rfl (R1 x4 rfl ?_)))))
 refine RGcase (t := 21) rfl (fun h240 => ?_) (fun h240 => ?_)
 ·
  have hxn : decide (x < 0) = true := by have h := h240; rw [ey, ex] at h; simpa using h
  refine RGon h240 rfl x4 rfl ⟨rfl, trivial⟩ trivial trivial (RGon h240 rfl (xb7 Tryz.underlying45) rfl ⟨rfl, trivial⟩ trivial trivial (RGon h240 rfl xf2 rfl ⟨rfl, rfl, trivial⟩ trivial trivial (R2 (xb2 h240) rfl rfl (x7 (by kernel_rfl) (x3 ?_)))))
  refine xc5 rfl (fun h240_2 => ?_) (fun h240_2 => ?_)
  ·
   have hr0 : x.natAbs % y.natAbs ≠ 0 := fun h => by rw [h, xe9] at h240_2; simp at h240_2
   have hQR := dm_quo hy0 (Q := (x.natAbs / y.natAbs + 1)) (R := (y.natAbs - x.natAbs % y.natAbs)) ⟨fun _ => ⟨rfl, rfl⟩, fun h => (h ⟨hxn, hr0⟩).elim⟩
   refine x6 ?_
   refine x8 ?_
   refine R1 x4 rfl (R1 (d_nums (n := 1) [1] Tryz.underlying45 el166 zf166 rfl rfl rfl) rfl (R2 (xa0 (c_RPlusOne (x.natAbs / y.natAbs) (by omega)) fi134 rfl) rfl rfl (R1 x5 rfl (x7 (by kernel_rfl) (x3 ?_)))))
   refine x8 ?_
   refine R1 (x9 fo47_1 rfl) rfl (xa4 (0) ti45 rfl rfl rfl (At.g 1 rfl rfl) rfl (R1 x4 rfl (R2 (xa0 (c_RMinus y.natAbs (x.natAbs % y.natAbs) (by omega) (by show len16 y ≤ 100000; omega)) fi135 rfl) rfl rfl (R1 x5 rfl (x7 (by kernel_rfl) (x3 (x6 ?_)))))))
   refine xc9 mixed ?_
   refine R1 (x9 fo47_0 rfl) rfl (xa4 (0) ti4 rfl rfl rfl (At.g 0 rfl rfl) rfl (R1 (x9 fo47_0 rfl) rfl (xa4 (0) ti4 rfl rfl rfl (At.g 0 rfl rfl) rfl (R2 (d_neqB Tryz.underlying4) rfl rfl (R1 x4 rfl (R2 (xa0 (xi2 _ (x.natAbs / y.natAbs + 1)) fi126 rfl) rfl rfl (R1 (x9 fo47_0 rfl) rfl ?_)))))))
   refine xa4 (0) ti4 rfl rfl rfl (At.g 0 rfl rfl) rfl (R1 x4 rfl (R2 (xa0 (xi2 _ (y.natAbs - x.natAbs % y.natAbs)) fi126 rfl) rfl rfl (RE (xa6 (es := 2) (agg := true) (0) ti47 rfl rfl rfl) ⟨rfl, rfl, trivial⟩ ⟨rfl, trivial⟩ trivial (RE (xa6 (es := 2) (agg := true) (0) ti47 rfl rfl rfl) ⟨rfl, rfl, trivial⟩ ⟨rfl, trivial⟩ trivial (xd1 (by kernel_rfl) (x3 (xa2 ?_)))))))
   exact xf1 Plain.mk' (rs := [.cell 4 47, .cell 5 47]) rfl rfl ⟨⟨_, _, _, _, _, rfl, rfl, ti47, (Le.of (by rw [hQR.1]))⟩, ⟨_, _, _, _, _, rfl, rfl, ti47, (Le.of (by rw [hQR.2]))⟩, trivial⟩
  ·
   have hr0 : x.natAbs % y.natAbs = 0 := (xg5 xb0).1 (List.length_eq_zero_iff.1 (by omega))
   have hQR := dm_quo hy0 (Q := (x.natAbs / y.natAbs)) (R := (x.natAbs % y.natAbs)) ⟨fun h => (h.2 hr0).elim, fun _ => ⟨rfl, rfl⟩⟩
   refine xa5 (x3 (x6 ?_))
   refine xc9 mixed ?_
   refine R1 (x9 fo47_0 rfl) rfl (xa4 (0) ti4 rfl rfl rfl (At.g 0 rfl rfl) rfl (R1 (x9 fo47_0 rfl) rfl (xa4 (0) ti4 rfl rfl rfl (At.g 0 rfl rfl) rfl (R2 (d_neqB Tryz.underlying4) rfl rfl (R1 x4 rfl (R2 (xa0 (xi2 _ (x.natAbs / y.natAbs)) fi126 rfl) rfl rfl (R1 (x9 fo47_0 rfl) rfl ?_)))))))
   refine xa4 (0) ti4 rfl rfl rfl (At.g 0 rfl rfl) rfl (R1 x4 rfl (R2 (xa0 (xi2 _ (x.natAbs % y.natAbs)) fi126 rfl) rfl rfl (RE (xa6 (es := 2) (agg := true) (0) ti47 rfl rfl rfl) ⟨rfl, rfl, trivial⟩ ⟨rfl, trivial⟩ trivial (RE (xa6 (es := 2) (agg := true) (0) ti47 rfl rfl rfl) ⟨rfl, rfl, trivial⟩ ⟨rfl, trivial⟩ trivial (xd1 (by kernel_rfl) (x3 (xa2 ?_)))))))
   exact xf1 Plain.mk' (rs := [.cell 4 47, .cell 5 47]) rfl rfl ⟨⟨_, _, _, _, _, rfl, rfl, ti47, (Le.of (by rw [hQR.1]))⟩, ⟨_, _, _, _, _, rfl, rfl, ti47, (Le.of (by rw [hQR.2]))⟩, trivial⟩
 ·
  have hxn : ¬ decide (x < 0) = true := by have h := h240; rw [ey, ex] at h; simpa using h
  have hQR := dm_quo hy0 (Q := (x.natAbs / y.natAbs)) (R := (x.natAbs % y.natAbs)) ⟨fun h => (hxn h.1).elim, fun _ => ⟨rfl, rfl⟩⟩
  refine RGoff h240 rfl rfl (RGoff h240 rfl rfl (RGoff h240 rfl rfl (R2 (xc0 h240) rfl rfl (x7 (by kernel_rfl) (x3 (C_bF rfl rfl (xa5 ?_)))))))
  refine x3 (x6 ?_)
  refine xc9 mixed ?_
  refine R1 (x9 fo47_0 rfl) rfl (xa4 (0) ti4 rfl rfl rfl (At.g 0 rfl rfl) rfl (R1 (x9 fo47_0 rfl) rfl (xa4 (0) ti4 rfl rfl rfl (At.g 0 rfl rfl) rfl (R2 (d_neqB Tryz.underlying4) rfl rfl (R1 x4 rfl (R2 (xa0 (xi2 _ (x.natAbs / y.natAbs)) fi126 rfl) rfl rfl (R1 (x9 fo47_0 rfl) rfl ?_)))))))
  refine xa4 (0) ti4 rfl rfl rfl (At.g 0 rfl rfl) rfl (R1 x4 rfl (R2 (xa0 (xi2 _ (x.natAbs % y.natAbs)) fi126 rfl) rfl rfl (RE (xa6 (es := 2) (agg := true) (0) ti47 rfl rfl rfl) ⟨rfl, rfl, trivial⟩ ⟨rfl, trivial⟩ trivial (RE (xa6 (es := 2) (agg := true) (0) ti47 rfl rfl rfl) ⟨rfl, rfl, trivial⟩ ⟨rfl, trivial⟩ trivial (xd1 (by kernel_rfl) (x3 (xa2 ?_)))))))
  exact xf1 Plain.mk' (rs := [.cell 4 47, .cell 5 47]) rfl rfl ⟨⟨_, _, _, _, _, rfl, rfl, ti47, (Le.of (by rw [hQR.1]))⟩, ⟨_, _, _, _, _, rfl, rfl, ti47, (Le.of (by rw [hQR.2]))⟩, trivial⟩
theorem c_RInt (z : Int) (hz : len16 z ≤ 1024) :
  Ct Tryz.prog 86 [tWh (wh z)] (tT [tI (if fits z then z else 0), tI (if fits z then 0 else 3)]) := by
 have hzl : (wh z).l.length ≤ 1024 := hz
 have hD : Dig 65536 (wh z).l := xe6 xb0 _
 refine Ct.intro Tryz.func86 rfl Tryz.ntmps86 rfl ?_
 intro w F
 refine x6 ?_
 refine x8 ?_
 refine RE (xd4 (k := 1) ti47 rfl) ⟨rfl, trivial⟩ trivial ⟨rfl, trivial⟩ (R1 x5 rfl (R1 x5 rfl (x7 (by kernel_rfl) (x3 (x6 (x6 ?_))))))
 refine x8 ?_
 refine RE (xa7 (0) ti47 rfl rfl) ⟨rfl, trivial⟩ ⟨rfl, trivial⟩ trivial (R1 (xa0 (c_RValidV z hz) fi129 rfl) rfl (R1 xe2 rfl (x7 (by kernel_rfl) (x3 (C_bF rfl rfl (xa5 (x3 ?_)))))))
 refine x6 (x6 ?_)
 refine x8 ?_
 refine R1 (x9 fo47_1 rfl) rfl (xa4 (0) ti45 rfl rfl rfl (At.g 1 rfl rfl) rfl (R1 (xb7 Tryz.underlying45) rfl (R2 xf2 rfl rfl (x7 (by kernel_rfl) (x3 ?_)))))
 refine xc5 rfl (fun h180 => ?_) (fun h180 => ?_)
 ·
  have hf : fits z = false := fits_len (by show 4 < (wh z).l.length; omega)
  refine x6 ?_
  refine x8 ?_
  refine R1 x5 rfl (R1 x5 rfl (x7 (by kernel_rfl) (x3 (xa2 (xa3 ?_)))))
  exact xf6 Plain.mk' rfl rfl rfl (Le.int (by rw [hf]; rfl)) (Le.int (by rw [hf]; rfl))
 ·
  have hlt : z.natAbs < 18446744073709551616 := len_fits (by show (wh z).l.length ≤ 4; omega)
  have hl4 : (wh z).l.length ≤ 4 := by omega
  refine xa5 (x3 (x6 ?_))
  refine x8 ?_
  refine R1 x5 rfl (x7 (by kernel_rfl) (x3 (x6 (x6 ?_))))
  refine x8 ?_
  refine R1 (x9 fo47_1 rfl) rfl (xa4 (0) ti45 rfl rfl rfl (At.g 1 rfl rfl) rfl (R1 (xb7 Tryz.underlying45) rfl (R2 (xe4 (wr64 (by omega) (by omega))) rfl rfl (R1 x5 rfl (x7 (by kernel_rfl) (x3 (xb3 ?_)))))))
  refine xe0 (fun (k : Nat) => k ≤ (wh z).l.length) (fun (k : Nat) => upd (upd (upd (fun _ => none) 1 (some (.own (.ptr 1 0)))) 4 (some (.val (tE (.int .u64 ((val 65536 ((wh z).l.drop k) : Nat) : Int)))))) 5 (some (.val (tI ((k : Int) - 1))))) (fun (k : Nat) => upd (fun _ => none) 1 (some (⟨47, 2, true, [.val (tWh (wh z))]⟩))) (nm [1]) (fun (k : Nat) => k) ((wh z).l.length) (Nat.le_refl _) (Sub.int rfl (by first | omega | rfl | (dsimp only; omega)) (Sub.le rfl (Le.int (by rw [List.drop_length]; rfl)) (Sub.cons rfl Sub.nil))) ((SubK.consI rfl ImpK.refl) SubK.nil) (SupG.val (SupG.val (SupG.own rfl SupG.nil))) (SupH.cons rfl (supJL rfl) SupH.nil) (lkOk rfl) ?_
  intro k hI
  refine x6 (x6 ?_)
  refine x8 ?_
  refine R1 x4 rfl (R2 d_geq rfl rfl (x7 (by kernel_rfl) (x3 ?_)))
  refine xc5 rfl (fun h184 => ?_) (fun h184 => ?_)
  ·
   obtain ⟨j, rfl⟩ : ∃ j, k = j + 1 := ⟨k - 1, by omega⟩
   have hv := val_lt (hD.drop (j + 1))
   rw [List.length_drop] at hv
   have hk1 : 65536 ^ ((wh z).l.length - (j + 1)) ≤ 65536 ^ 3 := Nat.pow_le_pow_right (by decide) (by omega)
   have hw := hD.getD (by decide) j
   have hst := xi8 65536 (wh z).l j (by omega)
   rw [Nat.mul_comm] at hst
   have hv48 : val 65536 ((wh z).l.drop (j + 1)) < 281474976710656 := by omega
   refine xa5 (x3 (x6 (xb3 ?_)))
   refine x8 ?_
   refine R1 x4 rfl (R2 (d_mul (r := ((val 65536 ((wh z).l.drop (j + 1)) * 65536 : Nat) : Int)) (by rw [wu64 (by omega) (by omega)]; omega)) rfl rfl (R1 (x9 fo47_1 rfl) rfl (xa4 (0) ti45 rfl rfl rfl (At.g 1 rfl rfl) rfl (R1 x4 rfl (R2 (xb6 sl45 (j) (by omega) (gN (by omega))) rfl rfl (R1 (xb8 ti166) rfl (R1 (xb4 Tryz.underlying142 (isS Tryz.underlying166) (by first | exact wu64 (by omega) (by omega) | exact mu64)) rfl ?_)))))))
   refine R2 (xc2 (r := ((val 65536 ((wh z).l.drop (j + 1)) * 65536 + (wh z).l.getD j 0 : Nat) : Int)) (by rw [wu64 (by omega) (by omega)]; omega)) rfl rfl (R1 x5 rfl (x7 (by kernel_rfl) (xc8 (x3 ?_))))
   refine x8 ?_
   refine R1 x4 rfl (R2 (xe4 (wr64 (by omega) (by omega))) rfl rfl (R1 x5 rfl (x7 (by kernel_rfl) ?_)))
   exact xc6 (j) ⟨(by omega), (by omega)⟩ (Sub.int rfl (by first | omega | rfl | (dsimp only; omega)) (Sub.le rfl (Le.int (by rw [hst, Nat.add_comm])) (Sub.cons rfl Sub.nil))) ((SubK.consI rfl ImpK.refl) SubK.nil) (SupG.val (SupG.val (SupG.own rfl SupG.nil))) (SupH.cons rfl (supJL rfl) SupH.nil) (lkOk rfl)
  ·
   refine xd8 (xc1 (xc1 (xe3 (x3 (x6 (x6 ?_))))))
   have hk0 : k = 0 := by omega
   subst hk0
   have hval : val 65536 ((wh z).l.drop 0) = z.natAbs := by rw [List.drop_zero]; exact val_dig xb0 _
   rw [hval]
   refine x8 ?_
   refine R1 (x9 fo47_0 rfl) rfl (xa4 (0) ti4 rfl rfl rfl (At.g 0 rfl rfl) rfl (R1 x4 rfl ?_))
   refine RGcase (t := 32) rfl (fun h187 => ?_) (fun h187 => ?_)
   ·
    have hz0 : z < 0 := of_decide_eq_true h187
    refine RGon h187 rfl x4 rfl ⟨rfl, trivial⟩ trivial trivial (RGon h187 rfl d_leq rfl ⟨rfl, rfl, trivial⟩ trivial trivial (R2 (xb2 h187) rfl rfl (x7 (by kernel_rfl) (x3 ?_))))
    refine xc5 rfl (fun h187_2 => ?_) (fun h187_2 => ?_)
    ·
     have hf : fits z = true := by simp only [fits, Bool.and_eq_true, decide_eq_true_eq]; omega
     refine x6 ?_
     refine x8 ?_
     refine R1 x4 rfl (R1 (d_neg (negU64 (by omega))) rfl (R1 (xb4 Tryz.underlying3 (isS Tryz.underlying142) (toI64 (Nat.mod_lt _ (by decide)))) rfl (R1 x5 rfl (R1 x5 rfl (x7 (by kernel_rfl) (x3 (xa2 ?_)))))))
     refine xa3 ?_
     exact xf6 Plain.mk' rfl rfl rfl (Le.int (by rw [hf]; simp only [↓reduceIte]; split <;> omega)) (Le.int (by rw [hf]; rfl))
    ·
     have hf : fits z = false := by simp only [fits, Bool.and_eq_false_iff, decide_eq_false_iff_not]; omega
     refine xa5 (x3 (x6 (x6 ?_)))
     refine x8 ?_
     refine R1 (x9 fo47_0 rfl) rfl (xa4 (0) ti4 rfl rfl rfl (At.g 0 rfl rfl) rfl (R1 xe2 rfl (R1 x4 rfl (RGoff (by simp [h187]) rfl rfl (RGoff (by simp [h187]) rfl rfl (R2 (xc0 (by simp [h187])) rfl rfl (x7 (by kernel_rfl) ?_)))))))
     refine x3 (C_bF rfl rfl (xa5 (x3 (x6 ?_))))
     refine x8 ?_
     refine R1 x5 rfl (R1 x5 rfl (x7 (by kernel_rfl) (x3 (xa2 ?_))))
     exact xf6 Plain.mk' rfl rfl rfl (Le.int (by rw [hf]; rfl)) (Le.int (by rw [hf]; rfl))
   ·
    have hz0 : ¬ z < 0 := of_decide_eq_false h187
    refine RGoff h187 rfl rfl (RGoff h187 rfl rfl (R2 (xc0 h187) rfl rfl (x7 (by kernel_rfl) (x3 (C_bF rfl rfl (xa5 (x3 ?_)))))))
    refine x6 (x6 ?_)
    refine x8 ?_
    refine R1 (x9 fo47_0 rfl) rfl (xa4 (0) ti4 rfl rfl rfl (At.g 0 rfl rfl) rfl (R1 xe2 rfl (R1 x4 rfl (RGon (by simp [h187]) rfl x4 rfl ⟨rfl, trivial⟩ trivial trivial (RGon (by simp [h187]) rfl xd7 rfl ⟨rfl, rfl, trivial⟩ trivial trivial (R2 (xb2 (by simp [h187])) rfl rfl (x7 (by kernel_rfl) ?_)))))))
    refine x3 ?_
    refine xc5 rfl (fun h190_2 => ?_) (fun h190_2 => ?_)
    ·
     have hf : fits z = true := by simp only [fits, Bool.and_eq_true, decide_eq_true_eq]; omega
     refine x6 ?_
     refine x8 ?_
     refine R1 x4 rfl (R1 (xb4 Tryz.underlying3 (isS Tryz.underlying142) (toI64 (by omega))) rfl (R1 x5 rfl (R1 x5 rfl (x7 (by kernel_rfl) (x3 (xa2 (xa3 ?_)))))))
     exact xf6 Plain.mk' rfl rfl rfl (Le.int (by rw [hf]; simp only [↓reduceIte]; split <;> omega)) (Le.int (by rw [hf]; rfl))
    ·
     have hf : fits z = false := by simp only [fits, Bool.and_eq_false_iff, decide_eq_false_iff_not]; omega
     refine xa5 (x3 (x6 ?_))
     refine x8 ?_
     refine R1 x5 rfl (R1 x5 rfl (x7 (by kernel_rfl) (x3 (xa2 ?_))))
     exact xf6 Plain.mk' rfl rfl rfl (Le.int (by rw [hf]; rfl)) (Le.int (by rw [hf]; rfl))
theorem c_ROrder (x y : Int) (hx : len16 x ≤ 4000) (hy : len16 y ≤ 4000) :
  Ct Tryz.prog 131 [tWh (wh x), tWh (wh y)] (tI (cmpZ x y)) := by
 have hny := len16_neg y
 refine Ct.intro Tryz.func131 rfl Tryz.ntmps131 rfl ?_
 intro w F
 refine x6 ?_
 refine x8 ?_
 refine RE (xd4 (k := 2) ti47 rfl) ⟨rfl, trivial⟩ trivial ⟨rfl, trivial⟩ (RE (xd4 (k := 3) ti47 rfl) ⟨rfl, trivial⟩ trivial ⟨rfl, trivial⟩ (R1 x5 rfl (x7 (by kernel_rfl) (x3 (x6 ?_)))))
 refine xc9 mixed ?_
 refine RE (xa7 (0) ti47 rfl rfl) ⟨rfl, trivial⟩ ⟨rfl, trivial⟩ trivial (RE (xa7 (0) ti47 rfl rfl) ⟨rfl, trivial⟩ ⟨rfl, trivial⟩ trivial (R1 (xa0 (c_RNeg y) fi177 rfl) rfl (R2 (xa0 (c_RSum x (-y) (by omega) (by omega)) fi176 rfl) rfl rfl (RE (xc4 (k := 5) (n := 2) (agg := true) zr47.1 zr47.2 rfl) trivial trivial ⟨rfl, trivial⟩ (RE (xa6 (es := 2) (agg := true) (0) ti47 rfl rfl rfl) ⟨rfl, rfl, trivial⟩ ⟨rfl, trivial⟩ trivial (xd1 (by kernel_rfl) (x3 ?_)))))))
 refine x6 (x6 ?_)
 refine x8 ?_
 refine R1 (x9 fo47_0 rfl) rfl (xa4 (0) ti4 rfl rfl rfl (At.g 0 rfl rfl) rfl (x7 (by kernel_rfl) (x3 ?_)))
 refine xf0 rfl (fun h280 => ?_) (fun h280 => ?_)
 ·
  have hlt : x + -y < 0 := of_decide_eq_true h280
  refine x6 ?_
  refine x8 ?_
  refine R1 x5 rfl (x7 (by kernel_rfl) (x3 (xa2 (xa3 ?_))))
  exact xa9 Plain.mk' rfl rfl (Le.int (by rw [cmpZ, if_pos (by omega)]))
 ·
  have hlt : ¬ x + -y < 0 := of_decide_eq_false h280
  refine xa5 (x3 (x6 (x6 ?_)))
  refine x8 ?_
  refine R1 (x9 fo47_1 rfl) rfl (xa4 (0) ti45 rfl rfl rfl (At.g 1 rfl rfl) rfl (R1 (xb7 Tryz.underlying45) rfl (R2 xf2 rfl rfl (x7 (by kernel_rfl) (x3 ?_)))))
  refine xc5 rfl (fun h283 => ?_) (fun h283 => ?_)
  ·
   have hne : x + -y ≠ 0 := fun h => by have := len_nil.2 h; omega
   refine x6 ?_
   refine x8 ?_
   refine R1 x5 rfl (x7 (by kernel_rfl) (x3 (xa2 (xa3 ?_))))
   exact xa9 Plain.mk' rfl rfl (Le.int (by rw [cmpZ, if_neg (by omega), if_neg (by omega)]))
  ·
   have hne : x + -y = 0 := len_nil.1 (by omega)
   refine xa5 (x3 (x6 ?_))
   refine x8 ?_
   refine R1 x5 rfl (x7 (by kernel_rfl) (x3 (xa2 ?_)))
   exact xa9 Plain.mk' rfl rfl (Le.int (by rw [cmpZ, if_neg (by omega), if_pos (by omega)]))
theorem c_RFits (f : Fr) :
  Ct Tryz.prog 130 [tFr f] (tB f.sh) := by
 refine Ct.intro Tryz.func130 rfl Tryz.ntmps130 rfl ?_
 intro w F
 refine x6 ?_
 refine x8 ?_
 refine RE (xd4 (k := 1) ti49 rfl) ⟨rfl, trivial⟩ trivial ⟨rfl, trivial⟩ (R1 x5 rfl (x7 (by kernel_rfl) (x3 (x6 ?_))))
 refine x8 ?_
 refine R1 (x9 fo49_0 rfl) rfl (R1 (x9 fo47_1 rfl) rfl (xa4 (0) ti45 rfl rfl rfl (At.t (At.g 0 rfl rfl) (At.g 1 rfl rfl)) rfl (R1 (xb7 Tryz.underlying45) rfl (R2 d_leq rfl rfl (R1 x4 rfl ?_)))))
 refine RGcaseD (t := 8) rfl (fun h27 => ?_) (fun h27 => ?_)
 ·
  refine RGon (decide_eq_true h27) rfl (x9 fo49_1 rfl) rfl ⟨rfl, trivial⟩ trivial trivial (RGon (decide_eq_true h27) rfl (x9 fo47_1 rfl) rfl ⟨rfl, trivial⟩ trivial trivial (xd2 (decide_eq_true h27) rfl rfl (0) ti45 rfl rfl rfl (At.t (At.g 1 rfl rfl) (At.g 1 rfl rfl)) rfl (RGon (decide_eq_true h27) rfl (xb7 Tryz.underlying45) rfl ⟨rfl, trivial⟩ trivial trivial (RGon (decide_eq_true h27) rfl d_leq rfl ⟨rfl, rfl, trivial⟩ trivial trivial (R2 (xb2 (decide_eq_true h27)) rfl rfl (R1 x5 rfl (x7 (by kernel_rfl) ?_)))))))
  refine x3 (xa2 ?_)
  exact xa9 Plain.mk' rfl rfl (Le.bool (by rw [Fr.sh, decide_eq_true (show f.n.l.length ≤ 256 by omega), Bool.true_and]; exact decide_eq_decide.2 (by omega)))
 ·
  refine RGoff (decide_eq_false h27) rfl rfl (RGoff (decide_eq_false h27) rfl rfl (RGoff (decide_eq_false h27) rfl rfl (RGoff (decide_eq_false h27) rfl rfl (RGoff (decide_eq_false h27) rfl rfl (R2 (xc0 (decide_eq_false h27)) rfl rfl (R1 x5 rfl (x7 (by kernel_rfl) ?_)))))))
  refine x3 (xa2 ?_)
  exact xa9 Plain.mk' rfl rfl (Le.bool (by rw [Fr.sh, decide_eq_false (show ¬ f.n.l.length ≤ 256 by omega)]; rfl))
theorem one_dec2 {x y : Int} : decide (dig 65536 (Nat.gcd x.natAbs y.natAbs) = [1]) = decide (Int.gcd x y = 1) := by
  have h1 : dig 65536 1 = [1] := by rw [dig_pos xb0 (by decide), show (1 : Nat) / 65536 = 0 by decide, xe9]
  refine decide_eq_decide.2 ⟨fun h => ?_, fun h => ?_⟩
  · rw [← h1] at h
    have h2 := congrArg (val 65536) h
    rw [val_dig xb0, val_dig xb0] at h2
    exact h2
  · have h : Nat.gcd x.natAbs y.natAbs = 1 := h
    rw [h, h1]
theorem c_R2Valid (f : Fr) (hn : Dig 65536 f.n.l) (hd : Dig 65536 f.d.l) :
  Ct Tryz.prog 80 [tFr f] (tB f.valid) := by
 obtain ⟨n, d⟩ := f
 replace hn : Dig 65536 n.l := hn
 replace hd : Dig 65536 d.l := hd
 refine Ct.intro Tryz.func80 rfl Tryz.ntmps80 rfl ?_
 intro w F
 refine x6 ?_
 refine x8 ?_
 refine RE (xd4 (k := 1) ti49 rfl) ⟨rfl, trivial⟩ trivial ⟨rfl, trivial⟩ (R1 x5 rfl (x7 (by kernel_rfl) (x3 (x6 (x6 ?_)))))
 refine x8 ?_
 refine R1 (x9 fo49_0 rfl) rfl (xa4 (0) ti47 rfl rfl rfl (At.g 0 rfl rfl) rfl (R1 (xa0 (c_RValid n) fi129 rfl) rfl (R1 xe2 rfl (R1 x4 rfl ?_))))
 refine RGcase (t := 7) rfl (fun h39 => ?_) (fun h39 => ?_)
 ·
  have hv1 : n.valid = false := by simpa using h39
  refine RGoff h39 rfl rfl (RGoff h39 rfl rfl (RGoff h39 rfl rfl (RGoff h39 rfl rfl (R2 (xb2 h39) rfl rfl (R1 x4 rfl (RGoff1 rfl rfl (RGoff1 rfl rfl ?_)))))))
  refine RGoff1 rfl rfl (R2 (xb2 rfl) rfl rfl (R1 x4 rfl (RGoff1 rfl rfl (RGoff1 rfl rfl (RGoff1 rfl rfl (R2 (xb2 rfl) rfl rfl (R1 x4 rfl ?_)))))))
  refine RGoff1 rfl rfl (RGoff1 rfl rfl (RGoff1 rfl rfl (RGoff1 rfl rfl (RGoff1 rfl rfl (R2 (xb2 rfl) rfl rfl (x7 (by kernel_rfl) (x3 ?_)))))))
  refine C_bT rfl rfl (x6 ?_)
  refine x8 ?_
  refine R1 x5 rfl (x7 (by kernel_rfl) (x3 (xa2 (xa3 ?_))))
  exact xa9 Plain.mk' rfl rfl (Le.bool (by simp only [Fr.valid, hv1, Bool.and_false, Bool.false_and]))
 ·
  have hv1 : n.valid = true := by simpa using h39
  refine RGon h39 rfl (x9 fo49_1 rfl) rfl ⟨rfl, trivial⟩ trivial trivial (xd2 h39 rfl rfl (0) ti47 rfl rfl rfl (At.g 1 rfl rfl) rfl (RGon h39 rfl (xa0 (c_RValid d) fi129 rfl) rfl ⟨rfl, trivial⟩ trivial trivial (RGon h39 rfl xe2 rfl ⟨rfl, trivial⟩ trivial trivial (R2 (xc0 h39) rfl rfl (R1 x4 rfl ?_)))))
  refine RGcase (t := 13) rfl (fun h39_2 => ?_) (fun h39_2 => ?_)
  ·
   have hv2 : d.valid = false := by simpa using h39_2
   refine RGoff h39_2 rfl rfl (RGoff h39_2 rfl rfl (RGoff h39_2 rfl rfl (R2 (xb2 h39_2) rfl rfl (R1 x4 rfl (RGoff1 rfl rfl (RGoff1 rfl rfl (RGoff1 rfl rfl ?_)))))))
   refine R2 (xb2 rfl) rfl rfl (R1 x4 rfl (RGoff1 rfl rfl (RGoff1 rfl rfl (RGoff1 rfl rfl (RGoff1 rfl rfl (RGoff1 rfl rfl (R2 (xb2 rfl) rfl rfl ?_)))))))
   refine x7 (by kernel_rfl) (x3 (C_bT rfl rfl (x6 ?_)))
   refine x8 ?_
   refine R1 x5 rfl (x7 (by kernel_rfl) (x3 (xa2 (xa3 ?_))))
   exact xa9 Plain.mk' rfl rfl (Le.bool (by simp only [Fr.valid, hv2, Bool.and_false, Bool.false_and]))
  ·
   have hv2 : d.valid = true := by simpa using h39_2
   obtain ⟨x, rfl, hxl⟩ := Wh.of_valid hn hv1
   obtain ⟨y, rfl, hyl⟩ := Wh.of_valid hd hv2
   have ix := int_wh x
   have iy := int_wh y
   refine RGon h39_2 rfl (xa7 (0) ti49 rfl rfl) rfl ⟨rfl, trivial⟩ ⟨rfl, trivial⟩ trivial (RGon h39_2 rfl (xa0 (c_RFits _) fi130 rfl) rfl ⟨rfl, trivial⟩ trivial trivial (RGon h39_2 rfl xe2 rfl ⟨rfl, trivial⟩ trivial trivial (R2 (xc0 h39_2) rfl rfl (R1 x4 rfl ?_))))
   refine RGcase (t := 18) rfl (fun h39_3 => ?_) (fun h39_3 => ?_)
   ·
    have hs : (⟨wh x, wh y⟩ : Fr).sh = false := by simpa using h39_3
    refine RGoff h39_3 rfl rfl (RGoff h39_3 rfl rfl (RGoff h39_3 rfl rfl (R2 (xb2 h39_3) rfl rfl (R1 x4 rfl (RGoff1 rfl rfl (RGoff1 rfl rfl (RGoff1 rfl rfl ?_)))))))
    refine RGoff1 rfl rfl (RGoff1 rfl rfl (R2 (xb2 rfl) rfl rfl (x7 (by kernel_rfl) (x3 (C_bT rfl rfl (x6 ?_))))))
    refine x8 ?_
    refine R1 x5 rfl (x7 (by kernel_rfl) (x3 (xa2 (xa3 ?_))))
    exact xa9 Plain.mk' rfl rfl (Le.bool (by simp only [Fr.valid, hs, Bool.false_and]))
   ·
    have hs : (⟨wh x, wh y⟩ : Fr).sh = true := by simpa using h39_3
    refine RGon h39_3 rfl (x9 fo49_1 rfl) rfl ⟨rfl, trivial⟩ trivial trivial (RGon h39_3 rfl (x9 fo47_0 rfl) rfl ⟨rfl, trivial⟩ trivial trivial (xd2 h39_3 rfl rfl (0) ti4 rfl rfl rfl (At.t (At.g 1 rfl rfl) (At.g 0 rfl rfl)) rfl (R2 (xc0 h39_3) rfl rfl (R1 x4 rfl ?_))))
    refine RGcase (t := 23) rfl (fun h39_4 => ?_) (fun h39_4 => ?_)
    ·
     have hy0 : ¬ 0 < y := by have : y < 0 := of_decide_eq_true h39_4; omega
     refine RGoff h39_4 rfl rfl (RGoff h39_4 rfl rfl (RGoff h39_4 rfl rfl (RGoff h39_4 rfl rfl (RGoff h39_4 rfl rfl (R2 (xb2 h39_4) rfl rfl (x7 (by kernel_rfl) (x3 ?_)))))))
     refine C_bT rfl rfl (x6 ?_)
     refine x8 ?_
     refine R1 x5 rfl (x7 (by kernel_rfl) (x3 (xa2 (xa3 ?_))))
     exact xa9 Plain.mk' rfl rfl (Le.bool (by simp only [Fr.valid, ix, iy, decide_eq_false hy0, Bool.and_false, Bool.false_and]))
    ·
     refine RGon h39_4 rfl (x9 fo49_1 rfl) rfl ⟨rfl, trivial⟩ trivial trivial (RGon h39_4 rfl (x9 fo47_1 rfl) rfl ⟨rfl, trivial⟩ trivial trivial (xd2 h39_4 rfl rfl (0) ti45 rfl rfl rfl (At.t (At.g 1 rfl rfl) (At.g 1 rfl rfl)) rfl (RGon h39_4 rfl (xb7 Tryz.underlying45) rfl ⟨rfl, trivial⟩ trivial trivial (RGon h39_4 rfl d_eql rfl ⟨rfl, rfl, trivial⟩ trivial trivial (R2 (xc0 h39_4) rfl rfl (x7 (by kernel_rfl) (x3 ?_)))))))
     refine xc5 rfl (fun h39_5 => ?_) (fun h39_5 => ?_)
     ·
      have h5 : (((wh y).l.length : Nat) : Int) = 0 := h39_5
      have hy0 : ¬ 0 < y := fun h => by have := len_nil.1 (show (wh y).l.length = 0 by omega); omega
      refine x6 ?_
      refine x8 ?_
      refine R1 x5 rfl (x7 (by kernel_rfl) (x3 (xa2 (xa3 ?_))))
      exact xa9 Plain.mk' rfl rfl (Le.bool (by simp only [Fr.valid, ix, iy, decide_eq_false hy0, Bool.and_false, Bool.false_and]))
     ·
      have h5 : ¬ (((wh y).l.length : Nat) : Int) = 0 := h39_5
      have hy0 : 0 < y := pos_of_wh h39_4 (by omega)
      refine xa5 (x3 (x6 ?_))
      refine x8 ?_
      refine R1 (x9 fo49_0 rfl) rfl (R1 (x9 fo47_1 rfl) rfl (xa4 (0) ti45 rfl rfl rfl (At.t (At.g 0 rfl rfl) (At.g 1 rfl rfl)) rfl (R1 (x9 fo49_1 rfl) rfl (R1 (x9 fo47_1 rfl) rfl (xa4 (0) ti45 rfl rfl rfl (At.t (At.g 1 rfl rfl) (At.g 1 rfl rfl)) rfl (R2 (xa0 (c_RCommon x.natAbs y.natAbs (by show len16 x ≤ 4000; omega) (by show len16 y ≤ 4000; omega)) fi124 rfl) rfl rfl (R1 (xa0 (c_Rone _) fi125 rfl) rfl ?_)))))))
      refine R1 x5 rfl (x7 (by kernel_rfl) (x3 (xa2 ?_)))
      exact xa9 Plain.mk' rfl rfl (Le.bool (by simp only [Fr.valid, ix, iy, hs, hv1, hv2, decide_eq_true hy0, Bool.true_and]; exact one_dec2))
theorem c_R2Order (a b : Rat) (ha : short a) (hb : short b) :
  Ct Tryz.prog 81 [tFr (fr a), tFr (fr b)] (tI (cmpQ a b)) := by
 obtain ⟨an, ad⟩ := ha
 obtain ⟨bn, bd⟩ := hb
 have ha : short a := ⟨an, ad⟩
 have hb : short b := ⟨bn, bd⟩
 have da := a.den_nz
 have db := b.den_nz
 have l1 := len16_mul an bd
 have l2 := len16_mul bn ad
 refine Ct.intro Tryz.func81 rfl Tryz.ntmps81 rfl ?_
 intro w F
 refine x6 ?_
 refine x8 ?_
 refine RE (xd4 (k := 2) ti49 rfl) ⟨rfl, trivial⟩ trivial ⟨rfl, trivial⟩ (RE (xd4 (k := 3) ti49 rfl) ⟨rfl, trivial⟩ trivial ⟨rfl, trivial⟩ (R1 x5 rfl (x7 (by kernel_rfl) (x3 (x6 ?_)))))
 refine xc9 mixed ?_
 refine R1 (x9 fo49_0 rfl) rfl (xa4 (0) ti47 rfl rfl rfl (At.g 0 rfl rfl) rfl (R1 (x9 fo49_1 rfl) rfl (xa4 (0) ti47 rfl rfl rfl (At.g 1 rfl rfl) rfl (R2 (xa0 (c_RProduct a.num (b.den : Int) (by omega) (by omega)) fi85 rfl) rfl rfl (R1 (x9 fo49_0 rfl) rfl (xa4 (0) ti47 rfl rfl rfl (At.g 0 rfl rfl) rfl (R1 (x9 fo49_1 rfl) rfl ?_)))))))
 refine xa4 (0) ti47 rfl rfl rfl (At.g 1 rfl rfl) rfl (R2 (xa0 (c_RProduct b.num (a.den : Int) (by omega) (by omega)) fi85 rfl) rfl rfl (R2 (xa0 (c_ROrder (a.num * (b.den : Int)) (b.num * (a.den : Int)) (by omega) (by omega)) fi131 rfl) rfl rfl (R1 x5 rfl (xd1 (by kernel_rfl) (x3 (xa2 ?_))))))
 exact xa9 Plain.mk' rfl rfl (Le.int (cmpQ_eq a b))
theorem c_R2FromInt (n : Int) (h1 : -9223372036854775808 ≤ n) (h2 : n ≤ 9223372036854775807) :
  Ct Tryz.prog 82 [tI n] (tFr (fr (n : Rat))) := by
 refine Ct.intro Tryz.func82 rfl Tryz.ntmps82 rfl ?_
 intro w F
 refine x6 ?_
 refine x8 ?_
 refine RE (xc4 (k := 2) (n := 4) (agg := true) zr49.1 zr49.2 rfl) trivial trivial ⟨rfl, trivial⟩ (x7 (by kernel_rfl) (x3 (x6 ?_)))
 refine x8 ?_
 refine R1 x4 rfl (R1 (xa0 (c_RFromInt n h1 h2) fi77 rfl) rfl (R1 (xa0 (c_RFromInt 1 (by decide) (by decide)) fi77 rfl) rfl (R2 (xd9 (r := tS [⟨2, true, tWh (wh n)⟩, ⟨2, true, tWh (wh 1)⟩]) (ts := [(0, tWh (wh n)), (1, tWh (wh 1))]) bu49 zr49.2 ⟨_, rfl⟩ rfl ⟨_, _, _, _, rfl, Up.f (fs := [⟨2, true, (tS [⟨1, false, (tE (.bool false))⟩, ⟨1, false, (tLm [])⟩])⟩, ⟨2, true, (tS [⟨1, false, (tE (.bool false))⟩, ⟨1, false, (tLm [])⟩])⟩]) (f := ⟨2, true, (tS [⟨1, false, (tE (.bool false))⟩, ⟨1, false, (tLm [])⟩])⟩) (fs' := [⟨2, true, tWh (wh n)⟩, ⟨2, true, (tS [⟨1, false, (tE (.bool false))⟩, ⟨1, false, (tLm [])⟩])⟩]) 0 rfl rfl rfl, inferInstance, ⟨_, _, _, _, rfl, Up.f (fs := [⟨2, true, tWh (wh n)⟩, ⟨2, true, (tS [⟨1, false, (tE (.bool false))⟩, ⟨1, false, (tLm [])⟩])⟩]) (f := ⟨2, true, (tS [⟨1, false, (tE (.bool false))⟩, ⟨1, false, (tLm [])⟩])⟩) (fs' := [⟨2, true, tWh (wh n)⟩, ⟨2, true, tWh (wh 1)⟩]) 1 rfl rfl rfl, inferInstance, Le.refl⟩⟩) rfl rfl (RE (xa6 (es := 4) (agg := true) (0) ti49 rfl rfl rfl) ⟨rfl, rfl, trivial⟩ ⟨rfl, trivial⟩ trivial (x7 (by kernel_rfl) (x3 (xa2 ?_)))))))
 exact xg2 Plain.mk' rfl ⟨_, _, _, _, _, rfl, rfl, ti49, (Le.of (by rw [fr, Rat.num_intCast, Rat.den_intCast]; rfl))⟩
end An.S

/- Layer 24 as the reference computes it. Plain data. -/
namespace An.S
open An Go
/-- A share of an amount, by whole numbers. -/
theorem take_num {q : Rat} {n : Int} : q.num * n / (q.den : Int) = take q n := by
  have hd : (0 : Int) < q.den := by have := q.den_nz; omega
  have hd' : (0 : Rat) < (q.den : Rat) := by exact_mod_cast hd
  have hq : q * (n : Rat) * (q.den : Rat) = ((q.num * n : Int) : Rat) := by
    have h1 : q * (q.den : Rat) = (q.num : Rat) := by
      have h2 := Rat.num_divInt_den q
      rw [Rat.divInt_eq_div] at h2
      conv => lhs; lhs; rw [← h2]
      have h3 : ((q.den : Int) : Rat) = (q.den : Rat) := Rat.intCast_natCast q.den
      rw [h3, Rat.div_mul_cancel (by intro h; rw [h] at hd'; exact Rat.lt_irrefl hd')]
    rw [Rat.intCast_mul, ← h1]; grind
  have e1 := Int.mul_ediv_add_emod (q.num * n) q.den
  have e2 := Int.emod_nonneg (q.num * n) (show (q.den : Int) ≠ 0 by omega)
  have e3 := Int.emod_lt_of_pos (q.num * n) hd
  generalize q.num * n / (q.den : Int) = k at e1 ⊢
  generalize q.num * n % (q.den : Int) = r at e1 e2 e3
  have l1 : ¬ take q n < k := fun h => by
    have h2 := Rat.floor_lt_iff.1 (show (q * (n : Rat)).floor < k from h)
    have h3 := Rat.mul_lt_mul_of_pos_right h2 hd'
    rw [hq] at h3
    have h4 : ((q.num * n : Int) : Rat) < ((k * q.den : Int) : Rat) := by rw [Rat.intCast_mul k]; exact h3
    have h5 : q.num * n < k * q.den := by exact_mod_cast h4
    rw [Int.mul_comm k] at h5; omega
  have l2 : take q n < k + 1 := by
    refine Rat.floor_lt_iff.2 ?_
    have h4 : q.num * n < (k + 1) * q.den := by rw [Int.add_mul, Int.mul_comm k]; omega
    refine Rat.not_le.1 fun h5 => ?_
    · have h6 := Rat.mul_le_mul_of_nonneg_right h5 (Rat.le_of_lt hd')
      rw [hq, ← Rat.intCast_natCast, ← Rat.intCast_mul] at h6
      have h7 : (k + 1) * (q.den : Int) ≤ q.num * n := by exact_mod_cast h6
      omega
  omega
theorem run_append {l : List Deal} : ∀ (is js : List Nat) (s : Dv), (dvRun l s is).2 = true → dvRun l s (is ++ js) = dvRun l (dvRun l s is).1 js
  | [], _, _, _ => rfl
  | i :: r, js, s, h => by
    rw [xh7] at h
    rw [List.cons_append, xh7, xh7]
    split at h
    · rename_i hw
      rw [if_pos hw, if_pos hw]
      exact run_append r js _ h
    · cases h
theorem run_append_no {l : List Deal} : ∀ (is js : List Nat) (s : Dv), (dvRun l s is).2 = false → (dvRun l s (is ++ js)).2 = false
  | [], _, _, h => by cases h
  | i :: r, js, s, h => by
    rw [xh7] at h
    rw [List.cons_append, xh7]
    split at h
    · rename_i hw
      rw [if_pos hw]
      exact run_append_no r js _ h
    · rename_i hw
      rw [if_neg hw]
/-- The divider behind the first deals. -/
def rsD (l : List Deal) (m : Int) (b p : List Int) (a : Int) (i : Nat) : Dv := (dvRun l ⟨b, p, List.replicate (l.length + 1) 0, a⟩ (apl1 l m i)).1
structure RsI (l : List Deal) (m : Int) (b p : List Int) (a : Int) (i : Nat) : Prop where
  ok : (dvRun l ⟨b, p, List.replicate (l.length + 1) 0, a⟩ (apl1 l m i)).2 = true
  fit : (rsD l m b p a i).fit l.length
  kb : ∀ j, i ≤ j → (rsD l m b p a i).b.getD j 0 = b.getD j 0 ∧ (rsD l m b p a i).p.getD j 0 = p.getD j 0 ∧ (rsD l m b p a i).q.getD (j + 1) 0 = 0
theorem RsI.zero {l : List Deal} {m : Int} {b p : List Int} {a : Int} (hb : b.length = l.length) (hp : p.length = l.length) : RsI l m b p a 0 := by
  have hf := An.fit0 (a := a) hb hp
  refine ⟨rfl, run_fit _ _ hf, fun j _ => ?_⟩
  obtain ⟨h1, h2, h3⟩ := run_keep (l := l) (apl1 l m 0) ⟨b, p, List.replicate (l.length + 1) 0, a⟩ j (by simp [apl1])
  exact ⟨h1, h2, h3.trans (by simp only [grep0])⟩
theorem apl1_lt {l : List Deal} {m : Int} {i j : Nat} (h : j ∈ apl1 l m i) : j < i := List.mem_range.1 (List.mem_filter.1 h).1
section
variable {l : List Deal} {m : Int} {b p : List Int} {a : Int} {i : Nat}
/-- A deal that does not apply. -/
theorem rs_off (h : (l.getD i deal0).on m = false) : rsD l m b p a (i + 1) = rsD l m b p a i := by rw [rsD, rsD, apl1_no h]
theorem RsI.off (s : RsI l m b p a i) (h : (l.getD i deal0).on m = false) : RsI l m b p a (i + 1) :=
  ⟨by rw [apl1_no h]; exact s.ok, by rw [rs_off h]; exact s.fit, fun j hj => by rw [rs_off h]; exact s.kb j (by omega)⟩
/-- A deal that applies, and what it is applied to fits. -/
theorem rs_on (s : RsI l m b p a i) (h : (l.getD i deal0).on m = true) (hw : wIn ((rsD l m b p a i).n i) = true) : dvRun l ⟨b, p, List.replicate (l.length + 1) 0, a⟩ (apl1 l m (i + 1)) = (dv1 l (rsD l m b p a i) i, true) := by
  rw [apl1_yes h, run_append _ _ _ s.ok]
  show dvRun l (rsD l m b p a i) [i] = _
  rw [xh7, if_pos hw]; rfl
theorem rs_onD (s : RsI l m b p a i) (h : (l.getD i deal0).on m = true) (hw : wIn ((rsD l m b p a i).n i) = true) : rsD l m b p a (i + 1) = dv1 l (rsD l m b p a i) i := by rw [rsD, rs_on s h hw]
theorem RsI.on (s : RsI l m b p a i) (hi : i < l.length) (h : (l.getD i deal0).on m = true) (hw : wIn ((rsD l m b p a i).n i) = true) : RsI l m b p a (i + 1) := by
  refine ⟨by rw [rs_on s h hw], by rw [rs_onD s h hw]; exact s.fit.next, fun j hj => ?_⟩
  rw [rs_onD s h hw]
  obtain ⟨h1, h2, h3⟩ := s.kb j (by omega)
  have hji : j ≠ i := by omega
  simp only [dv1]
  exact ⟨(gset_ne hji).trans h1, (gset_ne hji).trans h2, (gset_ne (by omega)).trans h3⟩
/-- A deal that applies, and it does not fit. -/
theorem RsI.stop (s : RsI l m b p a i) (hi : i < l.length) (h : (l.getD i deal0).on m = true) (hw : wIn ((rsD l m b p a i).n i) = false) : (dvAll l m b p a).2 = false := by
  obtain ⟨r, hr⟩ := apl1_pre (l := l) (m := m) (i + 1) (l.length - (i + 1))
  rw [show i + 1 + (l.length - (i + 1)) = l.length by omega] at hr
  have hr : apl l m = apl1 l m (i + 1) ++ r := hr
  show (dvRun l _ (apl l m)).2 = false
  rw [hr]
  refine run_append_no _ _ _ ?_
  rw [apl1_yes h, run_append _ _ _ s.ok]
  show (dvRun l (rsD l m b p a i) [i]).2 = false
  rw [xh7, if_neg (by rw [hw]; exact Bool.false_ne_true)]
/-- The parts of the first deals. -/
def rsQ (l : List Deal) (m : Int) (b p : List Int) (a : Int) (i : Nat) : List Int := 0 :: ((rsD l m b p a i).q.drop 1).take i
theorem rsQ_len (s : RsI l m b p a i) (hi : i ≤ l.length) : (rsQ l m b p a i).length = i + 1 := by
  have := s.fit.q
  simp [rsQ]; omega
theorem drop1_take {q : List Int} {i : Nat} (h : i + 1 < q.length) : (q.drop 1).take (i + 1) = (q.drop 1).take i ++ [q.getD (i + 1) 0] := by
  rw [List.take_succ_eq_append_getElem (by simp; omega)]
  congr 2
  rw [List.getElem_drop, List.getD_eq_getElem?_getD, List.getElem?_eq_getElem h]; simp [Nat.add_comm]
theorem rsQ_off (s : RsI l m b p a i) (hi : i < l.length) (h : (l.getD i deal0).on m = false) : rsQ l m b p a (i + 1) = rsQ l m b p a i ++ [0] := by
  have := s.fit.q
  rw [rsQ, rsQ, rs_off h, drop1_take (by omega), (s.kb i (Nat.le_refl _)).2.2]; rfl
theorem rsQ_on (s : RsI l m b p a i) (hi : i < l.length) (h : (l.getD i deal0).on m = true) (hw : wIn ((rsD l m b p a i).n i) = true) : rsQ l m b p a (i + 1) = rsQ l m b p a i ++ [(rsD l m b p a i).pd l i - p.getD i 0] := by
  have hq := s.fit.q
  have hp := (s.kb i (Nat.le_refl _)).2.1
  rw [rsQ, rsQ, rs_onD s h hw]
  have e : (dv1 l (rsD l m b p a i) i).q = (rsD l m b p a i).q.set (i + 1) ((rsD l m b p a i).pd l i - p.getD i 0) := by simp only [dv1]; rw [hp]
  rw [e, drop1_take (by rw [List.length_set]; omega), gset_same (by omega)]
  have e2 : (((rsD l m b p a i).q.set (i + 1) ((rsD l m b p a i).pd l i - p.getD i 0)).drop 1).take i = ((rsD l m b p a i).q.drop 1).take i := by
    rw [List.drop_set, if_neg (by omega), List.take_set_of_le (by omega)]
  rw [e2]; rfl
theorem rs_end (s : RsI l m b p a l.length) : (dvAll l m b p a).2 = true ∧ (dvAll l m b p a).1 = rsD l m b p a l.length ∧ (rsQ l m b p a l.length).set 0 (dvAll l m b p a).1.r = (dvAll l m b p a).1.q.set 0 (dvAll l m b p a).1.r := by
  refine ⟨s.ok, rfl, ?_⟩
  have hq := s.fit.q
  show (rsQ l m b p a l.length).set 0 (rsD l m b p a l.length).r = (rsD l m b p a l.length).q.set 0 (rsD l m b p a l.length).r
  rw [rsQ]
  cases hc : (rsD l m b p a l.length).q with
  | nil => rw [hc] at hq; simp at hq
  | cons x t =>
    rw [hc] at hq
    simp only [List.drop_succ_cons, List.drop_zero, List.set_cons_zero]
    rw [List.take_of_length_le (by simp at hq; omega)]
end
end An.S

/- Layer 24: the sums of the accounts as the reference finds them. Plain data. -/
namespace An.S
open An Go Go.Proofs
theorem key_idx {m : List (Int × Int)} (hn : (m.map (·.1)).Nodup) {i j : Nat} {x y : Int × Int} (hi : m[i]? = some x) (hj : m[j]? = some y) (h : x.1 = y.1) : i = j := by
  have hil := (List.getElem?_eq_some_iff.1 hi).1
  have hjl := (List.getElem?_eq_some_iff.1 hj).1
  rcases Nat.lt_trichotomy i j with h1 | h1 | h1
  · have := List.pairwise_iff_getElem.1 hn i j (by simpa using hil) (by simpa using hjl) h1
    rw [List.getElem_map, List.getElem_map, (List.getElem?_eq_some_iff.1 hi).2, (List.getElem?_eq_some_iff.1 hj).2] at this
    exact absurd h this
  · exact h1
  · have := List.pairwise_iff_getElem.1 hn j i (by simpa using hjl) (by simpa using hil) h1
    rw [List.getElem_map, List.getElem_map, (List.getElem?_eq_some_iff.1 hi).2, (List.getElem?_eq_some_iff.1 hj).2] at this
    exact absurd h.symm this
theorem put_mem_iff {m : List (Int × Int)} (hn : (m.map (·.1)).Nodup) {k v : Int} {e : Int × Int} : e ∈ putM m k v ↔ (e ∈ m ∧ e.1 ≠ k) ∨ e = (k, v) := by
  cases hg : getI k 0 m with
  | none =>
    have h0 := getI_none.1 hg
    simp only [putM, hg, List.mem_append, List.mem_singleton]
    exact ⟨fun h => h.imp (fun h => ⟨h, h0 e h⟩) id, fun h => h.imp (·.1) id⟩
  | some x =>
    obtain ⟨i, u⟩ := x
    have hi := (getI_some hg).2
    simp only [Nat.sub_zero] at hi
    have hil := (List.getElem?_eq_some_iff.1 hi).1
    simp only [putM, hg]
    constructor
    · intro h
      obtain ⟨j, hj⟩ := List.getElem?_of_mem h
      rw [List.getElem?_set] at hj
      split at hj
      · exact .inr (Option.some.inj hj).symm
      · rename_i hne
        exact .inl ⟨List.mem_of_getElem? hj, fun h => hne (key_idx hn hi hj h.symm)⟩
    · rintro (⟨h, hk⟩ | rfl)
      · obtain ⟨j, hj⟩ := List.getElem?_of_mem h
        refine List.mem_of_getElem? (i := j) ?_
        rw [List.getElem?_set, if_neg (fun e' => hk (by subst e'; rw [hi] at hj; cases hj; rfl))]
        exact hj
      · refine List.mem_of_getElem? (i := i) ?_
        rw [List.getElem?_set, if_pos rfl, if_pos hil]
/-- What the first deals of an account have got. -/
def sumA (l : List Deal) (p : List Int) (a : Int) : Nat → Int
  | 0 => 0
  | i + 1 => sumA l p a i + if (l.getD i deal0).acc = a then p.getD i 0 else 0
theorem sumA_no {l : List Deal} {p : List Int} {a : Int} : ∀ {i : Nat}, (∀ j, j < i → (l.getD j deal0).acc ≠ a) → sumA l p a i = 0
  | 0, _ => rfl
  | i + 1, h => by rw [sumA, sumA_no fun j hj => h j (by omega), if_neg (h i (by omega))]; rfl
theorem mp_iff {l : List Deal} {p : List Int} (hv : validL l = true) (hl : p.length = l.length) (hw : ∀ i, i < l.length → wIn (p.getD i 0) = true) : ∀ i, i ≤ l.length → ∀ a x, (a, x) ∈ mpS l p i ↔ (∃ j, j < i ∧ (l.getD j deal0).acc = a) ∧ x = sumA l p a i
  | 0, _, a, x => by simp [mpS]
  | i + 1, hi, a, x => by
    have ih := mp_iff hv hl hw i (by omega)
    have hm := MpI.at hv hl hw i (by omega)
    have he : entV 0 (mpS l p i) (l.getD i deal0).acc = sumA l p (l.getD i deal0).acc i := by
      by_cases hex : ∃ j, j < i ∧ (l.getD j deal0).acc = (l.getD i deal0).acc
      · have h1 := (ih (l.getD i deal0).acc _).2 ⟨hex, rfl⟩
        rcases entV_mem (m := mpS l p i) (a := (l.getD i deal0).acc) with h2 | h2
        · obtain ⟨j, hj⟩ := List.getElem?_of_mem h1
          cases hg : getI (l.getD i deal0).acc 0 (mpS l p i) with
          | none => exact absurd rfl (getI_none.1 hg _ h1)
          | some y =>
            obtain ⟨k, u⟩ := y
            have hk := (getI_some hg).2
            simp only [Nat.sub_zero] at hk
            have := key_idx hm.keys hk hj rfl
            subst this
            rw [hk] at hj
            cases hj
            rw [entV, hg]; rfl
        · exact ((ih _ _).1 h2).2
      · rw [sumA_no fun j hj h => hex ⟨j, hj, h⟩]
        rcases entV_mem (m := mpS l p i) (a := (l.getD i deal0).acc) with h2 | h2
        · exact h2
        · exact absurd ((ih _ _).1 h2).1 hex
    rw [mpS, put_mem_iff hm.keys, he, sumA, ih]
    by_cases ha : (l.getD i deal0).acc = a
    · subst ha
      simp only [ne_eq, not_true_eq_false, and_false, false_or, Prod.mk.injEq, true_and, ↓reduceIte]
      exact ⟨fun h => ⟨⟨i, by omega, rfl⟩, h⟩, fun h => h.2⟩
    · rw [if_neg ha, Int.add_zero]
      constructor
      · rintro (⟨⟨⟨j, hj, h1⟩, h2⟩, _⟩ | h)
        · exact ⟨⟨j, by omega, h1⟩, h2⟩
        · exact absurd (congrArg Prod.fst h).symm ha
      · rintro ⟨⟨j, hj, h1⟩, h2⟩
        refine .inl ⟨⟨⟨j, ?_, h1⟩, h2⟩, fun h => ha h.symm⟩
        rcases Nat.lt_or_ge j i with h3 | h3
        · exact h3
        · have : j = i := by omega
          subst this
          exact absurd h1 ha
/-- The next account, of the first deals. -/
def nxI (l : List Deal) (last : Int) (i : Nat) (nx : Int) : Prop := (nx = 0 ∧ ∀ j, j < i → ¬ last < (l.getD j deal0).acc) ∨ (last < nx ∧ (∃ j, j < i ∧ (l.getD j deal0).acc = nx) ∧ ∀ j, j < i → last < (l.getD j deal0).acc → nx ≤ (l.getD j deal0).acc)
theorem nxI_zero {l : List Deal} {last : Int} : nxI l last 0 0 := .inl ⟨rfl, fun j hj => by omega⟩
theorem nxI_new {l : List Deal} {last nx : Int} {i : Nat} (h0 : 0 ≤ last) (h : nxI l last i nx) (h1 : last < (l.getD i deal0).acc) (h2 : nx = 0 ∨ (l.getD i deal0).acc < nx) : nxI l last (i + 1) (l.getD i deal0).acc ∧ ∀ j, j < i → (l.getD j deal0).acc ≠ (l.getD i deal0).acc := by
  have hno : ∀ j, j < i → last < (l.getD j deal0).acc → (l.getD i deal0).acc < (l.getD j deal0).acc := fun j hj hl => by
    rcases h with ⟨h3, h4⟩ | ⟨h3, _, h5⟩
    · exact absurd hl (h4 j hj)
    · have := h5 j hj hl
      omega
  refine ⟨.inr ⟨h1, ⟨i, by omega, rfl⟩, fun j hj hl => ?_⟩, fun j hj h3 => ?_⟩
  · rcases Nat.lt_or_ge j i with h3 | h3
    · exact Int.le_of_lt (hno j h3 hl)
    · rw [show j = i by omega]; exact Int.le_refl _
  · have := hno j hj (by omega)
    omega
theorem nxI_old {l : List Deal} {last nx : Int} {i : Nat} (h : nxI l last i nx) (h1 : ¬ (last < (l.getD i deal0).acc ∧ (nx = 0 ∨ (l.getD i deal0).acc < nx))) : nxI l last (i + 1) nx := by
  have hs : ∀ j, j < i + 1 → j < i ∨ j = i := fun j hj => by omega
  rcases h with ⟨h2, h3⟩ | ⟨h2, ⟨j, hj, h3⟩, h4⟩
  · refine .inl ⟨h2, fun j hj hl => ?_⟩
    rcases hs j hj with h | rfl
    · exact h3 j h hl
    · exact h1 ⟨hl, .inl h2⟩
  · refine .inr ⟨h2, ⟨j, by omega, h3⟩, fun k hk hl => ?_⟩
    rcases hs k hk with h | rfl
    · exact h4 k h hl
    · rcases Int.lt_or_le (l.getD k deal0).acc nx with h | h
      · exact absurd ⟨hl, .inr h⟩ h1
      · exact h
/-- The sums: what they are. -/
theorem sums_mem {o : Int} {m : List (Int × Int)} (ha : ∀ e ∈ m, 1 ≤ e.1 ∧ e.1 ≤ 1099511627776) {s : Sm} : s ∈ sumsL o m ↔ s = own0 o ∨ (s.acc, s.amt) ∈ m := by
  obtain ⟨_, h2, _⟩ := srt_spec swoSm (mkSm (0, o) :: m.map mkSm)
  rw [sumsL, h2.mem_iff, own0_eq, List.mem_cons]
  refine or_congr Iff.rfl ⟨fun h => ?_, fun h => ?_⟩
  · obtain ⟨e, he, rfl⟩ := List.mem_map.1 h
    obtain ⟨h3, h4⟩ := mkSm_acc (e := e) (by have := ha e he; omega)
    rw [h3, h4]; exact he
  · exact List.mem_map.2 ⟨_, h, mkSm_eta s⟩
/-- The reference's next sum is the next one of the sorted ones. -/
theorem next_sum {l : List Deal} {p : List Int} {o : Int} (hv : validL l = true) (hl : p.length = l.length) (hw : ∀ i, i < l.length → wIn (p.getD i 0) = true) {r : Nat} (hr : r < (sumsL o (mpS l p l.length)).length) {nx : Int}
    (h : nxI l ((sumsL o (mpS l p l.length)).getD r sm0).acc l.length nx) :
    (nx = 0 → r + 1 = (sumsL o (mpS l p l.length)).length) ∧ (nx ≠ 0 → r + 1 < (sumsL o (mpS l p l.length)).length ∧ ((sumsL o (mpS l p l.length)).getD (r + 1) sm0).acc = nx ∧ ((sumsL o (mpS l p l.length)).getD (r + 1) sm0).amt = sumA l p nx l.length) := by
  have hm := MpI.at hv hl hw l.length (Nat.le_refl _)
  have hiff := mp_iff hv hl hw l.length (Nat.le_refl _)
  obtain ⟨_, hpw, _, _⟩ := sums_ok (o := o) hm.keys hm.acc
  have hmem := @sums_mem o (mpS l p l.length) hm.acc
  generalize sumsL o (mpS l p l.length) = S at *
  have get : ∀ i (hi : i < S.length), S.getD i sm0 = S[i] := fun i hi => by rw [List.getD_eq_getElem?_getD, List.getElem?_eq_getElem hi]; rfl
  have lt : ∀ i j, i < j → j < S.length → (S.getD i sm0).acc < (S.getD j sm0).acc := fun i j hij hj => by
    rw [get i (by omega), get j hj]
    exact List.pairwise_iff_getElem.1 hpw i j (by omega) hj hij
  have nn : 0 ≤ (S.getD r sm0).acc := (S.getD r sm0).h.1
  have big : ∀ i, i < S.length → r < i → ∃ j, j < l.length ∧ (l.getD j deal0).acc = (S.getD i sm0).acc ∧ (S.getD i sm0).amt = sumA l p (S.getD i sm0).acc l.length := fun i hi hri => by
    have h1 : S.getD i sm0 ∈ S := by rw [get i hi]; exact List.getElem_mem hi
    have h2 := lt r i hri hi
    rcases hmem.1 h1 with h3 | h3
    · rw [h3] at h2
      have : (own0 o).acc = 0 := rfl
      omega
    · obtain ⟨⟨j, hj, h4⟩, h5⟩ := (hiff _ _).1 h3
      exact ⟨j, hj, h4, h5⟩
  refine ⟨fun h0 => ?_, fun h0 => ?_⟩
  · rcases Nat.lt_or_ge (r + 1) S.length with h1 | h1
    · obtain ⟨j, hj, h2, _⟩ := big (r + 1) h1 (by omega)
      have h3 := lt r (r + 1) (by omega) h1
      rcases h with ⟨_, h4⟩ | ⟨h4, _⟩
      · exact absurd (by rw [h2]; exact h3) (h4 j hj)
      · omega
    · omega
  · rcases h with ⟨h1, _⟩ | ⟨h1, ⟨j, hj, h2⟩, h3⟩
    · exact absurd h1 h0
    · have hacc := (Deal.valid_iff.1 (validL_at hv hj)).2.2.2.2.2.2.2.2
      have hin : (⟨nx, sumA l p nx l.length, by omega⟩ : Sm) ∈ S := hmem.2 (.inr ((hiff _ _).2 ⟨⟨j, hj, h2⟩, rfl⟩))
      obtain ⟨t, ht, h4⟩ := List.getElem_of_mem hin
      have h5 : (S.getD t sm0).acc = nx := by rw [get t ht, h4]
      have h6 : (S.getD t sm0).amt = sumA l p nx l.length := by rw [get t ht, h4]
      have h7 : r < t := by
        rcases Nat.lt_or_ge r t with h8 | h8
        · exact h8
        · rcases Nat.lt_or_ge t r with h9 | h9
          · have := lt t r h9 hr; omega
          · rw [show t = r by omega] at h5; omega
      obtain ⟨k, hk, h8, _⟩ := big (r + 1) (by omega) (by omega)
      have h9 := h3 k hk (by rw [h8]; exact lt r (r + 1) (by omega) (by omega))
      have h10 : t = r + 1 := by
        rcases Nat.lt_or_ge (r + 1) t with h11 | h11
        · have := lt (r + 1) t h11 ht
          omega
        · omega
      subst h10
      exact ⟨ht, h5, h6⟩
theorem first_sum {l : List Deal} {p : List Int} {o : Int} (hv : validL l = true) (hl : p.length = l.length) (hw : ∀ i, i < l.length → wIn (p.getD i 0) = true) : 0 < (sumsL o (mpS l p l.length)).length ∧ (sumsL o (mpS l p l.length)).getD 0 sm0 = own0 o := by
  have hm := MpI.at hv hl hw l.length (Nat.le_refl _)
  obtain ⟨_, hpw, hlen, _⟩ := sums_ok (o := o) hm.keys hm.acc
  have hmem := @sums_mem o (mpS l p l.length) hm.acc
  generalize sumsL o (mpS l p l.length) = S at *
  have h0 : 0 < S.length := by omega
  refine ⟨h0, ?_⟩
  obtain ⟨t, ht, h4⟩ := List.getElem_of_mem (hmem.2 (.inl rfl))
  rw [List.getD_eq_getElem?_getD, List.getElem?_eq_getElem h0]
  rcases Nat.eq_zero_or_pos t with h5 | h5
  · subst h5; exact h4
  · have := List.pairwise_iff_getElem.1 hpw 0 t h0 ht h5
    rw [h4] at this
    have h6 : (own0 o).acc = 0 := rfl
    have := S[0].h.1
    omega
end An.S
