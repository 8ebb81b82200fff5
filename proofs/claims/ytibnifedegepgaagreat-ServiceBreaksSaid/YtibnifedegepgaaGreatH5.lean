/- Part 5 of a proof: S6, LibZb, S7, Tl3, S8, S9, S10, S11, Svc, S12, S13. -/
import Derived.Test.YtibnifedegepgaaGreatH4
/- Layer 4: sets of days. -/
namespace An.S
open Go Go.Proofs An
open Go.RowKit Go.Sort
set_option maxHeartbeats 2000000
theorem fo69_0 : fieldO Tryz.prog 69 0 = some 0 := by kernel_rfl
theorem fo69_1 : fieldO Tryz.prog 69 1 = some 1 := by kernel_rfl
theorem fi61 : FnI Tryz.prog 61 := ⟨_, Tryz.func61, by kernel_rfl, rfl⟩
theorem fi118 : FnI Tryz.prog 118 := ⟨_, Tryz.func118, by kernel_rfl, rfl⟩
theorem el69 : ElI Tryz.prog 69 2 16 true (.agg #[.int .i64 0, .int .i64 0]) := ⟨ti69, by kernel_rfl, by kernel_rfl⟩
theorem zf69 : Flat 2 true (.agg #[.int .i64 0, .int .i64 0]) := flat_agg (by intro u hu; simp at hu; rcases hu with rfl | rfl <;> rfl)
def cmpI (a b : Int) : Int := if a < b then -1 else if b < a then 1 else 0
theorem cmpInt (a b : Int) (W : World) : Calls Tryz.prog 120 #[.int .i64 a, .int .i64 b] W fun e w' => e = .returned (.int .i64 (cmpI a b)) ∧ w' = W := by
  have hn : ∀ (x : Int) (W : World), Calls Tryz.prog 140 #[.int .i64 x] W fun e w' => e = .returned (.bool false) ∧ w' = W := fun x W => by
    have h1 : (x == x) = true := by simp
    go_enter Tryz.func140, Tryz.ntmps140
    go_wp2
    go_ret
    exact ⟨by simp, rfl⟩
  by_cases h1 : a < b
  · rw [show cmpI a b = -1 by simp [cmpI, h1]]
    go_enter Tryz.func120, Tryz.ntmps120
    go_wp2_with (go_at_call 140; refine (hn _ _).mono ?_; rintro e w' ⟨rfl, rfl⟩)
    go_ret
    exact ⟨rfl, rfl⟩
  · by_cases h2 : b < a
    · rw [show cmpI a b = 1 by simp [cmpI, h1, h2]]
      go_enter Tryz.func120, Tryz.ntmps120
      go_wp2_with (go_at_call 140; refine (hn _ _).mono ?_; rintro e w' ⟨rfl, rfl⟩)
      go_ret
      exact ⟨rfl, rfl⟩
    · rw [show cmpI a b = 0 by simp [cmpI, h1, h2]]
      go_enter Tryz.func120, Tryz.ntmps120
      go_wp2_with (go_at_call 140; refine (hn _ _).mono ?_; rintro e w' ⟨rfl, rfl⟩)
      go_ret
      exact ⟨rfl, rfl⟩
/-- The numbers of the functions and types of slices.SortFunc in this program. -/
def sortSpanR : Go.Shelf.Ren := ⟨fun n => match n with | 6 => 118 | 14 => 138 | 15 => 139 | 20 => 155 | 21 => 156 | 22 => 157 | 23 => 158 | 24 => 159 | 25 => 160 | 26 => 161 | 27 => 162 | 28 => 163 | 29 => 164 | 46 => 173 | 47 => 174 | 48 => 175 | 49 => 176 | 50 => 177 | 57 => 180 | n => n, fun n => match n with | 0 => 0 | 3 => 3 | 4 => 4 | 5 => 5 | 9 => 9 | 22 => 54 | 24 => 69 | 25 => 145 | 39 => 106 | 45 => 171 | 46 => 172 | 50 => 176 | 53 => 138 | 55 => 80 | 66 => 185 | 70 => 189 | 76 => 197 | 77 => 41 | n => n, fun n => n⟩
theorem sortSpan : Go.Proofs.SlLaysF0.n6 Tryz.prog sortSpanR where
  mixed := by kernel_rfl
  f6 := ⟨Tryz.f118.name, by kernel_rfl, by kernel_rfl⟩
  f14 := ⟨Tryz.f138.name, by kernel_rfl, by kernel_rfl⟩
  f15 := by kernel_rfl
  f20 := ⟨Tryz.f155.name, by kernel_rfl, by kernel_rfl⟩
  f21 := ⟨Tryz.f156.name, by kernel_rfl, by kernel_rfl⟩
  f22 := ⟨Tryz.f157.name, by kernel_rfl, by kernel_rfl⟩
  f23 := ⟨Tryz.f158.name, by kernel_rfl, by kernel_rfl⟩
  f24 := ⟨Tryz.f159.name, by kernel_rfl, by kernel_rfl⟩
  f25 := ⟨Tryz.f160.name, by kernel_rfl, by kernel_rfl⟩
  f26 := ⟨Tryz.f161.name, by kernel_rfl, by kernel_rfl⟩
  f27 := ⟨Tryz.f162.name, by kernel_rfl, by kernel_rfl⟩
  f28 := by kernel_rfl
  f29 := by kernel_rfl
  f46 := ⟨Tryz.f173.name, by kernel_rfl, by kernel_rfl⟩
  f47 := by kernel_rfl
  f48 := by kernel_rfl
  f49 := ⟨Tryz.f176.name, by kernel_rfl, by kernel_rfl⟩
  f50 := ⟨Tryz.f177.name, by kernel_rfl, by kernel_rfl⟩
  f57 := ⟨Tryz.f180.name, by kernel_rfl, by kernel_rfl⟩
  t0 := by kernel_rfl
  a0 := fun w => by kernel_rfl
  z0 := fun w => by kernel_rfl
  v0 := fun w => by kernel_rfl
  t3 := by kernel_rfl
  a3 := fun w => by kernel_rfl
  z3 := fun w => by kernel_rfl
  v3 := fun w => by kernel_rfl
  t4 := by kernel_rfl
  a4 := fun w => by kernel_rfl
  z4 := fun w => by kernel_rfl
  v4 := fun w => by kernel_rfl
  t5 := by kernel_rfl
  a5 := fun w => by kernel_rfl
  z5 := fun w => by kernel_rfl
  v5 := fun w => by kernel_rfl
  t9 := by kernel_rfl
  a9 := fun w => by kernel_rfl
  z9 := fun w => by kernel_rfl
  v9 := fun w => by kernel_rfl
  t22 := by kernel_rfl
  a22 := fun w => by kernel_rfl
  z22 := fun w => by kernel_rfl
  v22 := fun w => by kernel_rfl
  t25 := by kernel_rfl
  a25 := fun w => by kernel_rfl
  z25 := fun w => by kernel_rfl
  v25 := fun w => by kernel_rfl
  t39 := by kernel_rfl
  a39 := fun w => by kernel_rfl
  z39 := fun w => by kernel_rfl
  v39 := fun w => by kernel_rfl
  t45 := by kernel_rfl
  a45 := fun w => by kernel_rfl
  z45 := fun w => by kernel_rfl
  v45 := fun w => by kernel_rfl
  t46 := by kernel_rfl
  a46 := fun w => by kernel_rfl
  z46 := fun w => by kernel_rfl
  v46 := fun w => by kernel_rfl
  t50 := by kernel_rfl
  a50 := fun w => by kernel_rfl
  z50 := fun w => by kernel_rfl
  v50 := fun w => by kernel_rfl
  t53 := by kernel_rfl
  a53 := fun w => by kernel_rfl
  z53 := fun w => by kernel_rfl
  v53 := fun w => by kernel_rfl
  t55 := by kernel_rfl
  a55 := fun w => by kernel_rfl
  z55 := fun w => by kernel_rfl
  v55 := fun w => by kernel_rfl
  t66 := by kernel_rfl
  a66 := fun w => by kernel_rfl
  z66 := fun w => by kernel_rfl
  v66 := fun w => by kernel_rfl
  t70 := by kernel_rfl
  a70 := fun w => by kernel_rfl
  z70 := fun w => by kernel_rfl
  v70 := fun w => by kernel_rfl
  t76 := by kernel_rfl
  a76 := fun w => by kernel_rfl
  z76 := fun w => by kernel_rfl
  v76 := fun w => by kernel_rfl
  t77 := by kernel_rfl
  a77 := fun w => by kernel_rfl
  z77 := fun w => by kernel_rfl
  v77 := fun w => by kernel_rfl
def cfSn (x y : Sn) : Int := cmpI x.lo y.lo
def encSn (x : Sn) : List Value := [.int .i64 x.lo, .int .i64 x.hi]
theorem ltSn (x y : Sn) : Go.Proofs.ltOf cfSn x y = decide (x.lo < y.lo) := by
  unfold Go.Proofs.ltOf cfSn cmpI
  by_cases h1 : x.lo < y.lo
  · simp [h1]
  · by_cases h2 : y.lo < x.lo <;> simp [h1, h2]
theorem swoSn : SWO (Go.Proofs.ltOf cfSn) where
  irrefl x := by rw [ltSn]; simp
  trans x y z h1 h2 := by rw [ltSn] at *; simp at *; omega
  ntrans x y z h1 h2 := by rw [ltSn] at *; simp at *; omega
theorem closSn (x y : Sn) (W : World) : Calls Tryz.prog 119 #[.agg (encSn x).toArray, .agg (encSn y).toArray] W fun e w' => e = .returned (.int .i64 (cfSn x y)) ∧ ∃ q os', w' = grow (W.drewN q) os' := by
  have hcon := fun W' => cmpInt x.lo y.lo W'
  show Calls Tryz.prog 119 #[.agg #[.int .i64 x.lo, .int .i64 x.hi], .agg #[.int .i64 y.lo, .int .i64 y.hi]] W fun e w' => e = .returned (.int .i64 (cmpI x.lo y.lo)) ∧ ∃ q os', w' = grow (W.drewN q) os'
  generalize cmpI x.lo y.lo = r at hcon ⊢
  go_enter Tryz.func119, Tryz.ntmps119
  go_wp2_with (go_at_call 120; refine (hcon _).mono ?_; rintro e w' ⟨rfl, rfl⟩)
  go_ret
  exact ⟨rfl, 0, _, by rw [alloc_eq_grow, alloc_eq_grow, grow_grow]; rfl⟩
theorem c_sortSn (xs : List Sn) (hn : xs.length < 4611686018427387904) : CtG Tryz.prog 118 [(1, ⟨69, 2, true, rV tSn xs⟩)] [.own (.sl 1 2 0 xs.length), .val (tE (.func (.func 119) #[] #[]))] (.val (tE (.tuple #[]))) [(1, ⟨69, 2, true, rV tSn (srt cfSn xs)⟩)] [] :=
  sortG sortSpan (enc := encSn) (cf := cfSn) (fun w => by kernel_rfl) (fun w => by kernel_rfl) (fun _ => rfl) (fun x v hv => by simp [encSn] at hv; rcases hv with rfl | rfl <;> rfl) (fun F w x v h => tSn_val h) (fun F w x => tSn_mk) swoSn (enters_of Tryz.func119 (by kernel_rfl) rfl) closSn xs hn
theorem srtSn_len {xs : List Sn} : (srt cfSn xs).length = xs.length := (srt_spec swoSn xs).1
/-- The set of the days of spans. -/
def pos (s : Sn) : Bool := decide (s.lo < s.hi)
def mkS (l : List Sn) : List Sn := mrg (srt cfSn (l.filter pos))
theorem filter_next {l : List Sn} {i : Nat} (hi : i < l.length) : (l.take (i + 1)).filter pos = (l.take i).filter pos ++ (if pos (l.getD i sn0) then [l.getD i sn0] else []) := by
  rw [List.take_succ_eq_append_getElem hi, List.filter_append, List.getD_eq_getElem?_getD, List.getElem?_eq_getElem hi]
  by_cases h : pos l[i] = true <;> simp [h]
theorem mrg_next {l : List Sn} {i : Nat} (hi : i < l.length) : mrg (l.take (i + 1)) = mrg1 (mrg (l.take i)) (l.getD i sn0) := by
  rw [List.take_succ_eq_append_getElem hi, mrg, List.foldl_append, List.getD_eq_getElem?_getD, List.getElem?_eq_getElem hi]; rfl
theorem allS_next {p : Sn → Bool} {l : List Sn} {i : Nat} (hi : i < l.length) : (l.take (i + 1)).all p = ((l.take i).all p && p (l.getD i sn0)) := by
  rw [List.take_succ_eq_append_getElem hi, List.all_append, List.getD_eq_getElem?_getD, List.getElem?_eq_getElem hi]; simp
theorem allS_stop {p : Sn → Bool} {l : List Sn} {i : Nat} (hi : i < l.length) (h : p (l.getD i sn0) = false) : l.all p = false := by
  rw [List.all_eq_false]
  exact ⟨l.getD i sn0, by rw [List.getD_eq_getElem?_getD, List.getElem?_eq_getElem hi]; exact List.getElem_mem hi, by rw [h]; exact Bool.false_ne_true⟩
theorem mrg1_len (acc : List Sn) (s : Sn) : (mrg1 acc s).length ≤ acc.length + 1 := by
  rw [mrg1]; split <;> simp
theorem mrg_len : ∀ (xs acc : List Sn), (xs.foldl mrg1 acc).length ≤ acc.length + xs.length
  | [], acc => by simp
  | s :: r, acc => by
    have h1 := mrg_len r (mrg1 acc s)
    have h2 := mrg1_len acc s
    simp only [List.foldl_cons, List.length_cons]
    omega
theorem filter_le {l : List Sn} {i : Nat} : ((l.take i).filter pos).length ≤ i := by
  have h1 := List.length_filter_le pos (l.take i)
  rw [List.length_take] at h1; omega
theorem c_isSpan (s : Sn) :
  Ct Tryz.prog 61 [tSn s] (tB s.ok) := by
 refine Ct.intro Tryz.func61 rfl Tryz.ntmps61 rfl ?_
 intro w F
 refine C_seq ?_
 refine C_reg ?_
 refine RE (d_box (k := 1) ti69 rfl) ⟨rfl, trivial⟩ trivial ⟨rfl, trivial⟩ ?_
 refine R1 d_assign rfl ?_
 refine R_nil (by kernel_rfl) ?_
 refine K_then ?_
 refine C_seq ?_
 refine C_reg ?_
 refine R1 (d_fieldO fo69_0 rfl) rfl ?_
 refine R_loadF (0) ti3 rfl rfl rfl (At.g 0 rfl rfl) rfl ?_
 refine R2 d_leq rfl rfl ?_
 refine R1 d_move rfl ?_
 refine RGcaseD (t := 6) rfl (fun h15 => ?_) (fun h15 => ?_)
 ·
  refine RGon (decide_eq_true h15) rfl (d_fieldO fo69_0 rfl) rfl ⟨rfl, trivial⟩ trivial trivial ?_
  refine RG_loadF (decide_eq_true h15) rfl rfl (0) ti3 rfl rfl rfl (At.g 0 rfl rfl) rfl ?_
  refine RGon (decide_eq_true h15) rfl (d_fieldO fo69_1 rfl) rfl ⟨rfl, trivial⟩ trivial trivial ?_
  refine RG_loadF (decide_eq_true h15) rfl rfl (0) ti3 rfl rfl rfl (At.g 1 rfl rfl) rfl ?_
  refine RGon (decide_eq_true h15) rfl d_leq rfl ⟨rfl, rfl, trivial⟩ trivial trivial ?_
  refine R2 (d_pickT (decide_eq_true h15)) rfl rfl ?_
  refine R1 d_move rfl ?_
  refine RGcaseD (t := 13) rfl (fun h15_2 => ?_) (fun h15_2 => ?_)
  ·
   refine RGon (decide_eq_true h15_2) rfl (d_fieldO fo69_1 rfl) rfl ⟨rfl, trivial⟩ trivial trivial ?_
   refine RG_loadF (decide_eq_true h15_2) rfl rfl (0) ti3 rfl rfl rfl (At.g 1 rfl rfl) rfl ?_
   refine RGon (decide_eq_true h15_2) rfl d_leq rfl ⟨rfl, rfl, trivial⟩ trivial trivial ?_
   refine R2 (d_pickT (decide_eq_true h15_2)) rfl rfl ?_
   refine R1 d_assign rfl ?_
   refine R_nil (by kernel_rfl) ?_
   refine K_then ?_
   refine C_ret ?_
   exact E_ret1 Plain.mk' rfl rfl (Le.bool (by simp [Sn.ok, *]))
  ·
   refine RGoff (decide_eq_false h15_2) rfl rfl ?_
   refine RGoff (decide_eq_false h15_2) rfl rfl ?_
   refine RGoff (decide_eq_false h15_2) rfl rfl ?_
   refine R2 (d_pickF (decide_eq_false h15_2)) rfl rfl ?_
   refine R1 d_assign rfl ?_
   refine R_nil (by kernel_rfl) ?_
   refine K_then ?_
   refine C_ret ?_
   exact E_ret1 Plain.mk' rfl rfl (Le.bool (by simp [Sn.ok, *]))
 ·
  refine RGoff (decide_eq_false h15) rfl rfl ?_
  refine RGoff (decide_eq_false h15) rfl rfl ?_
  refine RGoff (decide_eq_false h15) rfl rfl ?_
  refine RGoff (decide_eq_false h15) rfl rfl ?_
  refine RGoff (decide_eq_false h15) rfl rfl ?_
  refine R2 (d_pickF (decide_eq_false h15)) rfl rfl ?_
  refine R1 d_move rfl ?_
  refine RGoff0 rfl rfl ?_
  refine RGoff0 rfl rfl ?_
  refine RGoff0 rfl rfl ?_
  refine R2 (d_pickF rfl) rfl rfl ?_
  refine R1 d_assign rfl ?_
  refine R_nil (by kernel_rfl) ?_
  refine K_then ?_
  refine C_ret ?_
  exact E_ret1 Plain.mk' rfl rfl (Le.bool (by simp [Sn.ok, *]))
theorem c_SnMake (l : List Sn) (hl : l.length ≤ 1000000) :
  Ct Tryz.prog 89 [tL 2 true tSn l] (tT [tL 2 true tSn (if l.all Sn.ok = true then mkS l else []), tI (if l.all Sn.ok = true then 0 else 2)]) := by
 refine Ct.intro Tryz.func89 rfl Tryz.ntmps89 rfl ?_
 intro w F
 refine C_seq ?_
 refine C_reg ?_
 refine R1 d_assign rfl ?_
 refine R1 d_assign rfl ?_
 refine R_nil (by kernel_rfl) ?_
 refine K_then ?_
 refine C_seq ?_
 refine C_reg ?_
 refine RE (d_assignN (k := 4) 69 2 true rfl (fun h => by cases h)) trivial trivial ⟨rfl, trivial⟩ ?_
 refine R_nil (by kernel_rfl) ?_
 refine K_then ?_
 refine C_seq ?_
 refine C_seq ?_
 refine C_reg ?_
 refine R1 d_move rfl ?_
 refine R1 (d_len Tryz.underlying54) rfl ?_
 refine R1 d_move rfl ?_
 refine R_nil (by kernel_rfl) ?_
 refine K_then ?_
 refine C_block ?_
 refine C_loop (fun (fm : (Nat) × (List Sn)) => (fun (i : Nat) (xs : List Sn) => i ≤ l.length ∧ (l.take i).all Sn.ok = true ∧ xs = (l.take i).filter pos) fm.1 fm.2) (fun (fm : (Nat) × (List Sn)) => (fun (i : Nat) (xs : List Sn) => upd (upd (upd (upd (upd (fun _ => none) 0 (some (.val (tL 2 true tSn l)))) 4 (some (.own (.sl 4 2 0 xs.length)))) 11 (some (.val (tL 2 true tSn l)))) 12 (some (.val (tI l.length)))) 13 (some (.val (tI i)))) fm.1 fm.2) (fun (fm : (Nat) × (List Sn)) => (fun (i : Nat) (xs : List Sn) => upd (fun _ => none) 4 (some (⟨69, 2, true, rV tSn xs⟩))) fm.1 fm.2) (nm [4]) (fun (fm : (Nat) × (List Sn)) => (fun (i : Nat) (xs : List Sn) => l.length - i) fm.1 fm.2) ((0, [])) (by dsimp only; exact ⟨Nat.zero_le _, rfl, rfl⟩) (Sub.int rfl (by first | omega | rfl | (dsimp only; omega)) (Sub.int rfl (by first | omega | rfl | (dsimp only; omega)) (Sub.cons rfl (Sub.cons rfl (Sub.cons rfl Sub.nil))))) ((SubK.consI rfl ImpK.refl) SubK.nil) (SupG.val (SupG.val (SupG.val (SupG.own rfl (SupG.val SupG.nil))))) (SupH.cons rfl (supJ sup_rV) SupH.nil) (lkOk rfl) ?_
 intro fm hI
 obtain ⟨i, xs⟩ := fm
 replace hI : i ≤ l.length ∧ (l.take i).all Sn.ok = true ∧ xs = (l.take i).filter pos := hI
 show wc _ _ _ _ (upd (upd (upd (upd (upd (fun _ => none) 0 (some (.val (tL 2 true tSn l)))) 4 (some (.own (.sl 4 2 0 xs.length)))) 11 (some (.val (tL 2 true tSn l)))) 12 (some (.val (tI l.length)))) 13 (some (.val (tI i)))) (upd (fun _ => none) 4 (some (⟨69, 2, true, rV tSn xs⟩))) _
 obtain ⟨hi, ha, hx⟩ := hI
 have hxl : xs.length ≤ i := hx ▸ filter_le
 refine C_seq ?_
 refine C_reg ?_
 refine R2 d_lss rfl rfl ?_
 refine R_nil (by kernel_rfl) ?_
 refine K_then ?_
 refine C_seq ?_
 refine C_if rfl (fun h31 => ?_) (fun h31 => ?_)
 ·
  refine C_skip ?_
  refine K_then ?_
  refine C_seq ?_
  refine C_block ?_
  refine C_seq ?_
  refine C_reg ?_
  refine R2 (d_indexP sl54 (i) (by omega) (gD (l := l) (n := i) (d := sn0) (by omega))) rfl rfl ?_
  refine R1 (d_loadP ti69) rfl ?_
  refine RE (d_alloc (k := 6) (n := 2) (agg := true) zr69.1 zr69.2 rfl) trivial trivial ⟨rfl, trivial⟩ ?_
  refine RE (d_store (es := 2) (agg := true) (0) ti69 rfl rfl rfl) ⟨rfl, rfl, trivial⟩ ⟨rfl, trivial⟩ trivial ?_
  refine R_nil (by kernel_rfl) ?_
  refine K_then ?_
  refine C_seq ?_
  refine C_seq ?_
  refine C_reg ?_
  refine RE (d_load (0) ti69 rfl rfl) ⟨rfl, trivial⟩ ⟨rfl, trivial⟩ trivial ?_
  refine R1 (d_call (c_isSpan _) fi61 rfl) rfl ?_
  refine R1 d_not rfl ?_
  refine R_nil (by kernel_rfl) ?_
  refine K_then ?_
  refine C_cond rfl (fun h32 => ?_) (fun h32 => ?_)
  ·
   have hbad : l.all Sn.ok = false := allS_stop (i := i) (by omega) (by rw [Bool.not_eq_true'] at h32; exact h32)
   refine C_seq ?_
   refine C_reg ?_
   refine R1 d_assign rfl ?_
   refine R1 d_assign rfl ?_
   refine R_nil (by kernel_rfl) ?_
   refine K_then ?_
   refine C_ret ?_
   refine K_retT ?_
   refine K_retB ?_
   refine K_retT ?_
   refine K_retT ?_
   refine K_retB ?_
   refine K_retT ?_
   exact E_ret2 Plain.mk' rfl rfl rfl (leNil (by rw [if_neg (by rw [hbad]; exact Bool.false_ne_true)])) (Le.int (by rw [if_neg (by rw [hbad]; exact Bool.false_ne_true)]))
  ·
   rw [Bool.not_eq_false'] at h32
   refine C_skip ?_
   refine K_then ?_
   refine C_seq ?_
   refine C_reg ?_
   refine R1 (d_fieldO fo69_0 rfl) rfl ?_
   refine R_loadF (0) ti3 rfl rfl rfl (At.g 0 rfl rfl) rfl ?_
   refine R1 (d_fieldO fo69_1 rfl) rfl ?_
   refine R_loadF (0) ti3 rfl rfl rfl (At.g 1 rfl rfl) rfl ?_
   refine R2 d_lss rfl rfl ?_
   refine R_nil (by kernel_rfl) ?_
   refine K_then ?_
   refine C_if rfl (fun h35 => ?_) (fun h35 => ?_)
   ·
    refine C_reg ?_
    refine R1 d_move rfl ?_
    refine RE (d_load (0) ti69 rfl rfl) ⟨rfl, trivial⟩ ⟨rfl, trivial⟩ trivial ?_
    refine R1 (d_vals (n := 1) (f := tSn) [(l.getD i sn0)] Tryz.underlying54 el69 zf69 rfl (fun _ => inferInstance) rfl rfl rfl) rfl ?_
    refine RE (d_appendO (k := 4) (k' := 28) (f := tSn) (ys := [(l.getD i sn0)]) (ts' := rV tSn (xs ++ [(l.getD i sn0)])) Tryz.underlying54 el69 zf69 rfl rfl (fun _ => inferInstance) rV_len (by simp; omega) (by simp; omega) (by simp [rV]) (n' := xs.length + 1) rfl) ⟨rfl, rfl, trivial⟩ ⟨rfl, trivial⟩ ⟨rfl, trivial⟩ ?_
    refine R1 d_assign rfl ?_
    refine R_nil (by kernel_rfl) ?_
    refine K_norB ?_
    refine K_then ?_
    refine C_reg ?_
    refine R2 (d_add (wr64 (by omega) (by omega))) rfl rfl ?_
    refine R1 d_move rfl ?_
    refine R_nil (by kernel_rfl) ?_
    exact K_famR (l := [4]) (fun j => cond (Nat.beq j 4) 28 (j)) ((i + 1, xs ++ [(l.getD i sn0)])) ⟨(by dsimp only; exact ⟨by omega, by rw [allS_next (by omega), ha, h32]; rfl, by rw [filter_next (by omega), ← hx, if_pos (show pos _ = true from decide_eq_true h35)]⟩), (by dsimp only; omega)⟩ (SubR.int rfl (by first | omega | rfl | (dsimp only; omega)) (SubR.int rfl (by first | omega | rfl | (dsimp only; omega)) (SubR.cons rfl ((SubR.consI rfl (Imp.of (by dsimp only; rw [List.length_append]; rfl))) (SubR.cons rfl SubR.nil))))) ((SubKR.consI rfl (ImpK.of ren_rV.symm)) SubKR.nil) (SupG.val (SupG.val (SupG.val (SupG.own rfl (SupG.val SupG.nil))))) (SupH.cons rfl (supJ sup_rV) SupH.nil) (lkOk rfl) rfl rfl (fun _ h => by cases h)
   ·
    refine C_skip ?_
    refine K_norB ?_
    refine K_then ?_
    refine C_reg ?_
    refine R2 (d_add (wr64 (by omega) (by omega))) rfl rfl ?_
    refine R1 d_move rfl ?_
    refine R_nil (by kernel_rfl) ?_
    exact K_fam ((i + 1, xs)) ⟨(by dsimp only; exact ⟨by omega, by rw [allS_next (by omega), ha, h32]; rfl, by rw [filter_next (by omega), ← hx, if_neg (by rw [pos, decide_eq_false h35]; exact Bool.false_ne_true), List.append_nil]⟩), (by dsimp only; omega)⟩ (Sub.int rfl (by first | omega | rfl | (dsimp only; omega)) (Sub.int rfl (by first | omega | rfl | (dsimp only; omega)) (Sub.cons rfl (Sub.cons rfl (Sub.cons rfl Sub.nil))))) ((SubK.consI rfl ImpK.refl) SubK.nil) (SupG.val (SupG.val (SupG.val (SupG.own rfl (SupG.val SupG.nil))))) (SupH.cons rfl (supJ sup_rV) SupH.nil) (lkOk rfl)
 ·
  refine C_exit ?_
  refine K_exT ?_
  refine K_exT ?_
  refine K_exB ?_
  refine K_then ?_
  refine C_seq ?_
  have hil : i = l.length := by omega
  subst hil
  rw [List.take_length] at ha hx
  have hall := ha
  have hmk : mkS l = mrg (srt cfSn xs) := by rw [mkS, hx]
  refine C_reg ?_
  refine R1 d_move rfl ?_
  refine RE (d_callGX (fun _ => 4) (c_sortSn xs (by omega)) fi118 rfl (krC (ρ := fun _ => 4) (k := 1) ren_rV (krN (ρ := fun _ => 4))) (krC (ρ := fun _ => 4) (k := 1) ren_rV (krN (ρ := fun _ => 4))) ⟨⟨rfl, sup_rV⟩, trivial⟩ rfl) ⟨rfl, rfl, trivial⟩ ⟨rfl, trivial⟩ trivial ?_
  refine R_nil (by kernel_rfl) ?_
  refine K_then ?_
  refine C_seq ?_
  refine C_reg ?_
  refine RE (d_assignN (k := 7) 69 2 true rfl (fun h => by cases h)) trivial trivial ⟨rfl, trivial⟩ ?_
  refine R_nil (by kernel_rfl) ?_
  refine K_then ?_
  refine C_seq ?_
  refine C_seq ?_
  refine C_reg ?_
  refine R1 d_move rfl ?_
  refine R1 (d_lenO Tryz.underlying54) rfl ?_
  refine R1 d_move rfl ?_
  refine R_nil (by kernel_rfl) ?_
  refine K_then ?_
  refine C_block ?_
  refine C_loop (fun (fm : (Nat) × (List Sn)) => (fun (i : Nat) (zs : List Sn) => i ≤ xs.length ∧ zs = mrg ((srt cfSn xs).take i)) fm.1 fm.2) (fun (fm : (Nat) × (List Sn)) => (fun (i : Nat) (zs : List Sn) => upd (upd (upd (upd (upd (fun _ => none) 4 (some (.own (.sl 4 2 0 xs.length)))) 7 (some (.own (.sl 7 2 0 zs.length)))) 32 (some (.own (.sl 4 2 0 xs.length)))) 33 (some (.val (tI xs.length)))) 34 (some (.val (tI i)))) fm.1 fm.2) (fun (fm : (Nat) × (List Sn)) => (fun (i : Nat) (zs : List Sn) => upd (upd (fun _ => none) 4 (some (⟨69, 2, true, rV tSn (srt cfSn xs)⟩))) 7 (some (⟨69, 2, true, rV tSn zs⟩))) fm.1 fm.2) (nm [4, 7]) (fun (fm : (Nat) × (List Sn)) => (fun (i : Nat) (zs : List Sn) => xs.length - i) fm.1 fm.2) ((0, [])) (by dsimp only; exact ⟨Nat.zero_le _, rfl⟩) (Sub.int rfl (by first | omega | rfl | (dsimp only; omega)) (Sub.int rfl (by first | omega | rfl | (dsimp only; omega)) (Sub.cons rfl (Sub.cons rfl (Sub.cons rfl Sub.nil))))) ((SubK.consI rfl ImpK.refl) ((SubK.consI rfl ImpK.refl) SubK.nil)) (SupG.val (SupG.val (SupG.own rfl (SupG.own rfl (SupG.own rfl SupG.nil))))) (SupH.cons rfl (supJ sup_rV) (SupH.cons rfl (supJ sup_rV) SupH.nil)) (lkOk rfl) ?_
  intro fm hI
  obtain ⟨i, zs⟩ := fm
  replace hI : i ≤ xs.length ∧ zs = mrg ((srt cfSn xs).take i) := hI
  show wc _ _ _ _ (upd (upd (upd (upd (upd (fun _ => none) 4 (some (.own (.sl 4 2 0 xs.length)))) 7 (some (.own (.sl 7 2 0 zs.length)))) 32 (some (.own (.sl 4 2 0 xs.length)))) 33 (some (.val (tI xs.length)))) 34 (some (.val (tI i)))) (upd (upd (fun _ => none) 4 (some (⟨69, 2, true, rV tSn (srt cfSn xs)⟩))) 7 (some (⟨69, 2, true, rV tSn zs⟩))) _
  obtain ⟨hi', hz⟩ := hI
  have hsl := srtSn_len (xs := xs)
  have hzl : zs.length ≤ i := by
   have h := mrg_len ((srt cfSn xs).take i) []
   rw [List.length_take] at h
   have h2 : zs.length ≤ ([] : List Sn).length + min i (srt cfSn xs).length := by rw [hz]; exact h
   simp at h2; omega
  refine C_seq ?_
  refine C_reg ?_
  refine R2 d_lss rfl rfl ?_
  refine R_nil (by kernel_rfl) ?_
  refine K_then ?_
  refine C_seq ?_
  refine C_if rfl (fun h41 => ?_) (fun h41 => ?_)
  ·
   refine C_skip ?_
   refine K_then ?_
   refine C_seq ?_
   refine C_block ?_
   refine C_seq ?_
   refine C_reg ?_
   refine R2 (d_indexO sl54 (by omega) (by omega) rfl) rfl rfl ?_
   refine RE (d_load (i) ti69 (rV_getD (d := sn0) (by omega)) (by omega)) ⟨rfl, trivial⟩ ⟨rfl, trivial⟩ trivial ?_
   refine RE (d_alloc (k := 9) (n := 2) (agg := true) zr69.1 zr69.2 rfl) trivial trivial ⟨rfl, trivial⟩ ?_
   refine RE (d_store (es := 2) (agg := true) (0) ti69 rfl rfl rfl) ⟨rfl, rfl, trivial⟩ ⟨rfl, trivial⟩ trivial ?_
   refine R_nil (by kernel_rfl) ?_
   refine K_then ?_
   refine C_seq ?_
   refine C_reg ?_
   refine R1 d_move rfl ?_
   refine R1 (d_lenO Tryz.underlying54) rfl ?_
   refine R1 d_assign rfl ?_
   refine R_nil (by kernel_rfl) ?_
   refine K_then ?_
   refine C_seq ?_
   refine C_draw mixed ?_
   refine R1 d_move rfl ?_
   refine R2 d_gtr rfl rfl ?_
   refine R1 d_move rfl ?_
   refine RGcaseD (t := 42) rfl (fun h42 => ?_) (fun h42 => ?_)
   ·
    refine RGon (decide_eq_true h42) rfl d_move rfl ⟨rfl, trivial⟩ trivial trivial ?_
    refine RGon (decide_eq_true h42) rfl d_move rfl ⟨rfl, trivial⟩ trivial trivial ?_
    refine RGon (decide_eq_true h42) rfl (d_sub (wr64 (by omega) (by omega))) rfl ⟨rfl, rfl, trivial⟩ trivial trivial ?_
    refine RGon (decide_eq_true h42) rfl (d_indexO sl54 (by omega) (by omega) rfl) rfl ⟨rfl, rfl, trivial⟩ trivial trivial ?_
    refine RGon (decide_eq_true h42) rfl (d_fieldO fo69_1 rfl) rfl ⟨rfl, trivial⟩ trivial trivial ?_
    refine RGon (decide_eq_true h42) rfl (d_loadF (es := 2) (o := 1) (zs.length - 1) ti3 (rV_getD (d := sn0) (by omega)) (At.g 1 rfl rfl) (by omega)) rfl ⟨rfl, trivial⟩ ⟨rfl, trivial⟩ trivial ?_
    refine RGon (decide_eq_true h42) rfl (d_fieldO fo69_0 rfl) rfl ⟨rfl, trivial⟩ trivial trivial ?_
    refine RG_loadF (decide_eq_true h42) rfl rfl (0) ti3 rfl rfl rfl (At.g 0 rfl rfl) rfl ?_
    refine RGon (decide_eq_true h42) rfl d_geq rfl ⟨rfl, rfl, trivial⟩ trivial trivial ?_
    refine R2 (d_pickT (decide_eq_true h42)) rfl rfl ?_
    refine R_end (by kernel_rfl) ?_
    refine K_then ?_
    refine C_if rfl (fun h42_2 => ?_) (fun h42_2 => ?_)
    ·
     refine C_draw mixed ?_
     refine R1 d_move rfl ?_
     refine R1 d_move rfl ?_
     refine R2 (d_sub (wr64 (by omega) (by omega))) rfl rfl ?_
     refine R1 d_move rfl ?_
     refine R1 d_move rfl ?_
     refine R2 (d_sub (wr64 (by omega) (by omega))) rfl rfl ?_
     refine R2 (d_indexO sl54 (by omega) (by omega) rfl) rfl rfl ?_
     refine R1 (d_fieldO fo69_1 rfl) rfl ?_
     refine RE (d_loadF (es := 2) (o := 1) (zs.length - 1) ti3 (rV_getD (d := sn0) (by omega)) (At.g 1 rfl rfl) (by omega)) ⟨rfl, trivial⟩ ⟨rfl, trivial⟩ trivial ?_
     refine R1 (d_fieldO fo69_1 rfl) rfl ?_
     refine R_loadF (0) ti3 rfl rfl rfl (At.g 1 rfl rfl) rfl ?_
     refine R2 d_max2 rfl rfl ?_
     refine R2 (d_indexO sl54 (by omega) (by omega) rfl) rfl rfl ?_
     refine R1 (d_fieldO fo69_1 rfl) rfl ?_
     refine RE (d_storeF (es := 2) (o := 1) (t2 := tSn ⟨(zs.getD (zs.length - 1) sn0).lo, max (zs.getD (zs.length - 1) sn0).hi ((srt cfSn xs).getD i sn0).hi⟩) (zs.length - 1) ti3 (rV_getD (d := sn0) (by omega)) (Up.f (f := ⟨1, false, tI (zs.getD (zs.length - 1) sn0).hi⟩) 1 rfl rfl rfl) (by omega) (rV_set rfl)) ⟨rfl, rfl, trivial⟩ ⟨rfl, trivial⟩ trivial ?_
     refine R_end (by kernel_rfl) ?_
     refine K_norB ?_
     refine K_then ?_
     refine C_reg ?_
     refine R2 (d_add (wr64 (by omega) (by omega))) rfl rfl ?_
     refine R1 d_move rfl ?_
     refine R_nil (by kernel_rfl) ?_
     exact K_fam ((i + 1, (zs.set (zs.length - 1) ⟨(zs.getD (zs.length - 1) sn0).lo, max (zs.getD (zs.length - 1) sn0).hi ((srt cfSn xs).getD i sn0).hi⟩))) ⟨(by dsimp only; exact ⟨by omega, by rw [mrg_next (by omega), ← hz, mrg1, if_pos ⟨by omega, by omega⟩]⟩), (by dsimp only; omega)⟩ (Sub.int rfl (by first | omega | rfl | (dsimp only; omega)) (Sub.int rfl (by first | omega | rfl | (dsimp only; omega)) (Sub.cons rfl ((Sub.consI rfl (Imp.of (by dsimp only; rw [List.length_set]))) (Sub.cons rfl Sub.nil))))) ((SubK.consI rfl ImpK.refl) ((SubK.consI rfl ImpK.refl) SubK.nil)) (SupG.val (SupG.val (SupG.own rfl (SupG.own rfl (SupG.own rfl SupG.nil))))) (SupH.cons rfl (supJ sup_rV) (SupH.cons rfl (supJ sup_rV) SupH.nil)) (lkOk rfl)
    ·
     refine C_reg ?_
     refine R1 d_move rfl ?_
     refine RE (d_load (0) ti69 rfl rfl) ⟨rfl, trivial⟩ ⟨rfl, trivial⟩ trivial ?_
     refine R1 (d_vals (n := 1) (f := tSn) [((srt cfSn xs).getD i sn0)] Tryz.underlying54 el69 zf69 rfl (fun _ => inferInstance) rfl rfl rfl) rfl ?_
     refine RE (d_appendO (k := 7) (k' := 70) (f := tSn) (ys := [((srt cfSn xs).getD i sn0)]) (ts' := rV tSn (zs ++ [((srt cfSn xs).getD i sn0)])) Tryz.underlying54 el69 zf69 rfl rfl (fun _ => inferInstance) rV_len (by simp; omega) (by simp; omega) (by simp [rV]) (n' := zs.length + 1) rfl) ⟨rfl, rfl, trivial⟩ ⟨rfl, trivial⟩ ⟨rfl, trivial⟩ ?_
     refine R1 d_assign rfl ?_
     refine R_nil (by kernel_rfl) ?_
     refine K_norB ?_
     refine K_then ?_
     refine C_reg ?_
     refine R2 (d_add (wr64 (by omega) (by omega))) rfl rfl ?_
     refine R1 d_move rfl ?_
     refine R_nil (by kernel_rfl) ?_
     exact K_famR (l := [4, 7]) (fun j => cond (Nat.beq j 7) 70 (j)) ((i + 1, zs ++ [((srt cfSn xs).getD i sn0)])) ⟨(by dsimp only; exact ⟨by omega, by rw [mrg_next (by omega), ← hz, mrg1, if_neg (by omega)]⟩), (by dsimp only; omega)⟩ (SubR.int rfl (by first | omega | rfl | (dsimp only; omega)) (SubR.int rfl (by first | omega | rfl | (dsimp only; omega)) (SubR.cons rfl ((SubR.consI rfl (Imp.of (by dsimp only; rw [List.length_append]; rfl))) (SubR.cons rfl SubR.nil))))) ((SubKR.consI rfl (ImpK.of ren_rV.symm)) ((SubKR.consI rfl (ImpK.of ren_rV.symm)) SubKR.nil)) (SupG.val (SupG.val (SupG.own rfl (SupG.own rfl (SupG.own rfl SupG.nil))))) (SupH.cons rfl (supJ sup_rV) (SupH.cons rfl (supJ sup_rV) SupH.nil)) (lkOk rfl) rfl rfl (fun _ h => by cases h)
   ·
    refine RGoff (decide_eq_false h42) rfl rfl ?_
    refine RGoff (decide_eq_false h42) rfl rfl ?_
    refine RGoff (decide_eq_false h42) rfl rfl ?_
    refine RGoff (decide_eq_false h42) rfl rfl ?_
    refine RGoff (decide_eq_false h42) rfl rfl ?_
    refine RGoff (decide_eq_false h42) rfl rfl ?_
    refine RGoff (decide_eq_false h42) rfl rfl ?_
    refine RGoff (decide_eq_false h42) rfl rfl ?_
    refine RGoff (decide_eq_false h42) rfl rfl ?_
    refine R2 (d_pickF (decide_eq_false h42)) rfl rfl ?_
    refine R_end (by kernel_rfl) ?_
    refine K_then ?_
    refine C_bF rfl rfl ?_
    refine C_reg ?_
    refine R1 d_move rfl ?_
    refine RE (d_load (0) ti69 rfl rfl) ⟨rfl, trivial⟩ ⟨rfl, trivial⟩ trivial ?_
    refine R1 (d_vals (n := 1) (f := tSn) [((srt cfSn xs).getD i sn0)] Tryz.underlying54 el69 zf69 rfl (fun _ => inferInstance) rfl rfl rfl) rfl ?_
    refine RE (d_appendO (k := 7) (k' := 70) (f := tSn) (ys := [((srt cfSn xs).getD i sn0)]) (ts' := rV tSn (zs ++ [((srt cfSn xs).getD i sn0)])) Tryz.underlying54 el69 zf69 rfl rfl (fun _ => inferInstance) rV_len (by simp; omega) (by simp; omega) (by simp [rV]) (n' := zs.length + 1) rfl) ⟨rfl, rfl, trivial⟩ ⟨rfl, trivial⟩ ⟨rfl, trivial⟩ ?_
    refine R1 d_assign rfl ?_
    refine R_nil (by kernel_rfl) ?_
    refine K_norB ?_
    refine K_then ?_
    refine C_reg ?_
    refine R2 (d_add (wr64 (by omega) (by omega))) rfl rfl ?_
    refine R1 d_move rfl ?_
    refine R_nil (by kernel_rfl) ?_
    exact K_famR (l := [4, 7]) (fun j => cond (Nat.beq j 7) 70 (j)) ((i + 1, zs ++ [((srt cfSn xs).getD i sn0)])) ⟨(by dsimp only; exact ⟨by omega, by rw [mrg_next (by omega), ← hz, mrg1, if_neg (by omega)]⟩), (by dsimp only; omega)⟩ (SubR.int rfl (by first | omega | rfl | (dsimp only; omega)) (SubR.int rfl (by first | omega | rfl | (dsimp only; omega)) (SubR.cons rfl ((SubR.consI rfl (Imp.of (by dsimp only; rw [List.length_append]; rfl))) (SubR.cons rfl SubR.nil))))) ((SubKR.consI rfl (ImpK.of ren_rV.symm)) ((SubKR.consI rfl (ImpK.of ren_rV.symm)) SubKR.nil)) (SupG.val (SupG.val (SupG.own rfl (SupG.own rfl (SupG.own rfl SupG.nil))))) (SupH.cons rfl (supJ sup_rV) (SupH.cons rfl (supJ sup_rV) SupH.nil)) (lkOk rfl) rfl rfl (fun _ h => by cases h)
  ·
   refine C_exit ?_
   refine K_exT ?_
   refine K_exT ?_
   refine K_exB ?_
   refine K_then ?_
   refine C_seq ?_
   refine C_reg ?_
   refine R1 d_move rfl ?_
   refine RE (d_assignS (f := tSn) (xs := zs) (fun _ h => h) (rV_all rfl) rfl) ⟨rfl, trivial⟩ ⟨rfl, trivial⟩ trivial ?_
   refine R1 d_assign rfl ?_
   refine R_nil (by kernel_rfl) ?_
   refine K_then ?_
   refine C_ret ?_
   exact E_ret2 Plain.mk' rfl rfl rfl (Le.of (by rw [if_pos hall, hmk, hz, show i = (srt cfSn xs).length by omega, List.take_length])) (Le.int (by rw [if_pos hall]))
end An.S

/- A slice of memory that was lent gets a name of one's own. For any program. -/
namespace An
open Go
theorem C_renS {P : Program} {c : Base} {g : Slots} {h : Keys} {al : Names} {Q : Exit → Act → World → Prop} {x : Code} {t k es off len : Nat} {y : HEnt} (k' : Nat) (hs : g t = some (.own (.sl k es off len))) (hk : h k = some y) (hk' : al k' = false)
    (H : wc P c x Q (upd g t (some (.own (.sl k' es off len)))) (upd (upd h k none) k' (some y)) (fun j => Nat.beq j k' || al j)) : wc P c x Q g h al := fun a w hst => by
  obtain ⟨η, s⟩ := hst
  have s2 := s.rename hk hk'
  have h1 := (s2.slot t _ hs).2.2
  have hk1 : k ≠ k' := fun e => by have := (s.key k _ hk).1; rw [e, hk'] at this; cases this
  obtain ⟨hb, hc⟩ := η.set_other (k := k') (j := k) (η.b k) (η.c k) hk1
  have h2 : Ent.sat (c.dom (upd (upd h k none) k' (some y)) (η.set k' (η.b k) (η.c k))) w (η.set k' (η.b k) (η.c k)) (.own (.sl k' es off len)) (a.tmps.getD t undef) := by
    obtain ⟨A, e1, e2, e3⟩ := h1
    rw [hc] at e1 e2 e3; rw [hb] at e3
    exact ⟨A, by rw [Env.set_c]; exact e1, by rw [Env.set_c]; exact e2, by rw [Env.set_c, Env.set_b]; exact e3⟩
  have s3 := s2.put (s2.slot t _ hs).1 h2 fun j hj => by
    simp only [Ent.supp, VP.supp, List.mem_singleton] at hj
    subst hj; simp
  have ea : a.put (some t) (a.tmps.getD t undef) = a := by
    have hlt : t < a.tmps.size := by rw [s.tn]; exact (s.slot t _ hs).1
    have : a.tmps.setIfInBounds t (a.tmps.getD t undef) = a.tmps := by
      apply Array.ext_getElem?
      intro i
      rw [Array.getElem?_setIfInBounds]
      by_cases hi : t = i
      · subst hi; simp [hlt]
      · simp [hi]
    simp only [Act.put, this]
  rw [ea] at s3
  exact H a w ⟨_, s3⟩
end An

/- Layers 4 and 5: sets are checked and bridged, pieces of timelines are put together. -/
namespace An.S
open Go Go.Proofs An
set_option maxHeartbeats 2000000
theorem fi28 : FnI Tryz.prog 28 := ⟨_, Tryz.func28, by kernel_rfl, rfl⟩
theorem fi58 : FnI Tryz.prog 58 := ⟨_, Tryz.func58, by kernel_rfl, rfl⟩
theorem fi109 : FnI Tryz.prog 109 := ⟨_, Tryz.func109, by kernel_rfl, rfl⟩
theorem fi110 : FnI Tryz.prog 110 := ⟨_, Tryz.func110, by kernel_rfl, rfl⟩
theorem fi132 : FnI Tryz.prog 132 := ⟨_, Tryz.func132, by kernel_rfl, rfl⟩
theorem el39 : ElI Tryz.prog 39 8 96 true (.agg #[.int .i64 0, .int .i64 0, .int .u8 0, .bool false, .slice none 0 0, .bool false, .slice none 0 0, .int .i64 0]) := ⟨ti39, by kernel_rfl, by kernel_rfl⟩
theorem zf39 : Flat 8 true (.agg #[.int .i64 0, .int .i64 0, .int .u8 0, .bool false, .slice none 0 0, .bool false, .slice none 0 0, .int .i64 0]) := flat_agg (by intro u hu; simp at hu; rcases hu with rfl | rfl | rfl | rfl | rfl | rfl | rfl | rfl <;> rfl)
/-- A span and the one before it. -/
def sOkA (l : List Sn) (i : Nat) : Bool := (l.getD i sn0).ok && decide ((l.getD i sn0).lo ≠ (l.getD i sn0).hi) && (decide (i = 0) || decide ((l.getD (i - 1) sn0).hi < (l.getD i sn0).lo))
def sVal (l : List Sn) : Bool := (List.range l.length).all (sOkA l)
theorem sOkA_iff {l : List Sn} {i : Nat} : sOkA l i = true ↔ (l.getD i sn0).ok = true ∧ (l.getD i sn0).lo ≠ (l.getD i sn0).hi ∧ (i = 0 ∨ (l.getD (i - 1) sn0).hi < (l.getD i sn0).lo) := by
  simp only [sOkA, Bool.and_eq_true, Bool.or_eq_true, decide_eq_true_eq, and_assoc]
theorem sVal_bad {l : List Sn} {i : Nat} (hi : i < l.length) (h : ¬ ((l.getD i sn0).ok = true ∧ (l.getD i sn0).lo ≠ (l.getD i sn0).hi ∧ (i = 0 ∨ (l.getD (i - 1) sn0).hi < (l.getD i sn0).lo))) : false = sVal l := by
  rw [sVal, ranges_stop hi (Bool.eq_false_iff.2 fun h' => h (sOkA_iff.1 h'))]
theorem sVal_at {l : List Sn} {i : Nat} (h : sVal l = true) (hi : i < l.length) : 0 ≤ (l.getD i sn0).lo ∧ (l.getD i sn0).lo < (l.getD i sn0).hi ∧ (l.getD i sn0).hi ≤ 65536 := by
  have h1 := sOkA_iff.1 (List.all_eq_true.1 h i (List.mem_range.2 hi))
  simp only [Sn.ok, Bool.and_eq_true, decide_eq_true_eq] at h1
  omega
/-- Bridged: a span, behind a set. -/
def brg1 (d : Int) (acc : List Sn) (s : Sn) : List Sn :=
  if 0 < acc.length ∧ s.lo - (acc.getD (acc.length - 1) sn0).hi ≤ d then acc.set (acc.length - 1) ⟨(acc.getD (acc.length - 1) sn0).lo, s.hi⟩ else acc ++ [s]
def brg (d : Int) (l : List Sn) : List Sn := l.foldl (brg1 d) []
theorem brg_next {d : Int} {l : List Sn} {i : Nat} (hi : i < l.length) : brg d (l.take (i + 1)) = brg1 d (brg d (l.take i)) (l.getD i sn0) := by
  rw [List.take_succ_eq_append_getElem hi, brg, List.foldl_append, List.getD_eq_getElem?_getD, List.getElem?_eq_getElem hi]; rfl
theorem set_last {l : List Sn} {x : Sn} (h : 0 < l.length) : (l.set (l.length - 1) x).getD ((l.set (l.length - 1) x).length - 1) sn0 = x := by
  rw [List.length_set, List.getD_eq_getElem?_getD, List.getElem?_set_self (by omega)]; rfl
theorem snoc_last {l : List Sn} {x : Sn} : (l ++ [x]).getD ((l ++ [x]).length - 1) sn0 = x := by
  simp [List.getD_eq_getElem?_getD]
theorem c_SValid (l : List Sn) :
  Ct Tryz.prog 28 [tL 2 true tSn l] (tB (sVal l)) := by
 refine Ct.intro Tryz.func28 rfl Tryz.ntmps28 rfl ?_
 intro w F
 refine C_len (s := 0) rfl (fun hl0 => ?_)
 refine C_seq ?_
 refine C_reg ?_
 refine R1 d_assign rfl ?_
 refine R_nil (by kernel_rfl) ?_
 refine K_then ?_
 refine C_seq ?_
 refine C_seq ?_
 refine C_reg ?_
 refine R1 d_move rfl ?_
 refine R1 (d_len Tryz.underlying54) rfl ?_
 refine R1 d_move rfl ?_
 refine R_nil (by kernel_rfl) ?_
 refine K_then ?_
 refine C_block ?_
 refine C_loop (fun (i : Nat) => i ≤ l.length ∧ (List.range i).all (sOkA l) = true) (fun (i : Nat) => upd (upd (upd (upd (fun _ => none) 0 (some (.val (tL 2 true tSn l)))) 5 (some (.val (tL 2 true tSn l)))) 6 (some (.val (tI l.length)))) 7 (some (.val (tI i)))) (fun (i : Nat) => fun _ => none) (nm []) (fun (i : Nat) => l.length - i) (0) ⟨Nat.zero_le _, rfl⟩ (Sub.int rfl (by first | omega | rfl | (dsimp only; omega)) (Sub.int rfl (by first | omega | rfl | (dsimp only; omega)) (Sub.cons rfl (Sub.cons rfl Sub.nil)))) SubK.nil (SupG.val (SupG.val (SupG.val (SupG.val SupG.nil)))) SupH.nil (lkOk rfl) ?_
 intro i hI
 obtain ⟨hi, ha⟩ := hI
 refine C_seq ?_
 refine C_reg ?_
 refine R2 d_lss rfl rfl ?_
 refine R_nil (by kernel_rfl) ?_
 refine K_then ?_
 refine C_seq ?_
 refine C_if rfl (fun h20 => ?_) (fun h20 => ?_)
 ·
  refine C_skip ?_
  refine K_then ?_
  refine C_seq ?_
  refine C_block ?_
  refine C_seq ?_
  refine C_reg ?_
  refine R1 d_move rfl ?_
  refine R2 (d_indexP sl54 (i) (by omega) (gD (l := l) (n := i) (d := sn0) (by omega))) rfl rfl ?_
  refine R1 (d_loadP ti69) rfl ?_
  refine RE (d_alloc (k := 4) (n := 2) (agg := true) zr69.1 zr69.2 rfl) trivial trivial ⟨rfl, trivial⟩ ?_
  refine R1 d_assign rfl ?_
  refine RE (d_store (es := 2) (agg := true) (0) ti69 rfl rfl rfl) ⟨rfl, rfl, trivial⟩ ⟨rfl, trivial⟩ trivial ?_
  refine R_nil (by kernel_rfl) ?_
  refine K_then ?_
  refine C_seq ?_
  refine C_draw mixed ?_
  refine RE (d_load (0) ti69 rfl rfl) ⟨rfl, trivial⟩ ⟨rfl, trivial⟩ trivial ?_
  refine R1 (d_call (c_isSpan _) fi61 rfl) rfl ?_
  refine R1 d_not rfl ?_
  refine R1 d_move rfl ?_
  refine RGcase (t := 15) rfl (fun h21 => ?_) (fun h21 => ?_)
  ·
   refine RGoff h21 rfl rfl ?_
   refine RGoff h21 rfl rfl ?_
   refine RGoff h21 rfl rfl ?_
   refine RGoff h21 rfl rfl ?_
   refine RGoff h21 rfl rfl ?_
   refine R2 (d_pickT h21) rfl rfl ?_
   refine R1 d_move rfl ?_
   refine RGoff1 rfl rfl ?_
   refine RGoff1 rfl rfl ?_
   refine RGoff1 rfl rfl ?_
   refine RGoffU rfl rfl ?_
   refine RGoffU rfl rfl ?_
   refine RGoffU rfl rfl ?_
   refine RGoffU rfl rfl ?_
   refine RGoffU rfl rfl ?_
   refine RGoffU rfl rfl ?_
   refine RGoffU rfl rfl ?_
   refine RGoffU rfl rfl ?_
   refine RGoffU rfl rfl ?_
   refine RGoff1 rfl rfl ?_
   refine R2 (d_pickT rfl) rfl rfl ?_
   refine R_end (by kernel_rfl) ?_
   refine K_then ?_
   refine C_bT rfl rfl ?_
   refine C_seq ?_
   refine C_reg ?_
   refine R1 d_assign rfl ?_
   refine R_nil (by kernel_rfl) ?_
   refine K_then ?_
   refine C_ret ?_
   refine K_retB ?_
   refine K_retT ?_
   refine K_retT ?_
   refine K_retB ?_
   refine K_retT ?_
   exact E_ret1 Plain.mk' rfl rfl (Le.bool (sVal_bad (i := i) (by omega) fun h => by rw [h.1] at h21; cases h21))
  ·
   refine RGon h21 rfl (d_fieldO fo69_0 rfl) rfl ⟨rfl, trivial⟩ trivial trivial ?_
   refine RG_loadF h21 rfl rfl (0) ti3 rfl rfl rfl (At.g 0 rfl rfl) rfl ?_
   refine RGon h21 rfl (d_fieldO fo69_1 rfl) rfl ⟨rfl, trivial⟩ trivial trivial ?_
   refine RG_loadF h21 rfl rfl (0) ti3 rfl rfl rfl (At.g 1 rfl rfl) rfl ?_
   refine RGon h21 rfl d_eql rfl ⟨rfl, rfl, trivial⟩ trivial trivial ?_
   refine R2 (d_pickF h21) rfl rfl ?_
   refine R1 d_move rfl ?_
   refine RGcaseD (t := 22) rfl (fun h21_2 => ?_) (fun h21_2 => ?_)
   ·
    refine RGoff (decide_eq_true h21_2) rfl rfl ?_
    refine RGoff (decide_eq_true h21_2) rfl rfl ?_
    refine RGoff (decide_eq_true h21_2) rfl rfl ?_
    refine RGoffU rfl rfl ?_
    refine RGoffU rfl rfl ?_
    refine RGoffU rfl rfl ?_
    refine RGoffU rfl rfl ?_
    refine RGoffU rfl rfl ?_
    refine RGoffU rfl rfl ?_
    refine RGoffU rfl rfl ?_
    refine RGoffU rfl rfl ?_
    refine RGoffU rfl rfl ?_
    refine RGoff (decide_eq_true h21_2) rfl rfl ?_
    refine R2 (d_pickT (decide_eq_true h21_2)) rfl rfl ?_
    refine R_end (by kernel_rfl) ?_
    refine K_then ?_
    refine C_bT rfl rfl ?_
    refine C_seq ?_
    refine C_reg ?_
    refine R1 d_assign rfl ?_
    refine R_nil (by kernel_rfl) ?_
    refine K_then ?_
    refine C_ret ?_
    refine K_retB ?_
    refine K_retT ?_
    refine K_retT ?_
    refine K_retB ?_
    refine K_retT ?_
    exact E_ret1 Plain.mk' rfl rfl (Le.bool (sVal_bad (i := i) (by omega) (by omega)))
   ·
    refine RGon (decide_eq_false h21_2) rfl d_move rfl ⟨rfl, trivial⟩ trivial trivial ?_
    refine RGon (decide_eq_false h21_2) rfl d_gtr rfl ⟨rfl, rfl, trivial⟩ trivial trivial ?_
    refine RGon (decide_eq_false h21_2) rfl d_move rfl ⟨rfl, trivial⟩ trivial trivial ?_
    refine RGcaseD (t := 25) rfl (fun h21_3 => ?_) (fun h21_3 => ?_)
    ·
     refine RGon (decide_eq_true h21_3) rfl d_move rfl ⟨rfl, trivial⟩ trivial trivial ?_
     refine RGon (decide_eq_true h21_3) rfl d_move rfl ⟨rfl, trivial⟩ trivial trivial ?_
     refine RGon (decide_eq_true h21_3) rfl (d_sub (wr64 (by omega) (by omega))) rfl ⟨rfl, rfl, trivial⟩ trivial trivial ?_
     refine RGon (decide_eq_true h21_3) rfl (d_indexP sl54 (i - 1) (by omega) (gD (l := l) (n := i - 1) (d := sn0) (by omega))) rfl ⟨rfl, rfl, trivial⟩ trivial trivial ?_
     refine RGon (decide_eq_true h21_3) rfl (d_fieldP fo69_1 (At.f 1 rfl rfl) rfl) rfl ⟨rfl, trivial⟩ trivial trivial ?_
     refine RGon (decide_eq_true h21_3) rfl (d_loadP ti3) rfl ⟨rfl, trivial⟩ trivial trivial ?_
     refine RGon (decide_eq_true h21_3) rfl (d_fieldO fo69_0 rfl) rfl ⟨rfl, trivial⟩ trivial trivial ?_
     refine RG_loadF (decide_eq_true h21_3) rfl rfl (0) ti3 rfl rfl rfl (At.g 0 rfl rfl) rfl ?_
     refine RGon (decide_eq_true h21_3) rfl d_geq rfl ⟨rfl, rfl, trivial⟩ trivial trivial ?_
     refine RGon (decide_eq_false h21_2) rfl (d_pickT (decide_eq_true h21_3)) rfl ⟨rfl, rfl, trivial⟩ trivial trivial ?_
     refine R2 (d_pickF (decide_eq_false h21_2)) rfl rfl ?_
     refine R_end (by kernel_rfl) ?_
     refine K_then ?_
     refine C_if rfl (fun h21_4 => ?_) (fun h21_4 => ?_)
     ·
      refine C_seq ?_
      refine C_reg ?_
      refine R1 d_assign rfl ?_
      refine R_nil (by kernel_rfl) ?_
      refine K_then ?_
      refine C_ret ?_
      refine K_retB ?_
      refine K_retT ?_
      refine K_retT ?_
      refine K_retB ?_
      refine K_retT ?_
      exact E_ret1 Plain.mk' rfl rfl (Le.bool (sVal_bad (i := i) (by omega) (by omega)))
     ·
      refine C_skip ?_
      refine K_norB ?_
      refine K_then ?_
      refine C_reg ?_
      refine R2 (d_add (wr64 (by omega) (by omega))) rfl rfl ?_
      refine R1 d_move rfl ?_
      refine R_nil (by kernel_rfl) ?_
      have hok : sOkA l i = true := sOkA_iff.2 ⟨by simpa using h21, by omega, by omega⟩
      exact K_fam (i + 1) ⟨⟨by omega, by rw [ranges_next, ha, Bool.true_and]; exact hok⟩, (by omega)⟩ (Sub.int rfl (by first | omega | rfl | (dsimp only; omega)) (Sub.int rfl (by first | omega | rfl | (dsimp only; omega)) (Sub.cons rfl (Sub.cons rfl Sub.nil)))) SubK.nil (SupG.val (SupG.val (SupG.val (SupG.val SupG.nil)))) SupH.nil (lkOk rfl)
    ·
     refine RGoff (decide_eq_false h21_3) rfl rfl ?_
     refine RGoff (decide_eq_false h21_3) rfl rfl ?_
     refine RGoff (decide_eq_false h21_3) rfl rfl ?_
     refine RGoff (decide_eq_false h21_3) rfl rfl ?_
     refine RGoff (decide_eq_false h21_3) rfl rfl ?_
     refine RGoff (decide_eq_false h21_3) rfl rfl ?_
     refine RGoff (decide_eq_false h21_3) rfl rfl ?_
     refine RGoff (decide_eq_false h21_3) rfl rfl ?_
     refine RGoff (decide_eq_false h21_3) rfl rfl ?_
     refine RGon (decide_eq_false h21_2) rfl (d_pickF (decide_eq_false h21_3)) rfl ⟨rfl, rfl, trivial⟩ trivial trivial ?_
     refine R2 (d_pickF (decide_eq_false h21_2)) rfl rfl ?_
     refine R_end (by kernel_rfl) ?_
     refine K_then ?_
     refine C_bF rfl rfl ?_
     refine C_skip ?_
     refine K_norB ?_
     refine K_then ?_
     refine C_reg ?_
     refine R2 (d_add (wr64 (by omega) (by omega))) rfl rfl ?_
     refine R1 d_move rfl ?_
     refine R_nil (by kernel_rfl) ?_
     have hok : sOkA l i = true := sOkA_iff.2 ⟨by simpa using h21, by omega, by omega⟩
     exact K_fam (i + 1) ⟨⟨by omega, by rw [ranges_next, ha, Bool.true_and]; exact hok⟩, (by omega)⟩ (Sub.int rfl (by first | omega | rfl | (dsimp only; omega)) (Sub.int rfl (by first | omega | rfl | (dsimp only; omega)) (Sub.cons rfl (Sub.cons rfl Sub.nil)))) SubK.nil (SupG.val (SupG.val (SupG.val (SupG.val SupG.nil)))) SupH.nil (lkOk rfl)
 ·
  refine C_exit ?_
  refine K_exT ?_
  refine K_exT ?_
  refine K_exB ?_
  refine K_then ?_
  refine C_seq ?_
  refine C_reg ?_
  refine R1 d_assign rfl ?_
  refine R_nil (by kernel_rfl) ?_
  refine K_then ?_
  refine C_ret ?_
  exact E_ret1 Plain.mk' rfl rfl (Le.bool (by rw [sVal, ← show i = l.length by omega, ha]))
theorem c_SBridge (l : List Sn) (d : Int) (hl : l.length ≤ 1000000) :
  Ct Tryz.prog 57 [tL 2 true tSn l, tI d] (tT [tL 2 true tSn (if sVal l = true ∧ 0 ≤ d then brg d l else []), tI (if sVal l = true ∧ 0 ≤ d then 0 else 2)]) := by
 refine Ct.intro Tryz.func57 rfl Tryz.ntmps57 rfl ?_
 intro w F
 refine C_seq ?_
 refine C_reg ?_
 refine R1 d_assign rfl ?_
 refine R1 d_assign rfl ?_
 refine R_nil (by kernel_rfl) ?_
 refine K_then ?_
 refine C_seq ?_
 refine C_seq ?_
 refine C_reg ?_
 refine R1 d_move rfl ?_
 refine R1 (d_call (c_SValid _) fi28 rfl) rfl ?_
 refine R1 d_not rfl ?_
 refine R1 d_move rfl ?_
 refine RGcase (t := 13) rfl (fun h124 => ?_) (fun h124 => ?_)
 ·
  refine RGoff h124 rfl rfl ?_
  refine RGoff h124 rfl rfl ?_
  refine R2 (d_pickT h124) rfl rfl ?_
  refine R_nil (by kernel_rfl) ?_
  refine K_then ?_
  refine C_bT rfl rfl ?_
  refine C_seq ?_
  refine C_reg ?_
  refine R1 d_assign rfl ?_
  refine R1 d_assign rfl ?_
  refine R_nil (by kernel_rfl) ?_
  refine K_then ?_
  refine C_ret ?_
  refine K_retT ?_
  exact E_ret2 Plain.mk' rfl rfl rfl (leNil (by rw [if_neg fun h => by rw [h.1] at h124; cases h124])) (Le.int (by rw [if_neg fun h => by rw [h.1] at h124; cases h124]))
 ·
  refine RGon h124 rfl d_move rfl ⟨rfl, trivial⟩ trivial trivial ?_
  refine RGon h124 rfl d_lss rfl ⟨rfl, rfl, trivial⟩ trivial trivial ?_
  refine R2 (d_pickF h124) rfl rfl ?_
  refine R_nil (by kernel_rfl) ?_
  refine K_then ?_
  refine C_if rfl (fun h124_2 => ?_) (fun h124_2 => ?_)
  ·
   refine C_seq ?_
   refine C_reg ?_
   refine R1 d_assign rfl ?_
   refine R1 d_assign rfl ?_
   refine R_nil (by kernel_rfl) ?_
   refine K_then ?_
   refine C_ret ?_
   refine K_retT ?_
   exact E_ret2 Plain.mk' rfl rfl rfl (leNil (by rw [if_neg (by omega)])) (Le.int (by rw [if_neg (by omega)]))
  ·
   refine C_skip ?_
   refine K_then ?_
   refine C_seq ?_
   refine C_reg ?_
   refine RE (d_assignN (k := 6) 69 2 true rfl (fun h => by cases h)) trivial trivial ⟨rfl, trivial⟩ ?_
   refine R_nil (by kernel_rfl) ?_
   refine K_then ?_
   refine C_seq ?_
   refine C_seq ?_
   refine C_reg ?_
   refine R1 d_move rfl ?_
   refine R1 (d_len Tryz.underlying54) rfl ?_
   refine R1 d_move rfl ?_
   refine R_nil (by kernel_rfl) ?_
   refine K_then ?_
   refine C_block ?_
   have hok : sVal l = true ∧ 0 ≤ d := ⟨by simpa using h124, by omega⟩
   refine C_loop (fun (fm : (Nat) × (List Sn)) => (fun (i : Nat) (zs : List Sn) => i ≤ l.length ∧ zs = brg d (l.take i) ∧ zs.length ≤ i ∧ (0 < zs.length → 0 ≤ (zs.getD (zs.length - 1) sn0).hi ∧ (zs.getD (zs.length - 1) sn0).hi ≤ 65536)) fm.1 fm.2) (fun (fm : (Nat) × (List Sn)) => (fun (i : Nat) (zs : List Sn) => upd (upd (upd (upd (upd (fun _ => none) 1 (some (.val (tI d)))) 6 (some (.own (.sl 6 2 0 zs.length)))) 17 (some (.val (tL 2 true tSn l)))) 18 (some (.val (tI l.length)))) 19 (some (.val (tI i)))) fm.1 fm.2) (fun (fm : (Nat) × (List Sn)) => (fun (i : Nat) (zs : List Sn) => upd (fun _ => none) 6 (some (⟨69, 2, true, rV tSn zs⟩))) fm.1 fm.2) (nm [6]) (fun (fm : (Nat) × (List Sn)) => (fun (i : Nat) (zs : List Sn) => l.length - i) fm.1 fm.2) ((0, [])) (by dsimp only; exact ⟨Nat.zero_le _, rfl, Nat.le_refl _, fun h => absurd h (Nat.lt_irrefl _)⟩) (Sub.int rfl (by first | omega | rfl | (dsimp only; omega)) (Sub.int rfl (by first | omega | rfl | (dsimp only; omega)) (Sub.cons rfl (Sub.cons rfl (Sub.int rfl (by first | omega | rfl | (dsimp only; omega)) Sub.nil))))) ((SubK.consI rfl ImpK.refl) SubK.nil) (SupG.val (SupG.val (SupG.val (SupG.own rfl (SupG.val SupG.nil))))) (SupH.cons rfl (supJ sup_rV) SupH.nil) (lkOk rfl) ?_
   intro fm hI
   obtain ⟨i, zs⟩ := fm
   replace hI : i ≤ l.length ∧ zs = brg d (l.take i) ∧ zs.length ≤ i ∧ (0 < zs.length → 0 ≤ (zs.getD (zs.length - 1) sn0).hi ∧ (zs.getD (zs.length - 1) sn0).hi ≤ 65536) := hI
   show wc _ _ _ _ (upd (upd (upd (upd (upd (fun _ => none) 1 (some (.val (tI d)))) 6 (some (.own (.sl 6 2 0 zs.length)))) 17 (some (.val (tL 2 true tSn l)))) 18 (some (.val (tI l.length)))) 19 (some (.val (tI i)))) (upd (fun _ => none) 6 (some (⟨69, 2, true, rV tSn zs⟩))) _
   obtain ⟨hi, hz, hzl, hlast⟩ := hI
   refine C_seq ?_
   refine C_reg ?_
   refine R2 d_lss rfl rfl ?_
   refine R_nil (by kernel_rfl) ?_
   refine K_then ?_
   refine C_seq ?_
   refine C_if rfl (fun h128 => ?_) (fun h128 => ?_)
   ·
    refine C_skip ?_
    refine K_then ?_
    refine C_seq ?_
    refine C_block ?_
    refine C_seq ?_
    refine C_reg ?_
    have hs := sVal_at hok.1 (i := i) (by omega)
    refine R2 (d_indexP sl54 (i) (by omega) (gD (l := l) (n := i) (d := sn0) (by omega))) rfl rfl ?_
    refine R1 (d_loadP ti69) rfl ?_
    refine RE (d_alloc (k := 8) (n := 2) (agg := true) zr69.1 zr69.2 rfl) trivial trivial ⟨rfl, trivial⟩ ?_
    refine RE (d_store (es := 2) (agg := true) (0) ti69 rfl rfl rfl) ⟨rfl, rfl, trivial⟩ ⟨rfl, trivial⟩ trivial ?_
    refine R_nil (by kernel_rfl) ?_
    refine K_then ?_
    refine C_seq ?_
    refine C_reg ?_
    refine R1 d_move rfl ?_
    refine R1 (d_lenO Tryz.underlying54) rfl ?_
    refine R1 d_assign rfl ?_
    refine R_nil (by kernel_rfl) ?_
    refine K_then ?_
    refine C_seq ?_
    refine C_draw mixed ?_
    refine R1 d_move rfl ?_
    refine R2 d_gtr rfl rfl ?_
    refine R1 d_move rfl ?_
    refine RGcaseD (t := 27) rfl (fun h129 => ?_) (fun h129 => ?_)
    ·
     refine RGon (decide_eq_true h129) rfl (d_fieldO fo69_0 rfl) rfl ⟨rfl, trivial⟩ trivial trivial ?_
     refine RG_loadF (decide_eq_true h129) rfl rfl (0) ti3 rfl rfl rfl (At.g 0 rfl rfl) rfl ?_
     refine RGon (decide_eq_true h129) rfl d_move rfl ⟨rfl, trivial⟩ trivial trivial ?_
     refine RGon (decide_eq_true h129) rfl d_move rfl ⟨rfl, trivial⟩ trivial trivial ?_
     refine RGon (decide_eq_true h129) rfl (d_sub (wr64 (by omega) (by omega))) rfl ⟨rfl, rfl, trivial⟩ trivial trivial ?_
     refine RGon (decide_eq_true h129) rfl (d_indexO sl54 (by omega) (by omega) rfl) rfl ⟨rfl, rfl, trivial⟩ trivial trivial ?_
     refine RGon (decide_eq_true h129) rfl (d_fieldO fo69_1 rfl) rfl ⟨rfl, trivial⟩ trivial trivial ?_
     refine RGon (decide_eq_true h129) rfl (d_loadF (es := 2) (o := 1) (zs.length - 1) ti3 (rV_getD (d := sn0) (by omega)) (At.g 1 rfl rfl) (by omega)) rfl ⟨rfl, trivial⟩ ⟨rfl, trivial⟩ trivial ?_
     refine RGon (decide_eq_true h129) rfl (d_sub (wr64 (by omega) (by omega))) rfl ⟨rfl, rfl, trivial⟩ trivial trivial ?_
     refine RGon (decide_eq_true h129) rfl d_move rfl ⟨rfl, trivial⟩ trivial trivial ?_
     refine RGon (decide_eq_true h129) rfl d_leq rfl ⟨rfl, rfl, trivial⟩ trivial trivial ?_
     refine R2 (d_pickT (decide_eq_true h129)) rfl rfl ?_
     refine R_end (by kernel_rfl) ?_
     refine K_then ?_
     refine C_if rfl (fun h129_2 => ?_) (fun h129_2 => ?_)
     ·
      refine C_reg ?_
      refine R1 d_move rfl ?_
      refine R1 d_move rfl ?_
      refine R2 (d_sub (wr64 (by omega) (by omega))) rfl rfl ?_
      refine R1 (d_fieldO fo69_1 rfl) rfl ?_
      refine R_loadF (0) ti3 rfl rfl rfl (At.g 1 rfl rfl) rfl ?_
      refine R2 (d_indexO sl54 (by omega) (by omega) rfl) rfl rfl ?_
      refine R1 (d_fieldO fo69_1 rfl) rfl ?_
      refine RE (d_storeF (es := 2) (o := 1) (t2 := tSn ⟨(zs.getD (zs.length - 1) sn0).lo, (l.getD i sn0).hi⟩) (zs.length - 1) ti3 (rV_getD (d := sn0) (by omega)) (Up.g 1 rfl rfl rfl) (by omega) (rV_set rfl)) ⟨rfl, rfl, trivial⟩ ⟨rfl, trivial⟩ trivial ?_
      refine R_nil (by kernel_rfl) ?_
      refine K_norB ?_
      refine K_then ?_
      refine C_reg ?_
      refine R2 (d_add (wr64 (by omega) (by omega))) rfl rfl ?_
      refine R1 d_move rfl ?_
      refine R_nil (by kernel_rfl) ?_
      exact K_fam ((i + 1, (zs.set (zs.length - 1) ⟨(zs.getD (zs.length - 1) sn0).lo, (l.getD i sn0).hi⟩))) ⟨(by dsimp only; exact ⟨by omega, by rw [brg_next (by omega), ← hz, brg1, if_pos ⟨by omega, by omega⟩], by rw [List.length_set]; omega, fun _ => by rw [set_last (by omega)]; dsimp only; omega⟩), (by dsimp only; omega)⟩ (Sub.int rfl (by first | omega | rfl | (dsimp only; omega)) (Sub.int rfl (by first | omega | rfl | (dsimp only; omega)) (Sub.cons rfl ((Sub.consI rfl (Imp.of (by dsimp only; rw [List.length_set]))) (Sub.int rfl (by first | omega | rfl | (dsimp only; omega)) Sub.nil))))) ((SubK.consI rfl ImpK.refl) SubK.nil) (SupG.val (SupG.val (SupG.val (SupG.own rfl (SupG.val SupG.nil))))) (SupH.cons rfl (supJ sup_rV) SupH.nil) (lkOk rfl)
     ·
      refine C_reg ?_
      refine R1 d_move rfl ?_
      refine RE (d_load (0) ti69 rfl rfl) ⟨rfl, trivial⟩ ⟨rfl, trivial⟩ trivial ?_
      refine R1 (d_vals (n := 1) (f := tSn) [(l.getD i sn0)] Tryz.underlying54 el69 zf69 rfl (fun _ => inferInstance) rfl rfl rfl) rfl ?_
      refine RE (d_appendO (k := 6) (k' := 50) (f := tSn) (ys := [(l.getD i sn0)]) (ts' := rV tSn (zs ++ [(l.getD i sn0)])) Tryz.underlying54 el69 zf69 rfl rfl (fun _ => inferInstance) rV_len (by simp; omega) (by simp; omega) (by simp [rV]) (n' := zs.length + 1) rfl) ⟨rfl, rfl, trivial⟩ ⟨rfl, trivial⟩ ⟨rfl, trivial⟩ ?_
      refine R1 d_assign rfl ?_
      refine R_nil (by kernel_rfl) ?_
      refine K_norB ?_
      refine K_then ?_
      refine C_reg ?_
      refine R2 (d_add (wr64 (by omega) (by omega))) rfl rfl ?_
      refine R1 d_move rfl ?_
      refine R_nil (by kernel_rfl) ?_
      exact K_famR (l := [6]) (fun j => cond (Nat.beq j 6) 50 (j)) ((i + 1, zs ++ [(l.getD i sn0)])) ⟨(by dsimp only; exact ⟨by omega, by rw [brg_next (by omega), ← hz, brg1, if_neg (by omega)], by rw [List.length_append]; simp; omega, fun _ => by rw [snoc_last]; omega⟩), (by dsimp only; omega)⟩ (SubR.int rfl (by first | omega | rfl | (dsimp only; omega)) (SubR.int rfl (by first | omega | rfl | (dsimp only; omega)) (SubR.cons rfl ((SubR.consI rfl (Imp.of (by dsimp only; rw [List.length_append]; rfl))) (SubR.int rfl (by first | omega | rfl | (dsimp only; omega)) SubR.nil))))) ((SubKR.consI rfl (ImpK.of ren_rV.symm)) SubKR.nil) (SupG.val (SupG.val (SupG.val (SupG.own rfl (SupG.val SupG.nil))))) (SupH.cons rfl (supJ sup_rV) SupH.nil) (lkOk rfl) rfl rfl (fun _ h => by cases h)
    ·
     refine RGoff (decide_eq_false h129) rfl rfl ?_
     refine RGoff (decide_eq_false h129) rfl rfl ?_
     refine RGoff (decide_eq_false h129) rfl rfl ?_
     refine RGoff (decide_eq_false h129) rfl rfl ?_
     refine RGoff (decide_eq_false h129) rfl rfl ?_
     refine RGoff (decide_eq_false h129) rfl rfl ?_
     refine RGoff (decide_eq_false h129) rfl rfl ?_
     refine RGoff (decide_eq_false h129) rfl rfl ?_
     refine RGoff (decide_eq_false h129) rfl rfl ?_
     refine RGoff (decide_eq_false h129) rfl rfl ?_
     refine RGoff (decide_eq_false h129) rfl rfl ?_
     refine R2 (d_pickF (decide_eq_false h129)) rfl rfl ?_
     refine R_end (by kernel_rfl) ?_
     refine K_then ?_
     refine C_bF rfl rfl ?_
     refine C_reg ?_
     refine R1 d_move rfl ?_
     refine RE (d_load (0) ti69 rfl rfl) ⟨rfl, trivial⟩ ⟨rfl, trivial⟩ trivial ?_
     refine R1 (d_vals (n := 1) (f := tSn) [(l.getD i sn0)] Tryz.underlying54 el69 zf69 rfl (fun _ => inferInstance) rfl rfl rfl) rfl ?_
     refine RE (d_appendO (k := 6) (k' := 50) (f := tSn) (ys := [(l.getD i sn0)]) (ts' := rV tSn (zs ++ [(l.getD i sn0)])) Tryz.underlying54 el69 zf69 rfl rfl (fun _ => inferInstance) rV_len (by simp; omega) (by simp; omega) (by simp [rV]) (n' := zs.length + 1) rfl) ⟨rfl, rfl, trivial⟩ ⟨rfl, trivial⟩ ⟨rfl, trivial⟩ ?_
     refine R1 d_assign rfl ?_
     refine R_nil (by kernel_rfl) ?_
     refine K_norB ?_
     refine K_then ?_
     refine C_reg ?_
     refine R2 (d_add (wr64 (by omega) (by omega))) rfl rfl ?_
     refine R1 d_move rfl ?_
     refine R_nil (by kernel_rfl) ?_
     exact K_famR (l := [6]) (fun j => cond (Nat.beq j 6) 50 (j)) ((i + 1, zs ++ [(l.getD i sn0)])) ⟨(by dsimp only; exact ⟨by omega, by rw [brg_next (by omega), ← hz, brg1, if_neg (by omega)], by rw [List.length_append]; simp; omega, fun _ => by rw [snoc_last]; omega⟩), (by dsimp only; omega)⟩ (SubR.int rfl (by first | omega | rfl | (dsimp only; omega)) (SubR.int rfl (by first | omega | rfl | (dsimp only; omega)) (SubR.cons rfl ((SubR.consI rfl (Imp.of (by dsimp only; rw [List.length_append]; rfl))) (SubR.int rfl (by first | omega | rfl | (dsimp only; omega)) SubR.nil))))) ((SubKR.consI rfl (ImpK.of ren_rV.symm)) SubKR.nil) (SupG.val (SupG.val (SupG.val (SupG.own rfl (SupG.val SupG.nil))))) (SupH.cons rfl (supJ sup_rV) SupH.nil) (lkOk rfl) rfl rfl (fun _ h => by cases h)
   ·
    refine C_exit ?_
    refine K_exT ?_
    refine K_exT ?_
    refine K_exB ?_
    refine K_then ?_
    refine C_seq ?_
    refine C_reg ?_
    refine R1 d_move rfl ?_
    refine RE (d_assignS (f := tSn) (xs := zs) (fun _ h => h) (rV_all rfl) rfl) ⟨rfl, trivial⟩ ⟨rfl, trivial⟩ trivial ?_
    refine R1 d_assign rfl ?_
    refine R_nil (by kernel_rfl) ?_
    refine K_then ?_
    refine C_ret ?_
    exact E_ret2 Plain.mk' rfl rfl rfl (Le.of (by rw [if_pos hok, hz, show i = l.length by omega, List.take_length])) (Le.int (by rw [if_pos hok]))
theorem c_paste (zs ps : List Tst) (hz : zs.length ≤ 1000000) (hp : ps.length ≤ 1000000) (hD : ∀ s ∈ ps, s.v.f.n.l.length ≤ 1000000 ∧ s.v.f.d.l.length ≤ 1000000) :
  CtG Tryz.prog 110 [(1, ⟨39, 8, true, rV tTs zs⟩)] [.own (.sl 1 8 0 zs.length), .val (tL 8 true tTs ps)] (.own (.sl 90 8 0 (pst zs ps).length)) [(90, ⟨39, 8, true, rV tTs (pst zs ps)⟩)] [90] := by
 refine CtG.intro [1] Tryz.func110 rfl Tryz.ntmps110 rfl rfl ⟨⟨rfl, sup_rV⟩, trivial⟩ ?_
 intro w F η
 refine C_renS (t := 0) (k := 1) 90 rfl rfl rfl ?_
 refine C_seq ?_
 refine C_reg ?_
 refine R1 d_assign rfl ?_
 refine R_nil (by kernel_rfl) ?_
 refine K_then ?_
 refine C_seq ?_
 refine C_seq ?_
 refine C_reg ?_
 refine R1 d_move rfl ?_
 refine R1 (d_len Tryz.underlying30) rfl ?_
 refine R1 d_move rfl ?_
 refine R_nil (by kernel_rfl) ?_
 refine K_then ?_
 refine C_block ?_
 refine C_loop (fun (fm : (Nat) × (List Tst)) => (fun (i : Nat) (xs : List Tst) => i ≤ ps.length ∧ xs = pst zs (ps.take i)) fm.1 fm.2) (fun (fm : (Nat) × (List Tst)) => (fun (i : Nat) (xs : List Tst) => upd (upd (upd (upd (fun _ => none) 0 (some (.own (.sl 90 8 0 xs.length)))) 8 (some (.val (tL 8 true tTs ps)))) 9 (some (.val (tI ps.length)))) 10 (some (.val (tI i)))) fm.1 fm.2) (fun (fm : (Nat) × (List Tst)) => (fun (i : Nat) (xs : List Tst) => upd (fun _ => none) 90 (some (⟨39, 8, true, rV tTs xs⟩))) fm.1 fm.2) (nm [90, 1]) (fun (fm : (Nat) × (List Tst)) => (fun (i : Nat) (xs : List Tst) => ps.length - i) fm.1 fm.2) ((0, zs)) (by dsimp only; exact ⟨Nat.zero_le _, rfl⟩) (Sub.int rfl (by first | omega | rfl | (dsimp only; omega)) (Sub.int rfl (by first | omega | rfl | (dsimp only; omega)) (Sub.cons rfl (Sub.cons rfl Sub.nil)))) ((SubK.consI rfl ImpK.refl) SubK.nil) (SupG.val (SupG.val (SupG.val (SupG.own rfl SupG.nil)))) (SupH.cons rfl (supJ sup_rV) SupH.nil) (lkOk rfl) ?_
 intro fm hI
 obtain ⟨i, xs⟩ := fm
 replace hI : i ≤ ps.length ∧ xs = pst zs (ps.take i) := hI
 show wc _ _ _ _ (upd (upd (upd (upd (fun _ => none) 0 (some (.own (.sl 90 8 0 xs.length)))) 8 (some (.val (tL 8 true tTs ps)))) 9 (some (.val (tI ps.length)))) 10 (some (.val (tI i)))) (upd (fun _ => none) 90 (some (⟨39, 8, true, rV tTs xs⟩))) _
 obtain ⟨hi, hx⟩ := hI
 have hxl : xs.length ≤ zs.length + i := by
  have h := pst_len (ps.take i) zs
  rw [← hx, List.length_take] at h; omega
 refine C_seq ?_
 refine C_reg ?_
 refine R2 d_lss rfl rfl ?_
 refine R_nil (by kernel_rfl) ?_
 refine K_then ?_
 refine C_seq ?_
 refine C_if rfl (fun h68 => ?_) (fun h68 => ?_)
 ·
  refine C_skip ?_
  refine K_then ?_
  refine C_seq ?_
  refine C_block ?_
  refine C_seq ?_
  refine C_reg ?_
  refine R2 (d_indexP sl30 (i) (by omega) (gD (l := ps) (n := i) (d := tst0) (by omega))) rfl rfl ?_
  refine R1 (d_loadP ti39) rfl ?_
  refine RE (d_alloc (k := 6) (n := 8) (agg := true) zr39.1 zr39.2 rfl) trivial trivial ⟨rfl, trivial⟩ ?_
  refine RE (d_store (es := 8) (agg := true) (0) ti39 rfl rfl rfl) ⟨rfl, rfl, trivial⟩ ⟨rfl, trivial⟩ trivial ?_
  refine R_nil (by kernel_rfl) ?_
  refine K_then ?_
  refine C_seq ?_
  refine C_seq ?_
  refine C_reg ?_
  refine R1 (d_fieldO fo39_0 rfl) rfl ?_
  refine R_loadF (0) ti3 rfl rfl rfl (At.g 0 rfl rfl) rfl ?_
  refine R1 (d_fieldO fo39_1 rfl) rfl ?_
  refine R_loadF (0) ti3 rfl rfl rfl (At.g 1 rfl rfl) rfl ?_
  refine R2 d_geq rfl rfl ?_
  refine R_nil (by kernel_rfl) ?_
  refine K_then ?_
  refine C_if rfl (fun h69 => ?_) (fun h69 => ?_)
  ·
   refine C_exit ?_
   refine K_exT ?_
   refine K_exB ?_
   refine K_then ?_
   refine C_reg ?_
   refine R2 (d_add (wr64 (by omega) (by omega))) rfl rfl ?_
   refine R1 d_move rfl ?_
   refine R_nil (by kernel_rfl) ?_
   exact K_fam ((i + 1, xs)) ⟨(by dsimp only; exact ⟨by omega, by rw [pst_snoc _ (by omega), ← hx, pst1, if_pos (by omega)]⟩), (by dsimp only; omega)⟩ (Sub.int rfl (by first | omega | rfl | (dsimp only; omega)) (Sub.int rfl (by first | omega | rfl | (dsimp only; omega)) (Sub.cons rfl (Sub.cons rfl Sub.nil)))) ((SubK.consI rfl ImpK.refl) SubK.nil) (SupG.val (SupG.val (SupG.val (SupG.own rfl SupG.nil)))) (SupH.cons rfl (supJ sup_rV) SupH.nil) (lkOk rfl)
  ·
   refine C_skip ?_
   refine K_then ?_
   refine C_seq ?_
   refine C_reg ?_
   refine R1 d_move rfl ?_
   refine R1 (d_lenO Tryz.underlying30) rfl ?_
   refine R1 d_assign rfl ?_
   refine R_nil (by kernel_rfl) ?_
   refine K_then ?_
   refine C_seq ?_
   refine C_draw mixed ?_
   refine R1 d_move rfl ?_
   refine R2 d_gtr rfl rfl ?_
   refine R1 d_move rfl ?_
   refine RGcaseD (t := 23) rfl (fun h72 => ?_) (fun h72 => ?_)
   ·
    refine RGon (decide_eq_true h72) rfl d_move rfl ⟨rfl, trivial⟩ trivial trivial ?_
    refine RGon (decide_eq_true h72) rfl d_move rfl ⟨rfl, trivial⟩ trivial trivial ?_
    refine RGon (decide_eq_true h72) rfl (d_sub (wr64 (by omega) (by omega))) rfl ⟨rfl, rfl, trivial⟩ trivial trivial ?_
    refine RGon (decide_eq_true h72) rfl (d_indexO sl30 (by omega) (by omega) rfl) rfl ⟨rfl, rfl, trivial⟩ trivial trivial ?_
    refine RGon (decide_eq_true h72) rfl (d_fieldO fo39_1 rfl) rfl ⟨rfl, trivial⟩ trivial trivial ?_
    refine RGon (decide_eq_true h72) rfl (d_loadF (es := 8) (o := 1) (xs.length - 1) ti3 (rV_getD (d := tst0) (by omega)) (At.g 1 rfl rfl) (by omega)) rfl ⟨rfl, trivial⟩ ⟨rfl, trivial⟩ trivial ?_
    refine RGon (decide_eq_true h72) rfl (d_fieldO fo39_0 rfl) rfl ⟨rfl, trivial⟩ trivial trivial ?_
    refine RG_loadF (decide_eq_true h72) rfl rfl (0) ti3 rfl rfl rfl (At.g 0 rfl rfl) rfl ?_
    refine RGon (decide_eq_true h72) rfl d_eql rfl ⟨rfl, rfl, trivial⟩ trivial trivial ?_
    refine R2 (d_pickT (decide_eq_true h72)) rfl rfl ?_
    refine R1 d_move rfl ?_
    refine RGcaseD (t := 34) rfl (fun h72_2 => ?_) (fun h72_2 => ?_)
    ·
     refine RGon (decide_eq_true h72_2) rfl d_move rfl ⟨rfl, trivial⟩ trivial trivial ?_
     refine RGon (decide_eq_true h72_2) rfl d_move rfl ⟨rfl, trivial⟩ trivial trivial ?_
     refine RGon (decide_eq_true h72_2) rfl (d_sub (wr64 (by omega) (by omega))) rfl ⟨rfl, rfl, trivial⟩ trivial trivial ?_
     refine RGon (decide_eq_true h72_2) rfl (d_indexO sl30 (by omega) (by omega) rfl) rfl ⟨rfl, rfl, trivial⟩ trivial trivial ?_
     refine RGon (decide_eq_true h72_2) rfl (d_fieldO fo39_2 rfl) rfl ⟨rfl, trivial⟩ trivial trivial ?_
     refine RGon (decide_eq_true h72_2) rfl (d_loadF (es := 8) (o := 2) (xs.length - 1) ti37 (rV_getD (d := tst0) (by omega)) (At.g 2 rfl rfl) (by omega)) rfl ⟨rfl, trivial⟩ ⟨rfl, trivial⟩ trivial ?_
     refine RGon (decide_eq_true h72_2) rfl (d_fieldO fo39_2 rfl) rfl ⟨rfl, trivial⟩ trivial trivial ?_
     refine RG_loadF (decide_eq_true h72_2) rfl rfl (0) ti37 rfl rfl rfl (At.g 2 rfl rfl) rfl ?_
     refine RGon (decide_eq_true h72_2) rfl (d_call (c_TSame _ _) fi90 rfl) rfl ⟨rfl, rfl, trivial⟩ trivial trivial ?_
     refine R2 (d_pickT (decide_eq_true h72_2)) rfl rfl ?_
     refine R_end (by kernel_rfl) ?_
     refine K_then ?_
     refine C_if rfl (fun h72_3 => ?_) (fun h72_3 => ?_)
     ·
      refine C_reg ?_
      refine R1 d_move rfl ?_
      refine R1 d_move rfl ?_
      refine R2 (d_sub (wr64 (by omega) (by omega))) rfl rfl ?_
      refine R1 (d_fieldO fo39_1 rfl) rfl ?_
      refine R_loadF (0) ti3 rfl rfl rfl (At.g 1 rfl rfl) rfl ?_
      refine R2 (d_indexO sl30 (by omega) (by omega) rfl) rfl rfl ?_
      refine R1 (d_fieldO fo39_1 rfl) rfl ?_
      refine RE (d_storeF (es := 8) (o := 1) (t2 := tTs ⟨(xs.getD (xs.length - 1) tst0).lo, (ps.getD i tst0).hi, (xs.getD (xs.length - 1) tst0).v⟩) (xs.length - 1) ti3 (rV_getD (d := tst0) (by omega)) (Up.g 1 rfl rfl rfl) (by omega) (rV_set rfl)) ⟨rfl, rfl, trivial⟩ ⟨rfl, trivial⟩ trivial ?_
      refine R_nil (by kernel_rfl) ?_
      refine K_norB ?_
      refine K_then ?_
      refine C_reg ?_
      refine R2 (d_add (wr64 (by omega) (by omega))) rfl rfl ?_
      refine R1 d_move rfl ?_
      refine R_nil (by kernel_rfl) ?_
      exact K_fam ((i + 1, (xs.set (xs.length - 1) ⟨(xs.getD (xs.length - 1) tst0).lo, (ps.getD i tst0).hi, (xs.getD (xs.length - 1) tst0).v⟩))) ⟨(by dsimp only; exact ⟨by omega, by rw [pst_snoc _ (by omega), ← hx, pst1, if_neg (by omega), if_pos ⟨by omega, by omega, h72_3⟩]⟩), (by dsimp only; omega)⟩ (Sub.int rfl (by first | omega | rfl | (dsimp only; omega)) (Sub.int rfl (by first | omega | rfl | (dsimp only; omega)) (Sub.cons rfl ((Sub.consI rfl (Imp.of (by dsimp only; rw [List.length_set]))) Sub.nil)))) ((SubK.consI rfl ImpK.refl) SubK.nil) (SupG.val (SupG.val (SupG.val (SupG.own rfl SupG.nil)))) (SupH.cons rfl (supJ sup_rV) SupH.nil) (lkOk rfl)
     ·
      refine C_draw mixed ?_
      refine R1 d_move rfl ?_
      refine R1 (d_fieldO fo39_0 rfl) rfl ?_
      refine R_loadF (0) ti3 rfl rfl rfl (At.g 0 rfl rfl) rfl ?_
      refine R1 (d_fieldO fo39_1 rfl) rfl ?_
      refine R_loadF (0) ti3 rfl rfl rfl (At.g 1 rfl rfl) rfl ?_
      refine R1 (d_fieldO fo39_2 rfl) rfl ?_
      refine R_loadF (0) ti37 rfl rfl rfl (At.g 2 rfl rfl) rfl ?_
      refine R1 (d_call (c_copied _ (hD _ (mem_getD (l := ps) (by omega))).1 (hD _ (mem_getD (l := ps) (by omega))).2) fi132 rfl) rfl ?_
      refine R3 (d_build (r := tS [⟨1, false, tI (ps.getD i tst0).lo⟩, ⟨1, false, tI (ps.getD i tst0).hi⟩, ⟨6, true, tVa (ps.getD i tst0).v⟩]) (ts := [(0, tI (ps.getD i tst0).lo), (1, tI (ps.getD i tst0).hi), (2, tVa (ps.getD i tst0).v)]) bu39 zr39.2 ⟨_, rfl⟩ rfl ⟨_, _, _, _, rfl, Up.f (fs := [⟨1, false, (tE (.int .i64 0))⟩, ⟨1, false, (tE (.int .i64 0))⟩, ⟨6, true, (tS [⟨1, false, (tE (.int .u8 0))⟩, ⟨4, true, (tS [⟨2, true, (tS [⟨1, false, (tE (.bool false))⟩, ⟨1, false, (tLm [])⟩])⟩, ⟨2, true, (tS [⟨1, false, (tE (.bool false))⟩, ⟨1, false, (tLm [])⟩])⟩])⟩, ⟨1, false, (tE (.int .i64 0))⟩])⟩]) (f := ⟨1, false, (tE (.int .i64 0))⟩) (fs' := [⟨1, false, tI (ps.getD i tst0).lo⟩, ⟨1, false, (tE (.int .i64 0))⟩, ⟨6, true, (tS [⟨1, false, (tE (.int .u8 0))⟩, ⟨4, true, (tS [⟨2, true, (tS [⟨1, false, (tE (.bool false))⟩, ⟨1, false, (tLm [])⟩])⟩, ⟨2, true, (tS [⟨1, false, (tE (.bool false))⟩, ⟨1, false, (tLm [])⟩])⟩])⟩, ⟨1, false, (tE (.int .i64 0))⟩])⟩]) 0 rfl rfl rfl, inferInstance, ⟨_, _, _, _, rfl, Up.f (fs := [⟨1, false, tI (ps.getD i tst0).lo⟩, ⟨1, false, (tE (.int .i64 0))⟩, ⟨6, true, (tS [⟨1, false, (tE (.int .u8 0))⟩, ⟨4, true, (tS [⟨2, true, (tS [⟨1, false, (tE (.bool false))⟩, ⟨1, false, (tLm [])⟩])⟩, ⟨2, true, (tS [⟨1, false, (tE (.bool false))⟩, ⟨1, false, (tLm [])⟩])⟩])⟩, ⟨1, false, (tE (.int .i64 0))⟩])⟩]) (f := ⟨1, false, (tE (.int .i64 0))⟩) (fs' := [⟨1, false, tI (ps.getD i tst0).lo⟩, ⟨1, false, tI (ps.getD i tst0).hi⟩, ⟨6, true, (tS [⟨1, false, (tE (.int .u8 0))⟩, ⟨4, true, (tS [⟨2, true, (tS [⟨1, false, (tE (.bool false))⟩, ⟨1, false, (tLm [])⟩])⟩, ⟨2, true, (tS [⟨1, false, (tE (.bool false))⟩, ⟨1, false, (tLm [])⟩])⟩])⟩, ⟨1, false, (tE (.int .i64 0))⟩])⟩]) 1 rfl rfl rfl, inferInstance, ⟨_, _, _, _, rfl, Up.f (fs := [⟨1, false, tI (ps.getD i tst0).lo⟩, ⟨1, false, tI (ps.getD i tst0).hi⟩, ⟨6, true, (tS [⟨1, false, (tE (.int .u8 0))⟩, ⟨4, true, (tS [⟨2, true, (tS [⟨1, false, (tE (.bool false))⟩, ⟨1, false, (tLm [])⟩])⟩, ⟨2, true, (tS [⟨1, false, (tE (.bool false))⟩, ⟨1, false, (tLm [])⟩])⟩])⟩, ⟨1, false, (tE (.int .i64 0))⟩])⟩]) (f := ⟨6, true, (tS [⟨1, false, (tE (.int .u8 0))⟩, ⟨4, true, (tS [⟨2, true, (tS [⟨1, false, (tE (.bool false))⟩, ⟨1, false, (tLm [])⟩])⟩, ⟨2, true, (tS [⟨1, false, (tE (.bool false))⟩, ⟨1, false, (tLm [])⟩])⟩])⟩, ⟨1, false, (tE (.int .i64 0))⟩])⟩) (fs' := [⟨1, false, tI (ps.getD i tst0).lo⟩, ⟨1, false, tI (ps.getD i tst0).hi⟩, ⟨6, true, tVa (ps.getD i tst0).v⟩]) 2 rfl rfl rfl, inferInstance, Le.refl⟩⟩⟩) rfl rfl rfl ?_
      refine R1 (d_vals (n := 1) (f := tTs) [(ps.getD i tst0)] Tryz.underlying30 el39 zf39 rfl (fun _ => inferInstance) rfl rfl rfl) rfl ?_
      refine RE (d_appendO (k := 90) (k' := 62) (f := tTs) (ys := [(ps.getD i tst0)]) (ts' := rV tTs (xs ++ [(ps.getD i tst0)])) Tryz.underlying30 el39 zf39 rfl rfl (fun _ => inferInstance) rV_len (by simp; omega) (by simp; omega) (by simp [rV]) (n' := xs.length + 1) rfl) ⟨rfl, rfl, trivial⟩ ⟨rfl, trivial⟩ ⟨rfl, trivial⟩ ?_
      refine R1 d_assign rfl ?_
      refine R_end (by kernel_rfl) ?_
      refine K_norB ?_
      refine K_then ?_
      refine C_reg ?_
      refine R2 (d_add (wr64 (by omega) (by omega))) rfl rfl ?_
      refine R1 d_move rfl ?_
      refine R_nil (by kernel_rfl) ?_
      exact K_famR (l := [90, 1]) (fun j => cond (Nat.beq j 90) 62 (j)) ((i + 1, xs ++ [(ps.getD i tst0)])) ⟨(by dsimp only; exact ⟨by omega, by rw [pst_snoc _ (by omega), ← hx, pst1, if_neg (by omega), if_neg fun h => h72_3 h.2.2]⟩), (by dsimp only; omega)⟩ (SubR.int rfl (by first | omega | rfl | (dsimp only; omega)) (SubR.int rfl (by first | omega | rfl | (dsimp only; omega)) (SubR.cons rfl ((SubR.consI rfl (Imp.of (by dsimp only; rw [List.length_append]; rfl))) SubR.nil)))) ((SubKR.consI rfl (ImpK.of ren_rV.symm)) SubKR.nil) (SupG.val (SupG.val (SupG.val (SupG.own rfl SupG.nil)))) (SupH.cons rfl (supJ sup_rV) SupH.nil) (lkOk rfl) rfl rfl (fun _ h => by cases h)
    ·
     refine RGoff (decide_eq_false h72_2) rfl rfl ?_
     refine RGoff (decide_eq_false h72_2) rfl rfl ?_
     refine RGoff (decide_eq_false h72_2) rfl rfl ?_
     refine RGoff (decide_eq_false h72_2) rfl rfl ?_
     refine RGoff (decide_eq_false h72_2) rfl rfl ?_
     refine RGoff (decide_eq_false h72_2) rfl rfl ?_
     refine RGoff (decide_eq_false h72_2) rfl rfl ?_
     refine RGoff (decide_eq_false h72_2) rfl rfl ?_
     refine RGoff (decide_eq_false h72_2) rfl rfl ?_
     refine R2 (d_pickF (decide_eq_false h72_2)) rfl rfl ?_
     refine R_end (by kernel_rfl) ?_
     refine K_then ?_
     refine C_bF rfl rfl ?_
     refine C_draw mixed ?_
     refine R1 d_move rfl ?_
     refine R1 (d_fieldO fo39_0 rfl) rfl ?_
     refine R_loadF (0) ti3 rfl rfl rfl (At.g 0 rfl rfl) rfl ?_
     refine R1 (d_fieldO fo39_1 rfl) rfl ?_
     refine R_loadF (0) ti3 rfl rfl rfl (At.g 1 rfl rfl) rfl ?_
     refine R1 (d_fieldO fo39_2 rfl) rfl ?_
     refine R_loadF (0) ti37 rfl rfl rfl (At.g 2 rfl rfl) rfl ?_
     refine R1 (d_call (c_copied _ (hD _ (mem_getD (l := ps) (by omega))).1 (hD _ (mem_getD (l := ps) (by omega))).2) fi132 rfl) rfl ?_
     refine R3 (d_build (r := tS [⟨1, false, tI (ps.getD i tst0).lo⟩, ⟨1, false, tI (ps.getD i tst0).hi⟩, ⟨6, true, tVa (ps.getD i tst0).v⟩]) (ts := [(0, tI (ps.getD i tst0).lo), (1, tI (ps.getD i tst0).hi), (2, tVa (ps.getD i tst0).v)]) bu39 zr39.2 ⟨_, rfl⟩ rfl ⟨_, _, _, _, rfl, Up.f (fs := [⟨1, false, (tE (.int .i64 0))⟩, ⟨1, false, (tE (.int .i64 0))⟩, ⟨6, true, (tS [⟨1, false, (tE (.int .u8 0))⟩, ⟨4, true, (tS [⟨2, true, (tS [⟨1, false, (tE (.bool false))⟩, ⟨1, false, (tLm [])⟩])⟩, ⟨2, true, (tS [⟨1, false, (tE (.bool false))⟩, ⟨1, false, (tLm [])⟩])⟩])⟩, ⟨1, false, (tE (.int .i64 0))⟩])⟩]) (f := ⟨1, false, (tE (.int .i64 0))⟩) (fs' := [⟨1, false, tI (ps.getD i tst0).lo⟩, ⟨1, false, (tE (.int .i64 0))⟩, ⟨6, true, (tS [⟨1, false, (tE (.int .u8 0))⟩, ⟨4, true, (tS [⟨2, true, (tS [⟨1, false, (tE (.bool false))⟩, ⟨1, false, (tLm [])⟩])⟩, ⟨2, true, (tS [⟨1, false, (tE (.bool false))⟩, ⟨1, false, (tLm [])⟩])⟩])⟩, ⟨1, false, (tE (.int .i64 0))⟩])⟩]) 0 rfl rfl rfl, inferInstance, ⟨_, _, _, _, rfl, Up.f (fs := [⟨1, false, tI (ps.getD i tst0).lo⟩, ⟨1, false, (tE (.int .i64 0))⟩, ⟨6, true, (tS [⟨1, false, (tE (.int .u8 0))⟩, ⟨4, true, (tS [⟨2, true, (tS [⟨1, false, (tE (.bool false))⟩, ⟨1, false, (tLm [])⟩])⟩, ⟨2, true, (tS [⟨1, false, (tE (.bool false))⟩, ⟨1, false, (tLm [])⟩])⟩])⟩, ⟨1, false, (tE (.int .i64 0))⟩])⟩]) (f := ⟨1, false, (tE (.int .i64 0))⟩) (fs' := [⟨1, false, tI (ps.getD i tst0).lo⟩, ⟨1, false, tI (ps.getD i tst0).hi⟩, ⟨6, true, (tS [⟨1, false, (tE (.int .u8 0))⟩, ⟨4, true, (tS [⟨2, true, (tS [⟨1, false, (tE (.bool false))⟩, ⟨1, false, (tLm [])⟩])⟩, ⟨2, true, (tS [⟨1, false, (tE (.bool false))⟩, ⟨1, false, (tLm [])⟩])⟩])⟩, ⟨1, false, (tE (.int .i64 0))⟩])⟩]) 1 rfl rfl rfl, inferInstance, ⟨_, _, _, _, rfl, Up.f (fs := [⟨1, false, tI (ps.getD i tst0).lo⟩, ⟨1, false, tI (ps.getD i tst0).hi⟩, ⟨6, true, (tS [⟨1, false, (tE (.int .u8 0))⟩, ⟨4, true, (tS [⟨2, true, (tS [⟨1, false, (tE (.bool false))⟩, ⟨1, false, (tLm [])⟩])⟩, ⟨2, true, (tS [⟨1, false, (tE (.bool false))⟩, ⟨1, false, (tLm [])⟩])⟩])⟩, ⟨1, false, (tE (.int .i64 0))⟩])⟩]) (f := ⟨6, true, (tS [⟨1, false, (tE (.int .u8 0))⟩, ⟨4, true, (tS [⟨2, true, (tS [⟨1, false, (tE (.bool false))⟩, ⟨1, false, (tLm [])⟩])⟩, ⟨2, true, (tS [⟨1, false, (tE (.bool false))⟩, ⟨1, false, (tLm [])⟩])⟩])⟩, ⟨1, false, (tE (.int .i64 0))⟩])⟩) (fs' := [⟨1, false, tI (ps.getD i tst0).lo⟩, ⟨1, false, tI (ps.getD i tst0).hi⟩, ⟨6, true, tVa (ps.getD i tst0).v⟩]) 2 rfl rfl rfl, inferInstance, Le.refl⟩⟩⟩) rfl rfl rfl ?_
     refine R1 (d_vals (n := 1) (f := tTs) [(ps.getD i tst0)] Tryz.underlying30 el39 zf39 rfl (fun _ => inferInstance) rfl rfl rfl) rfl ?_
     refine RE (d_appendO (k := 90) (k' := 62) (f := tTs) (ys := [(ps.getD i tst0)]) (ts' := rV tTs (xs ++ [(ps.getD i tst0)])) Tryz.underlying30 el39 zf39 rfl rfl (fun _ => inferInstance) rV_len (by simp; omega) (by simp; omega) (by simp [rV]) (n' := xs.length + 1) rfl) ⟨rfl, rfl, trivial⟩ ⟨rfl, trivial⟩ ⟨rfl, trivial⟩ ?_
     refine R1 d_assign rfl ?_
     refine R_end (by kernel_rfl) ?_
     refine K_norB ?_
     refine K_then ?_
     refine C_reg ?_
     refine R2 (d_add (wr64 (by omega) (by omega))) rfl rfl ?_
     refine R1 d_move rfl ?_
     refine R_nil (by kernel_rfl) ?_
     exact K_famR (l := [90, 1]) (fun j => cond (Nat.beq j 90) 62 (j)) ((i + 1, xs ++ [(ps.getD i tst0)])) ⟨(by dsimp only; exact ⟨by omega, by rw [pst_snoc _ (by omega), ← hx, pst1, if_neg (by omega), if_neg (by omega)]⟩), (by dsimp only; omega)⟩ (SubR.int rfl (by first | omega | rfl | (dsimp only; omega)) (SubR.int rfl (by first | omega | rfl | (dsimp only; omega)) (SubR.cons rfl ((SubR.consI rfl (Imp.of (by dsimp only; rw [List.length_append]; rfl))) SubR.nil)))) ((SubKR.consI rfl (ImpK.of ren_rV.symm)) SubKR.nil) (SupG.val (SupG.val (SupG.val (SupG.own rfl SupG.nil)))) (SupH.cons rfl (supJ sup_rV) SupH.nil) (lkOk rfl) rfl rfl (fun _ h => by cases h)
   ·
    refine RGoff (decide_eq_false h72) rfl rfl ?_
    refine RGoff (decide_eq_false h72) rfl rfl ?_
    refine RGoff (decide_eq_false h72) rfl rfl ?_
    refine RGoff (decide_eq_false h72) rfl rfl ?_
    refine RGoff (decide_eq_false h72) rfl rfl ?_
    refine RGoff (decide_eq_false h72) rfl rfl ?_
    refine RGoff (decide_eq_false h72) rfl rfl ?_
    refine RGoff (decide_eq_false h72) rfl rfl ?_
    refine RGoff (decide_eq_false h72) rfl rfl ?_
    refine R2 (d_pickF (decide_eq_false h72)) rfl rfl ?_
    refine R1 d_move rfl ?_
    refine RGoff0 rfl rfl ?_
    refine RGoff0 rfl rfl ?_
    refine RGoff0 rfl rfl ?_
    refine RGoff0 rfl rfl ?_
    refine RGoff0 rfl rfl ?_
    refine RGoff0 rfl rfl ?_
    refine RGoff0 rfl rfl ?_
    refine RGoff0 rfl rfl ?_
    refine RGoff0 rfl rfl ?_
    refine R2 (d_pickF rfl) rfl rfl ?_
    refine R_end (by kernel_rfl) ?_
    refine K_then ?_
    refine C_bF rfl rfl ?_
    refine C_draw mixed ?_
    refine R1 d_move rfl ?_
    refine R1 (d_fieldO fo39_0 rfl) rfl ?_
    refine R_loadF (0) ti3 rfl rfl rfl (At.g 0 rfl rfl) rfl ?_
    refine R1 (d_fieldO fo39_1 rfl) rfl ?_
    refine R_loadF (0) ti3 rfl rfl rfl (At.g 1 rfl rfl) rfl ?_
    refine R1 (d_fieldO fo39_2 rfl) rfl ?_
    refine R_loadF (0) ti37 rfl rfl rfl (At.g 2 rfl rfl) rfl ?_
    refine R1 (d_call (c_copied _ (hD _ (mem_getD (l := ps) (by omega))).1 (hD _ (mem_getD (l := ps) (by omega))).2) fi132 rfl) rfl ?_
    refine R3 (d_build (r := tS [⟨1, false, tI (ps.getD i tst0).lo⟩, ⟨1, false, tI (ps.getD i tst0).hi⟩, ⟨6, true, tVa (ps.getD i tst0).v⟩]) (ts := [(0, tI (ps.getD i tst0).lo), (1, tI (ps.getD i tst0).hi), (2, tVa (ps.getD i tst0).v)]) bu39 zr39.2 ⟨_, rfl⟩ rfl ⟨_, _, _, _, rfl, Up.f (fs := [⟨1, false, (tE (.int .i64 0))⟩, ⟨1, false, (tE (.int .i64 0))⟩, ⟨6, true, (tS [⟨1, false, (tE (.int .u8 0))⟩, ⟨4, true, (tS [⟨2, true, (tS [⟨1, false, (tE (.bool false))⟩, ⟨1, false, (tLm [])⟩])⟩, ⟨2, true, (tS [⟨1, false, (tE (.bool false))⟩, ⟨1, false, (tLm [])⟩])⟩])⟩, ⟨1, false, (tE (.int .i64 0))⟩])⟩]) (f := ⟨1, false, (tE (.int .i64 0))⟩) (fs' := [⟨1, false, tI (ps.getD i tst0).lo⟩, ⟨1, false, (tE (.int .i64 0))⟩, ⟨6, true, (tS [⟨1, false, (tE (.int .u8 0))⟩, ⟨4, true, (tS [⟨2, true, (tS [⟨1, false, (tE (.bool false))⟩, ⟨1, false, (tLm [])⟩])⟩, ⟨2, true, (tS [⟨1, false, (tE (.bool false))⟩, ⟨1, false, (tLm [])⟩])⟩])⟩, ⟨1, false, (tE (.int .i64 0))⟩])⟩]) 0 rfl rfl rfl, inferInstance, ⟨_, _, _, _, rfl, Up.f (fs := [⟨1, false, tI (ps.getD i tst0).lo⟩, ⟨1, false, (tE (.int .i64 0))⟩, ⟨6, true, (tS [⟨1, false, (tE (.int .u8 0))⟩, ⟨4, true, (tS [⟨2, true, (tS [⟨1, false, (tE (.bool false))⟩, ⟨1, false, (tLm [])⟩])⟩, ⟨2, true, (tS [⟨1, false, (tE (.bool false))⟩, ⟨1, false, (tLm [])⟩])⟩])⟩, ⟨1, false, (tE (.int .i64 0))⟩])⟩]) (f := ⟨1, false, (tE (.int .i64 0))⟩) (fs' := [⟨1, false, tI (ps.getD i tst0).lo⟩, ⟨1, false, tI (ps.getD i tst0).hi⟩, ⟨6, true, (tS [⟨1, false, (tE (.int .u8 0))⟩, ⟨4, true, (tS [⟨2, true, (tS [⟨1, false, (tE (.bool false))⟩, ⟨1, false, (tLm [])⟩])⟩, ⟨2, true, (tS [⟨1, false, (tE (.bool false))⟩, ⟨1, false, (tLm [])⟩])⟩])⟩, ⟨1, false, (tE (.int .i64 0))⟩])⟩]) 1 rfl rfl rfl, inferInstance, ⟨_, _, _, _, rfl, Up.f (fs := [⟨1, false, tI (ps.getD i tst0).lo⟩, ⟨1, false, tI (ps.getD i tst0).hi⟩, ⟨6, true, (tS [⟨1, false, (tE (.int .u8 0))⟩, ⟨4, true, (tS [⟨2, true, (tS [⟨1, false, (tE (.bool false))⟩, ⟨1, false, (tLm [])⟩])⟩, ⟨2, true, (tS [⟨1, false, (tE (.bool false))⟩, ⟨1, false, (tLm [])⟩])⟩])⟩, ⟨1, false, (tE (.int .i64 0))⟩])⟩]) (f := ⟨6, true, (tS [⟨1, false, (tE (.int .u8 0))⟩, ⟨4, true, (tS [⟨2, true, (tS [⟨1, false, (tE (.bool false))⟩, ⟨1, false, (tLm [])⟩])⟩, ⟨2, true, (tS [⟨1, false, (tE (.bool false))⟩, ⟨1, false, (tLm [])⟩])⟩])⟩, ⟨1, false, (tE (.int .i64 0))⟩])⟩) (fs' := [⟨1, false, tI (ps.getD i tst0).lo⟩, ⟨1, false, tI (ps.getD i tst0).hi⟩, ⟨6, true, tVa (ps.getD i tst0).v⟩]) 2 rfl rfl rfl, inferInstance, Le.refl⟩⟩⟩) rfl rfl rfl ?_
    refine R1 (d_vals (n := 1) (f := tTs) [(ps.getD i tst0)] Tryz.underlying30 el39 zf39 rfl (fun _ => inferInstance) rfl rfl rfl) rfl ?_
    refine RE (d_appendO (k := 90) (k' := 62) (f := tTs) (ys := [(ps.getD i tst0)]) (ts' := rV tTs (xs ++ [(ps.getD i tst0)])) Tryz.underlying30 el39 zf39 rfl rfl (fun _ => inferInstance) rV_len (by simp; omega) (by simp; omega) (by simp [rV]) (n' := xs.length + 1) rfl) ⟨rfl, rfl, trivial⟩ ⟨rfl, trivial⟩ ⟨rfl, trivial⟩ ?_
    refine R1 d_assign rfl ?_
    refine R_end (by kernel_rfl) ?_
    refine K_norB ?_
    refine K_then ?_
    refine C_reg ?_
    refine R2 (d_add (wr64 (by omega) (by omega))) rfl rfl ?_
    refine R1 d_move rfl ?_
    refine R_nil (by kernel_rfl) ?_
    exact K_famR (l := [90, 1]) (fun j => cond (Nat.beq j 90) 62 (j)) ((i + 1, xs ++ [(ps.getD i tst0)])) ⟨(by dsimp only; exact ⟨by omega, by rw [pst_snoc _ (by omega), ← hx, pst1, if_neg (by omega), if_neg (by omega)]⟩), (by dsimp only; omega)⟩ (SubR.int rfl (by first | omega | rfl | (dsimp only; omega)) (SubR.int rfl (by first | omega | rfl | (dsimp only; omega)) (SubR.cons rfl ((SubR.consI rfl (Imp.of (by dsimp only; rw [List.length_append]; rfl))) SubR.nil)))) ((SubKR.consI rfl (ImpK.of ren_rV.symm)) SubKR.nil) (SupG.val (SupG.val (SupG.val (SupG.own rfl SupG.nil)))) (SupH.cons rfl (supJ sup_rV) SupH.nil) (lkOk rfl) rfl rfl (fun _ h => by cases h)
 ·
  refine C_exit ?_
  refine K_exT ?_
  refine K_exT ?_
  refine K_exB ?_
  refine K_then ?_
  refine C_seq ?_
  have hil : i = ps.length := by omega
  subst hil
  rw [List.take_length] at hx
  subst hx
  refine C_reg ?_
  refine R1 d_move rfl ?_
  refine R1 d_assign rfl ?_
  refine R_nil (by kernel_rfl) ?_
  refine K_then ?_
  refine C_ret ?_
  exact E_retG1 LentC.mk' rfl rfl Imp.refl ⟨rfl, trivial⟩ rfl ⟨⟨rfl, sup_rV⟩, trivial⟩ rfl
theorem getD_map {f : Tst → Tst} {l : List Tst} {i : Nat} (hi : i < l.length) : (l.map f).getD i tst0 = f (l.getD i tst0) := by
  rw [List.getD_eq_getElem?_getD, List.getD_eq_getElem?_getD, List.getElem?_map, List.getElem?_eq_getElem hi]; rfl
theorem cut_next {a b : Int} {l : List Tst} {i : Nat} (hi : i < l.length) : pst [] ((l.map (clip a b)).take (i + 1)) = pst (pst [] ((l.map (clip a b)).take i)) [clip a b (l.getD i tst0)] := by
  rw [pst_snoc _ (by simpa using hi), getD_map hi]; rfl
theorem c_Cut (l : List Tst) (a b : Int) (hl : l.length ≤ 500000) (hD : ∀ s ∈ l, s.v.f.dig) :
  Ct Tryz.prog 75 [tL 8 true tTs l, tI a, tI b] (tT [tL 8 true tTs (if tRight l = true ∧ Sn.ok ⟨a, b⟩ = true then cutT l a b else []), tI (if tRight l = true ∧ Sn.ok ⟨a, b⟩ = true then 0 else 2)]) := by
 refine Ct.intro Tryz.func75 rfl Tryz.ntmps75 rfl ?_
 intro w F
 refine C_seq ?_
 refine C_reg ?_
 refine R1 d_assign rfl ?_
 refine R1 d_assign rfl ?_
 refine R_nil (by kernel_rfl) ?_
 refine K_then ?_
 refine C_seq ?_
 refine C_seq ?_
 refine C_reg ?_
 refine R1 d_move rfl ?_
 refine R1 (d_call (c_TRight l hD) fi58 rfl) rfl ?_
 refine R1 d_not rfl ?_
 refine R1 d_move rfl ?_
 refine RGcase (t := 14) rfl (fun h95 => ?_) (fun h95 => ?_)
 ·
  refine RGoff h95 rfl rfl ?_
  refine RGoff h95 rfl rfl ?_
  refine RGoff h95 rfl rfl ?_
  refine RGoff h95 rfl rfl ?_
  refine R2 (d_pickT h95) rfl rfl ?_
  refine R_nil (by kernel_rfl) ?_
  refine K_then ?_
  refine C_bT rfl rfl ?_
  refine C_seq ?_
  refine C_reg ?_
  refine R1 d_assign rfl ?_
  refine R1 d_assign rfl ?_
  refine R_nil (by kernel_rfl) ?_
  refine K_then ?_
  refine C_ret ?_
  refine K_retT ?_
  exact E_ret2 Plain.mk' rfl rfl rfl (leNil (by rw [if_neg fun h => by rw [h.1] at h95; cases h95])) (Le.int (by rw [if_neg fun h => by rw [h.1] at h95; cases h95]))
 ·
  refine RGon h95 rfl d_move rfl ⟨rfl, trivial⟩ trivial trivial ?_
  refine RGon h95 rfl d_move rfl ⟨rfl, trivial⟩ trivial trivial ?_
  refine RGon h95 rfl (d_call (c_isPart _ _) fi109 rfl) rfl ⟨rfl, rfl, trivial⟩ trivial trivial ?_
  refine RGon h95 rfl d_not rfl ⟨rfl, trivial⟩ trivial trivial ?_
  refine R2 (d_pickF h95) rfl rfl ?_
  refine R_nil (by kernel_rfl) ?_
  refine K_then ?_
  refine C_cond rfl (fun h95_2 => ?_) (fun h95_2 => ?_)
  ·
   refine C_seq ?_
   refine C_reg ?_
   refine R1 d_assign rfl ?_
   refine R1 d_assign rfl ?_
   refine R_nil (by kernel_rfl) ?_
   refine K_then ?_
   refine C_ret ?_
   refine K_retT ?_
   exact E_ret2 Plain.mk' rfl rfl rfl (leNil (by rw [if_neg fun h => by rw [h.2] at h95_2; cases h95_2])) (Le.int (by rw [if_neg fun h => by rw [h.2] at h95_2; cases h95_2]))
  ·
   refine C_skip ?_
   refine K_then ?_
   refine C_seq ?_
   refine C_reg ?_
   refine RE (d_assignN (k := 8) 39 8 true rfl (fun h => by cases h)) trivial trivial ⟨rfl, trivial⟩ ?_
   refine R_nil (by kernel_rfl) ?_
   refine K_then ?_
   refine C_seq ?_
   refine C_seq ?_
   refine C_reg ?_
   refine R1 d_move rfl ?_
   refine R1 (d_len Tryz.underlying30) rfl ?_
   refine R1 d_move rfl ?_
   refine R_nil (by kernel_rfl) ?_
   refine K_then ?_
   refine C_block ?_
   have hok : tRight l = true ∧ Sn.ok ⟨a, b⟩ = true := ⟨by simpa using h95, by simpa using h95_2⟩
   have hlen := fun s hs => va_len (tRight_valid hok.1 s hs)
   refine C_loop (fun (fm : (Nat) × (List Tst)) => (fun (i : Nat) (zs : List Tst) => i ≤ l.length ∧ zs = pst [] ((l.map (clip a b)).take i)) fm.1 fm.2) (fun (fm : (Nat) × (List Tst)) => (fun (i : Nat) (zs : List Tst) => upd (upd (upd (upd (upd (upd (fun _ => none) 1 (some (.val (tI a)))) 2 (some (.val (tI b)))) 8 (some (.own (.sl 8 8 0 zs.length)))) 20 (some (.val (tL 8 true tTs l)))) 21 (some (.val (tI l.length)))) 22 (some (.val (tI i)))) fm.1 fm.2) (fun (fm : (Nat) × (List Tst)) => (fun (i : Nat) (zs : List Tst) => upd (fun _ => none) 8 (some (⟨39, 8, true, rV tTs zs⟩))) fm.1 fm.2) (nm [8]) (fun (fm : (Nat) × (List Tst)) => (fun (i : Nat) (zs : List Tst) => l.length - i) fm.1 fm.2) ((0, [])) (by dsimp only; exact ⟨Nat.zero_le _, rfl⟩) (Sub.int rfl (by first | omega | rfl | (dsimp only; omega)) (Sub.int rfl (by first | omega | rfl | (dsimp only; omega)) (Sub.cons rfl (Sub.cons rfl (Sub.int rfl (by first | omega | rfl | (dsimp only; omega)) (Sub.int rfl (by first | omega | rfl | (dsimp only; omega)) Sub.nil)))))) ((SubK.consI rfl ImpK.refl) SubK.nil) (SupG.val (SupG.val (SupG.val (SupG.own rfl (SupG.val (SupG.val SupG.nil)))))) (SupH.cons rfl (supJ sup_rV) SupH.nil) (lkOk rfl) ?_
   intro fm hI
   obtain ⟨i, zs⟩ := fm
   replace hI : i ≤ l.length ∧ zs = pst [] ((l.map (clip a b)).take i) := hI
   show wc _ _ _ _ (upd (upd (upd (upd (upd (upd (fun _ => none) 1 (some (.val (tI a)))) 2 (some (.val (tI b)))) 8 (some (.own (.sl 8 8 0 zs.length)))) 20 (some (.val (tL 8 true tTs l)))) 21 (some (.val (tI l.length)))) 22 (some (.val (tI i)))) (upd (fun _ => none) 8 (some (⟨39, 8, true, rV tTs zs⟩))) _
   obtain ⟨hi, hz⟩ := hI
   have hzl : zs.length ≤ i := by
    have h := pst_len ((l.map (clip a b)).take i) []
    rw [← hz, List.length_take] at h; simp at h; omega
   refine C_seq ?_
   refine C_reg ?_
   refine R2 d_lss rfl rfl ?_
   refine R_nil (by kernel_rfl) ?_
   refine K_then ?_
   refine C_seq ?_
   refine C_if rfl (fun h99 => ?_) (fun h99 => ?_)
   ·
    refine C_skip ?_
    refine K_then ?_
    refine C_seq ?_
    refine C_block ?_
    refine C_seq ?_
    refine C_reg ?_
    refine R2 (d_indexP sl30 (i) (by omega) (gD (l := l) (n := i) (d := tst0) (by omega))) rfl rfl ?_
    refine R1 (d_loadP ti39) rfl ?_
    refine RE (d_alloc (k := 10) (n := 8) (agg := true) zr39.1 zr39.2 rfl) trivial trivial ⟨rfl, trivial⟩ ?_
    refine RE (d_store (es := 8) (agg := true) (0) ti39 rfl rfl rfl) ⟨rfl, rfl, trivial⟩ ⟨rfl, trivial⟩ trivial ?_
    refine R_nil (by kernel_rfl) ?_
    refine K_then ?_
    refine C_reg ?_
    refine R1 d_move rfl ?_
    refine R1 (d_fieldO fo39_0 rfl) rfl ?_
    refine R_loadF (0) ti3 rfl rfl rfl (At.g 0 rfl rfl) rfl ?_
    refine R1 d_move rfl ?_
    refine R2 d_max2 rfl rfl ?_
    refine R1 (d_fieldO fo39_1 rfl) rfl ?_
    refine R_loadF (0) ti3 rfl rfl rfl (At.g 1 rfl rfl) rfl ?_
    refine R1 d_move rfl ?_
    refine R2 d_min2 rfl rfl ?_
    refine R1 (d_fieldO fo39_2 rfl) rfl ?_
    refine R_loadF (0) ti37 rfl rfl rfl (At.g 2 rfl rfl) rfl ?_
    refine R3 (d_build (r := tS [⟨1, false, tI (max (l.getD i tst0).lo a)⟩, ⟨1, false, tI (min (l.getD i tst0).hi b)⟩, ⟨6, true, tVa (l.getD i tst0).v⟩]) (ts := [(0, tI (max (l.getD i tst0).lo a)), (1, tI (min (l.getD i tst0).hi b)), (2, tVa (l.getD i tst0).v)]) bu39 zr39.2 ⟨_, rfl⟩ rfl ⟨_, _, _, _, rfl, Up.f (fs := [⟨1, false, (tE (.int .i64 0))⟩, ⟨1, false, (tE (.int .i64 0))⟩, ⟨6, true, (tS [⟨1, false, (tE (.int .u8 0))⟩, ⟨4, true, (tS [⟨2, true, (tS [⟨1, false, (tE (.bool false))⟩, ⟨1, false, (tLm [])⟩])⟩, ⟨2, true, (tS [⟨1, false, (tE (.bool false))⟩, ⟨1, false, (tLm [])⟩])⟩])⟩, ⟨1, false, (tE (.int .i64 0))⟩])⟩]) (f := ⟨1, false, (tE (.int .i64 0))⟩) (fs' := [⟨1, false, tI (max (l.getD i tst0).lo a)⟩, ⟨1, false, (tE (.int .i64 0))⟩, ⟨6, true, (tS [⟨1, false, (tE (.int .u8 0))⟩, ⟨4, true, (tS [⟨2, true, (tS [⟨1, false, (tE (.bool false))⟩, ⟨1, false, (tLm [])⟩])⟩, ⟨2, true, (tS [⟨1, false, (tE (.bool false))⟩, ⟨1, false, (tLm [])⟩])⟩])⟩, ⟨1, false, (tE (.int .i64 0))⟩])⟩]) 0 rfl rfl rfl, inferInstance, ⟨_, _, _, _, rfl, Up.f (fs := [⟨1, false, tI (max (l.getD i tst0).lo a)⟩, ⟨1, false, (tE (.int .i64 0))⟩, ⟨6, true, (tS [⟨1, false, (tE (.int .u8 0))⟩, ⟨4, true, (tS [⟨2, true, (tS [⟨1, false, (tE (.bool false))⟩, ⟨1, false, (tLm [])⟩])⟩, ⟨2, true, (tS [⟨1, false, (tE (.bool false))⟩, ⟨1, false, (tLm [])⟩])⟩])⟩, ⟨1, false, (tE (.int .i64 0))⟩])⟩]) (f := ⟨1, false, (tE (.int .i64 0))⟩) (fs' := [⟨1, false, tI (max (l.getD i tst0).lo a)⟩, ⟨1, false, tI (min (l.getD i tst0).hi b)⟩, ⟨6, true, (tS [⟨1, false, (tE (.int .u8 0))⟩, ⟨4, true, (tS [⟨2, true, (tS [⟨1, false, (tE (.bool false))⟩, ⟨1, false, (tLm [])⟩])⟩, ⟨2, true, (tS [⟨1, false, (tE (.bool false))⟩, ⟨1, false, (tLm [])⟩])⟩])⟩, ⟨1, false, (tE (.int .i64 0))⟩])⟩]) 1 rfl rfl rfl, inferInstance, ⟨_, _, _, _, rfl, Up.f (fs := [⟨1, false, tI (max (l.getD i tst0).lo a)⟩, ⟨1, false, tI (min (l.getD i tst0).hi b)⟩, ⟨6, true, (tS [⟨1, false, (tE (.int .u8 0))⟩, ⟨4, true, (tS [⟨2, true, (tS [⟨1, false, (tE (.bool false))⟩, ⟨1, false, (tLm [])⟩])⟩, ⟨2, true, (tS [⟨1, false, (tE (.bool false))⟩, ⟨1, false, (tLm [])⟩])⟩])⟩, ⟨1, false, (tE (.int .i64 0))⟩])⟩]) (f := ⟨6, true, (tS [⟨1, false, (tE (.int .u8 0))⟩, ⟨4, true, (tS [⟨2, true, (tS [⟨1, false, (tE (.bool false))⟩, ⟨1, false, (tLm [])⟩])⟩, ⟨2, true, (tS [⟨1, false, (tE (.bool false))⟩, ⟨1, false, (tLm [])⟩])⟩])⟩, ⟨1, false, (tE (.int .i64 0))⟩])⟩) (fs' := [⟨1, false, tI (max (l.getD i tst0).lo a)⟩, ⟨1, false, tI (min (l.getD i tst0).hi b)⟩, ⟨6, true, tVa (l.getD i tst0).v⟩]) 2 rfl rfl rfl, inferInstance, Le.refl⟩⟩⟩) rfl rfl rfl ?_
    refine R1 (d_vals (n := 1) (f := tTs) [(clip a b (l.getD i tst0))] Tryz.underlying30 el39 zf39 rfl (fun _ => inferInstance) rfl rfl rfl) rfl ?_
    have hcl : ∀ s ∈ [(clip a b (l.getD i tst0))], s.v.f.n.l.length ≤ 1000000 ∧ s.v.f.d.l.length ≤ 1000000 := by
     intro s hs
     rw [List.mem_singleton.1 hs]
     have h := hlen _ (mem_getD (l := l) (i := i) (by omega))
     exact ⟨by show (l.getD i tst0).v.f.n.l.length ≤ _; omega, by show (l.getD i tst0).v.f.d.l.length ≤ _; omega⟩
    refine RE (d_callGX (fun j => cond (Nat.beq j 1) 8 (39)) (c_paste zs [(clip a b (l.getD i tst0))] (by omega) (by simp) hcl) fi110 rfl (krC (ρ := fun j => cond (Nat.beq j 1) 8 (39)) (k := 1) ren_rV (krN (ρ := fun j => cond (Nat.beq j 1) 8 (39)))) (krC (ρ := fun j => cond (Nat.beq j 1) 8 (39)) (k := 90) ren_rV (krN (ρ := fun j => cond (Nat.beq j 1) 8 (39)))) ⟨⟨rfl, sup_rV⟩, trivial⟩ rfl) ⟨rfl, rfl, trivial⟩ ⟨rfl, trivial⟩ ⟨rfl, trivial⟩ ?_
    refine R1 d_assign rfl ?_
    refine R_nil (by kernel_rfl) ?_
    refine K_norB ?_
    refine K_then ?_
    refine C_reg ?_
    refine R2 (d_add (wr64 (by omega) (by omega))) rfl rfl ?_
    refine R1 d_move rfl ?_
    refine R_nil (by kernel_rfl) ?_
    exact K_famR (l := [8]) (fun j => cond (Nat.beq j 8) 39 (j)) ((i + 1, pst zs [(clip a b (l.getD i tst0))])) ⟨(by dsimp only; exact ⟨by omega, by rw [cut_next (by omega), ← hz]⟩), (by dsimp only; omega)⟩ (SubR.int rfl (by first | omega | rfl | (dsimp only; omega)) (SubR.int rfl (by first | omega | rfl | (dsimp only; omega)) (SubR.cons rfl (SubR.cons rfl (SubR.int rfl (by first | omega | rfl | (dsimp only; omega)) (SubR.int rfl (by first | omega | rfl | (dsimp only; omega)) SubR.nil)))))) ((SubKR.consI rfl (ImpK.of ren_rV.symm)) SubKR.nil) (SupG.val (SupG.val (SupG.val (SupG.own rfl (SupG.val (SupG.val SupG.nil)))))) (SupH.cons rfl (supJ sup_rV) SupH.nil) (lkOk rfl) rfl rfl (fun _ h => by cases h)
   ·
    refine C_exit ?_
    refine K_exT ?_
    refine K_exT ?_
    refine K_exB ?_
    refine K_then ?_
    refine C_seq ?_
    refine C_reg ?_
    refine R1 d_move rfl ?_
    refine RE (d_assignS (f := tTs) (xs := zs) (fun _ h => h) (rV_all rfl) rfl) ⟨rfl, trivial⟩ ⟨rfl, trivial⟩ trivial ?_
    refine R1 d_assign rfl ?_
    refine R_nil (by kernel_rfl) ?_
    refine K_then ?_
    refine C_ret ?_
    exact E_ret2 Plain.mk' rfl rfl rfl (Le.of (by rw [if_pos hok, hz, cutT, show i = (l.map (clip a b)).length by simp; omega, List.take_length])) (Le.int (by rw [if_pos hok]))
end An.S

/- Layer 5: parts of timelines, and sums. Plain data. -/
namespace An
open Go
theorem pst_all {P : Tst → Prop} (hset : ∀ a s, P a → P s → a.hi = s.lo → P ⟨a.lo, s.hi, a.v⟩) : ∀ (ps acc : List Tst), (∀ s ∈ acc, P s) → (∀ s ∈ ps, s.lo < s.hi → P s) → ∀ s ∈ pst acc ps, P s
  | [], acc, ha, _ => ha
  | s :: r, acc, ha, hp => by
    refine pst_all hset r (pst1 acc s) ?_ fun x hx => hp x (List.mem_cons_of_mem _ hx)
    intro x hx
    rw [pst1] at hx
    split at hx
    · exact ha x hx
    · rename_i h1
      split at hx
      · rename_i h2
        rcases List.mem_or_eq_of_mem_set hx with h | h
        · exact ha x h
        · subst h
          exact hset _ s (ha _ (mem_getD (by omega))) (hp s (List.mem_cons_self ..) (by omega)) h2.2.1
      · rcases List.mem_append.1 hx with h | h
        · exact ha x h
        · rw [List.mem_singleton.1 h]; exact hp s (List.mem_cons_self ..) (by omega)
theorem tRight_at {l : List Tst} (h : tRight l = true) {i : Nat} (hi : i < l.length) : 0 ≤ (l.getD i tst0).lo ∧ (l.getD i tst0).lo < (l.getD i tst0).hi ∧ (l.getD i tst0).hi ≤ 65536 ∧ (i = 0 ∨ (l.getD (i - 1) tst0).hi ≤ (l.getD i tst0).lo ∧ (l.getD (i - 1) tst0).v.kind = (l.getD i tst0).v.kind ∧ ¬ ((l.getD (i - 1) tst0).hi = (l.getD i tst0).lo ∧ (l.getD (i - 1) tst0).v = (l.getD i tst0).v)) := by
  simp only [tRight, Bool.and_eq_true, List.all_eq_true] at h
  exact tOk_iff.1 (h.1 i (List.mem_range.2 hi))
theorem kind_at {l : List Tst} (h : tRight l = true) : ∀ {i : Nat}, i < l.length → (l.getD i tst0).v.kind = (l.getD 0 tst0).v.kind
  | 0, _ => rfl
  | i + 1, hi => by
    rcases (tRight_at h hi).2.2.2 with h0 | h0
    · omega
    · rw [← h0.2.1]; exact kind_at h (by omega)
theorem exists_getD {l : List Tst} {s : Tst} (hs : s ∈ l) : ∃ i, i < l.length ∧ s = l.getD i tst0 := by
  obtain ⟨i, hi, e⟩ := List.getElem_of_mem hs
  exact ⟨i, hi, by rw [List.getD_eq_getElem?_getD, List.getElem?_eq_getElem hi]; exact e.symm⟩
/-- A step of numbers. -/
def sNum (s : Tst) : Prop := 0 ≤ s.lo ∧ s.lo < s.hi ∧ s.hi ≤ 65536 ∧ s.v.f = fr s.v.f.rat ∧ short s.v.f.rat
def numK (l : List Tst) : Prop := l.length = 0 ∨ (l.getD 0 tst0).v.kind = 2 ∨ (l.getD 0 tst0).v.kind = 3
instance (l : List Tst) : Decidable (numK l) := inferInstanceAs (Decidable (_ ∨ _))
theorem num_fr {v : Va} (hv : v.valid = true) (hD : v.f.dig) (hk : v.kind = 2 ∨ v.kind = 3) : v.f = fr v.f.rat ∧ short v.f.rat := by
  rw [Va.valid, if_pos hk, Bool.and_eq_true] at hv
  exact Fr.of_valid' hD hv.2
theorem num_mem {l : List Tst} (h : tRight l = true) (hD : ∀ s ∈ l, s.v.f.dig) (hk : numK l) {s : Tst} (hs : s ∈ l) : sNum s := by
  obtain ⟨i, hi, rfl⟩ := exists_getD hs
  have h1 := tRight_at h hi
  have h2 := kind_at h hi
  have h3 := num_fr (tRight_valid h _ hs) (hD _ hs) (by rw [h2]; rcases hk with h0 | h0; omega; exact h0)
  exact ⟨h1.1, h1.2.1, h1.2.2.1, h3⟩
theorem cut_num {l : List Tst} {a b : Int} (h : tRight l = true) (hD : ∀ s ∈ l, s.v.f.dig) (hk : numK l) : ∀ s ∈ cutT l a b, sNum s := by
  refine pst_all (P := sNum) (fun x s hx hs e => ⟨hx.1, by have := hx.2.1; have := hs.2.1; dsimp only; omega, hs.2.2.1, hx.2.2.2⟩) _ _ (fun s hs => by cases hs) fun s hs hlt => ?_
  obtain ⟨x, hx, rfl⟩ := List.mem_map.1 hs
  have h1 := num_mem h hD hk hx
  simp only [clip] at hlt
  refine ⟨?_, hlt, ?_, h1.2.2.2⟩
  · have := h1.1; simp only [clip]; omega
  · have := h1.2.2.1; simp only [clip]; omega
/-- The sum of the days' values. -/
def sumStep : Option Rat → Tst → Option Rat
  | none, _ => none
  | some q, s => if short (s.v.f.rat * ((s.hi - s.lo : Int) : Rat)) ∧ short (q + s.v.f.rat * ((s.hi - s.lo : Int) : Rat)) then some (q + s.v.f.rat * ((s.hi - s.lo : Int) : Rat)) else none
def sumT (l : List Tst) : Option Rat := l.foldl sumStep (some ((0 : Int) : Rat))
theorem sum_next {l : List Tst} {i : Nat} (hi : i < l.length) : sumT (l.take (i + 1)) = sumStep (sumT (l.take i)) (l.getD i tst0) := by
  rw [List.take_succ_eq_append_getElem hi, sumT, List.foldl_append, List.getD_eq_getElem?_getD, List.getElem?_eq_getElem hi]; rfl
theorem sum_none : ∀ l : List Tst, l.foldl sumStep none = none
  | [] => rfl
  | _ :: r => sum_none r
theorem sum_stop {l : List Tst} {i : Nat} (h : sumT (l.take i) = none) : sumT l = none := by
  rw [sumT, ← List.take_append_drop i l, List.foldl_append]
  rw [sumT] at h; rw [h]; exact sum_none _
def sumF : Option Rat → Fr
  | some q => fr q
  | none => fr0
def sumE : Option Rat → Int
  | some _ => 0
  | none => 3
def sumC (l : List Tst) (a b : Int) : Prop := (tRight l = true ∧ Sn.ok ⟨a, b⟩ = true) ∧ numK l
instance (l : List Tst) (a b : Int) : Decidable (sumC l a b) := inferInstanceAs (Decidable (_ ∧ _))
theorem resFE_zero {q : Rat} (h : resFE q = 0) : short q := by
  rw [resFE] at h; split at h
  · assumption
  · cases h
theorem resFE_not {q : Rat} (h : ¬ resFE q = 0) : ¬ short q := fun hs => h (if_pos hs)
end An

/- Layer 5: sums. -/
namespace An.S
open Go Go.Proofs An
set_option maxHeartbeats 2000000
theorem fi31 : FnI Tryz.prog 31 := ⟨_, Tryz.func31, by kernel_rfl, rfl⟩
theorem fi43 : FnI Tryz.prog 43 := ⟨_, Tryz.func43, by kernel_rfl, rfl⟩
theorem fi45 : FnI Tryz.prog 45 := ⟨_, Tryz.func45, by kernel_rfl, rfl⟩
theorem fi75 : FnI Tryz.prog 75 := ⟨_, Tryz.func75, by kernel_rfl, rfl⟩
theorem c_FMulT (f : Fr) (n : Int) (hf : f = fr f.rat) (hs : short f.rat) (hn : short (n : Rat)) : Ct Tryz.prog 45 [tFr f, tFr (fr (n : Rat))] (tT [tFr (resF (f.rat * (n : Rat))), tI (resFE (f.rat * (n : Rat)))]) := by
  have h := c_FMul f.rat n hs hn
  rw [← hf] at h; exact h
theorem c_FAddR (q p : Rat) (hq : short q) (hp : short p) : Ct Tryz.prog 31 [tFr (fr q), tFr (resF p)] (tT [tFr (resF (q + p)), tI (resFE (q + p))]) := by
  rw [show resF p = fr p from if_pos hp]; exact c_FAdd q p hq hp
theorem c_TSum (l : List Tst) (a b : Int) (hl : l.length ≤ 500000) (hD : ∀ s ∈ l, s.v.f.dig) :
  Ct Tryz.prog 44 [tL 8 true tTs l, tI a, tI b] (tT [tFr (if sumC l a b then sumF (sumT (cutT l a b)) else fr0), tI (if sumC l a b then sumE (sumT (cutT l a b)) else 2)]) := by
 have hcut := c_Cut l a b hl hD
 obtain ⟨part, hpart⟩ : ∃ p : List Tst, p = (if (tRight l = true ∧ Sn.ok ⟨a, b⟩ = true) then cutT l a b else []) := ⟨_, rfl⟩
 obtain ⟨er, her⟩ : ∃ e : Int, e = (if (tRight l = true ∧ Sn.ok ⟨a, b⟩ = true) then 0 else 2) := ⟨_, rfl⟩
 rw [← hpart, ← her] at hcut
 refine Ct.intro Tryz.func44 rfl Tryz.ntmps44 rfl ?_
 intro w F
 refine C_seq ?_
 refine C_reg ?_
 refine RE (d_alloc (k := 6) (n := 4) (agg := true) zr26.1 zr26.2 rfl) trivial trivial ⟨rfl, trivial⟩ ?_
 refine R1 d_assign rfl ?_
 refine R_nil (by kernel_rfl) ?_
 refine K_then ?_
 refine C_seq ?_
 refine C_reg ?_
 refine R1 d_move rfl ?_
 refine R1 d_move rfl ?_
 refine R1 d_move rfl ?_
 refine R3 (d_call hcut fi75 rfl) rfl rfl rfl ?_
 refine R1 d_move rfl ?_
 refine R1 (d_extract rfl) rfl ?_
 refine R1 (d_extract rfl) rfl ?_
 refine R1 d_assign rfl ?_
 refine R1 d_assign rfl ?_
 refine R_nil (by kernel_rfl) ?_
 refine K_then ?_
 refine C_seq ?_
 refine C_seq ?_
 refine C_reg ?_
 refine R1 d_move rfl ?_
 refine R2 d_neq rfl rfl ?_
 refine R_nil (by kernel_rfl) ?_
 refine K_then ?_
 refine C_if rfl (fun h181 => ?_) (fun h181 => ?_)
 ·
  have hb0 : ¬ (tRight l = true ∧ Sn.ok ⟨a, b⟩ = true) := fun h => h181 (by rw [her, if_pos h])
  have hb : ¬ sumC l a b := fun h => hb0 h.1
  refine C_seq ?_
  refine C_reg ?_
  refine R0 (d_build (r := tS [⟨2, true, (tS [⟨1, false, (tE (.bool false))⟩, ⟨1, false, (tLm [])⟩])⟩, ⟨2, true, (tS [⟨1, false, (tE (.bool false))⟩, ⟨1, false, (tLm [])⟩])⟩]) (ts := []) bu26 zr26.2 ⟨_, rfl⟩ rfl Le.refl)  ?_
  refine R1 d_move rfl ?_
  refine RE (d_store (es := 4) (agg := true) (0) ti26 rfl rfl rfl) ⟨rfl, rfl, trivial⟩ ⟨rfl, trivial⟩ trivial ?_
  refine R1 d_assign rfl ?_
  refine R_nil (by kernel_rfl) ?_
  refine K_then ?_
  refine C_ret ?_
  refine K_retT ?_
  exact E_retN Plain.mk' (rs := [.cell 6 26, .tmp 7]) rfl rfl ⟨⟨_, _, _, _, _, rfl, rfl, ti26, (Le.of (by rw [if_neg hb]; rfl))⟩, ⟨_, rfl, (Le.int (by rw [if_neg hb, her, if_neg hb0]))⟩, trivial⟩
 ·
  have hok : (tRight l = true ∧ Sn.ok ⟨a, b⟩ = true) := Classical.byContradiction fun h => h181 (by rw [her, if_neg h]; decide)
  refine C_skip ?_
  refine K_then ?_
  refine C_join (fun (_j : Unit) => numK l) (fun (_j : Unit) => upd (upd (fun _ => none) 6 (some (.own (.ptr 6 0)))) 8 (some (.val (tL 8 true tTs part)))) (fun (_j : Unit) => upd (fun _ => none) 6 (some (⟨26, 4, true, [.val (tFr fr0)]⟩))) (nm [6]) ?_ ?_
  ·
   refine C_seq ?_
   refine C_reg ?_
   refine R1 d_move rfl ?_
   refine R1 (d_len Tryz.underlying30) rfl ?_
   refine R2 d_gtr rfl rfl ?_
   refine R1 d_move rfl ?_
   refine RGcaseD (t := 29) rfl (fun h184 => ?_) (fun h184 => ?_)
   ·
    refine RGon (decide_eq_true h184) rfl d_move rfl ⟨rfl, trivial⟩ trivial trivial ?_
    refine RGon (decide_eq_true h184) rfl (d_indexP sl30 (0) (by omega) (gD (l := l) (n := 0) (d := tst0) (by omega))) rfl ⟨rfl, rfl, trivial⟩ trivial trivial ?_
    refine RGon (decide_eq_true h184) rfl (d_fieldP fo39_2 (At.f 2 rfl rfl) rfl) rfl ⟨rfl, trivial⟩ trivial trivial ?_
    refine RGon (decide_eq_true h184) rfl (d_fieldP fo37_0 (At.f 0 rfl rfl) rfl) rfl ⟨rfl, trivial⟩ trivial trivial ?_
    refine RGon (decide_eq_true h184) rfl (d_loadP ti5) rfl ⟨rfl, trivial⟩ trivial trivial ?_
    refine RGon (decide_eq_true h184) rfl d_neq rfl ⟨rfl, rfl, trivial⟩ trivial trivial ?_
    refine R2 (d_pickT (decide_eq_true h184)) rfl rfl ?_
    refine R1 d_move rfl ?_
    refine RGcaseD (t := 37) rfl (fun h184_2 => ?_) (fun h184_2 => ?_)
    ·
     refine RGon (decide_eq_true h184_2) rfl d_move rfl ⟨rfl, trivial⟩ trivial trivial ?_
     refine RGon (decide_eq_true h184_2) rfl (d_indexP sl30 (0) (by omega) (gD (l := l) (n := 0) (d := tst0) (by omega))) rfl ⟨rfl, rfl, trivial⟩ trivial trivial ?_
     refine RGon (decide_eq_true h184_2) rfl (d_fieldP fo39_2 (At.f 2 rfl rfl) rfl) rfl ⟨rfl, trivial⟩ trivial trivial ?_
     refine RGon (decide_eq_true h184_2) rfl (d_fieldP fo37_0 (At.f 0 rfl rfl) rfl) rfl ⟨rfl, trivial⟩ trivial trivial ?_
     refine RGon (decide_eq_true h184_2) rfl (d_loadP ti5) rfl ⟨rfl, trivial⟩ trivial trivial ?_
     refine RGon (decide_eq_true h184_2) rfl d_neq rfl ⟨rfl, rfl, trivial⟩ trivial trivial ?_
     refine R2 (d_pickT (decide_eq_true h184_2)) rfl rfl ?_
     refine R_nil (by kernel_rfl) ?_
     refine K_then ?_
     refine C_if rfl (fun h184_3 => ?_) (fun h184_3 => ?_)
     ·
      refine C_seq ?_
      refine C_reg ?_
      refine R0 (d_build (r := tS [⟨2, true, (tS [⟨1, false, (tE (.bool false))⟩, ⟨1, false, (tLm [])⟩])⟩, ⟨2, true, (tS [⟨1, false, (tE (.bool false))⟩, ⟨1, false, (tLm [])⟩])⟩]) (ts := []) bu26 zr26.2 ⟨_, rfl⟩ rfl Le.refl)  ?_
      refine RE (d_store (es := 4) (agg := true) (0) ti26 rfl rfl rfl) ⟨rfl, rfl, trivial⟩ ⟨rfl, trivial⟩ trivial ?_
      refine R1 d_assign rfl ?_
      refine R_nil (by kernel_rfl) ?_
      refine K_then ?_
      refine C_ret ?_
      refine K_retT ?_
      exact E_retN Plain.mk' (rs := [.cell 6 26, .tmp 7]) rfl rfl ⟨⟨_, _, _, _, _, rfl, rfl, ti26, (Le.of (by rw [if_neg (fun h => by have := h.2; simp only [numK] at this; omega)]; rfl))⟩, ⟨_, rfl, (Le.int (by rw [if_neg (fun h => by have := h.2; simp only [numK] at this; omega)]))⟩, trivial⟩
     ·
      refine C_skip ?_
      exact K_fam (()) (by simp only [numK]; omega) (Sub.cons rfl (Sub.cons rfl Sub.nil)) ((SubK.consI rfl ImpK.refl) SubK.nil) (SupG.val (SupG.own rfl SupG.nil)) (SupH.cons rfl (supJL rfl) SupH.nil) (lkOk rfl)
    ·
     refine RGoff (decide_eq_false h184_2) rfl rfl ?_
     refine RGoff (decide_eq_false h184_2) rfl rfl ?_
     refine RGoff (decide_eq_false h184_2) rfl rfl ?_
     refine RGoff (decide_eq_false h184_2) rfl rfl ?_
     refine RGoff (decide_eq_false h184_2) rfl rfl ?_
     refine RGoff (decide_eq_false h184_2) rfl rfl ?_
     refine R2 (d_pickF (decide_eq_false h184_2)) rfl rfl ?_
     refine R_nil (by kernel_rfl) ?_
     refine K_then ?_
     refine C_bF rfl rfl ?_
     refine C_skip ?_
     exact K_fam (()) (by simp only [numK]; omega) (Sub.cons rfl (Sub.cons rfl Sub.nil)) ((SubK.consI rfl ImpK.refl) SubK.nil) (SupG.val (SupG.own rfl SupG.nil)) (SupH.cons rfl (supJL rfl) SupH.nil) (lkOk rfl)
   ·
    refine RGoff (decide_eq_false h184) rfl rfl ?_
    refine RGoff (decide_eq_false h184) rfl rfl ?_
    refine RGoff (decide_eq_false h184) rfl rfl ?_
    refine RGoff (decide_eq_false h184) rfl rfl ?_
    refine RGoff (decide_eq_false h184) rfl rfl ?_
    refine RGoff (decide_eq_false h184) rfl rfl ?_
    refine R2 (d_pickF (decide_eq_false h184)) rfl rfl ?_
    refine R1 d_move rfl ?_
    refine RGoff0 rfl rfl ?_
    refine RGoff0 rfl rfl ?_
    refine RGoff0 rfl rfl ?_
    refine RGoff0 rfl rfl ?_
    refine RGoff0 rfl rfl ?_
    refine RGoff0 rfl rfl ?_
    refine R2 (d_pickF rfl) rfl rfl ?_
    refine R_nil (by kernel_rfl) ?_
    refine K_then ?_
    refine C_bF rfl rfl ?_
    refine C_skip ?_
    exact K_fam (()) (by simp only [numK]; omega) (Sub.cons rfl (Sub.cons rfl Sub.nil)) ((SubK.consI rfl ImpK.refl) SubK.nil) (SupG.val (SupG.own rfl SupG.nil)) (SupH.cons rfl (supJL rfl) SupH.nil) (lkOk rfl)
  ·
   intro _j hnk
   refine C_seq ?_
   refine C_reg ?_
   refine R1 (d_call (c_FFromInt 0 (by decide) (by decide)) fi43 rfl) rfl ?_
   refine RE (d_alloc (k := 10) (n := 4) (agg := true) zr26.1 zr26.2 rfl) trivial trivial ⟨rfl, trivial⟩ ?_
   refine RE (d_store (es := 4) (agg := true) (0) ti26 rfl rfl rfl) ⟨rfl, rfl, trivial⟩ ⟨rfl, trivial⟩ trivial ?_
   refine R_nil (by kernel_rfl) ?_
   refine K_then ?_
   refine C_seq ?_
   refine C_seq ?_
   refine C_reg ?_
   refine R1 d_move rfl ?_
   refine R1 (d_len Tryz.underlying30) rfl ?_
   refine R1 d_move rfl ?_
   refine R_nil (by kernel_rfl) ?_
   refine K_then ?_
   refine C_block ?_
   have hc : sumC l a b := ⟨hok, hnk⟩
   have hnum := cut_num (a := a) (b := b) hok.1 hD hc.2
   rw [if_pos hok] at hpart
   rw [← hpart] at hnum
   refine C_len (s := 47) rfl (fun hl0 => ?_)
   refine C_loop (fun (fm : (Nat) × (Rat)) => (fun (i : Nat) (q : Rat) => i ≤ part.length ∧ sumT (part.take i) = some q ∧ short q) fm.1 fm.2) (fun (fm : (Nat) × (Rat)) => (fun (i : Nat) (q : Rat) => upd (upd (upd (upd (upd (fun _ => none) 6 (some (.own (.ptr 6 0)))) 10 (some (.own (.ptr 10 0)))) 47 (some (.val (tL 8 true tTs part)))) 48 (some (.val (tI part.length)))) 49 (some (.val (tI i)))) fm.1 fm.2) (fun (fm : (Nat) × (Rat)) => (fun (i : Nat) (q : Rat) => upd (upd (fun _ => none) 6 (some (⟨26, 4, true, [.val (tFr fr0)]⟩))) 10 (some (⟨26, 4, true, [.val (tFr (fr q))]⟩))) fm.1 fm.2) (nm [6, 10]) (fun (fm : (Nat) × (Rat)) => (fun (i : Nat) (q : Rat) => part.length - i) fm.1 fm.2) ((0, ((0 : Int) : Rat))) (by dsimp only; exact ⟨Nat.zero_le _, rfl, short_int (Nat.le_trans (len16_64 (by decide) (by decide)) (by decide))⟩) (Sub.int rfl (by first | omega | rfl | (dsimp only; omega)) (Sub.int rfl (by first | omega | rfl | (dsimp only; omega)) (Sub.cons rfl (Sub.cons rfl (Sub.cons rfl Sub.nil))))) ((SubK.consI rfl ImpK.refl) ((SubK.consI rfl ImpK.refl) SubK.nil)) (SupG.val (SupG.val (SupG.val (SupG.own rfl (SupG.own rfl SupG.nil))))) (SupH.cons rfl (supJL rfl) (SupH.cons rfl (supJL rfl) SupH.nil)) (lkOk rfl) ?_
   intro fm hI
   obtain ⟨i, q⟩ := fm
   replace hI : i ≤ part.length ∧ sumT (part.take i) = some q ∧ short q := hI
   show wc _ _ _ _ (upd (upd (upd (upd (upd (fun _ => none) 6 (some (.own (.ptr 6 0)))) 10 (some (.own (.ptr 10 0)))) 47 (some (.val (tL 8 true tTs part)))) 48 (some (.val (tI part.length)))) 49 (some (.val (tI i)))) (upd (upd (fun _ => none) 6 (some (⟨26, 4, true, [.val (tFr fr0)]⟩))) 10 (some (⟨26, 4, true, [.val (tFr (fr q))]⟩))) _
   obtain ⟨hi, hq, hs⟩ := hI
   refine C_seq ?_
   refine C_reg ?_
   refine R2 d_lss rfl rfl ?_
   refine R_nil (by kernel_rfl) ?_
   refine K_then ?_
   refine C_seq ?_
   refine C_if rfl (fun h188 => ?_) (fun h188 => ?_)
   ·
    refine C_skip ?_
    refine K_then ?_
    refine C_seq ?_
    refine C_block ?_
    refine C_seq ?_
    refine C_reg ?_
    obtain ⟨n1, n2, n3, n4, n5⟩ := hnum _ (mem_getD (l := part) (i := i) (by omega))
    refine R2 (d_indexP sl30 (i) (by omega) (gD (l := part) (n := i) (d := tst0) (by omega))) rfl rfl ?_
    refine R1 (d_loadP ti39) rfl ?_
    refine RE (d_alloc (k := 12) (n := 8) (agg := true) zr39.1 zr39.2 rfl) trivial trivial ⟨rfl, trivial⟩ ?_
    refine RE (d_store (es := 8) (agg := true) (0) ti39 rfl rfl rfl) ⟨rfl, rfl, trivial⟩ ⟨rfl, trivial⟩ trivial ?_
    refine R_nil (by kernel_rfl) ?_
    refine K_then ?_
    refine C_seq ?_
    refine C_draw mixed ?_
    refine R1 (d_fieldO fo39_2 rfl) rfl ?_
    refine R1 (d_fieldO fo37_1 rfl) rfl ?_
    refine R_loadF (0) ti26 rfl rfl rfl (At.t (At.g 2 rfl rfl) (At.g 1 rfl rfl)) rfl ?_
    refine R1 (d_fieldO fo39_1 rfl) rfl ?_
    refine R_loadF (0) ti3 rfl rfl rfl (At.g 1 rfl rfl) rfl ?_
    refine R1 (d_fieldO fo39_0 rfl) rfl ?_
    refine R_loadF (0) ti3 rfl rfl rfl (At.g 0 rfl rfl) rfl ?_
    refine R2 (d_sub (wr64 (by omega) (by omega))) rfl rfl ?_
    refine R1 (d_call (c_FFromInt ((part.getD i tst0).hi - (part.getD i tst0).lo) (by omega) (by omega)) fi43 rfl) rfl ?_
    refine R2 (d_call (c_FMulT (part.getD i tst0).v.f ((part.getD i tst0).hi - (part.getD i tst0).lo) n4 n5 (short_int (Nat.le_trans (len16_64 (by omega) (by omega)) (by decide)))) fi45 rfl) rfl rfl ?_
    refine R1 d_move rfl ?_
    refine R1 (d_extract rfl) rfl ?_
    refine R1 (d_extract rfl) rfl ?_
    refine RE (d_alloc (k := 13) (n := 4) (agg := true) zr26.1 zr26.2 rfl) trivial trivial ⟨rfl, trivial⟩ ?_
    refine RE (d_store (es := 4) (agg := true) (0) ti26 rfl rfl rfl) ⟨rfl, rfl, trivial⟩ ⟨rfl, trivial⟩ trivial ?_
    refine R1 d_assign rfl ?_
    refine R_end (by kernel_rfl) ?_
    refine K_then ?_
    refine C_seq ?_
    refine C_seq ?_
    refine C_reg ?_
    refine R1 d_move rfl ?_
    refine R2 d_eql rfl rfl ?_
    refine R_nil (by kernel_rfl) ?_
    refine K_then ?_
    refine C_if rfl (fun h190 => ?_) (fun h190 => ?_)
    ·
     have hp := resFE_zero h190
     refine C_reg ?_
     refine RE (d_load (0) ti26 rfl rfl) ⟨rfl, trivial⟩ ⟨rfl, trivial⟩ trivial ?_
     refine RE (d_load (0) ti26 rfl rfl) ⟨rfl, trivial⟩ ⟨rfl, trivial⟩ trivial ?_
     refine R2 (d_call (c_FAddR q ((part.getD i tst0).v.f.rat * (((part.getD i tst0).hi - (part.getD i tst0).lo : Int) : Rat)) hs hp) fi31 rfl) rfl rfl ?_
     refine R1 d_move rfl ?_
     refine R1 (d_extract rfl) rfl ?_
     refine R1 (d_extract rfl) rfl ?_
     refine RE (d_store (es := 4) (agg := true) (0) ti26 rfl rfl rfl) ⟨rfl, rfl, trivial⟩ ⟨rfl, trivial⟩ trivial ?_
     refine R1 d_assign rfl ?_
     refine R_nil (by kernel_rfl) ?_
     refine K_then ?_
     refine C_seq ?_
     refine C_reg ?_
     refine R1 d_move rfl ?_
     refine R2 d_neq rfl rfl ?_
     refine R_nil (by kernel_rfl) ?_
     refine K_then ?_
     refine C_if rfl (fun h193 => ?_) (fun h193 => ?_)
     ·
      refine C_seq ?_
      refine C_reg ?_
      refine R0 (d_build (r := tS [⟨2, true, (tS [⟨1, false, (tE (.bool false))⟩, ⟨1, false, (tLm [])⟩])⟩, ⟨2, true, (tS [⟨1, false, (tE (.bool false))⟩, ⟨1, false, (tLm [])⟩])⟩]) (ts := []) bu26 zr26.2 ⟨_, rfl⟩ rfl Le.refl)  ?_
      refine R1 d_move rfl ?_
      refine RE (d_store (es := 4) (agg := true) (0) ti26 rfl rfl rfl) ⟨rfl, rfl, trivial⟩ ⟨rfl, trivial⟩ trivial ?_
      refine R1 d_assign rfl ?_
      refine R_nil (by kernel_rfl) ?_
      refine K_then ?_
      refine C_ret ?_
      refine K_retB ?_
      refine K_retT ?_
      refine K_retT ?_
      refine K_retB ?_
      refine K_retT ?_
      exact E_retN Plain.mk' (rs := [.cell 6 26, .tmp 7]) rfl rfl ⟨⟨_, _, _, _, _, rfl, rfl, ti26, (Le.of (by rw [if_pos hc, ← hpart, sum_stop (i := i + 1) (by rw [sum_next (by omega), hq, sumStep, if_neg (fun h => resFE_not h193 h.2)])]; rfl))⟩, ⟨_, rfl, (Le.int (by rw [if_pos hc, ← hpart, sum_stop (i := i + 1) (by rw [sum_next (by omega), hq, sumStep, if_neg (fun h => resFE_not h193 h.2)]), resFE, if_neg (resFE_not h193)]; rfl))⟩, trivial⟩
     ·
      have h193z := Decidable.not_not.1 h193
      refine C_skip ?_
      refine K_norB ?_
      refine K_then ?_
      refine C_reg ?_
      refine R2 (d_add (wr64 (by omega) (by omega))) rfl rfl ?_
      refine R1 d_move rfl ?_
      refine R_nil (by kernel_rfl) ?_
      exact K_fam ((i + 1, q + ((part.getD i tst0).v.f.rat * (((part.getD i tst0).hi - (part.getD i tst0).lo : Int) : Rat)))) ⟨(by dsimp only; exact ⟨by omega, by rw [sum_next (by omega), hq, sumStep, if_pos ⟨hp, resFE_zero h193z⟩], resFE_zero h193z⟩), (by dsimp only; omega)⟩ (Sub.int rfl (by first | omega | rfl | (dsimp only; omega)) (Sub.int rfl (by first | omega | rfl | (dsimp only; omega)) (Sub.cons rfl (Sub.cons rfl (Sub.cons rfl Sub.nil))))) ((SubK.consI rfl (ImpK.of (by dsimp only; rw [resF, if_pos (resFE_zero h193z)]; rfl))) ((SubK.consI rfl ImpK.refl) SubK.nil)) (SupG.val (SupG.val (SupG.val (SupG.own rfl (SupG.own rfl SupG.nil))))) (SupH.cons rfl (supJL rfl) (SupH.cons rfl (supJL rfl) SupH.nil)) (lkOk rfl)
    ·
     refine C_skip ?_
     refine K_then ?_
     refine C_seq ?_
     refine C_reg ?_
     refine R1 d_move rfl ?_
     refine R2 d_neq rfl rfl ?_
     refine R_nil (by kernel_rfl) ?_
     refine K_then ?_
     refine C_if rfl (fun h193 => ?_) (fun h193 => ?_)
     ·
      refine C_seq ?_
      refine C_reg ?_
      refine R0 (d_build (r := tS [⟨2, true, (tS [⟨1, false, (tE (.bool false))⟩, ⟨1, false, (tLm [])⟩])⟩, ⟨2, true, (tS [⟨1, false, (tE (.bool false))⟩, ⟨1, false, (tLm [])⟩])⟩]) (ts := []) bu26 zr26.2 ⟨_, rfl⟩ rfl Le.refl)  ?_
      refine R1 d_move rfl ?_
      refine RE (d_store (es := 4) (agg := true) (0) ti26 rfl rfl rfl) ⟨rfl, rfl, trivial⟩ ⟨rfl, trivial⟩ trivial ?_
      refine R1 d_assign rfl ?_
      refine R_nil (by kernel_rfl) ?_
      refine K_then ?_
      refine C_ret ?_
      refine K_retB ?_
      refine K_retT ?_
      refine K_retT ?_
      refine K_retB ?_
      refine K_retT ?_
      exact E_retN Plain.mk' (rs := [.cell 6 26, .tmp 7]) rfl rfl ⟨⟨_, _, _, _, _, rfl, rfl, ti26, (Le.of (by rw [if_pos hc, ← hpart, sum_stop (i := i + 1) (by rw [sum_next (by omega), hq, sumStep, if_neg (fun h => resFE_not h193 h.1)])]; rfl))⟩, ⟨_, rfl, (Le.int (by rw [if_pos hc, ← hpart, sum_stop (i := i + 1) (by rw [sum_next (by omega), hq, sumStep, if_neg (fun h => resFE_not h193 h.1)]), resFE, if_neg (resFE_not h193)]; rfl))⟩, trivial⟩
     ·
      have h193z := Decidable.not_not.1 h193
      refine C_skip ?_
      refine K_norB ?_
      refine K_then ?_
      refine C_reg ?_
      refine R2 (d_add (wr64 (by omega) (by omega))) rfl rfl ?_
      refine R1 d_move rfl ?_
      refine R_nil (by kernel_rfl) ?_
      exact K_fam ((i + 1, q)) ⟨(by dsimp only; exact absurd h193z h190), (by dsimp only; omega)⟩ (Sub.int rfl (by first | omega | rfl | (dsimp only; omega)) (Sub.int rfl (by first | omega | rfl | (dsimp only; omega)) (Sub.cons rfl (Sub.cons rfl (Sub.cons rfl Sub.nil))))) ((SubK.consI rfl ImpK.refl) ((SubK.consI rfl ImpK.refl) SubK.nil)) (SupG.val (SupG.val (SupG.val (SupG.own rfl (SupG.own rfl SupG.nil))))) (SupH.cons rfl (supJL rfl) (SupH.cons rfl (supJL rfl) SupH.nil)) (lkOk rfl)
   ·
    refine C_exit ?_
    refine K_exT ?_
    refine K_exT ?_
    refine K_exB ?_
    refine K_then ?_
    refine C_seq ?_
    refine C_reg ?_
    refine RE (d_load (0) ti26 rfl rfl) ⟨rfl, trivial⟩ ⟨rfl, trivial⟩ trivial ?_
    refine RE (d_store (es := 4) (agg := true) (0) ti26 rfl rfl rfl) ⟨rfl, rfl, trivial⟩ ⟨rfl, trivial⟩ trivial ?_
    refine R1 d_assign rfl ?_
    refine R_nil (by kernel_rfl) ?_
    refine K_then ?_
    refine C_ret ?_
    exact E_retN Plain.mk' (rs := [.cell 6 26, .tmp 7]) rfl rfl ⟨⟨_, _, _, _, _, rfl, rfl, ti26, (Le.of (by rw [if_pos hc, ← hpart, ← List.take_length (l := part), ← show i = part.length by omega, hq]; rfl))⟩, ⟨_, rfl, (Le.int (by rw [if_pos hc, ← hpart, ← List.take_length (l := part), ← show i = part.length by omega, hq]; rfl))⟩, trivial⟩
end An.S

/- Layer 8: service records. -/
namespace An.S
open Go Go.Proofs An
set_option maxHeartbeats 2000000
theorem ti30 : TyI Tryz.prog 30 1 false := ⟨by kernel_rfl, by kernel_rfl⟩
theorem ti75 : TyI Tryz.prog 75 3 true := ⟨by kernel_rfl, by kernel_rfl⟩
theorem fo75_0 : fieldO Tryz.prog 75 0 = some 0 := by kernel_rfl
theorem fo75_1 : fieldO Tryz.prog 75 1 = some 2 := by kernel_rfl
theorem fi20 : FnI Tryz.prog 20 := ⟨_, Tryz.func20, by kernel_rfl, rfl⟩
theorem fi27 : FnI Tryz.prog 27 := ⟨_, Tryz.func27, by kernel_rfl, rfl⟩
theorem fi42 : FnI Tryz.prog 42 := ⟨_, Tryz.func42, by kernel_rfl, rfl⟩
theorem fi60 : FnI Tryz.prog 60 := ⟨_, Tryz.func60, by kernel_rfl, rfl⟩
theorem fi88 : FnI Tryz.prog 88 := ⟨_, Tryz.func88, by kernel_rfl, rfl⟩
theorem fi89 : FnI Tryz.prog 89 := ⟨_, Tryz.func89, by kernel_rfl, rfl⟩
theorem zr75 : (Tryz.prog.info? 75).bind (·.zero) = some (.agg #[.int .i64 0, .int .i64 0, .slice none 0 0]) ∧ ∀ F w, (tS [⟨2, true, (tS [⟨1, false, (tE (.int .i64 0))⟩, ⟨1, false, (tE (.int .i64 0))⟩])⟩, ⟨1, false, (tE (.slice none 0 0))⟩]).p F w (.agg #[.int .i64 0, .int .i64 0, .slice none 0 0]) := ⟨by kernel_rfl, fun _ _ => ⟨_, rfl, rfl, ⟨fun h => Bool.noConfusion h, ⟨_, rfl, rfl, ⟨fun _ => rfl, rfl⟩, ⟨fun _ => rfl, rfl⟩, trivial⟩⟩, ⟨fun _ => rfl, rfl⟩, trivial⟩⟩
theorem bu75 : BuI Tryz.prog 75 (fun i => [(0, 2), (2, 1)][i]?) (.agg #[.int .i64 0, .int .i64 0, .slice none 0 0]) := BuI.struct Tryz.underlying75 (by kernel_rfl) (by kernel_rfl)
theorem c_FCmpV (f g : Fr) (hf : f.dig) (hg : g.dig) (vf : f.valid = true) (vg : g.valid = true) : Ct Tryz.prog 20 [tFr f, tFr g] (tI (cmpQ f.rat g.rat)) := by
  obtain ⟨e1, s1⟩ := Fr.of_valid' hf vf
  obtain ⟨e2, s2⟩ := Fr.of_valid' hg vg
  have h := c_FCmp f.rat g.rat s1 s2
  rw [← e1, ← e2] at h; exact h
theorem short_one : short (1 : Rat) := short_int (n := 1) (by show (wh 1).l.length ≤ 256; rw [wh_one]; decide)
theorem c_FCmp1 (f : Fr) (hf : f.dig) (vf : f.valid = true) : Ct Tryz.prog 20 [tFr f, tFr (fr ((1 : Int) : Rat))] (tI (cmpQ f.rat 1)) := by
  have h := c_FCmpV f (fr ((1 : Int) : Rat)) hf ⟨dig_Dig two_le_L _, dig_Dig two_le_L _⟩ vf (valid_fr short_one)
  rw [rat_fr] at h; exact h
theorem cmpQ_pos {a b : Rat} : 0 < cmpQ a b ↔ ¬ a ≤ b := by
  simp only [cmpQ]
  split
  · rename_i h; simp [Rat.le_of_lt h]
  · rename_i h
    split
    · rename_i h2; subst h2; simp
    · rename_i h2
      simp only [Int.zero_lt_one, true_iff]
      intro h3
      rcases Rat.le_iff_lt_or_eq.1 h3 with h4 | h4
      · exact h h4
      · exact h2 h4
theorem num_valid {v : Va} (h : v.valid = true) (hk : v.kind = 2) : v.f.valid = true := by
  rw [Va.valid, if_pos (.inl hk), Bool.and_eq_true] at h; exact h.2
theorem sOk_not {s : Tst} {b : Bool} (h : b = false ↔ s.v.kind = 2 ∧ s.v.f.n.neg = false ∧ s.v.f.rat ≤ 1) : b = !sOk s := by
  cases b
  · have h := h.1 rfl
    simp [sOk, h]
  · have h : ¬ (s.v.kind = 2 ∧ s.v.f.n.neg = false ∧ s.v.f.rat ≤ 1) := fun h' => by have := h.2 h'; cases this
    by_cases h1 : sOk s = true
    · simp only [sOk, Bool.and_eq_true, decide_eq_true_eq, Bool.not_eq_true'] at h1
      exact (h ⟨h1.1.1, h1.1.2, h1.2⟩).elim
    · simp [h1]
theorem all_any2 {l : List Tst} : (!l.any fun s => !sOk s) = l.all sOk := by
  rw [List.not_any_eq_all_not]; simp
theorem c_SvR1 (s : Tst) (hv : s.v.valid = true) (hD : s.v.f.dig) :
  CtG Tryz.prog 60 [(3, ⟨26, 4, true, [.val (tFr (fr ((1 : Int) : Rat)))]⟩)] [.val (tTs s), .own (.ptr 3 0)] (.val (tB (!sOk s))) [(3, ⟨26, 4, true, [.val (tFr (fr ((1 : Int) : Rat)))]⟩)] [] := by
 refine CtG.intro [3] Tryz.func60 rfl Tryz.ntmps60 rfl rfl ⟨⟨rfl, (SupX.lit rfl)⟩, trivial⟩ ?_
 intro w F η
 refine C_seq ?_
 refine C_reg ?_
 refine RE (d_box (k := 2) ti39 rfl) ⟨rfl, trivial⟩ trivial ⟨rfl, trivial⟩ ?_
 refine R1 d_assign rfl ?_
 refine R_nil (by kernel_rfl) ?_
 refine K_then ?_
 refine C_seq ?_
 refine C_reg ?_
 refine R1 (d_fieldO fo39_2 rfl) rfl ?_
 refine R1 (d_fieldO fo37_0 rfl) rfl ?_
 refine R_loadF (0) ti5 rfl rfl rfl (At.t (At.g 2 rfl rfl) (At.g 0 rfl rfl)) rfl ?_
 refine R2 d_neq rfl rfl ?_
 refine R1 d_move rfl ?_
 refine RGcaseD (t := 8) rfl (fun h59 => ?_) (fun h59 => ?_)
 ·
  refine RGoff (decide_eq_true h59) rfl rfl ?_
  refine RGoff (decide_eq_true h59) rfl rfl ?_
  refine RGoff (decide_eq_true h59) rfl rfl ?_
  refine RGoff (decide_eq_true h59) rfl rfl ?_
  refine RGoff (decide_eq_true h59) rfl rfl ?_
  refine R2 (d_pickT (decide_eq_true h59)) rfl rfl ?_
  refine R1 d_move rfl ?_
  refine RGoff1 rfl rfl ?_
  refine RGoff1 rfl rfl ?_
  refine RGoff1 rfl rfl ?_
  refine RGoff1 rfl rfl ?_
  refine RGoff1 rfl rfl ?_
  refine RGoff1 rfl rfl ?_
  refine R2 (d_pickT rfl) rfl rfl ?_
  refine R1 d_assign rfl ?_
  refine R_nil (by kernel_rfl) ?_
  refine K_then ?_
  refine C_ret ?_
  exact E_retG1 LentC.mk' rfl rfl (Imp.le (Le.bool (sOk_not (by first | (simp; omega) | (simp [*]; done) | (simp [cmpQ_pos, *]; omega) | (simp [cmpQ_pos, *]))))) ⟨rfl, trivial⟩ rfl ⟨⟨rfl, (SupX.lit rfl)⟩, trivial⟩ rfl
 ·
  refine RGon (decide_eq_false h59) rfl (d_fieldO fo39_2 rfl) rfl ⟨rfl, trivial⟩ trivial trivial ?_
  refine RGon (decide_eq_false h59) rfl (d_fieldO fo37_1 rfl) rfl ⟨rfl, trivial⟩ trivial trivial ?_
  refine RGon (decide_eq_false h59) rfl (d_fieldO fo26_0 rfl) rfl ⟨rfl, trivial⟩ trivial trivial ?_
  refine RGon (decide_eq_false h59) rfl (d_fieldO fo24_0 rfl) rfl ⟨rfl, trivial⟩ trivial trivial ?_
  refine RG_loadF (decide_eq_false h59) rfl rfl (0) ti4 rfl rfl rfl (At.t (At.g 2 rfl rfl) (At.t (At.g 1 rfl rfl) (At.t (At.g 0 rfl rfl) (At.g 0 rfl rfl)))) rfl ?_
  refine R2 (d_pickF (decide_eq_false h59)) rfl rfl ?_
  refine R1 d_move rfl ?_
  refine RGcase (t := 15) rfl (fun h59_2 => ?_) (fun h59_2 => ?_)
  ·
   refine RGoff h59_2 rfl rfl ?_
   refine RGoff h59_2 rfl rfl ?_
   refine RGoff h59_2 rfl rfl ?_
   refine RGoff h59_2 rfl rfl ?_
   refine RGoff h59_2 rfl rfl ?_
   refine RGoff h59_2 rfl rfl ?_
   refine R2 (d_pickT h59_2) rfl rfl ?_
   refine R1 d_assign rfl ?_
   refine R_nil (by kernel_rfl) ?_
   refine K_then ?_
   refine C_ret ?_
   exact E_retG1 LentC.mk' rfl rfl (Imp.le (Le.bool (sOk_not (by first | (simp; omega) | (simp [*]; done) | (simp [cmpQ_pos, *]; omega) | (simp [cmpQ_pos, *]))))) ⟨rfl, trivial⟩ rfl ⟨⟨rfl, (SupX.lit rfl)⟩, trivial⟩ rfl
  ·
   refine RGon h59_2 rfl (d_fieldO fo39_2 rfl) rfl ⟨rfl, trivial⟩ trivial trivial ?_
   refine RGon h59_2 rfl (d_fieldO fo37_1 rfl) rfl ⟨rfl, trivial⟩ trivial trivial ?_
   refine RG_loadF h59_2 rfl rfl (0) ti26 rfl rfl rfl (At.t (At.g 2 rfl rfl) (At.g 1 rfl rfl)) rfl ?_
   refine RGon h59_2 rfl (d_load (0) ti26 rfl rfl) rfl ⟨rfl, trivial⟩ ⟨rfl, trivial⟩ trivial ?_
   refine RGon h59_2 rfl (d_call (c_FCmp1 s.v.f hD (num_valid hv (by omega))) fi20 rfl) rfl ⟨rfl, rfl, trivial⟩ trivial trivial ?_
   refine RGon h59_2 rfl d_gtr rfl ⟨rfl, rfl, trivial⟩ trivial trivial ?_
   refine R2 (d_pickF h59_2) rfl rfl ?_
   refine R1 d_assign rfl ?_
   refine R_nil (by kernel_rfl) ?_
   refine K_then ?_
   refine C_ret ?_
   exact E_retG1 LentC.mk' rfl rfl (Imp.le (Le.bool (sOk_not (by first | (simp; omega) | (simp [*]; done) | (simp [cmpQ_pos, *]; omega) | (simp [cmpQ_pos, *]))))) ⟨rfl, trivial⟩ rfl ⟨⟨rfl, (SupX.lit rfl)⟩, trivial⟩ rfl
theorem c_SvIndex (l : List Tst) (hv : ∀ s ∈ l, s.v.valid = true) (hD : ∀ s ∈ l, s.v.f.dig) :
  CtG Tryz.prog 93 [(3, ⟨26, 4, true, [.val (tFr (fr ((1 : Int) : Rat)))]⟩)] [.val (tL 8 true tTs l), .own (.fn 60 [.ptr 3 0])] (.val (tI (ixF (fun s : Tst => !sOk s) l))) [(3, ⟨26, 4, true, [.val (tFr (fr ((1 : Int) : Rat)))]⟩)] [] := by
 refine CtG.intro [3] Tryz.func93 rfl Tryz.ntmps93 rfl rfl ⟨⟨rfl, (SupX.lit rfl)⟩, trivial⟩ ?_
 intro w F η
 refine C_len (s := 0) rfl (fun hl0 => ?_)
 refine C_seq ?_
 refine C_reg ?_
 refine R1 d_assign rfl ?_
 refine R_nil (by kernel_rfl) ?_
 refine K_then ?_
 refine C_seq ?_
 refine C_seq ?_
 refine C_reg ?_
 refine R1 d_move rfl ?_
 refine R1 (d_len Tryz.underlying30) rfl ?_
 refine R1 d_move rfl ?_
 refine R_nil (by kernel_rfl) ?_
 refine K_then ?_
 refine C_block ?_
 refine C_loop (fun (i : Nat) => i ≤ l.length ∧ (l.take i).any (fun s : Tst => !sOk s) = false) (fun (i : Nat) => upd (upd (upd (upd (fun _ => none) 0 (some (.val (tL 8 true tTs l)))) 1 (some (.own (.fn 60 [.ptr 3 0])))) 7 (some (.val (tI l.length)))) 8 (some (.val (tI i)))) (fun (i : Nat) => upd (fun _ => none) 3 (some (⟨26, 4, true, [.val (tFr (fr ((1 : Int) : Rat)))]⟩))) (nm [3]) (fun (i : Nat) => l.length - i) (0) ⟨Nat.zero_le _, rfl⟩ (Sub.int rfl (by first | omega | rfl | (dsimp only; omega)) (Sub.int rfl (by first | omega | rfl | (dsimp only; omega)) (Sub.cons rfl (Sub.cons rfl Sub.nil)))) (SubK.cons rfl SubK.nil) (SupG.val (SupG.val (SupG.own rfl (SupG.val SupG.nil)))) (SupH.cons rfl (supJL rfl) SupH.nil) (lkOk rfl) ?_
 intro i hI
 obtain ⟨hi, ha⟩ := hI
 refine C_seq ?_
 refine C_reg ?_
 refine R2 d_lss rfl rfl ?_
 refine R_nil (by kernel_rfl) ?_
 refine K_then ?_
 refine C_seq ?_
 refine C_if rfl (fun h108 => ?_) (fun h108 => ?_)
 ·
  refine C_skip ?_
  refine K_then ?_
  refine C_seq ?_
  refine C_block ?_
  refine C_seq ?_
  refine C_reg ?_
  refine R1 d_move rfl ?_
  refine R1 d_assign rfl ?_
  refine R_nil (by kernel_rfl) ?_
  refine K_then ?_
  refine C_seq ?_
  refine C_reg ?_
  refine R1 d_move rfl ?_
  refine R1 d_move rfl ?_
  refine R1 d_move rfl ?_
  refine R2 (d_indexP sl30 (i) (by omega) (gD (l := l) (n := i) (d := tst0) (by omega))) rfl rfl ?_
  refine R1 (d_loadP ti39) rfl ?_
  refine RE (d_callCX (ps := [.val (tTs _)]) (caps := [.ptr 3 0]) (fun _ => 3) (c_SvR1 (l.getD i tst0) (hv _ (mem_getD (by omega))) (hD _ (mem_getD (by omega)))) fi60 rfl (krC (ρ := fun _ => 3) (k := 3) rfl (krN (ρ := fun _ => 3))) (krC (ρ := fun _ => 3) (k := 3) rfl (krN (ρ := fun _ => 3))) ⟨⟨rfl, (SupX.lit rfl)⟩, trivial⟩ rfl) ⟨rfl, rfl, trivial⟩ ⟨rfl, trivial⟩ trivial ?_
  refine R_nil (by kernel_rfl) ?_
  refine K_then ?_
  refine C_cond rfl (fun h109 => ?_) (fun h109 => ?_)
  ·
   refine C_seq ?_
   refine C_reg ?_
   refine R1 d_move rfl ?_
   refine R1 d_assign rfl ?_
   refine R_nil (by kernel_rfl) ?_
   refine K_then ?_
   refine C_ret ?_
   refine K_retB ?_
   refine K_retT ?_
   refine K_retT ?_
   refine K_retB ?_
   refine K_retT ?_
   exact E_retG1 LentC.mk' rfl rfl (Imp.int (ixF_at (by omega) ha h109)) ⟨rfl, trivial⟩ rfl ⟨⟨rfl, (SupX.lit rfl)⟩, trivial⟩ rfl
  ·
   refine C_skip ?_
   refine K_norB ?_
   refine K_then ?_
   refine C_reg ?_
   refine R2 (d_add (wr64 (by omega) (by omega))) rfl rfl ?_
   refine R1 d_move rfl ?_
   refine R_nil (by kernel_rfl) ?_
   exact K_fam (i + 1) ⟨⟨by omega, by rw [any_next (by omega), ha, h109]; rfl⟩, (by omega)⟩ (Sub.int rfl (by first | omega | rfl | (dsimp only; omega)) (Sub.int rfl (by first | omega | rfl | (dsimp only; omega)) (Sub.cons rfl (Sub.cons rfl Sub.nil)))) (SubK.cons rfl SubK.nil) (SupG.val (SupG.val (SupG.own rfl (SupG.val SupG.nil)))) (SupH.cons rfl (supJL rfl) SupH.nil) (lkOk rfl)
 ·
  refine C_exit ?_
  refine K_exT ?_
  refine K_exT ?_
  refine K_exB ?_
  refine K_then ?_
  refine C_seq ?_
  refine C_reg ?_
  refine R1 d_assign rfl ?_
  refine R_nil (by kernel_rfl) ?_
  refine K_then ?_
  refine C_ret ?_
  exact E_retG1 LentC.mk' rfl rfl (Imp.int (ixF_end (by rw [← ha, show i = l.length by omega, List.take_length]))) ⟨rfl, trivial⟩ rfl ⟨⟨rfl, (SupX.lit rfl)⟩, trivial⟩ rfl
theorem c_SvContains (l : List Tst) (hv : ∀ s ∈ l, s.v.valid = true) (hD : ∀ s ∈ l, s.v.f.dig) :
  CtG Tryz.prog 59 [(3, ⟨26, 4, true, [.val (tFr (fr ((1 : Int) : Rat)))]⟩)] [.val (tL 8 true tTs l), .own (.fn 60 [.ptr 3 0])] (.val (tB (l.any (fun s : Tst => !sOk s)))) [(3, ⟨26, 4, true, [.val (tFr (fr ((1 : Int) : Rat)))]⟩)] [] := by
 refine CtG.intro [3] Tryz.func59 rfl Tryz.ntmps59 rfl rfl ⟨⟨rfl, (SupX.lit rfl)⟩, trivial⟩ ?_
 intro w F η
 refine C_seq ?_
 refine C_reg ?_
 refine R1 d_assign rfl ?_
 refine R_nil (by kernel_rfl) ?_
 refine K_then ?_
 refine C_seq ?_
 refine C_reg ?_
 refine R1 d_move rfl ?_
 refine R1 d_move rfl ?_
 refine RE (d_callGX (fun _ => 3) (c_SvIndex l hv hD) fi93 rfl (krC (ρ := fun _ => 3) (k := 3) rfl (krN (ρ := fun _ => 3))) (krC (ρ := fun _ => 3) (k := 3) rfl (krN (ρ := fun _ => 3))) ⟨⟨rfl, (SupX.lit rfl)⟩, trivial⟩ rfl) ⟨rfl, rfl, trivial⟩ ⟨rfl, trivial⟩ trivial ?_
 refine R2 d_geq rfl rfl ?_
 refine R1 d_assign rfl ?_
 refine R_nil (by kernel_rfl) ?_
 refine K_then ?_
 refine C_ret ?_
 exact E_retG1 LentC.mk' rfl rfl (Imp.le (Le.bool ixF_any)) ⟨rfl, trivial⟩ rfl ⟨⟨rfl, (SupX.lit rfl)⟩, trivial⟩ rfl
theorem c_SvRight (l : List Tst) (hD : ∀ s ∈ l, s.v.f.dig) :
  Ct Tryz.prog 27 [tL 8 true tTs l] (tB (sRight l)) := by
 refine Ct.intro Tryz.func27 rfl Tryz.ntmps27 rfl ?_
 intro w F
 refine C_seq ?_
 refine C_reg ?_
 refine R1 d_assign rfl ?_
 refine R_nil (by kernel_rfl) ?_
 refine K_then ?_
 refine C_seq ?_
 refine C_seq ?_
 refine C_reg ?_
 refine R1 d_move rfl ?_
 refine R1 (d_call (c_TRight l hD) fi58 rfl) rfl ?_
 refine R1 d_not rfl ?_
 refine R_nil (by kernel_rfl) ?_
 refine K_then ?_
 refine C_cond rfl (fun h54 => ?_) (fun h54 => ?_)
 ·
  refine C_seq ?_
  refine C_reg ?_
  refine R1 d_assign rfl ?_
  refine R_nil (by kernel_rfl) ?_
  refine K_then ?_
  refine C_ret ?_
  refine K_retT ?_
  exact E_ret1 Plain.mk' rfl rfl (Le.bool (by rw [sRight, show tRight l = false by simpa using h54]; rfl))
 ·
  have ht : tRight l = true := by simpa using h54
  have hv := tRight_valid ht
  refine C_skip ?_
  refine K_then ?_
  refine C_seq ?_
  refine C_reg ?_
  refine R1 (d_call (c_FFromInt 1 (by decide) (by decide)) fi43 rfl) rfl ?_
  refine RE (d_alloc (k := 3) (n := 4) (agg := true) zr26.1 zr26.2 rfl) trivial trivial ⟨rfl, trivial⟩ ?_
  refine RE (d_store (es := 4) (agg := true) (0) ti26 rfl rfl rfl) ⟨rfl, rfl, trivial⟩ ⟨rfl, trivial⟩ trivial ?_
  refine R_nil (by kernel_rfl) ?_
  refine K_then ?_
  refine C_seq ?_
  refine C_reg ?_
  refine R1 d_move rfl ?_
  refine R1 (d_makeFunc (ps := [.ptr 3 0]) rfl) rfl ?_
  refine RE (d_callGX (fun _ => 3) (c_SvContains l hv hD) fi59 rfl (krC (ρ := fun _ => 3) (k := 3) rfl (krN (ρ := fun _ => 3))) (krC (ρ := fun _ => 3) (k := 3) rfl (krN (ρ := fun _ => 3))) ⟨⟨rfl, (SupX.lit rfl)⟩, trivial⟩ rfl) ⟨rfl, rfl, trivial⟩ ⟨rfl, trivial⟩ trivial ?_
  refine R1 d_not rfl ?_
  refine R1 d_assign rfl ?_
  refine R_nil (by kernel_rfl) ?_
  refine K_then ?_
  refine C_ret ?_
  exact E_ret1 Plain.mk' rfl rfl (Le.bool (by rw [sRight, ht, Bool.true_and, ← all_any2]))
abbrev tRec (l : List Tst) (a b : Int) : Ty := tS [⟨2, true, tSn ⟨a, b⟩⟩, ⟨1, false, tL 8 true tTs l⟩]
def askB (l : List Tst) (a b : Int) : Bool := sRight l && decide (0 ≤ a) && decide (a ≤ 65536) && decide (0 ≤ b) && decide (b ≤ 65536)
theorem askB_iff {l : List Tst} {a b : Int} : askB l a b = true ↔ sRight l = true ∧ 0 ≤ a ∧ a ≤ 65536 ∧ 0 ≤ b ∧ b ≤ 65536 := by
  simp only [askB, Bool.and_eq_true, decide_eq_true_eq, and_assoc]
theorem c_asked (l : List Tst) (a b : Int) (hD : ∀ s ∈ l, s.v.f.dig) :
  Ct Tryz.prog 41 [tL 8 true tTs l, tI a, tI b] (tT [tRec l a b, tB (askB l a b)]) := by
 refine Ct.intro Tryz.func41 rfl Tryz.ntmps41 rfl ?_
 intro w F
 refine C_seq ?_
 refine C_reg ?_
 refine RE (d_alloc (k := 6) (n := 3) (agg := true) zr75.1 zr75.2 rfl) trivial trivial ⟨rfl, trivial⟩ ?_
 refine R1 d_assign rfl ?_
 refine R_nil (by kernel_rfl) ?_
 refine K_then ?_
 refine C_seq ?_
 refine C_reg ?_
 refine R1 d_move rfl ?_
 refine R1 (d_call (c_SvRight l hD) fi27 rfl) rfl ?_
 refine R1 d_move rfl ?_
 refine RGcase (t := 11) rfl (fun h25 => ?_) (fun h25 => ?_)
 ·
  refine RGon h25 rfl d_move rfl ⟨rfl, trivial⟩ trivial trivial ?_
  refine RGon h25 rfl d_leq rfl ⟨rfl, rfl, trivial⟩ trivial trivial ?_
  refine R2 (d_pickT h25) rfl rfl ?_
  refine R1 d_move rfl ?_
  refine RGcaseD (t := 15) rfl (fun h25_2 => ?_) (fun h25_2 => ?_)
  ·
   refine RGon (decide_eq_true h25_2) rfl d_move rfl ⟨rfl, trivial⟩ trivial trivial ?_
   refine RGon (decide_eq_true h25_2) rfl d_leq rfl ⟨rfl, rfl, trivial⟩ trivial trivial ?_
   refine R2 (d_pickT (decide_eq_true h25_2)) rfl rfl ?_
   refine R1 d_move rfl ?_
   refine RGcaseD (t := 19) rfl (fun h25_3 => ?_) (fun h25_3 => ?_)
   ·
    refine RGon (decide_eq_true h25_3) rfl d_move rfl ⟨rfl, trivial⟩ trivial trivial ?_
    refine RGon (decide_eq_true h25_3) rfl d_leq rfl ⟨rfl, rfl, trivial⟩ trivial trivial ?_
    refine R2 (d_pickT (decide_eq_true h25_3)) rfl rfl ?_
    refine R1 d_move rfl ?_
    refine RGcaseD (t := 23) rfl (fun h25_4 => ?_) (fun h25_4 => ?_)
    ·
     refine RGon (decide_eq_true h25_4) rfl d_move rfl ⟨rfl, trivial⟩ trivial trivial ?_
     refine RGon (decide_eq_true h25_4) rfl d_leq rfl ⟨rfl, rfl, trivial⟩ trivial trivial ?_
     refine R2 (d_pickT (decide_eq_true h25_4)) rfl rfl ?_
     refine R1 d_assign rfl ?_
     refine R_nil (by kernel_rfl) ?_
     refine K_then ?_
     refine C_seq ?_
     refine C_reg ?_
     refine R1 d_move rfl ?_
     refine R1 d_move rfl ?_
     refine R2 (d_build (r := tS [⟨1, false, tI a⟩, ⟨1, false, tI b⟩]) (ts := [(0, tI a), (1, tI b)]) bu69 zr69.2 ⟨_, rfl⟩ rfl ⟨_, _, _, _, rfl, Up.f (fs := [⟨1, false, (tE (.int .i64 0))⟩, ⟨1, false, (tE (.int .i64 0))⟩]) (f := ⟨1, false, (tE (.int .i64 0))⟩) (fs' := [⟨1, false, tI a⟩, ⟨1, false, (tE (.int .i64 0))⟩]) 0 rfl rfl rfl, inferInstance, ⟨_, _, _, _, rfl, Up.f (fs := [⟨1, false, tI a⟩, ⟨1, false, (tE (.int .i64 0))⟩]) (f := ⟨1, false, (tE (.int .i64 0))⟩) (fs' := [⟨1, false, tI a⟩, ⟨1, false, tI b⟩]) 1 rfl rfl rfl, inferInstance, Le.refl⟩⟩) rfl rfl ?_
     refine R1 d_move rfl ?_
     refine R2 (d_build (r := tS [⟨2, true, tSn ⟨a, b⟩⟩, ⟨1, false, tL 8 true tTs l⟩]) (ts := [(0, tSn ⟨a, b⟩), (1, tL 8 true tTs l)]) bu75 zr75.2 ⟨_, rfl⟩ rfl ⟨_, _, _, _, rfl, Up.f (fs := [⟨2, true, (tS [⟨1, false, (tE (.int .i64 0))⟩, ⟨1, false, (tE (.int .i64 0))⟩])⟩, ⟨1, false, (tE (.slice none 0 0))⟩]) (f := ⟨2, true, (tS [⟨1, false, (tE (.int .i64 0))⟩, ⟨1, false, (tE (.int .i64 0))⟩])⟩) (fs' := [⟨2, true, tSn ⟨a, b⟩⟩, ⟨1, false, (tE (.slice none 0 0))⟩]) 0 rfl rfl rfl, inferInstance, ⟨_, _, _, _, rfl, Up.f (fs := [⟨2, true, tSn ⟨a, b⟩⟩, ⟨1, false, (tE (.slice none 0 0))⟩]) (f := ⟨1, false, (tE (.slice none 0 0))⟩) (fs' := [⟨2, true, tSn ⟨a, b⟩⟩, ⟨1, false, tL 8 true tTs l⟩]) 1 rfl rfl rfl, inferInstance, Le.refl⟩⟩) rfl rfl ?_
     refine R1 d_move rfl ?_
     refine RE (d_store (es := 3) (agg := true) (0) ti75 rfl rfl rfl) ⟨rfl, rfl, trivial⟩ ⟨rfl, trivial⟩ trivial ?_
     refine R1 d_assign rfl ?_
     refine R_nil (by kernel_rfl) ?_
     refine K_then ?_
     refine C_ret ?_
     exact E_retN Plain.mk' (rs := [.cell 6 75, .tmp 7]) rfl rfl ⟨⟨_, _, _, _, _, rfl, rfl, ti75, Le.refl⟩, ⟨_, rfl, (Le.bool (by simp only [askB]; simp [*]))⟩, trivial⟩
    ·
     refine RGoff (decide_eq_false h25_4) rfl rfl ?_
     refine RGoff (decide_eq_false h25_4) rfl rfl ?_
     refine R2 (d_pickF (decide_eq_false h25_4)) rfl rfl ?_
     refine R1 d_assign rfl ?_
     refine R_nil (by kernel_rfl) ?_
     refine K_then ?_
     refine C_seq ?_
     refine C_reg ?_
     refine R1 d_move rfl ?_
     refine R1 d_move rfl ?_
     refine R2 (d_build (r := tS [⟨1, false, tI a⟩, ⟨1, false, tI b⟩]) (ts := [(0, tI a), (1, tI b)]) bu69 zr69.2 ⟨_, rfl⟩ rfl ⟨_, _, _, _, rfl, Up.f (fs := [⟨1, false, (tE (.int .i64 0))⟩, ⟨1, false, (tE (.int .i64 0))⟩]) (f := ⟨1, false, (tE (.int .i64 0))⟩) (fs' := [⟨1, false, tI a⟩, ⟨1, false, (tE (.int .i64 0))⟩]) 0 rfl rfl rfl, inferInstance, ⟨_, _, _, _, rfl, Up.f (fs := [⟨1, false, tI a⟩, ⟨1, false, (tE (.int .i64 0))⟩]) (f := ⟨1, false, (tE (.int .i64 0))⟩) (fs' := [⟨1, false, tI a⟩, ⟨1, false, tI b⟩]) 1 rfl rfl rfl, inferInstance, Le.refl⟩⟩) rfl rfl ?_
     refine R1 d_move rfl ?_
     refine R2 (d_build (r := tS [⟨2, true, tSn ⟨a, b⟩⟩, ⟨1, false, tL 8 true tTs l⟩]) (ts := [(0, tSn ⟨a, b⟩), (1, tL 8 true tTs l)]) bu75 zr75.2 ⟨_, rfl⟩ rfl ⟨_, _, _, _, rfl, Up.f (fs := [⟨2, true, (tS [⟨1, false, (tE (.int .i64 0))⟩, ⟨1, false, (tE (.int .i64 0))⟩])⟩, ⟨1, false, (tE (.slice none 0 0))⟩]) (f := ⟨2, true, (tS [⟨1, false, (tE (.int .i64 0))⟩, ⟨1, false, (tE (.int .i64 0))⟩])⟩) (fs' := [⟨2, true, tSn ⟨a, b⟩⟩, ⟨1, false, (tE (.slice none 0 0))⟩]) 0 rfl rfl rfl, inferInstance, ⟨_, _, _, _, rfl, Up.f (fs := [⟨2, true, tSn ⟨a, b⟩⟩, ⟨1, false, (tE (.slice none 0 0))⟩]) (f := ⟨1, false, (tE (.slice none 0 0))⟩) (fs' := [⟨2, true, tSn ⟨a, b⟩⟩, ⟨1, false, tL 8 true tTs l⟩]) 1 rfl rfl rfl, inferInstance, Le.refl⟩⟩) rfl rfl ?_
     refine R1 d_move rfl ?_
     refine RE (d_store (es := 3) (agg := true) (0) ti75 rfl rfl rfl) ⟨rfl, rfl, trivial⟩ ⟨rfl, trivial⟩ trivial ?_
     refine R1 d_assign rfl ?_
     refine R_nil (by kernel_rfl) ?_
     refine K_then ?_
     refine C_ret ?_
     exact E_retN Plain.mk' (rs := [.cell 6 75, .tmp 7]) rfl rfl ⟨⟨_, _, _, _, _, rfl, rfl, ti75, Le.refl⟩, ⟨_, rfl, (Le.bool (by simp only [askB]; simp [*]))⟩, trivial⟩
   ·
    refine RGoff (decide_eq_false h25_3) rfl rfl ?_
    refine RGoff (decide_eq_false h25_3) rfl rfl ?_
    refine R2 (d_pickF (decide_eq_false h25_3)) rfl rfl ?_
    refine R1 d_move rfl ?_
    refine RGoff0 rfl rfl ?_
    refine RGoff0 rfl rfl ?_
    refine R2 (d_pickF rfl) rfl rfl ?_
    refine R1 d_assign rfl ?_
    refine R_nil (by kernel_rfl) ?_
    refine K_then ?_
    refine C_seq ?_
    refine C_reg ?_
    refine R1 d_move rfl ?_
    refine R1 d_move rfl ?_
    refine R2 (d_build (r := tS [⟨1, false, tI a⟩, ⟨1, false, tI b⟩]) (ts := [(0, tI a), (1, tI b)]) bu69 zr69.2 ⟨_, rfl⟩ rfl ⟨_, _, _, _, rfl, Up.f (fs := [⟨1, false, (tE (.int .i64 0))⟩, ⟨1, false, (tE (.int .i64 0))⟩]) (f := ⟨1, false, (tE (.int .i64 0))⟩) (fs' := [⟨1, false, tI a⟩, ⟨1, false, (tE (.int .i64 0))⟩]) 0 rfl rfl rfl, inferInstance, ⟨_, _, _, _, rfl, Up.f (fs := [⟨1, false, tI a⟩, ⟨1, false, (tE (.int .i64 0))⟩]) (f := ⟨1, false, (tE (.int .i64 0))⟩) (fs' := [⟨1, false, tI a⟩, ⟨1, false, tI b⟩]) 1 rfl rfl rfl, inferInstance, Le.refl⟩⟩) rfl rfl ?_
    refine R1 d_move rfl ?_
    refine R2 (d_build (r := tS [⟨2, true, tSn ⟨a, b⟩⟩, ⟨1, false, tL 8 true tTs l⟩]) (ts := [(0, tSn ⟨a, b⟩), (1, tL 8 true tTs l)]) bu75 zr75.2 ⟨_, rfl⟩ rfl ⟨_, _, _, _, rfl, Up.f (fs := [⟨2, true, (tS [⟨1, false, (tE (.int .i64 0))⟩, ⟨1, false, (tE (.int .i64 0))⟩])⟩, ⟨1, false, (tE (.slice none 0 0))⟩]) (f := ⟨2, true, (tS [⟨1, false, (tE (.int .i64 0))⟩, ⟨1, false, (tE (.int .i64 0))⟩])⟩) (fs' := [⟨2, true, tSn ⟨a, b⟩⟩, ⟨1, false, (tE (.slice none 0 0))⟩]) 0 rfl rfl rfl, inferInstance, ⟨_, _, _, _, rfl, Up.f (fs := [⟨2, true, tSn ⟨a, b⟩⟩, ⟨1, false, (tE (.slice none 0 0))⟩]) (f := ⟨1, false, (tE (.slice none 0 0))⟩) (fs' := [⟨2, true, tSn ⟨a, b⟩⟩, ⟨1, false, tL 8 true tTs l⟩]) 1 rfl rfl rfl, inferInstance, Le.refl⟩⟩) rfl rfl ?_
    refine R1 d_move rfl ?_
    refine RE (d_store (es := 3) (agg := true) (0) ti75 rfl rfl rfl) ⟨rfl, rfl, trivial⟩ ⟨rfl, trivial⟩ trivial ?_
    refine R1 d_assign rfl ?_
    refine R_nil (by kernel_rfl) ?_
    refine K_then ?_
    refine C_ret ?_
    exact E_retN Plain.mk' (rs := [.cell 6 75, .tmp 7]) rfl rfl ⟨⟨_, _, _, _, _, rfl, rfl, ti75, Le.refl⟩, ⟨_, rfl, (Le.bool (by simp only [askB]; simp [*]))⟩, trivial⟩
  ·
   refine RGoff (decide_eq_false h25_2) rfl rfl ?_
   refine RGoff (decide_eq_false h25_2) rfl rfl ?_
   refine R2 (d_pickF (decide_eq_false h25_2)) rfl rfl ?_
   refine R1 d_move rfl ?_
   refine RGoff0 rfl rfl ?_
   refine RGoff0 rfl rfl ?_
   refine R2 (d_pickF rfl) rfl rfl ?_
   refine R1 d_move rfl ?_
   refine RGoff0 rfl rfl ?_
   refine RGoff0 rfl rfl ?_
   refine R2 (d_pickF rfl) rfl rfl ?_
   refine R1 d_assign rfl ?_
   refine R_nil (by kernel_rfl) ?_
   refine K_then ?_
   refine C_seq ?_
   refine C_reg ?_
   refine R1 d_move rfl ?_
   refine R1 d_move rfl ?_
   refine R2 (d_build (r := tS [⟨1, false, tI a⟩, ⟨1, false, tI b⟩]) (ts := [(0, tI a), (1, tI b)]) bu69 zr69.2 ⟨_, rfl⟩ rfl ⟨_, _, _, _, rfl, Up.f (fs := [⟨1, false, (tE (.int .i64 0))⟩, ⟨1, false, (tE (.int .i64 0))⟩]) (f := ⟨1, false, (tE (.int .i64 0))⟩) (fs' := [⟨1, false, tI a⟩, ⟨1, false, (tE (.int .i64 0))⟩]) 0 rfl rfl rfl, inferInstance, ⟨_, _, _, _, rfl, Up.f (fs := [⟨1, false, tI a⟩, ⟨1, false, (tE (.int .i64 0))⟩]) (f := ⟨1, false, (tE (.int .i64 0))⟩) (fs' := [⟨1, false, tI a⟩, ⟨1, false, tI b⟩]) 1 rfl rfl rfl, inferInstance, Le.refl⟩⟩) rfl rfl ?_
   refine R1 d_move rfl ?_
   refine R2 (d_build (r := tS [⟨2, true, tSn ⟨a, b⟩⟩, ⟨1, false, tL 8 true tTs l⟩]) (ts := [(0, tSn ⟨a, b⟩), (1, tL 8 true tTs l)]) bu75 zr75.2 ⟨_, rfl⟩ rfl ⟨_, _, _, _, rfl, Up.f (fs := [⟨2, true, (tS [⟨1, false, (tE (.int .i64 0))⟩, ⟨1, false, (tE (.int .i64 0))⟩])⟩, ⟨1, false, (tE (.slice none 0 0))⟩]) (f := ⟨2, true, (tS [⟨1, false, (tE (.int .i64 0))⟩, ⟨1, false, (tE (.int .i64 0))⟩])⟩) (fs' := [⟨2, true, tSn ⟨a, b⟩⟩, ⟨1, false, (tE (.slice none 0 0))⟩]) 0 rfl rfl rfl, inferInstance, ⟨_, _, _, _, rfl, Up.f (fs := [⟨2, true, tSn ⟨a, b⟩⟩, ⟨1, false, (tE (.slice none 0 0))⟩]) (f := ⟨1, false, (tE (.slice none 0 0))⟩) (fs' := [⟨2, true, tSn ⟨a, b⟩⟩, ⟨1, false, tL 8 true tTs l⟩]) 1 rfl rfl rfl, inferInstance, Le.refl⟩⟩) rfl rfl ?_
   refine R1 d_move rfl ?_
   refine RE (d_store (es := 3) (agg := true) (0) ti75 rfl rfl rfl) ⟨rfl, rfl, trivial⟩ ⟨rfl, trivial⟩ trivial ?_
   refine R1 d_assign rfl ?_
   refine R_nil (by kernel_rfl) ?_
   refine K_then ?_
   refine C_ret ?_
   exact E_retN Plain.mk' (rs := [.cell 6 75, .tmp 7]) rfl rfl ⟨⟨_, _, _, _, _, rfl, rfl, ti75, Le.refl⟩, ⟨_, rfl, (Le.bool (by simp only [askB]; simp [*]))⟩, trivial⟩
 ·
  refine RGoff h25 rfl rfl ?_
  refine RGoff h25 rfl rfl ?_
  refine R2 (d_pickF h25) rfl rfl ?_
  refine R1 d_move rfl ?_
  refine RGoff0 rfl rfl ?_
  refine RGoff0 rfl rfl ?_
  refine R2 (d_pickF rfl) rfl rfl ?_
  refine R1 d_move rfl ?_
  refine RGoff0 rfl rfl ?_
  refine RGoff0 rfl rfl ?_
  refine R2 (d_pickF rfl) rfl rfl ?_
  refine R1 d_move rfl ?_
  refine RGoff0 rfl rfl ?_
  refine RGoff0 rfl rfl ?_
  refine R2 (d_pickF rfl) rfl rfl ?_
  refine R1 d_assign rfl ?_
  refine R_nil (by kernel_rfl) ?_
  refine K_then ?_
  refine C_seq ?_
  refine C_reg ?_
  refine R1 d_move rfl ?_
  refine R1 d_move rfl ?_
  refine R2 (d_build (r := tS [⟨1, false, tI a⟩, ⟨1, false, tI b⟩]) (ts := [(0, tI a), (1, tI b)]) bu69 zr69.2 ⟨_, rfl⟩ rfl ⟨_, _, _, _, rfl, Up.f (fs := [⟨1, false, (tE (.int .i64 0))⟩, ⟨1, false, (tE (.int .i64 0))⟩]) (f := ⟨1, false, (tE (.int .i64 0))⟩) (fs' := [⟨1, false, tI a⟩, ⟨1, false, (tE (.int .i64 0))⟩]) 0 rfl rfl rfl, inferInstance, ⟨_, _, _, _, rfl, Up.f (fs := [⟨1, false, tI a⟩, ⟨1, false, (tE (.int .i64 0))⟩]) (f := ⟨1, false, (tE (.int .i64 0))⟩) (fs' := [⟨1, false, tI a⟩, ⟨1, false, tI b⟩]) 1 rfl rfl rfl, inferInstance, Le.refl⟩⟩) rfl rfl ?_
  refine R1 d_move rfl ?_
  refine R2 (d_build (r := tS [⟨2, true, tSn ⟨a, b⟩⟩, ⟨1, false, tL 8 true tTs l⟩]) (ts := [(0, tSn ⟨a, b⟩), (1, tL 8 true tTs l)]) bu75 zr75.2 ⟨_, rfl⟩ rfl ⟨_, _, _, _, rfl, Up.f (fs := [⟨2, true, (tS [⟨1, false, (tE (.int .i64 0))⟩, ⟨1, false, (tE (.int .i64 0))⟩])⟩, ⟨1, false, (tE (.slice none 0 0))⟩]) (f := ⟨2, true, (tS [⟨1, false, (tE (.int .i64 0))⟩, ⟨1, false, (tE (.int .i64 0))⟩])⟩) (fs' := [⟨2, true, tSn ⟨a, b⟩⟩, ⟨1, false, (tE (.slice none 0 0))⟩]) 0 rfl rfl rfl, inferInstance, ⟨_, _, _, _, rfl, Up.f (fs := [⟨2, true, tSn ⟨a, b⟩⟩, ⟨1, false, (tE (.slice none 0 0))⟩]) (f := ⟨1, false, (tE (.slice none 0 0))⟩) (fs' := [⟨2, true, tSn ⟨a, b⟩⟩, ⟨1, false, tL 8 true tTs l⟩]) 1 rfl rfl rfl, inferInstance, Le.refl⟩⟩) rfl rfl ?_
  refine R1 d_move rfl ?_
  refine RE (d_store (es := 3) (agg := true) (0) ti75 rfl rfl rfl) ⟨rfl, rfl, trivial⟩ ⟨rfl, trivial⟩ trivial ?_
  refine R1 d_assign rfl ?_
  refine R_nil (by kernel_rfl) ?_
  refine K_then ?_
  refine C_ret ?_
  exact E_retN Plain.mk' (rs := [.cell 6 75, .tmp 7]) rfl rfl ⟨⟨_, _, _, _, _, rfl, rfl, ti75, Le.refl⟩, ⟨_, rfl, (Le.bool (by simp only [askB]; simp [*]))⟩, trivial⟩
theorem c_none (l : List Tst) (a b : Int) :
  Ct Tryz.prog 42 [tRec l a b] (tB (decide (b ≤ a))) := by
 refine Ct.intro Tryz.func42 rfl Tryz.ntmps42 rfl ?_
 intro w F
 refine C_seq ?_
 refine C_reg ?_
 refine RE (d_box (k := 1) ti75 rfl) ⟨rfl, trivial⟩ trivial ⟨rfl, trivial⟩ ?_
 refine R1 d_assign rfl ?_
 refine R_nil (by kernel_rfl) ?_
 refine K_then ?_
 refine C_seq ?_
 refine C_reg ?_
 refine R1 (d_fieldO fo75_0 rfl) rfl ?_
 refine R1 (d_fieldO fo69_1 rfl) rfl ?_
 refine R_loadF (0) ti3 rfl rfl rfl (At.t (At.g 0 rfl rfl) (At.g 1 rfl rfl)) rfl ?_
 refine R1 (d_fieldO fo75_0 rfl) rfl ?_
 refine R1 (d_fieldO fo69_0 rfl) rfl ?_
 refine R_loadF (0) ti3 rfl rfl rfl (At.t (At.g 0 rfl rfl) (At.g 0 rfl rfl)) rfl ?_
 refine R2 d_leq rfl rfl ?_
 refine R1 d_assign rfl ?_
 refine R_nil (by kernel_rfl) ?_
 refine K_then ?_
 refine C_ret ?_
 exact E_ret1 Plain.mk' rfl rfl Le.refl
/-- No working day of the days asked for. -/
def idle (a b : Int) (s : Tst) : Bool := decide (s.v.f.n.l.length = 0) || decide (s.hi ≤ a) || decide (b ≤ s.lo)
theorem idle_iff {a b : Int} {s : Tst} : idle a b s = true ↔ (s.v.f.n.l.length : Int) = 0 ∨ s.hi ≤ a ∨ b ≤ s.lo := by
  simp only [idle, Bool.or_eq_true, decide_eq_true_eq, or_assoc]; omega
theorem idle_eq {a b : Int} {s : Tst} {c : Bool} (h : c = true ↔ (s.v.f.n.l.length : Int) = 0 ∨ s.hi ≤ a ∨ b ≤ s.lo) : c = idle a b s := Bool.eq_iff_iff.2 (h.trans idle_iff.symm)
def clipS (a b : Int) (s : Tst) : Sn := ⟨max s.lo a, min s.hi b⟩
def wkS (l : List Tst) (a b : Int) : List Sn := (l.filter fun s => !idle a b s).map (clipS a b)
def wkd (l : List Tst) (a b : Int) : List Sn := if b ≤ a then [] else if (wkS l a b).all Sn.ok = true then mkS (wkS l a b) else []
theorem wkS_next {l : List Tst} {a b : Int} {i : Nat} (hi : i < l.length) : wkS (l.take (i + 1)) a b = wkS (l.take i) a b ++ (if idle a b (l.getD i tst0) then [] else [clipS a b (l.getD i tst0)]) := by
  rw [wkS, List.take_succ_eq_append_getElem hi, List.filter_append, List.map_append, List.getD_eq_getElem?_getD, List.getElem?_eq_getElem hi]
  by_cases h : idle a b l[i] = true <;> simp [h, wkS]
theorem wkS_len {l : List Tst} {a b : Int} : (wkS l a b).length ≤ l.length := by
  rw [wkS, List.length_map]; exact List.length_filter_le _ _
theorem c_idle (l : List Tst) (a b : Int) (s : Tst) :
  CtG Tryz.prog 88 [(1, ⟨75, 3, true, [.val (tRec l a b)]⟩)] [.val (tTs s), .own (.ptr 1 0)] (.val (tB (idle a b s))) [(1, ⟨75, 3, true, [.val (tRec l a b)]⟩)] [] := by
 refine CtG.intro [1] Tryz.func88 rfl Tryz.ntmps88 rfl rfl ⟨⟨rfl, (SupX.lit rfl)⟩, trivial⟩ ?_
 intro w F η
 refine C_seq ?_
 refine C_reg ?_
 refine RE (d_box (k := 2) ti39 rfl) ⟨rfl, trivial⟩ trivial ⟨rfl, trivial⟩ ?_
 refine R1 d_assign rfl ?_
 refine R_nil (by kernel_rfl) ?_
 refine K_then ?_
 refine C_seq ?_
 refine C_reg ?_
 refine R1 (d_fieldO fo39_2 rfl) rfl ?_
 refine R1 (d_fieldO fo37_1 rfl) rfl ?_
 refine R1 (d_fieldO fo26_0 rfl) rfl ?_
 refine R1 (d_fieldO fo24_1 rfl) rfl ?_
 refine R_loadF (0) ti22 rfl rfl rfl (At.t (At.g 2 rfl rfl) (At.t (At.g 1 rfl rfl) (At.t (At.g 0 rfl rfl) (At.g 1 rfl rfl)))) rfl ?_
 refine R1 (d_len Tryz.underlying22) rfl ?_
 refine R2 d_eql rfl rfl ?_
 refine R1 d_move rfl ?_
 refine RGcaseD (t := 11) rfl (fun h40 => ?_) (fun h40 => ?_)
 ·
  refine RGoff (decide_eq_true h40) rfl rfl ?_
  refine RGoff (decide_eq_true h40) rfl rfl ?_
  refine RGoff (decide_eq_true h40) rfl rfl ?_
  refine RGoff (decide_eq_true h40) rfl rfl ?_
  refine RGoff (decide_eq_true h40) rfl rfl ?_
  refine RGoff (decide_eq_true h40) rfl rfl ?_
  refine R2 (d_pickT (decide_eq_true h40)) rfl rfl ?_
  refine R1 d_move rfl ?_
  refine RGoff1 rfl rfl ?_
  refine RGoff1 rfl rfl ?_
  refine RGoff1 rfl rfl ?_
  refine RGoff1 rfl rfl ?_
  refine RGoff1 rfl rfl ?_
  refine RGoff1 rfl rfl ?_
  refine R2 (d_pickT rfl) rfl rfl ?_
  refine R1 d_assign rfl ?_
  refine R_nil (by kernel_rfl) ?_
  refine K_then ?_
  refine C_ret ?_
  exact E_retG1 LentC.mk' rfl rfl (Imp.le (Le.bool (idle_eq (by (try dsimp only at *); (try first | simp only [true_iff] | simp only [decide_eq_true_eq]); omega)))) ⟨rfl, trivial⟩ rfl ⟨⟨rfl, (SupX.lit rfl)⟩, trivial⟩ rfl
 ·
  refine RGon (decide_eq_false h40) rfl (d_fieldO fo39_1 rfl) rfl ⟨rfl, trivial⟩ trivial trivial ?_
  refine RG_loadF (decide_eq_false h40) rfl rfl (0) ti3 rfl rfl rfl (At.g 1 rfl rfl) rfl ?_
  refine RGon (decide_eq_false h40) rfl (d_fieldO fo75_0 rfl) rfl ⟨rfl, trivial⟩ trivial trivial ?_
  refine RGon (decide_eq_false h40) rfl (d_fieldO fo69_0 rfl) rfl ⟨rfl, trivial⟩ trivial trivial ?_
  refine RG_loadF (decide_eq_false h40) rfl rfl (0) ti3 rfl rfl rfl (At.t (At.g 0 rfl rfl) (At.g 0 rfl rfl)) rfl ?_
  refine RGon (decide_eq_false h40) rfl d_leq rfl ⟨rfl, rfl, trivial⟩ trivial trivial ?_
  refine R2 (d_pickF (decide_eq_false h40)) rfl rfl ?_
  refine R1 d_move rfl ?_
  refine RGcaseD (t := 19) rfl (fun h40_2 => ?_) (fun h40_2 => ?_)
  ·
   refine RGoff (decide_eq_true h40_2) rfl rfl ?_
   refine RGoff (decide_eq_true h40_2) rfl rfl ?_
   refine RGoff (decide_eq_true h40_2) rfl rfl ?_
   refine RGoff (decide_eq_true h40_2) rfl rfl ?_
   refine RGoff (decide_eq_true h40_2) rfl rfl ?_
   refine RGoff (decide_eq_true h40_2) rfl rfl ?_
   refine R2 (d_pickT (decide_eq_true h40_2)) rfl rfl ?_
   refine R1 d_assign rfl ?_
   refine R_nil (by kernel_rfl) ?_
   refine K_then ?_
   refine C_ret ?_
   exact E_retG1 LentC.mk' rfl rfl (Imp.le (Le.bool (idle_eq (by (try dsimp only at *); (try first | simp only [true_iff] | simp only [decide_eq_true_eq]); omega)))) ⟨rfl, trivial⟩ rfl ⟨⟨rfl, (SupX.lit rfl)⟩, trivial⟩ rfl
  ·
   refine RGon (decide_eq_false h40_2) rfl (d_fieldO fo39_0 rfl) rfl ⟨rfl, trivial⟩ trivial trivial ?_
   refine RG_loadF (decide_eq_false h40_2) rfl rfl (0) ti3 rfl rfl rfl (At.g 0 rfl rfl) rfl ?_
   refine RGon (decide_eq_false h40_2) rfl (d_fieldO fo75_0 rfl) rfl ⟨rfl, trivial⟩ trivial trivial ?_
   refine RGon (decide_eq_false h40_2) rfl (d_fieldO fo69_1 rfl) rfl ⟨rfl, trivial⟩ trivial trivial ?_
   refine RG_loadF (decide_eq_false h40_2) rfl rfl (0) ti3 rfl rfl rfl (At.t (At.g 0 rfl rfl) (At.g 1 rfl rfl)) rfl ?_
   refine RGon (decide_eq_false h40_2) rfl d_geq rfl ⟨rfl, rfl, trivial⟩ trivial trivial ?_
   refine R2 (d_pickF (decide_eq_false h40_2)) rfl rfl ?_
   refine R1 d_assign rfl ?_
   refine R_nil (by kernel_rfl) ?_
   refine K_then ?_
   refine C_ret ?_
   exact E_retG1 LentC.mk' rfl rfl (Imp.le (Le.bool (idle_eq (by (try dsimp only at *); (try first | simp only [true_iff] | simp only [decide_eq_true_eq]); omega)))) ⟨rfl, trivial⟩ rfl ⟨⟨rfl, (SupX.lit rfl)⟩, trivial⟩ rfl
theorem c_worked (l : List Tst) (a b : Int) (hl : l.length ≤ 1000000) :
  Ct Tryz.prog 56 [tRec l a b] (tL 2 true tSn (wkd l a b)) := by
 refine Ct.intro Tryz.func56 rfl Tryz.ntmps56 rfl ?_
 intro w F
 refine C_seq ?_
 refine C_reg ?_
 refine RE (d_box (k := 1) ti75 rfl) ⟨rfl, trivial⟩ trivial ⟨rfl, trivial⟩ ?_
 refine R1 d_assign rfl ?_
 refine R_nil (by kernel_rfl) ?_
 refine K_then ?_
 refine C_seq ?_
 refine C_seq ?_
 refine C_reg ?_
 refine RE (d_load (0) ti75 rfl rfl) ⟨rfl, trivial⟩ ⟨rfl, trivial⟩ trivial ?_
 refine R1 (d_call (c_none l a b) fi42 rfl) rfl ?_
 refine R_nil (by kernel_rfl) ?_
 refine K_then ?_
 refine C_if rfl (fun h36 => ?_) (fun h36 => ?_)
 ·
  refine C_seq ?_
  refine C_reg ?_
  refine R1 d_assign rfl ?_
  refine R_nil (by kernel_rfl) ?_
  refine K_then ?_
  refine C_ret ?_
  refine K_retT ?_
  exact E_ret1 Plain.mk' rfl rfl (leNil (by rw [wkd, if_pos h36]))
 ·
  refine C_skip ?_
  refine K_then ?_
  refine C_seq ?_
  refine C_reg ?_
  refine R1 (d_makeFunc (ps := [.ptr 1 0]) rfl) rfl ?_
  refine R1 d_assign rfl ?_
  refine R_nil (by kernel_rfl) ?_
  refine K_then ?_
  refine C_seq ?_
  refine C_reg ?_
  refine RE (d_assignN (k := 4) 69 2 true rfl (fun h => by cases h)) trivial trivial ⟨rfl, trivial⟩ ?_
  refine R_nil (by kernel_rfl) ?_
  refine K_then ?_
  refine C_seq ?_
  refine C_seq ?_
  refine C_reg ?_
  refine R1 (d_fieldO fo75_1 rfl) rfl ?_
  refine R_loadF (0) ti30 rfl rfl rfl (At.g 1 rfl rfl) rfl ?_
  refine R1 (d_len Tryz.underlying30) rfl ?_
  refine R1 d_move rfl ?_
  refine R_nil (by kernel_rfl) ?_
  refine K_then ?_
  refine C_block ?_
  refine C_loop (fun (fm : (Nat) × (List Sn)) => (fun (i : Nat) (xs : List Sn) => i ≤ l.length ∧ xs = wkS (l.take i) a b) fm.1 fm.2) (fun (fm : (Nat) × (List Sn)) => (fun (i : Nat) (xs : List Sn) => upd (upd (upd (upd (upd (upd (fun _ => none) 1 (some (.own (.ptr 1 0)))) 3 (some (.own (.fn 88 [.ptr 1 0])))) 4 (some (.own (.sl 4 2 0 xs.length)))) 13 (some (.val (tL 8 true tTs l)))) 14 (some (.val (tI l.length)))) 15 (some (.val (tI i)))) fm.1 fm.2) (fun (fm : (Nat) × (List Sn)) => (fun (i : Nat) (xs : List Sn) => upd (upd (fun _ => none) 1 (some (⟨75, 3, true, [.val (tRec l a b)]⟩))) 4 (some (⟨69, 2, true, rV tSn xs⟩))) fm.1 fm.2) (nm [1, 4]) (fun (fm : (Nat) × (List Sn)) => (fun (i : Nat) (xs : List Sn) => l.length - i) fm.1 fm.2) ((0, [])) (by dsimp only; exact ⟨Nat.zero_le _, rfl⟩) (Sub.int rfl (by first | omega | rfl | (dsimp only; omega)) (Sub.int rfl (by first | omega | rfl | (dsimp only; omega)) (Sub.cons rfl (Sub.cons rfl (Sub.cons rfl (Sub.cons rfl Sub.nil)))))) ((SubK.consI rfl ImpK.refl) ((SubK.consI rfl ImpK.refl) SubK.nil)) (SupG.val (SupG.val (SupG.val (SupG.own rfl (SupG.own rfl (SupG.own rfl SupG.nil)))))) (SupH.cons rfl (supJ sup_rV) (SupH.cons rfl (supJL rfl) SupH.nil)) (lkOk rfl) ?_
  intro fm hI
  obtain ⟨i, xs⟩ := fm
  replace hI : i ≤ l.length ∧ xs = wkS (l.take i) a b := hI
  show wc _ _ _ _ (upd (upd (upd (upd (upd (upd (fun _ => none) 1 (some (.own (.ptr 1 0)))) 3 (some (.own (.fn 88 [.ptr 1 0])))) 4 (some (.own (.sl 4 2 0 xs.length)))) 13 (some (.val (tL 8 true tTs l)))) 14 (some (.val (tI l.length)))) 15 (some (.val (tI i)))) (upd (upd (fun _ => none) 1 (some (⟨75, 3, true, [.val (tRec l a b)]⟩))) 4 (some (⟨69, 2, true, rV tSn xs⟩))) _
  obtain ⟨hi, hx⟩ := hI
  have hxl : xs.length ≤ i := by
   have h := wkS_len (l := l.take i) (a := a) (b := b)
   rw [← hx, List.length_take] at h; omega
  refine C_seq ?_
  refine C_reg ?_
  refine R2 d_lss rfl rfl ?_
  refine R_nil (by kernel_rfl) ?_
  refine K_then ?_
  refine C_seq ?_
  refine C_if rfl (fun h43 => ?_) (fun h43 => ?_)
  ·
   refine C_skip ?_
   refine K_then ?_
   refine C_seq ?_
   refine C_block ?_
   refine C_seq ?_
   refine C_reg ?_
   refine R2 (d_indexP sl30 (i) (by omega) (gD (l := l) (n := i) (d := tst0) (by omega))) rfl rfl ?_
   refine R1 (d_loadP ti39) rfl ?_
   refine RE (d_alloc (k := 6) (n := 8) (agg := true) zr39.1 zr39.2 rfl) trivial trivial ⟨rfl, trivial⟩ ?_
   refine RE (d_store (es := 8) (agg := true) (0) ti39 rfl rfl rfl) ⟨rfl, rfl, trivial⟩ ⟨rfl, trivial⟩ trivial ?_
   refine R_nil (by kernel_rfl) ?_
   refine K_then ?_
   refine C_seq ?_
   refine C_reg ?_
   refine R1 d_move rfl ?_
   refine RE (d_load (0) ti39 rfl rfl) ⟨rfl, trivial⟩ ⟨rfl, trivial⟩ trivial ?_
   refine RE (d_callCX (ps := [.val (tTs _)]) (caps := [.ptr 1 0]) (fun _ => 1) (c_idle l a b (l.getD i tst0)) fi88 rfl (krC (ρ := fun _ => 1) (k := 1) rfl (krN (ρ := fun _ => 1))) (krC (ρ := fun _ => 1) (k := 1) rfl (krN (ρ := fun _ => 1))) ⟨⟨rfl, (SupX.lit rfl)⟩, trivial⟩ rfl) ⟨rfl, rfl, trivial⟩ ⟨rfl, trivial⟩ trivial ?_
   refine R1 d_not rfl ?_
   refine R_nil (by kernel_rfl) ?_
   refine K_then ?_
   refine C_cond rfl (fun h44 => ?_) (fun h44 => ?_)
   ·
    refine C_reg ?_
    refine R1 d_move rfl ?_
    refine R1 (d_fieldO fo39_0 rfl) rfl ?_
    refine R_loadF (0) ti3 rfl rfl rfl (At.g 0 rfl rfl) rfl ?_
    refine R1 (d_fieldO fo75_0 rfl) rfl ?_
    refine R1 (d_fieldO fo69_0 rfl) rfl ?_
    refine R_loadF (0) ti3 rfl rfl rfl (At.t (At.g 0 rfl rfl) (At.g 0 rfl rfl)) rfl ?_
    refine R2 d_max2 rfl rfl ?_
    refine R1 (d_fieldO fo39_1 rfl) rfl ?_
    refine R_loadF (0) ti3 rfl rfl rfl (At.g 1 rfl rfl) rfl ?_
    refine R1 (d_fieldO fo75_0 rfl) rfl ?_
    refine R1 (d_fieldO fo69_1 rfl) rfl ?_
    refine R_loadF (0) ti3 rfl rfl rfl (At.t (At.g 0 rfl rfl) (At.g 1 rfl rfl)) rfl ?_
    refine R2 d_min2 rfl rfl ?_
    refine R2 (d_build (r := tS [⟨1, false, tI (max (l.getD i tst0).lo a)⟩, ⟨1, false, tI (min (l.getD i tst0).hi b)⟩]) (ts := [(0, tI (max (l.getD i tst0).lo a)), (1, tI (min (l.getD i tst0).hi b))]) bu69 zr69.2 ⟨_, rfl⟩ rfl ⟨_, _, _, _, rfl, Up.f (fs := [⟨1, false, (tE (.int .i64 0))⟩, ⟨1, false, (tE (.int .i64 0))⟩]) (f := ⟨1, false, (tE (.int .i64 0))⟩) (fs' := [⟨1, false, tI (max (l.getD i tst0).lo a)⟩, ⟨1, false, (tE (.int .i64 0))⟩]) 0 rfl rfl rfl, inferInstance, ⟨_, _, _, _, rfl, Up.f (fs := [⟨1, false, tI (max (l.getD i tst0).lo a)⟩, ⟨1, false, (tE (.int .i64 0))⟩]) (f := ⟨1, false, (tE (.int .i64 0))⟩) (fs' := [⟨1, false, tI (max (l.getD i tst0).lo a)⟩, ⟨1, false, tI (min (l.getD i tst0).hi b)⟩]) 1 rfl rfl rfl, inferInstance, Le.refl⟩⟩) rfl rfl ?_
    refine R1 (d_vals (n := 1) (f := tSn) [(clipS a b (l.getD i tst0))] Tryz.underlying54 el69 zf69 rfl (fun _ => inferInstance) rfl rfl rfl) rfl ?_
    refine RE (d_appendO (k := 4) (k' := 38) (f := tSn) (ys := [(clipS a b (l.getD i tst0))]) (ts' := rV tSn (xs ++ [(clipS a b (l.getD i tst0))])) Tryz.underlying54 el69 zf69 rfl rfl (fun _ => inferInstance) rV_len (by simp; omega) (by simp; omega) (by simp [rV]) (n' := xs.length + 1) rfl) ⟨rfl, rfl, trivial⟩ ⟨rfl, trivial⟩ ⟨rfl, trivial⟩ ?_
    refine R1 d_assign rfl ?_
    refine R_nil (by kernel_rfl) ?_
    refine K_norB ?_
    refine K_then ?_
    refine C_reg ?_
    refine R2 (d_add (wr64 (by omega) (by omega))) rfl rfl ?_
    refine R1 d_move rfl ?_
    refine R_nil (by kernel_rfl) ?_
    exact K_famR (l := [1, 4]) (fun j => cond (Nat.beq j 4) 38 (j)) ((i + 1, xs ++ [(clipS a b (l.getD i tst0))])) ⟨(by dsimp only; exact ⟨by omega, by rw [wkS_next (by omega), ← hx, if_neg (by simpa using h44)]⟩), (by dsimp only; omega)⟩ (SubR.int rfl (by first | omega | rfl | (dsimp only; omega)) (SubR.int rfl (by first | omega | rfl | (dsimp only; omega)) (SubR.cons rfl ((SubR.consI rfl (Imp.of (by dsimp only; rw [List.length_append]; rfl))) (SubR.cons rfl (SubR.cons rfl SubR.nil)))))) ((SubKR.consI rfl (ImpK.of ren_rV.symm)) ((SubKR.consI rfl ImpK.refl) SubKR.nil)) (SupG.val (SupG.val (SupG.val (SupG.own rfl (SupG.own rfl (SupG.own rfl SupG.nil)))))) (SupH.cons rfl (supJ sup_rV) (SupH.cons rfl (supJL rfl) SupH.nil)) (lkOk rfl) rfl rfl (fun _ h => by cases h)
   ·
    refine C_skip ?_
    refine K_norB ?_
    refine K_then ?_
    refine C_reg ?_
    refine R2 (d_add (wr64 (by omega) (by omega))) rfl rfl ?_
    refine R1 d_move rfl ?_
    refine R_nil (by kernel_rfl) ?_
    exact K_fam ((i + 1, xs)) ⟨(by dsimp only; exact ⟨by omega, by rw [wkS_next (by omega), ← hx, if_pos (by simpa using h44), List.append_nil]⟩), (by dsimp only; omega)⟩ (Sub.int rfl (by first | omega | rfl | (dsimp only; omega)) (Sub.int rfl (by first | omega | rfl | (dsimp only; omega)) (Sub.cons rfl (Sub.cons rfl (Sub.cons rfl (Sub.cons rfl Sub.nil)))))) ((SubK.consI rfl ImpK.refl) ((SubK.consI rfl ImpK.refl) SubK.nil)) (SupG.val (SupG.val (SupG.val (SupG.own rfl (SupG.own rfl (SupG.own rfl SupG.nil)))))) (SupH.cons rfl (supJ sup_rV) (SupH.cons rfl (supJL rfl) SupH.nil)) (lkOk rfl)
  ·
   refine C_exit ?_
   refine K_exT ?_
   refine K_exT ?_
   refine K_exB ?_
   refine K_then ?_
   refine C_seq ?_
   refine C_reg ?_
   refine RE (d_moveS (f := tSn) (xs := xs) (fun _ h => h) (rV_all rfl) rfl) ⟨rfl, trivial⟩ ⟨rfl, trivial⟩ trivial ?_
   refine R1 (d_call (c_SnMake xs (by omega)) fi89 rfl) rfl ?_
   refine R1 d_move rfl ?_
   refine R1 (d_extract rfl) rfl ?_
   refine R1 (d_extract rfl) rfl ?_
   refine R1 d_assign rfl ?_
   refine R1 d_assign rfl ?_
   refine R_nil (by kernel_rfl) ?_
   refine K_then ?_
   refine C_seq ?_
   refine C_reg ?_
   refine R1 d_move rfl ?_
   refine R1 d_assign rfl ?_
   refine R_nil (by kernel_rfl) ?_
   refine K_then ?_
   refine C_ret ?_
   exact E_ret1 Plain.mk' rfl rfl (Le.of (by rw [wkd, if_neg h36, hx, show i = l.length by omega, List.take_length]))
end An.S

/- Layer 8: service. -/
namespace An.S
open Go Go.Proofs An
set_option maxHeartbeats 2000000
theorem fi41 : FnI Tryz.prog 41 := ⟨_, Tryz.func41, by kernel_rfl, rfl⟩
theorem fi44 : FnI Tryz.prog 44 := ⟨_, Tryz.func44, by kernel_rfl, rfl⟩
theorem nonneg_of {f : Fr} (hD : f.dig) (hv : f.valid = true) (hn : f.n.neg = false) : 0 ≤ f.rat := by
  obtain ⟨e, _⟩ := Fr.of_valid' hD hv
  rw [e] at hn
  have h1 : ¬ f.rat.num < 0 := of_decide_eq_false hn
  exact Rat.num_nonneg.1 (by omega)
def q4 : Rat := 4 / 1461
theorem fr_q4 : fr q4 = ⟨wh 4, wh 1461⟩ := by
  have h1 : q4.num = 4 := by decide +kernel
  have h2 : q4.den = 1461 := by decide +kernel
  rw [fr, h1, h2]; rfl
theorem len16_small {n : Int} (h1 : -9223372036854775808 ≤ n) (h2 : n ≤ 9223372036854775807) : len16 n ≤ 256 := Nat.le_trans (len16_64 h1 h2) (by decide)
theorem short_q4 : short q4 := by
  have h1 : q4.num = 4 := by decide +kernel
  have h2 : q4.den = 1461 := by decide +kernel
  exact ⟨by rw [h1]; exact len16_small (by decide) (by decide), by rw [h2]; exact len16_small (by decide) (by decide)⟩
theorem c_FMulQ4 (q : Rat) (hq : short q) : Ct Tryz.prog 45 [tFr (fr q), tFr ⟨wh 4, wh 1461⟩] (tT [tFr (resF (q * q4)), tI (resFE (q * q4))]) := by
  have h := c_FMul q q4 hq short_q4
  rw [fr_q4] at h; exact h
theorem c_FMulQ4s {o : Option Rat} {q : Rat} (ho : o = some q) (hq : short q) : Ct Tryz.prog 45 [tFr (sumF o), tFr ⟨wh 4, wh 1461⟩] (tT [tFr (resF (q * q4)), tI (resFE (q * q4))]) := by
  rw [ho]; exact c_FMulQ4 q hq
theorem sum_short : ∀ (l : List Tst) (o : Option Rat), (∀ q, o = some q → short q) → ∀ q, l.foldl sumStep o = some q → short q
  | [], o, ho, q, h => ho q h
  | s :: r, o, ho, q, h => sum_short r (sumStep o s) (fun p hp => by
      cases o with
      | none => cases hp
      | some x =>
        simp only [sumStep] at hp
        split at hp
        · rename_i h2; cases hp; exact h2.2
        · cases hp) q h
theorem sumT_short {l : List Tst} {q : Rat} (h : sumT l = some q) : short q := sum_short l _ (fun p hp => by cases hp; exact short_int (len16_small (by decide) (by decide))) q h
def mulO (q p : Rat) : Option Rat := if short (q * p) then some (q * p) else none
theorem resF_mulO {q p : Rat} : resF (q * p) = sumF (mulO q p) := by rw [resF, mulO]; split <;> rfl
theorem resFE_mulO {q p : Rat} : resFE (q * p) = sumE (mulO q p) := by rw [resFE, mulO]; split <;> rfl
/-- Years of service. -/
def yq (l : List Tst) (a b : Int) : Option Rat := if b ≤ a then some ((0 : Int) : Rat) else (sumT (cutT l a b)).bind fun q => mulO q q4
theorem ask_sum {l : List Tst} {a b : Int} (h : askB l a b = true) (hab : ¬ b ≤ a) : sumC l a b := by
  obtain ⟨h1, h2, h3, h4, h5⟩ := askB_iff.1 h
  simp only [sRight, Bool.and_eq_true, List.all_eq_true] at h1
  refine ⟨⟨h1.1, by simp [Sn.ok]; omega⟩, ?_⟩
  rcases Nat.eq_zero_or_pos l.length with h0 | h0
  · exact .inl h0
  · have := h1.2 _ (mem_getD (l := l) h0)
    simp only [sOk, Bool.and_eq_true, decide_eq_true_eq] at this
    exact .inr (.inl this.1.1)
theorem sumF_short {o : Option Rat} (h : ∀ q, o = some q → short q) : sumE o = 0 → ∃ q, o = some q ∧ short q := by
  cases o with
  | none => intro h; cases h
  | some q => intro _; exact ⟨q, rfl, h q rfl⟩
theorem yq_short {l : List Tst} {a b : Int} {q : Rat} (h : yq l a b = some q) : short q := by
  rw [yq] at h
  split at h
  · cases h; exact short_int (len16_small (by decide) (by decide))
  · cases hs : sumT (cutT l a b) with
    | none => rw [hs] at h; cases h
    | some x =>
      rw [hs, Option.bind_some, mulO] at h
      split at h
      · cases h; assumption
      · cases h
theorem c_TSumOk (l : List Tst) (a b : Int) (hl : l.length ≤ 500000) (hD : ∀ s ∈ l, s.v.f.dig) (h : sumC l a b) : Ct Tryz.prog 44 [tL 8 true tTs l, tI a, tI b] (tT [tFr (sumF (sumT (cutT l a b))), tI (sumE (sumT (cutT l a b)))]) := by
  have := c_TSum l a b hl hD
  rw [if_pos h, if_pos h] at this; exact this
theorem c_Years (l : List Tst) (a b : Int) (hl : l.length ≤ 500000) (hD : ∀ s ∈ l, s.v.f.dig) :
  Ct Tryz.prog 15 [tL 8 true tTs l, tI a, tI b] (tT [tFr (if askB l a b = true then sumF (yq l a b) else fr0), tI (if askB l a b = true then sumE (yq l a b) else 2)]) := by
 refine Ct.intro Tryz.func15 rfl Tryz.ntmps15 rfl ?_
 intro w F
 refine C_seq ?_
 refine C_reg ?_
 refine RE (d_alloc (k := 6) (n := 4) (agg := true) zr26.1 zr26.2 rfl) trivial trivial ⟨rfl, trivial⟩ ?_
 refine R1 d_assign rfl ?_
 refine R_nil (by kernel_rfl) ?_
 refine K_then ?_
 refine C_seq ?_
 refine C_reg ?_
 refine R1 d_move rfl ?_
 refine R1 d_move rfl ?_
 refine R1 d_move rfl ?_
 refine R3 (d_call (c_asked l a b hD) fi41 rfl) rfl rfl rfl ?_
 refine R1 d_move rfl ?_
 refine R1 (d_extract rfl) rfl ?_
 refine R1 (d_extract rfl) rfl ?_
 refine RE (d_alloc (k := 8) (n := 3) (agg := true) zr75.1 zr75.2 rfl) trivial trivial ⟨rfl, trivial⟩ ?_
 refine RE (d_store (es := 3) (agg := true) (0) ti75 rfl rfl rfl) ⟨rfl, rfl, trivial⟩ ⟨rfl, trivial⟩ trivial ?_
 refine R1 d_assign rfl ?_
 refine R_nil (by kernel_rfl) ?_
 refine K_then ?_
 refine C_seq ?_
 refine C_seq ?_
 refine C_reg ?_
 refine R1 d_move rfl ?_
 refine R1 d_not rfl ?_
 refine R_nil (by kernel_rfl) ?_
 refine K_then ?_
 refine C_cond rfl (fun h66 => ?_) (fun h66 => ?_)
 ·
  have hk : ¬ askB l a b = true := by simpa using h66
  refine C_seq ?_
  refine C_reg ?_
  refine R0 (d_build (r := tS [⟨2, true, (tS [⟨1, false, (tE (.bool false))⟩, ⟨1, false, (tLm [])⟩])⟩, ⟨2, true, (tS [⟨1, false, (tE (.bool false))⟩, ⟨1, false, (tLm [])⟩])⟩]) (ts := []) bu26 zr26.2 ⟨_, rfl⟩ rfl Le.refl)  ?_
  refine RE (d_store (es := 4) (agg := true) (0) ti26 rfl rfl rfl) ⟨rfl, rfl, trivial⟩ ⟨rfl, trivial⟩ trivial ?_
  refine R1 d_assign rfl ?_
  refine R_nil (by kernel_rfl) ?_
  refine K_then ?_
  refine C_ret ?_
  refine K_retT ?_
  exact E_retN Plain.mk' (rs := [.cell 6 26, .tmp 7]) rfl rfl ⟨⟨_, _, _, _, _, rfl, rfl, ti26, (Le.of (by rw [if_neg hk]; rfl))⟩, ⟨_, rfl, (Le.int (by rw [if_neg hk]))⟩, trivial⟩
 ·
  have hk : askB l a b = true := by simpa using h66
  refine C_skip ?_
  refine K_then ?_
  refine C_seq ?_
  refine C_seq ?_
  refine C_reg ?_
  refine RE (d_load (0) ti75 rfl rfl) ⟨rfl, trivial⟩ ⟨rfl, trivial⟩ trivial ?_
  refine R1 (d_call (c_none l a b) fi42 rfl) rfl ?_
  refine R_nil (by kernel_rfl) ?_
  refine K_then ?_
  refine C_if rfl (fun h69 => ?_) (fun h69 => ?_)
  ·
   refine C_seq ?_
   refine C_reg ?_
   refine R1 (d_call (c_FFromInt 0 (by decide) (by decide)) fi43 rfl) rfl ?_
   refine RE (d_store (es := 4) (agg := true) (0) ti26 rfl rfl rfl) ⟨rfl, rfl, trivial⟩ ⟨rfl, trivial⟩ trivial ?_
   refine R1 d_assign rfl ?_
   refine R_nil (by kernel_rfl) ?_
   refine K_then ?_
   refine C_ret ?_
   refine K_retT ?_
   exact E_retN Plain.mk' (rs := [.cell 6 26, .tmp 7]) rfl rfl ⟨⟨_, _, _, _, _, rfl, rfl, ti26, (Le.of (by rw [if_pos hk, yq, if_pos h69]; rfl))⟩, ⟨_, rfl, (Le.int (by rw [if_pos hk, yq, if_pos h69]; rfl))⟩, trivial⟩
  ·
   refine C_skip ?_
   refine K_then ?_
   refine C_seq ?_
   refine C_reg ?_
   refine R1 d_move rfl ?_
   refine R1 d_move rfl ?_
   refine R1 d_move rfl ?_
   refine R3 (d_call (c_TSumOk l a b hl hD (ask_sum hk h69)) fi44 rfl) rfl rfl rfl ?_
   refine R1 d_move rfl ?_
   refine R1 (d_extract rfl) rfl ?_
   refine R1 (d_extract rfl) rfl ?_
   refine RE (d_alloc (k := 10) (n := 4) (agg := true) zr26.1 zr26.2 rfl) trivial trivial ⟨rfl, trivial⟩ ?_
   refine RE (d_store (es := 4) (agg := true) (0) ti26 rfl rfl rfl) ⟨rfl, rfl, trivial⟩ ⟨rfl, trivial⟩ trivial ?_
   refine R1 d_assign rfl ?_
   refine R_nil (by kernel_rfl) ?_
   refine K_then ?_
   refine C_seq ?_
   refine C_seq ?_
   refine C_reg ?_
   refine R1 d_move rfl ?_
   refine R2 d_neq rfl rfl ?_
   refine R_nil (by kernel_rfl) ?_
   refine K_then ?_
   refine C_if rfl (fun h73 => ?_) (fun h73 => ?_)
   ·
    refine C_seq ?_
    refine C_reg ?_
    refine R0 (d_build (r := tS [⟨2, true, (tS [⟨1, false, (tE (.bool false))⟩, ⟨1, false, (tLm [])⟩])⟩, ⟨2, true, (tS [⟨1, false, (tE (.bool false))⟩, ⟨1, false, (tLm [])⟩])⟩]) (ts := []) bu26 zr26.2 ⟨_, rfl⟩ rfl Le.refl)  ?_
    refine R1 d_move rfl ?_
    refine RE (d_store (es := 4) (agg := true) (0) ti26 rfl rfl rfl) ⟨rfl, rfl, trivial⟩ ⟨rfl, trivial⟩ trivial ?_
    refine R1 d_assign rfl ?_
    refine R_nil (by kernel_rfl) ?_
    refine K_then ?_
    refine C_ret ?_
    refine K_retT ?_
    exact E_retN Plain.mk' (rs := [.cell 6 26, .tmp 7]) rfl rfl ⟨⟨_, _, _, _, _, rfl, rfl, ti26, (Le.of (by rw [if_pos hk, yq, if_neg h69]; cases hs : sumT (cutT l a b) with | none => rfl | some q => rw [hs] at h73; exact absurd rfl h73))⟩, ⟨_, rfl, (Le.int (by rw [if_pos hk, yq, if_neg h69]; cases hs : sumT (cutT l a b) with | none => rfl | some q => rw [hs] at h73; exact absurd rfl h73))⟩, trivial⟩
   ·
    obtain ⟨q, hq, hqs⟩ := sumF_short (fun q h => sumT_short h) (Decidable.not_not.1 h73)
    refine C_skip ?_
    refine K_then ?_
    refine C_seq ?_
    refine C_draw mixed ?_
    refine RE (d_load (0) ti26 rfl rfl) ⟨rfl, trivial⟩ ⟨rfl, trivial⟩ trivial ?_
    refine R1 (d_call (c_FromInt 4 (by decide) (by decide)) fi46 rfl) rfl ?_
    refine R1 (d_call (c_FromInt 1461 (by decide) (by decide)) fi46 rfl) rfl ?_
    refine R2 (d_build (r := tS [⟨2, true, tWh (wh 4)⟩, ⟨2, true, tWh (wh 1461)⟩]) (ts := [(0, tWh (wh 4)), (1, tWh (wh 1461))]) bu26 zr26.2 ⟨_, rfl⟩ rfl ⟨_, _, _, _, rfl, Up.f (fs := [⟨2, true, (tS [⟨1, false, (tE (.bool false))⟩, ⟨1, false, (tLm [])⟩])⟩, ⟨2, true, (tS [⟨1, false, (tE (.bool false))⟩, ⟨1, false, (tLm [])⟩])⟩]) (f := ⟨2, true, (tS [⟨1, false, (tE (.bool false))⟩, ⟨1, false, (tLm [])⟩])⟩) (fs' := [⟨2, true, tWh (wh 4)⟩, ⟨2, true, (tS [⟨1, false, (tE (.bool false))⟩, ⟨1, false, (tLm [])⟩])⟩]) 0 rfl rfl rfl, inferInstance, ⟨_, _, _, _, rfl, Up.f (fs := [⟨2, true, tWh (wh 4)⟩, ⟨2, true, (tS [⟨1, false, (tE (.bool false))⟩, ⟨1, false, (tLm [])⟩])⟩]) (f := ⟨2, true, (tS [⟨1, false, (tE (.bool false))⟩, ⟨1, false, (tLm [])⟩])⟩) (fs' := [⟨2, true, tWh (wh 4)⟩, ⟨2, true, tWh (wh 1461)⟩]) 1 rfl rfl rfl, inferInstance, Le.refl⟩⟩) rfl rfl ?_
    refine R2 (d_call (c_FMulQ4s hq hqs) fi45 rfl) rfl rfl ?_
    refine R1 (d_extract rfl) rfl ?_
    refine R1 (d_extract rfl) rfl ?_
    refine RE (d_store (es := 4) (agg := true) (0) ti26 rfl rfl rfl) ⟨rfl, rfl, trivial⟩ ⟨rfl, trivial⟩ trivial ?_
    refine R1 d_assign rfl ?_
    refine R_end (by kernel_rfl) ?_
    refine K_then ?_
    refine C_ret ?_
    exact E_retN Plain.mk' (rs := [.cell 6 26, .tmp 7]) rfl rfl ⟨⟨_, _, _, _, _, rfl, rfl, ti26, (Le.of (by rw [if_pos hk, yq, if_neg h69, hq, resF_mulO]; rfl))⟩, ⟨_, rfl, (Le.int (by rw [if_pos hk, yq, if_neg h69, hq, resFE_mulO]; rfl))⟩, trivial⟩
end An.S

/- Layer 8: service, limits, months, sets. -/
namespace An.S
open Go Go.Proofs An
set_option maxHeartbeats 2000000
theorem fi15 : FnI Tryz.prog 15 := ⟨_, Tryz.func15, by kernel_rfl, rfl⟩
theorem fi54 : FnI Tryz.prog 54 := ⟨_, Tryz.func54, by kernel_rfl, rfl⟩
theorem fi55 : FnI Tryz.prog 55 := ⟨_, Tryz.func55, by kernel_rfl, rfl⟩
theorem fi56 : FnI Tryz.prog 56 := ⟨_, Tryz.func56, by kernel_rfl, rfl⟩
theorem fi57 : FnI Tryz.prog 57 := ⟨_, Tryz.func57, by kernel_rfl, rfl⟩
theorem c_FCmpE {x : Fr} {q : Rat} (hx : x = fr q) (hq : short q) (f : Fr) (hf : f = fr f.rat) (hs : short f.rat) : Ct Tryz.prog 20 [tFr x, tFr f] (tI (cmpQ q f.rat)) := by
  have h := c_FCmp q f.rat hq hs
  rw [← hf, ← hx] at h; exact h
theorem c_FAddE (f : Fr) (hf : f = fr f.rat) (hs : short f.rat) : Ct Tryz.prog 31 [tFr f, tFr (fr ((0 : Int) : Rat))] (tT [tFr f, tI 0]) := by
  have h := c_FAdd f.rat ((0 : Int) : Rat) hs (short_int (len16_small (by decide) (by decide)))
  have e : f.rat + ((0 : Int) : Rat) = f.rat := by simp; exact Rat.add_zero _
  rw [e, resF, resFE, if_pos hs, if_pos hs, ← hf] at h; exact h
theorem yr_ok {l : List Tst} {a b : Int} (h : (if askB l a b = true then sumE (yq l a b) else 2) = 0) : askB l a b = true ∧ ∃ q, yq l a b = some q ∧ short q := by
  split at h
  · rename_i hk; exact ⟨hk, sumF_short (fun q h => yq_short h) h⟩
  · cases h
def capO (l : List Tst) (a b : Int) (f : Fr) : Option Rat := (yq l a b).map fun q => if q ≤ f.rat then q else f.rat
def capC (l : List Tst) (a b : Int) (f : Fr) : Prop := (f.valid = true ∧ f.n.neg = false) ∧ askB l a b = true
instance (l : List Tst) (a b : Int) (f : Fr) : Decidable (capC l a b f) := inferInstanceAs (Decidable (_ ∧ _))
theorem cap_bad {l : List Tst} {a b : Int} {f : Fr} (hv2 : f.valid = true ∧ f.n.neg = false) (h : (if askB l a b = true then sumE (yq l a b) else 2) ≠ 0) : (if capC l a b f then sumF (capO l a b f) else fr0) = fr0 ∧ (if askB l a b = true then sumE (yq l a b) else 2) = (if capC l a b f then sumE (capO l a b f) else 2) := by
  by_cases ha : askB l a b = true
  · rw [if_pos ha] at h
    cases hy : yq l a b with
    | none => rw [if_pos ⟨hv2, ha⟩, if_pos ha, if_pos ⟨hv2, ha⟩, capO, hy]; exact ⟨rfl, rfl⟩
    | some q => rw [hy] at h; exact absurd rfl h
  · have hn : ¬ capC l a b f := fun h => ha h.2
    rw [if_neg hn, if_neg hn, if_neg ha]; exact ⟨rfl, rfl⟩
theorem c_Capped (l : List Tst) (a b : Int) (f : Fr) (hl : l.length ≤ 500000) (hD : ∀ s ∈ l, s.v.f.dig) (hF : f.dig) :
  Ct Tryz.prog 21 [tL 8 true tTs l, tI a, tI b, tFr f] (tT [tFr (if capC l a b f then sumF (capO l a b f) else fr0), tI (if capC l a b f then sumE (capO l a b f) else 2)]) := by
 refine Ct.intro Tryz.func21 rfl Tryz.ntmps21 rfl ?_
 intro w F
 refine C_seq ?_
 refine C_reg ?_
 refine RE (d_box (k := 7) ti26 rfl) ⟨rfl, trivial⟩ trivial ⟨rfl, trivial⟩ ?_
 refine RE (d_alloc (k := 8) (n := 4) (agg := true) zr26.1 zr26.2 rfl) trivial trivial ⟨rfl, trivial⟩ ?_
 refine R1 d_assign rfl ?_
 refine R_nil (by kernel_rfl) ?_
 refine K_then ?_
 refine C_seq ?_
 refine C_seq ?_
 refine C_reg ?_
 refine RE (d_load (0) ti26 rfl rfl) ⟨rfl, trivial⟩ ⟨rfl, trivial⟩ trivial ?_
 refine R1 (d_call (c_FValid f hF.1 hF.2) fi53 rfl) rfl ?_
 refine R1 d_not rfl ?_
 refine R1 d_move rfl ?_
 refine RGcase (t := 15) rfl (fun h81 => ?_) (fun h81 => ?_)
 ·
  have hk : ¬ capC l a b f := fun h => by rw [h.1.1] at h81; cases h81
  refine RGoff h81 rfl rfl ?_
  refine RGoff h81 rfl rfl ?_
  refine RGoff h81 rfl rfl ?_
  refine R2 (d_pickT h81) rfl rfl ?_
  refine R_nil (by kernel_rfl) ?_
  refine K_then ?_
  refine C_bT rfl rfl ?_
  refine C_seq ?_
  refine C_reg ?_
  refine R0 (d_build (r := tS [⟨2, true, (tS [⟨1, false, (tE (.bool false))⟩, ⟨1, false, (tLm [])⟩])⟩, ⟨2, true, (tS [⟨1, false, (tE (.bool false))⟩, ⟨1, false, (tLm [])⟩])⟩]) (ts := []) bu26 zr26.2 ⟨_, rfl⟩ rfl Le.refl)  ?_
  refine RE (d_store (es := 4) (agg := true) (0) ti26 rfl rfl rfl) ⟨rfl, rfl, trivial⟩ ⟨rfl, trivial⟩ trivial ?_
  refine R1 d_assign rfl ?_
  refine R_nil (by kernel_rfl) ?_
  refine K_then ?_
  refine C_ret ?_
  refine K_retT ?_
  exact E_retN Plain.mk' (rs := [.cell 8 26, .tmp 9]) rfl rfl ⟨⟨_, _, _, _, _, rfl, rfl, ti26, (Le.of (by rw [if_neg hk]; rfl))⟩, ⟨_, rfl, (Le.int (by rw [if_neg hk]))⟩, trivial⟩
 ·
  have hv : f.valid = true := by simpa using h81
  refine RGon h81 rfl (d_fieldO fo26_0 rfl) rfl ⟨rfl, trivial⟩ trivial trivial ?_
  refine RGon h81 rfl (d_fieldO fo24_0 rfl) rfl ⟨rfl, trivial⟩ trivial trivial ?_
  refine RG_loadF h81 rfl rfl (0) ti4 rfl rfl rfl (At.t (At.g 0 rfl rfl) (At.g 0 rfl rfl)) rfl ?_
  refine R2 (d_pickF h81) rfl rfl ?_
  refine R_nil (by kernel_rfl) ?_
  refine K_then ?_
  refine C_cond rfl (fun h81_2 => ?_) (fun h81_2 => ?_)
  ·
   have hk : ¬ capC l a b f := fun h => by rw [h.1.2] at h81_2; cases h81_2
   refine C_seq ?_
   refine C_reg ?_
   refine R0 (d_build (r := tS [⟨2, true, (tS [⟨1, false, (tE (.bool false))⟩, ⟨1, false, (tLm [])⟩])⟩, ⟨2, true, (tS [⟨1, false, (tE (.bool false))⟩, ⟨1, false, (tLm [])⟩])⟩]) (ts := []) bu26 zr26.2 ⟨_, rfl⟩ rfl Le.refl)  ?_
   refine RE (d_store (es := 4) (agg := true) (0) ti26 rfl rfl rfl) ⟨rfl, rfl, trivial⟩ ⟨rfl, trivial⟩ trivial ?_
   refine R1 d_assign rfl ?_
   refine R_nil (by kernel_rfl) ?_
   refine K_then ?_
   refine C_ret ?_
   refine K_retT ?_
   exact E_retN Plain.mk' (rs := [.cell 8 26, .tmp 9]) rfl rfl ⟨⟨_, _, _, _, _, rfl, rfl, ti26, (Le.of (by rw [if_neg hk]; rfl))⟩, ⟨_, rfl, (Le.int (by rw [if_neg hk]))⟩, trivial⟩
  ·
   have hv2 : f.valid = true ∧ f.n.neg = false := ⟨hv, h81_2⟩
   have hf := Fr.of_valid' hF hv
   refine C_skip ?_
   refine K_then ?_
   refine C_seq ?_
   refine C_reg ?_
   refine R1 d_move rfl ?_
   refine R1 d_move rfl ?_
   refine R1 d_move rfl ?_
   refine R3 (d_call (c_Years l a b hl hD) fi15 rfl) rfl rfl rfl ?_
   refine R1 d_move rfl ?_
   refine R1 (d_extract rfl) rfl ?_
   refine R1 (d_extract rfl) rfl ?_
   refine RE (d_alloc (k := 10) (n := 4) (agg := true) zr26.1 zr26.2 rfl) trivial trivial ⟨rfl, trivial⟩ ?_
   refine RE (d_store (es := 4) (agg := true) (0) ti26 rfl rfl rfl) ⟨rfl, rfl, trivial⟩ ⟨rfl, trivial⟩ trivial ?_
   refine R1 d_assign rfl ?_
   refine R_nil (by kernel_rfl) ?_
   refine K_then ?_
   refine C_seq ?_
   refine C_seq ?_
   refine C_reg ?_
   refine R1 d_move rfl ?_
   refine R2 d_neq rfl rfl ?_
   refine R_nil (by kernel_rfl) ?_
   refine K_then ?_
   refine C_if rfl (fun h85 => ?_) (fun h85 => ?_)
   ·
    refine C_seq ?_
    refine C_reg ?_
    refine R0 (d_build (r := tS [⟨2, true, (tS [⟨1, false, (tE (.bool false))⟩, ⟨1, false, (tLm [])⟩])⟩, ⟨2, true, (tS [⟨1, false, (tE (.bool false))⟩, ⟨1, false, (tLm [])⟩])⟩]) (ts := []) bu26 zr26.2 ⟨_, rfl⟩ rfl Le.refl)  ?_
    refine R1 d_move rfl ?_
    refine RE (d_store (es := 4) (agg := true) (0) ti26 rfl rfl rfl) ⟨rfl, rfl, trivial⟩ ⟨rfl, trivial⟩ trivial ?_
    refine R1 d_assign rfl ?_
    refine R_nil (by kernel_rfl) ?_
    refine K_then ?_
    refine C_ret ?_
    refine K_retT ?_
    exact E_retN Plain.mk' (rs := [.cell 8 26, .tmp 9]) rfl rfl ⟨⟨_, _, _, _, _, rfl, rfl, ti26, (Le.of (by rw [(cap_bad hv2 h85).1]; rfl))⟩, ⟨_, rfl, (Le.int (cap_bad hv2 h85).2)⟩, trivial⟩
   ·
    obtain ⟨hk, q, hq, hqs⟩ := yr_ok (Decidable.not_not.1 h85)
    have hc : capC l a b f := ⟨hv2, hk⟩
    refine C_skip ?_
    refine K_then ?_
    refine C_seq ?_
    refine C_seq ?_
    refine C_reg ?_
    refine RE (d_load (0) ti26 rfl rfl) ⟨rfl, trivial⟩ ⟨rfl, trivial⟩ trivial ?_
    refine RE (d_load (0) ti26 rfl rfl) ⟨rfl, trivial⟩ ⟨rfl, trivial⟩ trivial ?_
    refine R2 (d_call (c_FCmpE (x := if askB l a b = true then sumF (yq l a b) else fr0) (q := q) (by rw [if_pos hk, hq]; rfl) hqs f hf.1 hf.2) fi20 rfl) rfl rfl ?_
    refine R2 d_leq rfl rfl ?_
    refine R_nil (by kernel_rfl) ?_
    refine K_then ?_
    refine C_if rfl (fun h88 => ?_) (fun h88 => ?_)
    ·
     refine C_seq ?_
     refine C_reg ?_
     refine RE (d_load (0) ti26 rfl rfl) ⟨rfl, trivial⟩ ⟨rfl, trivial⟩ trivial ?_
     refine RE (d_store (es := 4) (agg := true) (0) ti26 rfl rfl rfl) ⟨rfl, rfl, trivial⟩ ⟨rfl, trivial⟩ trivial ?_
     refine R1 d_assign rfl ?_
     refine R_nil (by kernel_rfl) ?_
     refine K_then ?_
     refine C_ret ?_
     refine K_retT ?_
     exact E_retN Plain.mk' (rs := [.cell 8 26, .tmp 9]) rfl rfl ⟨⟨_, _, _, _, _, rfl, rfl, ti26, (Le.of (by rw [if_pos hc, capO, hq, if_pos hk, Option.map_some, if_pos (Decidable.byContradiction fun h => absurd (cmpQ_pos.2 h) (by omega))]))⟩, ⟨_, rfl, (Le.int (by rw [if_pos hc, capO, hq]; rfl))⟩, trivial⟩
    ·
     refine C_skip ?_
     refine K_then ?_
     refine C_seq ?_
     refine C_draw mixed ?_
     refine RE (d_load (0) ti26 rfl rfl) ⟨rfl, trivial⟩ ⟨rfl, trivial⟩ trivial ?_
     refine R1 (d_call (c_FFromInt 0 (by decide) (by decide)) fi43 rfl) rfl ?_
     refine R2 (d_call (c_FAddE f hf.1 hf.2) fi31 rfl) rfl rfl ?_
     refine R1 (d_extract rfl) rfl ?_
     refine R1 (d_extract rfl) rfl ?_
     refine RE (d_store (es := 4) (agg := true) (0) ti26 rfl rfl rfl) ⟨rfl, rfl, trivial⟩ ⟨rfl, trivial⟩ trivial ?_
     refine R1 d_assign rfl ?_
     refine R_end (by kernel_rfl) ?_
     refine K_then ?_
     refine C_ret ?_
     exact E_retN Plain.mk' (rs := [.cell 8 26, .tmp 9]) rfl rfl ⟨⟨_, _, _, _, _, rfl, rfl, ti26, (Le.of (by rw [if_pos hc, capO, hq, Option.map_some, if_neg (cmpQ_pos.1 (by omega)), hf.1, rat_fr]; rfl))⟩, ⟨_, rfl, (Le.int (by rw [if_pos hc, capO, hq]; rfl))⟩, trivial⟩
theorem c_FFloor (q : Rat) (h : short q) :
  Ct Tryz.prog 54 [tFr (fr q)] (tT [tWh (wh q.floor), tI 0]) := by
 obtain ⟨qn, qd⟩ := h
 have h : short q := ⟨qn, qd⟩
 have hdp : (0 : Int) < (q.den : Int) := by have := q.den_pos; omega
 refine Ct.intro Tryz.func54 rfl Tryz.ntmps54 rfl ?_
 intro w F
 refine C_seq ?_
 refine C_reg ?_
 refine RE (d_box (k := 1) ti26 rfl) ⟨rfl, trivial⟩ trivial ⟨rfl, trivial⟩ ?_
 refine RE (d_alloc (k := 2) (n := 2) (agg := true) zr24.1 zr24.2 rfl) trivial trivial ⟨rfl, trivial⟩ ?_
 refine R1 d_assign rfl ?_
 refine R_nil (by kernel_rfl) ?_
 refine K_then ?_
 refine C_seq ?_
 refine C_seq ?_
 refine C_reg ?_
 refine RE (d_load (0) ti26 rfl rfl) ⟨rfl, trivial⟩ ⟨rfl, trivial⟩ trivial ?_
 refine R1 (d_call (c_FValidQ q h) fi53 rfl) rfl ?_
 refine R1 d_not rfl ?_
 refine R_nil (by kernel_rfl) ?_
 refine K_then ?_
 refine C_bF rfl rfl ?_
 refine C_skip ?_
 refine K_then ?_
 refine C_seq ?_
 refine C_reg ?_
 refine R1 (d_fieldO fo26_0 rfl) rfl ?_
 refine R_loadF (0) ti24 rfl rfl rfl (At.g 0 rfl rfl) rfl ?_
 refine R1 (d_fieldO fo26_1 rfl) rfl ?_
 refine R_loadF (0) ti24 rfl rfl rfl (At.g 1 rfl rfl) rfl ?_
 refine R2 (d_call (c_fdivide q.num (q.den : Int) (by omega) (by omega) hdp) fi85 rfl) rfl rfl ?_
 refine R1 d_move rfl ?_
 refine R1 (d_extract rfl) rfl ?_
 refine R1 (d_extract rfl) rfl ?_
 refine RE (d_alloc (k := 4) (n := 2) (agg := true) zr24.1 zr24.2 rfl) trivial trivial ⟨rfl, trivial⟩ ?_
 refine RE (d_alloc (k := 5) (n := 2) (agg := true) zr24.1 zr24.2 rfl) trivial trivial ⟨rfl, trivial⟩ ?_
 refine RE (d_store (es := 2) (agg := true) (0) ti24 rfl rfl rfl) ⟨rfl, rfl, trivial⟩ ⟨rfl, trivial⟩ trivial ?_
 refine RE (d_store (es := 2) (agg := true) (0) ti24 rfl rfl rfl) ⟨rfl, rfl, trivial⟩ ⟨rfl, trivial⟩ trivial ?_
 refine R_nil (by kernel_rfl) ?_
 refine K_then ?_
 refine C_seq ?_
 refine C_reg ?_
 refine RE (d_load (0) ti24 rfl rfl) ⟨rfl, trivial⟩ ⟨rfl, trivial⟩ trivial ?_
 refine RE (d_store (es := 2) (agg := true) (0) ti24 rfl rfl rfl) ⟨rfl, rfl, trivial⟩ ⟨rfl, trivial⟩ trivial ?_
 refine R1 d_assign rfl ?_
 refine R_nil (by kernel_rfl) ?_
 refine K_then ?_
 refine C_ret ?_
 exact E_retN Plain.mk' (rs := [.cell 2 24, .tmp 3]) rfl rfl ⟨⟨_, _, _, _, _, rfl, rfl, ti24, (Le.of (by rw [Rat.floor_def]))⟩, ⟨_, rfl, Le.refl⟩, trivial⟩
theorem c_FFloorR (q : Rat) (h : short q) : Ct Tryz.prog 54 [tFr (resF q)] (tT [tWh (wh q.floor), tI 0]) := by
  rw [show resF q = fr q from if_pos h]; exact c_FFloor q h
def m12 (f : Fr) : Rat := f.rat * ((12 : Int) : Rat)
def moB (f : Fr) : Prop := f.valid = true ∧ f.n.neg = false
def moC (f : Fr) : Prop := moB f ∧ short (m12 f) ∧ (m12 f).floor ≤ 1048576
instance (f : Fr) : Decidable (moB f) := inferInstanceAs (Decidable (_ ∧ _))
instance (f : Fr) : Decidable (moC f) := inferInstanceAs (Decidable (_ ∧ _))
theorem m12_nonneg {f : Fr} (hF : f.dig) (h : moB f) : 0 ≤ (m12 f).floor := by
  have h1 := nonneg_of hF h.1 h.2
  have h2 : (0 : Rat) ≤ m12 f := Rat.mul_nonneg h1 (by decide +kernel)
  exact Rat.le_floor_iff.2 (by simpa using h2)
theorem len_floor {q : Rat} (h : short q) : len16 q.floor ≤ 256 := by rw [Rat.floor_def]; exact len16_div h.1
theorem cmpZ_pos {x y : Int} : 0 < cmpZ x y ↔ y < x := by
  simp only [cmpZ]; split
  · omega
  · split <;> omega
theorem c_Months (f : Fr) (hF : f.dig) :
  Ct Tryz.prog 22 [tFr f] (tT [tI (if moC f then (m12 f).floor else 0), tI (if moB f then (if moC f then 0 else 3) else 2)]) := by
 refine Ct.intro Tryz.func22 rfl Tryz.ntmps22 rfl ?_
 intro w F
 refine C_seq ?_
 refine C_reg ?_
 refine RE (d_box (k := 1) ti26 rfl) ⟨rfl, trivial⟩ trivial ⟨rfl, trivial⟩ ?_
 refine R1 d_assign rfl ?_
 refine R1 d_assign rfl ?_
 refine R_nil (by kernel_rfl) ?_
 refine K_then ?_
 refine C_seq ?_
 refine C_seq ?_
 refine C_reg ?_
 refine RE (d_load (0) ti26 rfl rfl) ⟨rfl, trivial⟩ ⟨rfl, trivial⟩ trivial ?_
 refine R1 (d_call (c_FValid f hF.1 hF.2) fi53 rfl) rfl ?_
 refine R1 d_not rfl ?_
 refine R1 d_move rfl ?_
 refine RGcase (t := 11) rfl (fun h96 => ?_) (fun h96 => ?_)
 ·
  have hk : ¬ moB f := fun h => by rw [h.1] at h96; cases h96
  refine RGoff h96 rfl rfl ?_
  refine RGoff h96 rfl rfl ?_
  refine RGoff h96 rfl rfl ?_
  refine R2 (d_pickT h96) rfl rfl ?_
  refine R_nil (by kernel_rfl) ?_
  refine K_then ?_
  refine C_bT rfl rfl ?_
  refine C_seq ?_
  refine C_reg ?_
  refine R1 d_assign rfl ?_
  refine R1 d_assign rfl ?_
  refine R_nil (by kernel_rfl) ?_
  refine K_then ?_
  refine C_ret ?_
  refine K_retT ?_
  exact E_ret2 Plain.mk' rfl rfl rfl (Le.int (by rw [if_neg (fun h => hk h.1)])) (Le.int (by rw [if_neg hk]))
 ·
  have hv : f.valid = true := by simpa using h96
  refine RGon h96 rfl (d_fieldO fo26_0 rfl) rfl ⟨rfl, trivial⟩ trivial trivial ?_
  refine RGon h96 rfl (d_fieldO fo24_0 rfl) rfl ⟨rfl, trivial⟩ trivial trivial ?_
  refine RG_loadF h96 rfl rfl (0) ti4 rfl rfl rfl (At.t (At.g 0 rfl rfl) (At.g 0 rfl rfl)) rfl ?_
  refine R2 (d_pickF h96) rfl rfl ?_
  refine R_nil (by kernel_rfl) ?_
  refine K_then ?_
  refine C_cond rfl (fun h96_2 => ?_) (fun h96_2 => ?_)
  ·
   have hk : ¬ moB f := fun h => by rw [h.2] at h96_2; cases h96_2
   refine C_seq ?_
   refine C_reg ?_
   refine R1 d_assign rfl ?_
   refine R1 d_assign rfl ?_
   refine R_nil (by kernel_rfl) ?_
   refine K_then ?_
   refine C_ret ?_
   refine K_retT ?_
   exact E_ret2 Plain.mk' rfl rfl rfl (Le.int (by rw [if_neg (fun h => hk h.1)])) (Le.int (by rw [if_neg hk]))
  ·
   have hb : moB f := ⟨hv, h96_2⟩
   have hf := Fr.of_valid' hF hv
   refine C_skip ?_
   refine K_then ?_
   refine C_seq ?_
   refine C_draw mixed ?_
   refine RE (d_load (0) ti26 rfl rfl) ⟨rfl, trivial⟩ ⟨rfl, trivial⟩ trivial ?_
   refine R1 (d_call (c_FFromInt 12 (by decide) (by decide)) fi43 rfl) rfl ?_
   refine R2 (d_call (c_FMulT f 12 hf.1 hf.2 (short_int (len16_small (by decide) (by decide)))) fi45 rfl) rfl rfl ?_
   refine R1 d_move rfl ?_
   refine R1 (d_extract rfl) rfl ?_
   refine R1 (d_extract rfl) rfl ?_
   refine RE (d_alloc (k := 4) (n := 4) (agg := true) zr26.1 zr26.2 rfl) trivial trivial ⟨rfl, trivial⟩ ?_
   refine RE (d_store (es := 4) (agg := true) (0) ti26 rfl rfl rfl) ⟨rfl, rfl, trivial⟩ ⟨rfl, trivial⟩ trivial ?_
   refine R1 d_assign rfl ?_
   refine R_end (by kernel_rfl) ?_
   refine K_then ?_
   refine C_seq ?_
   refine C_seq ?_
   refine C_reg ?_
   refine R1 d_move rfl ?_
   refine R2 d_neq rfl rfl ?_
   refine R_nil (by kernel_rfl) ?_
   refine K_then ?_
   refine C_if rfl (fun h100 => ?_) (fun h100 => ?_)
   ·
    refine C_seq ?_
    refine C_reg ?_
    refine R1 d_move rfl ?_
    refine R1 d_assign rfl ?_
    refine R1 d_assign rfl ?_
    refine R_nil (by kernel_rfl) ?_
    refine K_then ?_
    refine C_ret ?_
    refine K_retT ?_
    exact E_ret2 Plain.mk' rfl rfl rfl (Le.int (by rw [if_neg (fun h : moC f => resFE_not h100 h.2.1)])) (Le.int (by rw [if_pos hb, if_neg (fun h : moC f => resFE_not h100 h.2.1), resFE, if_neg (resFE_not h100)]))
   ·
    have hs : short (m12 f) := resFE_zero (Decidable.not_not.1 h100)
    have hlen := len_floor hs
    have hl2 := len16_small (n := 1048576) (by decide) (by decide)
    have hn0 := m12_nonneg hF hb
    refine C_skip ?_
    refine K_then ?_
    refine C_seq ?_
    refine C_reg ?_
    refine RE (d_load (0) ti26 rfl rfl) ⟨rfl, trivial⟩ ⟨rfl, trivial⟩ trivial ?_
    refine R1 (d_call (c_FFloorR (m12 f) hs) fi54 rfl) rfl ?_
    refine R1 d_move rfl ?_
    refine R1 (d_extract rfl) rfl ?_
    refine R1 (d_extract rfl) rfl ?_
    refine RE (d_alloc (k := 6) (n := 2) (agg := true) zr24.1 zr24.2 rfl) trivial trivial ⟨rfl, trivial⟩ ?_
    refine RE (d_store (es := 2) (agg := true) (0) ti24 rfl rfl rfl) ⟨rfl, rfl, trivial⟩ ⟨rfl, trivial⟩ trivial ?_
    refine R1 d_assign rfl ?_
    refine R_nil (by kernel_rfl) ?_
    refine K_then ?_
    refine C_seq ?_
    refine C_seq ?_
    refine C_draw mixed ?_
    refine RE (d_load (0) ti24 rfl rfl) ⟨rfl, trivial⟩ ⟨rfl, trivial⟩ trivial ?_
    refine R1 (d_call (c_FromInt 1048576 (by decide) (by decide)) fi46 rfl) rfl ?_
    refine R2 (d_call (c_Cmp (m12 f).floor 1048576 (by omega) (by omega)) fi51 rfl) rfl rfl ?_
    refine R2 d_gtr rfl rfl ?_
    refine R_end (by kernel_rfl) ?_
    refine K_then ?_
    refine C_if rfl (fun h104 => ?_) (fun h104 => ?_)
    ·
     have hgt := cmpZ_pos.1 h104
     refine C_seq ?_
     refine C_reg ?_
     refine R1 d_assign rfl ?_
     refine R1 d_assign rfl ?_
     refine R_nil (by kernel_rfl) ?_
     refine K_then ?_
     refine C_ret ?_
     refine K_retT ?_
     exact E_ret2 Plain.mk' rfl rfl rfl (Le.int (by rw [if_neg (fun h : moC f => absurd h.2.2 (by omega))])) (Le.int (by rw [if_pos hb, if_neg (fun h : moC f => absurd h.2.2 (by omega))]))
    ·
     have hle : (m12 f).floor ≤ 1048576 := Int.not_lt.1 fun h => h104 (cmpZ_pos.2 h)
     have hc : moC f := ⟨hb, hs, hle⟩
     have hfit : fits (m12 f).floor = true := by simp only [fits, Bool.and_eq_true, decide_eq_true_eq]; omega
     refine C_skip ?_
     refine K_then ?_
     refine C_seq ?_
     refine C_reg ?_
     refine RE (d_load (0) ti24 rfl rfl) ⟨rfl, trivial⟩ ⟨rfl, trivial⟩ trivial ?_
     refine R1 (d_call (c_WInt (m12 f).floor (by omega)) fi55 rfl) rfl ?_
     refine R1 (d_extract rfl) rfl ?_
     refine R1 (d_extract rfl) rfl ?_
     refine R1 d_assign rfl ?_
     refine R1 d_assign rfl ?_
     refine R_nil (by kernel_rfl) ?_
     refine K_then ?_
     refine C_ret ?_
     exact E_ret2 Plain.mk' rfl rfl rfl (Le.int (by rw [if_pos hc, hfit]; rfl)) (Le.int (by rw [if_pos hb, if_pos hc, hfit]; rfl))
/-- Between neighbours. -/
def brk (w : List Sn) : List Sn := (List.range (w.length - 1)).map fun i => ⟨(w.getD i sn0).hi, (w.getD (i + 1) sn0).lo⟩
theorem brk_snoc {w : List Sn} {n : Nat} : (List.range (n + 1)).map (fun i => (⟨(w.getD i sn0).hi, (w.getD (i + 1) sn0).lo⟩ : Sn)) = (List.range n).map (fun i => (⟨(w.getD i sn0).hi, (w.getD (i + 1) sn0).lo⟩ : Sn)) ++ [⟨(w.getD n sn0).hi, (w.getD (n + 1) sn0).lo⟩] := by
  rw [List.range_succ, List.map_append]; rfl
theorem wkd_len {l : List Tst} {a b : Int} : (wkd l a b).length ≤ l.length := by
  rw [wkd]; split
  · simp
  · split
    · have h1 := mrg_len (srt cfSn ((wkS l a b).filter pos)) []
      have h2 := srtSn_len (xs := (wkS l a b).filter pos)
      have h3 := List.length_filter_le pos (wkS l a b)
      have h4 := wkS_len (l := l) (a := a) (b := b)
      have h5 : (mkS (wkS l a b)).length ≤ ([] : List Sn).length + (srt cfSn ((wkS l a b).filter pos)).length := h1
      simp at h5; omega
    · simp
theorem c_Worked (l : List Tst) (a b : Int) (hl : l.length ≤ 500000) (hD : ∀ s ∈ l, s.v.f.dig) :
  Ct Tryz.prog 24 [tL 8 true tTs l, tI a, tI b] (tT [tL 2 true tSn (if askB l a b = true then wkd l a b else []), tI (if askB l a b = true then 0 else 2)]) := by
 refine Ct.intro Tryz.func24 rfl Tryz.ntmps24 rfl ?_
 intro w F
 refine C_seq ?_
 refine C_reg ?_
 refine R1 d_assign rfl ?_
 refine R1 d_assign rfl ?_
 refine R_nil (by kernel_rfl) ?_
 refine K_then ?_
 refine C_seq ?_
 refine C_reg ?_
 refine R1 d_move rfl ?_
 refine R1 d_move rfl ?_
 refine R1 d_move rfl ?_
 refine R3 (d_call (c_asked l a b hD) fi41 rfl) rfl rfl rfl ?_
 refine R1 d_move rfl ?_
 refine R1 (d_extract rfl) rfl ?_
 refine R1 (d_extract rfl) rfl ?_
 refine RE (d_alloc (k := 8) (n := 3) (agg := true) zr75.1 zr75.2 rfl) trivial trivial ⟨rfl, trivial⟩ ?_
 refine RE (d_store (es := 3) (agg := true) (0) ti75 rfl rfl rfl) ⟨rfl, rfl, trivial⟩ ⟨rfl, trivial⟩ trivial ?_
 refine R1 d_assign rfl ?_
 refine R_nil (by kernel_rfl) ?_
 refine K_then ?_
 refine C_seq ?_
 refine C_seq ?_
 refine C_reg ?_
 refine R1 d_move rfl ?_
 refine R1 d_not rfl ?_
 refine R_nil (by kernel_rfl) ?_
 refine K_then ?_
 refine C_cond rfl (fun h113 => ?_) (fun h113 => ?_)
 ·
  have hk : ¬ askB l a b = true := by simpa using h113
  refine C_seq ?_
  refine C_reg ?_
  refine R1 d_assign rfl ?_
  refine R1 d_assign rfl ?_
  refine R_nil (by kernel_rfl) ?_
  refine K_then ?_
  refine C_ret ?_
  refine K_retT ?_
  exact E_ret2 Plain.mk' rfl rfl rfl (leNil (by rw [if_neg hk])) (Le.int (by rw [if_neg hk]))
 ·
  have hk : askB l a b = true := by simpa using h113
  refine C_skip ?_
  refine K_then ?_
  refine C_seq ?_
  refine C_reg ?_
  refine RE (d_load (0) ti75 rfl rfl) ⟨rfl, trivial⟩ ⟨rfl, trivial⟩ trivial ?_
  refine R1 (d_call (c_worked l a b (by omega)) fi56 rfl) rfl ?_
  refine R1 d_assign rfl ?_
  refine R1 d_assign rfl ?_
  refine R_nil (by kernel_rfl) ?_
  refine K_then ?_
  refine C_ret ?_
  exact E_ret2 Plain.mk' rfl rfl rfl (Le.of (by rw [if_pos hk])) (Le.int (by rw [if_pos hk]))
theorem c_Breaks (l : List Tst) (a b : Int) (hl : l.length ≤ 500000) (hD : ∀ s ∈ l, s.v.f.dig) :
  Ct Tryz.prog 25 [tL 8 true tTs l, tI a, tI b] (tT [tL 2 true tSn (if askB l a b = true then brk (wkd l a b) else []), tI (if askB l a b = true then 0 else 2)]) := by
 have hwl := wkd_len (l := l) (a := a) (b := b)
 refine Ct.intro Tryz.func25 rfl Tryz.ntmps25 rfl ?_
 intro w F
 refine C_seq ?_
 refine C_reg ?_
 refine R1 d_assign rfl ?_
 refine R1 d_assign rfl ?_
 refine R_nil (by kernel_rfl) ?_
 refine K_then ?_
 refine C_seq ?_
 refine C_reg ?_
 refine R1 d_move rfl ?_
 refine R1 d_move rfl ?_
 refine R1 d_move rfl ?_
 refine R3 (d_call (c_asked l a b hD) fi41 rfl) rfl rfl rfl ?_
 refine R1 d_move rfl ?_
 refine R1 (d_extract rfl) rfl ?_
 refine R1 (d_extract rfl) rfl ?_
 refine RE (d_alloc (k := 8) (n := 3) (agg := true) zr75.1 zr75.2 rfl) trivial trivial ⟨rfl, trivial⟩ ?_
 refine RE (d_store (es := 3) (agg := true) (0) ti75 rfl rfl rfl) ⟨rfl, rfl, trivial⟩ ⟨rfl, trivial⟩ trivial ?_
 refine R1 d_assign rfl ?_
 refine R_nil (by kernel_rfl) ?_
 refine K_then ?_
 refine C_seq ?_
 refine C_seq ?_
 refine C_reg ?_
 refine R1 d_move rfl ?_
 refine R1 d_not rfl ?_
 refine R_nil (by kernel_rfl) ?_
 refine K_then ?_
 refine C_cond rfl (fun h122 => ?_) (fun h122 => ?_)
 ·
  have hk : ¬ askB l a b = true := by simpa using h122
  refine C_seq ?_
  refine C_reg ?_
  refine R1 d_assign rfl ?_
  refine R1 d_assign rfl ?_
  refine R_nil (by kernel_rfl) ?_
  refine K_then ?_
  refine C_ret ?_
  refine K_retT ?_
  exact E_ret2 Plain.mk' rfl rfl rfl (leNil (by rw [if_neg hk])) (Le.int (by rw [if_neg hk]))
 ·
  have hk : askB l a b = true := by simpa using h122
  refine C_skip ?_
  refine K_then ?_
  refine C_seq ?_
  refine C_reg ?_
  refine RE (d_assignN (k := 10) 69 2 true rfl (fun h => by cases h)) trivial trivial ⟨rfl, trivial⟩ ?_
  refine R_nil (by kernel_rfl) ?_
  refine K_then ?_
  refine C_seq ?_
  refine C_reg ?_
  refine RE (d_load (0) ti75 rfl rfl) ⟨rfl, trivial⟩ ⟨rfl, trivial⟩ trivial ?_
  refine R1 (d_call (c_worked l a b (by omega)) fi56 rfl) rfl ?_
  refine R1 d_assign rfl ?_
  refine R_nil (by kernel_rfl) ?_
  refine K_then ?_
  refine C_seq ?_
  refine C_seq ?_
  refine C_reg ?_
  refine R1 d_assign rfl ?_
  refine R_nil (by kernel_rfl) ?_
  refine K_then ?_
  refine C_block ?_
  refine C_loop (fun (fm : (Nat) × (List Sn)) => (fun (i : Nat) (xs : List Sn) => (i = 0 ∨ i + 1 ≤ (wkd l a b).length) ∧ xs = (List.range i).map (fun i => (⟨((wkd l a b).getD i sn0).hi, ((wkd l a b).getD (i + 1) sn0).lo⟩ : Sn))) fm.1 fm.2) (fun (fm : (Nat) × (List Sn)) => (fun (i : Nat) (xs : List Sn) => upd (upd (upd (fun _ => none) 10 (some (.own (.sl 10 2 0 xs.length)))) 11 (some (.val (tL 2 true tSn (wkd l a b))))) 12 (some (.val (tI ((i : Int) + 1))))) fm.1 fm.2) (fun (fm : (Nat) × (List Sn)) => (fun (i : Nat) (xs : List Sn) => upd (fun _ => none) 10 (some (⟨69, 2, true, rV tSn xs⟩))) fm.1 fm.2) (nm [10]) (fun (fm : (Nat) × (List Sn)) => (fun (i : Nat) (xs : List Sn) => (wkd l a b).length - i) fm.1 fm.2) ((0, [])) (by dsimp only; exact ⟨.inl rfl, rfl⟩) (Sub.int rfl (by first | omega | rfl | (dsimp only; omega)) (Sub.cons rfl (Sub.cons rfl Sub.nil))) ((SubK.consI rfl ImpK.refl) SubK.nil) (SupG.val (SupG.val (SupG.own rfl SupG.nil))) (SupH.cons rfl (supJ sup_rV) SupH.nil) (lkOk rfl) ?_
  intro fm hI
  obtain ⟨i, xs⟩ := fm
  replace hI : (i = 0 ∨ i + 1 ≤ (wkd l a b).length) ∧ xs = (List.range i).map (fun i => (⟨((wkd l a b).getD i sn0).hi, ((wkd l a b).getD (i + 1) sn0).lo⟩ : Sn)) := hI
  show wc _ _ _ _ (upd (upd (upd (fun _ => none) 10 (some (.own (.sl 10 2 0 xs.length)))) 11 (some (.val (tL 2 true tSn (wkd l a b))))) 12 (some (.val (tI ((i : Int) + 1))))) (upd (fun _ => none) 10 (some (⟨69, 2, true, rV tSn xs⟩))) _
  obtain ⟨hi, hx⟩ := hI
  have hxl : xs.length = i := by rw [hx]; simp
  refine C_seq ?_
  refine C_seq ?_
  refine C_reg ?_
  refine R1 d_move rfl ?_
  refine R1 d_move rfl ?_
  refine R1 (d_len Tryz.underlying54) rfl ?_
  refine R2 d_lss rfl rfl ?_
  refine R_nil (by kernel_rfl) ?_
  refine K_then ?_
  refine C_if rfl (fun h127 => ?_) (fun h127 => ?_)
  ·
   refine C_skip ?_
   refine K_then ?_
   refine C_seq ?_
   refine C_block ?_
   refine C_draw mixed ?_
   refine R1 d_move rfl ?_
   refine R1 d_move rfl ?_
   refine R1 d_move rfl ?_
   refine R2 (d_sub (wr64 (by omega) (by omega))) rfl rfl ?_
   refine R2 (d_indexP sl54 (i) (by omega) (gD (l := wkd l a b) (n := i) (d := sn0) (by omega))) rfl rfl ?_
   refine R1 (d_fieldP fo69_1 (At.f 1 rfl rfl) rfl) rfl ?_
   refine R1 (d_loadP ti3) rfl ?_
   refine R1 d_move rfl ?_
   refine R1 d_move rfl ?_
   refine R2 (d_indexP sl54 (i + 1) (by omega) (gD (l := wkd l a b) (n := i + 1) (d := sn0) (by omega))) rfl rfl ?_
   refine R1 (d_fieldP fo69_0 (At.f 0 rfl rfl) rfl) rfl ?_
   refine R1 (d_loadP ti3) rfl ?_
   refine R2 (d_build (r := tS [⟨1, false, tI ((wkd l a b).getD i sn0).hi⟩, ⟨1, false, tI ((wkd l a b).getD (i + 1) sn0).lo⟩]) (ts := [(0, tI ((wkd l a b).getD i sn0).hi), (1, tI ((wkd l a b).getD (i + 1) sn0).lo)]) bu69 zr69.2 ⟨_, rfl⟩ rfl ⟨_, _, _, _, rfl, Up.f (fs := [⟨1, false, (tE (.int .i64 0))⟩, ⟨1, false, (tE (.int .i64 0))⟩]) (f := ⟨1, false, (tE (.int .i64 0))⟩) (fs' := [⟨1, false, tI ((wkd l a b).getD i sn0).hi⟩, ⟨1, false, (tE (.int .i64 0))⟩]) 0 rfl rfl rfl, inferInstance, ⟨_, _, _, _, rfl, Up.f (fs := [⟨1, false, tI ((wkd l a b).getD i sn0).hi⟩, ⟨1, false, (tE (.int .i64 0))⟩]) (f := ⟨1, false, (tE (.int .i64 0))⟩) (fs' := [⟨1, false, tI ((wkd l a b).getD i sn0).hi⟩, ⟨1, false, tI ((wkd l a b).getD (i + 1) sn0).lo⟩]) 1 rfl rfl rfl, inferInstance, Le.refl⟩⟩) rfl rfl ?_
   refine R1 (d_vals (n := 1) (f := tSn) [⟨((wkd l a b).getD i sn0).hi, ((wkd l a b).getD (i + 1) sn0).lo⟩] Tryz.underlying54 el69 zf69 rfl (fun _ => inferInstance) rfl rfl rfl) rfl ?_
   refine RE (d_appendO (k := 10) (k' := 44) (f := tSn) (ys := [⟨((wkd l a b).getD i sn0).hi, ((wkd l a b).getD (i + 1) sn0).lo⟩]) (ts' := rV tSn (xs ++ [⟨((wkd l a b).getD i sn0).hi, ((wkd l a b).getD (i + 1) sn0).lo⟩])) Tryz.underlying54 el69 zf69 rfl rfl (fun _ => inferInstance) rV_len (by simp; omega) (by simp; omega) (by simp [rV]) (n' := xs.length + 1) rfl) ⟨rfl, rfl, trivial⟩ ⟨rfl, trivial⟩ ⟨rfl, trivial⟩ ?_
   refine R1 d_assign rfl ?_
   refine R_end (by kernel_rfl) ?_
   refine K_norB ?_
   refine K_then ?_
   refine C_reg ?_
   refine R1 d_move rfl ?_
   refine R2 (d_add (wr64 (by omega) (by omega))) rfl rfl ?_
   refine R1 d_assign rfl ?_
   refine R_nil (by kernel_rfl) ?_
   exact K_famR (l := [10]) (fun j => cond (Nat.beq j 10) 44 (j)) ((i + 1, xs ++ [⟨((wkd l a b).getD i sn0).hi, ((wkd l a b).getD (i + 1) sn0).lo⟩])) ⟨(by dsimp only; exact ⟨by omega, by rw [brk_snoc, ← hx]⟩), (by dsimp only; omega)⟩ (SubR.int rfl (by first | omega | rfl | (dsimp only; omega)) (SubR.cons rfl ((SubR.consI rfl (Imp.of (by dsimp only; rw [List.length_append]; rfl))) SubR.nil))) ((SubKR.consI rfl (ImpK.of ren_rV.symm)) SubKR.nil) (SupG.val (SupG.val (SupG.own rfl SupG.nil))) (SupH.cons rfl (supJ sup_rV) SupH.nil) (lkOk rfl) rfl rfl (fun _ h => by cases h)
  ·
   refine C_exit ?_
   refine K_exT ?_
   refine K_exT ?_
   refine K_exB ?_
   refine K_then ?_
   refine C_seq ?_
   refine C_reg ?_
   refine R1 d_move rfl ?_
   refine RE (d_assignS (f := tSn) (xs := xs) (fun _ h => h) (rV_all rfl) rfl) ⟨rfl, trivial⟩ ⟨rfl, trivial⟩ trivial ?_
   refine R1 d_assign rfl ?_
   refine R_nil (by kernel_rfl) ?_
   refine K_then ?_
   refine C_ret ?_
   exact E_ret2 Plain.mk' rfl rfl rfl (Le.of (by rw [if_pos hk, hx, brk, show i = (wkd l a b).length - 1 by omega])) (Le.int (by rw [if_pos hk]))
theorem c_Periods (l : List Tst) (a b : Int) (d : Int) (hl : l.length ≤ 500000) (hD : ∀ s ∈ l, s.v.f.dig) :
  Ct Tryz.prog 26 [tL 8 true tTs l, tI a, tI b, tI d] (tT [tL 2 true tSn (if askB l a b = true ∧ sVal (wkd l a b) = true ∧ 0 ≤ d then brg d (wkd l a b) else []), tI (if askB l a b = true ∧ sVal (wkd l a b) = true ∧ 0 ≤ d then 0 else 2)]) := by
 have hwl := wkd_len (l := l) (a := a) (b := b)
 refine Ct.intro Tryz.func26 rfl Tryz.ntmps26 rfl ?_
 intro w F
 refine C_seq ?_
 refine C_reg ?_
 refine R1 d_assign rfl ?_
 refine R1 d_assign rfl ?_
 refine R_nil (by kernel_rfl) ?_
 refine K_then ?_
 refine C_seq ?_
 refine C_reg ?_
 refine R1 d_move rfl ?_
 refine R1 d_move rfl ?_
 refine R1 d_move rfl ?_
 refine R3 (d_call (c_asked l a b hD) fi41 rfl) rfl rfl rfl ?_
 refine R1 d_move rfl ?_
 refine R1 (d_extract rfl) rfl ?_
 refine R1 (d_extract rfl) rfl ?_
 refine RE (d_alloc (k := 10) (n := 3) (agg := true) zr75.1 zr75.2 rfl) trivial trivial ⟨rfl, trivial⟩ ?_
 refine RE (d_store (es := 3) (agg := true) (0) ti75 rfl rfl rfl) ⟨rfl, rfl, trivial⟩ ⟨rfl, trivial⟩ trivial ?_
 refine R1 d_assign rfl ?_
 refine R_nil (by kernel_rfl) ?_
 refine K_then ?_
 refine C_seq ?_
 refine C_seq ?_
 refine C_reg ?_
 refine R1 d_move rfl ?_
 refine R1 d_not rfl ?_
 refine R1 d_move rfl ?_
 refine RGcase (t := 21) rfl (fun h136 => ?_) (fun h136 => ?_)
 ·
  have hk : ¬ (askB l a b = true ∧ sVal (wkd l a b) = true ∧ 0 ≤ d) := fun h => by rw [h.1] at h136; cases h136
  refine RGoff h136 rfl rfl ?_
  refine RGoff h136 rfl rfl ?_
  refine R2 (d_pickT h136) rfl rfl ?_
  refine R_nil (by kernel_rfl) ?_
  refine K_then ?_
  refine C_bT rfl rfl ?_
  refine C_seq ?_
  refine C_reg ?_
  refine R1 d_assign rfl ?_
  refine R1 d_assign rfl ?_
  refine R_nil (by kernel_rfl) ?_
  refine K_then ?_
  refine C_ret ?_
  refine K_retT ?_
  exact E_ret2 Plain.mk' rfl rfl rfl (leNil (by rw [if_neg hk])) (Le.int (by rw [if_neg hk]))
 ·
  have hk0 : askB l a b = true := by simpa using h136
  refine RGon h136 rfl d_move rfl ⟨rfl, trivial⟩ trivial trivial ?_
  refine RGon h136 rfl d_lss rfl ⟨rfl, rfl, trivial⟩ trivial trivial ?_
  refine R2 (d_pickF h136) rfl rfl ?_
  refine R_nil (by kernel_rfl) ?_
  refine K_then ?_
  refine C_if rfl (fun h136_2 => ?_) (fun h136_2 => ?_)
  ·
   have hk : ¬ (askB l a b = true ∧ sVal (wkd l a b) = true ∧ 0 ≤ d) := by omega
   refine C_seq ?_
   refine C_reg ?_
   refine R1 d_assign rfl ?_
   refine R1 d_assign rfl ?_
   refine R_nil (by kernel_rfl) ?_
   refine K_then ?_
   refine C_ret ?_
   refine K_retT ?_
   exact E_ret2 Plain.mk' rfl rfl rfl (leNil (by rw [if_neg hk])) (Le.int (by rw [if_neg hk]))
  ·
   refine C_skip ?_
   refine K_then ?_
   refine C_seq ?_
   refine C_reg ?_
   refine RE (d_load (0) ti75 rfl rfl) ⟨rfl, trivial⟩ ⟨rfl, trivial⟩ trivial ?_
   refine R1 (d_call (c_worked l a b (by omega)) fi56 rfl) rfl ?_
   refine R1 d_move rfl ?_
   refine R2 (d_call (c_SBridge (wkd l a b) d (by omega)) fi57 rfl) rfl rfl ?_
   refine R1 (d_extract rfl) rfl ?_
   refine R1 (d_extract rfl) rfl ?_
   refine R1 d_assign rfl ?_
   refine R1 d_assign rfl ?_
   refine R_nil (by kernel_rfl) ?_
   refine K_then ?_
   refine C_ret ?_
   exact E_ret2 Plain.mk' rfl rfl rfl (Le.of (by by_cases hs : sVal (wkd l a b) = true ∧ 0 ≤ d <;> simp [hk0, hs])) (Le.int (by by_cases hs : sVal (wkd l a b) = true ∧ 0 ≤ d <;> simp [hk0, hs]))
end An.S

/- Layer 8: service records in order; sums of days. Plain data, but for what the walks define. -/
namespace An.S
open Go
theorem tRight_iff {l : List Tst} : tRight l = true ↔ (∀ i, i < l.length → tOk l i = true) ∧ ∀ s ∈ l, s.v.valid = true := by
  simp only [tRight, Bool.and_eq_true, List.all_eq_true, List.mem_range]
theorem getD_snoc {l : List Tst} {s : Tst} {i : Nat} : (l ++ [s]).getD i tst0 = if i < l.length then l.getD i tst0 else if i = l.length then s else tst0 := by
  simp only [List.getD_eq_getElem?_getD, List.getElem?_append]
  by_cases h : i < l.length
  · simp [h]
  · by_cases h2 : i = l.length
    · simp [h2]
    · have : i - l.length ≠ 0 := by omega
      simp only [h, h2, if_false]
      rw [List.getElem?_eq_none (by simp; omega)]; rfl
theorem getD_setT {l : List Tst} {s : Tst} {i j : Nat} (hj : j < l.length) : (l.set j s).getD i tst0 = if i = j then s else l.getD i tst0 := by
  simp only [List.getD_eq_getElem?_getD]
  by_cases h : i = j
  · subst h; rw [List.getElem?_set_self hj]; simp
  · rw [List.getElem?_set_ne (Ne.symm h)]; simp [h]
/-- One more piece: still a timeline. -/
theorem pst1_right {l : List Tst} {s : Tst} (h : tRight l = true) (h0 : 0 ≤ s.lo) (h1 : s.hi ≤ 65536) (hv : s.v.valid = true) (hl : 0 < l.length → (l.getD (l.length - 1) tst0).hi ≤ s.lo ∧ (l.getD (l.length - 1) tst0).v.kind = s.v.kind) : tRight (pst1 l s) = true := by
  rw [pst1]
  split
  · exact h
  · rename_i hlt
    obtain ⟨ha, hb⟩ := tRight_iff.1 h
    split
    · rename_i hm
      refine tRight_iff.2 ⟨fun i hi => ?_, fun x hx => ?_⟩
      · rw [List.length_set] at hi
        have ho := tOk_iff.1 (ha i hi)
        refine tOk_iff.2 ?_
        rw [getD_setT (by omega), getD_setT (by omega)]
        by_cases e : i = l.length - 1
        · subst e
          rw [if_pos rfl]
          refine ⟨ho.1, by dsimp only; have := ho.2.1; omega, h1, ?_⟩
          by_cases e0 : l.length - 1 = 0
          · exact .inl e0
          · rw [if_neg (by omega)]
            exact .inr (ho.2.2.2.resolve_left e0)
        · rw [if_neg e]
          by_cases e0 : i = 0
          · exact ⟨ho.1, ho.2.1, ho.2.2.1, .inl e0⟩
          · rw [if_neg (by omega)]; exact ho
      · rcases List.mem_or_eq_of_mem_set hx with h' | h'
        · exact hb x h'
        · subst h'; exact hb (l.getD (l.length - 1) tst0) (mem_getD (by omega))
    · rename_i hm
      refine tRight_iff.2 ⟨fun i hi => ?_, fun x hx => ?_⟩
      · refine tOk_iff.2 ?_
        rw [List.length_append, List.length_singleton] at hi
        rw [getD_snoc, getD_snoc]
        by_cases e : i < l.length
        · have ho := tOk_iff.1 (ha i e)
          rw [if_pos e, if_pos (by omega)]; exact ho
        · have e2 : i = l.length := by omega
          subst e2
          rw [if_neg (by omega), if_pos rfl]
          refine ⟨h0, by omega, h1, ?_⟩
          by_cases e0 : l.length = 0
          · exact .inl e0
          · rw [if_pos (by omega)]
            have := hl (by omega)
            exact .inr ⟨this.1, this.2, fun h' => hm ⟨by omega, h'.1, h'.2⟩⟩
      · rcases List.mem_append.1 hx with h' | h'
        · exact hb x h'
        · rw [List.mem_singleton.1 h']; exact hv
theorem pst1_last {l : List Tst} {s : Tst} (h : s.lo < s.hi) : 0 < (pst1 l s).length ∧ ((pst1 l s).getD ((pst1 l s).length - 1) tst0).hi = s.hi ∧ ((pst1 l s).getD ((pst1 l s).length - 1) tst0).v = s.v := by
  rw [pst1, if_neg (by omega)]
  split
  · rename_i hm
    rw [List.length_set, getD_setT (by omega), if_pos rfl]
    exact ⟨by omega, rfl, hm.2.2⟩
  · rw [List.length_append, List.length_singleton, getD_snoc, if_neg (by omega), if_pos (by omega)]
    exact ⟨by omega, rfl, rfl⟩
theorem tRight_lt {l : List Tst} (h : tRight l = true) : ∀ {j i : Nat}, i < j → j < l.length → (l.getD i tst0).hi ≤ (l.getD j tst0).lo
  | j + 1, i, hij, hj => by
    have h1 := (tRight_at h hj).2.2.2.resolve_left (by omega)
    have h1 : (l.getD j tst0).hi ≤ (l.getD (j + 1) tst0).lo := h1.1
    rcases Nat.lt_or_ge i j with h2 | h2
    · have h3 := tRight_lt h h2 (by omega)
      have h4 := (tRight_at h (i := j) (by omega)).2.1
      omega
    · have : i = j := by omega
      subst this; exact h1
theorem tRight_pair {l : List Tst} (h : tRight l = true) : l.Pairwise fun s t => s.hi ≤ t.lo := by
  refine List.pairwise_iff_getElem.2 fun i j hi hj hij => ?_
  have := tRight_lt h hij hj
  rwa [List.getD_eq_getElem?_getD, List.getD_eq_getElem?_getD, List.getElem?_eq_getElem hi, List.getElem?_eq_getElem hj] at this
/-! Worked days. -/
def okS (s : Sn) : Prop := 0 ≤ s.lo ∧ s.lo < s.hi ∧ s.hi ≤ 65536
def ascS (l : List Sn) : Prop := (∀ s ∈ l, okS s) ∧ l.Pairwise fun s t => s.hi ≤ t.lo
theorem wkS_asc {l : List Tst} {a b : Int} (h : tRight l = true) (h0 : 0 ≤ a) (h1 : b ≤ 65536) (hab : a < b) : ascS (wkS l a b) := by
  refine ⟨fun s hs => ?_, ?_⟩
  · obtain ⟨x, hx, rfl⟩ := List.mem_map.1 hs
    obtain ⟨hm, hi⟩ := List.mem_filter.1 hx
    obtain ⟨i, hi2, rfl⟩ := exists_getD hm
    have h3 := tRight_at h hi2
    have h4 : ¬ _ := fun h' => by rw [idle_iff.2 h'] at hi; cases hi
    simp only [okS, clipS]
    omega
  · refine (((tRight_pair h).filter _).map (S := fun s t => s.hi ≤ t.lo) (clipS a b) fun s t hst => ?_)
    simp only [clipS]; omega
theorem ascS_pos {l : List Sn} (h : ascS l) : l.filter pos = l := List.filter_eq_self.2 fun s hs => by
  have := h.1 s hs
  simp only [pos, decide_eq_true_eq]; exact this.2.1
theorem ascS_srt {l : List Sn} (h : ascS l) : srt cfSn l = l := by
  refine srt_asc swoSn ?_
  refine List.pairwise_iff_forall_sublist.2 fun {s t} hst => ?_
  have h1 := List.pairwise_iff_forall_sublist.1 h.2 hst
  have h2 := (h.1 s (hst.subset (List.mem_cons_self ..))).2.1
  rw [ltSn]; simp; omega
theorem ascS_ok {l : List Sn} (h : ascS l) : l.all Sn.ok = true := List.all_eq_true.2 fun s hs => by
  have := h.1 s hs
  simp only [Sn.ok, Bool.and_eq_true, decide_eq_true_eq]; simp only [okS] at this; omega
theorem wkd_eq {l : List Tst} {a b : Int} (h : tRight l = true) (h0 : 0 ≤ a) (h1 : b ≤ 65536) : wkd l a b = if b ≤ a then [] else mrg (wkS l a b) := by
  rw [wkd]; split
  · rfl
  · rename_i hab
    have ha := wkS_asc h h0 h1 (by omega)
    rw [if_pos (ascS_ok ha), mkS, ascS_pos ha, ascS_srt ha]
/-! Sets. -/
def lastS (l : List Sn) : Sn := l.getD (l.length - 1) sn0
theorem sVal_iff {l : List Sn} : sVal l = true ↔ ∀ i, i < l.length → sOkA l i = true := by
  simp only [sVal, List.all_eq_true, List.mem_range]
theorem getD_snocS {l : List Sn} {s : Sn} {i : Nat} : (l ++ [s]).getD i sn0 = if i < l.length then l.getD i sn0 else if i = l.length then s else sn0 := by
  simp only [List.getD_eq_getElem?_getD, List.getElem?_append]
  by_cases h : i < l.length
  · simp [h]
  · by_cases h2 : i = l.length
    · simp [h2]
    · have : i - l.length ≠ 0 := by omega
      simp only [h, h2, if_false]
      rw [List.getElem?_eq_none (by simp; omega)]; rfl
theorem getD_setS {l : List Sn} {s : Sn} {i j : Nat} (hj : j < l.length) : (l.set j s).getD i sn0 = if i = j then s else l.getD i sn0 := by
  simp only [List.getD_eq_getElem?_getD]
  by_cases h : i = j
  · subst h; rw [List.getElem?_set_self hj]; simp
  · rw [List.getElem?_set_ne (Ne.symm h)]; simp [h]
/-- A set, a span behind it. -/
theorem sVal_snoc {l : List Sn} {s : Sn} (h : sVal l = true) (hs : okS s) (hl : 0 < l.length → (lastS l).hi < s.lo) : sVal (l ++ [s]) = true := by
  refine sVal_iff.2 fun i hi => sOkA_iff.2 ?_
  rw [List.length_append, List.length_singleton] at hi
  rw [getD_snocS, getD_snocS]
  by_cases e : i < l.length
  · have ho := sOkA_iff.1 (sVal_iff.1 h i e)
    rw [if_pos e, if_pos (by omega)]; exact ho
  · have e2 : i = l.length := by omega
    subst e2
    rw [if_neg (by omega), if_pos rfl]
    obtain ⟨h1, h2, h3⟩ := hs
    refine ⟨by simp [Sn.ok]; omega, by omega, ?_⟩
    by_cases e0 : l.length = 0
    · exact .inl e0
    · rw [if_pos (by omega)]; exact .inr (hl (by omega))
/-- A set whose last span ends later. -/
theorem sVal_long {l : List Sn} {e : Int} (h : sVal l = true) (hl : 0 < l.length) (h1 : (lastS l).hi ≤ e) (h2 : e ≤ 65536) : sVal (l.set (l.length - 1) ⟨(lastS l).lo, e⟩) = true := by
  refine sVal_iff.2 fun i hi => sOkA_iff.2 ?_
  rw [List.length_set] at hi
  have ho := sOkA_iff.1 (sVal_iff.1 h i hi)
  rw [getD_setS (by omega), getD_setS (by omega)]
  by_cases e1 : i = l.length - 1
  · subst e1
    have ho1 : (lastS l).ok = true ∧ (lastS l).lo ≠ (lastS l).hi ∧ (l.length - 1 = 0 ∨ (l.getD (l.length - 1 - 1) sn0).hi < (lastS l).lo) := ho
    rw [if_pos rfl]
    have h3 := ho1.1
    simp only [Sn.ok, Bool.and_eq_true, decide_eq_true_eq] at h3
    refine ⟨by simp [Sn.ok]; omega, by have := ho1.2.1; dsimp only; omega, ?_⟩
    by_cases e0 : l.length - 1 = 0
    · exact .inl e0
    · rw [if_neg (by omega)]; exact .inr (ho1.2.2.resolve_left e0)
  · rw [if_neg e1]
    by_cases e0 : i = 0
    · exact ⟨ho.1, ho.2.1, .inl e0⟩
    · rw [if_neg (by omega)]; exact ho
def dayS (l : List Sn) : Int := (l.map fun s => s.hi - s.lo).sum
theorem dayS_snoc {l : List Sn} {s : Sn} : dayS (l ++ [s]) = dayS l + (s.hi - s.lo) := by simp [dayS]
theorem split_last {l : List Sn} (h : 0 < l.length) : l = l.take (l.length - 1) ++ [lastS l] := by
  have e : l.take (l.length - 1 + 1) = l.take (l.length - 1) ++ [l[l.length - 1]] := List.take_succ_eq_append_getElem (by omega)
  rw [show l.length - 1 + 1 = l.length by omega, List.take_length] at e
  rw [lastS, List.getD_eq_getElem?_getD, List.getElem?_eq_getElem (by omega)]; exact e
theorem set_lastE {l : List Sn} {x : Sn} (h : 0 < l.length) : l.set (l.length - 1) x = l.take (l.length - 1) ++ [x] := by
  have e := List.set_eq_take_append_cons_drop (l := l) (i := l.length - 1) (a := x)
  rw [if_pos (by omega), show l.length - 1 + 1 = l.length by omega, List.drop_length] at e
  exact e
theorem dayS_long {l : List Sn} {e : Int} (h : 0 < l.length) : dayS (l.set (l.length - 1) ⟨(lastS l).lo, e⟩) = dayS l + (e - (lastS l).hi) := by
  have h1 : dayS l = dayS (l.take (l.length - 1)) + ((lastS l).hi - (lastS l).lo) := by rw [← dayS_snoc, ← split_last h]
  rw [h1, set_lastE h, dayS_snoc]; dsimp only; omega
/-- What is merged in order is a set with the same days. -/
theorem mrg_asc : ∀ (xs acc : List Sn), ascS xs → sVal acc = true → (0 < acc.length → ∀ s ∈ xs, (lastS acc).hi ≤ s.lo) → sVal (xs.foldl mrg1 acc) = true ∧ dayS (xs.foldl mrg1 acc) = dayS acc + dayS xs
  | [], acc, _, hv, _ => ⟨hv, by simp [dayS]⟩
  | s :: r, acc, hx, hv, hl => by
    have hs := hx.1 s (List.mem_cons_self ..)
    have hp := List.pairwise_cons.1 hx.2
    have hr : ascS r := ⟨fun t ht => hx.1 t (List.mem_cons_of_mem _ ht), hp.2⟩
    have key : sVal (mrg1 acc s) = true ∧ dayS (mrg1 acc s) = dayS acc + (s.hi - s.lo) ∧ 0 < (mrg1 acc s).length ∧ (lastS (mrg1 acc s)).hi = s.hi := by
      rw [mrg1]
      split
      · rename_i hm
        have h1 : (lastS acc).hi = s.lo := by have := hl hm.1 s (List.mem_cons_self ..); have h2 : s.lo ≤ (lastS acc).hi := hm.2; omega
        have hmax : max (acc.getD (acc.length - 1) sn0).hi s.hi = s.hi := by
          have h2 : (acc.getD (acc.length - 1) sn0).hi = s.lo := h1
          have := hs.2.1; omega
        rw [hmax]
        refine ⟨sVal_long hv hm.1 (by have := hs.2.1; omega) hs.2.2, by rw [show (acc.getD (acc.length - 1) sn0).lo = (lastS acc).lo from rfl, dayS_long hm.1]; omega, by rw [List.length_set]; exact hm.1, ?_⟩
        rw [lastS, List.length_set, getD_setS (by omega), if_pos rfl]
      · rename_i hm
        refine ⟨sVal_snoc hv hs fun h0 => ?_, by rw [dayS_snoc], by simp, ?_⟩
        · have := hl h0 s (List.mem_cons_self ..)
          have h2 : ¬ s.lo ≤ (lastS acc).hi := fun h' => hm ⟨h0, h'⟩
          omega
        · rw [lastS, getD_snocS, List.length_append, List.length_singleton, if_neg (by omega), if_pos (by omega)]
    have ih := mrg_asc r (mrg1 acc s) hr key.1 fun _ t ht => by rw [key.2.2.2]; exact hp.1 t ht
    refine ⟨ih.1, ?_⟩
    rw [List.foldl_cons, ih.2, key.2.1]
    have : dayS (s :: r) = (s.hi - s.lo) + dayS r := by simp [dayS]
    omega
theorem wkd_set {l : List Tst} {a b : Int} (h : tRight l = true) (h0 : 0 ≤ a) (h1 : b ≤ 65536) : sVal (wkd l a b) = true ∧ dayS (wkd l a b) = if b ≤ a then 0 else dayS (wkS l a b) := by
  rw [wkd_eq h h0 h1]
  split
  · exact ⟨rfl, rfl⟩
  · rename_i hab
    have := mrg_asc (wkS l a b) [] (wkS_asc h h0 h1 (by omega)) rfl fun h' => by cases h'
    exact ⟨this.1, by rw [mrg, this.2]; simp [dayS]⟩
end An.S

/- Law 8: records are built, days are counted. -/
namespace An.S
open Go Go.Proofs An
set_option maxHeartbeats 2000000
theorem fi16 : FnI Tryz.prog 16 := ⟨_, Tryz.func16, by kernel_rfl, rfl⟩
theorem fi40 : FnI Tryz.prog 40 := ⟨_, Tryz.func40, by kernel_rfl, rfl⟩
def befS (day : Int) (s : Sn) : Int := if s.lo < day then min s.hi day - s.lo else 0
def bef (l : List Sn) (day : Int) : Int := (l.map (befS day)).sum
def bFrom (m : List Nat) (k : Nat) (t : Int) : Int := t + ((m.getD (3 * k) 0 : Nat) : Int) % 2000
def bEnd (m : List Nat) (k : Nat) (t : Int) : Int := bFrom m k t + 1 + ((m.getD (3 * k + 1) 0 : Nat) : Int) % 2000
def bQ (m : List Nat) (k : Nat) : Int := ((m.getD (3 * k + 2) 0 : Nat) : Int) % 5
def qv (q : Int) : Va := ⟨2, fr (kfr q 4), 0⟩
def bSt (m : List Nat) (k : Nat) (t : Int) : Tst := ⟨bFrom m k t, bEnd m k t, qv (bQ m k)⟩
def bRun (m : List Nat) : Nat → Nat → List Tst → Int → List Tst
  | 0, _, out, _ => out
  | f + 1, k, out, t => if 3 * k + 2 < m.length ∧ k < 40 then (if 65536 < bEnd m k t then out else bRun m f (k + 1) (pst1 out (bSt m k t)) (bEnd m k t)) else out
def builtT (m : List Nat) : List Tst := bRun m 41 0 [] 0
theorem bRun_stop {m : List Nat} {k : Nat} {out : List Tst} {t : Int} {r : List Tst} (hk : k ≤ 40) (h : bRun m (41 - k) k out t = r) (hs : ¬ (3 * k + 2 < m.length ∧ k < 40) ∨ 65536 < bEnd m k t) : out = r := by
  rw [show 41 - k = (40 - k) + 1 by omega, bRun] at h
  split at h
  · rw [if_pos (hs.resolve_left (fun h' => h' (by assumption)))] at h; exact h
  · exact h
theorem bRun_next {m : List Nat} {k : Nat} {out : List Tst} {t : Int} {r : List Tst} (hk : k ≤ 40) (h : bRun m (41 - k) k out t = r) (hs : 3 * k + 2 < m.length ∧ k < 40) (he : ¬ 65536 < bEnd m k t) : bRun m (41 - (k + 1)) (k + 1) (pst1 out (bSt m k t)) (bEnd m k t) = r := by
  rw [show 41 - k = (41 - (k + 1)) + 1 by omega, bRun, if_pos hs, if_neg he] at h; exact h
theorem bSt_lt {m : List Nat} {k : Nat} {t : Int} : (bSt m k t).lo < (bSt m k t).hi := by simp only [bSt, bEnd]; omega
theorem c_Built (m : List Nat) (hm : ∀ i, m.getD i 0 < 65536) :
  Ct Tryz.prog 13 [tLm m] (tL 8 true tTs (builtT m)) := by
 refine Ct.intro Tryz.func13 rfl Tryz.ntmps13 rfl ?_
 intro w F
 refine C_len (s := 0) rfl (fun hl0 => ?_)
 refine C_seq ?_
 refine C_reg ?_
 refine R1 d_assign rfl ?_
 refine R_nil (by kernel_rfl) ?_
 refine K_then ?_
 refine C_seq ?_
 refine C_reg ?_
 refine RE (d_assignN (k := 3) 39 8 true rfl (fun h => by cases h)) trivial trivial ⟨rfl, trivial⟩ ?_
 refine R_nil (by kernel_rfl) ?_
 refine K_then ?_
 refine C_seq ?_
 refine C_reg ?_
 refine R1 d_assign rfl ?_
 refine R_nil (by kernel_rfl) ?_
 refine K_then ?_
 refine C_seq ?_
 refine C_seq ?_
 refine C_reg ?_
 refine R1 d_assign rfl ?_
 refine R_nil (by kernel_rfl) ?_
 refine K_then ?_
 refine C_block ?_
 refine C_loop (fun (fm : (Nat) × (List Tst) × (Int)) => (fun (k : Nat) (xs : List Tst) (t : Int) => k ≤ 40 ∧ bRun m (41 - k) k xs t = builtT m ∧ xs.length ≤ k ∧ 0 ≤ t ∧ t ≤ 65536) fm.1 fm.2.1 fm.2.2) (fun (fm : (Nat) × (List Tst) × (Int)) => (fun (k : Nat) (xs : List Tst) (t : Int) => upd (upd (upd (upd (fun _ => none) 0 (some (.val (tLm m)))) 3 (some (.own (.sl 3 8 0 xs.length)))) 4 (some (.val (tI t)))) 5 (some (.val (tI (3 * (k : Int)))))) fm.1 fm.2.1 fm.2.2) (fun (fm : (Nat) × (List Tst) × (Int)) => (fun (k : Nat) (xs : List Tst) (t : Int) => upd (fun _ => none) 3 (some (⟨39, 8, true, rV tTs xs⟩))) fm.1 fm.2.1 fm.2.2) (nm [3]) (fun (fm : (Nat) × (List Tst) × (Int)) => (fun (k : Nat) (xs : List Tst) (t : Int) => 41 - k) fm.1 fm.2.1 fm.2.2) ((0, [], 0)) (by dsimp only; exact ⟨Nat.zero_le _, rfl, Nat.le_refl _, by omega, by omega⟩) (Sub.int rfl (by first | omega | rfl | (dsimp only; omega)) (Sub.int rfl (by first | omega | rfl | (dsimp only; omega)) (Sub.cons rfl (Sub.cons rfl Sub.nil)))) ((SubK.consI rfl ImpK.refl) SubK.nil) (SupG.val (SupG.val (SupG.own rfl (SupG.val SupG.nil)))) (SupH.cons rfl (supJ sup_rV) SupH.nil) (lkOk rfl) ?_
 intro fm hI
 obtain ⟨k, xs, t⟩ := fm
 replace hI : k ≤ 40 ∧ bRun m (41 - k) k xs t = builtT m ∧ xs.length ≤ k ∧ 0 ≤ t ∧ t ≤ 65536 := hI
 show wc _ _ _ _ (upd (upd (upd (upd (fun _ => none) 0 (some (.val (tLm m)))) 3 (some (.own (.sl 3 8 0 xs.length)))) 4 (some (.val (tI t)))) 5 (some (.val (tI (3 * (k : Int)))))) (upd (fun _ => none) 3 (some (⟨39, 8, true, rV tTs xs⟩))) _
 obtain ⟨hk, hb, hxl, ht0, ht1⟩ := hI
 have m0 := hm (3 * k)
 have m1 := hm (3 * k + 1)
 have m2 := hm (3 * k + 2)
 refine C_seq ?_
 refine C_seq ?_
 refine C_reg ?_
 refine R1 d_move rfl ?_
 refine R2 (d_add (wr64 (by omega) (by omega))) rfl rfl ?_
 refine R1 d_move rfl ?_
 refine R1 (d_len Tryz.underlying22) rfl ?_
 refine R2 d_lss rfl rfl ?_
 refine R1 d_move rfl ?_
 refine RGcaseD (t := 15) rfl (fun h17 => ?_) (fun h17 => ?_)
 ·
  refine RGon (decide_eq_true h17) rfl d_move rfl ⟨rfl, trivial⟩ trivial trivial ?_
  refine RGon (decide_eq_true h17) rfl d_lss rfl ⟨rfl, rfl, trivial⟩ trivial trivial ?_
  refine R2 (d_pickT (decide_eq_true h17)) rfl rfl ?_
  refine R_nil (by kernel_rfl) ?_
  refine K_then ?_
  refine C_if rfl (fun h17_2 => ?_) (fun h17_2 => ?_)
  ·
   refine C_skip ?_
   refine K_then ?_
   refine C_seq ?_
   refine C_block ?_
   refine C_seq ?_
   refine C_reg ?_
   refine R1 d_move rfl ?_
   refine R1 d_move rfl ?_
   refine R1 d_move rfl ?_
   refine R2 (d_indexP sl22 (3 * k) (by omega) (gN (by omega))) rfl rfl ?_
   refine R1 (d_loadP ti47) rfl ?_
   refine R1 (d_convert Tryz.underlying3 (isS Tryz.underlying47) (wr64 (by omega) (by omega))) rfl ?_
   refine R2 (d_remP (by omega) (by omega)) rfl rfl ?_
   refine R2 (d_add (wr64 (by omega) (by omega))) rfl rfl ?_
   refine R1 d_assign rfl ?_
   refine R_nil (by kernel_rfl) ?_
   refine K_then ?_
   refine C_seq ?_
   refine C_reg ?_
   refine R1 d_move rfl ?_
   refine R2 (d_add (wr64 (by omega) (by omega))) rfl rfl ?_
   refine R1 d_move rfl ?_
   refine R1 d_move rfl ?_
   refine R2 (d_add (wr64 (by omega) (by omega))) rfl rfl ?_
   refine R2 (d_indexP sl22 (3 * k + 1) (by omega) (gN (by omega))) rfl rfl ?_
   refine R1 (d_loadP ti47) rfl ?_
   refine R1 (d_convert Tryz.underlying3 (isS Tryz.underlying47) (wr64 (by omega) (by omega))) rfl ?_
   refine R2 (d_remP (by omega) (by omega)) rfl rfl ?_
   refine R2 (d_add (wr64 (by omega) (by omega))) rfl rfl ?_
   refine R1 d_assign rfl ?_
   refine R_nil (by kernel_rfl) ?_
   refine K_then ?_
   refine C_seq ?_
   refine C_reg ?_
   refine R1 d_move rfl ?_
   refine R1 d_move rfl ?_
   refine R1 d_move rfl ?_
   refine R1 d_move rfl ?_
   refine R2 (d_add (wr64 (by omega) (by omega))) rfl rfl ?_
   refine R2 (d_indexP sl22 (3 * k + 2) (by omega) (gN (by omega))) rfl rfl ?_
   refine R1 (d_loadP ti47) rfl ?_
   refine R1 (d_convert Tryz.underlying3 (isS Tryz.underlying47) (wr64 (by omega) (by omega))) rfl ?_
   refine R2 (d_remP (by omega) (by omega)) rfl rfl ?_
   refine RE (d_call (c_step08 (bFrom m k t) (bEnd m k t) (bQ m k) 4 (by simp only [bQ]; omega) (by simp only [bQ]; omega) (by decide) (by decide)) fi16 rfl) ⟨rfl, rfl, rfl, rfl, trivial⟩ trivial trivial ?_
   refine RE (d_alloc (k := 8) (n := 8) (agg := true) zr39.1 zr39.2 rfl) trivial trivial ⟨rfl, trivial⟩ ?_
   refine RE (d_store (es := 8) (agg := true) (0) ti39 rfl rfl rfl) ⟨rfl, rfl, trivial⟩ ⟨rfl, trivial⟩ trivial ?_
   refine R_nil (by kernel_rfl) ?_
   refine K_then ?_
   refine C_seq ?_
   refine C_seq ?_
   refine C_reg ?_
   refine R1 d_move rfl ?_
   refine R2 d_gtr rfl rfl ?_
   refine R_nil (by kernel_rfl) ?_
   refine K_then ?_
   refine C_if rfl (fun h21 => ?_) (fun h21 => ?_)
   ·
    refine C_exit ?_
    refine K_exT ?_
    refine K_exO rfl ?_
    refine K_exT ?_
    refine K_exT ?_
    refine K_exB ?_
    refine K_then ?_
    refine C_seq ?_
    refine C_reg ?_
    refine R1 d_move rfl ?_
    refine RE (d_assignS (f := tTs) (xs := xs) (fun _ h => h) (rV_all rfl) rfl) ⟨rfl, trivial⟩ ⟨rfl, trivial⟩ trivial ?_
    refine R_nil (by kernel_rfl) ?_
    refine K_then ?_
    refine C_ret ?_
    exact E_ret1 Plain.mk' rfl rfl (Le.of (by rw [bRun_stop hk hb (.inr (by simp only [bEnd, bFrom]; omega))]))
   ·
    refine C_skip ?_
    refine K_then ?_
    refine C_seq ?_
    refine C_seq ?_
    refine C_reg ?_
    refine R1 d_move rfl ?_
    refine R1 (d_lenO Tryz.underlying30) rfl ?_
    refine R2 (d_sub (wr64 (by omega) (by omega))) rfl rfl ?_
    refine R1 d_assign rfl ?_
    refine R_nil (by kernel_rfl) ?_
    refine K_then ?_
    refine C_seq ?_
    refine C_draw mixed ?_
    refine R1 d_move rfl ?_
    refine R2 d_geq rfl rfl ?_
    refine R1 d_move rfl ?_
    refine RGcaseD (t := 56) rfl (fun h24 => ?_) (fun h24 => ?_)
    ·
     refine RGon (decide_eq_true h24) rfl d_move rfl ⟨rfl, trivial⟩ trivial trivial ?_
     refine RGon (decide_eq_true h24) rfl d_move rfl ⟨rfl, trivial⟩ trivial trivial ?_
     refine RGon (decide_eq_true h24) rfl (d_indexO sl30 (by omega) (by omega) rfl) rfl ⟨rfl, rfl, trivial⟩ trivial trivial ?_
     refine RGon (decide_eq_true h24) rfl (d_fieldO fo39_1 rfl) rfl ⟨rfl, trivial⟩ trivial trivial ?_
     refine RGon (decide_eq_true h24) rfl (d_loadF (es := 8) (o := 1) (xs.length - 1) ti3 (rV_getD (d := tst0) (by omega)) (At.g 1 rfl rfl) (by omega)) rfl ⟨rfl, trivial⟩ ⟨rfl, trivial⟩ trivial ?_
     refine RGon (decide_eq_true h24) rfl d_move rfl ⟨rfl, trivial⟩ trivial trivial ?_
     refine RGon (decide_eq_true h24) rfl d_eql rfl ⟨rfl, rfl, trivial⟩ trivial trivial ?_
     refine R2 (d_pickT (decide_eq_true h24)) rfl rfl ?_
     refine R1 d_move rfl ?_
     refine RGcaseD (t := 65) rfl (fun h24_2 => ?_) (fun h24_2 => ?_)
     ·
      refine RGon (decide_eq_true h24_2) rfl d_move rfl ⟨rfl, trivial⟩ trivial trivial ?_
      refine RGon (decide_eq_true h24_2) rfl d_move rfl ⟨rfl, trivial⟩ trivial trivial ?_
      refine RGon (decide_eq_true h24_2) rfl (d_indexO sl30 (by omega) (by omega) rfl) rfl ⟨rfl, rfl, trivial⟩ trivial trivial ?_
      refine RGon (decide_eq_true h24_2) rfl (d_fieldO fo39_2 rfl) rfl ⟨rfl, trivial⟩ trivial trivial ?_
      refine RGon (decide_eq_true h24_2) rfl (d_loadF (es := 8) (o := 2) (xs.length - 1) ti37 (rV_getD (d := tst0) (by omega)) (At.g 2 rfl rfl) (by omega)) rfl ⟨rfl, trivial⟩ ⟨rfl, trivial⟩ trivial ?_
      refine RGon (decide_eq_true h24_2) rfl (d_fieldO fo39_2 rfl) rfl ⟨rfl, trivial⟩ trivial trivial ?_
      refine RG_loadF (decide_eq_true h24_2) rfl rfl (0) ti37 rfl rfl rfl (At.g 2 rfl rfl) rfl ?_
      refine RGon (decide_eq_true h24_2) rfl (d_call (c_SameValue _ _) fi40 rfl) rfl ⟨rfl, rfl, trivial⟩ trivial trivial ?_
      refine R2 (d_pickT (decide_eq_true h24_2)) rfl rfl ?_
      refine R_end (by kernel_rfl) ?_
      refine K_then ?_
      refine C_if rfl (fun h24_3 => ?_) (fun h24_3 => ?_)
      ·
       refine C_reg ?_
       refine R1 d_move rfl ?_
       refine R1 d_move rfl ?_
       refine R1 d_move rfl ?_
       refine R2 (d_indexO sl30 (by omega) (by omega) rfl) rfl rfl ?_
       refine R1 (d_fieldO fo39_1 rfl) rfl ?_
       refine RE (d_storeF (es := 8) (o := 1) (t2 := tTs ⟨(xs.getD (xs.length - 1) tst0).lo, (bSt m k t).hi, (xs.getD (xs.length - 1) tst0).v⟩) (xs.length - 1) ti3 (rV_getD (d := tst0) (by omega)) (Up.g 1 rfl rfl rfl) (by omega) (rV_set rfl)) ⟨rfl, rfl, trivial⟩ ⟨rfl, trivial⟩ trivial ?_
       refine R_nil (by kernel_rfl) ?_
       refine K_then ?_
       refine C_reg ?_
       refine R1 d_move rfl ?_
       refine R1 d_assign rfl ?_
       refine R_nil (by kernel_rfl) ?_
       refine K_norB ?_
       refine K_then ?_
       refine C_reg ?_
       refine R1 d_move rfl ?_
       refine R2 (d_add (wr64 (by omega) (by omega))) rfl rfl ?_
       refine R1 d_assign rfl ?_
       refine R_nil (by kernel_rfl) ?_
       have hpx : pst1 xs (bSt m k t) = (xs.set (xs.length - 1) ⟨(xs.getD (xs.length - 1) tst0).lo, (bSt m k t).hi, (xs.getD (xs.length - 1) tst0).v⟩) := by
        have hlt := bSt_lt (m := m) (k := k) (t := t)
        rw [pst1, if_neg (by omega), if_pos ⟨by omega, by simp only [bSt, bEnd, bFrom]; omega, h24_3⟩]
       exact K_fam ((k + 1, (xs.set (xs.length - 1) ⟨(xs.getD (xs.length - 1) tst0).lo, (bSt m k t).hi, (xs.getD (xs.length - 1) tst0).v⟩), bEnd m k t)) ⟨(by dsimp only; exact ⟨by omega, by rw [← hpx]; exact bRun_next hk hb ⟨by omega, by omega⟩ (by simp only [bEnd, bFrom]; omega), by rw [List.length_set]; omega, by simp only [bEnd, bFrom]; omega, by simp only [bEnd, bFrom]; omega⟩), (by dsimp only; omega)⟩ (Sub.int rfl (by first | omega | rfl | (dsimp only; omega)) (Sub.int rfl (by first | omega | rfl | (dsimp only; omega)) ((Sub.consI rfl (Imp.of (by dsimp only; rw [List.length_set]))) (Sub.cons rfl Sub.nil)))) ((SubK.consI rfl ImpK.refl) SubK.nil) (SupG.val (SupG.val (SupG.own rfl (SupG.val SupG.nil)))) (SupH.cons rfl (supJ sup_rV) SupH.nil) (lkOk rfl)
      ·
       refine C_reg ?_
       refine R1 d_move rfl ?_
       refine RE (d_load (0) ti39 rfl rfl) ⟨rfl, trivial⟩ ⟨rfl, trivial⟩ trivial ?_
       refine R1 (d_vals (n := 1) (f := tTs) [(bSt m k t)] Tryz.underlying30 el39 zf39 rfl (fun _ => inferInstance) rfl rfl rfl) rfl ?_
       refine RE (d_appendO (k := 3) (k' := 83) (f := tTs) (ys := [(bSt m k t)]) (ts' := rV tTs (xs ++ [(bSt m k t)])) Tryz.underlying30 el39 zf39 rfl rfl (fun _ => inferInstance) rV_len (by simp; omega) (by simp; omega) (by simp [rV]) (n' := xs.length + 1) rfl) ⟨rfl, rfl, trivial⟩ ⟨rfl, trivial⟩ ⟨rfl, trivial⟩ ?_
       refine R1 d_assign rfl ?_
       refine R_nil (by kernel_rfl) ?_
       refine K_then ?_
       refine C_reg ?_
       refine R1 d_move rfl ?_
       refine R1 d_assign rfl ?_
       refine R_nil (by kernel_rfl) ?_
       refine K_norB ?_
       refine K_then ?_
       refine C_reg ?_
       refine R1 d_move rfl ?_
       refine R2 (d_add (wr64 (by omega) (by omega))) rfl rfl ?_
       refine R1 d_assign rfl ?_
       refine R_nil (by kernel_rfl) ?_
       have hpx : pst1 xs (bSt m k t) = xs ++ [(bSt m k t)] := by
        have hlt := bSt_lt (m := m) (k := k) (t := t)
        rw [pst1, if_neg (by omega), if_neg (fun h => h24_3 h.2.2)]
       exact K_famR (l := [3]) (fun j => cond (Nat.beq j 3) 83 (j)) ((k + 1, xs ++ [(bSt m k t)], bEnd m k t)) ⟨(by dsimp only; exact ⟨by omega, by rw [← hpx]; exact bRun_next hk hb ⟨by omega, by omega⟩ (by simp only [bEnd, bFrom]; omega), by rw [List.length_append]; simp; omega, by simp only [bEnd, bFrom]; omega, by simp only [bEnd, bFrom]; omega⟩), (by dsimp only; omega)⟩ (SubR.int rfl (by first | omega | rfl | (dsimp only; omega)) (SubR.int rfl (by first | omega | rfl | (dsimp only; omega)) ((SubR.consI rfl (Imp.of (by dsimp only; rw [List.length_append]; rfl))) (SubR.cons rfl SubR.nil)))) ((SubKR.consI rfl (ImpK.of ren_rV.symm)) SubKR.nil) (SupG.val (SupG.val (SupG.own rfl (SupG.val SupG.nil)))) (SupH.cons rfl (supJ sup_rV) SupH.nil) (lkOk rfl) rfl rfl (fun _ h => by cases h)
     ·
      refine RGoff (decide_eq_false h24_2) rfl rfl ?_
      refine RGoff (decide_eq_false h24_2) rfl rfl ?_
      refine RGoff (decide_eq_false h24_2) rfl rfl ?_
      refine RGoff (decide_eq_false h24_2) rfl rfl ?_
      refine RGoff (decide_eq_false h24_2) rfl rfl ?_
      refine RGoff (decide_eq_false h24_2) rfl rfl ?_
      refine RGoff (decide_eq_false h24_2) rfl rfl ?_
      refine RGoff (decide_eq_false h24_2) rfl rfl ?_
      refine R2 (d_pickF (decide_eq_false h24_2)) rfl rfl ?_
      refine R_end (by kernel_rfl) ?_
      refine K_then ?_
      refine C_bF rfl rfl ?_
      refine C_reg ?_
      refine R1 d_move rfl ?_
      refine RE (d_load (0) ti39 rfl rfl) ⟨rfl, trivial⟩ ⟨rfl, trivial⟩ trivial ?_
      refine R1 (d_vals (n := 1) (f := tTs) [(bSt m k t)] Tryz.underlying30 el39 zf39 rfl (fun _ => inferInstance) rfl rfl rfl) rfl ?_
      refine RE (d_appendO (k := 3) (k' := 83) (f := tTs) (ys := [(bSt m k t)]) (ts' := rV tTs (xs ++ [(bSt m k t)])) Tryz.underlying30 el39 zf39 rfl rfl (fun _ => inferInstance) rV_len (by simp; omega) (by simp; omega) (by simp [rV]) (n' := xs.length + 1) rfl) ⟨rfl, rfl, trivial⟩ ⟨rfl, trivial⟩ ⟨rfl, trivial⟩ ?_
      refine R1 d_assign rfl ?_
      refine R_nil (by kernel_rfl) ?_
      refine K_then ?_
      refine C_reg ?_
      refine R1 d_move rfl ?_
      refine R1 d_assign rfl ?_
      refine R_nil (by kernel_rfl) ?_
      refine K_norB ?_
      refine K_then ?_
      refine C_reg ?_
      refine R1 d_move rfl ?_
      refine R2 (d_add (wr64 (by omega) (by omega))) rfl rfl ?_
      refine R1 d_assign rfl ?_
      refine R_nil (by kernel_rfl) ?_
      have hpx : pst1 xs (bSt m k t) = xs ++ [(bSt m k t)] := by
       have hlt := bSt_lt (m := m) (k := k) (t := t)
       rw [pst1, if_neg (by omega), if_neg (fun h => h24_2 (by have := h.2.1; simp only [bSt, bFrom] at this; omega))]
      exact K_famR (l := [3]) (fun j => cond (Nat.beq j 3) 83 (j)) ((k + 1, xs ++ [(bSt m k t)], bEnd m k t)) ⟨(by dsimp only; exact ⟨by omega, by rw [← hpx]; exact bRun_next hk hb ⟨by omega, by omega⟩ (by simp only [bEnd, bFrom]; omega), by rw [List.length_append]; simp; omega, by simp only [bEnd, bFrom]; omega, by simp only [bEnd, bFrom]; omega⟩), (by dsimp only; omega)⟩ (SubR.int rfl (by first | omega | rfl | (dsimp only; omega)) (SubR.int rfl (by first | omega | rfl | (dsimp only; omega)) ((SubR.consI rfl (Imp.of (by dsimp only; rw [List.length_append]; rfl))) (SubR.cons rfl SubR.nil)))) ((SubKR.consI rfl (ImpK.of ren_rV.symm)) SubKR.nil) (SupG.val (SupG.val (SupG.own rfl (SupG.val SupG.nil)))) (SupH.cons rfl (supJ sup_rV) SupH.nil) (lkOk rfl) rfl rfl (fun _ h => by cases h)
    ·
     refine RGoff (decide_eq_false h24) rfl rfl ?_
     refine RGoff (decide_eq_false h24) rfl rfl ?_
     refine RGoff (decide_eq_false h24) rfl rfl ?_
     refine RGoff (decide_eq_false h24) rfl rfl ?_
     refine RGoff (decide_eq_false h24) rfl rfl ?_
     refine RGoff (decide_eq_false h24) rfl rfl ?_
     refine RGoff (decide_eq_false h24) rfl rfl ?_
     refine R2 (d_pickF (decide_eq_false h24)) rfl rfl ?_
     refine R1 d_move rfl ?_
     refine RGoff0 rfl rfl ?_
     refine RGoff0 rfl rfl ?_
     refine RGoff0 rfl rfl ?_
     refine RGoff0 rfl rfl ?_
     refine RGoff0 rfl rfl ?_
     refine RGoff0 rfl rfl ?_
     refine RGoff0 rfl rfl ?_
     refine RGoff0 rfl rfl ?_
     refine R2 (d_pickF rfl) rfl rfl ?_
     refine R_end (by kernel_rfl) ?_
     refine K_then ?_
     refine C_bF rfl rfl ?_
     refine C_reg ?_
     refine R1 d_move rfl ?_
     refine RE (d_load (0) ti39 rfl rfl) ⟨rfl, trivial⟩ ⟨rfl, trivial⟩ trivial ?_
     refine R1 (d_vals (n := 1) (f := tTs) [(bSt m k t)] Tryz.underlying30 el39 zf39 rfl (fun _ => inferInstance) rfl rfl rfl) rfl ?_
     refine RE (d_appendO (k := 3) (k' := 83) (f := tTs) (ys := [(bSt m k t)]) (ts' := rV tTs (xs ++ [(bSt m k t)])) Tryz.underlying30 el39 zf39 rfl rfl (fun _ => inferInstance) rV_len (by simp; omega) (by simp; omega) (by simp [rV]) (n' := xs.length + 1) rfl) ⟨rfl, rfl, trivial⟩ ⟨rfl, trivial⟩ ⟨rfl, trivial⟩ ?_
     refine R1 d_assign rfl ?_
     refine R_nil (by kernel_rfl) ?_
     refine K_then ?_
     refine C_reg ?_
     refine R1 d_move rfl ?_
     refine R1 d_assign rfl ?_
     refine R_nil (by kernel_rfl) ?_
     refine K_norB ?_
     refine K_then ?_
     refine C_reg ?_
     refine R1 d_move rfl ?_
     refine R2 (d_add (wr64 (by omega) (by omega))) rfl rfl ?_
     refine R1 d_assign rfl ?_
     refine R_nil (by kernel_rfl) ?_
     have hpx : pst1 xs (bSt m k t) = xs ++ [(bSt m k t)] := by
      have hlt := bSt_lt (m := m) (k := k) (t := t)
      rw [pst1, if_neg (by omega), if_neg (by omega)]
     exact K_famR (l := [3]) (fun j => cond (Nat.beq j 3) 83 (j)) ((k + 1, xs ++ [(bSt m k t)], bEnd m k t)) ⟨(by dsimp only; exact ⟨by omega, by rw [← hpx]; exact bRun_next hk hb ⟨by omega, by omega⟩ (by simp only [bEnd, bFrom]; omega), by rw [List.length_append]; simp; omega, by simp only [bEnd, bFrom]; omega, by simp only [bEnd, bFrom]; omega⟩), (by dsimp only; omega)⟩ (SubR.int rfl (by first | omega | rfl | (dsimp only; omega)) (SubR.int rfl (by first | omega | rfl | (dsimp only; omega)) ((SubR.consI rfl (Imp.of (by dsimp only; rw [List.length_append]; rfl))) (SubR.cons rfl SubR.nil)))) ((SubKR.consI rfl (ImpK.of ren_rV.symm)) SubKR.nil) (SupG.val (SupG.val (SupG.own rfl (SupG.val SupG.nil)))) (SupH.cons rfl (supJ sup_rV) SupH.nil) (lkOk rfl) rfl rfl (fun _ h => by cases h)
  ·
   refine C_exit ?_
   refine K_exT ?_
   refine K_exT ?_
   refine K_exB ?_
   refine K_then ?_
   refine C_seq ?_
   refine C_reg ?_
   refine R1 d_move rfl ?_
   refine RE (d_assignS (f := tTs) (xs := xs) (fun _ h => h) (rV_all rfl) rfl) ⟨rfl, trivial⟩ ⟨rfl, trivial⟩ trivial ?_
   refine R_nil (by kernel_rfl) ?_
   refine K_then ?_
   refine C_ret ?_
   exact E_ret1 Plain.mk' rfl rfl (Le.of (by rw [bRun_stop hk hb (.inl (by omega))]))
 ·
  refine RGoff (decide_eq_false h17) rfl rfl ?_
  refine RGoff (decide_eq_false h17) rfl rfl ?_
  refine R2 (d_pickF (decide_eq_false h17)) rfl rfl ?_
  refine R_nil (by kernel_rfl) ?_
  refine K_then ?_
  refine C_bF rfl rfl ?_
  refine C_exit ?_
  refine K_exT ?_
  refine K_exT ?_
  refine K_exB ?_
  refine K_then ?_
  refine C_seq ?_
  refine C_reg ?_
  refine R1 d_move rfl ?_
  refine RE (d_assignS (f := tTs) (xs := xs) (fun _ h => h) (rV_all rfl) rfl) ⟨rfl, trivial⟩ ⟨rfl, trivial⟩ trivial ?_
  refine R_nil (by kernel_rfl) ?_
  refine K_then ?_
  refine C_ret ?_
  exact E_ret1 Plain.mk' rfl rfl (Le.of (by rw [bRun_stop hk hb (.inl (by omega))]))
end An.S

/- Law 8: quarters, the examples of the chapter. -/
namespace An.S
open Go Go.Proofs An
set_option maxHeartbeats 2000000
set_option maxRecDepth 100000
theorem fi21 : FnI Tryz.prog 21 := ⟨_, Tryz.func21, by kernel_rfl, rfl⟩
theorem fi22 : FnI Tryz.prog 22 := ⟨_, Tryz.func22, by kernel_rfl, rfl⟩
theorem fi24 : FnI Tryz.prog 24 := ⟨_, Tryz.func24, by kernel_rfl, rfl⟩
theorem fi25 : FnI Tryz.prog 25 := ⟨_, Tryz.func25, by kernel_rfl, rfl⟩
theorem fi26 : FnI Tryz.prog 26 := ⟨_, Tryz.func26, by kernel_rfl, rfl⟩
theorem fi33 : FnI Tryz.prog 33 := ⟨_, Tryz.func33, by kernel_rfl, rfl⟩
theorem fi38 : FnI Tryz.prog 38 := ⟨_, Tryz.func38, by kernel_rfl, rfl⟩
theorem fi39 : FnI Tryz.prog 39 := ⟨_, Tryz.func39, by kernel_rfl, rfl⟩
/-- The sum, and the number, of the quarters up to n that a value is. -/
def qsum (v : Va) : Nat → Int
  | 0 => 0
  | n + 1 => qsum v n + if v = qv ((n : Int) + 1) then (n : Int) + 1 else 0
def qcnt (v : Va) : Nat → Int
  | 0 => 0
  | n + 1 => qcnt v n + if v = qv ((n : Int) + 1) then 1 else 0
def dys (a b : Int) (s : Tst) : Int := min s.hi b - max s.lo a
def quS1 (a b : Int) (s : Tst) : Int := if dys a b s ≤ 0 then 0 else qsum s.v 4 * dys a b s
def quW1 (a b : Int) (s : Tst) : Int := if dys a b s ≤ 0 then 0 else qcnt s.v 4 * dys a b s
def quS (l : List Tst) (a b : Int) : Int := (l.map (quS1 a b)).sum
def quW (l : List Tst) (a b : Int) : Int := (l.map (quW1 a b)).sum
theorem dig_fr (q : Rat) : (fr q).dig := ⟨dig_Dig two_le_L _, dig_Dig two_le_L _⟩
def exL : List Tst := [(⟨0, 100, ⟨2, fr (kfr 1 1), 0⟩⟩ : Tst), (⟨100, 150, ⟨2, fr (kfr 1 2), 0⟩⟩ : Tst), (⟨160, 200, ⟨2, fr (kfr 0 1), 0⟩⟩ : Tst), (⟨200, 300, ⟨2, fr (kfr 1 4), 0⟩⟩ : Tst)]
theorem exD : ∀ s ∈ exL, s.v.f.dig := fun s hs => by
  simp only [exL, List.mem_cons, List.not_mem_nil, or_false] at hs
  rcases hs with rfl | rfl | rfl | rfl <;> exact dig_fr _
theorem c_example  :
  Ct Tryz.prog 38 [] (tL 8 true tTs exL) := by
 refine Ct.intro Tryz.func38 rfl Tryz.ntmps38 rfl ?_
 intro w F
 refine C_seq ?_
 refine C_reg ?_
 refine R1 d_assign rfl ?_
 refine R_nil (by kernel_rfl) ?_
 refine K_then ?_
 refine C_seq ?_
 refine C_reg ?_
 refine RE (d_call (c_step08 0 100 1 1 (by decide) (by decide) (by decide) (by decide)) fi16 rfl) ⟨rfl, rfl, rfl, rfl, trivial⟩ trivial trivial ?_
 refine RE (d_call (c_step08 100 150 1 2 (by decide) (by decide) (by decide) (by decide)) fi16 rfl) ⟨rfl, rfl, rfl, rfl, trivial⟩ trivial trivial ?_
 refine RE (d_call (c_step08 160 200 0 1 (by decide) (by decide) (by decide) (by decide)) fi16 rfl) ⟨rfl, rfl, rfl, rfl, trivial⟩ trivial trivial ?_
 refine RE (d_call (c_step08 200 300 1 4 (by decide) (by decide) (by decide) (by decide)) fi16 rfl) ⟨rfl, rfl, rfl, rfl, trivial⟩ trivial trivial ?_
 refine RE (d_vals (n := 4) (f := tTs) [(⟨0, 100, ⟨2, fr (kfr 1 1), 0⟩⟩ : Tst), (⟨100, 150, ⟨2, fr (kfr 1 2), 0⟩⟩ : Tst), (⟨160, 200, ⟨2, fr (kfr 0 1), 0⟩⟩ : Tst), (⟨200, 300, ⟨2, fr (kfr 1 4), 0⟩⟩ : Tst)] Tryz.underlying30 el39 zf39 rfl (fun _ => inferInstance) rfl rfl rfl) ⟨rfl, rfl, rfl, rfl, trivial⟩ trivial trivial ?_
 refine R1 d_assign rfl ?_
 refine R_nil (by kernel_rfl) ?_
 refine K_then ?_
 refine C_ret ?_
 exact E_ret1 Plain.mk' rfl rfl Le.refl
theorem c_YearsV (l : List Tst) (a b : Int) (q : Rat) (hl : l.length ≤ 500000) (hD : ∀ s ∈ l, s.v.f.dig) (hk : askB l a b = true) (hy : yq l a b = some q) : Ct Tryz.prog 15 [tL 8 true tTs l, tI a, tI b] (tT [tFr (fr q), tI 0]) := by
  have h := c_Years l a b hl hD
  rw [if_pos hk, if_pos hk, hy] at h; exact h
theorem c_CappedV (l : List Tst) (a b : Int) (f : Fr) (q : Rat) (hl : l.length ≤ 500000) (hD : ∀ s ∈ l, s.v.f.dig) (hF : f.dig) (hk : capC l a b f) (hy : capO l a b f = some q) : Ct Tryz.prog 21 [tL 8 true tTs l, tI a, tI b, tFr f] (tT [tFr (fr q), tI 0]) := by
  have h := c_Capped l a b f hl hD hF
  rw [if_pos hk, if_pos hk, hy] at h; exact h
theorem c_MonthsV (f : Fr) (n : Int) (hF : f.dig) (hc : moC f) (hn : (m12 f).floor = n) : Ct Tryz.prog 22 [tFr f] (tT [tI n, tI 0]) := by
  have h := c_Months f hF
  rw [if_pos hc, if_pos hc.1, if_pos hc, hn] at h; exact h
theorem c_WorkedV (l : List Tst) (a b : Int) (w : List Sn) (hl : l.length ≤ 500000) (hD : ∀ s ∈ l, s.v.f.dig) (hk : askB l a b = true) (hw : wkd l a b = w) : Ct Tryz.prog 24 [tL 8 true tTs l, tI a, tI b] (tT [tL 2 true tSn w, tI 0]) := by
  have h := c_Worked l a b hl hD
  rw [if_pos hk, if_pos hk, hw] at h; exact h
theorem c_BreaksV (l : List Tst) (a b : Int) (w : List Sn) (hl : l.length ≤ 500000) (hD : ∀ s ∈ l, s.v.f.dig) (hk : askB l a b = true) (hw : brk (wkd l a b) = w) : Ct Tryz.prog 25 [tL 8 true tTs l, tI a, tI b] (tT [tL 2 true tSn w, tI 0]) := by
  have h := c_Breaks l a b hl hD
  rw [if_pos hk, if_pos hk, hw] at h; exact h
theorem c_PeriodsV (l : List Tst) (a b d : Int) (w : List Sn) (hl : l.length ≤ 500000) (hD : ∀ s ∈ l, s.v.f.dig) (hk : askB l a b = true ∧ sVal (wkd l a b) = true ∧ 0 ≤ d) (hw : brg d (wkd l a b) = w) : Ct Tryz.prog 26 [tL 8 true tTs l, tI a, tI b, tI d] (tT [tL 2 true tSn w, tI 0]) := by
  have h := c_Periods l a b d hl hD
  rw [if_pos hk, if_pos hk, hw] at h; exact h
theorem c_sameF (f : Fr) : Ct Tryz.prog 19 [tFr f, tFr f] (tB true) := by
  have h := c_SameFrac f f
  rw [decide_eq_true rfl] at h; exact h
theorem c_sameS (w : List Sn) : Ct Tryz.prog 33 [tL 2 true tSn w, tL 2 true tSn w] (tB true) := by
  have h := c_SameSpans w w
  rw [decide_eq_true rfl] at h; exact h
theorem exW : wkd exL 0 300 = [⟨0, 150⟩, ⟨200, 300⟩] := (wkd_eq (by decide +kernel) (by decide) (by decide)).trans (by decide +kernel)
theorem exV : wkd exL 150 220 = [⟨200, 220⟩] := (wkd_eq (by decide +kernel) (by decide) (by decide)).trans (by decide +kernel)
theorem c_awake  :
  Ct Tryz.prog 12 [] (tB true) := by
 refine Ct.intro Tryz.func12 rfl Tryz.ntmps12 rfl ?_
 intro w F
 refine C_seq ?_
 refine C_reg ?_
 refine R1 d_assign rfl ?_
 refine R_nil (by kernel_rfl) ?_
 refine K_then ?_
 refine C_seq ?_
 refine C_reg ?_
 refine R0 (d_call c_example fi38 rfl)  ?_
 refine R1 d_assign rfl ?_
 refine R_nil (by kernel_rfl) ?_
 refine K_then ?_
 refine C_seq ?_
 refine C_reg ?_
 refine R1 d_move rfl ?_
 refine R3 (d_call (c_YearsV exL 0 300 (kfr 200 487) (by decide) exD (by decide +kernel) (by decide +kernel)) fi15 rfl) rfl rfl rfl ?_
 refine R1 d_move rfl ?_
 refine R1 (d_extract rfl) rfl ?_
 refine R1 (d_extract rfl) rfl ?_
 refine RE (d_alloc (k := 2) (n := 4) (agg := true) zr26.1 zr26.2 rfl) trivial trivial ⟨rfl, trivial⟩ ?_
 refine RE (d_store (es := 4) (agg := true) (0) ti26 rfl rfl rfl) ⟨rfl, rfl, trivial⟩ ⟨rfl, trivial⟩ trivial ?_
 refine R1 d_assign rfl ?_
 refine R_nil (by kernel_rfl) ?_
 refine K_then ?_
 refine C_seq ?_
 refine C_reg ?_
 refine R1 d_move rfl ?_
 refine R3 (d_call (c_YearsV exL 50 50 (kfr 0 1) (by decide) exD (by decide +kernel) (by decide +kernel)) fi15 rfl) rfl rfl rfl ?_
 refine R1 d_move rfl ?_
 refine R1 (d_extract rfl) rfl ?_
 refine R1 (d_extract rfl) rfl ?_
 refine RE (d_alloc (k := 4) (n := 4) (agg := true) zr26.1 zr26.2 rfl) trivial trivial ⟨rfl, trivial⟩ ?_
 refine RE (d_store (es := 4) (agg := true) (0) ti26 rfl rfl rfl) ⟨rfl, rfl, trivial⟩ ⟨rfl, trivial⟩ trivial ?_
 refine R1 d_assign rfl ?_
 refine R_nil (by kernel_rfl) ?_
 refine K_then ?_
 refine C_seq ?_
 refine C_reg ?_
 refine R1 d_move rfl ?_
 refine R3 (d_call (c_YearsV exL 120 110 (kfr 0 1) (by decide) exD (by decide +kernel) (by decide +kernel)) fi15 rfl) rfl rfl rfl ?_
 refine R1 d_move rfl ?_
 refine R1 (d_extract rfl) rfl ?_
 refine R1 (d_extract rfl) rfl ?_
 refine RE (d_alloc (k := 6) (n := 4) (agg := true) zr26.1 zr26.2 rfl) trivial trivial ⟨rfl, trivial⟩ ?_
 refine RE (d_store (es := 4) (agg := true) (0) ti26 rfl rfl rfl) ⟨rfl, rfl, trivial⟩ ⟨rfl, trivial⟩ trivial ?_
 refine R1 d_assign rfl ?_
 refine R_nil (by kernel_rfl) ?_
 refine K_then ?_
 refine C_seq ?_
 refine C_reg ?_
 refine R1 d_move rfl ?_
 refine R2 (d_call (c_KFrac 1 3 (by decide) (by decide) (by decide) (by decide)) fi18 rfl) rfl rfl ?_
 refine RE (d_call (c_CappedV exL 0 300 (fr (kfr 1 3)) (kfr 1 3) (by decide) exD (dig_fr _) (by decide +kernel) (by decide +kernel)) fi21 rfl) ⟨rfl, rfl, rfl, rfl, trivial⟩ trivial trivial ?_
 refine R1 d_move rfl ?_
 refine R1 (d_extract rfl) rfl ?_
 refine R1 (d_extract rfl) rfl ?_
 refine RE (d_alloc (k := 8) (n := 4) (agg := true) zr26.1 zr26.2 rfl) trivial trivial ⟨rfl, trivial⟩ ?_
 refine RE (d_store (es := 4) (agg := true) (0) ti26 rfl rfl rfl) ⟨rfl, rfl, trivial⟩ ⟨rfl, trivial⟩ trivial ?_
 refine R1 d_assign rfl ?_
 refine R_nil (by kernel_rfl) ?_
 refine K_then ?_
 refine C_seq ?_
 refine C_reg ?_
 refine R2 (d_call (c_KFrac 5 4 (by decide) (by decide) (by decide) (by decide)) fi18 rfl) rfl rfl ?_
 refine R1 (d_call (c_MonthsV (fr (kfr 5 4)) 15 (dig_fr _) (by decide +kernel) (by decide +kernel)) fi22 rfl) rfl ?_
 refine R1 d_move rfl ?_
 refine R1 (d_extract rfl) rfl ?_
 refine R1 (d_extract rfl) rfl ?_
 refine R1 d_assign rfl ?_
 refine R1 d_assign rfl ?_
 refine R_nil (by kernel_rfl) ?_
 refine K_then ?_
 refine C_seq ?_
 refine C_reg ?_
 refine R2 (d_call (c_KFrac 1 13 (by decide) (by decide) (by decide) (by decide)) fi18 rfl) rfl rfl ?_
 refine R1 (d_call (c_MonthsV (fr (kfr 1 13)) 0 (dig_fr _) (by decide +kernel) (by decide +kernel)) fi22 rfl) rfl ?_
 refine R1 d_move rfl ?_
 refine R1 (d_extract rfl) rfl ?_
 refine R1 (d_extract rfl) rfl ?_
 refine R1 d_assign rfl ?_
 refine R1 d_assign rfl ?_
 refine R_nil (by kernel_rfl) ?_
 refine K_then ?_
 refine C_seq ?_
 refine C_seq ?_
 refine C_draw mixed ?_
 refine R1 d_move rfl ?_
 refine R1 d_move rfl ?_
 refine R2 (d_add (wr64 (by omega) (by omega))) rfl rfl ?_
 refine R1 d_move rfl ?_
 refine R2 (d_add (wr64 (by omega) (by omega))) rfl rfl ?_
 refine R1 d_move rfl ?_
 refine R2 (d_add (wr64 (by omega) (by omega))) rfl rfl ?_
 refine R1 d_move rfl ?_
 refine R2 (d_add (wr64 (by omega) (by omega))) rfl rfl ?_
 refine R1 d_move rfl ?_
 refine R2 (d_add (wr64 (by omega) (by omega))) rfl rfl ?_
 refine R2 d_neq rfl rfl ?_
 refine R1 d_move rfl ?_
 refine RGon (decide_eq_false (by omega)) rfl (d_load (0) ti26 rfl rfl) rfl ⟨rfl, trivial⟩ ⟨rfl, trivial⟩ trivial ?_
 refine RGon (decide_eq_false (by omega)) rfl (d_call (c_KFrac 200 487 (by decide) (by decide) (by decide) (by decide)) fi18 rfl) rfl ⟨rfl, rfl, trivial⟩ trivial trivial ?_
 refine RGon (decide_eq_false (by omega)) rfl (d_call (c_sameF _) fi19 rfl) rfl ⟨rfl, rfl, trivial⟩ trivial trivial ?_
 refine RGon (decide_eq_false (by omega)) rfl d_not rfl ⟨rfl, trivial⟩ trivial trivial ?_
 refine R2 (d_pickF (decide_eq_false (by omega))) rfl rfl ?_
 refine R1 d_move rfl ?_
 refine RGon rfl rfl (d_load (0) ti26 rfl rfl) rfl ⟨rfl, trivial⟩ ⟨rfl, trivial⟩ trivial ?_
 refine RGon rfl rfl (d_call (c_KFrac 0 1 (by decide) (by decide) (by decide) (by decide)) fi18 rfl) rfl ⟨rfl, rfl, trivial⟩ trivial trivial ?_
 refine RGon rfl rfl (d_call (c_sameF _) fi19 rfl) rfl ⟨rfl, rfl, trivial⟩ trivial trivial ?_
 refine RGon rfl rfl d_not rfl ⟨rfl, trivial⟩ trivial trivial ?_
 refine R2 (d_pickF rfl) rfl rfl ?_
 refine R1 d_move rfl ?_
 refine RGon rfl rfl (d_load (0) ti26 rfl rfl) rfl ⟨rfl, trivial⟩ ⟨rfl, trivial⟩ trivial ?_
 refine RGon rfl rfl (d_load (0) ti26 rfl rfl) rfl ⟨rfl, trivial⟩ ⟨rfl, trivial⟩ trivial ?_
 refine RGon rfl rfl (d_call (c_sameF _) fi19 rfl) rfl ⟨rfl, rfl, trivial⟩ trivial trivial ?_
 refine RGon rfl rfl d_not rfl ⟨rfl, trivial⟩ trivial trivial ?_
 refine R2 (d_pickF rfl) rfl rfl ?_
 refine R1 d_move rfl ?_
 refine RGon rfl rfl (d_load (0) ti26 rfl rfl) rfl ⟨rfl, trivial⟩ ⟨rfl, trivial⟩ trivial ?_
 refine RGon rfl rfl (d_call (c_KFrac 1 3 (by decide) (by decide) (by decide) (by decide)) fi18 rfl) rfl ⟨rfl, rfl, trivial⟩ trivial trivial ?_
 refine RGon rfl rfl (d_call (c_sameF _) fi19 rfl) rfl ⟨rfl, rfl, trivial⟩ trivial trivial ?_
 refine RGon rfl rfl d_not rfl ⟨rfl, trivial⟩ trivial trivial ?_
 refine R2 (d_pickF rfl) rfl rfl ?_
 refine R1 d_move rfl ?_
 refine RGon rfl rfl d_move rfl ⟨rfl, trivial⟩ trivial trivial ?_
 refine RGon rfl rfl d_neq rfl ⟨rfl, rfl, trivial⟩ trivial trivial ?_
 refine R2 (d_pickF rfl) rfl rfl ?_
 refine R1 d_move rfl ?_
 refine RGon (decide_eq_false (by omega)) rfl d_move rfl ⟨rfl, trivial⟩ trivial trivial ?_
 refine RGon (decide_eq_false (by omega)) rfl d_neq rfl ⟨rfl, rfl, trivial⟩ trivial trivial ?_
 refine R2 (d_pickF (decide_eq_false (by omega))) rfl rfl ?_
 refine R_end (by kernel_rfl) ?_
 refine K_then ?_
 refine C_bF rfl (decide_eq_false (by omega)) ?_
 refine C_skip ?_
 refine K_then ?_
 refine C_seq ?_
 refine C_reg ?_
 refine R1 d_move rfl ?_
 refine R3 (d_call (c_WorkedV exL 0 300 [(⟨0, 150⟩ : Sn), (⟨200, 300⟩ : Sn)] (by decide) exD (by decide +kernel) exW) fi24 rfl) rfl rfl rfl ?_
 refine R1 d_move rfl ?_
 refine R1 (d_extract rfl) rfl ?_
 refine R1 (d_extract rfl) rfl ?_
 refine R1 d_assign rfl ?_
 refine R1 d_assign rfl ?_
 refine R_nil (by kernel_rfl) ?_
 refine K_then ?_
 refine C_seq ?_
 refine C_reg ?_
 refine R1 d_move rfl ?_
 refine R3 (d_call (c_BreaksV exL 0 300 [(⟨150, 200⟩ : Sn)] (by decide) exD (by decide +kernel) (by rw [exW]; decide +kernel)) fi25 rfl) rfl rfl rfl ?_
 refine R1 d_move rfl ?_
 refine R1 (d_extract rfl) rfl ?_
 refine R1 (d_extract rfl) rfl ?_
 refine R1 d_assign rfl ?_
 refine R1 d_assign rfl ?_
 refine R_nil (by kernel_rfl) ?_
 refine K_then ?_
 refine C_seq ?_
 refine C_reg ?_
 refine R1 d_move rfl ?_
 refine RE (d_call (c_PeriodsV exL 0 300 50 [(⟨0, 300⟩ : Sn)] (by decide) exD ⟨by decide +kernel, by rw [exW]; decide +kernel, by decide⟩ (by rw [exW]; decide +kernel)) fi26 rfl) ⟨rfl, rfl, rfl, rfl, trivial⟩ trivial trivial ?_
 refine R1 d_move rfl ?_
 refine R1 (d_extract rfl) rfl ?_
 refine R1 (d_extract rfl) rfl ?_
 refine R1 d_assign rfl ?_
 refine R1 d_assign rfl ?_
 refine R_nil (by kernel_rfl) ?_
 refine K_then ?_
 refine C_seq ?_
 refine C_reg ?_
 refine R1 d_move rfl ?_
 refine RE (d_call (c_PeriodsV exL 0 300 49 [(⟨0, 150⟩ : Sn), (⟨200, 300⟩ : Sn)] (by decide) exD ⟨by decide +kernel, by rw [exW]; decide +kernel, by decide⟩ (by rw [exW]; decide +kernel)) fi26 rfl) ⟨rfl, rfl, rfl, rfl, trivial⟩ trivial trivial ?_
 refine R1 d_move rfl ?_
 refine R1 (d_extract rfl) rfl ?_
 refine R1 (d_extract rfl) rfl ?_
 refine R1 d_assign rfl ?_
 refine R1 d_assign rfl ?_
 refine R_nil (by kernel_rfl) ?_
 refine K_then ?_
 refine C_seq ?_
 refine C_reg ?_
 refine R1 d_move rfl ?_
 refine R3 (d_call (c_WorkedV exL 150 220 [(⟨200, 220⟩ : Sn)] (by decide) exD (by decide +kernel) exV) fi24 rfl) rfl rfl rfl ?_
 refine R1 d_move rfl ?_
 refine R1 (d_extract rfl) rfl ?_
 refine R1 (d_extract rfl) rfl ?_
 refine R1 d_assign rfl ?_
 refine R1 d_assign rfl ?_
 refine R_nil (by kernel_rfl) ?_
 refine K_then ?_
 refine C_seq ?_
 refine C_reg ?_
 refine R1 d_move rfl ?_
 refine R3 (d_call (c_BreaksV exL 150 220 [] (by decide) exD (by decide +kernel) (by rw [exV]; decide +kernel)) fi25 rfl) rfl rfl rfl ?_
 refine R1 d_move rfl ?_
 refine R1 (d_extract rfl) rfl ?_
 refine R1 (d_extract rfl) rfl ?_
 refine R1 d_assign rfl ?_
 refine R1 d_assign rfl ?_
 refine R_nil (by kernel_rfl) ?_
 refine K_then ?_
 refine C_seq ?_
 refine C_reg ?_
 refine R1 d_assign rfl ?_
 refine R_nil (by kernel_rfl) ?_
 refine K_then ?_
 refine C_seq ?_
 refine C_reg ?_
 refine R1 d_move rfl ?_
 refine R1 d_move rfl ?_
 refine R2 (d_add (wr64 (by omega) (by omega))) rfl rfl ?_
 refine R1 d_move rfl ?_
 refine R2 (d_add (wr64 (by omega) (by omega))) rfl rfl ?_
 refine R1 d_move rfl ?_
 refine R2 (d_add (wr64 (by omega) (by omega))) rfl rfl ?_
 refine R1 d_move rfl ?_
 refine R2 (d_add (wr64 (by omega) (by omega))) rfl rfl ?_
 refine R1 d_move rfl ?_
 refine R2 (d_add (wr64 (by omega) (by omega))) rfl rfl ?_
 refine R2 d_eql rfl rfl ?_
 refine R1 d_move rfl ?_
 refine RGon (decide_eq_true (by omega)) rfl d_move rfl ⟨rfl, trivial⟩ trivial trivial ?_
 refine RGon (decide_eq_true (by omega)) rfl d_move rfl ⟨rfl, trivial⟩ trivial trivial ?_
 refine RGon (decide_eq_true (by omega)) rfl (d_call (c_to 0 150) fi39 rfl) rfl ⟨rfl, rfl, trivial⟩ trivial trivial ?_
 refine RGon (decide_eq_true (by omega)) rfl (d_call (c_to 200 300) fi39 rfl) rfl ⟨rfl, rfl, trivial⟩ trivial trivial ?_
 refine RGon (decide_eq_true (by omega)) rfl (d_vals (n := 2) (f := tSn) [(⟨0, 150⟩ : Sn), (⟨200, 300⟩ : Sn)] Tryz.underlying54 el69 zf69 rfl (fun _ => inferInstance) rfl rfl rfl) rfl ⟨rfl, rfl, trivial⟩ trivial trivial ?_
 refine RGon (decide_eq_true (by omega)) rfl (d_callF (c_sameS [(⟨0, 150⟩ : Sn), (⟨200, 300⟩ : Sn)]) fi33 rfl) rfl ⟨rfl, rfl, rfl, trivial⟩ trivial trivial ?_
 refine R2 (d_pickT (decide_eq_true (by omega))) rfl rfl ?_
 refine R1 d_move rfl ?_
 refine RGon rfl rfl d_move rfl ⟨rfl, trivial⟩ trivial trivial ?_
 refine RGon rfl rfl d_move rfl ⟨rfl, trivial⟩ trivial trivial ?_
 refine RGon rfl rfl (d_call (c_to 150 200) fi39 rfl) rfl ⟨rfl, rfl, trivial⟩ trivial trivial ?_
 refine RGon rfl rfl (d_vals (n := 1) (f := tSn) [(⟨150, 200⟩ : Sn)] Tryz.underlying54 el69 zf69 rfl (fun _ => inferInstance) rfl rfl rfl) rfl ⟨rfl, trivial⟩ trivial trivial ?_
 refine RGon rfl rfl (d_callF (c_sameS [(⟨150, 200⟩ : Sn)]) fi33 rfl) rfl ⟨rfl, rfl, rfl, trivial⟩ trivial trivial ?_
 refine R2 (d_pickT rfl) rfl rfl ?_
 refine R1 d_move rfl ?_
 refine RGon rfl rfl d_move rfl ⟨rfl, trivial⟩ trivial trivial ?_
 refine RGon rfl rfl d_move rfl ⟨rfl, trivial⟩ trivial trivial ?_
 refine RGon rfl rfl (d_call (c_to 0 300) fi39 rfl) rfl ⟨rfl, rfl, trivial⟩ trivial trivial ?_
 refine RGon rfl rfl (d_vals (n := 1) (f := tSn) [(⟨0, 300⟩ : Sn)] Tryz.underlying54 el69 zf69 rfl (fun _ => inferInstance) rfl rfl rfl) rfl ⟨rfl, trivial⟩ trivial trivial ?_
 refine RGon rfl rfl (d_callF (c_sameS [(⟨0, 300⟩ : Sn)]) fi33 rfl) rfl ⟨rfl, rfl, rfl, trivial⟩ trivial trivial ?_
 refine R2 (d_pickT rfl) rfl rfl ?_
 refine R1 d_move rfl ?_
 refine RGon rfl rfl d_move rfl ⟨rfl, trivial⟩ trivial trivial ?_
 refine RGon rfl rfl d_move rfl ⟨rfl, trivial⟩ trivial trivial ?_
 refine RGon rfl rfl d_move rfl ⟨rfl, trivial⟩ trivial trivial ?_
 refine RGon rfl rfl (d_callF (c_sameS [(⟨0, 150⟩ : Sn), (⟨200, 300⟩ : Sn)]) fi33 rfl) rfl ⟨rfl, rfl, rfl, trivial⟩ trivial trivial ?_
 refine R2 (d_pickT rfl) rfl rfl ?_
 refine R1 d_move rfl ?_
 refine RGon rfl rfl d_move rfl ⟨rfl, trivial⟩ trivial trivial ?_
 refine RGon rfl rfl d_move rfl ⟨rfl, trivial⟩ trivial trivial ?_
 refine RGon rfl rfl (d_call (c_to 200 220) fi39 rfl) rfl ⟨rfl, rfl, trivial⟩ trivial trivial ?_
 refine RGon rfl rfl (d_vals (n := 1) (f := tSn) [(⟨200, 220⟩ : Sn)] Tryz.underlying54 el69 zf69 rfl (fun _ => inferInstance) rfl rfl rfl) rfl ⟨rfl, trivial⟩ trivial trivial ?_
 refine RGon rfl rfl (d_callF (c_sameS [(⟨200, 220⟩ : Sn)]) fi33 rfl) rfl ⟨rfl, rfl, rfl, trivial⟩ trivial trivial ?_
 refine R2 (d_pickT rfl) rfl rfl ?_
 refine R1 d_move rfl ?_
 refine RGon rfl rfl d_move rfl ⟨rfl, trivial⟩ trivial trivial ?_
 refine RGon rfl rfl (d_len Tryz.underlying54) rfl ⟨rfl, trivial⟩ trivial trivial ?_
 refine RGon rfl rfl d_eql rfl ⟨rfl, rfl, trivial⟩ trivial trivial ?_
 refine R2 (d_pickT rfl) rfl rfl ?_
 refine R1 d_assign rfl ?_
 refine R_nil (by kernel_rfl) ?_
 refine K_then ?_
 refine C_ret ?_
 exact E_ret1 Plain.mk' rfl rfl (Le.bool (by decide))
end An.S
