/- Part 4 of a proof: P1, Gs, Tx, Chg, Chg2a, Ty, LibZc, P2, LibZg, P3, Stab, Stab2, Stab3, Fa, F1, F2, LibKn, Cal, Sal, Fv, LibSt, F3, LibZh, LibZi, LibMa, LibMb, LibMs, Fv2, LibAp, LibAq, LibAr, LibAs, F4, F5, Ft, LibLk, LibNw, LibOv, LibLw, LibLx, LibN2, LibAt, LibAw, LibRn, F6, Fl, F7, Fx, Me, E1, Me2, LibGv, E2, Me3. -/
import Derived.Laws.Strings2
import Derived.Laws.IdiomStrings
import Derived.Maps.RangeRun
import Derived.MapKept
import Derived.Carry
import Derived.Test.YtiagnhcmlefojaaGreatB3
set_option maxHeartbeats 4000000
set_option maxRecDepth 100000
namespace An.S
open Go Go.Proofs An
instance ti37:TyI Tryz.prog 37 1 false:=⟨by kernel_rfl,by kernel_rfl⟩
instance ti143:TyI Tryz.prog 143 1 false:=⟨by kernel_rfl,by kernel_rfl⟩
instance ti145:TyI Tryz.prog 145 2 true:=⟨by kernel_rfl,by kernel_rfl⟩
instance sl42:SlI Tryz.prog 42 3 1 false:=⟨Tryz.underlying42,ti3⟩
instance sl233:SlI Tryz.prog 233 37 1 false:=⟨Tryz.underlying233,ti37⟩
instance fo145_0:FoI Tryz.prog 145 0 0:=⟨by kernel_rfl⟩
instance fo145_1:FoI Tryz.prog 145 1 1:=⟨by kernel_rfl⟩
instance fi49:FnI Tryz.prog 49:=⟨_,Tryz.func49,by kernel_rfl,rfl⟩
instance fi50:FnI Tryz.prog 50:=⟨_,Tryz.func50,by kernel_rfl,rfl⟩
instance fi140:FnI Tryz.prog 140:=⟨_,Tryz.func140,by kernel_rfl,rfl⟩
instance fi141:FnI Tryz.prog 141:=⟨_,Tryz.func141,by kernel_rfl,rfl⟩
theorem el3:ElI Tryz.prog 3 1 8 false (.int .i64 0):=⟨ti3,by kernel_rfl,by kernel_rfl⟩
theorem el37:ElI Tryz.prog 37 1 24 false (.slice none 0 0):=⟨ti37,by kernel_rfl,by kernel_rfl⟩
theorem zr145:(Tryz.prog.info? 145).bind (·.zero)=some (.agg #[.pointer none,.pointer none])∧ ∀F w,(tS [⟨1,false,(tE (.pointer none))⟩,⟨1,false,(tE (.pointer none))⟩]).p F w (.agg #[.pointer none,.pointer none]):=⟨by kernel_rfl,fun _ _=>⟨_,rfl,rfl,⟨fun _=>rfl,rfl⟩,⟨fun _=>rfl,rfl⟩,trivial⟩⟩
theorem bu106:BuI Tryz.prog 106 (fun i=>[(0,1),(1,1)][i]?) (.agg #[.int .i64 0,.int .i64 0]):=BuI.struct Tryz.underlying106 (by kernel_rfl) (by kernel_rfl)
theorem zf3:Flat 1 false (.int .i64 0):=xd1 rfl
theorem zf37:Flat 1 false (.slice none 0 0):=xd1 rfl
instance un42:UnI Tryz.prog 42 (.slice 3):=⟨Tryz.underlying42⟩
instance un233:UnI Tryz.prog 233 (.slice 37):=⟨Tryz.underlying233⟩
def laySortR:Go.Shelf.Ren:=⟨fun n=>match n with | 125=>84 | 128=>137 | 129=>138 | 189=>49 | 215=>155 | 216=>134 | 257=>83 | 294=>128 | 295=>129 | 296=>130 | 297=>131 | 298=>132 | 299=>133 | 300=>135 | 301=>136 | 328=>169 | 329=>170 | 330=>171 | 331=>172 | 332=>173 | 343=>197 | n=>n,fun n=>match n with | 0=>0 | 3=>3 | 4=>4 | 5=>5 | 9=>9 | 28=>42 | 46=>139 | 51=>202 | 53=>116 | 131=>199 | 182=>193 | 183=>194 | 218=>227 | 222=>231 | 228=>247 | 229=>179 | n=>n,fun n=>n⟩
theorem laySort:Go.Proofs.Lays.n189 Tryz.prog laySortR where
 mixed:=by kernel_rfl
 f125:=by kernel_rfl
 f128:=by kernel_rfl
 f129:=by kernel_rfl
 f189:=by kernel_rfl
 f215:=by kernel_rfl
 f216:=by kernel_rfl
 f257:=by kernel_rfl
 f294:=by kernel_rfl
 f295:=by kernel_rfl
 f296:=by kernel_rfl
 f297:=by kernel_rfl
 f298:=by kernel_rfl
 f299:=by kernel_rfl
 f300:=by kernel_rfl
 f301:=by kernel_rfl
 f328:=by kernel_rfl
 f329:=by kernel_rfl
 f330:=by kernel_rfl
 f331:=by kernel_rfl
 f332:=by kernel_rfl
 f343:=by kernel_rfl
 t0:=by kernel_rfl
 a0:=fun w=>by kernel_rfl
 z0:=fun w=>by kernel_rfl
 v0:=fun w=>by kernel_rfl
 t3:=by kernel_rfl
 a3:=fun w=>by kernel_rfl
 z3:=fun w=>by kernel_rfl
 v3:=fun w=>by kernel_rfl
 t4:=by kernel_rfl
 a4:=fun w=>by kernel_rfl
 z4:=fun w=>by kernel_rfl
 v4:=fun w=>by kernel_rfl
 t5:=by kernel_rfl
 a5:=fun w=>by kernel_rfl
 z5:=fun w=>by kernel_rfl
 v5:=fun w=>by kernel_rfl
 t9:=by kernel_rfl
 a9:=fun w=>by kernel_rfl
 z9:=fun w=>by kernel_rfl
 v9:=fun w=>by kernel_rfl
 t28:=by kernel_rfl
 a28:=fun w=>by kernel_rfl
 z28:=fun w=>by kernel_rfl
 v28:=fun w=>by kernel_rfl
 t46:=by kernel_rfl
 a46:=fun w=>by kernel_rfl
 z46:=fun w=>by kernel_rfl
 v46:=fun w=>by kernel_rfl
 t51:=by kernel_rfl
 a51:=fun w=>by kernel_rfl
 z51:=fun w=>by kernel_rfl
 v51:=fun w=>by kernel_rfl
 t53:=by kernel_rfl
 a53:=fun w=>by kernel_rfl
 z53:=fun w=>by kernel_rfl
 v53:=fun w=>by kernel_rfl
 t131:=by kernel_rfl
 a131:=fun w=>by kernel_rfl
 z131:=fun w=>by kernel_rfl
 v131:=fun w=>by kernel_rfl
 t182:=by kernel_rfl
 a182:=fun w=>by kernel_rfl
 z182:=fun w=>by kernel_rfl
 v182:=fun w=>by kernel_rfl
 t183:=by kernel_rfl
 a183:=fun w=>by kernel_rfl
 z183:=fun w=>by kernel_rfl
 v183:=fun w=>by kernel_rfl
 t218:=by kernel_rfl
 a218:=fun w=>by kernel_rfl
 z218:=fun w=>by kernel_rfl
 v218:=fun w=>by kernel_rfl
 t222:=by kernel_rfl
 a222:=fun w=>by kernel_rfl
 z222:=fun w=>by kernel_rfl
 v222:=fun w=>by kernel_rfl
 t228:=by kernel_rfl
 a228:=fun w=>by kernel_rfl
 z228:=fun w=>by kernel_rfl
 v228:=fun w=>by kernel_rfl
 t229:=by kernel_rfl
 a229:=fun w=>by kernel_rfl
 z229:=fun w=>by kernel_rfl
 v229:=fun w=>by kernel_rfl
def layCompR:Go.Shelf.Ren:=⟨fun n=>match n with | 20=>50 | n=>n,fun n=>match n with | 0=>0 | 3=>3 | 4=>4 | 22=>42 | n=>n,fun n=>n⟩
theorem layComp:Go.Proofs.Lays2.n20 Tryz.prog layCompR where
 mixed:=by kernel_rfl
 f20:=by kernel_rfl
 t0:=by kernel_rfl
 a0:=fun w=>by kernel_rfl
 z0:=fun w=>by kernel_rfl
 v0:=fun w=>by kernel_rfl
 t3:=by kernel_rfl
 a3:=fun w=>by kernel_rfl
 z3:=fun w=>by kernel_rfl
 v3:=fun w=>by kernel_rfl
 t4:=by kernel_rfl
 a4:=fun w=>by kernel_rfl
 z4:=fun w=>by kernel_rfl
 v4:=fun w=>by kernel_rfl
 t22:=by kernel_rfl
 a22:=fun w=>by kernel_rfl
 z22:=fun w=>by kernel_rfl
 v22:=fun w=>by kernel_rfl
 i3:=by kernel_rfl
theorem c_SortI (xs:List Int) (hn:xs.length < 4611686018427387904):CtG Tryz.prog 49 [(1,⟨3,1,false,rV tI xs⟩)] [.own (.sl 1 1 0 xs.length)] (.val (tE (.tuple #[]))) [(1,⟨3,1,false,rV tI (srtI xs)⟩)] []:=sortI laySort 3 xs hn
theorem c_CompactI (xs:List Int):CtG Tryz.prog 50 [(1,⟨3,1,false,rV tI xs⟩)] [.own (.sl 1 1 0 xs.length)] (.own (.sl 1 1 0 (Lib.compact xs).length)) [(1,⟨3,1,false,rV tI (Lib.compact xs)⟩)] []:=compactI layComp 3 xs
theorem srtI_len (xs:List Int):(srtI xs).length=xs.length:=List.length_mergeSort ..
theorem c_CompactS (xs:List Int):CtG Tryz.prog 50 [(1,⟨3,1,false,rV tI (srtI xs)⟩)] [.own (.sl 1 1 0 xs.length)] (.own (.sl 1 1 0 (brd xs).length)) [(1,⟨3,1,false,rV tI (brd xs)⟩)] []:=by
 have h:=c_CompactI (srtI xs)
 rw [srtI_len] at h;exact h
theorem onV_some {l xs:List Tst} {d:Int} (h:onL l d=xs) (h0:0 < xs.length∧(xs.getD 0 tst0).lo≤d):onV l d=some (xs.getD 0 tst0).v:=by rw [onV,h,if_pos h0]
theorem onV_none {l xs:List Tst} {d:Int} (h:onL l d=xs) (h0: ¬(0 < xs.length∧(xs.getD 0 tst0).lo≤d)):onV l d=none:=by rw [onV,h,if_neg h0]
theorem tlen_take {ls:List (List Tst)} {i:Nat} (hi:i < ls.length):tlen (ls.take i)+(ls.getD i []).length≤tlen ls:=by
 have e:tlen (ls.take (i+1))=tlen (ls.take i)+(ls.getD i []).length:=by
  rw [List.take_succ_eq_append_getElem hi,tlen,List.map_append,List.sum_append,List.getD_eq_getElem?_getD,List.getElem?_eq_getElem hi];simp [tlen]
 have e2:tlen ls=tlen (ls.take (i+1))+tlen (ls.drop (i+1)):=by
  rw [tlen,tlen,tlen,←List.sum_append,←List.map_append,List.take_append_drop]
 omega
theorem c_borders (ls:List (List Tst)) (hl:ls.length≤1000) (ht:tlen ls≤1000000):
  Ct Tryz.prog 140 [tL 1 false (fun l=>tL 8 true tTs l) ls] (tL 1 false tI (bds ls)):=by
 refine Ct.intro Tryz.func140 rfl Tryz.ntmps140 rfl ?_
 intro w F
 refine A7 ?_
 refine RE (xe4 (k:=3) 3 1 false rfl (fun _=>rfl)) trivial trivial ⟨rfl,trivial⟩ ?_
 refine A11 ?_
 refine cL (fun (fm:(Nat)×(List Int))=>(fun (i:Nat) (xs:List Int)=>i≤ls.length∧xs=(ls.take i).flatMap eds) fm.1 fm.2) (fun (fm:(Nat)×(List Int))=>(fun (i:Nat) (xs:List Int)=>upd (upd (upd (upd (fun _=>none) 3 (some (.own (.sl 3 1 0 xs.length)))) 8 (some (.val (tL 1 false (fun l=>tL 8 true tTs l) ls)))) 9 (some (.val (tI ls.length)))) 10 (some (.val (tI i)))) fm.1 fm.2) (fun (fm:(Nat)×(List Int))=>(fun (i:Nat) (xs:List Int)=>upd (fun _=>none) 3 (some (⟨3,1,false,rV tI xs⟩))) fm.1 fm.2) [3] (fun (fm:(Nat)×(List Int))=>(fun (i:Nat) (xs:List Int)=>ls.length - i) fm.1 fm.2) ((0,[])) (by dsimp only;exact ⟨Nat.zero_le _,rfl⟩) (hh:=((SubK.consI rfl ImpK.refl) SubK.nil)) ?_
 intro fm hI
 obtain ⟨i,xs⟩:=fm
 replace hI:i≤ls.length∧xs=(ls.take i).flatMap eds:=hI
 show wc _ _ _ _ (upd (upd (upd (upd (fun _=>none) 3 (some (.own (.sl 3 1 0 xs.length)))) 8 (some (.val (tL 1 false (fun l=>tL 8 true tTs l) ls)))) 9 (some (.val (tI ls.length)))) 10 (some (.val (tI i)))) (upd (fun _=>none) 3 (some (⟨3,1,false,rV tI xs⟩))) _
 obtain ⟨hi,hx⟩:=hI
 refine A6 ?_
 refine x9 rfl (fun h151=> ?_) (fun h151=> ?_)
 ·
  refine A6 ?_
  refine R2 (x5 sl233 (i) (by omega) (gD (l:=ls) (n:=i) (d:=[]) (by omega))) rfl rfl ?_
  refine A12 ?_
  refine xi0 (s:=14) rfl (fun hl0=> ?_)
  have htk:=tlen_take (ls:=ls) (i:=i) (by omega)
  refine cL (fun (fm:(Nat)×(List Int))=>(fun (j:Nat) (xs:List Int)=>j≤(ls.getD i []).length∧xs=(ls.take i).flatMap eds++eds ((ls.getD i []).take j)) fm.1 fm.2) (fun (fm:(Nat)×(List Int))=>(fun (j:Nat) (xs:List Int)=>upd (upd (upd (upd (upd (upd (upd (fun _=>none) 3 (some (.own (.sl 3 1 0 xs.length)))) 8 (some (.val (tL 1 false (fun l=>tL 8 true tTs l) ls)))) 9 (some (.val (tI ls.length)))) 10 (some (.val (tI i)))) 14 (some (.val (tL 8 true tTs (ls.getD i []))))) 15 (some (.val (tI (ls.getD i []).length)))) 16 (some (.val (tI j)))) fm.1 fm.2) (fun (fm:(Nat)×(List Int))=>(fun (j:Nat) (xs:List Int)=>upd (fun _=>none) 3 (some (⟨3,1,false,rV tI xs⟩))) fm.1 fm.2) [3] (fun (fm:(Nat)×(List Int))=>(fun (j:Nat) (xs:List Int)=>(ls.getD i []).length - j) fm.1 fm.2) ((0,xs)) (by dsimp only;exact ⟨Nat.zero_le _,by rw [List.take_zero,hx];simp [eds]⟩) (hh:=((SubK.consI rfl ImpK.refl) SubK.nil)) ?_
  intro fm hI2
  obtain ⟨j,xs⟩:=fm
  replace hI2:j≤(ls.getD i []).length∧xs=(ls.take i).flatMap eds++eds ((ls.getD i []).take j):=hI2
  show wc _ _ _ _ (upd (upd (upd (upd (upd (upd (upd (fun _=>none) 3 (some (.own (.sl 3 1 0 xs.length)))) 8 (some (.val (tL 1 false (fun l=>tL 8 true tTs l) ls)))) 9 (some (.val (tI ls.length)))) 10 (some (.val (tI i)))) 14 (some (.val (tL 8 true tTs (ls.getD i []))))) 15 (some (.val (tI (ls.getD i []).length)))) 16 (some (.val (tI j)))) (upd (fun _=>none) 3 (some (⟨3,1,false,rV tI xs⟩))) _
  obtain ⟨hj,hx2⟩:=hI2
  have hxl:xs.length=2*tlen (ls.take i)+2*j:=by rw [hx2,List.length_append,flat_len,eds_len,List.length_take,Nat.min_eq_left hj]
  refine A6 ?_
  refine x9 rfl (fun h152=> ?_) (fun h152=> ?_)
  ·
   refine A6 ?_
   refine R2 (x5 sl37 (j) (by omega) (gD (l:=(ls.getD i [])) (n:=j) (d:=tst0) (by omega))) rfl rfl ?_
   refine A1 ?_
   refine RE (x6 (k:=7) (n:=8) (agg:=true) zr77.1 zr77.2 rfl) trivial trivial ⟨rfl,trivial⟩ ?_
   refine A9 ?_
   refine R2 (xa8 (n:=2) (f:=fun n:Int=>tI n) [((ls.getD i []).getD j tst0).lo,((ls.getD i []).getD j tst0).hi] Tryz.underlying42 el3 zf3 rfl (fun _=>inferInstance) rfl rfl rfl) rfl rfl (RE (xc5 (k:=3) (k':=26) (f:=fun n:Int=>tI n) (ys:=[((ls.getD i []).getD j tst0).lo,((ls.getD i []).getD j tst0).hi]) (ts':=rV tI (xs++[((ls.getD i []).getD j tst0).lo,((ls.getD i []).getD j tst0).hi])) Tryz.underlying42 el3 zf3 rfl rfl (fun _=>inferInstance) xd9 (by simp;omega) (by simp;omega) (by simp [rV]) (n':=xs.length+2) rfl) ⟨rfl,rfl,trivial⟩ ⟨rfl,trivial⟩ ⟨rfl,trivial⟩ ?_)
   refine A8 ?_
   exact xc0 (l:=[3]) (fun j=>cond (Nat.beq j 3) 26 (j)) ((j+1,xs++[((ls.getD i []).getD j tst0).lo,((ls.getD i []).getD j tst0).hi])) ⟨(by dsimp only;exact ⟨by omega,by rw [eds_snoc (by omega),←List.append_assoc,←hx2]⟩),(by dsimp only;omega)⟩ (SubR.int rfl (by first | omega | rfl | (dsimp only;omega)) (SubR.int rfl (by first | omega | rfl | (dsimp only;omega)) (SubR.cons rfl (SubR.int rfl (by first | omega | rfl | (dsimp only;omega)) (SubR.int rfl (by first | omega | rfl | (dsimp only;omega)) (SubR.cons rfl ((SubR.consI rfl (Imp.of (by dsimp only;rw [List.length_append];rfl))) SubR.nil))))))) ((SubKR.consI rfl (ImpK.of xa3.symm)) SubKR.nil) (SupG.val (SupG.val (SupG.val (SupG.val (SupG.val (SupG.val (SupG.own rfl SupG.nil))))))) (SupH.cons rfl (supJ xa2) SupH.nil) (lkOk rfl) rfl rfl (fun _ h=>by cases h)
  ·
   refine A10 ?_
   have hje:j=(ls.getD i []).length:=by omega
   subst hje
   exact kF ((i+1,xs)) ⟨(by dsimp only;exact ⟨by omega,by rw [flat_snoc (by omega),hx2,List.take_length]⟩),(by dsimp only;omega)⟩ (hh:=((SubK.consI rfl ImpK.refl) SubK.nil))
 ·
  refine A6 ?_
  have hie:i=ls.length:=by omega
  subst hie
  rw [List.take_length] at hx
  have hxl:xs.length=2*tlen ls:=by rw [hx,flat_len]
  have hsl:=srtI_len xs
  refine A2 ?_
  refine RE (xb1 (fun _=>3) (c_SortI xs (by omega)) fi49 rfl (krC (ρ:=fun _=>3) (k:=1) xa3 (krN (ρ:=fun _=>3))) (krC (ρ:=fun _=>3) (k:=1) xa3 (krN (ρ:=fun _=>3))) ⟨⟨rfl,xa2⟩,trivial⟩ rfl) ⟨rfl,trivial⟩ ⟨rfl,trivial⟩ trivial ?_
  refine A5 ?_
  refine RE (xb1 (fun _=>3) (c_CompactS xs) fi50 rfl (krC (ρ:=fun _=>3) (k:=1) xa3 (krN (ρ:=fun _=>3))) (krC (ρ:=fun _=>3) (k:=1) xa3 (krN (ρ:=fun _=>3))) ⟨⟨rfl,xa2⟩,trivial⟩ rfl) ⟨rfl,trivial⟩ ⟨rfl,trivial⟩ trivial (RE (xj4 (f:=tI) (xs:=brd xs) (fun _ h=>h) (xf7 rfl) rfl) ⟨rfl,trivial⟩ ⟨rfl,trivial⟩ trivial ?_)
  refine A3 ?_
  exact x4 Plain.mk' rfl rfl (Le.of (by rw [hx];rfl))
theorem c_on (l:List Tst) (d:Int):
  Ct Tryz.prog 141 [tL 8 true tTs l,tI d] (tT [tO 6 true tVa (onV l d),tL 8 true tTs (onL l d)]):=by
 refine Ct.intro Tryz.func141 rfl Tryz.ntmps141 rfl ?_
 intro w F
 refine xj7 ?_
 refine C_reg ?_
 refine R1 xe2 rfl (R1 xe2 rfl (xj8 (by kernel_rfl) (xf1 (xj7 (C_block ?_)))))
 refine cL (fun (xs:List Tst)=>onL xs d=onL l d) (fun (xs:List Tst)=>upd (upd (fun _=>none) 0 (some (.val (tL 8 true tTs xs)))) 1 (some (.val (tI d)))) (fun (xs:List Tst)=>fun _=>none) [] (fun (xs:List Tst)=>xs.length) (l) rfl ?_
 intro xs hI
 refine xi0 (s:=0) rfl (fun hl0=> ?_)
 refine xj7 (xj7 ?_)
 refine C_reg ?_
 refine R1 xb6 rfl (R1 (d_len Tryz.underlying37) rfl (R2 d_gtr rfl rfl (R1 xb6 rfl ?_)))
 refine RGcaseD (t:=9) rfl (fun h124=> ?_) (fun h124=> ?_)
 ·
  refine RGon (decide_eq_true h124) rfl xb6 rfl ⟨rfl,trivial⟩ trivial trivial (RGon (decide_eq_true h124) rfl (x5 sl37 (0) (by omega) (gD (l:=xs) (n:=0) (d:=tst0) (by omega))) rfl ⟨rfl,rfl,trivial⟩ trivial trivial (RGon (decide_eq_true h124) rfl (xd0 fo77_1.h (At.f 1 rfl rfl) rfl) rfl ⟨rfl,trivial⟩ trivial trivial (RGon (decide_eq_true h124) rfl (xk1 ti3) rfl ⟨rfl,trivial⟩ trivial trivial (RGon (decide_eq_true h124) rfl xb6 rfl ⟨rfl,trivial⟩ trivial trivial (RGon (decide_eq_true h124) rfl d_leq rfl ⟨rfl,rfl,trivial⟩ trivial trivial (R2 (xe9 (decide_eq_true h124)) rfl rfl (xj8 (by kernel_rfl) ?_)))))))
  refine xf1 ?_
  refine x9 rfl (fun h124_2=> ?_) (fun h124_2=> ?_)
  ·
   refine C_skip (xf1 (C_block ?_))
   refine C_reg ?_
   refine R1 xb6 rfl (R2 (d_sliceFrom sl37 1 rfl (by omega) rfl) rfl rfl (R1 xe2 rfl (xj8 (by kernel_rfl) (K_norB ?_))))
   exact kF (xs.drop 1) ⟨(by rw [on_next (by omega) (by omega)];exact hI),(by rw [List.length_drop];omega)⟩
  ·
   refine C_exit (K_exT (K_exT (K_exB (xf1 (xj7 (xj7 ?_))))))
   have hst:onL l d=xs:=by rw [←hI];exact on_stop (by omega)
   refine C_reg ?_
   refine R1 xb6 rfl (R1 (d_len Tryz.underlying37) rfl (R2 d_gtr rfl rfl (R1 xb6 rfl ?_)))
   refine RGcaseD (t:=22) rfl (fun h127=> ?_) (fun h127=> ?_)
   ·
    refine RGon (decide_eq_true h127) rfl xb6 rfl ⟨rfl,trivial⟩ trivial trivial (RGon (decide_eq_true h127) rfl (x5 sl37 (0) (by omega) (gD (l:=xs) (n:=0) (d:=tst0) (by omega))) rfl ⟨rfl,rfl,trivial⟩ trivial trivial (RGon (decide_eq_true h127) rfl (xd0 fo77_0.h (At.f 0 rfl rfl) rfl) rfl ⟨rfl,trivial⟩ trivial trivial (RGon (decide_eq_true h127) rfl (xk1 ti3) rfl ⟨rfl,trivial⟩ trivial trivial (RGon (decide_eq_true h127) rfl xb6 rfl ⟨rfl,trivial⟩ trivial trivial (RGon (decide_eq_true h127) rfl d_leq rfl ⟨rfl,rfl,trivial⟩ trivial trivial (R2 (xe9 (decide_eq_true h127)) rfl rfl (xj8 (by kernel_rfl) ?_)))))))
    refine xf1 ?_
    refine x9 rfl (fun h127_2=> ?_) (fun h127_2=> ?_)
    ·
     refine xj7 ?_
     refine C_reg ?_
     refine R1 xb6 rfl (R2 (x5 sl37 (0) (by omega) (gD (l:=xs) (n:=0) (d:=tst0) (by omega))) rfl rfl (R1 (xd0 fo77_2.h (At.f 2 rfl rfl) rfl) rfl (R1 xb6 rfl (R1 xe2 rfl (R1 xe2 rfl (xj8 (by kernel_rfl) (xf1 ?_)))))))
     refine C_ret (K_retT ?_)
     exact xe5 Plain.mk' rfl rfl rfl (leO (n:=6) (agg:=true) (f:=tVa) (onV_some hst ⟨by omega,by omega⟩)) (Le.of (by rw [hst]))
    ·
     refine C_skip (xf1 (xj7 ?_))
     refine C_reg ?_
     refine R1 xb6 rfl (R1 xe2 rfl (R1 xe2 rfl (xj8 (by kernel_rfl) (xf1 (C_ret ?_)))))
     exact xe5 Plain.mk' rfl rfl rfl (leO0 (onV_none hst (by omega))) (Le.of (by rw [hst]))
   ·
    refine RGoff (decide_eq_false h127) rfl rfl (RGoff (decide_eq_false h127) rfl rfl (RGoff (decide_eq_false h127) rfl rfl (RGoff (decide_eq_false h127) rfl rfl (RGoff (decide_eq_false h127) rfl rfl (RGoff (decide_eq_false h127) rfl rfl (R2 (xc4 (decide_eq_false h127)) rfl rfl (xj8 (by kernel_rfl) ?_)))))))
    refine xf1 (C_bF rfl rfl (C_skip (xf1 (xj7 ?_))))
    refine C_reg ?_
    refine R1 xb6 rfl (R1 xe2 rfl (R1 xe2 rfl (xj8 (by kernel_rfl) (xf1 (C_ret ?_)))))
    exact xe5 Plain.mk' rfl rfl rfl (leO0 (onV_none hst (by omega))) (Le.of (by rw [hst]))
 ·
  refine RGoff (decide_eq_false h124) rfl rfl (RGoff (decide_eq_false h124) rfl rfl (RGoff (decide_eq_false h124) rfl rfl (RGoff (decide_eq_false h124) rfl rfl (RGoff (decide_eq_false h124) rfl rfl (RGoff (decide_eq_false h124) rfl rfl (R2 (xc4 (decide_eq_false h124)) rfl rfl (xj8 (by kernel_rfl) ?_)))))))
  refine xf1 (C_bF rfl rfl (C_exit (K_exT (K_exT (K_exB (xf1 (xj7 ?_)))))))
  refine xj7 ?_
  have hst:onL l d=xs:=by rw [←hI];exact on_stop (by omega)
  refine C_reg ?_
  refine R1 xb6 rfl (R1 (d_len Tryz.underlying37) rfl (R2 d_gtr rfl rfl (R1 xb6 rfl ?_)))
  refine RGcaseD (t:=22) rfl (fun h127=> ?_) (fun h127=> ?_)
  ·
   refine RGon (decide_eq_true h127) rfl xb6 rfl ⟨rfl,trivial⟩ trivial trivial (RGon (decide_eq_true h127) rfl (x5 sl37 (0) (by omega) (gD (l:=xs) (n:=0) (d:=tst0) (by omega))) rfl ⟨rfl,rfl,trivial⟩ trivial trivial (RGon (decide_eq_true h127) rfl (xd0 fo77_0.h (At.f 0 rfl rfl) rfl) rfl ⟨rfl,trivial⟩ trivial trivial (RGon (decide_eq_true h127) rfl (xk1 ti3) rfl ⟨rfl,trivial⟩ trivial trivial (RGon (decide_eq_true h127) rfl xb6 rfl ⟨rfl,trivial⟩ trivial trivial (RGon (decide_eq_true h127) rfl d_leq rfl ⟨rfl,rfl,trivial⟩ trivial trivial (R2 (xe9 (decide_eq_true h127)) rfl rfl (xj8 (by kernel_rfl) ?_)))))))
   refine xf1 ?_
   refine x9 rfl (fun h127_2=> ?_) (fun h127_2=> ?_)
   ·
    refine xj7 ?_
    refine C_reg ?_
    refine R1 xb6 rfl (R2 (x5 sl37 (0) (by omega) (gD (l:=xs) (n:=0) (d:=tst0) (by omega))) rfl rfl (R1 (xd0 fo77_2.h (At.f 2 rfl rfl) rfl) rfl (R1 xb6 rfl (R1 xe2 rfl (R1 xe2 rfl (xj8 (by kernel_rfl) (xf1 ?_)))))))
    refine C_ret (K_retT ?_)
    exact xe5 Plain.mk' rfl rfl rfl (leO (n:=6) (agg:=true) (f:=tVa) (onV_some hst ⟨by omega,by omega⟩)) (Le.of (by rw [hst]))
   ·
    refine C_skip (xf1 (xj7 ?_))
    refine C_reg ?_
    refine R1 xb6 rfl (R1 xe2 rfl (R1 xe2 rfl (xj8 (by kernel_rfl) (xf1 (C_ret ?_)))))
    exact xe5 Plain.mk' rfl rfl rfl (leO0 (onV_none hst (by omega))) (Le.of (by rw [hst]))
  ·
   refine RGoff (decide_eq_false h127) rfl rfl (RGoff (decide_eq_false h127) rfl rfl (RGoff (decide_eq_false h127) rfl rfl (RGoff (decide_eq_false h127) rfl rfl (RGoff (decide_eq_false h127) rfl rfl (RGoff (decide_eq_false h127) rfl rfl (R2 (xc4 (decide_eq_false h127)) rfl rfl (xj8 (by kernel_rfl) ?_)))))))
   refine xf1 (C_bF rfl rfl (C_skip (xf1 (xj7 ?_))))
   refine C_reg ?_
   refine R1 xb6 rfl (R1 xe2 rfl (R1 xe2 rfl (xj8 (by kernel_rfl) (xf1 (C_ret ?_)))))
   exact xe5 Plain.mk' rfl rfl rfl (leO0 (onV_none hst (by omega))) (Le.of (by rw [hst]))
theorem c_together (a b:List Tst):
  CtG Tryz.prog 85 [] [.val (tL 8 true tTs a),.val (tL 8 true tTs b)] (.own (.fn 139 [.ptr 2 0,.ptr 3 0])) [(2,⟨37,1,false,[.val (tL 8 true tTs a)]⟩),(3,⟨37,1,false,[.val (tL 8 true tTs b)]⟩)] [2,3]:=by
 refine CtG.intro [] Tryz.func85 rfl Tryz.ntmps85 rfl rfl trivial ?_
 intro w F η
 refine A9 ?_
 refine R2 (xf3 (ps:=[.ptr 2 0,.ptr 3 0]) rfl) rfl rfl ?_
 refine A4 ?_
 exact xb7 LentC.mk' rfl rfl Imp.refl ⟨rfl,rfl,trivial⟩ rfl ⟨⟨rfl,(SupX.lit rfl)⟩,⟨rfl,(SupX.lit rfl)⟩,trivial⟩ rfl
abbrev tPr (x y:Option Va):Ty:=tS [⟨1,false,tO 6 true tVa x⟩,⟨1,false,tO 6 true tVa y⟩]
def tgY (a b:List Tst) (k:Nat):List Ty:=[tSn ⟨(bds [a,b]).getD k 0,(bds [a,b]).getD (k+1) 0⟩,tPr (valT a ((bds [a,b]).getD k 0)) (valT b ((bds [a,b]).getD k 0))]
theorem tg_le {a b:List Tst} {k:Nat} {x y:Option Va} (h1:x=valT a ((bds [a,b]).getD k 0)) (h2:y=valT b ((bds [a,b]).getD k 0)):LeL [tSn ⟨(bds [a,b]).getD k 0,(bds [a,b]).getD (k+1) 0⟩,tPr x y] (tgY a b k):=by
 subst h1;subst h2;exact ⟨Le.refl,Le.refl,trivial⟩
theorem i_together (a b:List Tst) (ha:ascT a) (hb:ascT b) (hla:a.length≤200000) (hlb:b.length≤200000):
  ItC Tryz.prog 139 [(1,⟨37,1,false,[.val (tL 8 true tTs a)]⟩),(2,⟨37,1,false,[.val (tL 8 true tTs b)]⟩)] [.ptr 1 0,.ptr 2 0] ((bds [a,b]).length - 1) (tgY a b):=by
 refine ItC.intro (K:=99) [1,2] Tryz.func139 rfl Tryz.ntmps139 rfl rfl ⟨⟨rfl,(SupX.lit rfl)⟩,⟨rfl,(SupX.lit rfl)⟩,trivial⟩ rfl ?_
 intro w F η l V J Jc hB
 refine A1 ?_
 have htl:tlen [a,b]≤400000:=by simp [tlen];omega
 refine A3 ?_
 refine R2 (xa8 (n:=2) (f:=fun l=>tL 8 true tTs l) [a,b] Tryz.underlying233 el37 zf37 rfl (fun _=>inferInstance) rfl rfl rfl) rfl rfl (R1 (x3 (c_borders [a,b] (by simp) (by omega)) fi140 rfl) rfl ?_)
 refine A9 ?_
 have htl:tlen [a,b]≤400000:=by simp [tlen];omega
 have hdl:=bds_len (ls:=[a,b])
 refine cL (fun (fm:(Nat)×(List Tst)×(List Tst))=>(fun (i:Nat) (xa:List Tst) (xb:List Tst)=>(i=0∨i+1≤(bds [a,b]).length)∧ogI a b xa xb ((bds [a,b]).getD (i - 1) 0)) fm.1 fm.2.1 fm.2.2) (fun (fm:(Nat)×(List Tst)×(List Tst))=>(fun (i:Nat) (xa:List Tst) (xb:List Tst)=>upd (upd (upd (upd (upd (fun _=>none) 0 (some (.val (tE (.func (.yield l) #[] #[]))))) 1 (some (.own (.ptr 1 0)))) 2 (some (.own (.ptr 2 0)))) 4 (some (.val (tL 1 false tI (bds [a,b]))))) 5 (some (.val (tI ((i:Int)+1))))) fm.1 fm.2.1 fm.2.2) (fun (fm:(Nat)×(List Tst)×(List Tst))=>(fun (i:Nat) (xa:List Tst) (xb:List Tst)=>upd (upd (upd (fun _=>none) 1 (some (⟨37,1,false,[.val (tL 8 true tTs xa)]⟩))) 2 (some (⟨37,1,false,[.val (tL 8 true tTs xb)]⟩))) 99 (some (⟨2*i,1,false,[]⟩))) fm.1 fm.2.1 fm.2.2) [1,2,99] (fun (fm:(Nat)×(List Tst)×(List Tst))=>(fun (i:Nat) (xa:List Tst) (xb:List Tst)=>(bds [a,b]).length - i) fm.1 fm.2.1 fm.2.2) ((0,a,b)) (by dsimp only;exact ⟨.inl rfl,ogI.zero ha hb _⟩) (hh:=((SubK.consI rfl ImpK.refl) ((SubK.consI rfl ImpK.refl) ((SubK.consI rfl ImpK.refl) SubK.nil)))) ?_
 intro fm hI
 obtain ⟨i,xa,xb⟩:=fm
 replace hI:(i=0∨i+1≤(bds [a,b]).length)∧ogI a b xa xb ((bds [a,b]).getD (i - 1) 0):=hI
 show wc _ _ _ _ (upd (upd (upd (upd (upd (fun _=>none) 0 (some (.val (tE (.func (.yield l) #[] #[]))))) 1 (some (.own (.ptr 1 0)))) 2 (some (.own (.ptr 2 0)))) 4 (some (.val (tL 1 false tI (bds [a,b]))))) 5 (some (.val (tI ((i:Int)+1))))) (upd (upd (upd (fun _=>none) 1 (some (⟨37,1,false,[.val (tL 8 true tTs xa)]⟩))) 2 (some (⟨37,1,false,[.val (tL 8 true tTs xb)]⟩))) 99 (some (⟨2*i,1,false,[]⟩))) _
 obtain ⟨hi,hog⟩:=hI
 refine A9 ?_
 refine x9 rfl (fun h137=> ?_) (fun h137=> ?_)
 ·
  refine A5 ?_
  have hle:(bds [a,b]).getD (i - 1) 0≤((bds [a,b]).getD i 0):=by
   rcases Nat.eq_zero_or_pos i with h0 | h0
   ·subst h0;exact Int.le_refl _
   ·have:=pw_lt (bds_pw (ls:=[a,b])) (show i - 1 < i by omega) (by omega);omega
  obtain ⟨hv1,hv2,hog2⟩:=hog.next hle
  refine A1 ?_
  refine RE (x6 (k:=6) (n:=2) (agg:=true) zr145.1 zr145.2 rfl) trivial trivial ⟨rfl,trivial⟩ ?_
  refine A8 ?_
  refine R2 (x5 sl42 (i) (by omega) (gD (l:=(bds [a,b])) (n:=i) (d:=0) (by omega))) rfl rfl ?_
  refine A1 ?_
  refine R2 (x3 (c_on xa ((bds [a,b]).getD i 0)) fi141 rfl) rfl rfl ?_
  refine A4 ?_
  refine xo5 (0) ti143 rfl rfl rfl rfl (Up.g 0 rfl rfl rfl) rfl rfl ?_
  refine A9 ?_
  refine R2 (x5 sl42 (i) (by omega) (gD (l:=(bds [a,b])) (n:=i) (d:=0) (by omega))) rfl rfl ?_
  refine A1 ?_
  refine R2 (x3 (c_on xb ((bds [a,b]).getD i 0)) fi141 rfl) rfl rfl ?_
  refine A4 ?_
  refine xo5 (0) ti143 rfl rfl rfl rfl (Up.g 1 rfl rfl rfl) rfl rfl ?_
  refine A4 ?_
  refine C_drawY (n:=12) mixed ?_
  refine A4 ?_
  refine R2 (x5 sl42 (i) (by omega) (gD (l:=(bds [a,b])) (n:=i) (d:=0) (by omega))) rfl rfl ?_
  refine A3 ?_
  refine R2 (x5 sl42 (i+1) (by omega) (gD (l:=(bds [a,b])) (n:=i+1) (d:=0) (by omega))) rfl rfl ?_
  refine A1 ?_
  refine R2 (xa6 (r:=tS [⟨1,false,tI ((bds [a,b]).getD i 0)⟩,⟨1,false,tI ((bds [a,b]).getD (i+1) 0)⟩]) (ts:=[(0,tI ((bds [a,b]).getD i 0)),(1,tI ((bds [a,b]).getD (i+1) 0))]) bu106 zr106.2 (Bc 0 rfl rfl rfl (Bc 1 rfl rfl rfl Le.refl))) rfl rfl ?_
  refine A1 ?_
  refine R_endY (by kernel_rfl) ?_
  refine wl_yield (ts:=[tSn ⟨((bds [a,b]).getD i 0),((bds [a,b]).getD (i+1) 0)⟩,tPr (onV xa ((bds [a,b]).getD i 0)) (onV xb ((bds [a,b]).getD i 0))]) hB (xk6 rfl) rfl rfl ⟨rfl,rfl,trivial⟩ rfl rfl (by omega) (tg_le hv1 hv2) ?_ ?_
  ·
   refine xe8 d_not ⟨rfl,trivial⟩ trivial trivial rfl (xn9 ?_)
   refine A10 ?_
   exact kF ((i+1,onL xa ((bds [a,b]).getD i 0),onL xb ((bds [a,b]).getD i 0))) ⟨(by dsimp only;exact ⟨.inr (by omega),hog2⟩),(by dsimp only;omega)⟩ (hh:=((SubK.consI rfl ImpK.refl) ((SubK.consI rfl ImpK.refl) ((SubK.consI rfl ImpK.refl) SubK.nil))))
  ·
   refine xe8 d_not ⟨rfl,trivial⟩ trivial trivial rfl (xn9 ?_)
   refine A7 ?_
   exact E_it hB rfl trivial rfl (.inl rfl) rfl (.inr ⟨i,by omega,rfl⟩)
 ·
  refine A4 ?_
  exact E_it hB rfl trivial rfl (.inr rfl) rfl (.inl (by omega))
end An.S
namespace An.S
open Go
def wt (D:Int) (v:Va):Int:=(v.f.rat*(D:Rat)).num
theorem int_div (n:Int):(n:Rat)=Rat.divInt n 1:=by
 have:=Rat.num_divInt_den (n:Rat)
 rw [Rat.num_intCast,Rat.den_intCast] at this;exact this.symm
theorem wt_is {D k:Int} (hD:0 < D) {v:Va} (h:v.f.rat=Rat.divInt k D):wt D v=k:=by
 have e:Rat.divInt k D*(D:Rat)=(k:Rat):=by
  rw [int_div D,int_div k,Rat.divInt_mul_divInt]
  exact (Rat.divInt_eq_divInt_iff (by omega) (by decide)).2 (by rw [Int.mul_one,Int.mul_one])
 rw [wt,h,e,Rat.num_intCast]
theorem addG {D:Int} (hD:0 < D) (a b:Int):Rat.divInt a D+Rat.divInt b D=Rat.divInt (a+b) D:=by
 rw [Rat.divInt_add_divInt a b (by omega) (by omega)]
 exact (Rat.divInt_eq_divInt_iff (Int.ne_of_gt (Int.mul_pos hD hD)) (by omega)).2 (by rw [←Int.add_mul,Int.mul_assoc])
theorem xo7 {n d:Int} (hd:0 < d) (h1: -9223372036854775808≤n) (h2:n≤9223372036854775807) (h3:d≤9223372036854775807):short (Rat.divInt n d):=by
 have l16: ∀{n:Int}, -9223372036854775808≤n→n≤9223372036854775807→len16 n≤256:=fun h1 h2=>Nat.le_trans (len16_64 h1 h2) (by decide)
 have e:=lowest_eq (n:=n) hd
 have e1:(wh (Rat.divInt n d).num).l.length=(wh (n / (Int.gcd n d:Int))).l.length:=congrArg (fun f:Fr=>f.n.l.length) e
 have e2:(wh ((Rat.divInt n d).den:Int)).l.length=(wh (d / (Int.gcd n d:Int))).l.length:=congrArg (fun f:Fr=>f.d.l.length) e
 refine ⟨?_,?_⟩
 ·show (wh (Rat.divInt n d).num).l.length≤256
  rw [e1];exact len16_div (l16 h1 h2)
 ·show (wh ((Rat.divInt n d).den:Int)).l.length≤256
  rw [e2];exact len16_div (l16 (by omega) h3)
theorem splitG {l:List Tst} (h:0 < l.length):l=l.take (l.length - 1)++[l.getD (l.length - 1) tst0]:=by
 have e:l.take (l.length - 1+1)=l.take (l.length - 1)++[l[l.length - 1]]:=List.take_succ_eq_append_getElem (by omega)
 rw [show l.length - 1+1=l.length by omega,List.take_length] at e
 rw [List.getD_eq_getElem?_getD,List.getElem?_eq_getElem (by omega)];exact e
theorem le_dv {x y d e:Int} (hd:0 < d) (he:0 < e):Rat.divInt x d≤Rat.divInt y e↔x*e≤y*d:=by
 rw [Rat.le_iff_sub_nonneg,Rat.divInt_sub_divInt _ _ (by omega) (by omega),Rat.divInt_nonneg_iff_of_pos_right (Int.mul_pos he hd)];omega
theorem dig_frG (q:Rat):(fr q).dig:=⟨xc7 xa9 _,xc7 xa9 _⟩
def gOk (K:Nat) (D B:Int) (v:Va):Prop:=(v.valid=true∧v.kind=K∧v.i=0∧v.f=fr v.f.rat∧short v.f.rat)∧v.f.rat=Rat.divInt (wt D v) D∧ -B≤wt D v∧wt D v≤B
theorem gOk.dig {K:Nat} {D B:Int} {v:Va} (h:gOk K D B v):v.f.dig:=by rw [h.1.2.2.2.1];exact dig_frG _
theorem gOk.mk {K:Nat} {D B k:Int} (hK:K=2∨K=3) (hD:0 < D) (hDb:D≤9223372036854775807) (h1: -B≤k) (h2:k≤B) (hB:B≤9223372036854775807):gOk K D B ⟨K,fr (Rat.divInt k D),0⟩:=by
 have hs:short (Rat.divInt k D):=xo7 hD (by omega) (by omega) hDb
 have hw:wt D ⟨K,fr (Rat.divInt k D),0⟩=k:=wt_is hD (xh4 _)
 refine ⟨⟨?_,rfl,rfl,by rw [xh4],by rw [xh4];exact hs⟩,?_,?_,?_⟩
 ·rw [Va.valid,if_pos hK]
  simp only [Bool.and_eq_true,decide_eq_true_eq]
  exact ⟨trivial,valid_fr hs⟩
 ·rw [hw];exact xh4 _
 ·rw [hw];exact h1
 ·rw [hw];exact h2
def isG (K:Nat) (D B:Int) (l:List Tst):Prop:=tRight l=true∧ ∀s∈l,gOk K D B s.v
section
variable {K:Nat} {D B:Int} {l a b:List Tst}
theorem isG.dig (h:isG K D B l): ∀s∈l,s.v.f.dig:=fun s hs=>(h.2 s hs).dig
theorem isG.asc (h:isG K D B l):ascT l:=xt2 h.1
theorem isG_nil:isG K D B []:=⟨rfl,fun s hs=>by cases hs⟩
theorem isG_of (h:ascT l) (hn:nbT l) (hv: ∀s∈l,(0≤s.lo∧s.hi≤65536)∧gOk K D B s.v):isG K D B l:=
 ⟨right_of (K:=K) h hn fun s hs=>⟨(hv s hs).1.1,(hv s hs).1.2,(hv s hs).2.1.1,(hv s hs).2.1.2.1⟩,fun s hs=>(hv s hs).2⟩
theorem isG_pst {ps:List Tst} (hp:ps.Pairwise fun s t=>s.lo < s.hi→s.hi≤t.lo) (hv: ∀s∈ps,s.lo < s.hi→(0≤s.lo∧s.hi≤65536)∧gOk K D B s.v):isG K D B (pst [] ps):=by
 have h:=pst_val ps [] ⟨fun s hs=>(by cases hs),.nil⟩ trivial hp fun x hx=>by cases hx
 exact isG_of h.1 h.2.1 (pst_all (P:=fun s=>(0≤s.lo∧s.hi≤65536)∧gOk K D B s.v) (fun x s hx hs e=>⟨⟨hx.1.1,hs.1.2⟩,hx.2⟩) _ _ (fun s hs=>by cases hs) hv)
theorem segL_mem {g:Int→Option Va}: ∀{ds:List Int} {s:Tst},s∈segL g ds→s.lo∈ds∧s.hi∈ds∧g s.lo=some s.v
 | [],s,h=>by cases h
 | [x],s,h=>by cases h
 | x::y::r,s,h=>by
  rw [segL] at h
  rcases List.mem_append.1 h with h | h
  ·cases hg:g x with
   | none=>rw [hg] at h;cases h
   | some v=>
    rw [hg] at h
    rw [List.mem_singleton.1 h]
    exact ⟨by simp,by simp,hg⟩
  ·have:=segL_mem h
   exact ⟨List.mem_cons_of_mem _ this.1,List.mem_cons_of_mem _ this.2.1,this.2.2⟩
end
def bd (l:List Sn) (i:Nat):Int:=if i%2=0 then (l.getD (i / 2) sn0).lo else (l.getD (i / 2) sn0).hi
theorem bd_succ {l:List Sn} {i:Nat} (h:sVal l=true) (hi:i+1 < 2*l.length):bd l i < bd l (i+1):=by
 rcases Nat.mod_two_eq_zero_or_one i with h0 | h0
 ·have:=xr3 h (i:=i / 2) (by omega)
  rw [bd,bd,if_pos h0,if_neg (by omega),show (i+1) / 2=i / 2 by omega];exact this.2.1
 ·have:=(xq8.1 (sVal_iff.1 h ((i+1) / 2) (by omega))).2.2.resolve_left (by omega)
  rw [bd,bd,if_neg (by omega),if_pos (by omega)]
  rw [show (i+1) / 2 - 1=i / 2 by omega] at this;exact this
theorem bd_lt {l:List Sn} (h:sVal l=true): ∀{j i:Nat},i < j→j < 2*l.length→bd l i < bd l j
 | j+1,i,hij,hj=>by
  have h1:=bd_succ h hj
  rcases Nat.lt_or_ge i j with h2 | h2
  ·have:=bd_lt h h2 (by omega);omega
  ·have:i=j:=by omega
   subst this;exact h1
def mem (l:List Sn) (d:Int):Bool:=l.any fun s=>decide (s.lo≤d) && decide (d < s.hi)
theorem mem_iff {l:List Sn} {d:Int}:mem l d=true↔ ∃s∈l,s.lo≤d∧d < s.hi:=by simp [mem]
theorem mem_no {l:List Sn} {d:Int}:mem l d=false↔ ∀s∈l,¬(s.lo≤d∧d < s.hi):=by
 rw [←Bool.not_eq_true,mem_iff];simp only [not_exists,not_and]
theorem mem_snoc {l:List Sn} {s:Sn} {d:Int}:mem (l++[s]) d=(mem l d || (decide (s.lo≤d) && decide (d < s.hi))):=by simp [mem]
theorem exists_getS {l:List Sn} {s:Sn} (hs:s∈l): ∃i,i < l.length∧s=l.getD i sn0:=by
 obtain ⟨i,hi,e⟩:=List.getElem_of_mem hs
 exact ⟨i,hi,by rw [List.getD_eq_getElem?_getD,List.getElem?_eq_getElem hi];exact e.symm⟩
theorem bd_even (l:List Sn) (p:Nat):bd l (2*p)=(l.getD p sn0).lo:=by rw [bd,if_pos (by omega),show 2*p / 2=p by omega]
theorem bd_odd (l:List Sn) (p:Nat):bd l (2*p+1)=(l.getD p sn0).hi:=by rw [bd,if_neg (by omega),show (2*p+1) / 2=p by omega]
theorem sVal_lt {l:List Sn} (h:sVal l=true) {i j:Nat} (hij:i < j) (hj:j < l.length):(l.getD i sn0).hi < (l.getD j sn0).lo:=by
 have:=bd_lt h (show 2*i+1 < 2*j by omega) (by omega)
 rwa [bd_odd,bd_even] at this
def setS (l:List Sn):Prop:=(∀s∈l,okS s)∧l.Pairwise fun s t=>s.hi < t.lo
theorem sVal_set {l:List Sn} (h:sVal l=true):setS l:=by
 refine ⟨fun s hs=> ?_,List.pairwise_iff_getElem.2 fun i j hi hj hij=> ?_⟩
 ·obtain ⟨i,hi,rfl⟩:=exists_getS hs
  exact xr3 h hi
 ·have:=sVal_lt h hij hj
  rwa [List.getD_eq_getElem?_getD,List.getD_eq_getElem?_getD,List.getElem?_eq_getElem hi,List.getElem?_eq_getElem hj] at this
theorem mem_cons {s:Sn} {r:List Sn} {d:Int}:mem (s::r) d=((decide (s.lo≤d) && decide (d < s.hi)) || mem r d):=by simp [mem]
theorem mem_low {s:Sn} {r:List Sn} {d:Int} (h:setS (s::r)) (hd:d≤s.hi):mem r d=false:=mem_no.2 fun t ht h'=>by
 have:=(List.pairwise_cons.1 h.2).1 t ht;omega
theorem set_ext: ∀{a b:List Sn},setS a→setS b→(∀d,mem a d=mem b d)→a=b
 | [],[],_,_,_=>rfl
 | [],t::u,_,hb,h=>by
  have h1:=hb.1 t (List.mem_cons_self ..)
  have h2:=h t.lo
  rw [mem_cons] at h2
  simp [mem,h1.2.1] at h2
 | s::r,[],ha,_,h=>by
  have h1:=ha.1 s (List.mem_cons_self ..)
  have h2:=h s.lo
  rw [mem_cons] at h2
  simp [mem,h1.2.1] at h2
 | s::r,t::u,ha,hb,h=>by
  have hs:=ha.1 s (List.mem_cons_self ..)
  have ht:=hb.1 t (List.mem_cons_self ..)
  have pa:=List.pairwise_cons.1 ha.2
  have pb:=List.pairwise_cons.1 hb.2
  have l1:t.lo≤s.lo:=by
   obtain ⟨x,hx,hx2⟩:=mem_iff.1 ((h s.lo).symm.trans (by rw [mem_cons];simp [hs.2.1]))
   rcases List.mem_cons.1 hx with rfl | hx
   ·exact hx2.1
   ·have:=pb.1 x hx;have:=ht.2.1;omega
  have l2:s.lo≤t.lo:=by
   obtain ⟨x,hx,hx2⟩:=mem_iff.1 ((h t.lo).trans (by rw [mem_cons];simp [ht.2.1]))
   rcases List.mem_cons.1 hx with rfl | hx
   ·exact hx2.1
   ·have:=pa.1 x hx;have:=hs.2.1;omega
  have l3:t.hi≤s.hi:=by
   rcases Int.lt_or_le s.hi t.hi with h1 | h1
   ·have h2:=h s.hi
    have:=hs.2.1
    rw [mem_cons,mem_cons,mem_low ha (Int.le_refl _)] at h2
    simp [h1,show t.lo≤s.hi by omega] at h2
   ·exact h1
  have l4:s.hi≤t.hi:=by
   rcases Int.lt_or_le t.hi s.hi with h1 | h1
   ·have h2:=h t.hi
    have:=ht.2.1
    rw [mem_cons,mem_cons,mem_low hb (Int.le_refl _)] at h2
    simp [h1,show s.lo≤t.hi by omega] at h2
   ·exact h1
  have est:s=t:=by
   obtain ⟨a1,a2⟩:=s;obtain ⟨b1,b2⟩:=t
   simp only at l1 l2 l3 l4
   rw [show a1=b1 by omega,show a2=b2 by omega]
  subst est
  congr 1
  refine set_ext ⟨fun x hx=>ha.1 x (List.mem_cons_of_mem _ hx),pa.2⟩ ⟨fun x hx=>hb.1 x (List.mem_cons_of_mem _ hx),pb.2⟩ fun d=> ?_
  rcases Int.lt_or_le d s.hi with h1 | h1
  ·rw [mem_low ha (by omega),mem_low hb (by omega)]
  ·have h2:=h d
   rw [mem_cons,mem_cons] at h2
   simpa [show ¬d < s.hi by omega] using h2
theorem set_same {a b:List Sn} (ha:sVal a=true) (hb:sVal b=true) (h: ∀d,mem a d=mem b d):a=b:=set_ext (sVal_set ha) (sVal_set hb) h
theorem mem_mrg {d:Int}: ∀(xs acc:List Sn),ascS xs→sVal acc=true→(0 < acc.length→ ∀s∈xs,(lastS acc).hi≤s.lo)→mem (xs.foldl mrg1 acc) d=(mem acc d || mem xs d)
 | [],acc,_,_,_=>by simp [mem]
 | s::r,acc,hx,hv,hl=>by
  have hs:=hx.1 s (List.mem_cons_self ..)
  have hp:=List.pairwise_cons.1 hx.2
  have hr:ascS r:=⟨fun t ht=>hx.1 t (List.mem_cons_of_mem _ ht),hp.2⟩
  have h1:=mrg_asc [s] acc ⟨fun t ht=>hx.1 t (by rw [List.mem_singleton.1 ht];exact List.mem_cons_self ..),List.pairwise_singleton ..⟩ hv fun h0 t ht=>hl h0 t (by rw [List.mem_singleton.1 ht];exact List.mem_cons_self ..)
  have key:mem (mrg1 acc s) d=(mem acc d || (decide (s.lo≤d) && decide (d < s.hi)))∧(lastS (mrg1 acc s)).hi=s.hi:=by
   rw [mrg1]
   split
   ·rename_i hm
    have h2:(lastS acc).hi=s.lo:=by have:=hl hm.1 s (List.mem_cons_self ..);have h2:s.lo≤(lastS acc).hi:=hm.2;omega
    have hmax:max (acc.getD (acc.length - 1) sn0).hi s.hi=s.hi:=by
     have h3:(acc.getD (acc.length - 1) sn0).hi=s.lo:=h2
     have:=hs.2.1;omega
    rw [hmax]
    refine ⟨?_,by rw [lastS,List.length_set,getD_setS (by omega),if_pos rfl]⟩
    rw [set_lastE hm.1,mem_snoc]
    have e3:mem acc d=(mem (acc.take (acc.length - 1)) d || (decide ((lastS acc).lo≤d) && decide (d < (lastS acc).hi))):=by rw [←mem_snoc,←split_last hm.1]
    rw [e3,h2]
    have h4:=xr3 hv (i:=acc.length - 1) (by omega)
    have h5:(lastS acc).lo < s.lo:=by rw [←h2];exact h4.2.1
    have h6:(acc.getD (acc.length - 1) sn0).lo=(lastS acc).lo:=rfl
    have:=hs.2.1
    dsimp only
    rw [h6,Bool.or_assoc]
    congr 1
    rw [Bool.eq_iff_iff];simp;omega
   ·rename_i hm
    exact ⟨mem_snoc,by rw [lastS,xt4,List.length_append,List.length_singleton,if_neg (by omega),if_pos (by omega)]⟩
  have ih:=mem_mrg (d:=d) r (mrg1 acc s) hr h1.1 fun _ t ht=>by rw [key.2];exact hp.1 t ht
  rw [List.foldl_cons,ih,key.1,mem_cons,Bool.or_assoc]
def fndT (l:List Tst) (d:Int):Nat:=(l.takeWhile fun s=>decide (s.hi≤d)).length
theorem fndT_is {d:Int}: ∀{l:List Tst} {p:Nat},p≤l.length→(∀i,i < p→(l.getD i tst0).hi≤d)→(p < l.length→d < (l.getD p tst0).hi)→p=fndT l d
 | [],p,hp,_,_=>by simp at hp;subst hp;rfl
 | s::r,0,_,_,h=>by
  have h1:d < s.hi:=h (by simp)
  rw [fndT,List.takeWhile_cons,if_neg (by simp;omega)];rfl
 | s::r,p+1,hp,h1,h2=>by
  have h3:s.hi≤d:=h1 0 (by omega)
  have ih:=fndT_is (d:=d) (l:=r) (p:=p) (by simpa using hp) (fun i hi=>by have:=h1 (i+1) (by omega);simpa using this) (fun hp2=>by have:=h2 (by simpa using hp2);simpa using this)
  rw [fndT,List.takeWhile_cons,if_pos (by simp;omega),List.length_cons,←fndT,←ih]
theorem hiT_mono {l:List Tst} (h:tRight l=true) {i j:Nat} (hij:i≤j) (hj:j < l.length):(l.getD i tst0).hi≤(l.getD j tst0).hi:=by
 rcases Nat.lt_or_ge i j with h1 | h1
 ·have:=tRight_lt h h1 hj
  have:=(xm6 h hj).2.1;omega
 ·rw [show i=j by omega];exact Int.le_refl _
theorem fndT_le {l:List Tst} {d:Int}:fndT l d≤l.length:=(List.takeWhile_sublist _).length_le
theorem onL_drop {d:Int}: ∀l:List Tst,onL l d=l.drop (fndT l d)
 | []=>rfl
 | s::r=>by
  by_cases h:s.hi≤d
  ·have e1:onL (s::r) d=onL r d:=by rw [onL,List.dropWhile_cons_of_pos (by simpa using h)];rfl
   have e2:fndT (s::r) d=fndT r d+1:=by rw [fndT,List.takeWhile_cons,if_pos (by simpa using h),List.length_cons,←fndT]
   rw [e1,e2,List.drop_succ_cons,onL_drop r]
  ·have e1:onL (s::r) d=s::r:=by rw [onL,List.dropWhile_cons_of_neg (by simpa using h)]
   have e2:fndT (s::r) d=0:=by rw [fndT,List.takeWhile_cons,if_neg (by simpa using h)];rfl
   rw [e1,e2,List.drop_zero]
theorem atT_is {l:List Tst} {d:Int} (h:tRight l=true):valT l d=if fndT l d < l.length∧(l.getD (fndT l d) tst0).lo≤d then some (l.getD (fndT l d) tst0).v else none:=by
 rw [←onV_val (xt2 h),onV,onL_drop,List.length_drop]
 have e:(l.drop (fndT l d)).getD 0 tst0=l.getD (fndT l d) tst0:=by
  rw [List.getD_eq_getElem?_getD,List.getD_eq_getElem?_getD,List.getElem?_drop,Nat.add_zero]
 rw [e]
 by_cases h1:fndT l d < l.length∧(l.getD (fndT l d) tst0).lo≤d
 ·rw [if_pos h1,if_pos ⟨by omega,h1.2⟩]
 ·rw [if_neg h1,if_neg (fun h'=>h1 ⟨by omega,h'.2⟩)]
def atR (l:List Tst) (d:Int):Option Va:=if tRight l=true then valT l d else none
def spT (s:Tst):Sn:=⟨s.lo,s.hi⟩
def cvS (l:List Tst):List Sn:=l.map spT
def cvL (l:List Tst) (i:Nat):List Sn:=(l.take i).map spT++List.replicate (l.length - i) sn0
theorem cvL_len {l:List Tst} {i:Nat} (hi:i≤l.length):(cvL l i).length=l.length:=by simp [cvL];omega
theorem cvL_set {l:List Tst} {i:Nat} (hi:i < l.length):(cvL l i).set i (spT (l.getD i tst0))=cvL l (i+1):=by
 have h1:((l.take i).map spT).length=i:=by simp;omega
 rw [cvL,List.set_append_right _ _ (by omega),h1,Nat.sub_self,show l.length - i=(l.length - (i+1))+1 by omega,List.replicate_succ,List.set_cons_zero,cvL,List.take_succ_eq_append_getElem hi,List.map_append,List.append_assoc,List.getD_eq_getElem?_getD,List.getElem?_eq_getElem hi]
 rfl
theorem cvL_all (l:List Tst):cvL l l.length=cvS l:=by simp [cvL,cvS]
theorem cvS_asc {l:List Tst} (h:tRight l=true):ascS (cvS l):=by
 refine ⟨fun s hs=> ?_,(tRight_pair h).map spT fun s t hst=>hst⟩
 obtain ⟨x,hx,rfl⟩:=List.mem_map.1 hs
 obtain ⟨i,hi,rfl⟩:=xk7 hx
 have:=xm6 h hi
 exact ⟨this.1,this.2.1,this.2.2.1⟩
theorem mkS_asc {l:List Sn} (h:ascS l):mkS l=mrg l:=by rw [mkS,ascS_pos h,ascS_srt h]
def cvT (l:List Tst):List Sn:=mkS (cvS l)
theorem mem_cvS {l:List Tst} {d:Int}:mem (cvS l) d=(valT l d).isSome:=by
 rw [Bool.eq_iff_iff,mem_iff]
 constructor
 ·rintro ⟨s,hs,h⟩
  obtain ⟨x,hx,rfl⟩:=List.mem_map.1 hs
  cases hv:valT l d with
  | some v=>rfl
  | none=>exact absurd h (xs6.1 hv x hx)
 ·intro h
  obtain ⟨v,hv⟩:=Option.isSome_iff_exists.1 h
  obtain ⟨s,hs,h2,_⟩:=valT_some hv
  exact ⟨spT s,List.mem_map_of_mem hs,h2⟩
theorem mk_set {l:List Sn} (h:ascS l):sVal (mkS l)=true∧ ∀d,mem (mkS l) d=mem l d:=by
 rw [mkS_asc h]
 have h1:=mrg_asc l [] h rfl fun h'=>by cases h'
 refine ⟨h1.1,fun d=> ?_⟩
 have:=mem_mrg (d:=d) l [] h rfl fun h'=>by cases h'
 rw [mrg,this];rfl
theorem cvT_set {l:List Tst} (h:tRight l=true):sVal (cvT l)=true∧ ∀d,mem (cvT l) d=(valT l d).isSome:=by
 have:=mk_set (cvS_asc h)
 exact ⟨this.1,fun d=>by rw [cvT,this.2,mem_cvS]⟩
def jnC (a b:List Tst):Prop:=(tRight a=true∧tRight b=true)∧ ¬(0 < a.length∧0 < b.length∧(a.getD 0 tst0).v.kind≠(b.getD 0 tst0).v.kind)
instance (a b:List Tst):Decidable (jnC a b):=inferInstanceAs (Decidable (_∧_))
def gdf (a b:List Tst) (d:Int):Option Va:=if dfB a b d then some An.va0 else none
theorem dfK_map (a b:List Tst): ∀k,dfK a b k=cvS (segN (gdf a b) (bds [a,b]) k)
 | 0=>rfl
 | k+1=>by
  rw [dfK_next,segN_next,cvS,List.map_append,←cvS,←dfK_map a b k]
  congr 1
  rw [dfI,segI,gdf]
  by_cases h:dfB a b ((bds [a,b]).getD k 0)=true
  ·rw [if_pos h,if_pos h];rfl
  ·rw [if_neg h,if_neg h];rfl
theorem dfT_map (a b:List Tst):dfT a b=cvS (segL (gdf a b) (bds [a,b])):=by rw [dfT,dfK_map,segL_N]
def dfS (a b:List Tst):List Sn:=mkS (dfT a b)
theorem bds_in {a b:List Tst} (ha:tRight a=true) (hb:tRight b=true) {x:Int} (hx:x∈bds [a,b]):0≤x∧x≤65536:=by
 obtain ⟨l,hl,s,hs,he⟩:=bds_mem.1 hx
 have:0≤s.lo∧s.lo < s.hi∧s.hi≤65536:=by
  rcases List.mem_cons.1 hl with rfl | hl
  ·obtain ⟨i,hi,rfl⟩:=xk7 hs
   have:=xm6 ha hi;omega
  ·rw [List.mem_singleton.1 hl] at hs
   obtain ⟨i,hi,rfl⟩:=xk7 hs
   have:=xm6 hb hi;omega
 omega
theorem dfT_asc {a b:List Tst} (ha:tRight a=true) (hb:tRight b=true):ascS (dfT a b):=by
 rw [dfT_map]
 have hp:=segL_pw (g:=gdf a b) (bds_pw (ls:=[a,b]))
 refine ⟨fun s hs=> ?_,hp.2.map spT fun s t hst=>hst⟩
 obtain ⟨x,hx,rfl⟩:=List.mem_map.1 hs
 have h1:=segL_mem hx
 have b1:=bds_in ha hb h1.1
 have b2:=bds_in ha hb h1.2.1
 exact ⟨b1.1,hp.1 x hx,b2.2⟩
theorem dfS_set {a b:List Tst} (ha:tRight a=true) (hb:tRight b=true):sVal (dfS a b)=true∧ ∀d,mem (dfS a b) d=dfB a b d:=by
 have:=mk_set (dfT_asc ha hb)
 refine ⟨this.1,fun d=> ?_⟩
 rw [dfS,this.2,dfT_map,mem_cvS,seg_all (a:=a) (b:=b) (fun d x h1 h2=>by rw [gdf,gdf,dfB,dfB,h1,h2]) (fun d h1 h2=>by rw [gdf,dfB,h1,h2];rfl) bds_pw (bds_ends (by simp)) (bds_ends (by simp)),gdf]
 cases dfB a b d <;> rfl
end An.S
namespace An
open Go
theorem BuI.array {P:Program} {T E len n:Nat} {agg:Bool} {z:Value} (hu:P.underlying T=some (.array len E)) (te:TyI P E n agg) (hz:(P.info? T).bind (·.zero)=some z):BuI P T (fun i=>some (i*n,n)) z:=by
 refine ⟨fun parts w cs hf=> ?_⟩
 simp only [Instr.build,Sem.run_bind,run_zero hz,Result.andThen_ok,run_underlying hu,te.size_run w]
 rw [hf]
 simp
section
variable {P:Program} {c:Base} {d ty:Nat} {pos:String} {af:Array Edge} {gd:Option (Nat×Bool)}
end
end An
namespace An.S
open Go Go.Proofs An
instance ti74:TyI Tryz.prog 74 1 false:=⟨by kernel_rfl,by kernel_rfl⟩
instance fi57:FnI Tryz.prog 57:=⟨_,Tryz.func57,by kernel_rfl,rfl⟩
instance fi58:FnI Tryz.prog 58:=⟨_,Tryz.func58,by kernel_rfl,rfl⟩
instance fi67:FnI Tryz.prog 67:=⟨_,Tryz.func67,by kernel_rfl,rfl⟩
instance fi85:FnI Tryz.prog 85:=⟨_,Tryz.func85,by kernel_rfl,rfl⟩
instance fi139:FnI Tryz.prog 139:=⟨_,Tryz.func139,by kernel_rfl,rfl⟩
theorem zr74:(Tryz.prog.info? 74).bind (·.zero)=some (.slice none 0 0)∧ ∀F w,(tE (.slice none 0 0)).p F w (.slice none 0 0):=⟨by kernel_rfl,fun _ _=>rfl⟩
theorem not_none {o:Option Va} (h:(!o.isNone)=true): ∃v,o=some v:=by
 cases o with
 | none=>cases h
 | some v=>exact ⟨v,rfl⟩
theorem c_At1 (l:List Tst) (d:Int) (i:Nat) (hi:i < l.length):
  CtG Tryz.prog 58 [(2,⟨37,1,false,[.val (tL 8 true tTs l)]⟩),(3,⟨3,1,false,[.val (tI d)]⟩)] [.val (tI i),.own (.ptr 2 0),.own (.ptr 3 0)] (.val (tB (decide (d < (l.getD i tst0).hi)))) [(2,⟨37,1,false,[.val (tL 8 true tTs l)]⟩),(3,⟨3,1,false,[.val (tI d)]⟩)] []:=by
 refine CtG.intro [2,3] Tryz.func58 rfl Tryz.ntmps58 rfl rfl ⟨⟨rfl,(SupX.lit rfl)⟩,⟨rfl,(SupX.lit rfl)⟩,trivial⟩ ?_
 intro w F η
 refine A9 ?_
 refine R2 (x5 sl37 (i) (by omega) (gD (l:=l) (n:=i) (d:=tst0) (by omega))) rfl rfl (R1 (xd0 fo77_1.h (At.f 1 rfl rfl) rfl) rfl ?_)
 refine A7 ?_
 exact xb7 LentC.mk' rfl rfl Imp.refl ⟨rfl,rfl,trivial⟩ rfl ⟨⟨rfl,(SupX.lit rfl)⟩,⟨rfl,(SupX.lit rfl)⟩,trivial⟩ rfl
theorem c_SearchT (l:List Tst) (d:Int) (hv:tRight l=true) (hl:l.length≤1000000):
  CtG Tryz.prog 57 [(2,⟨37,1,false,[.val (tL 8 true tTs l)]⟩),(3,⟨3,1,false,[.val (tI d)]⟩)] [.val (tI l.length),.own (.fn 58 [.ptr 2 0,.ptr 3 0])] (.val (tI (fndT l d))) [(2,⟨37,1,false,[.val (tL 8 true tTs l)]⟩),(3,⟨3,1,false,[.val (tI d)]⟩)] []:=by
 refine CtG.intro [2,3] Tryz.func57 rfl Tryz.ntmps57 rfl rfl ⟨⟨rfl,(SupX.lit rfl)⟩,⟨rfl,(SupX.lit rfl)⟩,trivial⟩ ?_
 intro w F η
 refine A14 ?_
 refine cL (fun (fm:(Nat)×(Nat))=>(fun (p:Nat) (q:Nat)=>p≤q∧q≤l.length∧(∀i,i < p→(l.getD i tst0).hi≤d)∧ ∀i,q≤i→i < l.length→d < (l.getD i tst0).hi) fm.1 fm.2) (fun (fm:(Nat)×(Nat))=>(fun (p:Nat) (q:Nat)=>upd (upd (upd (fun _=>none) 1 (some (.own (.fn 58 [.ptr 2 0,.ptr 3 0])))) 5 (some (.val (tI p)))) 6 (some (.val (tI q)))) fm.1 fm.2) (fun (fm:(Nat)×(Nat))=>(fun (p:Nat) (q:Nat)=>upd (upd (fun _=>none) 2 (some (⟨37,1,false,[.val (tL 8 true tTs l)]⟩))) 3 (some (⟨3,1,false,[.val (tI d)]⟩))) fm.1 fm.2) [2,3] (fun (fm:(Nat)×(Nat))=>(fun (p:Nat) (q:Nat)=>q - p) fm.1 fm.2) ((0,l.length)) (by dsimp only;exact ⟨Nat.zero_le _,Nat.le_refl _,fun i hi=>by omega,fun i hi hi2=>by omega⟩) (hh:=((SubK.consI rfl ImpK.refl) ((SubK.consI rfl ImpK.refl) SubK.nil))) ?_
 intro fm hI
 obtain ⟨p,q⟩:=fm
 replace hI:p≤q∧q≤l.length∧(∀i,i < p→(l.getD i tst0).hi≤d)∧ ∀i,q≤i→i < l.length→d < (l.getD i tst0).hi:=hI
 show wc _ _ _ _ (upd (upd (upd (fun _=>none) 1 (some (.own (.fn 58 [.ptr 2 0,.ptr 3 0])))) 5 (some (.val (tI p)))) 6 (some (.val (tI q)))) (upd (upd (fun _=>none) 2 (some (⟨37,1,false,[.val (tL 8 true tTs l)]⟩))) 3 (some (⟨3,1,false,[.val (tI d)]⟩))) _
 obtain ⟨hp,hq,h1,h2⟩:=hI
 refine A8 ?_
 refine x9 rfl (fun h62=> ?_) (fun h62=> ?_)
 ·
  refine A8 ?_
  refine R1 (x7 Tryz.underlying139 (isS Tryz.underlying3) (by first | exact wu64 (by omega) (by omega) | exact mu64)) rfl (R2 (xf9 (r:=((((p+q) / 2):Nat):Int)) (by decide) ((shrN (s:=1) rfl (by decide)).trans (by simp))) rfl rfl (R1 (x7 Tryz.underlying3 (isS Tryz.underlying139) (wr64 (by omega) (by omega))) rfl ?_))
  refine A7 ?_
  refine RE (xg7 (ps:=[.val (tI _)]) (caps:=[.ptr 2 0,.ptr 3 0]) (fun j=>cond (Nat.beq j 2) 2 (3)) (c_At1 l d ((p+q) / 2) (by omega)) fi58 rfl (krC (ρ:=fun j=>cond (Nat.beq j 2) 2 (3)) (k:=2) rfl (krC (ρ:=fun j=>cond (Nat.beq j 2) 2 (3)) (k:=3) rfl (krN (ρ:=fun j=>cond (Nat.beq j 2) 2 (3))))) (krC (ρ:=fun j=>cond (Nat.beq j 2) 2 (3)) (k:=2) rfl (krC (ρ:=fun j=>cond (Nat.beq j 2) 2 (3)) (k:=3) rfl (krN (ρ:=fun j=>cond (Nat.beq j 2) 2 (3))))) ⟨⟨rfl,(SupX.lit rfl)⟩,⟨rfl,(SupX.lit rfl)⟩,trivial⟩ rfl) ⟨rfl,rfl,trivial⟩ ⟨rfl,rfl,trivial⟩ trivial ?_
  refine A3 ?_
  refine C_ifn rfl (fun h65=> ?_) (fun h65=> ?_)
  ·
   refine A6 ?_
   exact kF ((((p+q) / 2)+1,q)) ⟨(by dsimp only;exact ⟨by omega,hq,fun i hi=>by have:=hiT_mono hv (show i≤((p+q) / 2) by omega) (by omega);omega,h2⟩),(by dsimp only;omega)⟩ (hh:=((SubK.consI rfl ImpK.refl) ((SubK.consI rfl ImpK.refl) SubK.nil)))
  ·
   refine A5 ?_
   exact kF ((p,((p+q) / 2))) ⟨(by dsimp only;exact ⟨by omega,by omega,h1,fun i hi hi2=>by have:=hiT_mono hv hi hi2;omega⟩),(by dsimp only;omega)⟩ (hh:=((SubK.consI rfl ImpK.refl) ((SubK.consI rfl ImpK.refl) SubK.nil)))
 ·
  refine A12 ?_
  exact xb7 LentC.mk' rfl rfl (Imp.int (congrArg Int.ofNat (fndT_is (by omega) h1 (fun hp2=>h2 p (by omega) hp2)))) ⟨rfl,rfl,trivial⟩ rfl ⟨⟨rfl,(SupX.lit rfl)⟩,⟨rfl,(SupX.lit rfl)⟩,trivial⟩ rfl
theorem c_At (l:List Tst) (d:Int) (hl:l.length≤1000000) (hD: ∀s∈l,s.v.f.dig):
  Ct Tryz.prog 28 [tL 8 true tTs l,tI d] (tT [tVa ((atR l d).getD An.va0),tB (atR l d).isSome]):=by
 have hfl:=fndT_le (l:=l) (d:=d)
 refine Ct.intro Tryz.func28 rfl Tryz.ntmps28 rfl ?_
 intro w F
 refine A4 ?_
 refine RE (x6 (k:=4) (n:=6) (agg:=true) zr57.1 zr57.2 rfl) trivial trivial ⟨rfl,trivial⟩ ?_
 refine A7 ?_
 refine R1 (x3 (c_TRight l hD) fi37 rfl) rfl ?_
 refine A3 ?_
 refine xc1 rfl (fun h83=> ?_) (fun h83=> ?_)
 ·
  have hk: ¬tRight l=true:=by simpa using h83
  have hr:atR l d=none:=by rw [atR,if_neg hk]
  refine A2 ?_
  refine R0 (xa6 (r:=tS [⟨1,false,(tE (.int .u8 0))⟩,⟨4,true,(tS [⟨2,true,(tS [⟨1,false,(tE (.bool false))⟩,⟨1,false,(tLm [])⟩])⟩,⟨2,true,(tS [⟨1,false,(tE (.bool false))⟩,⟨1,false,(tLm [])⟩])⟩])⟩,⟨1,false,(tE (.int .i64 0))⟩]) (ts:=[]) bu57 zr57.2 Le.refl) ?_
  refine A6 ?_
  exact xc8 Plain.mk' (rs:=[.cell 4 57,.tmp 5]) rfl rfl ⟨⟨_,_,_,_,_,rfl,rfl,ti57,(Le.of (by rw [hr];rfl))⟩,⟨_,rfl,(Le.bool (by rw [hr];rfl))⟩,trivial⟩
 ·
  have hok:tRight l=true:=by simpa using h83
  refine A6 ?_
  refine R2 (xf3 (ps:=[.ptr 2 0,.ptr 3 0]) rfl) rfl rfl (RE (xb1 (fun j=>cond (Nat.beq j 2) 2 (3)) (c_SearchT l d hok hl) fi57 rfl (krC (ρ:=fun j=>cond (Nat.beq j 2) 2 (3)) (k:=2) rfl (krC (ρ:=fun j=>cond (Nat.beq j 2) 2 (3)) (k:=3) rfl (krN (ρ:=fun j=>cond (Nat.beq j 2) 2 (3))))) (krC (ρ:=fun j=>cond (Nat.beq j 2) 2 (3)) (k:=2) rfl (krC (ρ:=fun j=>cond (Nat.beq j 2) 2 (3)) (k:=3) rfl (krN (ρ:=fun j=>cond (Nat.beq j 2) 2 (3))))) ⟨⟨rfl,(SupX.lit rfl)⟩,⟨rfl,(SupX.lit rfl)⟩,trivial⟩ rfl) ⟨rfl,rfl,trivial⟩ ⟨rfl,rfl,trivial⟩ trivial ?_)
  refine A11 ?_
  refine RGcaseD (t:=19) rfl (fun h87=> ?_) (fun h87=> ?_)
  ·
   refine A13 ?_
   refine R0 (xa6 (r:=tS [⟨1,false,(tE (.int .u8 0))⟩,⟨4,true,(tS [⟨2,true,(tS [⟨1,false,(tE (.bool false))⟩,⟨1,false,(tLm [])⟩])⟩,⟨2,true,(tS [⟨1,false,(tE (.bool false))⟩,⟨1,false,(tLm [])⟩])⟩])⟩,⟨1,false,(tE (.int .i64 0))⟩]) (ts:=[]) bu57 zr57.2 Le.refl) ?_
   refine A6 ?_
   exact xc8 Plain.mk' (rs:=[.cell 4 57,.tmp 5]) rfl rfl ⟨⟨_,_,_,_,_,rfl,rfl,ti57,(Le.of (by rw [atR,if_pos hok,atT_is hok,if_neg (by omega)];rfl))⟩,⟨_,rfl,(Le.bool (by rw [atR,if_pos hok,atT_is hok,if_neg (by omega)];rfl))⟩,trivial⟩
  ·
   refine A2 ?_
   refine RGon (decide_eq_false h87) rfl (x5 sl37 (fndT l d) (by omega) (gD (l:=l) (n:=fndT l d) (d:=tst0) (by omega))) rfl ⟨rfl,rfl,trivial⟩ trivial trivial (RGon (decide_eq_false h87) rfl (xd0 fo77_0.h (At.f 0 rfl rfl) rfl) rfl ⟨rfl,trivial⟩ trivial trivial ?_)
   refine A6 ?_
   refine x9 rfl (fun h87_2=> ?_) (fun h87_2=> ?_)
   ·
    refine A2 ?_
    refine R0 (xa6 (r:=tS [⟨1,false,(tE (.int .u8 0))⟩,⟨4,true,(tS [⟨2,true,(tS [⟨1,false,(tE (.bool false))⟩,⟨1,false,(tLm [])⟩])⟩,⟨2,true,(tS [⟨1,false,(tE (.bool false))⟩,⟨1,false,(tLm [])⟩])⟩])⟩,⟨1,false,(tE (.int .i64 0))⟩]) (ts:=[]) bu57 zr57.2 Le.refl) ?_
    refine A6 ?_
    exact xc8 Plain.mk' (rs:=[.cell 4 57,.tmp 5]) rfl rfl ⟨⟨_,_,_,_,_,rfl,rfl,ti57,(Le.of (by rw [atR,if_pos hok,atT_is hok,if_neg (by omega)];rfl))⟩,⟨_,rfl,(Le.bool (by rw [atR,if_pos hok,atT_is hok,if_neg (by omega)];rfl))⟩,trivial⟩
   ·
    refine A6 ?_
    have hlen:=va_len (tRight_valid hok _ (xd7 (l:=l) (i:=fndT l d) (by omega)))
    refine R2 (x5 sl37 (fndT l d) (by omega) (gD (l:=l) (n:=fndT l d) (d:=tst0) (by omega))) rfl rfl (R1 (xd0 fo77_2.h (At.f 2 rfl rfl) rfl) rfl ?_)
    refine A1 ?_
    refine R1 (x3 (c_copied (l.getD (fndT l d) tst0).v (by omega) (by omega)) fi59 rfl) rfl ?_
    refine A5 ?_
    exact xc8 Plain.mk' (rs:=[.cell 4 57,.tmp 5]) rfl rfl ⟨⟨_,_,_,_,_,rfl,rfl,ti57,(Le.of (by rw [atR,if_pos hok,atT_is hok,if_pos (by omega)];rfl))⟩,⟨_,rfl,(Le.bool (by rw [atR,if_pos hok,atT_is hok,if_pos (by omega)];rfl))⟩,trivial⟩
theorem c_Covers (l:List Tst) (hl:l.length≤200000) (hD: ∀s∈l,s.v.f.dig):
  Ct Tryz.prog 33 [tL 8 true tTs l] (tL 2 true tSn (if tRight l=true then cvT l else [])):=by
 refine Ct.intro Tryz.func33 rfl Tryz.ntmps33 rfl ?_
 intro w F
 refine A9 ?_
 refine R1 (x3 (c_TRight l hD) fi37 rfl) rfl ?_
 refine A3 ?_
 refine xc1 rfl (fun h202=> ?_) (fun h202=> ?_)
 ·
  refine A7 ?_
  exact x4 Plain.mk' rfl rfl (leNil (by rw [if_neg (by simpa using h202)]))
 ·
  refine A6 ?_
  refine RE (xi1 (k:=13) (t:=tSn sn0) (ts:=rV tSn (List.replicate l.length sn0)) l.length l.length Tryz.underlying74 el106 (fun F w=>tSn_mk) rfl (by omega) (by omega) (Nat.le_refl _) (by omega) (by omega) (rV_rep _ _ rfl)) ⟨rfl,rfl,trivial⟩ trivial ⟨rfl,trivial⟩ ?_
  refine A12 ?_
  have hok:tRight l=true:=by simpa using h202
  refine cL (fun (i:Nat)=>i≤l.length) (fun (i:Nat)=>upd (upd (upd (upd (fun _=>none) 3 (some (.own (.sl 13 2 0 l.length)))) 14 (some (.val (tL 8 true tTs l)))) 15 (some (.val (tI l.length)))) 16 (some (.val (tI i)))) (fun (i:Nat)=>upd (fun _=>none) 13 (some (⟨106,2,true,rV tSn (cvL l i)⟩))) [13] (fun (i:Nat)=>l.length - i) (0) (Nat.zero_le _) (hh:=((SubK.consI rfl (ImpK.of (by simp [cvL]))) SubK.nil)) ?_
  intro i hI
  have hcl:=cvL_len (l:=l) (i:=i) hI
  refine A6 ?_
  refine x9 rfl (fun h206=> ?_) (fun h206=> ?_)
  ·
   refine A7 ?_
   refine R2 (x5 sl37 (i) (by omega) (gD (l:=l) (n:=i) (d:=tst0) (by omega))) rfl rfl ?_
   refine A1 ?_
   refine RE (x6 (k:=5) (n:=8) (agg:=true) zr77.1 zr77.2 rfl) trivial trivial ⟨rfl,trivial⟩ ?_
   refine A11 ?_
   refine R2 (xa6 (r:=tS [⟨1,false,tI (l.getD i tst0).lo⟩,⟨1,false,tI (l.getD i tst0).hi⟩]) (ts:=[(0,tI (l.getD i tst0).lo),(1,tI (l.getD i tst0).hi)]) bu106 zr106.2 (Bc 0 rfl rfl rfl (Bc 1 rfl rfl rfl Le.refl))) rfl rfl (R2 (xa1 sl74 (by omega) (by omega) rfl) rfl rfl (RE (xb4 (i) ti106 (rV_lt (by omega)) (by omega) (xh3 (m:=(spT (l.getD i tst0))) rfl)) ⟨rfl,rfl,trivial⟩ ⟨rfl,trivial⟩ trivial ?_))
   refine A7 ?_
   exact kF (i+1) ⟨(by omega),(by omega)⟩ (hh:=((SubK.consI rfl (ImpK.of (by rw [cvL_set (by omega)]))) SubK.nil))
  ·
   refine A6 ?_
   have hil:i=l.length:=by omega
   subst hil
   refine C_key (k:=13) (e':=⟨106,2,true,rV tSn (cvS l)⟩) rfl (by rw [cvL_all]) ?_
   refine A1 ?_
   refine RE (xn3 (f:=tSn) (xs:=cvS l) (fun _ h=>h) (xf7 (by simp [cvS])) (by simp [cvS])) ⟨rfl,trivial⟩ ⟨rfl,trivial⟩ trivial (R1 (x3 (c_SnMake (cvS l) (by simp [cvS];omega)) fi67 rfl) rfl ?_)
   refine A14 ?_
   exact x4 Plain.mk' rfl rfl (Le.of (by rw [if_pos hok,if_pos (ascS_ok (cvS_asc hok))];rfl))
theorem dfK_eq {a b:List Tst} {k:Nat} (h:valT a ((bds [a,b]).getD k 0)=valT b ((bds [a,b]).getD k 0)):dfK a b (k+1)=dfK a b k:=by
 rw [dfK_next,dfI,if_neg (by rw [dfB,h];simp),List.append_nil]
theorem dfK_ne {a b:List Tst} {k:Nat} (h:valT a ((bds [a,b]).getD k 0)≠valT b ((bds [a,b]).getD k 0)):dfK a b (k+1)=dfK a b k++[⟨(bds [a,b]).getD k 0,(bds [a,b]).getD (k+1) 0⟩]:=by
 rw [dfK_next,dfI,if_pos (by rw [dfB];simpa using h)]
theorem some_of {o:Option Va} (h:o.isNone=false): ∃v,o=some v:=not_none (by rw [h];rfl)
theorem c_TDiff (a b:List Tst) (hla:a.length≤200000) (hlb:b.length≤200000) (hDa: ∀s∈a,s.v.f.dig) (hDb: ∀s∈b,s.v.f.dig):
  Ct Tryz.prog 51 [tL 8 true tTs a,tL 8 true tTs b] (tT [tL 2 true tSn (if tRight a=true∧tRight b=true then dfS a b else []),tI (if tRight a=true∧tRight b=true then 0 else 2)]):=by
 refine Ct.intro Tryz.func51 rfl Tryz.ntmps51 rfl ?_
 intro w F
 refine A10 ?_
 refine R1 (x3 (c_TRight a hDa) fi37 rfl) rfl ?_
 refine A2 ?_
 refine RGcase (t:=12) rfl (fun h223=> ?_) (fun h223=> ?_)
 ·
  refine A15 ?_
  exact xe5 Plain.mk' rfl rfl rfl (leNil (by rw [if_neg fun h=>by rw [h.1] at h223;cases h223])) (Le.int (by rw [if_neg fun h=>by rw [h.1] at h223;cases h223]))
 ·
  refine A1 ?_
  refine RGon h223 rfl (x3 (c_TRight b hDb) fi37 rfl) rfl ⟨rfl,trivial⟩ trivial trivial ?_
  refine A4 ?_
  refine xc1 rfl (fun h223_2=> ?_) (fun h223_2=> ?_)
  ·
   refine A8 ?_
   exact xe5 Plain.mk' rfl rfl rfl (leNil (by rw [if_neg fun h=>by rw [h.2] at h223_2;cases h223_2])) (Le.int (by rw [if_neg fun h=>by rw [h.2] at h223_2;cases h223_2]))
  ·
   refine A4 ?_
   refine RE (x6 (k:=6) (n:=1) (agg:=false) zr74.1 zr74.2 rfl) trivial trivial ⟨rfl,trivial⟩ ?_
   refine A4 ?_
   have hok:tRight a=true∧tRight b=true:=⟨by simpa using h223,by simpa using h223_2⟩
   refine C_nilC (q:=6) 60 106 2 true 0 rfl rfl rfl rfl (fun h=>by cases h) rfl rfl ?_
   refine A3 ?_
   refine RE (xb1 (fun j=>cond (Nat.beq j 2) 19 (1019)) (c_together a b) fi85 rfl (krN (ρ:=fun j=>cond (Nat.beq j 2) 19 (1019))) (krC (ρ:=fun j=>cond (Nat.beq j 2) 19 (1019)) (k:=2) rfl (krC (ρ:=fun j=>cond (Nat.beq j 2) 19 (1019)) (k:=3) rfl (krN (ρ:=fun j=>cond (Nat.beq j 2) 19 (1019))))) ⟨⟨rfl,(SupX.lit rfl)⟩,⟨rfl,(SupX.lit rfl)⟩,trivial⟩ rfl) ⟨rfl,rfl,trivial⟩ trivial ⟨rfl,rfl,trivial⟩ ?_
   refine A3 ?_
   refine C_range (caps:=[.ptr 1 0,.ptr 2 0]) (κ:=Empty) (fun j=>cond (Nat.beq j 2) 1019 (cond (Nat.beq j 1) 19 (j))) rfl (fun _ h=>h) trivial (i_together a b (xt2 hok.1) (xt2 hok.2) hla hlb) fi139 rfl ⟨rfl,rfl,trivial⟩ rfl rfl (fun _ _=>rfl) (upd (fun _=>none) 6 (some (.own (.ptr 6 0)))) [6,60] [6] (Sub.cons rfl Sub.nil) (SupG.own rfl SupG.nil) rfl (lkOk rfl) (fun (k:Nat) (xs:List Sn)=>xs=dfK a b k∧xs.length≤k) (fun (k:Nat) (xs:List Sn)=>upd (upd (fun _=>none) 6 (some (⟨74,1,false,[.own (.sl 60 2 0 xs.length)]⟩))) 60 (some (⟨106,2,true,rV tSn xs⟩))) (fun k x=>(SupH.cons rfl (supJ xa2) (SupH.cons rfl (supJL rfl) SupH.nil))) (fun k x y hy=>by simp only [List.mem_cons,List.not_mem_nil,or_false] at hy;rcases hy with rfl | rfl <;> rfl) (fun _ _=>False) (fun i=>i.elim) (fun _ _ h=>h.elim) ([]) ⟨rfl,Nat.le_refl _⟩ ((SubK.consI rfl ImpK.refl) ((SubK.consI rfl ImpK.refl) SubK.nil)) ?_ ?_ ?_
   ·
    intro D lp o1 o2 O W lη lb V0 k xs hk hI
    obtain ⟨hx,hxl⟩:=hI
    have hdl:=bds_len (ls:=[a,b])
    have htl:tlen [a,b]≤400000:=by simp [tlen];omega
    apply rnd_mk
    ·
     refine A2 ?_
     refine RE (x6 (k:=7) (n:=2) (agg:=true) zr106.1 zr106.2 rfl) trivial trivial ⟨rfl,trivial⟩ ?_
     refine A4 ?_
     refine RE (x6 (k:=8) (n:=2) (agg:=true) zr145.1 zr145.2 rfl) trivial trivial ⟨rfl,trivial⟩ ?_
     refine A2 ?_
     exact K_thenF fun _ _ h=>h
    ·
     refine A6 ?_
     refine R1 (d_eqlNil Tryz.underlying143) rfl ?_
     refine A1 ?_
     refine RGcase (t:=25) rfl (fun h228=> ?_) (fun h228=> ?_)
     ·
      refine A2 ?_
      refine RGon h228 rfl (d_eqlNil Tryz.underlying143) rfl ⟨rfl,trivial⟩ trivial trivial ?_
      refine A2 ?_
      refine RGcase (t:=30) rfl (fun h228_2=> ?_) (fun h228_2=> ?_)
      ·
       refine A18 ?_
       refine A8 ?_
       exact K_rnd (xs) ⟨by rw [dfK_eq (by rw [Option.isNone_iff_eq_none.1 h228,Option.isNone_iff_eq_none.1 h228_2])];exact hx,by omega⟩ ((SubK.consI rfl ImpK.refl) ((SubK.consI rfl ImpK.refl) SubK.nil)) (SupH.cons rfl (supJ xa2) (SupH.cons rfl (supJL rfl) SupH.nil)) (lkOk rfl)
      ·
       refine A2 ?_
       refine RGon h228_2 rfl (d_neqNil Tryz.underlying143) rfl ⟨rfl,trivial⟩ trivial trivial ?_
       refine A1 ?_
       refine RGoff (by exact congrArg Bool.not h228) rfl rfl (RGoff (by exact congrArg Bool.not h228) rfl rfl (RGoff (by exact congrArg Bool.not h228) rfl rfl (RGon h228_2 rfl (xc4 (by exact congrArg Bool.not h228)) rfl ⟨rfl,rfl,trivial⟩ trivial trivial ?_)))
       refine A10 ?_
       refine RGon h228_2 rfl (xc4 rfl) rfl ⟨rfl,rfl,trivial⟩ trivial trivial ?_
       refine A7 ?_
       refine RE (xb2 (ts:=[.own (.sl 60 2 0 xs.length)]) (0) ti74 rfl rfl) ⟨rfl,trivial⟩ ⟨rfl,trivial⟩ trivial ?_
       refine A1 ?_
       refine R1 (xa8 (n:=1) (f:=tSn) [(⟨((bds [a,b]).getD k 0),((bds [a,b]).getD (k+1) 0)⟩:Sn)] Tryz.underlying74 el106 zf106 rfl (fun _=>inferInstance) rfl rfl rfl) rfl (RE (xc5 (k:=60) (k':=54) (f:=tSn) (ys:=[(⟨((bds [a,b]).getD k 0),((bds [a,b]).getD (k+1) 0)⟩:Sn)]) (ts':=rV tSn (xs++[(⟨((bds [a,b]).getD k 0),((bds [a,b]).getD (k+1) 0)⟩:Sn)])) Tryz.underlying74 el106 zf106 rfl rfl (fun _=>inferInstance) xd9 (by simp;omega) (by simp;omega) (by simp [rV]) (n':=xs.length+1) rfl) ⟨rfl,rfl,trivial⟩ ⟨rfl,trivial⟩ ⟨rfl,trivial⟩ (RE (xb4 (es:=1) (agg:=false) (e:= .own (.sl 54 2 0 (xs.length+1))) (0) ti74 rfl rfl rfl) ⟨rfl,rfl,trivial⟩ ⟨rfl,trivial⟩ trivial ?_))
       refine A2 ?_
       exact K_ren (g':=fun _=>none) [6,60] (fun j=>cond (Nat.beq j 60) 54 (j)) SubR.nil ((SubKR.consI rfl (ImpK.of xa3.symm)) ((SubKR.consI rfl (ImpK.of (by rw [List.length_append];rfl))) SubKR.nil)) SupG.nil (SupH.cons rfl (supJ xa2) (SupH.cons rfl (supJL rfl) SupH.nil)) (lkOk rfl) rfl rfl (fun _ h=>by cases h) (K_rnd ((xs++[(⟨((bds [a,b]).getD k 0),((bds [a,b]).getD (k+1) 0)⟩:Sn)])) ⟨by rw [dfK_ne (fun e=>by rw [e,h228_2] at h228;cases h228),←hx],by rw [List.length_append];simp;omega⟩ SubK.refl (SupH.cons rfl (supJ xa2) (SupH.cons rfl (supJL rfl) SupH.nil)) (lkOk rfl))
     ·
      refine A7 ?_
      refine RGon rfl rfl (d_neqNil Tryz.underlying143) rfl ⟨rfl,trivial⟩ trivial trivial ?_
      refine A1 ?_
      refine RGon (by exact congrArg Bool.not h228) rfl (xh8 fo145_1.h rfl) rfl ⟨rfl,trivial⟩ trivial trivial (xc9 (by exact congrArg Bool.not h228) rfl rfl (0) ti143 rfl rfl rfl (At.g 1 rfl rfl) rfl (RGon (by exact congrArg Bool.not h228) rfl (d_neqNil Tryz.underlying143) rfl ⟨rfl,trivial⟩ trivial trivial (RGon rfl rfl (xe9 (by exact congrArg Bool.not h228)) rfl ⟨rfl,rfl,trivial⟩ trivial trivial ?_)))
      refine A1 ?_
      refine RGcase (t:=39) rfl (fun h228_3=> ?_) (fun h228_3=> ?_)
      ·
       obtain ⟨u,hu⟩:=some_of h228
       obtain ⟨v,hv⟩:=not_none h228_3
       refine A2 ?_
       refine RGon h228_3 rfl (d_checkO hu) rfl ⟨rfl,trivial⟩ trivial trivial ?_
       refine A3 ?_
       refine RGon h228_3 rfl (d_checkO hv) rfl ⟨rfl,trivial⟩ trivial trivial ?_
       refine A1 ?_
       refine RGon h228_3 rfl (x3 (c_TSame _ _) fi74 rfl) rfl ⟨rfl,rfl,trivial⟩ trivial trivial (RGon rfl rfl (xe9 h228_3) rfl ⟨rfl,rfl,trivial⟩ trivial trivial ?_)
       refine A3 ?_
       refine x9 rfl (fun h228_4=> ?_) (fun h228_4=> ?_)
       ·
        refine A3 ?_
        exact K_rnd (xs) ⟨by rw [dfK_eq (by rw [hu,hv,h228_4])];exact hx,by omega⟩ ((SubK.consI rfl ImpK.refl) ((SubK.consI rfl ImpK.refl) SubK.nil)) (SupH.cons rfl (supJ xa2) (SupH.cons rfl (supJL rfl) SupH.nil)) (lkOk rfl)
       ·
        refine A3 ?_
        refine RE (xb2 (ts:=[.own (.sl 60 2 0 xs.length)]) (0) ti74 rfl rfl) ⟨rfl,trivial⟩ ⟨rfl,trivial⟩ trivial ?_
        refine A1 ?_
        refine R1 (xa8 (n:=1) (f:=tSn) [(⟨((bds [a,b]).getD k 0),((bds [a,b]).getD (k+1) 0)⟩:Sn)] Tryz.underlying74 el106 zf106 rfl (fun _=>inferInstance) rfl rfl rfl) rfl (RE (xc5 (k:=60) (k':=54) (f:=tSn) (ys:=[(⟨((bds [a,b]).getD k 0),((bds [a,b]).getD (k+1) 0)⟩:Sn)]) (ts':=rV tSn (xs++[(⟨((bds [a,b]).getD k 0),((bds [a,b]).getD (k+1) 0)⟩:Sn)])) Tryz.underlying74 el106 zf106 rfl rfl (fun _=>inferInstance) xd9 (by simp;omega) (by simp;omega) (by simp [rV]) (n':=xs.length+1) rfl) ⟨rfl,rfl,trivial⟩ ⟨rfl,trivial⟩ ⟨rfl,trivial⟩ (RE (xb4 (es:=1) (agg:=false) (e:= .own (.sl 54 2 0 (xs.length+1))) (0) ti74 rfl rfl rfl) ⟨rfl,rfl,trivial⟩ ⟨rfl,trivial⟩ trivial ?_))
        refine A2 ?_
        exact K_ren (g':=fun _=>none) [6,60] (fun j=>cond (Nat.beq j 60) 54 (j)) SubR.nil ((SubKR.consI rfl (ImpK.of xa3.symm)) ((SubKR.consI rfl (ImpK.of (by rw [List.length_append];rfl))) SubKR.nil)) SupG.nil (SupH.cons rfl (supJ xa2) (SupH.cons rfl (supJL rfl) SupH.nil)) (lkOk rfl) rfl rfl (fun _ h=>by cases h) (K_rnd ((xs++[(⟨((bds [a,b]).getD k 0),((bds [a,b]).getD (k+1) 0)⟩:Sn)])) ⟨by rw [dfK_ne (fun e=>by rw [hu,hv] at e;exact h228_4 (Option.some.inj e)),←hx],by rw [List.length_append];simp;omega⟩ SubK.refl (SupH.cons rfl (supJ xa2) (SupH.cons rfl (supJL rfl) SupH.nil)) (lkOk rfl))
      ·
       refine A9 ?_
       refine RGon rfl rfl (xc4 h228_3) rfl ⟨rfl,rfl,trivial⟩ trivial trivial ?_
       refine A7 ?_
       refine RE (xb2 (ts:=[.own (.sl 60 2 0 xs.length)]) (0) ti74 rfl rfl) ⟨rfl,trivial⟩ ⟨rfl,trivial⟩ trivial ?_
       refine A1 ?_
       refine R1 (xa8 (n:=1) (f:=tSn) [(⟨((bds [a,b]).getD k 0),((bds [a,b]).getD (k+1) 0)⟩:Sn)] Tryz.underlying74 el106 zf106 rfl (fun _=>inferInstance) rfl rfl rfl) rfl (RE (xc5 (k:=60) (k':=54) (f:=tSn) (ys:=[(⟨((bds [a,b]).getD k 0),((bds [a,b]).getD (k+1) 0)⟩:Sn)]) (ts':=rV tSn (xs++[(⟨((bds [a,b]).getD k 0),((bds [a,b]).getD (k+1) 0)⟩:Sn)])) Tryz.underlying74 el106 zf106 rfl rfl (fun _=>inferInstance) xd9 (by simp;omega) (by simp;omega) (by simp [rV]) (n':=xs.length+1) rfl) ⟨rfl,rfl,trivial⟩ ⟨rfl,trivial⟩ ⟨rfl,trivial⟩ (RE (xb4 (es:=1) (agg:=false) (e:= .own (.sl 54 2 0 (xs.length+1))) (0) ti74 rfl rfl rfl) ⟨rfl,rfl,trivial⟩ ⟨rfl,trivial⟩ trivial ?_))
       refine A2 ?_
       exact K_ren (g':=fun _=>none) [6,60] (fun j=>cond (Nat.beq j 60) 54 (j)) SubR.nil ((SubKR.consI rfl (ImpK.of xa3.symm)) ((SubKR.consI rfl (ImpK.of (by rw [List.length_append];rfl))) SubKR.nil)) SupG.nil (SupH.cons rfl (supJ xa2) (SupH.cons rfl (supJL rfl) SupH.nil)) (lkOk rfl) rfl rfl (fun _ h=>by cases h) (K_rnd ((xs++[(⟨((bds [a,b]).getD k 0),((bds [a,b]).getD (k+1) 0)⟩:Sn)])) ⟨by rw [dfK_ne (fun e=>by rw [←e,h228] at h228_3;cases h228_3),←hx],by rw [List.length_append];simp;omega⟩ SubK.refl (SupH.cons rfl (supJ xa2) (SupH.cons rfl (supJL rfl) SupH.nil)) (lkOk rfl))
   ·
    intro D hD xs hI
    obtain ⟨hx,hxl⟩:=hI
    have hdl:=bds_len (ls:=[a,b])
    have htl:tlen [a,b]≤400000:=by simp [tlen];omega
    have hx:xs=dfT a b:=hx
    have hall:=ascS_ok (dfT_asc hok.1 hok.2)
    refine A4 ?_
    refine RE (Does.giveL (k:=60) (es:=2) (off:=0) (len:=xs.length) (xs:=xs) (f:=tSn) (ts:=rV tSn xs) (xb2 (ts:=[.own (.sl 60 2 0 xs.length)]) (0) ti74 rfl rfl) (fun _ h=>h) (xf7 rfl) rfl) ⟨rfl,trivial⟩ ⟨rfl,rfl,trivial⟩ trivial (R1 (x3 (c_SnMake xs (by omega)) fi67 rfl) rfl ?_)
    refine A7 ?_
    exact xe5 (Plain.loop Plain.mk' hD) rfl rfl rfl (Le.of (by rw [if_pos hok,hx,if_pos hall];rfl)) (Le.int (by rw [if_pos hok,hx,if_pos hall]))
   ·
    intro D hD e i;exact i.elim
end An.S
namespace An
open Go
theorem off_mapV {α:Type} {es:Nat} {agg:Bool} {f:α→Ty}: ∀(l:List α) (i:Nat),i < l.length→Fd.off (l.map fun x=>⟨es,agg,f x⟩) i=i*es
 | [],i,h=>by simp at h
 | _::r,0,_=>by simp [Fd.off]
 | _::r,i+1,h=>by
  rw [List.map_cons,Fd.off,off_mapV r i (by simpa using h),Nat.succ_mul]
  exact Nat.add_comm _ _
theorem At.row {α:Type} {es:Nat} {agg:Bool} {f:α→Ty} {l:List α} {i:Nat} (d:α) (hi:i < l.length):At (tS (l.map fun x=>⟨es,agg,f x⟩)) (i*es) es agg (f (l.getD i d)):=
 At.f i (f:=⟨es,agg,f (l.getD i d)⟩) (by rw [List.getElem?_map,gD (d:=d) hi];rfl) (off_mapV l i hi)
section
variable {P:Program} {c:Base} {d ty:Nat} {pos:String} {af:Array Edge} {gd:Option (Nat×Bool)}
theorem run_part {E es:Nat} {agg:Bool} (t:TyI P E es agg) {cs:Array Value} {o:Nat} (ho:o+es≤cs.size) (h1:agg=false→es=1) (w:World):(part E cs o).run P w= .ok (pick agg es cs o) w:=by
 simp only [part,Sem.run_bind,t.agg_run w,Result.andThen_ok]
 cases agg with
 | true=>simp only [↓reduceIte,Sem.run_bind,t.size_run w,Result.andThen_ok,Sem.run_pure,pick,cond_true]
 | false=>
  have:=h1 rfl
  simp only [Bool.false_eq_true,↓reduceIte,pick,cond_false]
  rw [Array.getD_eq_getD_getElem?,Array.getElem?_eq_getElem (show o < cs.size by omega)]
  rfl
theorem d_indexV {T E es len:Nat} {agg:Bool} {k:IntKind} {x y:Operand} {t t':Ty} {v:Int} (hT:P.underlying T=some (.array len E)) (ti:TyI P E es agg) (i:Nat) (hv:v=(i:Int)) (hi:i < len) (hat:At t (i*es) es agg t'):
  Does P c ⟨some d,.index T x y,ty,pos,af,gd⟩ ⟨[(x,.val t),(y,.val (tE (.int k v)))],[],some (d,some (.val t')),[],[]⟩:=
 Does.value rfl fun g h al a w η hrd _ s=>by
  subst hv
  obtain ⟨cs,h1,h2,h3,h4⟩:=hat _ _ _ (xa0 s hrd.1).1
  have h5:a.eval y= .int k (i:Int):=(xa0 s hrd.2.1).1
  refine ⟨_,w,?_,Ext.refl w,h3,fun j hj=>by cases hj⟩
  simp only [execOp,h1,h5,Instr.index,asIntOf,Sem.run_bind,Sem.run_pure,run_underlying hT,Result.andThen_ok]
  rw [if_pos ⟨by omega,by omega⟩]
  simp only [Sem.run_bind,ti.size_run w,Result.andThen_ok]
  rw [Int.toNat_natCast,run_part ti h2 h4 w];rfl
end
end An
namespace An.S
open Go Go.Proofs An
instance fi47:FnI Tryz.prog 47:=⟨_,Tryz.func47,by kernel_rfl,rfl⟩
instance fi82:FnI Tryz.prog 82:=⟨_,Tryz.func82,by kernel_rfl,rfl⟩
theorem c_SameStep (x y:Tst):
  Ct Tryz.prog 47 [tTs x,tTs y] (tB (decide (x=y))):=by
 refine Ct.intro Tryz.func47 rfl Tryz.ntmps47 rfl ?_
 intro w F
 refine A15 ?_
 refine RGcaseD (t:=10) rfl (fun h196=> ?_) (fun h196=> ?_)
 ·
  refine A7 ?_
  refine RGcaseD (t:=17) rfl (fun h196_2=> ?_) (fun h196_2=> ?_)
  ·
   refine A4 ?_
   refine RGon (decide_eq_true h196_2) rfl (x3 (c_SameValue _ _) fi82 rfl) rfl ⟨rfl,rfl,trivial⟩ trivial trivial ?_
   refine A5 ?_
   exact x4 Plain.mk' rfl rfl (Le.bool (by obtain ⟨a,b,e⟩:=x;obtain ⟨c,d,f⟩:=y;simp only [Tst.mk.injEq] at*;simp_all <;> omega))
  ·
   refine A10 ?_
   exact x4 Plain.mk' rfl rfl (Le.bool (by obtain ⟨a,b,e⟩:=x;obtain ⟨c,d,f⟩:=y;simp only [Tst.mk.injEq] at*;simp_all <;> omega))
 ·
  refine A17 ?_
  exact x4 Plain.mk' rfl rfl (Le.bool (by obtain ⟨a,b,e⟩:=x;obtain ⟨c,d,f⟩:=y;simp only [Tst.mk.injEq] at*;simp_all <;> omega))
theorem xu4 (l:List Tst) (k:Nat) (hk:k < l.length):l.take (k+1)=l.take k++[l.getD k tst0]:=by
 rw [List.take_succ_eq_append_getElem hk,List.getD_eq_getElem?_getD,List.getElem?_eq_getElem hk];rfl
theorem xu3 (l:List Int) (k:Nat) (hk:k < l.length):l.take (k+1)=l.take k++[l.getD k 0]:=by
 rw [List.take_succ_eq_append_getElem hk,List.getD_eq_getElem?_getD,List.getElem?_eq_getElem hk];rfl
theorem c_SameSteps (xs ys:List Tst):
  Ct Tryz.prog 16 [tL 8 true tTs xs,tL 8 true tTs ys] (tB (decide (xs=ys))):=by
 refine Ct.intro Tryz.func16 rfl Tryz.ntmps16 rfl ?_
 intro w F
 refine xi0 (s:=0) rfl (fun hl0=> ?_)
 refine A15 ?_
 refine x9 rfl (fun h206=> ?_) (fun h206=> ?_)
 ·
  refine A7 ?_
  exact x4 Plain.mk' rfl rfl (Le.bool (decide_eq_false (fun h=>by rw [h] at h206;omega)).symm)
 ·
  have hll:xs.length=ys.length:=by omega
  refine A9 ?_
  refine cL (fun (i:Nat)=>i≤xs.length∧xs.take i=ys.take i) (fun (i:Nat)=>upd (upd (upd (fun _=>none) 0 (some (.val (tL 8 true tTs xs)))) 1 (some (.val (tL 8 true tTs ys)))) 5 (some (.val (tI i)))) (fun (i:Nat)=>fun _=>none) [] (fun (i:Nat)=>xs.length - i) (0) ⟨Nat.zero_le _,rfl⟩ ?_
  intro i hI
  obtain ⟨hi,ht⟩:=hI
  refine A9 ?_
  refine x9 rfl (fun h209=> ?_) (fun h209=> ?_)
  ·
   refine A8 ?_
   refine R2 (x5 sl37 i (by omega) (gD (d:=tst0) (by omega))) rfl rfl ?_
   refine A3 ?_
   refine R2 (x5 sl37 i (by omega) (gD (d:=tst0) (by omega))) rfl rfl ?_
   refine A1 ?_
   refine R2 (x3 (c_SameStep _ _) fi47 rfl) rfl rfl ?_
   refine A3 ?_
   refine C_ifn rfl (fun h210=> ?_) (fun h210=> ?_)
   ·
    refine A11 ?_
    exact x4 Plain.mk' rfl rfl (Le.bool (decide_eq_false (fun h=>by rw [h] at h210;exact (h210 rfl))).symm)
   ·
    refine A8 ?_
    exact kF (i+1) ⟨⟨by omega,by rw [xu4 xs i (by omega),xu4 ys i (by omega),ht,show xs.getD i tst0=ys.getD i tst0 from h210]⟩,(by omega)⟩
  ·
   refine A11 ?_
   exact x4 Plain.mk' rfl rfl (Le.bool (decide_eq_true (by rw [show i=xs.length by omega,List.take_length,hll,List.take_length] at ht;exact ht)).symm)
theorem c_SameInts (xs ys:List Int):
  Ct Tryz.prog 39 [tL 1 false tI xs,tL 1 false tI ys] (tB (decide (xs=ys))):=by
 refine Ct.intro Tryz.func39 rfl Tryz.ntmps39 rfl ?_
 intro w F
 refine xi0 (s:=0) rfl (fun hl0=> ?_)
 refine A15 ?_
 refine x9 rfl (fun h27=> ?_) (fun h27=> ?_)
 ·
  refine A7 ?_
  exact x4 Plain.mk' rfl rfl (Le.bool (decide_eq_false (fun h=>by rw [h] at h27;omega)).symm)
 ·
  have hll:xs.length=ys.length:=by omega
  refine A9 ?_
  refine cL (fun (i:Nat)=>i≤xs.length∧xs.take i=ys.take i) (fun (i:Nat)=>upd (upd (upd (fun _=>none) 0 (some (.val (tL 1 false tI xs)))) 1 (some (.val (tL 1 false tI ys)))) 5 (some (.val (tI i)))) (fun (i:Nat)=>fun _=>none) [] (fun (i:Nat)=>xs.length - i) (0) ⟨Nat.zero_le _,rfl⟩ ?_
  intro i hI
  obtain ⟨hi,ht⟩:=hI
  refine A9 ?_
  refine x9 rfl (fun h30=> ?_) (fun h30=> ?_)
  ·
   refine A8 ?_
   refine R2 (x5 sl42 i (by omega) (gD (d:=0) (by omega))) rfl rfl ?_
   refine A3 ?_
   refine R2 (x5 sl42 i (by omega) (gD (d:=0) (by omega))) rfl rfl ?_
   refine A4 ?_
   refine x9 rfl (fun h31=> ?_) (fun h31=> ?_)
   ·
    refine A11 ?_
    exact x4 Plain.mk' rfl rfl (Le.bool (decide_eq_false (fun h=>by rw [h] at h31;exact (h31 rfl))).symm)
   ·
    refine A8 ?_
    exact kF (i+1) ⟨⟨by omega,by rw [xu3 xs i (by omega),xu3 ys i (by omega),ht,show xs.getD i 0=ys.getD i 0 from (Decidable.of_not_not h31)]⟩,(by omega)⟩
  ·
   refine A11 ?_
   exact x4 Plain.mk' rfl rfl (Le.bool (decide_eq_true (by rw [show i=xs.length by omega,List.take_length,hll,List.take_length] at ht;exact ht)).symm)
end An.S
namespace An
section
variable {α:Type} {k:α→Int}
def Sbl (k:α→Int) (xs ys:List α):Prop:= ∀v,xs.filter (fun x=>decide (k x=v))=ys.filter (fun x=>decide (k x=v))
theorem Sbl.refl (xs:List α):Sbl k xs xs:=fun _=>rfl
theorem Sbl.symm {xs ys:List α} (h:Sbl k xs ys):Sbl k ys xs:=fun v=>(h v).symm
theorem Sbl.trans {xs ys zs:List α} (h:Sbl k xs ys) (g:Sbl k ys zs):Sbl k xs zs:=fun v=>(h v).trans (g v)
theorem Sbl.app {a b c d:List α} (h:Sbl k a b) (g:Sbl k c d):Sbl k (a++c) (b++d):=fun v=>by rw [List.filter_append,List.filter_append,h v,g v]
theorem Sbl.swap {u v:List α} (h: ∀a∈u,∀b∈v,k a≠k b):Sbl k (u++v) (v++u):=fun z=>by
 rw [List.filter_append,List.filter_append]
 by_cases hu:u.filter (fun x=>decide (k x=z))=[]
 ·rw [hu];simp
 ·have hv:v.filter (fun x=>decide (k x=z))=[]:=List.filter_eq_nil_iff.2 fun b hb hbz=>by
   obtain ⟨a,ha⟩:=List.exists_mem_of_ne_nil _ hu
   obtain ⟨h1,h2⟩:=List.mem_filter.1 ha
   exact h a h1 b hb ((of_decide_eq_true h2).trans (of_decide_eq_true hbz).symm)
  rw [hv];simp
theorem Sbl.mem {xs ys:List α} (h:Sbl k xs ys) {x:α}:x∈xs↔x∈ys:=by
 have h1:=h (k x)
 have e: ∀l:List α,x∈l↔x∈l.filter (fun y=>decide (k y=k x)):=fun l=>by simp
 rw [e xs,e ys,h1]
theorem Sbl.tail {x:α} {xs ys:List α} (h:Sbl k (x::xs) (x::ys)):Sbl k xs ys:=fun v=>by
 have:=h v
 rw [List.filter_cons,List.filter_cons] at this
 split at this
 ·exact (List.cons.inj this).2
 ·exact this
abbrev Srt (k:α→Int) (xs:List α):Prop:=xs.Pairwise fun a b=>k a≤k b
theorem sbl_eq: ∀{xs ys:List α},Srt k xs→Srt k ys→Sbl k xs ys→xs=ys
 | [],[],_,_,_=>rfl
 | [],y::s,_,_,h=>by have:=(h.mem (x:=y)).2 (List.mem_cons_self ..);cases this
 | x::r,[],_,_,h=>by have:=(h.mem (x:=x)).1 (List.mem_cons_self ..);cases this
 | x::r,y::s,h1,h2,h=>by
  have g1:=List.pairwise_cons.1 h1
  have g2:=List.pairwise_cons.1 h2
  have a1:k y≤k x:=by
   rcases List.mem_cons.1 ((h.mem (x:=x)).1 (List.mem_cons_self ..)) with e | e
   ·rw [e];exact Int.le_refl _
   ·exact g2.1 x e
  have a2:k x≤k y:=by
   rcases List.mem_cons.1 ((h.mem (x:=y)).2 (List.mem_cons_self ..)) with e | e
   ·rw [e];exact Int.le_refl _
   ·exact g1.1 y e
  have hv:=h (k x)
  rw [List.filter_cons,List.filter_cons,if_pos (by simp),if_pos (by simp;omega)] at hv
  have e:=(List.cons.inj hv).1
  subst e
  rw [sbl_eq g1.2 g2.2 h.tail]
def insS (k:α→Int) (x:α):List α→List α
 | []=>[x]
 | y::r=>if k x≤k y then x::y::r else y::insS k x r
def ssort (k:α→Int):List α→List α
 | []=>[]
 | x::r=>insS k x (ssort k r)
theorem insS_sbl {x:α}: ∀l:List α,Sbl k (x::l) (insS k x l)
 | []=>Sbl.refl _
 | y::r=>by
  rw [insS];split
  ·exact Sbl.refl _
  ·next h=>exact Sbl.trans (Sbl.swap (u:=[x]) (v:=[y]) (fun a ha b hb=>by rw [List.mem_singleton.1 ha,List.mem_singleton.1 hb];omega) |>.app (Sbl.refl r)) (Sbl.app (Sbl.refl [y]) (insS_sbl r))
theorem insS_srt {x:α}: ∀{l:List α},Srt k l→Srt k (insS k x l)
 | [],_=>List.pairwise_singleton ..
 | y::r,h=>by
  rw [insS];split
  ·next hx=>exact List.pairwise_cons.2 ⟨fun b hb=>by
    rcases List.mem_cons.1 hb with e | e
    ·rw [e];exact hx
    ·exact Int.le_trans hx ((List.pairwise_cons.1 h).1 b e),h⟩
  ·next hx=>exact List.pairwise_cons.2 ⟨fun b hb=>by
    rcases List.mem_cons.1 ((insS_sbl r).mem.2 hb) with e | e
    ·rw [e];omega
    ·exact (List.pairwise_cons.1 h).1 b e,insS_srt (List.pairwise_cons.1 h).2⟩
theorem ssort_sbl: ∀l:List α,Sbl k l (ssort k l)
 | []=>Sbl.refl _
 | x::r=>Sbl.trans (Sbl.app (Sbl.refl [x]) (ssort_sbl r)) (insS_sbl _)
theorem xs7: ∀l:List α,Srt k (ssort k l)
 | []=>List.Pairwise.nil
 | _::r=>insS_srt (xs7 r)
theorem ssort_uniq {xs ys:List α} (h1:Srt k ys) (h2:Sbl k xs ys):ys=ssort k xs:=sbl_eq h1 (xs7 xs) (h2.symm.trans (ssort_sbl xs))
theorem ssort_mem {xs:List α} {x:α}:x∈ssort k xs↔x∈xs:=(ssort_sbl xs).mem.symm
theorem insS_len {x:α}: ∀l:List α,(insS k x l).length=l.length+1
 | []=>rfl
 | y::r=>by rw [insS];split <;> simp [insS_len r]
theorem xs1: ∀l:List α,(ssort k l).length=l.length
 | []=>rfl
 | x::r=>by rw [ssort,insS_len,xs1 r];rfl
variable (d:α)
structure Prt (k:α→Int) (d:α) (a b:Nat) (xs ys:List α):Prop where
  len:ys.length=xs.length
  out: ∀i,i < a∨b≤i→ys.getD i d=xs.getD i d
  sb:Sbl k xs ys
variable {d}
theorem Prt.refl (a b:Nat) (xs:List α):Prt k d a b xs xs:=⟨rfl,fun _ _=>rfl,Sbl.refl _⟩
theorem Prt.trans {a b:Nat} {xs ys zs:List α} (h:Prt k d a b xs ys) (g:Prt k d a b ys zs):Prt k d a b xs zs:=⟨g.len.trans h.len,fun i hi=>(g.out i hi).trans (h.out i hi),h.sb.trans g.sb⟩
theorem Prt.mono {a b a' b':Nat} {xs ys:List α} (h:Prt k d a b xs ys) (h1:a'≤a) (h2:b≤b'):Prt k d a' b' xs ys:=⟨h.len,fun i hi=>h.out i (by omega),h.sb⟩
def SrtP (k:α→Int) (d:α) (a b:Nat) (xs:List α):Prop:= ∀i j,a≤i→i < j→j < b→k (xs.getD i d)≤k (xs.getD j d)
theorem xh2 {xs ys:List α} (hl:xs.length=ys.length) (h: ∀i,i < xs.length→xs.getD i d=ys.getD i d):xs=ys:=by
 apply List.ext_getElem hl
 intro i h1 h2
 have:=h i h1
 rwa [List.getD_eq_getElem?_getD,List.getD_eq_getElem?_getD,List.getElem?_eq_getElem h1,List.getElem?_eq_getElem h2] at this
theorem xs4 {xs:List α} {n i:Nat} (h:i < n):(xs.take n).getD i d=xs.getD i d:=by rw [List.getD_eq_getElem?_getD,List.getElem?_take,if_pos h,List.getD_eq_getElem?_getD]
theorem xs2 {xs:List α} {n i:Nat}:(xs.drop n).getD i d=xs.getD (n+i) d:=by rw [List.getD_eq_getElem?_getD,List.getElem?_drop,List.getD_eq_getElem?_getD]
def sgm (a b:Nat) (xs:List α):List α:=(xs.take b).drop a
theorem xf6 {a b:Nat} {xs:List α} (hb:b≤xs.length):(sgm a b xs).length=b - a:=by rw [sgm,List.length_drop,List.length_take];omega
theorem xp2 {a b i:Nat} {xs:List α} (h:a+i < b):(sgm a b xs).getD i d=xs.getD (a+i) d:=by rw [sgm,xs2,xs4 h]
theorem xp3 {a b:Nat} {xs:List α} (hab:a≤b):xs=xs.take a++(sgm a b xs++xs.drop b):=by
 have e1:xs.take a=(xs.take b).take a:=by rw [List.take_take,Nat.min_eq_left hab]
 rw [←List.append_assoc,sgm,e1,List.take_append_drop,List.take_append_drop]
def srtR (k:α→Int) (a b:Nat) (xs:List α):List α:=xs.take a++(ssort k (sgm a b xs)++xs.drop b)
theorem prt_sg {a b:Nat} {xs ys:List α} (hab:a≤b) (hb:b≤xs.length) (h:Prt k d a b xs ys):ys.take a=xs.take a∧ys.drop b=xs.drop b∧Sbl k (sgm a b xs) (sgm a b ys):=by
 have hl:=h.len
 have e1:ys.take a=xs.take a:=xh2 (d:=d) (by simp [hl]) fun i hi=>by
  rw [List.length_take] at hi
  rw [xs4 (by omega),xs4 (by omega),h.out i (by omega)]
 have e2:ys.drop b=xs.drop b:=xh2 (d:=d) (by simp [hl]) fun i hi=>by
  rw [xs2,xs2,h.out _ (by omega)]
 refine ⟨e1,e2,fun v=> ?_⟩
 have h3:=h.sb v
 have s1:=xp3 (xs:=xs) hab
 have s2:=xp3 (xs:=ys) hab
 rw [e1,e2] at s2
 rw [s1,s2] at h3
 simp only [List.filter_append] at h3
 exact List.append_cancel_right (List.append_cancel_left h3)
theorem srtP_sg {a b:Nat} {xs:List α} (hb:b≤xs.length) (h:SrtP k d a b xs):Srt k (sgm a b xs):=by
 refine List.pairwise_iff_getElem.2 fun i j hi hj hij=> ?_
 rw [xf6 hb] at hi hj
 have:=h (a+i) (a+j) (by omega) (by omega) (by omega)
 rw [←xp2 (b:=b) (by omega),←xp2 (b:=b) (by omega),List.getD_eq_getElem?_getD,List.getD_eq_getElem?_getD,List.getElem?_eq_getElem (by rw [xf6 hb];omega),List.getElem?_eq_getElem (by rw [xf6 hb];omega)] at this
 exact this
theorem srtR_of {a b:Nat} {xs ys:List α} (hab:a≤b) (hb:b≤xs.length) (h:Prt k d a b xs ys) (hs:SrtP k d a b ys):ys=srtR k a b xs:=by
 obtain ⟨h1,h2,h3⟩:=prt_sg hab hb h
 have:=ssort_uniq (srtP_sg (by rw [h.len];exact hb) hs) h3
 rw [srtR,←this,←h1,←h2,←xp3 hab]
theorem srtR_len {a b:Nat} {xs:List α} (hab:a≤b) (hb:b≤xs.length):(srtR k a b xs).length=xs.length:=by
 rw [srtR,List.length_append,List.length_append,xs1,xf6 hb,List.length_take,List.length_drop];omega
theorem xm1 {a b:Nat} {xs:List α} (hab:a≤b) (hb:b≤xs.length):Prt k d a b xs (srtR k a b xs):=by
 refine ⟨srtR_len hab hb,fun i hi=> ?_,?_⟩
 ·rw [srtR]
  rcases hi with hi | hi
  ·rw [List.getD_eq_getElem?_getD,List.getElem?_append_left (by rw [List.length_take];omega),←List.getD_eq_getElem?_getD,xs4 hi]
  ·have e1:(xs.take a).length=a:=by rw [List.length_take];omega
   have e2:(ssort k (sgm a b xs)).length=b - a:=by rw [xs1,xf6 hb]
   rw [List.getD_eq_getElem?_getD,List.getElem?_append_right (by omega),List.getElem?_append_right (by omega),←List.getD_eq_getElem?_getD,xs2,e1,e2]
   congr 1;omega
 ·intro v
  rw [srtR]
  conv=>lhs;rw [xp3 (xs:=xs) hab]
  exact ((Sbl.refl _).app ((ssort_sbl _).app (Sbl.refl _))) v
theorem xq7 {a b:Nat} {xs:List α} (hab:a≤b) (hb:b≤xs.length):SrtP k d a b (srtR k a b xs):=by
 intro i j h1 h2 h3
 have e1:(xs.take a).length=a:=by rw [List.length_take];omega
 have e2:(ssort k (sgm a b xs)).length=b - a:=by rw [xs1,xf6 hb]
 have key: ∀t,a≤t→(h:t < b)→(srtR k a b xs).getD t d=(ssort k (sgm a b xs))[t - a]'(by omega):=fun t g1 g2=>by
  rw [srtR,List.getD_eq_getElem?_getD,List.getElem?_append_right (by omega),List.getElem?_append_left (by omega),e1,List.getElem?_eq_getElem (by omega)];rfl
 rw [key i h1 (by omega),key j (by omega) h3]
 exact List.pairwise_iff_getElem.1 (xs7 _) _ _ _ _ (by omega)
theorem srtR_all {xs:List α}:srtR k 0 xs.length xs=ssort k xs:=by rw [srtR,sgm];simp
def rotR (a m b:Nat) (xs:List α):List α:=xs.take a++(sgm m b xs++(sgm a m xs++xs.drop b))
theorem rot_split {a m b:Nat} {xs:List α} (h1:a≤m) (h2:m≤b):xs=xs.take a++(sgm a m xs++(sgm m b xs++xs.drop b)):=by
 conv=>lhs;rw [xp3 (xs:=xs) h1,xp3 (xs:=xs.drop m) (a:=0) (b:=b - m) (by omega)]
 congr 2
 have e:b - m+m=b:=by omega
 rw [List.take_zero,List.nil_append,List.drop_drop,Nat.add_comm m,e]
 congr 1
 rw [sgm,sgm,List.drop_zero,List.take_drop,Nat.add_comm m,e]
theorem xd6 {a m b:Nat} {xs:List α} (h1:a≤m) (h2:m≤b) (h3:b≤xs.length):(rotR a m b xs).length=xs.length:=by
 simp only [rotR,List.length_append,List.length_take,List.length_drop,xf6 h3,xf6 (show m≤xs.length by omega)];omega
theorem xe0 {a m b i:Nat} {xs:List α} (h1:a≤m) (h2:m≤b) (h3:b≤xs.length):(rotR a m b xs).getD i d=if i < a then xs.getD i d else if i < a+(b - m) then xs.getD (m+(i - a)) d else if i < b then xs.getD (a+(i - (a+(b - m)))) d else xs.getD i d:=by
 have e0:(xs.take a).length=a:=by rw [List.length_take];omega
 have e1:=xf6 (a:=m) h3
 have e2:=xf6 (a:=a) (show m≤xs.length by omega)
 rw [rotR,List.getD_eq_getElem?_getD]
 split
 ·rw [List.getElem?_append_left (by omega),←List.getD_eq_getElem?_getD,xs4 (by omega)]
 ·rw [List.getElem?_append_right (by omega)]
  split
  ·rw [List.getElem?_append_left (by omega),←List.getD_eq_getElem?_getD,e0,xp2 (by omega)]
  ·rw [List.getElem?_append_right (by omega)]
   split
   ·rw [List.getElem?_append_left (by omega),←List.getD_eq_getElem?_getD,xp2 (by omega)]
    congr 1;omega
   ·rw [List.getElem?_append_right (by omega),←List.getD_eq_getElem?_getD,xs2]
    congr 1;omega
theorem rot_prt {a m b:Nat} {xs:List α} (h1:a≤m) (h2:m≤b) (h3:b≤xs.length) (h: ∀i j,a≤i→i < m→m≤j→j < b→k (xs.getD i d)≠k (xs.getD j d)):Prt k d a b xs (rotR a m b xs):=by
 refine ⟨xd6 h1 h2 h3,fun i hi=> ?_,?_⟩
 ·rw [xe0 h1 h2 h3]
  rcases hi with hi | hi
  ·rw [if_pos hi]
  ·split
   ·omega
   ·split
    ·omega
    ·rw [if_neg (by omega)]
 ·intro v
  conv=>lhs;rw [rot_split (xs:=xs) h1 h2]
  rw [rotR,←List.append_assoc (sgm a m xs),←List.append_assoc (sgm m b xs)]
  refine ((Sbl.refl _).app ((Sbl.swap fun x hx y hy=> ?_).app (Sbl.refl _))) v
  obtain ⟨i,hi,rfl⟩:=List.mem_iff_getElem.1 hx
  obtain ⟨j,hj,rfl⟩:=List.mem_iff_getElem.1 hy
  rw [xf6 (show m≤xs.length by omega)] at hi
  rw [xf6 h3] at hj
  have:=h (a+i) (m+j) (by omega) (by omega) (by omega) (by omega)
  rw [←xp2 (b:=m) (by omega),←xp2 (b:=b) (by omega),List.getD_eq_getElem?_getD,List.getD_eq_getElem?_getD,List.getElem?_eq_getElem (by rw [xf6 (show m≤xs.length by omega)];omega),List.getElem?_eq_getElem (by rw [xf6 h3];omega)] at this
  exact this
def swpR (d:α) (a b n:Nat) (xs:List α):List α:=(List.range xs.length).map fun t=>if a≤t∧t < a+n then xs.getD (b+(t - a)) d else if b≤t∧t < b+n then xs.getD (a+(t - b)) d else xs.getD t d
theorem xg3 {a b n:Nat} {xs:List α}:(swpR d a b n xs).length=xs.length:=by simp [swpR]
theorem xg4 {a b n t:Nat} {xs:List α} (ht:t < xs.length):(swpR d a b n xs).getD t d=if a≤t∧t < a+n then xs.getD (b+(t - a)) d else if b≤t∧t < b+n then xs.getD (a+(t - b)) d else xs.getD t d:=by
 rw [swpR,List.getD_eq_getElem?_getD,List.getElem?_map,List.getElem?_range ht];rfl
theorem swp_zero {a b:Nat} {xs:List α}:swpR d a b 0 xs=xs:=xh2 (d:=d) xg3 fun i hi=>by
 rw [xg3] at hi
 rw [xg4 hi,if_neg (by omega),if_neg (by omega)]
theorem getD_set {xs:List α} {i j:Nat} {x:α} (hi:i < xs.length):(xs.set i x).getD j d=if j=i then x else xs.getD j d:=by
 rw [List.getD_eq_getElem?_getD,List.getElem?_set]
 by_cases h:i=j
 ·subst h;rw [if_pos rfl,if_pos hi,if_pos rfl];rfl
 ·rw [if_neg h,if_neg (Ne.symm h),List.getD_eq_getElem?_getD]
theorem swp_next {a b n:Nat} {xs:List α} (h1:a+n < b) (h2:b+n < xs.length):((swpR d a b n xs).set (a+n) (xs.getD (b+n) d)).set (b+n) (xs.getD (a+n) d)=swpR d a b (n+1) xs:=by
 refine xh2 (d:=d) (by simp [xg3]) fun i hi=> ?_
 simp only [List.length_set,xg3] at hi
 rw [getD_set (by simp [xg3];omega),getD_set (by simp [xg3];omega),xg4 hi,xg4 hi]
 by_cases e1:i=b+n
 ·subst e1
  rw [if_pos rfl,if_neg (by omega),if_pos (by omega)]
  congr 1;omega
 ·rw [if_neg e1]
  by_cases e2:i=a+n
  ·subst e2
   rw [if_pos rfl,if_pos (by omega)]
   congr 1;omega
  ·rw [if_neg e2]
   (repeat' split) <;> first | rfl | omega | (congr 1;omega)
theorem swp_same {a b n:Nat} {xs:List α} (h1:a+n < b) (h2:b+n < xs.length):(swpR d a b n xs).getD (a+n) d=xs.getD (a+n) d∧(swpR d a b n xs).getD (b+n) d=xs.getD (b+n) d:=by
 rw [xg4 (by omega),xg4 (by omega),if_neg (by omega),if_neg (by omega),if_neg (by omega),if_neg (by omega)];exact ⟨rfl,rfl⟩
theorem rot_left {m i j:Nat} {xs:List α} (h1:i≤m) (h2:j < i) (h3:m+j≤xs.length):rotR (m - (i - j)) m (m+j) (swpR d (m - i) m j xs)=rotR (m - i) m (m+j) xs:=by
 have hl:(swpR d (m - i) m j xs).length=xs.length:=xg3
 refine xh2 (d:=d) (by rw [xd6 (by omega) (by omega) (by omega),xd6 (by omega) (by omega) (by omega),hl]) fun t ht=> ?_
 rw [xd6 (by omega) (by omega) (by omega),hl] at ht
 rw [xe0 (by omega) (by omega) (by omega),xe0 (by omega) (by omega) (by omega)]
 by_cases c1:t < m - i
 ·rw [if_pos (by omega),if_pos c1,xg4 ht,if_neg (by omega),if_neg (by omega)]
 ·rw [if_neg c1]
  by_cases c2:t < m - i+(m+j - m)
  ·rw [if_pos (by omega),if_pos c2,xg4 ht,if_pos (by omega)]
  ·rw [if_neg c2]
   by_cases c3:t < m - (i - j)
   ·omega
   ·rw [if_neg c3]
    by_cases c4:t < m - (i - j)+(m+j - m)
    ·rw [if_pos c4,if_pos (by omega),xg4 (by omega),if_neg (by omega),if_pos (by omega)]
     congr 1;omega
    ·rw [if_neg c4]
     by_cases c5:t < m+j
     ·rw [if_pos c5,if_pos c5,xg4 (by omega),if_neg (by omega),if_neg (by omega)]
      congr 1;omega
     ·rw [if_neg c5,if_neg c5,xg4 ht,if_neg (by omega),if_neg (by omega)]
theorem rot_right {m i j:Nat} {xs:List α} (h1:i≤m) (h2:i < j) (h3:m+j≤xs.length):rotR (m - i) m (m+(j - i)) (swpR d (m - i) (m+j - i) i xs)=rotR (m - i) m (m+j) xs:=by
 have hl:(swpR d (m - i) (m+j - i) i xs).length=xs.length:=xg3
 refine xh2 (d:=d) (by rw [xd6 (by omega) (by omega) (by omega),xd6 (by omega) (by omega) (by omega),hl]) fun t ht=> ?_
 rw [xd6 (by omega) (by omega) (by omega),hl] at ht
 rw [xe0 (by omega) (by omega) (by omega),xe0 (by omega) (by omega) (by omega)]
 by_cases c1:t < m - i
 ·rw [if_pos c1,if_pos c1,xg4 ht,if_neg (by omega),if_neg (by omega)]
 ·rw [if_neg c1,if_neg c1]
  by_cases c2:t < m - i+(m+(j - i) - m)
  ·rw [if_pos c2,if_pos (by omega),xg4 (by omega),if_neg (by omega),if_neg (by omega)]
  ·rw [if_neg c2]
   by_cases c3:t < m+(j - i)
   ·rw [if_pos c3,if_pos (by omega),xg4 (by omega),if_pos (by omega)]
    congr 1;omega
   ·rw [if_neg c3]
    by_cases c4:t < m+j
    ·rw [xg4 ht,if_neg (by omega),if_pos (by omega),if_neg (by omega),if_pos c4]
     congr 1;omega
    ·rw [xg4 ht,if_neg (by omega),if_neg (by omega),if_neg (by omega),if_neg c4]
theorem rot_same {m i:Nat} {xs:List α} (h1:i≤m) (h3:m+i≤xs.length):swpR d (m - i) m i xs=rotR (m - i) m (m+i) xs:=by
 refine xh2 (d:=d) (by rw [xd6 (by omega) (by omega) (by omega),xg3]) fun t ht=> ?_
 rw [xg3] at ht
 rw [xe0 (by omega) (by omega) (by omega),xg4 ht]
 (repeat' split) <;> first | rfl | omega | (congr 1;omega)
def swp1 (d:α) (j:Nat) (xs:List α):List α:=(xs.set j (xs.getD (j+1) d)).set (j+1) (xs.getD j d)
theorem swp1_len {j:Nat} {xs:List α}:(swp1 d j xs).length=xs.length:=by simp [swp1]
theorem swp1_get {j t:Nat} {xs:List α} (h:j+1 < xs.length):(swp1 d j xs).getD t d=if t=j+1 then xs.getD j d else if t=j then xs.getD (j+1) d else xs.getD t d:=by
 rw [swp1,getD_set (by simp;omega),getD_set (by omega)]
theorem swp1_rot {j:Nat} {xs:List α} (h:j+1 < xs.length):swp1 d j xs=rotR j (j+1) (j+2) xs:=by
 refine xh2 (d:=d) (by rw [xd6 (by omega) (by omega) (by omega),swp1_len]) fun t ht=> ?_
 rw [swp1_get h,xe0 (by omega) (by omega) (by omega)]
 by_cases c1:t=j+1
 ·subst c1;rw [if_pos rfl,if_neg (by omega),if_neg (by omega),if_pos (by omega)];congr 1;omega
 ·rw [if_neg c1]
  by_cases c2:t=j
  ·subst c2;rw [if_pos rfl,if_neg (by omega),if_pos (by omega)];congr 1;omega
  ·rw [if_neg c2]
   by_cases c3:t < j
   ·rw [if_pos c3]
   ·rw [if_neg c3,if_neg (by omega),if_neg (by omega)]
theorem swp1_prt {a b j:Nat} {xs:List α} (h1:a≤j) (h2:j+1 < b) (h3:b≤xs.length) (h:k (xs.getD (j+1) d) < k (xs.getD j d)):Prt k d a b xs (swp1 d j xs):=by
 rw [swp1_rot (by omega)]
 refine (rot_prt (by omega) (by omega) (by omega) fun i i' g1 g2 g3 g4=> ?_).mono h1 (by omega)
 have e1:i=j:=by omega
 have e2:i'=j+1:=by omega
 subst e1 e2;omega
end
section
variable {α:Type} {k:α→Int} {d:α}
theorem prt_mem {a b i:Nat} {xs ys:List α} (hb:b≤xs.length) (h:Prt k d a b xs ys) (h1:a≤i) (h2:i < b): ∃j,a≤j∧j < b∧ys.getD i d=xs.getD j d:=by
 have h3:=(prt_sg (by omega) hb h).2.2
 have e:ys.getD i d∈sgm a b ys:=by
  have hl:i - a < (sgm a b ys).length:=by rw [xf6 (by rw [h.len];exact hb)];omega
  have:=xp2 (d:=d) (a:=a) (b:=b) (i:=i - a) (xs:=ys) (by omega)
  rw [show a+(i - a)=i by omega] at this
  rw [←this,List.getD_eq_getElem?_getD,List.getElem?_eq_getElem hl];exact List.getElem_mem hl
 obtain ⟨j,hj,hj2⟩:=List.mem_iff_getElem.1 (h3.mem.2 e)
 rw [xf6 hb] at hj
 refine ⟨a+j,by omega,by omega,?_⟩
 rw [←xp2 (b:=b) (by omega),List.getD_eq_getElem?_getD (l:=sgm a b xs),List.getElem?_eq_getElem (by rw [xf6 hb];omega)]
 exact hj2.symm
theorem SrtP.sub {a b a' b':Nat} {xs:List α} (h:SrtP k d a b xs) (h1:a≤a') (h2:b'≤b):SrtP k d a' b' xs:=fun i j g1 g2 g3=>h i j (by omega) g2 (by omega)
theorem SrtP.le {a b i j:Nat} {xs:List α} (h:SrtP k d a b xs) (h1:a≤i) (h2:i≤j) (h3:j < b):k (xs.getD i d)≤k (xs.getD j d):=by
 rcases Nat.lt_or_ge i j with h4 | h4
 ·exact h i j h1 h4 h3
 ·rw [show i=j by omega];exact Int.le_refl _
theorem SrtP.out {a b a' b':Nat} {xs ys:List α} (h:SrtP k d a b xs) (hp:Prt k d a' b' xs ys) (hd:b≤a'∨b'≤a):SrtP k d a b ys:=fun i j g1 g2 g3=>by
 rw [hp.out i (by omega),hp.out j (by omega)];exact h i j g1 g2 g3
def InsP (k:α→Int) (d:α) (a i j:Nat) (xs:List α):Prop:= ∀p q,a≤p→p < q→q≤i→q≠j→k (xs.getD p d)≤k (xs.getD q d)
theorem ins_begin {a i:Nat} {xs:List α} (h:SrtP k d a i xs):InsP k d a i i xs:=fun p q h1 h2 h3 h4=>h p q h1 h2 (by omega)
theorem ins_step {a i j:Nat} {xs:List α} (h:InsP k d a i (j+1) xs) (h1:a≤j) (h2:j+1≤i) (h3:i < xs.length) (hlt:k (xs.getD (j+1) d) < k (xs.getD j d)):InsP k d a i j (swp1 d j xs):=by
 intro p q g1 g2 g3 g4
 rw [swp1_get (by omega),swp1_get (by omega)]
 by_cases c1:q=j+1
 ·subst c1
  rw [if_pos rfl]
  by_cases c2:p=j
  ·subst c2;rw [if_neg (by omega),if_pos rfl];omega
  ·rw [if_neg (by omega),if_neg c2];exact h p j g1 (by omega) (by omega) (by omega)
 ·rw [if_neg c1,if_neg g4]
  by_cases c2:p=j+1
  ·subst c2;rw [if_pos rfl];exact h j q h1 (by omega) g3 c1
  ·rw [if_neg c2]
   by_cases c3:p=j
   ·subst c3
    rw [if_pos rfl]
    exact h (p+1) q (by omega) (by omega) g3 c1
   ·rw [if_neg c3];exact h p q g1 g2 g3 c1
theorem ins_end {a i j:Nat} {xs:List α} (h:InsP k d a i j xs) (hj:j≤i) (hs:a < j→k (xs.getD (j - 1) d)≤k (xs.getD j d)):SrtP k d a (i+1) xs:=by
 intro p q g1 g2 g3
 by_cases c:q=j
 ·subst c
  have h1:=hs (by omega)
  rcases Nat.lt_or_ge p (q - 1) with h2 | h2
  ·have:=h p (q - 1) g1 h2 (by omega) (by omega);omega
  ·rw [show p=q - 1 by omega];exact h1
 ·exact h p q g1 g2 (by omega) c
theorem rot_up {a t:Nat} {xs:List α} (h:a+1+t < xs.length):swp1 d (a+t) (rotR a (a+1) (a+1+t) xs)=rotR a (a+1) (a+2+t) xs:=by
 have hl:(rotR a (a+1) (a+1+t) xs).length=xs.length:=xd6 (by omega) (by omega) (by omega)
 refine xh2 (d:=d) (by rw [swp1_len,hl,xd6 (by omega) (by omega) (by omega)]) fun i hi=> ?_
 rw [swp1_len,hl] at hi
 rw [swp1_get (by omega),xe0 (by omega) (by omega) (by omega),xe0 (by omega) (by omega) (by omega),xe0 (by omega) (by omega) (by omega),xe0 (by omega) (by omega) (by omega)]
 (repeat' split) <;> first | rfl | omega | (congr 1;omega)
theorem rot_down {j m:Nat} {xs:List α} (h1:j < m) (h2:m < xs.length):swp1 d j (rotR (j+1) m (m+1) xs)=rotR j m (m+1) xs:=by
 have hl:(rotR (j+1) m (m+1) xs).length=xs.length:=xd6 (by omega) (by omega) (by omega)
 refine xh2 (d:=d) (by rw [swp1_len,hl,xd6 (by omega) (by omega) (by omega)]) fun i hi=> ?_
 rw [swp1_len,hl] at hi
 rw [swp1_get (by omega),xe0 (by omega) (by omega) (by omega),xe0 (by omega) (by omega) (by omega),xe0 (by omega) (by omega) (by omega),xe0 (by omega) (by omega) (by omega)]
 (repeat' split) <;> first | rfl | omega | (congr 1;omega)
theorem rot_none1 (d:α) {a b:Nat} {xs:List α} (h1:a≤b) (h2:b≤xs.length):rotR a a b xs=xs:=xh2 (d:=d) (xd6 (by omega) h1 h2) fun i hi=>by
 rw [xe0 (by omega) h1 h2]
 (repeat' split) <;> first | rfl | omega | (congr 1;omega)
theorem rot_none2 (d:α) {a b:Nat} {xs:List α} (h1:a≤b) (h2:b≤xs.length):rotR a b b xs=xs:=xh2 (d:=d) (xd6 h1 (by omega) h2) fun i hi=>by
 rw [xe0 h1 (by omega) h2]
 (repeat' split) <;> first | rfl | omega | (congr 1;omega)
theorem merge_first {a b i:Nat} {xs:List α} (hs:SrtP k d (a+1) b xs) (hb:b≤xs.length) (h1:a+1≤i) (h2:i≤b) (h3: ∀t,a+1≤t→t < i→k (xs.getD t d) < k (xs.getD a d)) (h4: ∀t,i≤t→t < b→k (xs.getD a d)≤k (xs.getD t d)):rotR a (a+1) i xs=srtR k a b xs:=by
 refine srtR_of (d:=d) (by omega) hb ((rot_prt (by omega) h1 (by omega) fun p q g1 g2 g3 g4=> ?_).mono (Nat.le_refl _) h2) fun p q g1 g2 g3=> ?_
 ·have e:p=a:=by omega
  subst e;have:=h3 q g3 g4;omega
 ·rw [xe0 (by omega) h1 (by omega),xe0 (by omega) h1 (by omega)]
  rw [if_neg (by omega),if_neg (show ¬q < a by omega)]
  by_cases c1:p < a+(i - (a+1))
  ·rw [if_pos c1]
   by_cases c2:q < a+(i - (a+1))
   ·rw [if_pos c2];exact hs _ _ (by omega) (by omega) (by omega)
   ·rw [if_neg c2]
    have:=h3 (a+1+(p - a)) (by omega) (by omega)
    by_cases c3:q < i
    ·rw [if_pos c3,show a+(q - (a+(i - (a+1))))=a by omega];omega
    ·rw [if_neg c3];have:=h4 q (by omega) g3;omega
  ·rw [if_neg c1]
   rw [if_neg (show ¬q < a+(i - (a+1)) by omega),if_neg (show ¬q < i by omega)]
   by_cases c3:p < i
   ·rw [if_pos c3,show a+(p - (a+(i - (a+1))))=a by omega];exact h4 q (by omega) g3
   ·rw [if_neg c3];exact hs p q (by omega) g2 g3
theorem merge_last {a m i:Nat} {xs:List α} (hs:SrtP k d a m xs) (hb:m < xs.length) (h1:a≤i) (h2:i≤m) (h3: ∀t,a≤t→t < i→k (xs.getD t d)≤k (xs.getD m d)) (h4: ∀t,i≤t→t < m→k (xs.getD m d) < k (xs.getD t d)):rotR i m (m+1) xs=srtR k a (m+1) xs:=by
 refine srtR_of (d:=d) (by omega) hb ((rot_prt h2 (by omega) (by omega) fun p q g1 g2 g3 g4=> ?_).mono h1 (Nat.le_refl _)) fun p q g1 g2 g3=> ?_
 ·have e:q=m:=by omega
  subst e;have:=h4 p g1 g2;omega
 ·rw [xe0 h2 (by omega) (by omega),xe0 h2 (by omega) (by omega)]
  by_cases c1:p < i
  ·rw [if_pos c1]
   by_cases c2:q < i
   ·rw [if_pos c2];exact hs p q g1 g2 (by omega)
   ·rw [if_neg c2]
    by_cases c3:q < i+(m+1 - m)
    ·rw [if_pos c3,show m+(q - i)=m by omega];exact h3 p g1 c1
    ·rw [if_neg c3,if_pos (by omega)];exact hs p _ g1 (by omega) (by omega)
  ·rw [if_neg c1,if_neg (show ¬q < i by omega),if_neg (show ¬q < i+(m+1 - m) by omega),if_pos (show q < m+1 by omega)]
   by_cases c3:p < i+(m+1 - m)
   ·rw [if_pos c3,show m+(p - i)=m by omega];have:=h4 (i+(q - (i+(m+1 - m)))) (by omega) (by omega);omega
   ·rw [if_neg c3,if_pos (by omega)];exact hs _ _ (by omega) (by omega) (by omega)
structure CutP (k:α→Int) (d:α) (a m b s e mid:Nat) (xs:List α):Prop where
  la:a≤s
  sm:s≤m
  me:m≤e
  eb:e≤b
  hm:s+(e - m)=mid
  c1: ∀x y,a≤x→x < s→e≤y→y < b→k (xs.getD x d)≤k (xs.getD y d)
  c2: ∀x y,s≤x→x < m→m≤y→y < e→k (xs.getD y d) < k (xs.getD x d)
section
variable {a m b s e mid:Nat} {xs:List α}
theorem CutP.prt (h:CutP k d a m b s e mid xs) (hb:b≤xs.length):Prt k d a b xs (rotR s m e xs):=
 (rot_prt h.sm h.me (by have:=h.eb;omega) fun p q g1 g2 g3 g4=>by have:=h.c2 p q g1 g2 g3 g4;omega).mono h.la h.eb
theorem CutP.get (h:CutP k d a m b s e mid xs) (hb:b≤xs.length) (i:Nat):(rotR s m e xs).getD i d=if i < s then xs.getD i d else if i < mid then xs.getD (m+(i - s)) d else if i < e then xs.getD (s+(i - mid)) d else xs.getD i d:=by
 have h1:=h.sm;have h2:=h.me;have h3:=h.eb;have h4:=h.hm
 rw [xe0 h1 h2 (by omega),h4]
theorem CutP.left1 (h:CutP k d a m b s e mid xs) (hb:b≤xs.length) (hs:SrtP k d a m xs):SrtP k d a s (rotR s m e xs):=fun i j g1 g2 g3=>by
 have h1:=h.sm
 rw [h.get hb,h.get hb,if_pos (by omega),if_pos g3];exact hs i j g1 g2 (by omega)
theorem CutP.left2 (h:CutP k d a m b s e mid xs) (hb:b≤xs.length) (hs:SrtP k d m b xs):SrtP k d s mid (rotR s m e xs):=fun i j g1 g2 g3=>by
 have h1:=h.sm;have h2:=h.me;have h3:=h.eb;have h4:=h.hm
 rw [h.get hb,h.get hb,if_neg (by omega),if_pos (by omega),if_neg (by omega),if_pos g3];exact hs _ _ (by omega) (by omega) (by omega)
theorem CutP.right1 (h:CutP k d a m b s e mid xs) (hb:b≤xs.length) (hs:SrtP k d a m xs):SrtP k d mid e (rotR s m e xs):=fun i j g1 g2 g3=>by
 have h0:=h.la;have h1:=h.sm;have h2:=h.me;have h3:=h.eb;have h4:=h.hm
 rw [h.get hb,h.get hb,if_neg (by omega),if_neg (by omega),if_pos (by omega),if_neg (by omega),if_neg (by omega),if_pos g3];exact hs _ _ (by omega) (by omega) (by omega)
theorem CutP.right2 (h:CutP k d a m b s e mid xs) (hb:b≤xs.length) (hs:SrtP k d m b xs):SrtP k d e b (rotR s m e xs):=fun i j g1 g2 g3=>by
 have h1:=h.sm;have h2:=h.me;have h3:=h.eb;have h4:=h.hm
 rw [h.get hb,h.get hb,if_neg (by omega),if_neg (by omega),if_neg (by omega),if_neg (by omega),if_neg (by omega),if_neg (by omega)];exact hs _ _ (by omega) (by omega) (by omega)
theorem CutP.cross (h:CutP k d a m b s e mid xs) (hb:b≤xs.length) (hs1:SrtP k d a m xs) (hs2:SrtP k d m b xs) {i j:Nat} (g1:a≤i) (g2:i < mid) (g3:mid≤j) (g4:j < b):k ((rotR s m e xs).getD i d)≤k ((rotR s m e xs).getD j d):=by
 have h0:=h.la;have h1:=h.sm;have h2:=h.me;have h3:=h.eb;have h4:=h.hm
 rw [h.get hb,h.get hb,if_neg (show ¬j < s by omega),if_neg (show ¬j < mid by omega)]
 by_cases c1:i < s
 ·rw [if_pos c1]
  by_cases c2:j < e
  ·rw [if_pos c2];exact hs1.le g1 (by omega) (by omega)
  ·rw [if_neg c2];exact h.c1 i j g1 c1 (by omega) g4
 ·rw [if_neg c1,if_pos g2]
  by_cases c2:j < e
  ·rw [if_pos c2];have:=h.c2 (s+(j - mid)) (m+(i - s)) (by omega) (by omega) (by omega) (by omega);omega
  ·rw [if_neg c2];exact hs2.le (by omega) (by omega) g4
theorem CutP.fin (h:CutP k d a m b s e mid xs) (hb:b≤xs.length) (hs1:SrtP k d a m xs) (hs2:SrtP k d m b xs):srtR k mid b (srtR k a mid (rotR s m e xs))=srtR k a b xs:=by
 have h0:=h.la;have h1:=h.sm;have h2:=h.me;have h3:=h.eb;have h4:=h.hm
 have p1:=h.prt hb
 have hb1:b≤(rotR s m e xs).length:=by rw [p1.len];exact hb
 have p2:Prt k d a mid (rotR s m e xs) (srtR k a mid (rotR s m e xs)):=xm1 (by omega) (by omega)
 have hb2:b≤(srtR k a mid (rotR s m e xs)).length:=by rw [p2.len];exact hb1
 have p3:Prt k d mid b (srtR k a mid (rotR s m e xs)) (srtR k mid b (srtR k a mid (rotR s m e xs))):=xm1 (by omega) hb2
 refine srtR_of (d:=d) (by omega) hb ((p1.trans (p2.mono (Nat.le_refl _) (by omega))).trans (p3.mono (by omega) (Nat.le_refl _))) fun i j g1 g2 g3=> ?_
 rcases Nat.lt_or_ge j mid with c | c
 ·rw [p3.out i (by omega),p3.out j (by omega)]
  exact xq7 (by omega) (by omega) i j g1 g2 c
 ·rcases Nat.lt_or_ge i mid with c2 | c2
  ·rw [p3.out i (by omega)]
   obtain ⟨i',q1,q2,q3⟩:=prt_mem (by omega) p2 g1 c2
   obtain ⟨j',r1,r2,r3⟩:=prt_mem hb2 p3 c g3
   rw [q3,r3,p2.out j' (by omega)]
   exact h.cross hb hs1 hs2 q1 q2 r1 r2
  ·exact xq7 (by omega) hb2 i j c2 g2 g3
theorem srtR_idP {a b:Nat} {xs:List α} (hab:a≤b) (hb:b≤xs.length) (h:SrtP k d a b xs):srtR k a b xs=xs:=(srtR_of hab hb (Prt.refl ..) h).symm
theorem CutP.leftId (h:CutP k d a m b s e mid xs) (hb:b≤xs.length) (hs1:SrtP k d a m xs) (hs2:SrtP k d m b xs) (hc: ¬(a < s∧s < mid)):srtR k a mid (rotR s m e xs)=rotR s m e xs:=by
 have h0:=h.la;have h1:=h.sm;have h2:=h.me;have h3:=h.eb;have h4:=h.hm
 have p1:=h.prt hb
 refine srtR_idP (d:=d) (by omega) (by rw [p1.len];omega) ?_
 by_cases c:a < s
 ·have e1:mid=s:=by omega
  rw [e1];exact h.left1 hb hs1
 ·have e1:a=s:=by omega
  rw [e1];exact h.left2 hb hs2
theorem CutP.rightId (h:CutP k d a m b s e mid xs) (hb:b≤xs.length) (hs1:SrtP k d a m xs) (hs2:SrtP k d m b xs) (hc: ¬(mid < e∧e < b)):srtR k mid b (srtR k a mid (rotR s m e xs))=srtR k a mid (rotR s m e xs):=by
 have h0:=h.la;have h1:=h.sm;have h2:=h.me;have h3:=h.eb;have h4:=h.hm
 have p1:=h.prt hb
 have p2:Prt k d a mid (rotR s m e xs) (srtR k a mid (rotR s m e xs)):=xm1 (by omega) (by rw [p1.len];omega)
 refine srtR_idP (d:=d) (by omega) (by rw [p2.len,p1.len];omega) (SrtP.out ?_ p2 (.inr (Nat.le_refl _)))
 by_cases c:mid < e
 ·have e1:b=e:=by omega
  rw [e1];exact h.right1 hb hs1
 ·have e1:mid=e:=by omega
  rw [e1];exact h.right2 hb hs2
end
end
section
variable {α:Type} {k:α→Int} {d:α} {xs ys:List α} {B n c c':Nat}
theorem cut_of {a b m mid s s0 r0:Nat} (h1:a < m) (h2:m < b) (hm:mid=(a+b) / 2) (hs1:SrtP k d a m xs) (hs2:SrtP k d m b xs) (hc:(mid < m∧s0=mid+m - b∧r0=mid)∨(m≤mid∧s0=a∧r0=m)) (h3:s0≤s) (h4:s≤r0)
  (hl: ∀c,s0≤c→c < s→k (xs.getD c d)≤k (xs.getD (mid+m - 1 - c) d)) (hr: ∀c,s≤c→c < r0→k (xs.getD (mid+m - 1 - c) d) < k (xs.getD c d)):CutP k d a m b s (mid+m - s) mid xs:=by
 refine ⟨by omega,by omega,by omega,by omega,by omega,fun x y g1 g2 g3 g4=> ?_,fun x y g1 g2 g3 g4=> ?_⟩
 ·have e:s0 < s:=by omega
  have q:=hl (s - 1) (by omega) (by omega)
  rw [show mid+m - 1 - (s - 1)=mid+m - s by omega] at q
  have q1:=hs1.le (i:=x) (j:=s - 1) (by omega) (by omega) (by omega)
  have q2:=hs2.le (i:=mid+m - s) (j:=y) (by omega) (by omega) (by omega)
  omega
 ·have e:s < r0:=by omega
  have q:=hr s (by omega) e
  have q1:=hs1.le (i:=s) (j:=x) (by omega) (by omega) (by omega)
  have q2:=hs2.le (i:=y) (j:=mid+m - 1 - s) (by omega) (by omega) (by omega)
  omega
def BlkP (k:α→Int) (d:α) (B n:Nat) (xs:List α):Prop:= ∀t,SrtP k d (t*B) (min (t*B+B) n) xs
def BlkA (k:α→Int) (d:α) (B u:Nat) (xs:List α):Prop:= ∀t,t < u→SrtP k d (t*B) (t*B+B) xs
theorem mul_lt1 {t u B:Nat} (h:t < u):t*B+B≤u*B:=by
 have:=Nat.mul_le_mul_right B (show t+1≤u from h)
 rw [Nat.succ_mul] at this;exact this
theorem blkA_zero:BlkA k d B 0 xs:=fun t h=>absurd h (Nat.not_lt_zero t)
theorem blkA_next {u:Nat} (h:BlkA k d B u xs) (hp:Prt k d (u*B) (u*B+B) xs ys) (hs:SrtP k d (u*B) (u*B+B) ys):BlkA k d B (u+1) ys:=fun t ht=>by
 rcases Nat.lt_or_ge t u with h1 | h1
 ·exact (h t h1).out hp (.inl (mul_lt1 h1))
 ·have e:t=u:=by omega
  subst e;exact hs
theorem blkP_of {u:Nat} (h:BlkA k d B u xs) (h1:n < u*B+B) (hp:Prt k d (u*B) n xs ys) (hs:SrtP k d (u*B) n ys):BlkP k d B n ys:=fun t=>by
 rcases Nat.lt_trichotomy t u with h2 | h2 | h2
 ·exact ((h t h2).out hp (.inl (mul_lt1 h2))).sub (Nat.le_refl _) (Nat.min_le_left _ _)
 ·subst h2
  rw [Nat.min_eq_right (by omega)];exact hs
 ·intro i j g1 g2 g3
  have:=mul_lt1 (B:=B) h2
  omega
theorem two_mul_B {u B:Nat}:(2*u)*B=u*(2*B)∧(2*u+1)*B=u*(2*B)+B:=by
 have e:(2*u)*B=u*(2*B):=by rw [Nat.mul_comm 2 u,Nat.mul_assoc]
 exact ⟨e,by rw [Nat.succ_mul,e]⟩
def BlkR (k:α→Int) (d:α) (B n c:Nat) (xs:List α):Prop:= ∀t,c≤t*B→SrtP k d (t*B) (min (t*B+B) n) xs
theorem BlkR.at (h:BlkR k d B n c xs) {u:Nat} (hc:c≤u*(2*B)) (hn:u*(2*B)+B≤n):SrtP k d (u*(2*B)) (u*(2*B)+B) xs∧SrtP k d (u*(2*B)+B) (min (u*(2*B)+2*B) n) xs:=by
 obtain ⟨e1,e2⟩:=two_mul_B (u:=u) (B:=B)
 have h1:=h (2*u) (by rw [e1];exact hc)
 have h2:=h (2*u+1) (by rw [e2];omega)
 rw [e1,Nat.min_eq_left hn] at h1
 rw [e2,show u*(2*B)+B+B=u*(2*B)+2*B by omega] at h2
 exact ⟨h1,h2⟩
theorem BlkR.one (h:BlkR k d B n c xs) {u:Nat} (hc:c≤u*(2*B)) (hn:n≤u*(2*B)+B):SrtP k d (u*(2*B)) n xs:=by
 have h1:=h (2*u) (by rw [two_mul_B.1];exact hc)
 rw [two_mul_B.1,Nat.min_eq_right hn] at h1;exact h1
theorem BlkR.next (h:BlkR k d B n c xs) {a b:Nat} (hp:Prt k d a b xs ys) (hb:b≤c') (hc:c≤c'):BlkR k d B n c' ys:=fun t ht=>(h t (by omega)).out hp (.inr (by omega))
theorem blkP_R (h:BlkP k d B n xs):BlkR k d B n 0 xs:=fun t _=>h t
theorem blkP_all (h:BlkP k d B n xs) (hn:n≤B):SrtP k d 0 n xs:=by
 have:=h 0
 rw [Nat.zero_mul,Nat.min_eq_right (by omega)] at this;exact this
theorem blkP_end {u:Nat} (h:BlkA k d (2*B) u xs) (h1:n < u*(2*B)+2*B) (hs:SrtP k d (u*(2*B)) n xs):BlkP k d (2*B) n xs:=blkP_of h h1 (Prt.refl ..) hs
end
end An
namespace An
open Go
structure Fa where
  key:ByteArray
  lo:Int
  hi:Int
  kn:Int
  gone:Bool
  v:Va
deriving DecidableEq
def fa0:Fa:=⟨⟨#[]⟩,0,0,0,false,va0⟩
abbrev tFa (f:Fa):Ty:=tS [⟨1,false,tE (.string f.key)⟩,⟨1,false,tI f.lo⟩,⟨1,false,tI f.hi⟩,⟨1,false,tI f.kn⟩,⟨1,false,tB f.gone⟩,⟨6,true,tVa f.v⟩]
end An
namespace An.S
open Go Go.Proofs An
instance ti59:TyI Tryz.prog 59 11 true:=⟨by kernel_rfl,by kernel_rfl⟩
instance sl46:SlI Tryz.prog 46 59 11 true:=⟨Tryz.underlying46,ti59⟩
instance fo59_3:FoI Tryz.prog 59 3 3:=⟨by kernel_rfl⟩
instance un46:UnI Tryz.prog 46 (.slice 59):=⟨Tryz.underlying46⟩
end An.S
namespace An
open Go
structure Kw where
  p:Dom→World→Prop
  mono: ∀{F F':Dom} {w w':World},p F w→Keep F F' w w'→p F' w'
def tKG (K:Kw) (t:Ty):Ty:=⟨fun F w v=>t.p F w v∧K.p F w,fun h hk=>⟨t.mono h.1 hk,K.mono h.2 hk⟩⟩
instance {K:Kw} {t:Ty} {n:Nat} {agg:Bool} [h:Shape t n agg]:Shape (tKG K t) n agg:=⟨fun hp=>h.flat hp.1⟩
section
variable {P:Program} {c:Base} {g:Slots} {h:Keys} {al:Names} {d ty:Nat} {pos:String} {af:Array Edge} {gd:Option (Nat×Bool)} {Q:Exit→Act→World→Prop}
end
section
variable {P:Program} {c:Base} {d ty:Nat} {pos:String} {af:Array Edge} {gd:Option (Nat×Bool)}
end
end An
namespace An
end An
namespace An.S
open Go
def onF (d:Int) (f:Fa):Bool:=decide (f.lo≤d) && decide (d < f.hi)
theorem xq2 {d:Int} {f:Fa}:onF d f=true↔f.lo≤d∧d < f.hi:=by simp [onF]
def valF (o:Option Fa):Option Va:=match o with
 | none=>none
 | some f=>if f.gone=true then none else some f.v
end An.S
namespace An
open Go
abbrev tSt (s:ByteArray):Ty:=tE (.string s)
section
variable {P:Program}
end
section
variable {P:Program} {c:Base} {d ty:Nat} {pos:String} {af:Array Edge} {gd:Option (Nat×Bool)}
theorem beqB {p q:ByteArray}:(p.toList==q.toList)=decide (p=q):=by
 rw [ByteArray.toList_eq,ByteArray.toList_eq]
 by_cases h:p=q
 ·subst h;simp
 ·have h2:p.data.toList≠q.data.toList:=fun e=>h (by cases p;cases q;congr 1;exact Array.toList_inj.1 e)
  rw [decide_eq_false h];exact beq_false_of_ne h2
theorem d_eqlS {T yT:TypeId} {x y:Operand} {p q:ByteArray}:Does P c ⟨some d,.binOp .eql T x y yT,ty,pos,af,gd⟩ ⟨[(x,.val (tSt p)),(y,.val (tSt q))],[],some (d,some (.val (tB (decide (p=q))))),[],[]⟩:=
 xi5 fun w=>by simp only [eqGuard_at_string,binOp,Sem.run_bind,Sem.run_pure,Result.andThen_ok,Op.stringOp,beqB]
end
end An
namespace An.S
open Go Go.Proofs An
instance ti9:TyI Tryz.prog 9 1 false:=⟨by kernel_rfl,by kernel_rfl⟩
instance fo59_0:FoI Tryz.prog 59 0 0:=⟨by kernel_rfl⟩
instance fo59_1:FoI Tryz.prog 59 1 1:=⟨by kernel_rfl⟩
instance fo59_2:FoI Tryz.prog 59 2 2:=⟨by kernel_rfl⟩
theorem el59:ElI Tryz.prog 59 11 128 true (.agg #[.string ⟨#[]⟩,.int .i64 0,.int .i64 0,.int .i64 0,.bool false,.int .u8 0,.bool false,.slice none 0 0,.bool false,.slice none 0 0,.int .i64 0]):=⟨ti59,by kernel_rfl,by kernel_rfl⟩
theorem zr59:(Tryz.prog.info? 59).bind (·.zero)=some (.agg #[.string ⟨#[]⟩,.int .i64 0,.int .i64 0,.int .i64 0,.bool false,.int .u8 0,.bool false,.slice none 0 0,.bool false,.slice none 0 0,.int .i64 0])∧ ∀F w,(tS [⟨1,false,(tE (.string ⟨#[]⟩))⟩,⟨1,false,(tE (.int .i64 0))⟩,⟨1,false,(tE (.int .i64 0))⟩,⟨1,false,(tE (.int .i64 0))⟩,⟨1,false,(tE (.bool false))⟩,⟨6,true,(tS [⟨1,false,(tE (.int .u8 0))⟩,⟨4,true,(tS [⟨2,true,(tS [⟨1,false,(tE (.bool false))⟩,⟨1,false,(tLm [])⟩])⟩,⟨2,true,(tS [⟨1,false,(tE (.bool false))⟩,⟨1,false,(tLm [])⟩])⟩])⟩,⟨1,false,(tE (.int .i64 0))⟩])⟩]).p F w (.agg #[.string ⟨#[]⟩,.int .i64 0,.int .i64 0,.int .i64 0,.bool false,.int .u8 0,.bool false,.slice none 0 0,.bool false,.slice none 0 0,.int .i64 0]):=⟨by kernel_rfl,fun _ _=>⟨_,rfl,rfl,⟨fun _=>rfl,rfl⟩,⟨fun _=>rfl,rfl⟩,⟨fun _=>rfl,rfl⟩,⟨fun _=>rfl,rfl⟩,⟨fun _=>rfl,rfl⟩,⟨fun h=>Bool.noConfusion h,⟨_,rfl,rfl,⟨fun _=>rfl,rfl⟩,⟨fun h=>Bool.noConfusion h,⟨_,rfl,rfl,⟨fun h=>Bool.noConfusion h,⟨_,rfl,rfl,⟨fun _=>rfl,rfl⟩,⟨fun _=>rfl,⟨none,0,rfl,Nat.le_refl _,by decide,.inl rfl⟩⟩,trivial⟩⟩,⟨fun h=>Bool.noConfusion h,⟨_,rfl,rfl,⟨fun _=>rfl,rfl⟩,⟨fun _=>rfl,⟨none,0,rfl,Nat.le_refl _,by decide,.inl rfl⟩⟩,trivial⟩⟩,trivial⟩⟩,⟨fun _=>rfl,rfl⟩,trivial⟩⟩,trivial⟩⟩
theorem zf59:Flat 11 true (.agg #[.string ⟨#[]⟩,.int .i64 0,.int .i64 0,.int .i64 0,.bool false,.int .u8 0,.bool false,.slice none 0 0,.bool false,.slice none 0 0,.int .i64 0]):=xm0 (by intro u hu;simp at hu;rcases hu with rfl | rfl | rfl | rfl | rfl | rfl | rfl | rfl | rfl | rfl | rfl <;> rfl)
end An.S
namespace An
open Go
section
variable {P:Program} {c:Base} {g:Slots} {h:Keys} {al:Names} {d ty:Nat} {pos:String} {af:Array Edge} {gd:Option (Nat×Bool)}
end
section
variable {P:Program} {c:Base} {d ty:Nat} {pos:String} {af:Array Edge} {gd:Option (Nat×Bool)}
end
def cP (a b:Nat):Nat:=2 ^ a*(2*b+1)
theorem cP_pos {a b:Nat}:0 < cP a b:=Nat.mul_pos (Nat.pow_pos (by decide)) (by omega)
theorem cP_succ {a b:Nat}:cP (a+1) b=2*cP a b:=by rw [cP,cP,Nat.pow_succ,Nat.mul_comm (2 ^ a) 2,Nat.mul_assoc]
theorem cP_zero {b:Nat}:cP 0 b=2*b+1:=by simp [cP]
theorem cP_inj: ∀{a b a' b':Nat},cP a b=cP a' b'→a=a'∧b=b'
 | 0,b,0,b',h=>by rw [cP_zero,cP_zero] at h;exact ⟨rfl,by omega⟩
 | a+1,b,a'+1,b',h=>by
  rw [cP_succ,cP_succ] at h
  have:=cP_inj (a:=a) (b:=b) (a':=a') (b':=b') (by omega)
  exact ⟨by omega,this.2⟩
 | 0,b,a'+1,b',h=>by rw [cP_zero,cP_succ] at h;omega
 | a+1,b,0,b',h=>by rw [cP_zero,cP_succ] at h;omega
def cLs:List Nat→Nat
 | []=>0
 | x::r=>cP x (cLs r)
theorem cLs_inj: ∀{l m:List Nat},cLs l=cLs m→l=m
 | [],[],_=>rfl
 | [],y::s,h=>by simp only [cLs] at h;have:=cP_pos (a:=y) (b:=cLs s);omega
 | x::r,[],h=>by simp only [cLs] at h;have:=cP_pos (a:=x) (b:=cLs r);omega
 | x::r,y::s,h=>by
  simp only [cLs] at h
  obtain ⟨h1,h2⟩:=cP_inj h
  rw [h1,cLs_inj h2]
theorem map_injL {α β:Type} {f:α→β} (hf: ∀x y,f x=f y→x=y): ∀{l m:List α},l.map f=m.map f→l=m
 | [],[],_=>rfl
 | [],_::_,h=>by cases h
 | _::_,[],h=>by cases h
 | x::r,y::s,h=>by
  simp only [List.map_cons,List.cons.injEq] at h
  rw [hf x y h.1,map_injL hf h.2]
structure MK (α β:Type) where
  fk:α→Value
  fv:β→Value
  ca:α→Nat
  cb:β→Nat
  ja: ∀x y,ca x=ca y→x=y
  jb: ∀x y,cb x=cb y→x=y
structure MS (α β:Type) where
  b:Nat
  l:List (α×β)
  it:Option (Nat×List Nat)
variable {α β:Type}
def MK.ents (M:MK α β):Nat→List (α×β)→List MapEntry
 | _,[]=>[]
 | i,p::r=>⟨M.fk p.1,M.fv p.2,i⟩::M.ents (i+1) r
def MK.obj (M:MK α β) (l:List (α×β)):Obj:= .map (M.ents 0 l).toArray l.length
def MK.c2 (M:MK α β) (p:α×β):Nat:=cP (M.ca p.1) (M.cb p.2)
theorem MK.c2_inj (M:MK α β) (x y:α×β) (h:M.c2 x=M.c2 y):x=y:=by
 obtain ⟨h1,h2⟩:=cP_inj h
 exact Prod.ext (M.ja _ _ h1) (M.jb _ _ h2)
def cIt:Option (Nat×List Nat)→Nat
 | none=>0
 | some (r,q)=>cP r (cLs q)
theorem cIt_inj: ∀{x y:Option (Nat×List Nat)},cIt x=cIt y→x=y
 | none,none,_=>rfl
 | none,some (r,q),h=>by simp only [cIt] at h;have:=cP_pos (a:=r) (b:=cLs q);omega
 | some (r,q),none,h=>by simp only [cIt] at h;have:=cP_pos (a:=r) (b:=cLs q);omega
 | some (r,q),some (r',q'),h=>by
  obtain ⟨h1,h2⟩:=cP_inj h
  rw [h1,cLs_inj h2]
def MK.code (M:MK α β):Option (MS α β)→Nat
 | none=>0
 | some s=>cP s.b (cP (cLs (s.l.map M.c2)) (cIt s.it))
theorem MK.code_inj (M:MK α β): ∀{x y:Option (MS α β)},M.code x=M.code y→x=y
 | none,none,_=>rfl
 | none,some s,h=>by simp only [MK.code] at h;have:=cP_pos (a:=s.b) (b:=cP (cLs (s.l.map M.c2)) (cIt s.it));omega
 | some s,none,h=>by simp only [MK.code] at h;have:=cP_pos (a:=s.b) (b:=cP (cLs (s.l.map M.c2)) (cIt s.it));omega
 | some ⟨b,l,t⟩,some ⟨b',l',t'⟩,h=>by
  obtain ⟨h1,h2⟩:=cP_inj h
  obtain ⟨h3,h4⟩:=cP_inj h2
  have h1:b=b':=h1
  have h3:l=l':=map_injL M.c2_inj (cLs_inj h3)
  have h4:t=t':=cIt_inj h4
  rw [h1,h3,h4]
def MK.at (M:MK α β):Option (MS α β)→Dom→Dom→World→Prop
 | none,_,_,_=>True
 | some s,O,V,w=>(w.heap[s.b]? =some (M.obj s.l)∧V s.b∧ ¬O s.b)∧ ∀r q,s.it=some (r,q)→w.heap[r]? =some (.mapIter (some s.b) s.l.length q.toArray s.l.length)∧V r∧ ¬O r∧r≠s.b
def MK.J (M:MK α β) (n:Nat) (O V:Dom) (w:World):Prop:= ∃s,M.code s=n∧M.at s O V w
theorem MK.J_at (M:MK α β) {s:Option (MS α β)} {O V:Dom} {w:World}:M.J (M.code s) O V w↔M.at s O V w:=by
 constructor
 ·rintro ⟨t,h1,h2⟩
  rw [←M.code_inj h1];exact h2
 ·exact fun h=>⟨s,rfl,h⟩
theorem MK.Jc (M:MK α β):JcOf M.J:=by
 rintro n O O' V w w' ⟨s,h1,h2⟩ hs hO
 refine ⟨s,h1,?_⟩
 cases s with
 | none=>trivial
 | some s=>
  obtain ⟨⟨h3,h4,h5⟩,h6⟩:=h2
  have key: ∀b,b < w.heap.size→ ¬O b→ ¬O' b:=fun b hb h h'=>by
   rcases (hO b h').2 with h7 | h7
   ·exact h h7
   ·omega
  refine ⟨⟨(hs.block _ (xa5 h3) h5).trans h3,h4,key _ (xa5 h3) h5⟩,fun r q hr=> ?_⟩
  obtain ⟨h7,h8,h9,h10⟩:=h6 r q hr
  exact ⟨(hs.block _ (xa5 h7) h9).trans h7,h8,key _ (xa5 h7) h9,h10⟩
structure MB (M:MK α β) (c:Base) (K:Nat):Prop where
  yk:c.yk=some K
  ln:K∈c.ln
  c0:c.lη.c K=0
  ro:c.ro=none
  J:c.J=M.J
def Base.maps (N:Nat) (w:World) (F:Dom) (K:Nat) (M:MK α β):Base:=⟨N,w,F,[K],⟨fun _=>0,fun _=>0,fun _=>False⟩,fun _=>False,none,[],[],fun _=>False,some K,fun _=>False,M.J,M.Jc⟩
theorem MB.mk' {M:MK α β} {N K:Nat} {w:World} {F:Dom}:MB M (Base.maps N w F K M) K:=⟨rfl,by simp [Base.maps],rfl,rfl,rfl⟩
theorem Plain.maps {M:MK α β} {N K:Nat} {w:World} {F:Dom}:Plain (Base.maps N w F K M) w F:=⟨rfl,rfl,fun _ h=>h,fun _ h=>h,trivial⟩
section
variable {P:Program} {c:Base} {g:Slots} {h:Keys} {al:Names} {Q:Exit→Act→World→Prop} {M:MK α β} {K:Nat}
theorem wl_ghost {A:Array Oper} {rest:List Oper} {o:Oper} {d:Nat} {s:Option (MS α β)} {ι:Type} (p:ι→Prop) (t:ι→Ty) (s':ι→Option (MS α β)) (hB:MB M c K) (hdst:o.dst=some d)
  (hw: ∀a w η,St' c g h al a w η→Region.wanted o (yielded A a.tmps)=true) (hdN:Nat.blt d c.N=true) (hK:h K=some ⟨M.code s,1,false,[]⟩)
  (hrun: ∀a w η,St' c g h al a w η→M.at s (c.chg h η) η.vo w→ ∃i v w' V',(execOp a.eval o).run P w= .ok (.value v) w'∧Kept η.vo V' w w'∧M.at (s' i) (c.chg h η) V' w'∧(∀F,(t i).p F w' v)∧p i)
  (H: ∀i,p i→wl P c A Q rest (upd g d (some (.val (t i)))) (upd h K (some ⟨M.code (s' i),1,false,[]⟩)) al):wl P c A Q (o::rest) g h al:=fun a w ⟨η,st⟩=>by
 unfold wpListIn
 rw [if_pos (hw a w η st)]
 have hj:=st.jj K _ hB.yk hK
 rw [hB.J] at hj
 obtain ⟨i,v,w',V',h1,h2,h3,h4,h5⟩:=hrun a w η st (M.J_at.1 hj)
 refine xe3 h1 ?_
 have s2:=st.fed hB.yk hB.ln hB.c0 hK h2 (m:=M.code (s' i)) (by rw [hB.J];exact M.J_at.2 h3)
 rw [hdst]
 exact H i h5 _ _ ⟨_,s2.put (by simpa using hdN) (e:= .val (t i)) (h4 _) fun k hk=>by cases hk⟩
theorem wl_ghost0 {A:Array Oper} {rest:List Oper} {o:Oper} {s:Option (MS α β)} (s':Option (MS α β)) (hB:MB M c K) (hdst:o.dst=none)
  (hw: ∀a w η,St' c g h al a w η→Region.wanted o (yielded A a.tmps)=true) (hK:h K=some ⟨M.code s,1,false,[]⟩)
  (hrun: ∀a w η,St' c g h al a w η→M.at s (c.chg h η) η.vo w→ ∃w' V',(execOp a.eval o).run P w= .ok .skip w'∧Kept η.vo V' w w'∧M.at s' (c.chg h η) V' w')
  (H:wl P c A Q rest g (upd h K (some ⟨M.code s',1,false,[]⟩)) al):wl P c A Q (o::rest) g h al:=fun a w ⟨η,st⟩=>by
 unfold wpListIn
 rw [if_pos (hw a w η st)]
 have hj:=st.jj K _ hB.yk hK
 rw [hB.J] at hj
 obtain ⟨w',V',h1,h2,h3⟩:=hrun a w η st (M.J_at.1 hj)
 refine upon_skip h1 ?_
 have s2:=st.fed hB.yk hB.ln hB.c0 hK h2 (m:=M.code s') (by rw [hB.J];exact M.J_at.2 h3)
 rw [hdst]
 exact H _ _ ⟨_,s2⟩
end
variable {α β:Type} {M:MK α β}
theorem MK.ents_len (M:MK α β): ∀(l:List (α×β)) (i:Nat),(M.ents i l).length=l.length
 | [],_=>rfl
 | _::r,i=>by rw [MK.ents,List.length_cons,M.ents_len r];rfl
theorem MK.ents_get (M:MK α β): ∀(l:List (α×β)) (i j:Nat),(M.ents i l)[j]? =l[j]?.map fun p=>⟨M.fk p.1,M.fv p.2,i+j⟩
 | [],_,_=>by simp [MK.ents]
 | p::r,i,0=>by simp [MK.ents]
 | p::r,i,j+1=>by
  rw [MK.ents,List.getElem?_cons_succ,List.getElem?_cons_succ,M.ents_get r (i+1) j,show i+1+j=i+(j+1) by omega]
section
variable [DecidableEq α]
def getI (a:α):Nat→List (α×β)→Option (Nat×β)
 | _,[]=>none
 | i,p::r=>if a=p.1 then some (i,p.2) else getI a (i+1) r
theorem getI_some {a:α}: ∀{l:List (α×β)} {i j:Nat} {v:β},getI a i l=some (j,v)→i≤j∧l[j - i]? =some (a,v)
 | [],_,_,_,h=>by cases h
 | p::r,i,j,v,h=>by
  rw [getI] at h
  split at h
  ·rename_i e
   cases h
   exact ⟨Nat.le_refl _,by simp [e]⟩
  ·obtain ⟨h1,h2⟩:=getI_some h
   refine ⟨by omega,?_⟩
   rw [show j - i=(j - (i+1))+1 by omega,List.getElem?_cons_succ];exact h2
def getM (l:List (α×β)) (a:α):Option β:=(getI a 0 l).map (·.2)
def entV (z:β) (l:List (α×β)) (a:α):β:=((getI a 0 l).map (·.2)).getD z
def putM (l:List (α×β)) (a:α) (v:β):List (α×β):=match getI a 0 l with
 | some (i,_)=>l.set i (a,v)
 | none=>l++[(a,v)]
theorem find_ents {d:TypeDesc} (hs: ∀x y,Instr.sameNow d (M.fk x) (M.fk y)=some (decide (x=y))) (a:α): ∀(l:List (α×β)) (i:Nat),Instr.findNow d (M.fk a) (M.ents i l) i=some ((getI a i l).map fun x=>(x.1,M.fv x.2))
 | [],_=>rfl
 | p::r,i=>by
  rw [MK.ents,Instr.findNow,getI]
  by_cases h:a=p.1
  ·simp [hs,h]
  ·simp [hs,h,find_ents hs a r (i+1)]
end
structure MapF [DecidableEq α] (P:Program) (t:TypeId) (M:MK α β) (z:β):Prop where
  und: ∃kt e d,P.underlying t=some (.map kt e)∧P.underlying kt=some d∧(∀x y,Instr.sameNow d (M.fk x) (M.fk y)=some (decide (x=y)))∧(∀x,MapKept.IsKey d (M.fk x))∧(∀x,Instr.sameBits 10000 (M.fk x) (M.fk x)=true)∧ ∀w,(zeroValue e).run P w= .ok (M.fv z) w
section
variable {P:Program} {w:World} {b:Nat} {l:List (α×β)} [DecidableEq α] {t:TypeId} {z:β}
theorem run_lookupM (hf:MapF P t M z) (hb:w.heap[b]? =some (M.obj l)) (a:α):(Instr.lookup t (.map (some b)) (M.fk a) false).run P w= .ok (M.fv ((getM l a).getD z)) w:=by
 obtain ⟨kt,e,d,ht,hd,hs,hk,hy,hz⟩:=hf.und
 have h1:=MapKept.run_findKey (w:=w) hd (find_ents hs a l 0)
 have h2:=fun em=>MapKept.run_checkKey (w:=w) hd (hk a) em 9999
 have hb':w.heap[b]? =some (.map (M.ents 0 l).toArray l.length):=hb
 cases hg:getI a 0 l with
 | none=>simp [hg] at h1;simp [Instr.lookup,run_underlying ht,MapKept.run_getObj_map hb',h2,h1,hz,Result.andThen,getM,hg]
 | some x=>simp [hg] at h1;simp [Instr.lookup,run_underlying ht,MapKept.run_getObj_map hb',h2,h1,Result.andThen,getM,hg]
omit [DecidableEq α] in
theorem ents_push {p:α×β}:(M.ents 0 l).toArray.push ⟨M.fk p.1,M.fv p.2,l.length⟩=(M.ents 0 (l++[p])).toArray:=by
 apply Array.ext'
 rw [Array.toList_push]
 apply List.ext_getElem?
 intro i
 rw [M.ents_get]
 rcases Nat.lt_trichotomy i l.length with h | h | h
 ·rw [List.getElem?_append_left (by rw [M.ents_len];exact h),List.getElem?_append_left h,M.ents_get]
 ·subst h
  rw [List.getElem?_append_right (by rw [M.ents_len];exact Nat.le_refl _),List.getElem?_append_right (Nat.le_refl _),M.ents_len];simp
 ·rw [List.getElem?_append_right (by rw [M.ents_len];omega),List.getElem?_append_right (by omega),M.ents_len,List.getElem?_eq_none (by simp;omega),List.getElem?_eq_none (by simp;omega)];rfl
omit [DecidableEq α] in
theorem ents_set {i:Nat} {p:α×β} {f:MapEntry→MapEntry} (hf: ∀q,l[i]? =some q→f ⟨M.fk q.1,M.fv q.2,i⟩=⟨M.fk p.1,M.fv p.2,i⟩):(M.ents 0 l).modify i f=M.ents 0 (l.set i p):=by
 apply List.ext_getElem?
 intro j
 rw [M.ents_get,List.getElem?_modify,List.getElem?_set,M.ents_get]
 by_cases h:i=j
 ·subst h
  cases hq:l[i]? with
  | none=>
   have:l.length≤i:=List.getElem?_eq_none_iff.1 hq
   simp;omega
  | some q=>
   have:=(List.getElem?_eq_some_iff.1 hq).1
   simp [hf q hq,this]
 ·simp [h]
end
section
variable {P:Program} {w:World} {b:Nat} {l:List (α×β)} {t:TypeId}
end
section
variable {P:Program} {w:World} {b:Nat} {l:List (α×β)} [DecidableEq α] {t:TypeId} {z:β}
theorem run_updateM (hf:MapF P t M z) (hb:w.heap[b]? =some (M.obj l)) (a:α) (v:β):(Instr.mapUpdate t (.map (some b)) (M.fk a) (M.fv v)).run P w= .ok () (ChangeMaps.setBlock w b (M.obj (putM l a v))):=by
 obtain ⟨kt,e,d,ht,hd,hs,hk,hy,hz⟩:=hf.und
 have h1:=MapKept.run_findKey (w:=w) hd (find_ents hs a l 0)
 have h2:=fun em=>MapKept.run_checkKey (w:=w) hd (hk a) em 9999
 have hb':w.heap[b]? =some (.map (M.ents 0 l).toArray l.length):=hb
 have hset:=fun o=>MapKept.run_setObj_map (P:=P) o hb'
 cases hg:getI a 0 l with
 | none=>
  simp [hg] at h1
  have hp:=ents_push (M:=M) (l:=l) (p:=(a,v))
  simp [Instr.mapUpdate,run_underlying ht,MapKept.run_getObj_map hb',h2,h1,hset,Result.andThen,putM,hg,ChangeMaps.setBlock,MK.obj]
  rw [←hp];simp
 | some x=>
  obtain ⟨i,u⟩:=x
  have hi:=(getI_some hg).2
  simp only [Nat.sub_zero] at hi
  simp [hg] at h1
  have he:(M.ents 0 l)[i]? =some ⟨M.fk a,M.fv u,i⟩:=by rw [M.ents_get,hi];simp
  have hm:=ents_set (M:=M) (l:=l) (i:=i) (p:=(a,v)) (f:=fun e=>{e with key:=M.fk a,val:=M.fv v}) (fun q hq=>by rfl)
  simp [Instr.mapUpdate,run_underlying ht,MapKept.run_getObj_map hb',h2,h1,he,Instr.keyThatStays,hy,hset,Result.andThen,putM,hg,ChangeMaps.setBlock,MK.obj,hm]
end
theorem stp_set {V:Dom} {w:World} {b:Nat} {o:Obj} (hV:V b):Stp V w (ChangeMaps.setBlock w b o):=⟨rfl,rfl,rfl,by simp [ChangeMaps.setBlock],fun x _ hx=>by
 show (w.heap.setIfInBounds b o)[x]? =_
 rw [Array.getElem?_setIfInBounds,if_neg (fun e=>hx (by rw [←e];exact hV))]⟩
theorem set_same {w:World} {b:Nat} {o o':Obj} (hb:w.heap[b]? =some o):(ChangeMaps.setBlock w b o').heap[b]? =some o':=(MapKept.heap_set hb).1
section
variable {P:Program} {c:Base} {g:Slots} {h:Keys} {al:Names} {Q:Exit→Act→World→Prop} {K:Nat} {A:Array Oper} {rest:List Oper} {d ty:Nat} {pos:String} {af:Array Edge} {gd:Option (Nat×Bool)} {t:TypeId} {b:Nat} {l:List (α×β)}
theorem kept_same {a:Act} {w w':World} {η:Env} (st:St' c g h al a w η) (hs:Stp η.vo w w'):Kept η.vo η.vo w w':=
 ⟨hs,fun _ h=>h,fun b hb=>⟨Nat.lt_of_lt_of_le (st.fr.vnew b hb).1 hs.size,.inl hb⟩⟩
theorem kept_new {a:Act} {w:World} {η:Env} (o:Obj) (st:St' c g h al a w η):Kept η.vo (fun x=>η.vo x∨x=w.heap.size) w (w.alloc o):=
 ⟨⟨rfl,rfl,rfl,by simp,fun b hb _=>(MapKept.heap_alloc w o).2 b hb⟩,fun _ h=> .inl h,fun b hb=>by
  rcases hb with hb | rfl
  ·exact ⟨by have:=(st.fr.vnew b hb).1;simp;omega,.inl hb⟩
  ·exact ⟨by simp,.inr (Nat.le_refl _)⟩⟩
theorem wl_makeM (hB:MB M c K) (hw: ∀a w η,St' c g h al a w η→Region.wanted ⟨some d,.makeMap t none,ty,pos,af,gd⟩ (yielded A a.tmps)=true) (hdN:Nat.blt d c.N=true) (hK:h K=some ⟨0,1,false,[]⟩)
  (H: ∀b,wl P c A Q rest (upd g d (some (.val (tE (.map (some b)))))) (upd h K (some ⟨M.code (some ⟨b,[],none⟩),1,false,[]⟩)) al):wl P c A Q (⟨some d,.makeMap t none,ty,pos,af,gd⟩::rest) g h al:=
 wl_ghost (s:=none) (fun _=>True) (fun b=>tE (.map (some b))) (fun b=>some ⟨b,[],none⟩) hB rfl hw hdN hK (fun a w η st _=>⟨w.heap.size,_,_,_,rfl,kept_new _ st,⟨⟨(MapKept.heap_alloc w _).1,.inr rfl,fun hO=>absurd (st.chg_lt hO) (Nat.lt_irrefl _)⟩,fun r q hr=>by cases hr⟩,fun _=>rfl,trivial⟩) fun b _=>H b
end
theorem Ct.introM {P:Program} {f:FuncId} {fn:Func} {x:Code} {N:Nat} {ts:List Ty} {r:Ty} (M:MK α β) (K:Nat) (hf:P.funcs[f]? =some fn) (hb:fn.body=some x) (hN:fn.ntmps=N) (hlb:Nat.ble ts.length N=true)
  (H: ∀w F,MB M (Base.maps N w F K M) K→wc P (Base.maps N w F K M) x (Post P w F fn r) (args 0 ts) (upd (fun _=>none) K (some ⟨0,1,false,[]⟩)) (nm [K])):Ct P f ts r:=by
 intro F w vs hvs
 have hl:ts.length≤N:=Nat.le_of_ble_eq_true hlb
 have hlen:vs.length=ts.length:=by
  clear H hlb hl
  induction ts generalizing vs with
  | nil=>cases vs with
   | nil=>rfl
   | cons=>exact hvs.elim
  | cons t r ih=>cases vs with
   | nil=>exact hvs.elim
   | cons v s=>simp [ih s hvs.2]
 have hkey: ∀k y,upd (fun _=>none) K (some (⟨0,1,false,[]⟩:HEnt)) k=some y→k=K∧y=⟨0,1,false,[]⟩:=fun k y hy=>by
  by_cases hk:k=K
  ·subst hk;rw [xa7] at hy;cases hy;exact ⟨rfl,rfl⟩
  ·rw [xa4 _ _ _ hk] at hy;cases hy
 have hK:memN K [K]=true:=xb5.2 (by simp)
 have hown: ∀b,¬Own (upd (fun _=>none) K (some (⟨0,1,false,[]⟩:HEnt))) ⟨fun _=>0,fun _=>0,fun _=>False⟩ b:=by
  rintro b ⟨k,y,_,hc,_⟩
  exact absurd hc (Nat.lt_irrefl 0)
 refine xo3 hf hb (H w F MB.mk' _ w ⟨⟨fun _=>0,fun _=>0,fun _=>False⟩,?_⟩)
 refine ⟨?_,rfl,fun s e hs=> ?_,fun k x hx=> ?_,fun k k' x x' hx _ _ hc=>absurd hc (Nat.lt_irrefl 0),⟨rfl,rfl,rfl,Nat.le_refl _,fun _ _ _ _=>rfl,fun _ hb=>hb,fun _ hb=>hb.elim⟩,fun k hk=> ?_,fun x hx=>(by cases hx),fun b hb=>hb.elim,fun k hk=> ?_,fun k x hk hx=> ?_,fun b hb=>hb.elim⟩
 ·simp [hlen,hN,Base.maps];omega
 ·obtain ⟨j,t,h1,h2,h3⟩:=args_spec ts 0 s e hs
  subst h3
  have hj:j < ts.length:=(List.getElem?_eq_some_iff.1 h2).1
  obtain ⟨v,hv,hp⟩:=Tup.get ts vs j t hvs h2
  refine ⟨by show s < N;omega,fun k hk=>(by cases hk),?_⟩
  have e1:(vs.toArray++Array.replicate (fn.ntmps - vs.toArray.size) undef).getD s undef=v:=by
   rw [Array.getD_eq_getD_getElem?,Array.getElem?_append,if_pos (by simp;omega)]
   rw [h1,Nat.zero_add,List.getElem?_toArray,hv];rfl
  show t.p _ w _
  simp only [e1]
  exact t.mono hp fun b o hb hl _=>⟨⟨.inr ⟨hb,fun hv=>hv⟩,hown b,fun hv=>hv,fun hv=>hv⟩,hl⟩
 ·obtain ⟨rfl,rfl⟩:=hkey k x hx
  exact ⟨hK,fun j hj=>(by cases hj),⟨by simp,by simp,fun _=>rfl,by simp,fun hc=>absurd hc (Nat.lt_irrefl 0)⟩,fun hc=>absurd hc (Nat.lt_irrefl 0)⟩
 ·have hk:k∈[K]:=hk
  rw [List.mem_singleton.1 hk]
  exact ⟨hK,rfl,rfl⟩
 ·have hk:some K=some k:=hk
  cases hk
  exact hK
 ·have hk:some K=some k:=hk
  cases hk
  rw [xa7] at hx
  cases hx
  exact (M.J_at (s:=none)).2 trivial
variable {α β:Type}
def tMp (M:MK α β):Option (List (α×β))→Ty
 | none=>tE (.map none)
 | some l=>⟨fun F w v=> ∃b,v= .map (some b)∧F b∧w.heap[b]? =some (M.obj l),fun ⟨b,h1,h2,h3⟩ hk=>let h4:=hk b _ h2 h3 rfl;⟨b,h1,h4.1,h4.2⟩⟩
section
variable {P:Program} {c:Base} {d ty:Nat} {pos:String} {af:Array Edge} {gd:Option (Nat×Bool)} {M:MK α β} {g:Slots} {h:Keys} {al:Names}
theorem d_lookupG [DecidableEq α] {t:TypeId} {z:β} {x y:Operand} (hf:MapF P t M z) (l:List (α×β)) (a:α):
  Does P c ⟨some d,.lookup t x y false,ty,pos,af,gd⟩ ⟨[(x,.val (tMp M (some l))),(y,.val (tE (M.fk a)))],[],some (d,some (.val (tE (M.fv (entV z l a))))),[],[]⟩:=
 Does.value rfl fun g h al a' w η hrd hkr st=>by
  obtain ⟨b,e1,_,h1⟩:=(xa0 st hrd.1).1
  have e1:a'.eval x= .map (some b):=e1
  have e2:a'.eval y=M.fk a:=(xa0 st hrd.2.1).1
  refine ⟨_,w,?_,Ext.refl w,rfl,fun k hk=>by cases hk⟩
  simp only [execOp,e1,e2,Sem.run_bind,run_lookupM hf h1,Result.andThen];rfl
end
theorem beqBA (a b:ByteArray):(a==b)=decide (a=b):=by
 by_cases h:a=b
 ·subst h;rw [decide_eq_true rfl];rcases a with ⟨d⟩;show (d==d)=true;simp
 ·rw [decide_eq_false h];rcases a with ⟨d⟩;rcases b with ⟨e⟩;show (d==e)=false;exact beq_false_of_ne fun h2=>h (by rw [h2])
def caS (s:ByteArray):Nat:=cLs (s.data.toList.map UInt8.toNat)
theorem caS_inj (x y:ByteArray) (h:caS x=caS y):x=y:=by
 have h1:=map_injL (f:=UInt8.toNat) (fun a b e=>UInt8.toNat_inj.1 e) (cLs_inj h)
 rcases x with ⟨a⟩;rcases y with ⟨b⟩
 exact congrArg ByteArray.mk (Array.toList_inj.1 h1)
end An
namespace An.S
open Go
def fRight (f:Fa):Bool:=decide (1≤f.key.size) && decide (f.key.size≤24) && decide (0≤f.lo) && decide (f.lo < f.hi) && decide (f.hi≤65536) && decide (0≤f.kn) && decide (f.kn < 65536) && if f.gone=true then decide (f.v=An.va0) else f.v.valid
def kGet (m:List (ByteArray×Nat)) (k:ByteArray):Nat:=entV 0 m k
def kAdd (m:List (ByteArray×Nat)) (f:Fa):List (ByteArray×Nat):=putM m f.key (max (kGet m f.key) f.v.kind)
def kM (a:List Fa):List (ByteArray×Nat):=a.foldl kAdd []
def kBad (m:List (ByteArray×Nat)) (f:Fa):Bool:=decide (kGet m f.key≠0) && !f.gone && decide (kGet m f.key≠f.v.kind)
def kOk (a:List Fa):Bool:=(List.range a.length).all fun i=> !kBad (kM (a.take i)) (a.getD i fa0)
theorem kBad_iff {m:List (ByteArray×Nat)} {f:Fa}:kBad m f=true↔kGet m f.key≠0∧f.gone=false∧kGet m f.key≠f.v.kind:=by
 simp only [kBad,Bool.and_eq_true,decide_eq_true_eq,Bool.not_eq_true',and_assoc]
def recOk (a:List Fa):Bool:=decide (a.length≤2000) && a.all fRight && kOk a
theorem mem_getDF {l:List Fa} {i:Nat} (hi:i < l.length):l.getD i fa0∈l:=by
 rw [List.getD_eq_getElem?_getD,List.getElem?_eq_getElem hi];exact List.getElem_mem hi
end An.S
namespace An
open Go
section
variable {P:Program} {c:Base} {g:Slots} {h:Keys} {al:Names} {d ty:Nat} {pos:String} {af:Array Edge} {Q:Exit→Act→World→Prop}
end
section
variable {α:Type} (L:Nat→List α) (m:Nat→Nat→α) (d:α)
variable {L m d}
end
section
variable {n es k:Nat} {κ len:Nat→Nat} {t0:Nat→Ent}
end
section
variable {P:Program} {c:Base} {g:Slots} {h:Keys} {al:Names} {a:Act} {w:World} {η:Env}
theorem St'.giveL (s:St' c g h al a w η) {k:Nat} {T es off len:Nat} {agg:Bool} {ts:List Ent} {α:Type} {f:α→Ty} {xs:List α} (hk:h k=some ⟨T,es,agg,ts⟩) (hlb:0 < η.c k→ ¬c.lb (η.b k))
  (hts:(ts.drop off).take len=xs.map fun x=> .val (f x)) (hl:xs.length=len) {v:Value} (hv:(Ent.own (.sl k es off len)).sat (c.dom h η) w η v):(tL es agg f xs).p (c.dom (upd h k none) η) w v:=by
 subst hl
 obtain ⟨A,h1,h2,h3⟩:=hv
 obtain ⟨h4,h5,⟨h6,h7,h8,h9,h10⟩,h11⟩:=s.key k _ hk
 simp only at h7 h8 h9 h10
 refine ⟨A,_,h1,by omega,by omega,?_⟩
 rcases Nat.eq_zero_or_pos xs.length with h0 | h0
 ·exact .inl (List.eq_nil_of_length_eq_zero h0)
 ·have hc:0 < η.c k:=by omega
  obtain ⟨cs,e1,e2,e3⟩:=h10 hc
  obtain ⟨d1,d2,d3⟩:=h11 hc
  have d1:c.w0.heap.size≤η.b k:=d1.resolve_right (hlb hc)
  refine .inr ⟨η.b k,off*es,h3 (by omega),⟨.inl d1,?_,d2,d3⟩,fun i x hi=> ?_⟩
  ·rintro ⟨j,y,hj,hcj,e⟩
   by_cases hjk:j=k
   ·subst hjk;rw [xa7] at hj;cases hj
   ·rw [xa4 _ _ _ hjk] at hj
    exact s.inj j k y _ hj hk hjk hcj hc e.symm
  ·have hil:i < xs.length:=(List.getElem?_eq_some_iff.1 hi).1
   have he:=e3 (off+i) _ (map_get hts i x hi)
   have hle:off*es+i*es+es≤cs.size:=by
    rw [e2,←Nat.add_mul,←Nat.succ_mul];exact Nat.mul_le_mul_right _ (by omega)
   refine ⟨_,⟨cs,_,_,e1,hle,h7,h8,rfl⟩,?_⟩
   rw [←Nat.add_mul]
   exact (f x).mono he (Keep.drop k)
theorem C_giveL {Q:Exit→Act→World→Prop} {x:Code} {t k T es off len:Nat} {agg:Bool} {ts:List Ent} {α:Type} {f:α→Ty} {xs:List α} (hg:g t=some (.own (.sl k es off len))) (hk:h k=some ⟨T,es,agg,ts⟩)
  (hlb: ∀b,c.lb b→ ∃j y,j∈c.ln∧j≠k∧h j=some y∧0 < c.lη.c j∧b=c.lη.b j)
  (hts:(ts.drop off).take len=xs.map fun x=> .val (f x)) (hl:xs.length=len) (H:wc P c x Q (upd g t (some (.val (tL es agg f xs)))) (upd h k none) al):wc P c x Q g h al:=fun a w ⟨η,s⟩=>by
 have h2:=s.giveL hk (fun hc hb=>by
  obtain ⟨j,y,h1,h2,h3,h4,h5⟩:=hlb _ hb
  obtain ⟨_,e1,e2⟩:=s.lk j h1
  exact s.inj j k y _ h3 hk h2 (by rw [e2];exact h4) hc (by rw [e1,←h5])) hts hl (s.slot t _ hg).2.2
 have s2:=(s.drop k).put (s.slot t _ hg).1 (e:= .val (tL es agg f xs)) h2 fun j hj=>by cases hj
 refine H a w ⟨η,?_⟩
 have e:a.put (some t) (a.tmps.getD t undef)=a:=by
  have hlt:t < a.tmps.size:=by rw [s.tn];exact (s.slot t _ hg).1
  have:a.tmps.setIfInBounds t (a.tmps.getD t undef)=a.tmps:=by
   apply Array.ext_getElem?
   intro i
   rw [Array.getElem?_setIfInBounds]
   by_cases hi:t=i
   ·subst hi;simp [hlt]
   ·simp [hi]
  simp only [Act.put,this]
 rwa [e] at s2
end
section
variable {P:Program} {c:Base} {d ty:Nat} {pos:String} {af:Array Edge} {gd:Option (Nat×Bool)}
end
section
variable {P:Program} {c:Base} {d ty:Nat} {pos:String} {af:Array Edge} {gd:Option (Nat×Bool)}
end
section
variable {P:Program} {c:Base} {g:Slots} {h:Keys} {al:Names} {Q:Exit→Act→World→Prop}
end
end An
namespace An.S
open Go Go.Proofs An
instance fo59_4:FoI Tryz.prog 59 4 4:=⟨by kernel_rfl⟩
instance fo59_5:FoI Tryz.prog 59 5 5:=⟨by kernel_rfl⟩
end An.S
namespace An.S
open Go
def w8 (n:Nat):UInt8:=UInt8.ofNat n
theorem w8_nat {n:Nat} (h:n < 256):(w8 n).toNat=n:=by simp [w8];omega
theorem w8_inj {m n:Nat} (hm:m < 256) (hn:n < 256) (h:w8 m=w8 n):m=n:=by
 have:=congrArg UInt8.toNat h
 rwa [w8_nat hm,w8_nat hn] at this
def decB (n:Nat):List UInt8:=if n < 10 then [w8 (48+n)] else [w8 (48+n / 10),w8 (48+n%10)]
def limB (x:Nat):List UInt8:=[w8 (x / 256),w8 (x%256)]
def booB (b:Bool):List UInt8:=if b=true then [116,114,117,101] else [102,97,108,115,101]
def limsB (l:List Nat):List UInt8:=l.flatMap limB
def whB (n:Wh):List UInt8:=32::(booB n.neg++32::(decB n.l.length++limsB n.l))
def txOk (v:Va):Prop:=0≤v.i∧v.i < 100∧v.f.n.l.length < 10∧v.f.d.l.length < 10∧v.f.dig
theorem boo_inj {b c:Bool} {r s:List UInt8} (h:booB b++r=booB c++s):b=c∧r=s:=by
 cases b <;> cases c <;> simp only [booB,Bool.false_eq_true,if_false,if_true,List.cons_append,List.nil_append,List.cons.injEq] at h
 ·exact ⟨rfl,h.2.2.2.2.2⟩
 ·exact absurd h.1 (by decide)
 ·exact absurd h.1 (by decide)
 ·exact ⟨rfl,h.2.2.2.2⟩
theorem xq1 {l:List Nat}:(limsB l).length=2*l.length:=by
 induction l with
 | nil=>rfl
 | cons x r ih=>rw [limsB,List.flatMap_cons,List.length_append,←limsB,ih];simp [limB];omega
theorem lims_inj: ∀{l m:List Nat},(∀x∈l,x < 65536)→(∀x∈m,x < 65536)→limsB l=limsB m→l=m
 | [],[],_,_,_=>rfl
 | [],y::s,_,_,h=>by have:=congrArg List.length h;rw [xq1,xq1] at this;simp at this
 | x::r,[],_,_,h=>by have:=congrArg List.length h;rw [xq1,xq1] at this;simp at this
 | x::r,y::s,h1,h2,h=>by
  have e: ∀(a:Nat) (t:List Nat),limsB (a::t)=w8 (a / 256)::w8 (a%256)::limsB t:=fun a t=>by simp [limsB,limB]
  rw [e,e] at h
  simp only [List.cons.injEq] at h
  have b1:=h1 x (List.mem_cons_self ..)
  have b2:=h2 y (List.mem_cons_self ..)
  have g1:=w8_inj (by omega) (by omega) h.1
  have g2:=w8_inj (by omega) (by omega) h.2.1
  rw [lims_inj (fun z hz=>h1 z (List.mem_cons_of_mem _ hz)) (fun z hz=>h2 z (List.mem_cons_of_mem _ hz)) h.2.2,show x=y by omega]
theorem wh_inj {x y:Wh} {r s:List UInt8} (hx:x.l.length < 10) (hy:y.l.length < 10) (dx: ∀z∈x.l,z < 65536) (dy: ∀z∈y.l,z < 65536) (h:whB x++r=whB y++s):x=y∧r=s:=by
 unfold whB at h
 simp only [List.cons_append,List.cons.injEq,List.append_assoc,true_and] at h
 obtain ⟨h1,h2⟩:=boo_inj h
 simp only [List.cons.injEq,true_and] at h2
 unfold decB at h2
 rw [if_pos hx,if_pos hy] at h2
 simp only [List.cons_append,List.nil_append,List.cons.injEq] at h2
 have h3:=w8_inj (by omega) (by omega) h2.1
 have h4:=List.append_inj h2.2 (by rw [xq1,xq1];omega)
 have h5:=lims_inj dx dy h4.1
 rcases x with ⟨a,l⟩;rcases y with ⟨b,m⟩
 simp only at h1 h5
 subst h1 h5
 exact ⟨rfl,h4.2⟩
end An.S
namespace An
open Go
def tLK {α:Type} (es:Nat) (agg:Bool) (f:α→Ty) (xs ms:List α):Ty:=
 ⟨fun F w v=> ∃A c,v= .slice A xs.length c∧(tL es agg f (xs++ms)).p F w (.slice A (xs.length+ms.length) c),fun ⟨A,c,h1,h2⟩ hk=>⟨A,c,h1,(tL es agg f (xs++ms)).mono h2 hk⟩⟩
instance {α:Type} {es:Nat} {agg:Bool} {f:α→Ty} {xs ms:List α}:Shape (tLK es agg f xs ms) 1 false:=⟨fun ⟨_,_,h,_⟩=>by rw [h];exact xd1 rfl⟩
section
variable {P:Program} {c:Base} {d ty:Nat} {pos:String} {af:Array Edge} {gd:Option (Nat×Bool)}
end
def tG (G:Dom) (t:Ty):Ty:=⟨fun F w v=>t.p (fun b=>F b∧G b) w v,fun h hk=>t.mono h fun b o hb hl hd=>⟨⟨(hk b o hb.1 hl hd).1,hb.2⟩,(hk b o hb.1 hl hd).2⟩⟩
instance {G:Dom} {t:Ty} {n:Nat} {agg:Bool} [h:Shape t n agg]:Shape (tG G t) n agg:=⟨fun hp=>h.flat (F:=fun b=>_∧G b) hp⟩
abbrev up (n:Nat):Dom:=fun b=>n≤b
section
variable {P:Program}
variable {c:Base} {d ty:Nat} {pos:String} {af:Array Edge} {gd:Option (Nat×Bool)}
end
section
variable {P:Program} {c:Base} {d ty:Nat} {pos:String} {af:Array Edge} {gd:Option (Nat×Bool)}
end
section
variable {P:Program} {c:Base} {g:Slots} {h:Keys} {al:Names} {d ty:Nat} {pos:String} {af:Array Edge} {gd:Option (Nat×Bool)}
end
structure OvJ where
  D:Dom
  J:Nat→World→Prop
  loc: ∀n w w',J n w→w.heap.size≤w'.heap.size→(∀b,D b→b < w.heap.size→w'.heap[b]? =w.heap[b]?)→J n w'
section
variable {P:Program} {X:OvJ}
variable {c:Base} {g:Slots} {h:Keys} {al:Names} {d ty:Nat} {pos:String} {af:Array Edge} {gd:Option (Nat×Bool)}
end
def tLW {α:Type} (T es:Nat) (agg:Bool) (f:α→Ty) (xs ms:List α):Ty:=
  ⟨fun F w v=> ∃b c cs,v= .slice (some ⟨b,0,none⟩) xs.length c∧F b∧w.heap[b]? =some (.cells cs T (0,0))∧cs.size=c*es∧0 < es∧(agg=false→es=1)∧xs.length+ms.length≤c∧c≤9223372036854775807∧
      ∀i x,(xs++ms)[i]? =some x→(f x).p (fun b'=>F b'∧b'≠b) w (pick agg es cs (i*es)),
   fun ⟨b,c,cs,h1,hF,hh,h2,h3,h4,h5,h6,hx⟩ hk=>⟨b,c,cs,h1,(hk b _ hF hh rfl).1,(hk b _ hF hh rfl).2,h2,h3,h4,h5,h6,fun i x hi=>(f x).mono (hx i x hi) fun b' o hb hl hd=>⟨⟨(hk b' o hb.1 hl hd).1,hb.2⟩,(hk b' o hb.1 hl hd).2⟩⟩⟩
instance {α:Type} {T es:Nat} {agg:Bool} {f:α→Ty} {xs ms:List α}:Shape (tLW T es agg f xs ms) 1 false:=⟨fun ⟨_,_,_,h,_⟩=>by rw [h];exact xd1 rfl⟩
section
variable {P:Program} {c:Base} {d ty:Nat} {pos:String} {af:Array Edge} {gd:Option (Nat×Bool)}
end
abbrev VM:=Nat→Option (Nat×Nat)
def tSlV (V:VM) (n:Nat):Ty:=⟨fun _ _ v=> ∃b m c,v= .slice (some ⟨b,0,none⟩) n c∧V b=some (m,c)∧n+12≤m,fun h _=>h⟩
instance {V:VM} {n:Nat}:Shape (tSlV V n) 1 false:=⟨fun ⟨_,_,_,h,_⟩=>by rw [h];exact xd1 rfl⟩
open Classical in
section
variable {P:Program} {g:Slots} {h:Keys} {al:Names} {Q:Exit→Act→World→Prop}
end
section
variable {P:Program} {c:Base} {d ty:Nat} {pos:String} {af:Array Edge} {gd:Option (Nat×Bool)}
end
section
variable {P:Program} {c:Base} {d ty:Nat} {pos:String} {af:Array Edge} {gd:Option (Nat×Bool)}
end
section
variable {P:Program} {c:Base} {g:Slots} {h:Keys} {al:Names} {Q:Exit→Act→World→Prop}
end
section
variable {P:Program} {c:Base} {d ty:Nat} {pos:String} {af:Array Edge} {gd:Option (Nat×Bool)}
end
section
variable {P:Program} {c:Base} {g:Slots} {h:Keys} {al:Names} {Q:Exit→Act→World→Prop}
end
section
variable {P:Program} {c:Base} {d ty:Nat} {pos:String} {af:Array Edge} {gd:Option (Nat×Bool)}
end
section
variable {P:Program} {c:Base} {g:Slots} {h:Keys} {al:Names} {Q:Exit→Act→World→Prop}
end
section
variable {P:Program} {c:Base} {d ty:Nat} {pos:String} {af:Array Edge} {gd:Option (Nat×Bool)}
end
end An
namespace An.S
open Go Go.Proofs An
theorem wh_len {v:Va} {i:Nat} (h:txOk v) (hi:i < 2):([v.f.n,v.f.d].getD i ⟨false,[]⟩).l.length < 10∧ ∀x∈([v.f.n,v.f.d].getD i ⟨false,[]⟩).l,x < 65536:=by
 rcases (show i=0∨i=1 by omega) with rfl | rfl
 ·exact ⟨h.2.2.1,h.2.2.2.2.1⟩
 ·exact ⟨h.2.2.2.1,h.2.2.2.2.2⟩
end An.S
namespace An.S
open Go
end An.S
namespace An.S
open Go Go.Proofs An
end An.S
namespace An.S
open Go
theorem segL_len {g:Int→Option Va} (ds:List Int):(segL g ds).length≤ds.length:=by
 rw [segL_N]
 have:=segN_len (g:=g) (ds:=ds) (ds.length - 1)
 omega
section
variable {α:Type} {k:α→Int}
end
end An.S
namespace An
open Go
structure Ev where
  knd:Nat
  kn:Int
  job:Int
  day:Int
  hi:Int
  part:Fr
  pay:Fr
  nr:Int
deriving DecidableEq
def ev0:Ev:=⟨0,0,0,0,0,fr0,fr0,0⟩
abbrev tEv (e:Ev):Ty:=tS [⟨1,false,tE (.int .u8 (e.knd:Int))⟩,⟨1,false,tI e.kn⟩,⟨1,false,tI e.job⟩,⟨1,false,tI e.day⟩,⟨1,false,tI e.hi⟩,⟨4,true,tFr e.part⟩,⟨4,true,tFr e.pay⟩,⟨1,false,tI e.nr⟩]
def uJob (k:Nat):Bool:=decide (1≤k) && decide (k≤5)
def uDay (k:Nat):Bool:=decide (1≤k) && decide (k≤6)
def uTo (k:Nat):Bool:=decide (k=3) || decide (k=5)
def uPart (k:Nat):Bool:=decide (k=1) || decide (k=3) || decide (k=6)
def uPay (k:Nat):Bool:=decide (k=1) || decide (k=4)
def uOf (k:Nat):Bool:=decide (k=7)
def eBlank (f:Fr):Bool:=(!f.n.neg && decide (f.n.l.length=0)) && (!f.d.neg && decide (f.d.l.length=0))
def eExact (f:Fr):Bool:=f.valid && !f.n.neg && decide (f.n.l.length≤2) && decide (f.d.l.length≤2)
def eNum (u:Bool) (n lo hi:Int):Bool:=if u=true then decide (lo≤n) && decide (n≤hi) else decide (n=0)
def eFrc (u:Bool) (f:Fr):Bool:=if u=true then eExact f else eBlank f
def xOk (x:Ev) (i:Nat):Bool:=
 (decide (1≤x.knd) && decide (x.knd≤7)) && decide (0≤x.kn) && decide (x.kn < 65536) && eNum (uJob x.knd) x.job 1 8 && eNum (uDay x.knd) x.day 0 65535 &&
 eNum (uTo x.knd) x.hi (x.day+1) 65536 && eNum (uOf x.knd) x.nr 1 i && eFrc (uPart x.knd) x.part && eFrc (uPay x.knd) x.pay &&
 !(uPart x.knd && decide (x.knd≠6) && decide (1 < x.part.rat))
def eRight (l:List Ev) (i:Nat):Bool:=xOk (l.getD i ev0) i && (!uOf (l.getD i ev0).knd || decide ((l.getD ((l.getD i ev0).nr - 1).toNat ev0).kn≤(l.getD i ev0).kn))
def eVal (l:List Ev):Bool:=decide (l.length≤100) && (List.range l.length).all (eRight l)
def liveS (l:List Ev) (kn:Int):Nat→List Bool×List Bool
 | 0=>(List.replicate l.length false,List.replicate l.length false)
 | k+1=>
  if kn < (l.getD (l.length - 1 - k) ev0).kn∨(liveS l kn k).2.getD (l.length - 1 - k) false=true then liveS l kn k
  else ((liveS l kn k).1.set (l.length - 1 - k) true,if (l.getD (l.length - 1 - k) ev0).knd=7 then (liveS l kn k).2.set ((l.getD (l.length - 1 - k) ev0).nr - 1).toNat true else (liveS l kn k).2)
def live (l:List Ev) (kn:Int):List Bool:=(liveS l kn l.length).1
def frc (l:List Ev) (kn:Int) (i:Nat):Bool:=(live l kn).getD i false
def infI (l:List Ev) (kn:Int):List Nat:=(List.range l.length).filter (frc l kn)
def inf (l:List Ev) (kn:Int):List Ev:=(infI l kn).map fun i=>l.getD i ev0
theorem liveS_len {l:List Ev} {kn:Int}: ∀k,(liveS l kn k).1.length=l.length∧(liveS l kn k).2.length=l.length
 | 0=>by simp [liveS]
 | k+1=>by
  have ih:=liveS_len (l:=l) (kn:=kn) k
  rw [liveS]
  split
  ·exact ih
  ·refine ⟨by rw [List.length_set];exact ih.1,?_⟩
   show (if _ then _ else _:List Bool).length=_
   split
   ·rw [List.length_set];exact ih.2
   ·exact ih.2
theorem live_len {l:List Ev} {kn:Int}:(live l kn).length=l.length:=(liveS_len _).1
theorem mem_getE {l:List Ev} {i:Nat} (hi:i < l.length):l.getD i ev0∈l:=by
 rw [List.getD_eq_getElem?_getD,List.getElem?_eq_getElem hi];exact List.getElem_mem hi
theorem eVal_at {l:List Ev} (h:eVal l=true) {i:Nat} (hi:i < l.length):eRight l i=true:=by
 rw [eVal,Bool.and_eq_true] at h
 exact List.all_eq_true.1 h.2 i (List.mem_range.2 hi)
theorem eVal_len {l:List Ev} (h:eVal l=true):l.length≤100:=by
 rw [eVal,Bool.and_eq_true] at h
 exact of_decide_eq_true h.1
structure EOk (l:List Ev) (i:Nat):Prop where
  k1:1≤(l.getD i ev0).knd
  k2:(l.getD i ev0).knd≤7
  n1:0≤(l.getD i ev0).kn
  n2:(l.getD i ev0).kn < 65536
  jb:eNum (uJob (l.getD i ev0).knd) (l.getD i ev0).job 1 8=true
  dy:eNum (uDay (l.getD i ev0).knd) (l.getD i ev0).day 0 65535=true
  up:eNum (uTo (l.getD i ev0).knd) (l.getD i ev0).hi ((l.getD i ev0).day+1) 65536=true
  nm:eNum (uOf (l.getD i ev0).knd) (l.getD i ev0).nr 1 i=true
  pt:eFrc (uPart (l.getD i ev0).knd) (l.getD i ev0).part=true
  py:eFrc (uPay (l.getD i ev0).knd) (l.getD i ev0).pay=true
  p1:uPart (l.getD i ev0).knd=true→(l.getD i ev0).knd≠6→ ¬1 < (l.getD i ev0).part.rat
  vo:(l.getD i ev0).knd=7→(l.getD ((l.getD i ev0).nr - 1).toNat ev0).kn≤(l.getD i ev0).kn
theorem xd4 {l:List Ev} {i:Nat}:eRight l i=true↔EOk l i:=by
 simp only [eRight,xOk,Bool.and_eq_true,decide_eq_true_eq,Bool.not_eq_true',Bool.and_eq_false_iff,decide_eq_false_iff_not,Bool.or_eq_true,uOf]
 constructor
 ·rintro ⟨⟨⟨⟨⟨⟨⟨⟨⟨⟨⟨h1,h2⟩,h3⟩,h4⟩,h5⟩,h6⟩,h7⟩,h8⟩,h9⟩,h10⟩,h11⟩,h12⟩
  refine ⟨h1,h2,h3,h4,h5,h6,h7,h8,h9,h10,fun a b c=> ?_,fun a=> ?_⟩
  ·rcases h11 with (h | h) | h
   ·rw [a] at h;cases h
   ·exact h b
   ·exact h c
  ·rcases h12 with h | h
   ·exact absurd a h
   ·exact h
 ·rintro ⟨h1,h2,h3,h4,h5,h6,h7,h8,h9,h10,h11,h12⟩
  refine ⟨⟨⟨⟨⟨⟨⟨⟨⟨⟨⟨h1,h2⟩,h3⟩,h4⟩,h5⟩,h6⟩,h7⟩,h8⟩,h9⟩,h10⟩,?_⟩,?_⟩
  ·by_cases a:uPart (l.getD i ev0).knd=true
   ·by_cases b:(l.getD i ev0).knd=6
    ·exact .inl (.inr fun hh=>hh b)
    ·exact .inr (h11 a b)
   ·exact .inl (.inl (by simpa using a))
  ·by_cases a:(l.getD i ev0).knd=7
   ·exact .inr (h12 a)
   ·exact .inl a
theorem xm4 {u:Bool} {n lo hi:Int} (h:eNum u n lo hi=true) (hu:u=true):lo≤n∧n≤hi:=by
 rw [eNum,if_pos hu,Bool.and_eq_true,decide_eq_true_eq,decide_eq_true_eq] at h;exact h
theorem eNum_no {u:Bool} {n lo hi:Int} (h:eNum u n lo hi=true) (hu:u=false):n=0:=by
 rw [eNum,if_neg (by rw [hu];decide),decide_eq_true_eq] at h;exact h
theorem EOk.of_ {l:List Ev} {i:Nat} (h:EOk l i) (hk:(l.getD i ev0).knd=7):1≤(l.getD i ev0).nr∧(l.getD i ev0).nr≤i:=xm4 h.nm (by rw [hk];rfl)
theorem EOk.days {l:List Ev} {i:Nat} (h:EOk l i):0≤(l.getD i ev0).day∧(l.getD i ev0).day≤65535:=by
 cases hu:uDay (l.getD i ev0).knd with
 | true=>exact xm4 h.dy hu
 | false=>have:=eNum_no h.dy hu;omega
theorem EOk.his {l:List Ev} {i:Nat} (h:EOk l i):0≤(l.getD i ev0).hi∧(l.getD i ev0).hi≤65536:=by
 have:=h.days
 cases hu:uTo (l.getD i ev0).knd with
 | true=>have:=xm4 h.up hu;omega
 | false=>have:=eNum_no h.up hu;omega
theorem inf_mem {l:List Ev} {kn:Int} {e:Ev} (h:e∈inf l kn): ∃i,i < l.length∧frc l kn i=true∧e=l.getD i ev0:=by
 obtain ⟨i,hi,rfl⟩:=List.mem_map.1 h
 obtain ⟨h1,h2⟩:=List.mem_filter.1 hi
 exact ⟨i,List.mem_range.1 h1,h2,rfl⟩
theorem infI_len {l:List Ev} {kn:Int}:(infI l kn).length≤l.length:=by
 have:=List.length_filter_le (frc l kn) (List.range l.length)
 rw [List.length_range] at this;exact this
theorem inf_len {l:List Ev} {kn:Int}:(inf l kn).length≤l.length:=by rw [inf,List.length_map];exact infI_len
def last1 (p:Ev→Bool) (o:Option Ev) (e:Ev):Option Ev:=if p e=true∧(o.isSome=true→(o.getD ev0).day≤e.day) then some e else o
def lastE (p:Ev→Bool) (F:List Ev):Option Ev:=F.foldl (last1 p) none
theorem lastE_app {p:Ev→Bool} {F:List Ev} {e:Ev}:lastE p (F++[e])=last1 p (lastE p F) e:=by rw [lastE,List.foldl_append];rfl
theorem xb3 {p:Ev→Bool} {F:List Ev} {i:Nat} (hi:i < F.length):lastE p (F.take (i+1))=last1 p (lastE p (F.take i)) (F.getD i ev0):=by
 rw [List.take_succ_eq_append_getElem hi,lastE_app,List.getD_eq_getElem?_getD,List.getElem?_eq_getElem hi];rfl
theorem xp0 {α:Type} {C:List α→Prop} (h0:C []) (h1: ∀l x,C l→C (l++[x])): ∀n (l:List α),l.length=n→C l
 | 0,l,h=>by rw [List.eq_nil_of_length_eq_zero h];exact h0
 | n+1,l,h=>by
  have e:l=l.take n++[l[n]]:=by rw [←List.take_succ_eq_append_getElem (by omega),List.take_of_length_le (by omega)]
  rw [e]
  exact h1 _ _ (xp0 h0 h1 n _ (by rw [List.length_take];omega))
theorem xn1 (p:Ev→Bool) (F:List Ev):(lastE p F=none↔ ∀e∈F,p e=false)∧ ∀b,lastE p F=some b→(b∈F∧p b=true)∧ ∀e∈F,p e=true→e.day≤b.day:=
 xp0 (C:=fun F=>(lastE p F=none↔ ∀e∈F,p e=false)∧ ∀b,lastE p F=some b→(b∈F∧p b=true)∧ ∀e∈F,p e=true→e.day≤b.day)
  ⟨⟨fun _ _ h=>absurd h List.not_mem_nil,fun _=>rfl⟩,fun b h=>by cases h⟩
  (fun F x ⟨ih1,ih2⟩=>by
   rw [lastE_app]
   by_cases hp:p x=true
   ·cases ho:lastE p F with
    | none=>
     have h0:=ih1.1 ho
     rw [last1,if_pos ⟨hp,fun h=>by cases h⟩]
     refine ⟨⟨fun h=>(by cases h),fun h=> ?_⟩,fun b h=> ?_⟩
     ·have:=h x (by simp);rw [hp] at this;cases this
     ·obtain rfl:=Option.some.inj h
      refine ⟨⟨by simp,hp⟩,fun e he hpe=> ?_⟩
      rcases List.mem_append.1 he with h1 | h1
      ·rw [h0 e h1] at hpe;cases hpe
      ·rw [List.mem_singleton.1 h1];exact Int.le_refl _
    | some c=>
     have h0:=ih2 c ho
     rw [last1]
     by_cases hd:c.day≤x.day
     ·rw [if_pos ⟨hp,fun _=>hd⟩]
      refine ⟨⟨fun h=>(by cases h),fun h=> ?_⟩,fun b h=> ?_⟩
      ·have:=h x (by simp);rw [hp] at this;cases this
      ·obtain rfl:=Option.some.inj h
       refine ⟨⟨by simp,hp⟩,fun e he hpe=> ?_⟩
       rcases List.mem_append.1 he with h1 | h1
       ·have:=h0.2 e h1 hpe;omega
       ·rw [List.mem_singleton.1 h1];exact Int.le_refl _
     ·rw [if_neg (fun h=>hd (h.2 rfl))]
      refine ⟨⟨fun h=>(by cases h),fun h=> ?_⟩,fun b h=> ?_⟩
      ·have:=h x (by simp);rw [hp] at this;cases this
      ·obtain rfl:=Option.some.inj h
       refine ⟨⟨by simp [h0.1.1],h0.1.2⟩,fun e he hpe=> ?_⟩
       rcases List.mem_append.1 he with h1 | h1
       ·exact h0.2 e h1 hpe
       ·rw [List.mem_singleton.1 h1];omega
   ·rw [last1,if_neg (fun h=>hp h.1)]
    have hx:p x=false:=by simpa using hp
    refine ⟨ih1.trans ⟨fun h e he=> ?_,fun h e he=>h e (by simp [he])⟩,fun b h=> ?_⟩
    ·rcases List.mem_append.1 he with h1 | h1
     ·exact h e h1
     ·rw [List.mem_singleton.1 h1];exact hx
    ·have h0:=ih2 b h
     refine ⟨⟨by simp [h0.1.1],h0.1.2⟩,fun e he hpe=> ?_⟩
     rcases List.mem_append.1 he with h1 | h1
     ·exact h0.2 e h1 hpe
     ·rw [List.mem_singleton.1 h1,hx] at hpe;cases hpe) F.length F rfl
theorem lastE_filter (p:Ev→Bool) (F:List Ev):lastE p F=(F.filter p).foldl (last1 fun _=>true) none:=
 xp0 (C:=fun F=>lastE p F=(F.filter p).foldl (last1 fun _=>true) none) rfl (fun F x ih=>by
  rw [lastE_app,List.filter_append,List.foldl_append,←ih,List.filter_cons]
  by_cases hp:p x=true
  ·rw [if_pos hp];show _=last1 (fun _=>true) (lastE p F) x
   rw [last1,last1]
   simp only [hp,true_and]
  ·rw [if_neg hp,last1,if_neg (fun h=>hp h.1)];rfl) F.length F rfl
theorem lastE_congr {p q:Ev→Bool} {F G:List Ev} (h:F.filter p=G.filter q):lastE p F=lastE q G:=by rw [lastE_filter,lastE_filter,h]
abbrev EvC:={e:Ev // 0≤e.day∧e.day≤65536}
def evc0:EvC:=⟨ev0,by decide⟩
abbrev tEvC (e:EvC):Ty:=tEv e.1
def kfD (e:EvC):Int:=e.1.day
theorem subD_lt {x y:EvC}:x.1.day - y.1.day < 0↔kfD x < kfD y:=by unfold kfD;omega
end An
namespace An.S
open Go Go.Proofs An
instance ti32:TyI Tryz.prog 32 14 true:=⟨by kernel_rfl,by kernel_rfl⟩
instance ti150:TyI Tryz.prog 150 6 true:=⟨by kernel_rfl,by kernel_rfl⟩
instance sl24:SlI Tryz.prog 24 32 14 true:=⟨Tryz.underlying24,ti32⟩
instance fo32_0:FoI Tryz.prog 32 0 0:=⟨by kernel_rfl⟩
instance fo32_1:FoI Tryz.prog 32 1 1:=⟨by kernel_rfl⟩
instance fo32_2:FoI Tryz.prog 32 2 2:=⟨by kernel_rfl⟩
instance fo32_3:FoI Tryz.prog 32 3 3:=⟨by kernel_rfl⟩
instance fo32_4:FoI Tryz.prog 32 4 4:=⟨by kernel_rfl⟩
instance fo32_5:FoI Tryz.prog 32 5 5:=⟨by kernel_rfl⟩
instance fo32_6:FoI Tryz.prog 32 6 9:=⟨by kernel_rfl⟩
instance fo32_7:FoI Tryz.prog 32 7 13:=⟨by kernel_rfl⟩
instance fo150_0:FoI Tryz.prog 150 0 0:=⟨by kernel_rfl⟩
instance fo150_1:FoI Tryz.prog 150 1 1:=⟨by kernel_rfl⟩
instance fo150_2:FoI Tryz.prog 150 2 2:=⟨by kernel_rfl⟩
instance fo150_3:FoI Tryz.prog 150 3 3:=⟨by kernel_rfl⟩
instance fo150_4:FoI Tryz.prog 150 4 4:=⟨by kernel_rfl⟩
instance fo150_5:FoI Tryz.prog 150 5 5:=⟨by kernel_rfl⟩
instance fi34:FnI Tryz.prog 34:=⟨_,Tryz.func34,by kernel_rfl,rfl⟩
instance fi56:FnI Tryz.prog 56:=⟨_,Tryz.func56,by kernel_rfl,rfl⟩
instance fi88:FnI Tryz.prog 88:=⟨_,Tryz.func88,by kernel_rfl,rfl⟩
instance fi89:FnI Tryz.prog 89:=⟨_,Tryz.func89,by kernel_rfl,rfl⟩
instance fi90:FnI Tryz.prog 90:=⟨_,Tryz.func90,by kernel_rfl,rfl⟩
instance fi91:FnI Tryz.prog 91:=⟨_,Tryz.func91,by kernel_rfl,rfl⟩
instance fi144:FnI Tryz.prog 144:=⟨_,Tryz.func144,by kernel_rfl,rfl⟩
instance fi145:FnI Tryz.prog 145:=⟨_,Tryz.func145,by kernel_rfl,rfl⟩
theorem zr32:(Tryz.prog.info? 32).bind (·.zero)=some (.agg #[.int .u8 0,.int .i64 0,.int .i64 0,.int .i64 0,.int .i64 0,.bool false,.slice none 0 0,.bool false,.slice none 0 0,.bool false,.slice none 0 0,.bool false,.slice none 0 0,.int .i64 0])∧ ∀F w,(tS [⟨1,false,(tE (.int .u8 0))⟩,⟨1,false,(tE (.int .i64 0))⟩,⟨1,false,(tE (.int .i64 0))⟩,⟨1,false,(tE (.int .i64 0))⟩,⟨1,false,(tE (.int .i64 0))⟩,⟨4,true,(tS [⟨2,true,(tS [⟨1,false,(tE (.bool false))⟩,⟨1,false,(tLm [])⟩])⟩,⟨2,true,(tS [⟨1,false,(tE (.bool false))⟩,⟨1,false,(tLm [])⟩])⟩])⟩,⟨4,true,(tS [⟨2,true,(tS [⟨1,false,(tE (.bool false))⟩,⟨1,false,(tLm [])⟩])⟩,⟨2,true,(tS [⟨1,false,(tE (.bool false))⟩,⟨1,false,(tLm [])⟩])⟩])⟩,⟨1,false,(tE (.int .i64 0))⟩]).p F w (.agg #[.int .u8 0,.int .i64 0,.int .i64 0,.int .i64 0,.int .i64 0,.bool false,.slice none 0 0,.bool false,.slice none 0 0,.bool false,.slice none 0 0,.bool false,.slice none 0 0,.int .i64 0]):=⟨by kernel_rfl,fun _ _=>⟨_,rfl,rfl,⟨fun _=>rfl,rfl⟩,⟨fun _=>rfl,rfl⟩,⟨fun _=>rfl,rfl⟩,⟨fun _=>rfl,rfl⟩,⟨fun _=>rfl,rfl⟩,⟨fun h=>Bool.noConfusion h,⟨_,rfl,rfl,⟨fun h=>Bool.noConfusion h,⟨_,rfl,rfl,⟨fun _=>rfl,rfl⟩,⟨fun _=>rfl,⟨none,0,rfl,Nat.le_refl _,by decide,.inl rfl⟩⟩,trivial⟩⟩,⟨fun h=>Bool.noConfusion h,⟨_,rfl,rfl,⟨fun _=>rfl,rfl⟩,⟨fun _=>rfl,⟨none,0,rfl,Nat.le_refl _,by decide,.inl rfl⟩⟩,trivial⟩⟩,trivial⟩⟩,⟨fun h=>Bool.noConfusion h,⟨_,rfl,rfl,⟨fun h=>Bool.noConfusion h,⟨_,rfl,rfl,⟨fun _=>rfl,rfl⟩,⟨fun _=>rfl,⟨none,0,rfl,Nat.le_refl _,by decide,.inl rfl⟩⟩,trivial⟩⟩,⟨fun h=>Bool.noConfusion h,⟨_,rfl,rfl,⟨fun _=>rfl,rfl⟩,⟨fun _=>rfl,⟨none,0,rfl,Nat.le_refl _,by decide,.inl rfl⟩⟩,trivial⟩⟩,trivial⟩⟩,⟨fun _=>rfl,rfl⟩,trivial⟩⟩
theorem zr150:(Tryz.prog.info? 150).bind (·.zero)=some (.agg #[.bool false,.bool false,.bool false,.bool false,.bool false,.bool false])∧ ∀F w,(tS [⟨1,false,(tE (.bool false))⟩,⟨1,false,(tE (.bool false))⟩,⟨1,false,(tE (.bool false))⟩,⟨1,false,(tE (.bool false))⟩,⟨1,false,(tE (.bool false))⟩,⟨1,false,(tE (.bool false))⟩]).p F w (.agg #[.bool false,.bool false,.bool false,.bool false,.bool false,.bool false]):=⟨by kernel_rfl,fun _ _=>⟨_,rfl,rfl,⟨fun _=>rfl,rfl⟩,⟨fun _=>rfl,rfl⟩,⟨fun _=>rfl,rfl⟩,⟨fun _=>rfl,rfl⟩,⟨fun _=>rfl,rfl⟩,⟨fun _=>rfl,rfl⟩,trivial⟩⟩
theorem bu150:BuI Tryz.prog 150 (fun i=>[(0,1),(1,1),(2,1),(3,1),(4,1),(5,1)][i]?) (.agg #[.bool false,.bool false,.bool false,.bool false,.bool false,.bool false]):=BuI.struct Tryz.underlying150 (by kernel_rfl) (by kernel_rfl)
instance un24:UnI Tryz.prog 24 (.slice 32):=⟨Tryz.underlying24⟩
theorem short_1:short ((1:Int):Rat):=by decide+kernel
theorem cmpP {a b:Rat}:0 < cmpQ a b↔b < a:=by
 rw [cmpQ]
 split
 ·rename_i h
  exact ⟨fun hh=>absurd hh (by decide),fun hh=>absurd (Rat.le_of_lt hh) (Rat.not_le.2 h)⟩
 ·rename_i h
  split
  ·rename_i h2
   subst h2
   exact ⟨fun hh=>absurd hh (by decide),fun hh=>absurd hh Rat.lt_irrefl⟩
  ·rename_i h2
   refine ⟨fun _=> ?_,fun _=>by decide⟩
   rcases Rat.le_iff_lt_or_eq.1 (Rat.not_lt.1 h) with h3 | h3
   ·exact h3
   ·exact absurd h3.symm h2
theorem c_FCmpP (f:Fr) (hf:f.dig) (hv:f.valid=true):Ct Tryz.prog 34 [tFr f,tFr (fr ((1:Int):Rat))] (tI (cmpQ f.rat ((1:Int):Rat))):=by
 obtain ⟨e,s⟩:=Fr.of_valid' hf hv
 have h:=c_FCmp f.rat ((1:Int):Rat) s short_1
 rw [←e] at h;exact h
theorem xOk_mk {x:Ev} {i:Nat} (h1:(decide (1≤x.knd) && decide (x.knd≤7))=true) (ha:0≤x.kn) (hb:x.kn < 65536) (h2:eNum (uJob x.knd) x.job 1 8=true) (h3:eNum (uDay x.knd) x.day 0 65535=true) (h4:eNum (uTo x.knd) x.hi (x.day+1) 65536=true) (h5:eNum (uOf x.knd) x.nr 1 i=true) (h6:eFrc (uPart x.knd) x.part=true) (h7:eFrc (uPay x.knd) x.pay=true)
  (hp:uPart x.knd=false∨x.knd=6∨ ¬1 < x.part.rat):xOk x i=true:=by
 have hq:(uPart x.knd && decide (x.knd≠6) && decide (1 < x.part.rat))=false:=by
  rcases hp with h | h | h
  ·rw [h];rfl
  ·rw [decide_eq_false (fun hh=>hh h),Bool.and_false];rfl
  ·rw [decide_eq_false h,Bool.and_false]
 rw [xOk,h1,h2,h3,h4,h5,h6,h7,hq,decide_eq_true ha,decide_eq_true hb];rfl
theorem eFrc_valid {u:Bool} {f:Fr} (h:eFrc u f=true) (hu:u=true):f.valid=true:=by
 rw [eFrc,if_pos hu,eExact,Bool.and_eq_true,Bool.and_eq_true,Bool.and_eq_true] at h
 exact h.1.1.1
abbrev tUs (k:Nat):Ty:=tS [⟨1,false,tB (uJob k)⟩,⟨1,false,tB (uDay k)⟩,⟨1,false,tB (uTo k)⟩,⟨1,false,tB (uPart k)⟩,⟨1,false,tB (uPay k)⟩,⟨1,false,tB (uOf k)⟩]
theorem c_fields (k:Nat):
  Ct Tryz.prog 88 [tE (.int .u8 (k:Int))] (tT [tUs k,tB (decide (1≤k) && decide (k≤7))]):=by
 refine Ct.intro Tryz.func88 rfl Tryz.ntmps88 rfl ?_
 intro w F
 refine A2 ?_
 refine RE (x6 (k:=2) (n:=6) (agg:=true) zr150.1 zr150.2 rfl) trivial trivial ⟨rfl,trivial⟩ ?_
 refine A16 ?_
 refine x9 rfl (fun h18=> ?_) (fun h18=> ?_)
 ·
  refine A2 ?_
  refine RE (xa6 (r:=tS [⟨1,false,tB true⟩,⟨1,false,tB true⟩,⟨1,false,(tE (.bool false))⟩,⟨1,false,tB true⟩,⟨1,false,tB true⟩,⟨1,false,(tE (.bool false))⟩]) (ts:=[(0,tB true),(1,tB true),(3,tB true),(4,tB true)]) bu150 zr150.2 (Bc 0 rfl rfl rfl (Bc 1 rfl rfl rfl (Bc 3 rfl rfl rfl (Bc 4 rfl rfl rfl Le.refl))))) ⟨rfl,rfl,rfl,rfl,trivial⟩ trivial trivial ?_
  refine A7 ?_
  exact xc8 Plain.mk' (rs:=[.cell 2 150,.tmp 3]) rfl rfl ⟨⟨_,_,_,_,_,rfl,rfl,ti150,(Le.of (by rw [show k=1 by omega];rfl))⟩,⟨_,rfl,(Le.bool (by rw [show k=1 by omega];rfl))⟩,trivial⟩
 ·
  refine A6 ?_
  refine x9 rfl (fun h20=> ?_) (fun h20=> ?_)
  ·
   refine A2 ?_
   refine R2 (xa6 (r:=tS [⟨1,false,tB true⟩,⟨1,false,tB true⟩,⟨1,false,(tE (.bool false))⟩,⟨1,false,(tE (.bool false))⟩,⟨1,false,(tE (.bool false))⟩,⟨1,false,(tE (.bool false))⟩]) (ts:=[(0,tB true),(1,tB true)]) bu150 zr150.2 (Bc 0 rfl rfl rfl (Bc 1 rfl rfl rfl Le.refl))) rfl rfl ?_
   refine A7 ?_
   exact xc8 Plain.mk' (rs:=[.cell 2 150,.tmp 3]) rfl rfl ⟨⟨_,_,_,_,_,rfl,rfl,ti150,(Le.of (by rw [show k=2 by omega];rfl))⟩,⟨_,rfl,(Le.bool (by rw [show k=2 by omega];rfl))⟩,trivial⟩
  ·
   refine A6 ?_
   refine x9 rfl (fun h22=> ?_) (fun h22=> ?_)
   ·
    refine A2 ?_
    refine RE (xa6 (r:=tS [⟨1,false,tB true⟩,⟨1,false,tB true⟩,⟨1,false,tB true⟩,⟨1,false,tB true⟩,⟨1,false,(tE (.bool false))⟩,⟨1,false,(tE (.bool false))⟩]) (ts:=[(0,tB true),(1,tB true),(2,tB true),(3,tB true)]) bu150 zr150.2 (Bc 0 rfl rfl rfl (Bc 1 rfl rfl rfl (Bc 2 rfl rfl rfl (Bc 3 rfl rfl rfl Le.refl))))) ⟨rfl,rfl,rfl,rfl,trivial⟩ trivial trivial ?_
    refine A7 ?_
    exact xc8 Plain.mk' (rs:=[.cell 2 150,.tmp 3]) rfl rfl ⟨⟨_,_,_,_,_,rfl,rfl,ti150,(Le.of (by rw [show k=3 by omega];rfl))⟩,⟨_,rfl,(Le.bool (by rw [show k=3 by omega];rfl))⟩,trivial⟩
   ·
    refine A6 ?_
    refine x9 rfl (fun h24=> ?_) (fun h24=> ?_)
    ·
     refine A2 ?_
     refine R3 (xa6 (r:=tS [⟨1,false,tB true⟩,⟨1,false,tB true⟩,⟨1,false,(tE (.bool false))⟩,⟨1,false,(tE (.bool false))⟩,⟨1,false,tB true⟩,⟨1,false,(tE (.bool false))⟩]) (ts:=[(0,tB true),(1,tB true),(4,tB true)]) bu150 zr150.2 (Bc 0 rfl rfl rfl (Bc 1 rfl rfl rfl (Bc 4 rfl rfl rfl Le.refl)))) rfl rfl rfl ?_
     refine A7 ?_
     exact xc8 Plain.mk' (rs:=[.cell 2 150,.tmp 3]) rfl rfl ⟨⟨_,_,_,_,_,rfl,rfl,ti150,(Le.of (by rw [show k=4 by omega];rfl))⟩,⟨_,rfl,(Le.bool (by rw [show k=4 by omega];rfl))⟩,trivial⟩
    ·
     refine A6 ?_
     refine x9 rfl (fun h26=> ?_) (fun h26=> ?_)
     ·
      refine A2 ?_
      refine R3 (xa6 (r:=tS [⟨1,false,tB true⟩,⟨1,false,tB true⟩,⟨1,false,tB true⟩,⟨1,false,(tE (.bool false))⟩,⟨1,false,(tE (.bool false))⟩,⟨1,false,(tE (.bool false))⟩]) (ts:=[(0,tB true),(1,tB true),(2,tB true)]) bu150 zr150.2 (Bc 0 rfl rfl rfl (Bc 1 rfl rfl rfl (Bc 2 rfl rfl rfl Le.refl)))) rfl rfl rfl ?_
      refine A7 ?_
      exact xc8 Plain.mk' (rs:=[.cell 2 150,.tmp 3]) rfl rfl ⟨⟨_,_,_,_,_,rfl,rfl,ti150,(Le.of (by rw [show k=5 by omega];rfl))⟩,⟨_,rfl,(Le.bool (by rw [show k=5 by omega];rfl))⟩,trivial⟩
     ·
      refine A6 ?_
      refine x9 rfl (fun h28=> ?_) (fun h28=> ?_)
      ·
       refine A2 ?_
       refine R2 (xa6 (r:=tS [⟨1,false,(tE (.bool false))⟩,⟨1,false,tB true⟩,⟨1,false,(tE (.bool false))⟩,⟨1,false,tB true⟩,⟨1,false,(tE (.bool false))⟩,⟨1,false,(tE (.bool false))⟩]) (ts:=[(1,tB true),(3,tB true)]) bu150 zr150.2 (Bc 1 rfl rfl rfl (Bc 3 rfl rfl rfl Le.refl))) rfl rfl ?_
       refine A7 ?_
       exact xc8 Plain.mk' (rs:=[.cell 2 150,.tmp 3]) rfl rfl ⟨⟨_,_,_,_,_,rfl,rfl,ti150,(Le.of (by rw [show k=6 by omega];rfl))⟩,⟨_,rfl,(Le.bool (by rw [show k=6 by omega];rfl))⟩,trivial⟩
      ·
       refine A6 ?_
       refine x9 rfl (fun h30=> ?_) (fun h30=> ?_)
       ·
        refine A2 ?_
        refine R1 (xa6 (r:=tS [⟨1,false,(tE (.bool false))⟩,⟨1,false,(tE (.bool false))⟩,⟨1,false,(tE (.bool false))⟩,⟨1,false,(tE (.bool false))⟩,⟨1,false,(tE (.bool false))⟩,⟨1,false,tB true⟩]) (ts:=[(5,tB true)]) bu150 zr150.2 (Bc 5 rfl rfl rfl Le.refl)) rfl ?_
        refine A7 ?_
        exact xc8 Plain.mk' (rs:=[.cell 2 150,.tmp 3]) rfl rfl ⟨⟨_,_,_,_,_,rfl,rfl,ti150,(Le.of (by rw [show k=7 by omega];rfl))⟩,⟨_,rfl,(Le.bool (by rw [show k=7 by omega];rfl))⟩,trivial⟩
       ·
        refine A5 ?_
        refine R0 (xa6 (r:=tS [⟨1,false,(tE (.bool false))⟩,⟨1,false,(tE (.bool false))⟩,⟨1,false,(tE (.bool false))⟩,⟨1,false,(tE (.bool false))⟩,⟨1,false,(tE (.bool false))⟩,⟨1,false,(tE (.bool false))⟩]) (ts:=[]) bu150 zr150.2 Le.refl) ?_
        refine A5 ?_
        exact xc8 Plain.mk' (rs:=[.cell 2 150,.tmp 3]) rfl rfl ⟨⟨_,_,_,_,_,rfl,rfl,ti150,(Le.of (by simp only [tUs,uJob,uDay,uTo,uPart,uPay,uOf];congr <;> simp <;> omega))⟩,⟨_,rfl,(Le.bool (by simp;omega))⟩,trivial⟩
theorem c_blank (w:Wh):
  Ct Tryz.prog 144 [tWh w] (tB (!w.neg && decide (w.l.length=0))):=by
 refine Ct.intro Tryz.func144 rfl Tryz.ntmps144 rfl ?_
 intro w F
 refine A12 ?_
 refine RGcase (t:=6) rfl (fun h38=> ?_) (fun h38=> ?_)
 ·
  refine A9 ?_
  exact x4 Plain.mk' rfl rfl (Le.bool (by simp [*]))
 ·
  refine A9 ?_
  exact x4 Plain.mk' rfl rfl (Le.bool (by simp [*]))
theorem c_exact (f:Fr) (hD:f.dig):
  Ct Tryz.prog 145 [tFr f] (tB (eExact f)):=by
 refine Ct.intro Tryz.func145 rfl Tryz.ntmps145 rfl ?_
 intro w F
 refine A9 ?_
 refine R1 (x3 (c_FValid f hD.1 hD.2) fi94 rfl) rfl ?_
 refine A1 ?_
 refine RGcase (t:=5) rfl (fun h43=> ?_) (fun h43=> ?_)
 ·
  refine A2 ?_
  refine xc9 h43 rfl rfl (0) ti4 rfl rfl rfl (At.t (At.g 0 rfl rfl) (At.g 0 rfl rfl)) rfl ?_
  refine A3 ?_
  refine RGcase (t:=11) rfl (fun h43_2=> ?_) (fun h43_2=> ?_)
  ·
   refine A2 ?_
   refine xc9 h43_2 rfl rfl (0) ti26 rfl rfl rfl (At.t (At.g 0 rfl rfl) (At.g 1 rfl rfl)) rfl ?_
   refine A4 ?_
   refine RGcaseD (t:=18) rfl (fun h43_3=> ?_) (fun h43_3=> ?_)
   ·
    refine A2 ?_
    refine xc9 (decide_eq_true h43_3) rfl rfl (0) ti26 rfl rfl rfl (At.t (At.g 1 rfl rfl) (At.g 1 rfl rfl)) rfl ?_
    refine A7 ?_
    exact x4 Plain.mk' rfl rfl (Le.bool (by rw [eExact];first | (rw [decide_eq_true (show f.n.l.length≤2 by omega)];simp [*];done) | (rw [decide_eq_true (show f.n.l.length≤2 by omega)];simp [*];omega) | (rw [decide_eq_false (show ¬f.n.l.length≤2 by omega)];simp [*];done) | (simp [*];done)))
   ·
    refine A10 ?_
    exact x4 Plain.mk' rfl rfl (Le.bool (by rw [eExact];first | (rw [decide_eq_true (show f.n.l.length≤2 by omega)];simp [*];done) | (rw [decide_eq_true (show f.n.l.length≤2 by omega)];simp [*];omega) | (rw [decide_eq_false (show ¬f.n.l.length≤2 by omega)];simp [*];done) | (simp [*];done)))
  ·
   refine A17 ?_
   exact x4 Plain.mk' rfl rfl (Le.bool (by rw [eExact];first | (rw [decide_eq_true (show f.n.l.length≤2 by omega)];simp [*];done) | (rw [decide_eq_true (show f.n.l.length≤2 by omega)];simp [*];omega) | (rw [decide_eq_false (show ¬f.n.l.length≤2 by omega)];simp [*];done) | (simp [*];done)))
 ·
  refine A18 ?_
  refine A5 ?_
  exact x4 Plain.mk' rfl rfl (Le.bool (by rw [eExact];first | (rw [decide_eq_true (show f.n.l.length≤2 by omega)];simp [*];done) | (rw [decide_eq_true (show f.n.l.length≤2 by omega)];simp [*];omega) | (rw [decide_eq_false (show ¬f.n.l.length≤2 by omega)];simp [*];done) | (simp [*];done)))
theorem c_number (u:Bool) (n lo hi:Int):
  Ct Tryz.prog 89 [tB u,tI n,tI lo,tI hi] (tB (eNum u n lo hi)):=by
 refine Ct.intro Tryz.func89 rfl Tryz.ntmps89 rfl ?_
 intro w F
 refine A12 ?_
 refine xc1 rfl (fun h48=> ?_) (fun h48=> ?_)
 ·
  refine A9 ?_
  exact x4 Plain.mk' rfl rfl (Le.bool (by rw [eNum,if_neg (by simpa using h48)]))
 ·
  refine A8 ?_
  refine RGcaseD (t:=16) rfl (fun h51=> ?_) (fun h51=> ?_)
  ·
   refine A8 ?_
   exact x4 Plain.mk' rfl rfl (Le.bool (by rw [eNum,if_pos (by simpa using h48)];simp [*]))
  ·
   refine A8 ?_
   exact x4 Plain.mk' rfl rfl (Le.bool (by rw [eNum,if_pos (by simpa using h48)];simp [*]))
theorem c_fraction (u:Bool) (f:Fr) (hD:f.dig):
  Ct Tryz.prog 90 [tB u,tFr f] (tB (eFrc u f)):=by
 refine Ct.intro Tryz.func90 rfl Tryz.ntmps90 rfl ?_
 intro w F
 refine A13 ?_
 refine xc1 rfl (fun h56=> ?_) (fun h56=> ?_)
 ·
  refine A4 ?_
  refine R1 (x3 (c_blank f.n) fi144 rfl) rfl ?_
  refine A1 ?_
  refine RGcase (t:=10) rfl (fun h57=> ?_) (fun h57=> ?_)
  ·
   refine A2 ?_
   refine RGon h57 rfl (x3 (c_blank f.d) fi144 rfl) rfl ⟨rfl,trivial⟩ trivial trivial ?_
   refine A6 ?_
   exact x4 Plain.mk' rfl rfl (Le.bool (by rw [eFrc,if_neg (by simpa using h56),eBlank,h57,Bool.true_and]))
  ·
   refine A9 ?_
   exact x4 Plain.mk' rfl rfl (Le.bool (by rw [eFrc,if_neg (by simpa using h56),eBlank,h57,Bool.false_and]))
 ·
  refine A5 ?_
  refine R1 (x3 (c_exact f hD) fi145 rfl) rfl ?_
  refine A4 ?_
  exact x4 Plain.mk' rfl rfl (Le.bool (by rw [eFrc,if_pos (by simpa using h56)]))
theorem c_eRight (l:List Ev) (i:Nat) (hi:i < l.length) (hl:l.length≤100) (hD: ∀e∈l,e.part.dig∧e.pay.dig):
  Ct Tryz.prog 56 [tL 14 true tEv l,tI i] (tB (eRight l i)):=by
 have hd:=hD _ (mem_getE hi)
 refine Ct.intro Tryz.func56 rfl Tryz.ntmps56 rfl ?_
 intro w F
 refine A9 ?_
 refine R2 (x5 sl24 (i) (by omega) (gD (l:=l) (n:=i) (d:=ev0) (by omega))) rfl rfl ?_
 refine A1 ?_
 refine RE (x6 (k:=5) (n:=14) (agg:=true) zr32.1 zr32.2 rfl) trivial trivial ⟨rfl,trivial⟩ ?_
 refine A7 ?_
 refine R1 (x3 (c_fields (l.getD i ev0).knd) fi88 rfl) rfl ?_
 refine A3 ?_
 refine RE (x6 (k:=6) (n:=6) (agg:=true) zr150.1 zr150.2 rfl) trivial trivial ⟨rfl,trivial⟩ ?_
 refine A10 ?_
 refine RGcase (t:=20) rfl (fun h66=> ?_) (fun h66=> ?_)
 ·
  refine A18 ?_
  refine A1 ?_
  exact x4 Plain.mk' rfl rfl (Le.bool (Bool.eq_false_iff.2 fun hr=>by have ho:=xd4.1 hr;have:=ho.k1;have:=ho.k2;have:=ho.n1;have:=ho.n2;first | omega | (rw [decide_eq_true ho.k1,decide_eq_true ho.k2] at h66;cases h66)).symm)
 ·
  refine A5 ?_
  refine RGcaseD (t:=25) rfl (fun h66_2=> ?_) (fun h66_2=> ?_)
  ·
   refine A14 ?_
   exact x4 Plain.mk' rfl rfl (Le.bool (Bool.eq_false_iff.2 fun hr=>by have ho:=xd4.1 hr;have:=ho.k1;have:=ho.k2;have:=ho.n1;have:=ho.n2;first | omega | (rw [decide_eq_true ho.k1,decide_eq_true ho.k2] at h66;cases h66)).symm)
  ·
   refine A6 ?_
   refine x9 rfl (fun h66_3=> ?_) (fun h66_3=> ?_)
   ·
    refine A7 ?_
    exact x4 Plain.mk' rfl rfl (Le.bool (Bool.eq_false_iff.2 fun hr=>by have ho:=xd4.1 hr;have:=ho.k1;have:=ho.k2;have:=ho.n1;have:=ho.n2;first | omega | (rw [decide_eq_true ho.k1,decide_eq_true ho.k2] at h66;cases h66)).symm)
   ·
    refine A9 ?_
    refine RE (x3 (c_number (uJob (l.getD i ev0).knd) (l.getD i ev0).job 1 8) fi89 rfl) ⟨rfl,rfl,rfl,rfl,trivial⟩ trivial trivial ?_
    refine A2 ?_
    refine RGcase (t:=36) rfl (fun h69=> ?_) (fun h69=> ?_)
    ·
     refine A17 ?_
     exact x4 Plain.mk' rfl rfl (Le.bool (Bool.eq_false_iff.2 fun hr=>by have ho:=xd4.1 hr;rw [ho.jb] at h69;cases h69).symm)
    ·
     refine A4 ?_
     refine RGon h69 rfl (x3 (c_number (uDay (l.getD i ev0).knd) (l.getD i ev0).day 0 65535) fi89 rfl) rfl ⟨rfl,rfl,rfl,rfl,trivial⟩ trivial trivial ?_
     refine A4 ?_
     refine xc1 rfl (fun h69_2=> ?_) (fun h69_2=> ?_)
     ·
      refine A7 ?_
      exact x4 Plain.mk' rfl rfl (Le.bool (Bool.eq_false_iff.2 fun hr=>by have ho:=xd4.1 hr;rw [ho.dy] at h69_2;cases h69_2).symm)
     ·
      refine A4 ?_
      have hdy:0≤(l.getD i ev0).day∧(l.getD i ev0).day≤65535:=by
       cases hu:uDay (l.getD i ev0).knd with
       | true=>exact xm4 (lo:=0) (hi:=65535) (by simpa using h69_2) hu
       | false=>
        have h0:(l.getD i ev0).day=0:=eNum_no (lo:=0) (hi:=65535) (by simpa using h69_2) hu
        omega
      refine A8 ?_
      refine RE (x3 (c_number (uTo (l.getD i ev0).knd) (l.getD i ev0).hi ((l.getD i ev0).day+1) 65536) fi89 rfl) ⟨rfl,rfl,rfl,rfl,trivial⟩ trivial trivial ?_
      refine A2 ?_
      refine RGcase (t:=53) rfl (fun h72=> ?_) (fun h72=> ?_)
      ·
       refine A18 ?_
       exact x4 Plain.mk' rfl rfl (Le.bool (Bool.eq_false_iff.2 fun hr=>by have ho:=xd4.1 hr;rw [ho.up] at h72;cases h72).symm)
      ·
       refine A3 ?_
       refine xc9 h72 rfl rfl (0) ti3 rfl rfl rfl (At.g 7 rfl rfl) rfl ?_
       refine A1 ?_
       refine RGon h72 rfl (x3 (c_number (uOf (l.getD i ev0).knd) (l.getD i ev0).nr 1 i) fi89 rfl) rfl ⟨rfl,rfl,rfl,rfl,trivial⟩ trivial trivial ?_
       refine A4 ?_
       refine xc1 rfl (fun h72_2=> ?_) (fun h72_2=> ?_)
       ·
        refine A7 ?_
        exact x4 Plain.mk' rfl rfl (Le.bool (Bool.eq_false_iff.2 fun hr=>by have ho:=xd4.1 hr;rw [ho.nm] at h72_2;cases h72_2).symm)
       ·
        refine A9 ?_
        refine R2 (x3 (c_fraction (uPart (l.getD i ev0).knd) (l.getD i ev0).part hd.1) fi90 rfl) rfl rfl ?_
        refine A2 ?_
        refine RGcase (t:=68) rfl (fun h75=> ?_) (fun h75=> ?_)
        ·
         refine A17 ?_
         exact x4 Plain.mk' rfl rfl (Le.bool (Bool.eq_false_iff.2 fun hr=>by have ho:=xd4.1 hr;rw [ho.pt] at h75;cases h75).symm)
        ·
         refine A4 ?_
         refine RGon h75 rfl (x3 (c_fraction (uPay (l.getD i ev0).knd) (l.getD i ev0).pay hd.2) fi90 rfl) rfl ⟨rfl,rfl,trivial⟩ trivial trivial ?_
         refine A4 ?_
         refine xc1 rfl (fun h75_2=> ?_) (fun h75_2=> ?_)
         ·
          refine A7 ?_
          exact x4 Plain.mk' rfl rfl (Le.bool (Bool.eq_false_iff.2 fun hr=>by have ho:=xd4.1 hr;rw [ho.py] at h75_2;cases h75_2).symm)
         ·
          refine A8 ?_
          refine RGcase (t:=78) rfl (fun h78=> ?_) (fun h78=> ?_)
          ·
           refine A5 ?_
           refine RGcaseD (t:=83) rfl (fun h78_2=> ?_) (fun h78_2=> ?_)
           ·
            refine A2 ?_
            refine RGon (decide_eq_true h78_2) rfl (x3 (xj6 1 (by decide) (by decide)) fi91 rfl) rfl ⟨rfl,trivial⟩ trivial trivial (RGon (decide_eq_true h78_2) rfl (x3 (c_FCmpP (l.getD i ev0).part hd.1 (eFrc_valid (by simpa using h75) h78)) fi34 rfl) rfl ⟨rfl,rfl,trivial⟩ trivial trivial ?_)
            refine A4 ?_
            refine x9 rfl (fun h78_3=> ?_) (fun h78_3=> ?_)
            ·
             refine A7 ?_
             exact x4 Plain.mk' rfl rfl (Le.bool (Bool.eq_false_iff.2 fun hr=>by have ho:=xd4.1 hr;exact ho.p1 h78 (by omega) (cmpP.1 (by omega))).symm)
            ·
             refine A3 ?_
             have hx:xOk (l.getD i ev0) i=true:=xOk_mk (by simpa using h66) (by omega) (by omega) (by simpa using h69) (by simpa using h69_2) (by simpa using h72) (by simpa using h72_2) (by simpa using h75) (by simpa using h75_2) (by first | (exact .inl (by simpa using h78)) | (exact .inr (.inl (by omega))) | (exact .inr (.inr fun hh=>absurd (cmpP.2 hh) (by assumption))))
             refine A5 ?_
             refine RGcase (t:=93) rfl (fun h81=> ?_) (fun h81=> ?_)
             ·
              refine A15 ?_
              exact x4 Plain.mk' rfl rfl (Le.bool (by rw [eRight,hx];first | (rw [show uOf (l.getD i ev0).knd=false by simpa using h81];rfl) | (rw [show uOf (l.getD i ev0).knd=true by simpa using h81];rfl)))
             ·
              refine A2 ?_
              refine xc9 h81 rfl rfl (0) ti3 rfl rfl rfl (At.g 7 rfl rfl) rfl ?_
              have hnr:=xm4 (lo:=1) (hi:=(i:Int)) (n:=(l.getD i ev0).nr) (by simpa using h72_2) (by simpa using h81)
              refine RGon h81 rfl (xe1 (wr64 (by omega) (by omega))) rfl ⟨rfl,rfl,trivial⟩ trivial trivial (RGon h81 rfl (x5 sl24 (((l.getD i ev0).nr - 1).toNat) (by omega) (gD (l:=l) (n:=((l.getD i ev0).nr - 1).toNat) (d:=ev0) (by omega))) rfl ⟨rfl,rfl,trivial⟩ trivial trivial (RGon h81 rfl (xd0 fo32_1.h (At.f 1 rfl rfl) rfl) rfl ⟨rfl,trivial⟩ trivial trivial ?_))
              refine A9 ?_
              exact x4 Plain.mk' rfl rfl (Le.bool (by rw [eRight,hx];first | (rw [show uOf (l.getD i ev0).knd=false by simpa using h81];rfl) | (rw [show uOf (l.getD i ev0).knd=true by simpa using h81];rfl)))
           ·
            refine A12 ?_
            have hx:xOk (l.getD i ev0) i=true:=xOk_mk (by simpa using h66) (by omega) (by omega) (by simpa using h69) (by simpa using h69_2) (by simpa using h72) (by simpa using h72_2) (by simpa using h75) (by simpa using h75_2) (by first | (exact .inl (by simpa using h78)) | (exact .inr (.inl (by omega))) | (exact .inr (.inr fun hh=>absurd (cmpP.2 hh) (by assumption))))
            refine A5 ?_
            refine RGcase (t:=93) rfl (fun h81=> ?_) (fun h81=> ?_)
            ·
             refine A15 ?_
             exact x4 Plain.mk' rfl rfl (Le.bool (by rw [eRight,hx];first | (rw [show uOf (l.getD i ev0).knd=false by simpa using h81];rfl) | (rw [show uOf (l.getD i ev0).knd=true by simpa using h81];rfl)))
            ·
             refine A2 ?_
             refine xc9 h81 rfl rfl (0) ti3 rfl rfl rfl (At.g 7 rfl rfl) rfl ?_
             have hnr:=xm4 (lo:=1) (hi:=(i:Int)) (n:=(l.getD i ev0).nr) (by simpa using h72_2) (by simpa using h81)
             refine RGon h81 rfl (xe1 (wr64 (by omega) (by omega))) rfl ⟨rfl,rfl,trivial⟩ trivial trivial (RGon h81 rfl (x5 sl24 (((l.getD i ev0).nr - 1).toNat) (by omega) (gD (l:=l) (n:=((l.getD i ev0).nr - 1).toNat) (d:=ev0) (by omega))) rfl ⟨rfl,rfl,trivial⟩ trivial trivial (RGon h81 rfl (xd0 fo32_1.h (At.f 1 rfl rfl) rfl) rfl ⟨rfl,trivial⟩ trivial trivial ?_))
             refine A9 ?_
             exact x4 Plain.mk' rfl rfl (Le.bool (by rw [eRight,hx];first | (rw [show uOf (l.getD i ev0).knd=false by simpa using h81];rfl) | (rw [show uOf (l.getD i ev0).knd=true by simpa using h81];rfl)))
          ·
           refine A17 ?_
           have hx:xOk (l.getD i ev0) i=true:=xOk_mk (by simpa using h66) (by omega) (by omega) (by simpa using h69) (by simpa using h69_2) (by simpa using h72) (by simpa using h72_2) (by simpa using h75) (by simpa using h75_2) (by first | (exact .inl (by simpa using h78)) | (exact .inr (.inl (by omega))) | (exact .inr (.inr fun hh=>absurd (cmpP.2 hh) (by assumption))))
           refine A5 ?_
           refine RGcase (t:=93) rfl (fun h81=> ?_) (fun h81=> ?_)
           ·
            refine A15 ?_
            exact x4 Plain.mk' rfl rfl (Le.bool (by rw [eRight,hx];first | (rw [show uOf (l.getD i ev0).knd=false by simpa using h81];rfl) | (rw [show uOf (l.getD i ev0).knd=true by simpa using h81];rfl)))
           ·
            refine A2 ?_
            refine xc9 h81 rfl rfl (0) ti3 rfl rfl rfl (At.g 7 rfl rfl) rfl ?_
            have hnr:=xm4 (lo:=1) (hi:=(i:Int)) (n:=(l.getD i ev0).nr) (by simpa using h72_2) (by simpa using h81)
            refine RGon h81 rfl (xe1 (wr64 (by omega) (by omega))) rfl ⟨rfl,rfl,trivial⟩ trivial trivial (RGon h81 rfl (x5 sl24 (((l.getD i ev0).nr - 1).toNat) (by omega) (gD (l:=l) (n:=((l.getD i ev0).nr - 1).toNat) (d:=ev0) (by omega))) rfl ⟨rfl,rfl,trivial⟩ trivial trivial (RGon h81 rfl (xd0 fo32_1.h (At.f 1 rfl rfl) rfl) rfl ⟨rfl,trivial⟩ trivial trivial ?_))
            refine A9 ?_
            exact x4 Plain.mk' rfl rfl (Le.bool (by rw [eRight,hx];first | (rw [show uOf (l.getD i ev0).knd=false by simpa using h81];rfl) | (rw [show uOf (l.getD i ev0).knd=true by simpa using h81];rfl)))
theorem c_EValid (l:List Ev) (hD: ∀e∈l,e.part.dig∧e.pay.dig):
  Ct Tryz.prog 26 [tL 14 true tEv l] (tB (eVal l)):=by
 refine Ct.intro Tryz.func26 rfl Tryz.ntmps26 rfl ?_
 intro w F
 refine xi0 (s:=0) rfl (fun hl0=> ?_)
 refine A13 ?_
 refine x9 rfl (fun h86=> ?_) (fun h86=> ?_)
 ·
  refine A7 ?_
  exact x4 Plain.mk' rfl rfl (Le.bool (by rw [eVal,decide_eq_false (by omega)];rfl))
 ·
  refine A11 ?_
  refine cL (fun (i:Nat)=>i≤l.length∧(List.range i).all (eRight l)=true) (fun (i:Nat)=>upd (upd (upd (fun _=>none) 0 (some (.val (tL 14 true tEv l)))) 8 (some (.val (tI l.length)))) 9 (some (.val (tI i)))) (fun (i:Nat)=>fun _=>none) [] (fun (i:Nat)=>l.length - i) (0) ⟨Nat.zero_le _,rfl⟩ ?_
  intro i hI
  obtain ⟨hi,ha⟩:=hI
  refine A6 ?_
  refine x9 rfl (fun h89=> ?_) (fun h89=> ?_)
  ·
   refine A14 ?_
   refine R2 (x3 (c_eRight l i (by omega) (by omega) hD) fi56 rfl) rfl rfl ?_
   refine A3 ?_
   refine xc1 rfl (fun h90=> ?_) (fun h90=> ?_)
   ·
    refine A11 ?_
    exact x4 Plain.mk' rfl rfl (Le.bool (by rw [eVal,ranges_stop (i:=i) (by omega) (by simpa using h90),Bool.and_false]))
   ·
    refine A7 ?_
    exact kF (i+1) ⟨⟨by omega,by rw [xr8,ha,show eRight l i=true by simpa using h90];rfl⟩,(by omega)⟩
  ·
   refine A11 ?_
   exact x4 Plain.mk' rfl rfl (Le.bool (by rw [eVal,decide_eq_true (by omega),show l.length=i by omega,ha];rfl))
end An.S
namespace An
open Go An.S
def pHire (job d:Int) (e:Ev):Bool:=decide (e.job=job) && decide (e.day≤d) && (decide (e.knd=1) || decide (e.knd=2))
def pIdle (job d:Int) (e:Ev):Bool:=decide (e.knd=5) && decide (e.job=job) && decide (e.day≤d) && decide (d < e.hi)
def pHours (h:Ev) (d:Int) (e:Ev):Bool:=decide (e.knd=3) && decide (e.job=h.job) && decide (h.day≤e.day) && decide (e.day≤d) && decide (d < e.hi)
def pPay (h:Ev) (d:Int) (e:Ev):Bool:=decide (e.knd=4) && decide (e.job=h.job) && decide (h.day≤e.day) && decide (e.day≤d)
def hireE (F:List Ev) (job d:Int):Option Ev:=match lastE (pHire job d) F with
 | some e=>if e.knd=1 then some e else none
 | none=>none
def idleE (F:List Ev) (job d:Int):Bool:=(lastE (pIdle job d) F).isSome
def partE (F:List Ev) (h:Ev) (d:Int):Fr:=if idleE F h.job d=true then fr ((0:Int):Rat) else match lastE (pHours h d) F with
 | some e=>e.part
 | none=>h.part
def payE (F:List Ev) (h:Ev) (d:Int):Fr:=if idleE F h.job d=true then fr ((0:Int):Rat) else match lastE (pPay h d) F with
 | some e=>e.pay
 | none=>h.pay
def addJ (f:List Ev→Ev→Int→Fr) (F:List Ev) (d:Int) (job:Nat):Rat:=match hireE F (job:Int) d with
 | some h=>(f F h d).rat
 | none=>((0:Int):Rat)
def sumQ (f:List Ev→Ev→Int→Fr) (F:List Ev) (d:Int):Nat→Rat
 | 0=>((0:Int):Rat)
 | j+1=>sumQ f F d j+addJ f F d (j+1)
def heldQ (F:List Ev) (d:Int):Nat→Bool
 | 0=>false
 | j+1=>heldQ F d j || (hireE F ((j+1:Nat):Int) d).isSome
def oneQ (q:Rat):Rat:=if ((1:Int):Rat) < q then ((1:Int):Rat) else q
def fteQ (F:List Ev) (d:Int):Option Rat:=if heldQ F d 8=true then some (oneQ (sumQ partE F d 8)) else none
def payQ (F:List Ev) (d:Int):Option Rat:=if heldQ F d 8=true then some (sumQ payE F d 8) else none
def crdL (F:List Ev) (d:Int):List Ev:=F.filter fun e=>decide (e.knd=6) && decide (e.day≤d)
def crdQ (F:List Ev) (d:Int):Option Rat:=if (crdL F d).isEmpty=true then none else some ((crdL F d).foldl (fun q e=>q+e.part.rat) ((0:Int):Rat))
def kQ (K:Nat) (F:List Ev) (d:Int):Option Rat:=match K with
 | 0=>crdQ F d
 | 1=>fteQ F d
 | _=>payQ F d
def kK (K:Nat):Nat:=if K=2 then 3 else 2
def kG (K:Nat) (F:List Ev) (d:Int):Option Va:=(kQ K F d).map fun q=>⟨kK K,fr q,0⟩
def dyE (e:Ev):List Int:=if e.knd=7 then [] else e.day::if 0 < e.hi∧e.hi < 65536 then [e.hi] else []
def dyF (F:List Ev):List Int:=brd (F.flatMap dyE)
def dyC (F:List Ev):List Int:=brd ((F.filter fun e=>decide (e.knd=6)).map (·.day))
def kD (K:Nat) (F:List Ev):List Int:=if K=0 then dyC F else dyF F
def mT (K:Nat) (F:List Ev):List Tst:=pst [] (segL (kG K F) (kD K F++[65536]))
theorem kD_pw {K:Nat} {F:List Ev}:(kD K F).Pairwise (· < ·):=by rw [kD];split <;> exact (xg1 _).1
theorem dyE_mem {e:Ev} {x:Int}:x∈dyE e↔e.knd≠7∧(x=e.day∨(x=e.hi∧0 < e.hi∧e.hi < 65536)):=by
 rw [dyE]
 split
 ·rename_i h;exact ⟨fun h'=>absurd h' List.not_mem_nil,fun h'=>absurd h h'.1⟩
 ·rename_i h
  split
  ·rename_i g
   simp only [List.mem_cons,List.not_mem_nil,or_false]
   constructor
   ·rintro (a | a)
    ·exact ⟨h,.inl a⟩
    ·exact ⟨h,.inr ⟨a,g⟩⟩
   ·rintro ⟨_,a | a⟩
    ·exact .inl a
    ·exact .inr a.1
  ·rename_i g
   simp only [List.mem_cons,List.not_mem_nil,or_false]
   exact ⟨fun a=>⟨h,.inl a⟩,fun a=>a.2.elim id fun b=>absurd b.2 g⟩
theorem dyF_mem {F:List Ev} {x:Int}:x∈dyF F↔ ∃e∈F,e.knd≠7∧(x=e.day∨(x=e.hi∧0 < e.hi∧e.hi < 65536)):=by
 rw [dyF,(xg1 _).2,List.mem_flatMap]
 exact exists_congr fun e=>and_congr_right fun _=>dyE_mem
theorem dyC_mem {F:List Ev} {x:Int}:x∈dyC F↔ ∃e∈F,e.knd=6∧x=e.day:=by
 rw [dyC,(xg1 _).2,List.mem_map]
 constructor
 ·rintro ⟨e,he,rfl⟩
  obtain ⟨h1,h2⟩:=List.mem_filter.1 he
  exact ⟨e,h1,of_decide_eq_true h2,rfl⟩
 ·rintro ⟨e,he,hk,rfl⟩
  exact ⟨e,List.mem_filter.2 ⟨he,decide_eq_true hk⟩,rfl⟩
def calE (F:List Ev):Prop:= ∀e∈F,(0≤e.day∧e.day≤65535)∧0≤e.hi∧e.hi≤65536
theorem kD_bd {K:Nat} {F:List Ev} (h:calE F): ∀x∈kD K F,0≤x∧x < 65536:=fun x hx=>by
 rw [kD] at hx
 split at hx
 ·obtain ⟨e,he,_,rfl⟩:=dyC_mem.1 hx
  have:=(h e he).1;omega
 ·obtain ⟨e,he,_,hh⟩:=dyF_mem.1 hx
  have:=(h e he).1;omega
theorem kD_pw2 {K:Nat} {F:List Ev} (h:calE F):(kD K F++[65536]).Pairwise (· < ·):=
 List.pairwise_append.2 ⟨kD_pw,List.pairwise_singleton ..,fun a ha b hb=>by rw [List.mem_singleton.1 hb];exact (kD_bd h a ha).2⟩
def sameD (F:List Ev) (x d:Int):Prop:= ∀e∈F,e.knd≠7→(e.day≤d↔e.day≤x)∧(d < e.hi↔x < e.hi)
theorem xt0 {p q:Ev→Bool} {F:List Ev} (h: ∀e∈F,p e=q e):lastE p F=lastE q F:=lastE_congr (List.filter_congr h)
theorem hire_same {F:List Ev} {x d:Int} (h:sameD F x d) (job:Int):hireE F job d=hireE F job x:=by
 have e:lastE (pHire job d) F=lastE (pHire job x) F:=xt0 fun e he=>by
  by_cases hk:e.knd=7
  ·simp [pHire,hk]
  ·have:=(h e he hk).1
   rw [Bool.eq_iff_iff];simp only [pHire,Bool.and_eq_true,Bool.or_eq_true,decide_eq_true_eq,this]
 rw [hireE,hireE,e]
theorem idle_same {F:List Ev} {x d:Int} (h:sameD F x d) (job:Int):idleE F job d=idleE F job x:=by
 rw [idleE,idleE,xt0 fun e he=> ?_]
 by_cases hk:e.knd=7
 ·simp [pIdle,hk]
 ·have:=h e he hk
  rw [Bool.eq_iff_iff];simp only [pIdle,Bool.and_eq_true,decide_eq_true_eq,this.1,this.2]
theorem part_same {F:List Ev} {x d:Int} (h:sameD F x d) (g:Ev):partE F g d=partE F g x:=by
 have e:lastE (pHours g d) F=lastE (pHours g x) F:=xt0 fun e he=>by
  by_cases hk:e.knd=7
  ·simp [pHours,hk]
  ·have:=h e he hk
   rw [Bool.eq_iff_iff];simp only [pHours,Bool.and_eq_true,decide_eq_true_eq,this.1,this.2]
 rw [partE,partE,idle_same h,e]
theorem pay_same {F:List Ev} {x d:Int} (h:sameD F x d) (g:Ev):payE F g d=payE F g x:=by
 have e:lastE (pPay g d) F=lastE (pPay g x) F:=xt0 fun e he=>by
  by_cases hk:e.knd=7
  ·simp [pPay,hk]
  ·have:=(h e he hk).1
   rw [Bool.eq_iff_iff];simp only [pPay,Bool.and_eq_true,decide_eq_true_eq,this]
 rw [payE,payE,idle_same h,e]
theorem held_congr {F G:List Ev} {x d:Int} (h: ∀job:Int,hireE F job d=hireE G job x): ∀n,heldQ F d n=heldQ G x n
 | 0=>rfl
 | n+1=>by rw [heldQ,heldQ,held_congr h n,h]
theorem sum_congr {f:List Ev→Ev→Int→Fr} {F G:List Ev} {x d:Int} (h: ∀job:Int,hireE F job d=hireE G job x) (hf: ∀g,f F g d=f G g x): ∀n,sumQ f F d n=sumQ f G x n
 | 0=>rfl
 | n+1=>by rw [sumQ,sumQ,sum_congr h hf n,addJ,addJ,h];simp only [hf]
theorem kQ_same {K:Nat} {F:List Ev} {x d:Int} (h:sameD F x d):kQ K F d=kQ K F x:=by
 have hh:=fun job=>hire_same h job
 match K with
 | 0=>
  have e:crdL F d=crdL F x:=List.filter_congr fun e he=>by
   by_cases hk:e.knd=7
   ·simp [hk]
   ·rw [Bool.eq_iff_iff];simp only [Bool.and_eq_true,decide_eq_true_eq,(h e he hk).1]
  show crdQ F d=crdQ F x
  rw [crdQ,crdQ,e]
 | 1=>show fteQ F d=fteQ F x;rw [fteQ,fteQ,held_congr hh,sum_congr hh (part_same h)]
 | K+2=>show payQ F d=payQ F x;rw [payQ,payQ,held_congr hh,sum_congr hh (pay_same h)]
theorem kG_same {K:Nat} {F:List Ev} {x d:Int} (h:sameD F x d):kG K F d=kG K F x:=by rw [kG,kG,kQ_same h]
theorem crd_same {F:List Ev} {x d:Int} (h: ∀e∈F,e.knd=6→(e.day≤d↔e.day≤x)):crdQ F d=crdQ F x:=by
 have e:crdL F d=crdL F x:=List.filter_congr fun e he=>by
  by_cases hk:e.knd=6
  ·rw [Bool.eq_iff_iff];simp only [Bool.and_eq_true,decide_eq_true_eq,h e he hk]
  ·simp [hk]
 rw [crdQ,crdQ,e]
theorem cOn_of {g:Int→Option Va}: ∀{pre ds:List Int},(pre++ds).Pairwise (· < ·)→(∀x d y,x∈pre++ds→y∈pre++ds→x≤d→d < y→(∀z∈pre++ds,z≤x∨y≤z)→g d=g x)→cOn g ds
 | _,[],_,_=>trivial
 | _,[x],_,_=>trivial
 | pre,x::y::r,hp,ha=>by
  have h1:=List.pairwise_append.1 hp
  have hq:=List.pairwise_cons.1 h1.2.1
  have hq2:=List.pairwise_cons.1 hq.2
  have key: ∀z∈pre++x::y::r,z≤x∨y≤z:=fun z hz=>by
   rcases List.mem_append.1 hz with hz | hz
   ·have:=h1.2.2 z hz x (List.mem_cons_self ..);omega
   ·rcases List.mem_cons.1 hz with rfl | hz
    ·omega
    ·rcases List.mem_cons.1 hz with rfl | hz
     ·omega
     ·have:=hq2.1 z hz;omega
  refine ⟨fun d hx hy=>ha x d y (by simp) (by simp) hx hy key,?_⟩
  have e:pre++x::y::r=(pre++[x])++(y::r):=by simp
  rw [e] at hp ha
  exact cOn_of hp ha
theorem kG_on {K:Nat} {F:List Ev} (h:calE F):cOn (kG K F) (kD K F++[65536]):=
 cOn_of (pre:=[]) (kD_pw2 h) fun x d y hx hy hxd hdy hz=>by
  simp only [List.nil_append] at hx hy hz
  have hx0:0≤x:=by
   rcases List.mem_append.1 hx with h1 | h1
   ·exact (kD_bd h x h1).1
   ·rw [List.mem_singleton.1 h1];decide
  have hy0:y≤65536:=by
   rcases List.mem_append.1 hy with h1 | h1
   ·have:=(kD_bd h y h1).2;omega
   ·rw [List.mem_singleton.1 h1];decide
  have hz': ∀z∈kD K F,z≤x∨y≤z:=fun z hz0=>hz z (List.mem_append_left _ hz0)
  by_cases hK:K=0
  ·subst hK
   show (crdQ F d).map _=(crdQ F x).map _
   rw [crd_same (x:=x) fun e he hk=> ?_]
   have:=hz' e.day (by rw [kD,if_pos rfl];exact dyC_mem.2 ⟨e,he,hk,rfl⟩)
   omega
  ·refine kG_same fun e he hk=> ?_
   rw [kD,if_neg hK] at hz'
   have h1:=hz' e.day (dyF_mem.2 ⟨e,he,hk,.inl rfl⟩)
   have hb:=(h e he).2
   refine ⟨by omega,?_⟩
   by_cases hc:0 < e.hi∧e.hi < 65536
   ·have:=hz' e.hi (dyF_mem.2 ⟨e,he,hk,.inr ⟨rfl,hc⟩⟩);omega
   ·omega
theorem held_none {F:List Ev} {d:Int} (h: ∀job:Int,hireE F job d=none): ∀n,heldQ F d n=false
 | 0=>rfl
 | n+1=>by rw [heldQ,held_none h n,h];rfl
theorem hire_none {F:List Ev} {d:Int} (h: ∀e∈F,e.knd≠7→d < e.day) (job:Int):hireE F job d=none:=by
 have e:lastE (pHire job d) F=none:=(xn1 _ _).1.2 fun e he=>by
  by_cases hk:e.knd=7
  ·simp [pHire,hk]
  ·have h1:=h e he hk
   have h2:decide (e.day≤d)=false:=decide_eq_false (by omega)
   rw [pHire,h2,Bool.and_false,Bool.false_and]
 rw [hireE,e]
theorem kG_before {K:Nat} {F:List Ev} {d:Int} (h: ∀x∈kD K F,d < x):kG K F d=none:=by
 by_cases hK:K=0
 ·subst hK
  show (crdQ F d).map _=none
  have e:crdL F d=[]:=List.filter_eq_nil_iff.2 fun e he h'=>by
   simp only [Bool.and_eq_true,decide_eq_true_eq] at h'
   have:=h e.day (by rw [kD,if_pos rfl];exact dyC_mem.2 ⟨e,he,h'.1,rfl⟩)
   omega
  rw [crdQ,e];rfl
 ·rw [kD,if_neg hK] at h
  have hh:=hire_none (F:=F) (d:=d) fun e he hk=>h e.day (dyF_mem.2 ⟨e,he,hk,.inl rfl⟩)
  have hq:=held_none hh 8
  show (kQ K F d).map _=none
  match K,hK with
  | 1,_=>show (fteQ F d).map _=none;rw [fteQ,hq];rfl
  | K+2,_=>show (payQ F d).map _=none;rw [payQ,hq];rfl
theorem mT_asc (K:Nat) {F:List Ev} (h:calE F):ascT (mT K F)∧nbT (mT K F):=⟨(seg_pst (kD_pw2 h)).1,(seg_pst (kD_pw2 h)).2.1⟩
theorem mT_val (K:Nat) {F:List Ev} (h:calE F) (d:Int):valT (mT K F) d=if d < 65536 then kG K F d else none:=by
 rw [mT,(seg_pst (kD_pw2 h)).2.2]
 have hv:=segL_val (kD_pw2 h) (kG_on (K:=K) h)
 by_cases h1: ∃x∈kD K F++[65536],x≤d
 ·by_cases h2:d < 65536
  ·rw [if_pos h2]
   exact hv.1 d h1 ⟨65536,by simp,h2⟩
  ·rw [if_neg h2]
   refine hv.2 d (.inr fun y hy=> ?_)
   rcases List.mem_append.1 hy with h3 | h3
   ·have:=(kD_bd h y h3).2;omega
   ·rw [List.mem_singleton.1 h3];omega
 ·have h3: ∀x∈kD K F++[65536],d < x:=fun x hx=>Int.not_le.1 fun h'=>h1 ⟨x,hx,h'⟩
  rw [hv.2 d (.inl h3),kG_before fun x hx=>h3 x (List.mem_append_left _ hx)]
  split <;> rfl
def stG (b:Int→Bool) (v:Int→Rat) (kk:Nat) (d:Int):Option Va:=if b d=true then some ⟨kk,fr (v d),0⟩ else none
def stK (b:Int→Bool) (v:Int→Rat) (kk:Nat) (ds:List Int) (k:Nat):List Tst:=pst [] (segN (stG b v kk) (ds++[65536]) k)
section
variable {b:Int→Bool} {v:Int→Rat} {kk:Nat} {ds:List Int} {k:Nat}
theorem endD_at (hk:k < ds.length):(ds++[65536]).getD k 0=ds.getD k 0:=by
 rw [List.getD_eq_getElem?_getD,List.getElem?_append_left hk,List.getD_eq_getElem?_getD]
theorem endD_end (hk:k=ds.length):(ds++[65536]).getD k 0=65536:=by
 subst hk
 rw [List.getD_eq_getElem?_getD,List.getElem?_append_right (Nat.le_refl _)];simp
theorem stK_none (hk:k < ds.length) (h:b (ds.getD k 0)=false):stK b v kk ds (k+1)=stK b v kk ds k:=by
 rw [stK,stK,segN_next,segI,endD_at hk,stG,if_neg (by rw [h];decide)];simp
theorem xk9 (hk:k < ds.length) (h:b (ds.getD k 0)=true):stK b v kk ds (k+1)=pst1 (stK b v kk ds k) ⟨ds.getD k 0,(ds++[65536]).getD (k+1) 0,⟨kk,fr (v (ds.getD k 0)),0⟩⟩:=by
 rw [stK,stK,segN_next,segI,endD_at hk,stG,if_pos h,pst_app];rfl
theorem stK_len:(stK b v kk ds k).length≤k:=by
 have h1:=pst_len (segN (stG b v kk) (ds++[65536]) k) []
 have h2:=segN_len (g:=stG b v kk) (ds:=ds++[65536]) k
 rw [stK];simp only [List.length_nil] at h1;omega
theorem stK_val: ∀s∈stK b v kk ds k,s.v.kind=kk∧s.v.i=0:=by
 rw [stK]
 refine pst_all (P:=fun s=>s.v.kind=kk∧s.v.i=0) (fun a s ha _ _=>ha) _ _ (fun s hs=>by cases hs) fun s hs _=> ?_
 obtain ⟨i,_,hs⟩:=List.mem_flatMap.1 hs
 rw [segI] at hs
 cases hg:stG b v kk ((ds++[65536]).getD i 0) with
 | none=>rw [hg] at hs;cases hs
 | some w=>
  rw [hg] at hs
  rw [List.mem_singleton.1 hs]
  rw [stG] at hg
  split at hg
  ·obtain rfl:=Option.some.inj hg;exact ⟨rfl,rfl⟩
  ·cases hg
theorem stK_last (h:0 < (stK b v kk ds k).length) {f:Fr} (e:((stK b v kk ds k).getD ((stK b v kk ds k).length - 1) tst0).v.f=f):((stK b v kk ds k).getD ((stK b v kk ds k).length - 1) tst0).v=⟨kk,f,0⟩:=by
 have hm:=stK_val _ (xd7 (l:=stK b v kk ds k) (i:=(stK b v kk ds k).length - 1) (by omega))
 generalize (stK b v kk ds k).getD ((stK b v kk ds k).length - 1) tst0=s at*
 obtain ⟨_,_,⟨a,c,d⟩⟩:=s
 simp only at hm e
 rw [hm.1,hm.2,e]
theorem stK_all:stK b v kk ds ds.length=pst [] (segL (stG b v kk) (ds++[65536])):=by
 rw [stK,segL_N,List.length_append];rfl
theorem stG_mT {K:Nat} {F:List Ev} (h: ∀d,stG b v kk d=kG K F d) (hd:ds=kD K F):pst [] (segL (stG b v kk) (ds++[65536]))=mT K F:=by
 rw [mT,hd,show stG b v kk=kG K F from funext h]
end
end An
namespace An
open Go
theorem lent_lb {N:Nat} {w:World} {F:Dom} {η:Env} {l0:List Nat} {H:List (Nat×HEnt)} {h:Keys} {k:Nat} (hx:(H.all fun x=>l0.contains x.1 && !(Nat.beq x.1 k) && (h x.1).isSome)=true):
  ∀b,(Base.lent N w F η l0 H).lb b→ ∃j y,j∈(Base.lent N w F η l0 H).ln∧j≠k∧h j=some y∧0 < (Base.lent N w F η l0 H).lη.c j∧b=(Base.lent N w F η l0 H).lη.b j:=fun b ⟨x,hm,hc,e⟩=>by
 have h1:=List.all_eq_true.1 hx x hm
 simp only [Bool.and_eq_true,Bool.not_eq_true'] at h1
 obtain ⟨⟨h1,h2⟩,h3⟩:=h1
 obtain ⟨y,hy⟩:=Option.isSome_iff_exists.1 h3
 refine ⟨x.1,y,(show x.1∈l0 by simpa using h1),fun e2=> ?_,hy,hc,e⟩
 rw [e2,Nat.beq_refl] at h2;cases h2
theorem wl_give {P:Program} {c:Base} {g:Slots} {h:Keys} {al:Names} {Q:Exit→Act→World→Prop} {A:Array Oper} {rest:List Oper} {t k T es off len:Nat} {agg:Bool} {ts:List Ent} {α:Type} {f:α→Ty} {xs:List α} (hg:g t=some (.own (.sl k es off len))) (hk:h k=some ⟨T,es,agg,ts⟩) (hlb:NoLb c)
  (hts:(ts.drop off).take len=xs.map fun x=> .val (f x)) (hl:xs.length=len) (H:wl P c A Q rest (upd g t (some (.val (tL es agg f xs)))) (upd h k none) al):wl P c A Q rest g h al:=fun a w ⟨η,s⟩=>by
 have h2:=s.give hk hlb hts hl (s.slot t _ hg).2.2
 have s2:=(s.drop k).put (s.slot t _ hg).1 (e:= .val (tL es agg f xs)) h2 fun j hj=>by cases hj
 refine H a w ⟨η,?_⟩
 have e:a.put (some t) (a.tmps.getD t undef)=a:=by
  have hlt:t < a.tmps.size:=by rw [s.tn];exact (s.slot t _ hg).1
  have:a.tmps.setIfInBounds t (a.tmps.getD t undef)=a.tmps:=by
   apply Array.ext_getElem?
   intro i
   rw [Array.getElem?_setIfInBounds]
   by_cases hi:t=i
   ·subst hi;simp [hlt]
   ·simp [hi]
  simp only [Act.put,this]
 rwa [e] at s2
theorem ImpK.three {T es:Nat} {agg:Bool} {a b c a' b' c':Ty} (h1:Le a a') (h2:Le b b') (h3:Le c c'):ImpK ⟨T,es,agg,[.val a,.val b,.val c]⟩ ⟨T,es,agg,[.val a',.val b',.val c']⟩:=
 .ts (Nat.le_refl _) fun i e hi=>by
  match i,hi with
  | 0,hi=>obtain rfl:=Option.some.inj hi;exact ⟨_,rfl,Imp.le h1⟩
  | 1,hi=>obtain rfl:=Option.some.inj hi;exact ⟨_,rfl,Imp.le h2⟩
  | 2,hi=>obtain rfl:=Option.some.inj hi;exact ⟨_,rfl,Imp.le h3⟩
theorem xf5 {P:Program} {c:Base} {d ty:Nat} {pos:String} {af:Array Edge} {gd:Option (Nat×Bool)} {T E es by_ k k' n n':Nat} {agg:Bool} {z:Value} {α:Type} {f:α→Ty} (xs:List α) (e:α) {x y:Operand} {T0:Nat} (sl:P.underlying T=some (.slice E)) (el:ElI P E es by_ agg z) (hz:Flat es agg z) (hT:T0=E) (h0:Nat.blt 0 es=true)
  (hf: ∀y,Shape (f y) es agg) (hn:xs.length=n) (hb:(n+1)*by_≤140737488355328∧n+1≤9223372036854775807) (hn':n+1=n'):
  Does P c ⟨some d,.call {callee:= .builtin .append,args:= #[x,y],argTypes:= #[T,T]},ty,pos,af,gd⟩ ⟨[(x,.own (.sl k es 0 n)),(y,.val (tL es agg f [e]))],[(k,⟨T0,es,agg,rV f xs⟩)],some (d,some (.own (.sl k' es 0 n'))),[(k,none),(k',some ⟨T0,es,agg,rV f (xs++[e])⟩)],[k']⟩:=
 xc5 (ys:=[e]) sl el hz hT h0 hf (xd9.trans hn) hb.1 hb.2 (by simp [rV]) hn'
end An
namespace An.S
open Go Go.Proofs An
instance ti24:TyI Tryz.prog 24 1 false:=⟨by kernel_rfl,by kernel_rfl⟩
instance ti94:TyI Tryz.prog 94 1 true:=⟨by kernel_rfl,by kernel_rfl⟩
instance sl97:SlI Tryz.prog 97 4 1 false:=⟨Tryz.underlying97,ti4⟩
instance fo94_0:FoI Tryz.prog 94 0 0:=⟨by kernel_rfl⟩
instance fi26:FnI Tryz.prog 26:=⟨_,Tryz.func26,by kernel_rfl,rfl⟩
instance fi30:FnI Tryz.prog 30:=⟨_,Tryz.func30,by kernel_rfl,rfl⟩
instance fi48:FnI Tryz.prog 48:=⟨_,Tryz.func48,by kernel_rfl,rfl⟩
instance fi122:FnI Tryz.prog 122:=⟨_,Tryz.func122,by kernel_rfl,rfl⟩
instance fi124:FnI Tryz.prog 124:=⟨_,Tryz.func124,by kernel_rfl,rfl⟩
instance fi163:FnI Tryz.prog 163:=⟨_,Tryz.func163,by kernel_rfl,rfl⟩
instance fi164:FnI Tryz.prog 164:=⟨_,Tryz.func164,by kernel_rfl,rfl⟩
instance fi165:FnI Tryz.prog 165:=⟨_,Tryz.func165,by kernel_rfl,rfl⟩
instance fi166:FnI Tryz.prog 166:=⟨_,Tryz.func166,by kernel_rfl,rfl⟩
instance fi167:FnI Tryz.prog 167:=⟨_,Tryz.func167,by kernel_rfl,rfl⟩
instance fi193:FnI Tryz.prog 193:=⟨_,Tryz.func193,by kernel_rfl,rfl⟩
instance fi194:FnI Tryz.prog 194:=⟨_,Tryz.func194,by kernel_rfl,rfl⟩
theorem el4:ElI Tryz.prog 4 1 1 false (.bool false):=⟨ti4,by kernel_rfl,by kernel_rfl⟩
theorem el32:ElI Tryz.prog 32 14 176 true (.agg #[.int .u8 0,.int .i64 0,.int .i64 0,.int .i64 0,.int .i64 0,.bool false,.slice none 0 0,.bool false,.slice none 0 0,.bool false,.slice none 0 0,.bool false,.slice none 0 0,.int .i64 0]):=⟨ti32,by kernel_rfl,by kernel_rfl⟩
theorem zr94:(Tryz.prog.info? 94).bind (·.zero)=some (.agg #[.slice none 0 0])∧ ∀F w,(tS [⟨1,false,(tE (.slice none 0 0))⟩]).p F w (.agg #[.slice none 0 0]):=⟨by kernel_rfl,fun _ _=>⟨_,rfl,rfl,⟨fun _=>rfl,rfl⟩,trivial⟩⟩
theorem bu32:BuI Tryz.prog 32 (fun i=>[(0,1),(1,1),(2,1),(3,1),(4,1),(5,4),(9,4),(13,1)][i]?) (.agg #[.int .u8 0,.int .i64 0,.int .i64 0,.int .i64 0,.int .i64 0,.bool false,.slice none 0 0,.bool false,.slice none 0 0,.bool false,.slice none 0 0,.bool false,.slice none 0 0,.int .i64 0]):=BuI.struct Tryz.underlying32 (by kernel_rfl) (by kernel_rfl)
theorem zf32:Flat 14 true (.agg #[.int .u8 0,.int .i64 0,.int .i64 0,.int .i64 0,.int .i64 0,.bool false,.slice none 0 0,.bool false,.slice none 0 0,.bool false,.slice none 0 0,.bool false,.slice none 0 0,.int .i64 0]):=xm0 (by intro u hu;simp at hu;rcases hu with rfl | rfl | rfl | rfl | rfl | rfl | rfl | rfl | rfl | rfl | rfl | rfl | rfl | rfl <;> rfl)
instance un97:UnI Tryz.prog 97 (.slice 4):=⟨Tryz.underlying97⟩
abbrev tVw (fs:List Ev):Ty:=tS [⟨1,false,tL 14 true tEv fs⟩]
def inK (l:List Ev) (kn:Int) (k:Nat):List Ev:=((List.range k).filter (frc l kn)).map fun i=>l.getD i ev0
theorem inK_next {l:List Ev} {kn:Int} {k:Nat}:inK l kn (k+1)=inK l kn k++if frc l kn k=true then [l.getD k ev0] else []:=by
 rw [inK,List.range_succ,List.filter_append,List.map_append,List.filter_cons]
 split <;> simp [inK]
theorem inK_len {l:List Ev} {kn:Int} {k:Nat}:(inK l kn k).length≤k:=by
 have:=List.length_filter_le (frc l kn) (List.range k)
 rw [List.length_range] at this;rw [inK,List.length_map];exact this
def inN (l:List Ev) (kn:Int) (k:Nat):List Int:=((List.range k).filter (frc l kn)).map fun i:Nat=>(i:Int)+1
theorem inN_next {l:List Ev} {kn:Int} {k:Nat}:inN l kn (k+1)=inN l kn k++if frc l kn k=true then [(k:Int)+1] else []:=by
 rw [inN,List.range_succ,List.filter_append,List.map_append,List.filter_cons]
 split <;> simp [inN]
theorem inN_len {l:List Ev} {kn:Int} {k:Nat}:(inN l kn k).length≤k:=by
 have:=List.length_filter_le (frc l kn) (List.range k)
 rw [List.length_range] at this;rw [inN,List.length_map];exact this
def infN (l:List Ev) (kn:Int):List Int:=(infI l kn).map fun i:Nat=>(i:Int)+1
theorem c_live (l:List Ev) (kn:Int) (hv: ∀i,i < l.length→EOk l i) (hl:l.length≤100):
  Ct Tryz.prog 48 [tL 14 true tEv l,tI kn] (tL 1 false (fun b:Bool=>tB b) (live l kn)):=by
 refine Ct.intro Tryz.func48 rfl Tryz.ntmps48 rfl ?_
 intro w F
 refine A9 ?_
 refine RE (xi1 (k:=10) (t:=tB false) (ts:=rV (fun b:Bool=>tB b) (List.replicate l.length false)) l.length l.length Tryz.underlying97 el4 (fun _ _=>rfl) rfl (by omega) (by omega) (Nat.le_refl _) (by omega) (by omega) (rV_rep (f:=fun b:Bool=>tB b) _ _ rfl)) ⟨rfl,rfl,trivial⟩ trivial ⟨rfl,trivial⟩ ?_
 refine A7 ?_
 refine RE (xi1 (k:=13) (t:=tB false) (ts:=rV (fun b:Bool=>tB b) (List.replicate l.length false)) l.length l.length Tryz.underlying97 el4 (fun _ _=>rfl) rfl (by omega) (by omega) (Nat.le_refl _) (by omega) (by omega) (rV_rep (f:=fun b:Bool=>tB b) _ _ rfl)) ⟨rfl,rfl,trivial⟩ trivial ⟨rfl,trivial⟩ ?_
 refine A13 ?_
 refine cL (fun (k:Nat)=>k≤l.length) (fun (k:Nat)=>upd (upd (upd (upd (upd (fun _=>none) 0 (some (.val (tL 14 true tEv l)))) 1 (some (.val (tI kn)))) 5 (some (.own (.sl 10 1 0 l.length)))) 6 (some (.own (.sl 13 1 0 l.length)))) 7 (some (.val (tI ((l.length:Int) - 1 - (k:Int)))))) (fun (k:Nat)=>upd (upd (fun _=>none) 10 (some (⟨4,1,false,rV (fun b:Bool=>tB b) (liveS l kn k).1⟩))) 13 (some (⟨4,1,false,rV (fun b:Bool=>tB b) (liveS l kn k).2⟩))) [10,13] (fun (k:Nat)=>l.length - k) (0) (Nat.zero_le _) (hh:=((SubK.consI rfl ImpK.refl) ((SubK.consI rfl ImpK.refl) SubK.nil))) ?_
 intro k hI
 have hl1:=(liveS_len (l:=l) (kn:=kn) k).1
 have hl2:=(liveS_len (l:=l) (kn:=kn) k).2
 have hn:=fun (hh:k < l.length)=>hv (l.length - 1 - k) (by omega)
 refine A7 ?_
 refine x9 rfl (fun h128=> ?_) (fun h128=> ?_)
 ·
  refine A9 ?_
  refine R2 (x5 sl24 ((l.length - 1 - k)) (by omega) (gD (l:=l) (n:=(l.length - 1 - k)) (d:=ev0) (by omega))) rfl rfl (R1 (xd0 fo32_1.h (At.f 1 rfl rfl) rfl) rfl ?_)
  refine A4 ?_
  refine RGcaseD (t:=28) rfl (fun h129=> ?_) (fun h129=> ?_)
  ·
   refine A17 ?_
   have hs:liveS l kn (k+1)=liveS l kn k:=by rw [liveS,if_pos (.inl (by omega))]
   exact kF (k+1) ⟨(by omega),(by omega)⟩ (hh:=((SubK.consI rfl (ImpK.of (by rw [hs]))) ((SubK.consI rfl (ImpK.of (by rw [hs]))) SubK.nil)))
  ·
   refine A2 ?_
   refine RGon (decide_eq_false h129) rfl (xa1 sl97 (by omega) (by omega) rfl) rfl ⟨rfl,rfl,trivial⟩ trivial trivial (RGon (decide_eq_false h129) rfl (xb2 (l.length - 1 - k) ti4 (xb8 (f:=fun b:Bool=>tB b) (xs:=(liveS l kn k).2) (d:=false) (by rw [hl2];omega)) (by omega)) rfl ⟨rfl,trivial⟩ ⟨rfl,trivial⟩ trivial ?_)
   refine A3 ?_
   refine xc1 rfl (fun h129_2=> ?_) (fun h129_2=> ?_)
   ·
    refine A9 ?_
    have hs:liveS l kn (k+1)=liveS l kn k:=by rw [liveS,if_pos (.inr h129_2)]
    exact kF (k+1) ⟨(by omega),(by omega)⟩ (hh:=((SubK.consI rfl (ImpK.of (by rw [hs]))) ((SubK.consI rfl (ImpK.of (by rw [hs]))) SubK.nil)))
   ·
    refine A6 ?_
    refine R2 (xa1 sl97 (by omega) (by omega) rfl) rfl rfl (RE (xb4 ((l.length - 1 - k)) ti4 (rV_lt (by rw [hl1];omega)) (by omega) (xh3 (m:=true) rfl)) ⟨rfl,rfl,trivial⟩ ⟨rfl,trivial⟩ trivial ?_)
    refine A6 ?_
    refine R2 (x5 sl24 ((l.length - 1 - k)) (by omega) (gD (l:=l) (n:=(l.length - 1 - k)) (d:=ev0) (by omega))) rfl rfl (R1 (xd0 fo32_0.h (At.f 0 rfl rfl) rfl) rfl ?_)
    refine A4 ?_
    refine x9 rfl (fun h133=> ?_) (fun h133=> ?_)
    ·
     refine A4 ?_
     have ho:=(hn (by omega)).of_ (by omega)
     refine R2 (x5 sl24 ((l.length - 1 - k)) (by omega) (gD (l:=l) (n:=(l.length - 1 - k)) (d:=ev0) (by omega))) rfl rfl (R1 (xd0 fo32_7.h (At.f 7 rfl rfl) rfl) rfl ?_)
     refine A2 ?_
     refine R2 (xa1 sl97 (by omega) (by omega) rfl) rfl rfl (RE (xb4 (((l.getD (l.length - 1 - k) ev0).nr - 1).toNat) ti4 (rV_lt (by rw [hl2];omega)) (by omega) (xh3 (m:=true) rfl)) ⟨rfl,rfl,trivial⟩ ⟨rfl,trivial⟩ trivial ?_)
     refine A8 ?_
     have hs:liveS l kn (k+1)=((liveS l kn k).1.set (l.length - 1 - k) true,(liveS l kn k).2.set ((l.getD (l.length - 1 - k) ev0).nr - 1).toNat true):=by rw [liveS,if_neg (fun hh=>hh.elim (fun h1=>by omega) (fun h1=>by rw [h1] at h129_2;cases h129_2)),if_pos (by omega)]
     exact kF (k+1) ⟨(by omega),(by omega)⟩ (hh:=((SubK.consI rfl (ImpK.of (by rw [hs]))) ((SubK.consI rfl (ImpK.of (by rw [hs]))) SubK.nil)))
    ·
     refine A8 ?_
     have hs:liveS l kn (k+1)=((liveS l kn k).1.set (l.length - 1 - k) true,(liveS l kn k).2):=by rw [liveS,if_neg (fun hh=>hh.elim (fun h1=>by omega) (fun h1=>by rw [h1] at h129_2;cases h129_2)),if_neg (by omega)]
     exact kF (k+1) ⟨(by omega),(by omega)⟩ (hh:=((SubK.consI rfl (ImpK.of (by rw [hs]))) ((SubK.consI rfl (ImpK.of (by rw [hs]))) SubK.nil)))
 ·
  refine A8 ?_
  refine RE (xj4 (f:=fun b:Bool=>tB b) (xs:=(liveS l kn k).1) (fun _ h=>h) (xf7 hl1) hl1) ⟨rfl,trivial⟩ ⟨rfl,trivial⟩ trivial ?_
  refine A3 ?_
  exact x4 Plain.mk' rfl rfl (Le.of (by rw [live,show k=l.length by omega]))
theorem c_viewOf (l:List Ev) (kn:Int) (hv: ∀i,i < l.length→EOk l i) (hl:l.length≤100):
  Ct Tryz.prog 46 [tL 14 true tEv l,tI kn] (tVw (inf l kn)):=by
 refine Ct.intro Tryz.func46 rfl Tryz.ntmps46 rfl ?_
 intro w F
 refine A2 ?_
 refine RE (x6 (k:=4) (n:=1) (agg:=true) zr94.1 zr94.2 rfl) trivial trivial ⟨rfl,trivial⟩ ?_
 refine A4 ?_
 refine RE (d_allocC (k:=5) (n:=1) [.slice none 0 0] zr94.1 rfl rfl rfl rfl) trivial trivial ⟨rfl,trivial⟩ ?_
 refine A4 ?_
 refine C_nilC (q:=5) 50 32 14 true 0 rfl rfl rfl rfl (fun h=>by cases h) rfl rfl ?_
 refine A3 ?_
 refine R2 (x3 (c_live l kn hv hl) fi48 rfl) rfl rfl ?_
 refine A5 ?_
 refine cL (fun (i:Nat)=>i≤l.length) (fun (i:Nat)=>upd (upd (upd (upd (upd (upd (fun _=>none) 0 (some (.val (tL 14 true tEv l)))) 10 (some (.val (tL 1 false (fun b:Bool=>tB b) (live l kn))))) 11 (some (.val (tI l.length)))) 12 (some (.val (tI i)))) 4 (some (.own (.ptr 4 0)))) 5 (some (.own (.ptr 5 0)))) (fun (i:Nat)=>upd (upd (upd (fun _=>none) 4 (some (⟨94,1,true,[.val (tS [⟨1,false,tE (.slice none 0 0)⟩])]⟩))) 5 (some (⟨94,1,false,[.own (.sl 50 14 0 (inK l kn i).length)]⟩))) 50 (some (⟨32,14,true,rV tEv (inK l kn i)⟩))) [4,5,50] (fun (i:Nat)=>l.length - i) (0) (Nat.zero_le _) (hg:=(sC (sC (sI ((Sub.consI rfl (Imp.int (by rw [live_len]))) (sC (sC Sub.nil))))))) (hh:=((SubK.consI rfl ImpK.refl) ((SubK.consI rfl ImpK.refl) ((SubK.consI rfl ImpK.refl) SubK.nil)))) ?_
 intro i hI
 have hnx:=inK_next (l:=l) (kn:=kn) (k:=i)
 have hxl:=inK_len (l:=l) (kn:=kn) (k:=i)
 refine A6 ?_
 refine x9 rfl (fun h16=> ?_) (fun h16=> ?_)
 ·
  refine A7 ?_
  refine R2 (x5 sl97 (i) (by omega) (gD (l:=live l kn) (n:=i) (d:=false) (by rw [live_len];omega))) rfl rfl (R1 (xk1 ti4) rfl ?_)
  refine A9 ?_
  refine xc1 rfl (fun h17=> ?_) (fun h17=> ?_)
  ·
   refine A5 ?_
   refine R2 (x5 sl24 (i) (by omega) (gD (l:=l) (n:=i) (d:=ev0) (by omega))) rfl rfl ?_
   refine A1 ?_
   refine R1 (xa8 (n:=1) (f:=tEv) [(l.getD i ev0)] Tryz.underlying24 el32 zf32 rfl (fun _=>inferInstance) rfl rfl rfl) rfl (RE (xf5 (k:=50) (k':=25) (f:=tEv) (inK l kn i) (l.getD i ev0) Tryz.underlying24 el32 zf32 rfl rfl (fun _=>inferInstance) rfl ⟨by omega,by omega⟩ rfl) ⟨rfl,rfl,trivial⟩ ⟨rfl,trivial⟩ ⟨rfl,trivial⟩ ?_)
   refine A9 ?_
   rw [if_pos (show frc l kn i=true from h17)] at hnx
   exact xc0 (l:=[4,5,50]) (fun j=>cond (Nat.beq j 50) 25 (j)) (i+1) ⟨(by omega),(by omega)⟩ (SubR.cons rfl (SubR.cons rfl (SubR.int rfl (by first | omega | rfl | (dsimp only;omega)) (SubR.int rfl (by first | omega | rfl | (dsimp only;omega)) (SubR.cons rfl (SubR.cons rfl SubR.nil)))))) ((SubKR.consI rfl (ImpK.of (by rw [hnx];exact xa3.symm))) ((SubKR.consI rfl (ImpK.of (by rw [hnx,List.length_append];rfl))) (SubKR.cons rfl SubKR.nil))) (SupG.own rfl (SupG.own rfl (SupG.val (SupG.val (SupG.val (SupG.val SupG.nil)))))) (SupH.cons rfl (supJ xa2) (SupH.cons rfl (supJL rfl) (SupH.cons rfl (supJL rfl) SupH.nil))) (lkOk rfl) rfl rfl (fun _ h=>by cases h)
  ·
   refine A7 ?_
   rw [show frc l kn i=false from h17,if_neg (by decide),List.append_nil] at hnx
   exact kF (i+1) ⟨(by omega),(by omega)⟩ (hh:=((SubK.consI rfl (ImpK.of (by rw [hnx]))) ((SubK.consI rfl (ImpK.of (by rw [hnx]))) (SubK.cons rfl SubK.nil))))
 ·
  refine A6 ?_
  refine C_giveC (q:=5) (j:=50) (f:=tEv) (xs:=(inK l kn i)) 0 rfl rfl rfl rfl (NoLbK.of fun _ h=>h) (xf7 rfl) rfl rfl ?_
  refine A1 ?_
  refine RE (d_loadM (us:=[tL 14 true tEv (inK l kn i)]) (t:=tVw (inK l kn i)) ti94 rfl rfl rfl rfl) ⟨rfl,trivial⟩ ⟨rfl,trivial⟩ trivial ?_
  refine A4 ?_
  exact xc2 Plain.mk' rfl ⟨_,_,_,_,_,rfl,rfl,ti94,(Le.of (by rw [show i=l.length by omega];rfl))⟩
theorem c_InForce (l:List Ev) (kn:Int) (hD: ∀e∈l,e.part.dig∧e.pay.dig):
  Ct Tryz.prog 17 [tL 14 true tEv l,tI kn] (tL 1 false tI (if eVal l=true then infN l kn else [])):=by
 refine Ct.intro Tryz.func17 rfl Tryz.ntmps17 rfl ?_
 intro w F
 refine A9 ?_
 refine R1 (x3 (c_EValid l hD) fi26 rfl) rfl ?_
 refine A3 ?_
 refine xc1 rfl (fun h142=> ?_) (fun h142=> ?_)
 ·
  refine A7 ?_
  exact x4 Plain.mk' rfl rfl (by rw [if_neg (by simpa using h142)];exact leNil rfl)
 ·
  refine A4 ?_
  refine RE (xe4 (k:=5) 3 1 false rfl (fun _=>rfl)) trivial trivial ⟨rfl,trivial⟩ ?_
  refine A7 ?_
  refine R2 (x3 (c_live l kn (fun i hi=>xd4.1 (eVal_at (by simpa using h142) hi)) (eVal_len (by simpa using h142))) fi48 rfl) rfl rfl ?_
  refine A5 ?_
  have hvl:=eVal_len (l:=l) (by simpa using h142)
  refine cL (fun (i:Nat)=>i≤l.length) (fun (i:Nat)=>upd (upd (upd (upd (fun _=>none) 5 (some (.own (.sl 5 1 0 (inN l kn i).length)))) 13 (some (.val (tL 1 false (fun b:Bool=>tB b) (live l kn))))) 14 (some (.val (tI l.length)))) 15 (some (.val (tI i)))) (fun (i:Nat)=>upd (fun _=>none) 5 (some (⟨3,1,false,rV tI (inN l kn i)⟩))) [5] (fun (i:Nat)=>l.length - i) (0) (Nat.zero_le _) (hg:=(sI ((Sub.consI rfl (Imp.int (by rw [live_len]))) (sC (sC Sub.nil))))) (hh:=((SubK.consI rfl ImpK.refl) SubK.nil)) ?_
  intro i hI
  have hnx:=inN_next (l:=l) (kn:=kn) (k:=i)
  have hxl:=inN_len (l:=l) (kn:=kn) (k:=i)
  refine A6 ?_
  refine x9 rfl (fun h146=> ?_) (fun h146=> ?_)
  ·
   refine A7 ?_
   refine R2 (x5 sl97 (i) (by omega) (gD (l:=live l kn) (n:=i) (d:=false) (by rw [live_len];omega))) rfl rfl (R1 (xk1 ti4) rfl ?_)
   refine A9 ?_
   refine xc1 rfl (fun h147=> ?_) (fun h147=> ?_)
   ·
    refine A4 ?_
    refine R1 (xa8 (n:=1) (f:=fun n:Int=>tI n) [((i:Int)+1)] Tryz.underlying42 el3 zf3 rfl (fun _=>inferInstance) rfl rfl rfl) rfl (RE (xf5 (k:=5) (k':=25) (f:=fun n:Int=>tI n) (inN l kn i) ((i:Int)+1) Tryz.underlying42 el3 zf3 rfl rfl (fun _=>inferInstance) rfl ⟨by omega,by omega⟩ rfl) ⟨rfl,rfl,trivial⟩ ⟨rfl,trivial⟩ ⟨rfl,trivial⟩ ?_)
    refine A8 ?_
    rw [if_pos (show frc l kn i=true from h147)] at hnx
    exact xc0 (l:=[5]) (fun j=>cond (Nat.beq j 5) 25 (j)) (i+1) ⟨(by omega),(by omega)⟩ (SubR.int rfl (by first | omega | rfl | (dsimp only;omega)) (SubR.int rfl (by first | omega | rfl | (dsimp only;omega)) (SubR.cons rfl ((SubR.consI rfl (Imp.of (by rw [hnx,List.length_append];rfl))) SubR.nil)))) ((SubKR.consI rfl (ImpK.of (by rw [hnx];exact xa3.symm))) SubKR.nil) (SupG.val (SupG.val (SupG.val (SupG.own rfl SupG.nil)))) (SupH.cons rfl (supJ xa2) SupH.nil) (lkOk rfl) rfl rfl (fun _ h=>by cases h)
   ·
    refine A7 ?_
    rw [show frc l kn i=false from h147,if_neg (by decide),List.append_nil] at hnx
    exact kF (i+1) ⟨(by omega),(by omega)⟩ (hg:=(sI (sI (sC ((Sub.consI rfl (Imp.of (by rw [hnx]))) Sub.nil))))) (hh:=((SubK.consI rfl (ImpK.of (by rw [hnx]))) SubK.nil))
  ·
   refine A8 ?_
   refine RE (xj4 (f:=tI) (xs:=inN l kn i) (fun _ h=>h) (xf7 rfl) rfl) ⟨rfl,trivial⟩ ⟨rfl,trivial⟩ trivial ?_
   refine A3 ?_
   exact x4 Plain.mk' rfl rfl (Le.of (by rw [if_pos (by simpa using h142),show i=l.length by omega];rfl))
theorem c_hire1 (job d:Int) (e:Ev):
  CtG Tryz.prog 193 [(1,⟨3,1,false,[.val (tI job)]⟩),(2,⟨3,1,false,[.val (tI d)]⟩)] [.val (tEv e),.own (.ptr 1 0),.own (.ptr 2 0)] (.val (tB ((pHire job d) e))) [(1,⟨3,1,false,[.val (tI job)]⟩),(2,⟨3,1,false,[.val (tI d)]⟩)] []:=by
 refine CtG.intro [1,2] Tryz.func193 rfl Tryz.ntmps193 rfl rfl ⟨⟨rfl,(SupX.lit rfl)⟩,⟨rfl,(SupX.lit rfl)⟩,trivial⟩ ?_
 intro w F η
 refine A13 ?_
 refine RGcaseD (t:=9) rfl (fun h48=> ?_) (fun h48=> ?_)
 ·
  refine A6 ?_
  refine RGcaseD (t:=15) rfl (fun h48_2=> ?_) (fun h48_2=> ?_)
  ·
   refine A4 ?_
   refine RGcaseD (t:=19) rfl (fun h48_3=> ?_) (fun h48_3=> ?_)
   ·
    refine A3 ?_
    refine RGon (decide_eq_true h48_2) rfl (xe9 (decide_eq_true h48_3)) rfl ⟨rfl,rfl,trivial⟩ trivial trivial ?_
    refine A5 ?_
    exact xb7 LentC.mk' rfl rfl (Imp.of (congrArg (fun b=>Ent.val (tB b)) (by rw [Bool.eq_iff_iff];simp [pHire] <;> first | omega | (constructor <;> intro hh <;> omega)))) ⟨rfl,rfl,trivial⟩ rfl ⟨⟨rfl,(SupX.lit rfl)⟩,⟨rfl,(SupX.lit rfl)⟩,trivial⟩ rfl
   ·
    refine A3 ?_
    refine RGon (decide_eq_true h48_2) rfl (xc4 (decide_eq_false h48_3)) rfl ⟨rfl,rfl,trivial⟩ trivial trivial ?_
    refine A5 ?_
    exact xb7 LentC.mk' rfl rfl (Imp.of (congrArg (fun b=>Ent.val (tB b)) (by rw [Bool.eq_iff_iff];simp [pHire] <;> first | omega | (constructor <;> intro hh <;> omega)))) ⟨rfl,rfl,trivial⟩ rfl ⟨⟨rfl,(SupX.lit rfl)⟩,⟨rfl,(SupX.lit rfl)⟩,trivial⟩ rfl
  ·
   refine A13 ?_
   exact xb7 LentC.mk' rfl rfl (Imp.of (congrArg (fun b=>Ent.val (tB b)) (by rw [Bool.eq_iff_iff];simp [pHire] <;> first | omega | (constructor <;> intro hh <;> omega)))) ⟨rfl,rfl,trivial⟩ rfl ⟨⟨rfl,(SupX.lit rfl)⟩,⟨rfl,(SupX.lit rfl)⟩,trivial⟩ rfl
 ·
  refine A18 ?_
  refine A1 ?_
  exact xb7 LentC.mk' rfl rfl (Imp.of (congrArg (fun b=>Ent.val (tB b)) (by rw [Bool.eq_iff_iff];simp [pHire] <;> first | omega | (constructor <;> intro hh <;> omega)))) ⟨rfl,rfl,trivial⟩ rfl ⟨⟨rfl,(SupX.lit rfl)⟩,⟨rfl,(SupX.lit rfl)⟩,trivial⟩ rfl
theorem c_lastHire (fs:List Ev) (hF:fs.length≤100) (job d:Int):
  CtG Tryz.prog 165 [(101,⟨3,1,false,[.val (tI job)]⟩),(102,⟨3,1,false,[.val (tI d)]⟩)] [.val (tVw fs),.own (.fn 193 [.ptr 101 0,.ptr 102 0])] (.val (tT [tEv ((lastE (pHire job d) fs).getD ev0),tB (lastE (pHire job d) fs).isSome])) [(101,⟨3,1,false,[.val (tI job)]⟩),(102,⟨3,1,false,[.val (tI d)]⟩)] []:=by
 refine CtG.intro [101,102] Tryz.func165 rfl Tryz.ntmps165 rfl rfl ⟨⟨rfl,(SupX.lit rfl)⟩,⟨rfl,(SupX.lit rfl)⟩,trivial⟩ ?_
 intro w F η
 refine A3 ?_
 refine RE (x6 (k:=4) (n:=14) (agg:=true) zr32.1 zr32.2 rfl) trivial trivial ⟨rfl,trivial⟩ ?_
 refine A5 ?_
 refine RE (x6 (k:=6) (n:=14) (agg:=true) zr32.1 zr32.2 rfl) trivial trivial ⟨rfl,trivial⟩ ?_
 refine A11 ?_
 refine xg5 (0) ti24 rfl rfl rfl (At.g 0 rfl (rfl)) rfl ?_
 refine A5 ?_
 refine cL (fun (i:Nat)=>i≤fs.length) (fun (i:Nat)=>upd (upd (upd (upd (upd (upd (upd (fun _=>none) 1 (some (.own (.fn 193 [.ptr 101 0,.ptr 102 0])))) 4 (some (.own (.ptr 4 0)))) 6 (some (.own (.ptr 6 0)))) 7 (some (.val (tB (lastE (pHire job d) (fs.take i)).isSome)))) 11 (some (.val (tL 14 true tEv fs)))) 12 (some (.val (tI fs.length)))) 13 (some (.val (tI i)))) (fun (i:Nat)=>upd (upd (upd (upd (fun _=>none) 4 (some (⟨32,14,true,[.val (tEv ev0)]⟩))) 6 (some (⟨32,14,true,[.val (tEv ((lastE (pHire job d) (fs.take i)).getD ev0))]⟩))) 101 (some (⟨3,1,false,[.val (tI job)]⟩))) 102 (some (⟨3,1,false,[.val (tI d)]⟩))) [4,6,101,102] (fun (i:Nat)=>fs.length - i) (0) (Nat.zero_le _) (hh:=((SubK.consI rfl ImpK.refl) ((SubK.consI rfl ImpK.refl) ((SubK.consI rfl (ImpK.of rfl)) ((SubK.consI rfl (ImpK.of rfl)) SubK.nil))))) ?_
 intro i hI
 refine A6 ?_
 refine x9 rfl (fun h37=> ?_) (fun h37=> ?_)
 ·
  refine A6 ?_
  refine R2 (x5 sl24 (i) (by omega) (gD (l:=fs) (n:=i) (d:=ev0) (by omega))) rfl rfl ?_
  refine A1 ?_
  refine RE (x6 (k:=9) (n:=14) (agg:=true) zr32.1 zr32.2 rfl) trivial trivial ⟨rfl,trivial⟩ ?_
  refine A7 ?_
  refine RE (xg7 (ps:=[.val (tEv _)]) (caps:=[.ptr 1 0,.ptr 2 0]) (fun j=>cond (Nat.beq j 1) 101 (102)) (c_hire1 job d (fs.getD i ev0)) fi193 rfl (krC (ρ:=fun j=>cond (Nat.beq j 1) 101 (102)) (k:=1) rfl (krC (ρ:=fun j=>cond (Nat.beq j 1) 101 (102)) (k:=2) rfl (krN (ρ:=fun j=>cond (Nat.beq j 1) 101 (102))))) (krC (ρ:=fun j=>cond (Nat.beq j 1) 101 (102)) (k:=1) rfl (krC (ρ:=fun j=>cond (Nat.beq j 1) 101 (102)) (k:=2) rfl (krN (ρ:=fun j=>cond (Nat.beq j 1) 101 (102))))) ⟨⟨rfl,(SupX.lit rfl)⟩,⟨rfl,(SupX.lit rfl)⟩,trivial⟩ rfl) ⟨rfl,rfl,trivial⟩ ⟨rfl,rfl,trivial⟩ trivial ?_
  refine A1 ?_
  refine RGcase (t:=20) rfl (fun h38=> ?_) (fun h38=> ?_)
  ·
   refine A3 ?_
   refine RGcase (t:=23) rfl (fun h38_2=> ?_) (fun h38_2=> ?_)
   ·
    refine A5 ?_
    refine RGon h38 rfl (xe9 h38_2) rfl ⟨rfl,rfl,trivial⟩ trivial trivial ?_
    refine A15 ?_
    have hn:lastE (pHire job d) (fs.take (i+1))=some (fs.getD i ev0):=by rw [xb3 (by omega),last1,if_pos ⟨h38,fun hh=>by rw [hh] at h38_2;cases h38_2⟩]
    exact kF (i+1) ⟨(by omega),(by omega)⟩ (hg:=(sI (sI (sC ((Sub.consI rfl (Imp.of (by rw [hn];try rfl))) (sC (sC (sC Sub.nil)))))))) (hh:=((SubK.consI rfl ImpK.refl) ((SubK.consI rfl ImpK.refl) ((SubK.consI rfl (ImpK.of (by rw [hn];try rfl))) (SubK.cons rfl SubK.nil)))))
   ·
    refine A5 ?_
    refine RGon h38 rfl (xc4 h38_2) rfl ⟨rfl,rfl,trivial⟩ trivial trivial ?_
    refine A3 ?_
    refine x9 rfl (fun h38_3=> ?_) (fun h38_3=> ?_)
    ·
     refine A11 ?_
     have hn:lastE (pHire job d) (fs.take (i+1))=some (fs.getD i ev0):=by rw [xb3 (by omega),last1,if_pos ⟨h38,fun hh=>by omega⟩]
     exact kF (i+1) ⟨(by omega),(by omega)⟩ (hg:=(sI (sI (sC ((Sub.consI rfl (Imp.of (by rw [hn];try rfl))) (sC (sC (sC Sub.nil)))))))) (hh:=((SubK.consI rfl ImpK.refl) ((SubK.consI rfl ImpK.refl) ((SubK.consI rfl (ImpK.of (by rw [hn];try rfl))) (SubK.cons rfl SubK.nil)))))
    ·
     refine A7 ?_
     have hn:lastE (pHire job d) (fs.take (i+1))=lastE (pHire job d) (fs.take i):=by rw [xb3 (by omega),last1,if_neg (fun hh=>h38_3 (by have:=hh.2 (by simpa using h38_2);omega))]
     exact kF (i+1) ⟨(by omega),(by omega)⟩ (hg:=(sI (sI (sC ((Sub.consI rfl (Imp.of (by rw [hn];try rfl))) (sC (sC (sC Sub.nil)))))))) (hh:=((SubK.consI rfl ImpK.refl) ((SubK.consI rfl ImpK.refl) ((SubK.consI rfl (ImpK.of (by rw [hn];try rfl))) (SubK.cons rfl SubK.nil)))))
  ·
   refine A18 ?_
   refine A2 ?_
   have hn:lastE (pHire job d) (fs.take (i+1))=lastE (pHire job d) (fs.take i):=by rw [xb3 (by omega),last1,if_neg (fun hh=>by rw [hh.1] at h38;cases h38)]
   exact kF (i+1) ⟨(by omega),(by omega)⟩ (hg:=(sI (sI (sC ((Sub.consI rfl (Imp.of (by rw [hn];try rfl))) (sC (sC (sC Sub.nil)))))))) (hh:=((SubK.consI rfl ImpK.refl) ((SubK.consI rfl ImpK.refl) ((SubK.consI rfl (ImpK.of (by rw [hn];try rfl))) (SubK.cons rfl SubK.nil)))))
 ·
  refine A14 ?_
  exact xk2 LentC.mk' (rs:=[.cell 4 32,.tmp 5]) rfl rfl ⟨⟨_,_,_,_,_,rfl,rfl,ti32,(Le.of (by rw [show i=fs.length by omega,List.take_length]))⟩,⟨_,rfl,(Le.bool (by rw [show i=fs.length by omega,List.take_length]))⟩,trivial⟩ ⟨rfl,rfl,trivial⟩ ⟨⟨rfl,(SupX.lit rfl)⟩,⟨rfl,(SupX.lit rfl)⟩,trivial⟩ rfl
theorem c_idle1 (job d:Int) (e:Ev):
  CtG Tryz.prog 194 [(1,⟨3,1,false,[.val (tI job)]⟩),(2,⟨3,1,false,[.val (tI d)]⟩)] [.val (tEv e),.own (.ptr 1 0),.own (.ptr 2 0)] (.val (tB ((pIdle job d) e))) [(1,⟨3,1,false,[.val (tI job)]⟩),(2,⟨3,1,false,[.val (tI d)]⟩)] []:=by
 refine CtG.intro [1,2] Tryz.func194 rfl Tryz.ntmps194 rfl rfl ⟨⟨rfl,(SupX.lit rfl)⟩,⟨rfl,(SupX.lit rfl)⟩,trivial⟩ ?_
 intro w F η
 refine A12 ?_
 refine RGcaseD (t:=8) rfl (fun h59=> ?_) (fun h59=> ?_)
 ·
  refine A6 ?_
  refine RGcaseD (t:=14) rfl (fun h59_2=> ?_) (fun h59_2=> ?_)
  ·
   refine A6 ?_
   refine RGcaseD (t:=20) rfl (fun h59_3=> ?_) (fun h59_3=> ?_)
   ·
    refine A9 ?_
    exact xb7 LentC.mk' rfl rfl (Imp.of (congrArg (fun b=>Ent.val (tB b)) (by rw [Bool.eq_iff_iff];simp [pIdle] <;> first | omega | (constructor <;> intro hh <;> omega)))) ⟨rfl,rfl,trivial⟩ rfl ⟨⟨rfl,(SupX.lit rfl)⟩,⟨rfl,(SupX.lit rfl)⟩,trivial⟩ rfl
   ·
    refine A9 ?_
    exact xb7 LentC.mk' rfl rfl (Imp.of (congrArg (fun b=>Ent.val (tB b)) (by rw [Bool.eq_iff_iff];simp [pIdle] <;> first | omega | (constructor <;> intro hh <;> omega)))) ⟨rfl,rfl,trivial⟩ rfl ⟨⟨rfl,(SupX.lit rfl)⟩,⟨rfl,(SupX.lit rfl)⟩,trivial⟩ rfl
  ·
   refine A15 ?_
   exact xb7 LentC.mk' rfl rfl (Imp.of (congrArg (fun b=>Ent.val (tB b)) (by rw [Bool.eq_iff_iff];simp [pIdle] <;> first | omega | (constructor <;> intro hh <;> omega)))) ⟨rfl,rfl,trivial⟩ rfl ⟨⟨rfl,(SupX.lit rfl)⟩,⟨rfl,(SupX.lit rfl)⟩,trivial⟩ rfl
 ·
  refine A18 ?_
  refine A3 ?_
  exact xb7 LentC.mk' rfl rfl (Imp.of (congrArg (fun b=>Ent.val (tB b)) (by rw [Bool.eq_iff_iff];simp [pIdle] <;> first | omega | (constructor <;> intro hh <;> omega)))) ⟨rfl,rfl,trivial⟩ rfl ⟨⟨rfl,(SupX.lit rfl)⟩,⟨rfl,(SupX.lit rfl)⟩,trivial⟩ rfl
theorem c_lastIdle (fs:List Ev) (hF:fs.length≤100) (job d:Int):
  CtG Tryz.prog 165 [(101,⟨3,1,false,[.val (tI job)]⟩),(102,⟨3,1,false,[.val (tI d)]⟩)] [.val (tVw fs),.own (.fn 194 [.ptr 101 0,.ptr 102 0])] (.val (tT [tEv ((lastE (pIdle job d) fs).getD ev0),tB (lastE (pIdle job d) fs).isSome])) [(101,⟨3,1,false,[.val (tI job)]⟩),(102,⟨3,1,false,[.val (tI d)]⟩)] []:=by
 refine CtG.intro [101,102] Tryz.func165 rfl Tryz.ntmps165 rfl rfl ⟨⟨rfl,(SupX.lit rfl)⟩,⟨rfl,(SupX.lit rfl)⟩,trivial⟩ ?_
 intro w F η
 refine A3 ?_
 refine RE (x6 (k:=4) (n:=14) (agg:=true) zr32.1 zr32.2 rfl) trivial trivial ⟨rfl,trivial⟩ ?_
 refine A5 ?_
 refine RE (x6 (k:=6) (n:=14) (agg:=true) zr32.1 zr32.2 rfl) trivial trivial ⟨rfl,trivial⟩ ?_
 refine A11 ?_
 refine xg5 (0) ti24 rfl rfl rfl (At.g 0 rfl (rfl)) rfl ?_
 refine A5 ?_
 refine cL (fun (i:Nat)=>i≤fs.length) (fun (i:Nat)=>upd (upd (upd (upd (upd (upd (upd (fun _=>none) 1 (some (.own (.fn 194 [.ptr 101 0,.ptr 102 0])))) 4 (some (.own (.ptr 4 0)))) 6 (some (.own (.ptr 6 0)))) 7 (some (.val (tB (lastE (pIdle job d) (fs.take i)).isSome)))) 11 (some (.val (tL 14 true tEv fs)))) 12 (some (.val (tI fs.length)))) 13 (some (.val (tI i)))) (fun (i:Nat)=>upd (upd (upd (upd (fun _=>none) 4 (some (⟨32,14,true,[.val (tEv ev0)]⟩))) 6 (some (⟨32,14,true,[.val (tEv ((lastE (pIdle job d) (fs.take i)).getD ev0))]⟩))) 101 (some (⟨3,1,false,[.val (tI job)]⟩))) 102 (some (⟨3,1,false,[.val (tI d)]⟩))) [4,6,101,102] (fun (i:Nat)=>fs.length - i) (0) (Nat.zero_le _) (hh:=((SubK.consI rfl ImpK.refl) ((SubK.consI rfl ImpK.refl) ((SubK.consI rfl (ImpK.of rfl)) ((SubK.consI rfl (ImpK.of rfl)) SubK.nil))))) ?_
 intro i hI
 refine A6 ?_
 refine x9 rfl (fun h37=> ?_) (fun h37=> ?_)
 ·
  refine A6 ?_
  refine R2 (x5 sl24 (i) (by omega) (gD (l:=fs) (n:=i) (d:=ev0) (by omega))) rfl rfl ?_
  refine A1 ?_
  refine RE (x6 (k:=9) (n:=14) (agg:=true) zr32.1 zr32.2 rfl) trivial trivial ⟨rfl,trivial⟩ ?_
  refine A7 ?_
  refine RE (xg7 (ps:=[.val (tEv _)]) (caps:=[.ptr 1 0,.ptr 2 0]) (fun j=>cond (Nat.beq j 1) 101 (102)) (c_idle1 job d (fs.getD i ev0)) fi194 rfl (krC (ρ:=fun j=>cond (Nat.beq j 1) 101 (102)) (k:=1) rfl (krC (ρ:=fun j=>cond (Nat.beq j 1) 101 (102)) (k:=2) rfl (krN (ρ:=fun j=>cond (Nat.beq j 1) 101 (102))))) (krC (ρ:=fun j=>cond (Nat.beq j 1) 101 (102)) (k:=1) rfl (krC (ρ:=fun j=>cond (Nat.beq j 1) 101 (102)) (k:=2) rfl (krN (ρ:=fun j=>cond (Nat.beq j 1) 101 (102))))) ⟨⟨rfl,(SupX.lit rfl)⟩,⟨rfl,(SupX.lit rfl)⟩,trivial⟩ rfl) ⟨rfl,rfl,trivial⟩ ⟨rfl,rfl,trivial⟩ trivial ?_
  refine A1 ?_
  refine RGcase (t:=20) rfl (fun h38=> ?_) (fun h38=> ?_)
  ·
   refine A3 ?_
   refine RGcase (t:=23) rfl (fun h38_2=> ?_) (fun h38_2=> ?_)
   ·
    refine A5 ?_
    refine RGon h38 rfl (xe9 h38_2) rfl ⟨rfl,rfl,trivial⟩ trivial trivial ?_
    refine A15 ?_
    have hn:lastE (pIdle job d) (fs.take (i+1))=some (fs.getD i ev0):=by rw [xb3 (by omega),last1,if_pos ⟨h38,fun hh=>by rw [hh] at h38_2;cases h38_2⟩]
    exact kF (i+1) ⟨(by omega),(by omega)⟩ (hg:=(sI (sI (sC ((Sub.consI rfl (Imp.of (by rw [hn];try rfl))) (sC (sC (sC Sub.nil)))))))) (hh:=((SubK.consI rfl ImpK.refl) ((SubK.consI rfl ImpK.refl) ((SubK.consI rfl (ImpK.of (by rw [hn];try rfl))) (SubK.cons rfl SubK.nil)))))
   ·
    refine A5 ?_
    refine RGon h38 rfl (xc4 h38_2) rfl ⟨rfl,rfl,trivial⟩ trivial trivial ?_
    refine A3 ?_
    refine x9 rfl (fun h38_3=> ?_) (fun h38_3=> ?_)
    ·
     refine A11 ?_
     have hn:lastE (pIdle job d) (fs.take (i+1))=some (fs.getD i ev0):=by rw [xb3 (by omega),last1,if_pos ⟨h38,fun hh=>by omega⟩]
     exact kF (i+1) ⟨(by omega),(by omega)⟩ (hg:=(sI (sI (sC ((Sub.consI rfl (Imp.of (by rw [hn];try rfl))) (sC (sC (sC Sub.nil)))))))) (hh:=((SubK.consI rfl ImpK.refl) ((SubK.consI rfl ImpK.refl) ((SubK.consI rfl (ImpK.of (by rw [hn];try rfl))) (SubK.cons rfl SubK.nil)))))
    ·
     refine A7 ?_
     have hn:lastE (pIdle job d) (fs.take (i+1))=lastE (pIdle job d) (fs.take i):=by rw [xb3 (by omega),last1,if_neg (fun hh=>h38_3 (by have:=hh.2 (by simpa using h38_2);omega))]
     exact kF (i+1) ⟨(by omega),(by omega)⟩ (hg:=(sI (sI (sC ((Sub.consI rfl (Imp.of (by rw [hn];try rfl))) (sC (sC (sC Sub.nil)))))))) (hh:=((SubK.consI rfl ImpK.refl) ((SubK.consI rfl ImpK.refl) ((SubK.consI rfl (ImpK.of (by rw [hn];try rfl))) (SubK.cons rfl SubK.nil)))))
  ·
   refine A18 ?_
   refine A2 ?_
   have hn:lastE (pIdle job d) (fs.take (i+1))=lastE (pIdle job d) (fs.take i):=by rw [xb3 (by omega),last1,if_neg (fun hh=>by rw [hh.1] at h38;cases h38)]
   exact kF (i+1) ⟨(by omega),(by omega)⟩ (hg:=(sI (sI (sC ((Sub.consI rfl (Imp.of (by rw [hn];try rfl))) (sC (sC (sC Sub.nil)))))))) (hh:=((SubK.consI rfl ImpK.refl) ((SubK.consI rfl ImpK.refl) ((SubK.consI rfl (ImpK.of (by rw [hn];try rfl))) (SubK.cons rfl SubK.nil)))))
 ·
  refine A14 ?_
  exact xk2 LentC.mk' (rs:=[.cell 4 32,.tmp 5]) rfl rfl ⟨⟨_,_,_,_,_,rfl,rfl,ti32,(Le.of (by rw [show i=fs.length by omega,List.take_length]))⟩,⟨_,rfl,(Le.bool (by rw [show i=fs.length by omega,List.take_length]))⟩,trivial⟩ ⟨rfl,rfl,trivial⟩ ⟨⟨rfl,(SupX.lit rfl)⟩,⟨rfl,(SupX.lit rfl)⟩,trivial⟩ rfl
theorem c_partOf1 (h:Ev) (d:Int) (e:Ev):
  CtG Tryz.prog 166 [(1,⟨32,14,true,[.val (tEv h)]⟩),(2,⟨3,1,false,[.val (tI d)]⟩)] [.val (tEv e),.own (.ptr 1 0),.own (.ptr 2 0)] (.val (tB ((pHours h d) e))) [(1,⟨32,14,true,[.val (tEv h)]⟩),(2,⟨3,1,false,[.val (tI d)]⟩)] []:=by
 refine CtG.intro [1,2] Tryz.func166 rfl Tryz.ntmps166 rfl rfl ⟨⟨rfl,(SupX.lit rfl)⟩,⟨rfl,(SupX.lit rfl)⟩,trivial⟩ ?_
 intro w F η
 refine A12 ?_
 refine RGcaseD (t:=8) rfl (fun h70=> ?_) (fun h70=> ?_)
 ·
  refine A7 ?_
  refine RGcaseD (t:=15) rfl (fun h70_2=> ?_) (fun h70_2=> ?_)
  ·
   refine A7 ?_
   refine RGcaseD (t:=22) rfl (fun h70_3=> ?_) (fun h70_3=> ?_)
   ·
    refine A6 ?_
    refine RGcaseD (t:=28) rfl (fun h70_4=> ?_) (fun h70_4=> ?_)
    ·
     refine A9 ?_
     exact xb7 LentC.mk' rfl rfl (Imp.of (congrArg (fun b=>Ent.val (tB b)) (by rw [Bool.eq_iff_iff];simp [pHours] <;> first | omega | (constructor <;> intro hh <;> omega)))) ⟨rfl,rfl,trivial⟩ rfl ⟨⟨rfl,(SupX.lit rfl)⟩,⟨rfl,(SupX.lit rfl)⟩,trivial⟩ rfl
    ·
     refine A9 ?_
     exact xb7 LentC.mk' rfl rfl (Imp.of (congrArg (fun b=>Ent.val (tB b)) (by rw [Bool.eq_iff_iff];simp [pHours] <;> first | omega | (constructor <;> intro hh <;> omega)))) ⟨rfl,rfl,trivial⟩ rfl ⟨⟨rfl,(SupX.lit rfl)⟩,⟨rfl,(SupX.lit rfl)⟩,trivial⟩ rfl
   ·
    refine A15 ?_
    exact xb7 LentC.mk' rfl rfl (Imp.of (congrArg (fun b=>Ent.val (tB b)) (by rw [Bool.eq_iff_iff];simp [pHours] <;> first | omega | (constructor <;> intro hh <;> omega)))) ⟨rfl,rfl,trivial⟩ rfl ⟨⟨rfl,(SupX.lit rfl)⟩,⟨rfl,(SupX.lit rfl)⟩,trivial⟩ rfl
  ·
   refine A18 ?_
   refine A4 ?_
   exact xb7 LentC.mk' rfl rfl (Imp.of (congrArg (fun b=>Ent.val (tB b)) (by rw [Bool.eq_iff_iff];simp [pHours] <;> first | omega | (constructor <;> intro hh <;> omega)))) ⟨rfl,rfl,trivial⟩ rfl ⟨⟨rfl,(SupX.lit rfl)⟩,⟨rfl,(SupX.lit rfl)⟩,trivial⟩ rfl
 ·
  refine A18 ?_
  refine A11 ?_
  exact xb7 LentC.mk' rfl rfl (Imp.of (congrArg (fun b=>Ent.val (tB b)) (by rw [Bool.eq_iff_iff];simp [pHours] <;> first | omega | (constructor <;> intro hh <;> omega)))) ⟨rfl,rfl,trivial⟩ rfl ⟨⟨rfl,(SupX.lit rfl)⟩,⟨rfl,(SupX.lit rfl)⟩,trivial⟩ rfl
theorem c_lastPartof (fs:List Ev) (hF:fs.length≤100) (h:Ev) (d:Int):
  CtG Tryz.prog 165 [(101,⟨32,14,true,[.val (tEv h)]⟩),(102,⟨3,1,false,[.val (tI d)]⟩)] [.val (tVw fs),.own (.fn 166 [.ptr 101 0,.ptr 102 0])] (.val (tT [tEv ((lastE (pHours h d) fs).getD ev0),tB (lastE (pHours h d) fs).isSome])) [(101,⟨32,14,true,[.val (tEv h)]⟩),(102,⟨3,1,false,[.val (tI d)]⟩)] []:=by
 refine CtG.intro [101,102] Tryz.func165 rfl Tryz.ntmps165 rfl rfl ⟨⟨rfl,(SupX.lit rfl)⟩,⟨rfl,(SupX.lit rfl)⟩,trivial⟩ ?_
 intro w F η
 refine A3 ?_
 refine RE (x6 (k:=4) (n:=14) (agg:=true) zr32.1 zr32.2 rfl) trivial trivial ⟨rfl,trivial⟩ ?_
 refine A5 ?_
 refine RE (x6 (k:=6) (n:=14) (agg:=true) zr32.1 zr32.2 rfl) trivial trivial ⟨rfl,trivial⟩ ?_
 refine A11 ?_
 refine xg5 (0) ti24 rfl rfl rfl (At.g 0 rfl (rfl)) rfl ?_
 refine A5 ?_
 refine cL (fun (i:Nat)=>i≤fs.length) (fun (i:Nat)=>upd (upd (upd (upd (upd (upd (upd (fun _=>none) 1 (some (.own (.fn 166 [.ptr 101 0,.ptr 102 0])))) 4 (some (.own (.ptr 4 0)))) 6 (some (.own (.ptr 6 0)))) 7 (some (.val (tB (lastE (pHours h d) (fs.take i)).isSome)))) 11 (some (.val (tL 14 true tEv fs)))) 12 (some (.val (tI fs.length)))) 13 (some (.val (tI i)))) (fun (i:Nat)=>upd (upd (upd (upd (fun _=>none) 4 (some (⟨32,14,true,[.val (tEv ev0)]⟩))) 6 (some (⟨32,14,true,[.val (tEv ((lastE (pHours h d) (fs.take i)).getD ev0))]⟩))) 101 (some (⟨32,14,true,[.val (tEv h)]⟩))) 102 (some (⟨3,1,false,[.val (tI d)]⟩))) [4,6,101,102] (fun (i:Nat)=>fs.length - i) (0) (Nat.zero_le _) (hh:=((SubK.consI rfl ImpK.refl) ((SubK.consI rfl ImpK.refl) ((SubK.consI rfl (ImpK.of rfl)) ((SubK.consI rfl (ImpK.of rfl)) SubK.nil))))) ?_
 intro i hI
 refine A6 ?_
 refine x9 rfl (fun h37=> ?_) (fun h37=> ?_)
 ·
  refine A6 ?_
  refine R2 (x5 sl24 (i) (by omega) (gD (l:=fs) (n:=i) (d:=ev0) (by omega))) rfl rfl ?_
  refine A1 ?_
  refine RE (x6 (k:=9) (n:=14) (agg:=true) zr32.1 zr32.2 rfl) trivial trivial ⟨rfl,trivial⟩ ?_
  refine A7 ?_
  refine RE (xg7 (ps:=[.val (tEv _)]) (caps:=[.ptr 1 0,.ptr 2 0]) (fun j=>cond (Nat.beq j 1) 101 (102)) (c_partOf1 h d (fs.getD i ev0)) fi166 rfl (krC (ρ:=fun j=>cond (Nat.beq j 1) 101 (102)) (k:=1) rfl (krC (ρ:=fun j=>cond (Nat.beq j 1) 101 (102)) (k:=2) rfl (krN (ρ:=fun j=>cond (Nat.beq j 1) 101 (102))))) (krC (ρ:=fun j=>cond (Nat.beq j 1) 101 (102)) (k:=1) rfl (krC (ρ:=fun j=>cond (Nat.beq j 1) 101 (102)) (k:=2) rfl (krN (ρ:=fun j=>cond (Nat.beq j 1) 101 (102))))) ⟨⟨rfl,(SupX.lit rfl)⟩,⟨rfl,(SupX.lit rfl)⟩,trivial⟩ rfl) ⟨rfl,rfl,trivial⟩ ⟨rfl,rfl,trivial⟩ trivial ?_
  refine A1 ?_
  refine RGcase (t:=20) rfl (fun h38=> ?_) (fun h38=> ?_)
  ·
   refine A3 ?_
   refine RGcase (t:=23) rfl (fun h38_2=> ?_) (fun h38_2=> ?_)
   ·
    refine A5 ?_
    refine RGon h38 rfl (xe9 h38_2) rfl ⟨rfl,rfl,trivial⟩ trivial trivial ?_
    refine A15 ?_
    have hn:lastE (pHours h d) (fs.take (i+1))=some (fs.getD i ev0):=by rw [xb3 (by omega),last1,if_pos ⟨h38,fun hh=>by rw [hh] at h38_2;cases h38_2⟩]
    exact kF (i+1) ⟨(by omega),(by omega)⟩ (hg:=(sI (sI (sC ((Sub.consI rfl (Imp.of (by rw [hn];try rfl))) (sC (sC (sC Sub.nil)))))))) (hh:=((SubK.consI rfl ImpK.refl) ((SubK.consI rfl ImpK.refl) ((SubK.consI rfl (ImpK.of (by rw [hn];try rfl))) (SubK.cons rfl SubK.nil)))))
   ·
    refine A5 ?_
    refine RGon h38 rfl (xc4 h38_2) rfl ⟨rfl,rfl,trivial⟩ trivial trivial ?_
    refine A3 ?_
    refine x9 rfl (fun h38_3=> ?_) (fun h38_3=> ?_)
    ·
     refine A11 ?_
     have hn:lastE (pHours h d) (fs.take (i+1))=some (fs.getD i ev0):=by rw [xb3 (by omega),last1,if_pos ⟨h38,fun hh=>by omega⟩]
     exact kF (i+1) ⟨(by omega),(by omega)⟩ (hg:=(sI (sI (sC ((Sub.consI rfl (Imp.of (by rw [hn];try rfl))) (sC (sC (sC Sub.nil)))))))) (hh:=((SubK.consI rfl ImpK.refl) ((SubK.consI rfl ImpK.refl) ((SubK.consI rfl (ImpK.of (by rw [hn];try rfl))) (SubK.cons rfl SubK.nil)))))
    ·
     refine A7 ?_
     have hn:lastE (pHours h d) (fs.take (i+1))=lastE (pHours h d) (fs.take i):=by rw [xb3 (by omega),last1,if_neg (fun hh=>h38_3 (by have:=hh.2 (by simpa using h38_2);omega))]
     exact kF (i+1) ⟨(by omega),(by omega)⟩ (hg:=(sI (sI (sC ((Sub.consI rfl (Imp.of (by rw [hn];try rfl))) (sC (sC (sC Sub.nil)))))))) (hh:=((SubK.consI rfl ImpK.refl) ((SubK.consI rfl ImpK.refl) ((SubK.consI rfl (ImpK.of (by rw [hn];try rfl))) (SubK.cons rfl SubK.nil)))))
  ·
   refine A18 ?_
   refine A2 ?_
   have hn:lastE (pHours h d) (fs.take (i+1))=lastE (pHours h d) (fs.take i):=by rw [xb3 (by omega),last1,if_neg (fun hh=>by rw [hh.1] at h38;cases h38)]
   exact kF (i+1) ⟨(by omega),(by omega)⟩ (hg:=(sI (sI (sC ((Sub.consI rfl (Imp.of (by rw [hn];try rfl))) (sC (sC (sC Sub.nil)))))))) (hh:=((SubK.consI rfl ImpK.refl) ((SubK.consI rfl ImpK.refl) ((SubK.consI rfl (ImpK.of (by rw [hn];try rfl))) (SubK.cons rfl SubK.nil)))))
 ·
  refine A14 ?_
  exact xk2 LentC.mk' (rs:=[.cell 4 32,.tmp 5]) rfl rfl ⟨⟨_,_,_,_,_,rfl,rfl,ti32,(Le.of (by rw [show i=fs.length by omega,List.take_length]))⟩,⟨_,rfl,(Le.bool (by rw [show i=fs.length by omega,List.take_length]))⟩,trivial⟩ ⟨rfl,rfl,trivial⟩ ⟨⟨rfl,(SupX.lit rfl)⟩,⟨rfl,(SupX.lit rfl)⟩,trivial⟩ rfl
theorem c_payOf1 (h:Ev) (d:Int) (e:Ev):
  CtG Tryz.prog 167 [(1,⟨32,14,true,[.val (tEv h)]⟩),(2,⟨3,1,false,[.val (tI d)]⟩)] [.val (tEv e),.own (.ptr 1 0),.own (.ptr 2 0)] (.val (tB ((pPay h d) e))) [(1,⟨32,14,true,[.val (tEv h)]⟩),(2,⟨3,1,false,[.val (tI d)]⟩)] []:=by
 refine CtG.intro [1,2] Tryz.func167 rfl Tryz.ntmps167 rfl rfl ⟨⟨rfl,(SupX.lit rfl)⟩,⟨rfl,(SupX.lit rfl)⟩,trivial⟩ ?_
 intro w F η
 refine A12 ?_
 refine RGcaseD (t:=8) rfl (fun h84=> ?_) (fun h84=> ?_)
 ·
  refine A7 ?_
  refine RGcaseD (t:=15) rfl (fun h84_2=> ?_) (fun h84_2=> ?_)
  ·
   refine A7 ?_
   refine RGcaseD (t:=22) rfl (fun h84_3=> ?_) (fun h84_3=> ?_)
   ·
    refine A9 ?_
    exact xb7 LentC.mk' rfl rfl (Imp.of (congrArg (fun b=>Ent.val (tB b)) (by rw [Bool.eq_iff_iff];simp [pPay] <;> first | omega | (constructor <;> intro hh <;> omega)))) ⟨rfl,rfl,trivial⟩ rfl ⟨⟨rfl,(SupX.lit rfl)⟩,⟨rfl,(SupX.lit rfl)⟩,trivial⟩ rfl
   ·
    refine A9 ?_
    exact xb7 LentC.mk' rfl rfl (Imp.of (congrArg (fun b=>Ent.val (tB b)) (by rw [Bool.eq_iff_iff];simp [pPay] <;> first | omega | (constructor <;> intro hh <;> omega)))) ⟨rfl,rfl,trivial⟩ rfl ⟨⟨rfl,(SupX.lit rfl)⟩,⟨rfl,(SupX.lit rfl)⟩,trivial⟩ rfl
  ·
   refine A16 ?_
   exact xb7 LentC.mk' rfl rfl (Imp.of (congrArg (fun b=>Ent.val (tB b)) (by rw [Bool.eq_iff_iff];simp [pPay] <;> first | omega | (constructor <;> intro hh <;> omega)))) ⟨rfl,rfl,trivial⟩ rfl ⟨⟨rfl,(SupX.lit rfl)⟩,⟨rfl,(SupX.lit rfl)⟩,trivial⟩ rfl
 ·
  refine A18 ?_
  refine A5 ?_
  exact xb7 LentC.mk' rfl rfl (Imp.of (congrArg (fun b=>Ent.val (tB b)) (by rw [Bool.eq_iff_iff];simp [pPay] <;> first | omega | (constructor <;> intro hh <;> omega)))) ⟨rfl,rfl,trivial⟩ rfl ⟨⟨rfl,(SupX.lit rfl)⟩,⟨rfl,(SupX.lit rfl)⟩,trivial⟩ rfl
theorem c_lastPayof (fs:List Ev) (hF:fs.length≤100) (h:Ev) (d:Int):
  CtG Tryz.prog 165 [(101,⟨32,14,true,[.val (tEv h)]⟩),(102,⟨3,1,false,[.val (tI d)]⟩)] [.val (tVw fs),.own (.fn 167 [.ptr 101 0,.ptr 102 0])] (.val (tT [tEv ((lastE (pPay h d) fs).getD ev0),tB (lastE (pPay h d) fs).isSome])) [(101,⟨32,14,true,[.val (tEv h)]⟩),(102,⟨3,1,false,[.val (tI d)]⟩)] []:=by
 refine CtG.intro [101,102] Tryz.func165 rfl Tryz.ntmps165 rfl rfl ⟨⟨rfl,(SupX.lit rfl)⟩,⟨rfl,(SupX.lit rfl)⟩,trivial⟩ ?_
 intro w F η
 refine A3 ?_
 refine RE (x6 (k:=4) (n:=14) (agg:=true) zr32.1 zr32.2 rfl) trivial trivial ⟨rfl,trivial⟩ ?_
 refine A5 ?_
 refine RE (x6 (k:=6) (n:=14) (agg:=true) zr32.1 zr32.2 rfl) trivial trivial ⟨rfl,trivial⟩ ?_
 refine A11 ?_
 refine xg5 (0) ti24 rfl rfl rfl (At.g 0 rfl (rfl)) rfl ?_
 refine A5 ?_
 refine cL (fun (i:Nat)=>i≤fs.length) (fun (i:Nat)=>upd (upd (upd (upd (upd (upd (upd (fun _=>none) 1 (some (.own (.fn 167 [.ptr 101 0,.ptr 102 0])))) 4 (some (.own (.ptr 4 0)))) 6 (some (.own (.ptr 6 0)))) 7 (some (.val (tB (lastE (pPay h d) (fs.take i)).isSome)))) 11 (some (.val (tL 14 true tEv fs)))) 12 (some (.val (tI fs.length)))) 13 (some (.val (tI i)))) (fun (i:Nat)=>upd (upd (upd (upd (fun _=>none) 4 (some (⟨32,14,true,[.val (tEv ev0)]⟩))) 6 (some (⟨32,14,true,[.val (tEv ((lastE (pPay h d) (fs.take i)).getD ev0))]⟩))) 101 (some (⟨32,14,true,[.val (tEv h)]⟩))) 102 (some (⟨3,1,false,[.val (tI d)]⟩))) [4,6,101,102] (fun (i:Nat)=>fs.length - i) (0) (Nat.zero_le _) (hh:=((SubK.consI rfl ImpK.refl) ((SubK.consI rfl ImpK.refl) ((SubK.consI rfl (ImpK.of rfl)) ((SubK.consI rfl (ImpK.of rfl)) SubK.nil))))) ?_
 intro i hI
 refine A6 ?_
 refine x9 rfl (fun h37=> ?_) (fun h37=> ?_)
 ·
  refine A6 ?_
  refine R2 (x5 sl24 (i) (by omega) (gD (l:=fs) (n:=i) (d:=ev0) (by omega))) rfl rfl ?_
  refine A1 ?_
  refine RE (x6 (k:=9) (n:=14) (agg:=true) zr32.1 zr32.2 rfl) trivial trivial ⟨rfl,trivial⟩ ?_
  refine A7 ?_
  refine RE (xg7 (ps:=[.val (tEv _)]) (caps:=[.ptr 1 0,.ptr 2 0]) (fun j=>cond (Nat.beq j 1) 101 (102)) (c_payOf1 h d (fs.getD i ev0)) fi167 rfl (krC (ρ:=fun j=>cond (Nat.beq j 1) 101 (102)) (k:=1) rfl (krC (ρ:=fun j=>cond (Nat.beq j 1) 101 (102)) (k:=2) rfl (krN (ρ:=fun j=>cond (Nat.beq j 1) 101 (102))))) (krC (ρ:=fun j=>cond (Nat.beq j 1) 101 (102)) (k:=1) rfl (krC (ρ:=fun j=>cond (Nat.beq j 1) 101 (102)) (k:=2) rfl (krN (ρ:=fun j=>cond (Nat.beq j 1) 101 (102))))) ⟨⟨rfl,(SupX.lit rfl)⟩,⟨rfl,(SupX.lit rfl)⟩,trivial⟩ rfl) ⟨rfl,rfl,trivial⟩ ⟨rfl,rfl,trivial⟩ trivial ?_
  refine A1 ?_
  refine RGcase (t:=20) rfl (fun h38=> ?_) (fun h38=> ?_)
  ·
   refine A3 ?_
   refine RGcase (t:=23) rfl (fun h38_2=> ?_) (fun h38_2=> ?_)
   ·
    refine A5 ?_
    refine RGon h38 rfl (xe9 h38_2) rfl ⟨rfl,rfl,trivial⟩ trivial trivial ?_
    refine A15 ?_
    have hn:lastE (pPay h d) (fs.take (i+1))=some (fs.getD i ev0):=by rw [xb3 (by omega),last1,if_pos ⟨h38,fun hh=>by rw [hh] at h38_2;cases h38_2⟩]
    exact kF (i+1) ⟨(by omega),(by omega)⟩ (hg:=(sI (sI (sC ((Sub.consI rfl (Imp.of (by rw [hn];try rfl))) (sC (sC (sC Sub.nil)))))))) (hh:=((SubK.consI rfl ImpK.refl) ((SubK.consI rfl ImpK.refl) ((SubK.consI rfl (ImpK.of (by rw [hn];try rfl))) (SubK.cons rfl SubK.nil)))))
   ·
    refine A5 ?_
    refine RGon h38 rfl (xc4 h38_2) rfl ⟨rfl,rfl,trivial⟩ trivial trivial ?_
    refine A3 ?_
    refine x9 rfl (fun h38_3=> ?_) (fun h38_3=> ?_)
    ·
     refine A11 ?_
     have hn:lastE (pPay h d) (fs.take (i+1))=some (fs.getD i ev0):=by rw [xb3 (by omega),last1,if_pos ⟨h38,fun hh=>by omega⟩]
     exact kF (i+1) ⟨(by omega),(by omega)⟩ (hg:=(sI (sI (sC ((Sub.consI rfl (Imp.of (by rw [hn];try rfl))) (sC (sC (sC Sub.nil)))))))) (hh:=((SubK.consI rfl ImpK.refl) ((SubK.consI rfl ImpK.refl) ((SubK.consI rfl (ImpK.of (by rw [hn];try rfl))) (SubK.cons rfl SubK.nil)))))
    ·
     refine A7 ?_
     have hn:lastE (pPay h d) (fs.take (i+1))=lastE (pPay h d) (fs.take i):=by rw [xb3 (by omega),last1,if_neg (fun hh=>h38_3 (by have:=hh.2 (by simpa using h38_2);omega))]
     exact kF (i+1) ⟨(by omega),(by omega)⟩ (hg:=(sI (sI (sC ((Sub.consI rfl (Imp.of (by rw [hn];try rfl))) (sC (sC (sC Sub.nil)))))))) (hh:=((SubK.consI rfl ImpK.refl) ((SubK.consI rfl ImpK.refl) ((SubK.consI rfl (ImpK.of (by rw [hn];try rfl))) (SubK.cons rfl SubK.nil)))))
  ·
   refine A18 ?_
   refine A2 ?_
   have hn:lastE (pPay h d) (fs.take (i+1))=lastE (pPay h d) (fs.take i):=by rw [xb3 (by omega),last1,if_neg (fun hh=>by rw [hh.1] at h38;cases h38)]
   exact kF (i+1) ⟨(by omega),(by omega)⟩ (hg:=(sI (sI (sC ((Sub.consI rfl (Imp.of (by rw [hn];try rfl))) (sC (sC (sC Sub.nil)))))))) (hh:=((SubK.consI rfl ImpK.refl) ((SubK.consI rfl ImpK.refl) ((SubK.consI rfl (ImpK.of (by rw [hn];try rfl))) (SubK.cons rfl SubK.nil)))))
 ·
  refine A14 ?_
  exact xk2 LentC.mk' (rs:=[.cell 4 32,.tmp 5]) rfl rfl ⟨⟨_,_,_,_,_,rfl,rfl,ti32,(Le.of (by rw [show i=fs.length by omega,List.take_length]))⟩,⟨_,rfl,(Le.bool (by rw [show i=fs.length by omega,List.take_length]))⟩,trivial⟩ ⟨rfl,rfl,trivial⟩ ⟨⟨rfl,(SupX.lit rfl)⟩,⟨rfl,(SupX.lit rfl)⟩,trivial⟩ rfl
theorem hireE_no {fs:List Ev} {job d:Int} (h:(lastE (pHire job d) fs).isSome=false):hireE fs job d=none:=by
 rw [hireE]
 cases hl:lastE (pHire job d) fs with
 | none=>rfl
 | some e=>rw [hl] at h;cases h
theorem hireE_left {fs:List Ev} {job d:Int} (h: ¬(((lastE (pHire job d) fs).getD ev0).knd:Int)=1):hireE fs job d=none:=by
 rw [hireE]
 cases hl:lastE (pHire job d) fs with
 | none=>rfl
 | some e=>
  rw [hl] at h
  exact if_neg fun hk=>h (by show ((e.knd:Nat):Int)=1;omega)
theorem hireE_yes {fs:List Ev} {job d:Int} (h1:(lastE (pHire job d) fs).isSome=true) (h:(((lastE (pHire job d) fs).getD ev0).knd:Int)=1):hireE fs job d=some ((lastE (pHire job d) fs).getD ev0):=by
 rw [hireE]
 cases hl:lastE (pHire job d) fs with
 | none=>rw [hl] at h1;cases h1
 | some e=>
  rw [hl] at h
  exact if_pos (by have:((e.knd:Nat):Int)=1:=h;omega)
theorem c_hire (fs:List Ev) (hF:fs.length≤100) (job d:Int):
  Ct Tryz.prog 163 [tVw fs,tI job,tI d] (tT [tEv ((hireE fs job d).getD ev0),tB (hireE fs job d).isSome]):=by
 refine Ct.intro Tryz.func163 rfl Tryz.ntmps163 rfl ?_
 intro w F
 refine A5 ?_
 refine RE (x6 (k:=6) (n:=14) (agg:=true) zr32.1 zr32.2 rfl) trivial trivial ⟨rfl,trivial⟩ ?_
 refine A6 ?_
 refine R2 (xf3 (ps:=[.ptr 4 0,.ptr 5 0]) rfl) rfl rfl (RE (xb1 (fun j=>cond (Nat.beq j 101) 4 (5)) (c_lastHire fs hF job d) fi165 rfl (krC (ρ:=fun j=>cond (Nat.beq j 101) 4 (5)) (k:=101) rfl (krC (ρ:=fun j=>cond (Nat.beq j 101) 4 (5)) (k:=102) rfl (krN (ρ:=fun j=>cond (Nat.beq j 101) 4 (5))))) (krC (ρ:=fun j=>cond (Nat.beq j 101) 4 (5)) (k:=101) rfl (krC (ρ:=fun j=>cond (Nat.beq j 101) 4 (5)) (k:=102) rfl (krN (ρ:=fun j=>cond (Nat.beq j 101) 4 (5))))) ⟨⟨rfl,(SupX.lit rfl)⟩,⟨rfl,(SupX.lit rfl)⟩,trivial⟩ rfl) ⟨rfl,rfl,trivial⟩ ⟨rfl,rfl,trivial⟩ trivial ?_)
 refine A3 ?_
 refine RE (x6 (k:=8) (n:=14) (agg:=true) zr32.1 zr32.2 rfl) trivial trivial ⟨rfl,trivial⟩ ?_
 refine A10 ?_
 refine RGcase (t:=18) rfl (fun h50=> ?_) (fun h50=> ?_)
 ·
  refine A9 ?_
  refine R0 (xa6 (r:=tS [⟨1,false,(tE (.int .u8 0))⟩,⟨1,false,(tE (.int .i64 0))⟩,⟨1,false,(tE (.int .i64 0))⟩,⟨1,false,(tE (.int .i64 0))⟩,⟨1,false,(tE (.int .i64 0))⟩,⟨4,true,(tS [⟨2,true,(tS [⟨1,false,(tE (.bool false))⟩,⟨1,false,(tLm [])⟩])⟩,⟨2,true,(tS [⟨1,false,(tE (.bool false))⟩,⟨1,false,(tLm [])⟩])⟩])⟩,⟨4,true,(tS [⟨2,true,(tS [⟨1,false,(tE (.bool false))⟩,⟨1,false,(tLm [])⟩])⟩,⟨2,true,(tS [⟨1,false,(tE (.bool false))⟩,⟨1,false,(tLm [])⟩])⟩])⟩,⟨1,false,(tE (.int .i64 0))⟩]) (ts:=[]) bu32 zr32.2 Le.refl) ?_
  refine A6 ?_
  exact xc8 Plain.mk' (rs:=[.cell 6 32,.tmp 7]) rfl rfl ⟨⟨_,_,_,_,_,rfl,rfl,ti32,(Le.of (by rw [hireE_no (by simpa using h50)];rfl))⟩,⟨_,rfl,(Le.bool (by rw [hireE_no (by simpa using h50)];rfl))⟩,trivial⟩
 ·
  refine A6 ?_
  refine x9 rfl (fun h50_2=> ?_) (fun h50_2=> ?_)
  ·
   refine A2 ?_
   refine R0 (xa6 (r:=tS [⟨1,false,(tE (.int .u8 0))⟩,⟨1,false,(tE (.int .i64 0))⟩,⟨1,false,(tE (.int .i64 0))⟩,⟨1,false,(tE (.int .i64 0))⟩,⟨1,false,(tE (.int .i64 0))⟩,⟨4,true,(tS [⟨2,true,(tS [⟨1,false,(tE (.bool false))⟩,⟨1,false,(tLm [])⟩])⟩,⟨2,true,(tS [⟨1,false,(tE (.bool false))⟩,⟨1,false,(tLm [])⟩])⟩])⟩,⟨4,true,(tS [⟨2,true,(tS [⟨1,false,(tE (.bool false))⟩,⟨1,false,(tLm [])⟩])⟩,⟨2,true,(tS [⟨1,false,(tE (.bool false))⟩,⟨1,false,(tLm [])⟩])⟩])⟩,⟨1,false,(tE (.int .i64 0))⟩]) (ts:=[]) bu32 zr32.2 Le.refl) ?_
   refine A6 ?_
   exact xc8 Plain.mk' (rs:=[.cell 6 32,.tmp 7]) rfl rfl ⟨⟨_,_,_,_,_,rfl,rfl,ti32,(Le.of (by rw [hireE_left (by assumption)];rfl))⟩,⟨_,rfl,(Le.bool (by rw [hireE_left (by assumption)];rfl))⟩,trivial⟩
  ·
   refine A10 ?_
   exact xc8 Plain.mk' (rs:=[.cell 6 32,.tmp 7]) rfl rfl ⟨⟨_,_,_,_,_,rfl,rfl,ti32,(Le.of (by rw [hireE_yes (by simpa using h50) (by omega)];rfl))⟩,⟨_,rfl,(Le.bool (by rw [hireE_yes (by simpa using h50) (by omega)];rfl))⟩,trivial⟩
theorem c_idle (fs:List Ev) (hF:fs.length≤100) (job d:Int):
  Ct Tryz.prog 164 [tVw fs,tI job,tI d] (tB (idleE fs job d)):=by
 refine Ct.intro Tryz.func164 rfl Tryz.ntmps164 rfl ?_
 intro w F
 refine A11 ?_
 refine R2 (xf3 (ps:=[.ptr 4 0,.ptr 5 0]) rfl) rfl rfl (RE (xb1 (fun j=>cond (Nat.beq j 101) 4 (5)) (c_lastIdle fs hF job d) fi165 rfl (krC (ρ:=fun j=>cond (Nat.beq j 101) 4 (5)) (k:=101) rfl (krC (ρ:=fun j=>cond (Nat.beq j 101) 4 (5)) (k:=102) rfl (krN (ρ:=fun j=>cond (Nat.beq j 101) 4 (5))))) (krC (ρ:=fun j=>cond (Nat.beq j 101) 4 (5)) (k:=101) rfl (krC (ρ:=fun j=>cond (Nat.beq j 101) 4 (5)) (k:=102) rfl (krN (ρ:=fun j=>cond (Nat.beq j 101) 4 (5))))) ⟨⟨rfl,(SupX.lit rfl)⟩,⟨rfl,(SupX.lit rfl)⟩,trivial⟩ rfl) ⟨rfl,rfl,trivial⟩ ⟨rfl,rfl,trivial⟩ trivial ?_)
 refine A3 ?_
 refine RE (x6 (k:=7) (n:=14) (agg:=true) zr32.1 zr32.2 rfl) trivial trivial ⟨rfl,trivial⟩ ?_
 refine A11 ?_
 exact x4 Plain.mk' rfl rfl Le.refl
theorem partE_idle {fs:List Ev} {h:Ev} {d:Int} (hi:idleE fs h.job d=true):partE fs h d=fr ((0:Int):Rat):=by rw [partE,if_pos hi]
theorem partE_some {fs:List Ev} {h:Ev} {d:Int} (hi:idleE fs h.job d=false) (hl:(lastE (pHours h d) fs).isSome=true):partE fs h d=((lastE (pHours h d) fs).getD ev0).part:=by
 rw [partE,if_neg (by rw [hi];decide)]
 cases hl2:lastE (pHours h d) fs with
 | none=>rw [hl2] at hl;cases hl
 | some e=>rfl
theorem partE_none {fs:List Ev} {h:Ev} {d:Int} (hi:idleE fs h.job d=false) (hl:(lastE (pHours h d) fs).isSome=false):partE fs h d=h.part:=by
 rw [partE,if_neg (by rw [hi];decide)]
 cases hl2:lastE (pHours h d) fs with
 | none=>rfl
 | some e=>rw [hl2] at hl;cases hl
theorem c_partOf (fs:List Ev) (hF:fs.length≤100) (h:Ev) (d:Int):
  Ct Tryz.prog 122 [tVw fs,tEv h,tI d] (tFr (partE fs h d)):=by
 refine Ct.intro Tryz.func122 rfl Tryz.ntmps122 rfl ?_
 intro w F
 refine A5 ?_
 refine RE (x6 (k:=6) (n:=4) (agg:=true) zr30.1 zr30.2 rfl) trivial trivial ⟨rfl,trivial⟩ ?_
 refine A9 ?_
 refine R3 (x3 (c_idle fs hF h.job d) fi164 rfl) rfl rfl rfl ?_
 refine A2 ?_
 refine xc1 rfl (fun h66=> ?_) (fun h66=> ?_)
 ·
  refine A2 ?_
  refine R1 (x3 (xj6 0 (by decide) (by decide)) fi91 rfl) rfl ?_
  refine A5 ?_
  exact xc2 Plain.mk' rfl ⟨_,_,_,_,_,rfl,rfl,ti30,(Le.of (by rw [partE_idle h66]))⟩
 ·
  refine A5 ?_
  refine R2 (xf3 (ps:=[.ptr 4 0,.ptr 5 0]) rfl) rfl rfl (RE (xb1 (fun j=>cond (Nat.beq j 101) 4 (5)) (c_lastPartof fs hF h d) fi165 rfl (krC (ρ:=fun j=>cond (Nat.beq j 101) 4 (5)) (k:=101) rfl (krC (ρ:=fun j=>cond (Nat.beq j 101) 4 (5)) (k:=102) rfl (krN (ρ:=fun j=>cond (Nat.beq j 101) 4 (5))))) (krC (ρ:=fun j=>cond (Nat.beq j 101) 4 (5)) (k:=101) rfl (krC (ρ:=fun j=>cond (Nat.beq j 101) 4 (5)) (k:=102) rfl (krN (ρ:=fun j=>cond (Nat.beq j 101) 4 (5))))) ⟨⟨rfl,(SupX.lit rfl)⟩,⟨rfl,(SupX.lit rfl)⟩,trivial⟩ rfl) ⟨rfl,rfl,trivial⟩ ⟨rfl,rfl,trivial⟩ trivial ?_)
  refine A3 ?_
  refine RE (x6 (k:=7) (n:=14) (agg:=true) zr32.1 zr32.2 rfl) trivial trivial ⟨rfl,trivial⟩ ?_
  refine A10 ?_
  refine xc1 rfl (fun h72=> ?_) (fun h72=> ?_)
  ·
   refine A9 ?_
   exact xc2 Plain.mk' rfl ⟨_,_,_,_,_,rfl,rfl,ti30,(Le.of (by rw [partE_some h66 h72]))⟩
  ·
   refine A10 ?_
   exact xc2 Plain.mk' rfl ⟨_,_,_,_,_,rfl,rfl,ti30,(Le.of (by rw [partE_none h66 h72]))⟩
theorem payE_idle {fs:List Ev} {h:Ev} {d:Int} (hi:idleE fs h.job d=true):payE fs h d=fr ((0:Int):Rat):=by rw [payE,if_pos hi]
theorem payE_some {fs:List Ev} {h:Ev} {d:Int} (hi:idleE fs h.job d=false) (hl:(lastE (pPay h d) fs).isSome=true):payE fs h d=((lastE (pPay h d) fs).getD ev0).pay:=by
 rw [payE,if_neg (by rw [hi];decide)]
 cases hl2:lastE (pPay h d) fs with
 | none=>rw [hl2] at hl;cases hl
 | some e=>rfl
theorem payE_none {fs:List Ev} {h:Ev} {d:Int} (hi:idleE fs h.job d=false) (hl:(lastE (pPay h d) fs).isSome=false):payE fs h d=h.pay:=by
 rw [payE,if_neg (by rw [hi];decide)]
 cases hl2:lastE (pPay h d) fs with
 | none=>rfl
 | some e=>rw [hl2] at hl;cases hl
theorem c_payOf (fs:List Ev) (hF:fs.length≤100) (h:Ev) (d:Int):
  Ct Tryz.prog 124 [tVw fs,tEv h,tI d] (tFr (payE fs h d)):=by
 refine Ct.intro Tryz.func124 rfl Tryz.ntmps124 rfl ?_
 intro w F
 refine A5 ?_
 refine RE (x6 (k:=6) (n:=4) (agg:=true) zr30.1 zr30.2 rfl) trivial trivial ⟨rfl,trivial⟩ ?_
 refine A9 ?_
 refine R3 (x3 (c_idle fs hF h.job d) fi164 rfl) rfl rfl rfl ?_
 refine A2 ?_
 refine xc1 rfl (fun h80=> ?_) (fun h80=> ?_)
 ·
  refine A2 ?_
  refine R1 (x3 (xj6 0 (by decide) (by decide)) fi91 rfl) rfl ?_
  refine A5 ?_
  exact xc2 Plain.mk' rfl ⟨_,_,_,_,_,rfl,rfl,ti30,(Le.of (by rw [payE_idle h80]))⟩
 ·
  refine A5 ?_
  refine R2 (xf3 (ps:=[.ptr 4 0,.ptr 5 0]) rfl) rfl rfl (RE (xb1 (fun j=>cond (Nat.beq j 101) 4 (5)) (c_lastPayof fs hF h d) fi165 rfl (krC (ρ:=fun j=>cond (Nat.beq j 101) 4 (5)) (k:=101) rfl (krC (ρ:=fun j=>cond (Nat.beq j 101) 4 (5)) (k:=102) rfl (krN (ρ:=fun j=>cond (Nat.beq j 101) 4 (5))))) (krC (ρ:=fun j=>cond (Nat.beq j 101) 4 (5)) (k:=101) rfl (krC (ρ:=fun j=>cond (Nat.beq j 101) 4 (5)) (k:=102) rfl (krN (ρ:=fun j=>cond (Nat.beq j 101) 4 (5))))) ⟨⟨rfl,(SupX.lit rfl)⟩,⟨rfl,(SupX.lit rfl)⟩,trivial⟩ rfl) ⟨rfl,rfl,trivial⟩ ⟨rfl,rfl,trivial⟩ trivial ?_)
  refine A3 ?_
  refine RE (x6 (k:=7) (n:=14) (agg:=true) zr32.1 zr32.2 rfl) trivial trivial ⟨rfl,trivial⟩ ?_
  refine A10 ?_
  refine xc1 rfl (fun h86=> ?_) (fun h86=> ?_)
  ·
   refine A9 ?_
   exact xc2 Plain.mk' rfl ⟨_,_,_,_,_,rfl,rfl,ti30,(Le.of (by rw [payE_some h80 h86]))⟩
  ·
   refine A10 ?_
   exact xc2 Plain.mk' rfl ⟨_,_,_,_,_,rfl,rfl,ti30,(Le.of (by rw [payE_none h80 h86]))⟩
theorem c_FAddM (a b:Rat) (f:Fr) (hf:f=fr b) (h1:short a) (h2:short b) (h3:short (a+b)):Ct Tryz.prog 30 [tFr (fr a),tFr f] (tT [tFr (fr (a+b)),tI 0]):=by
 have h:=c_FAdd a b h1 h2
 rw [resF,resFE,if_pos h3,if_pos h3] at h
 rw [hf];exact h
structure SumOk (f:List Ev→Ev→Int→Fr) (fs:List Ev) (d:Int):Prop where
  one: ∀h,h∈fs→h.knd=1→f fs h d=fr (f fs h d).rat∧short (f fs h d).rat
  all: ∀n,n≤8→short (sumQ f fs d n)
theorem hire_get {fs:List Ev} {job d:Int} (h:(hireE fs job d).isSome=true):hireE fs job d=some ((hireE fs job d).getD ev0):=by
 cases hh:hireE fs job d with
 | none=>rw [hh] at h;cases h
 | some e=>rfl
theorem hire_in {fs:List Ev} {job d:Int} (h:(hireE fs job d).isSome=true):(hireE fs job d).getD ev0∈fs∧((hireE fs job d).getD ev0).knd=1:=by
 have hg:=hire_get h
 generalize (hireE fs job d).getD ev0=e at*
 rw [hireE] at hg
 cases hl:lastE (pHire job d) fs with
 | none=>rw [hl] at hg;cases hg
 | some x=>
  rw [hl] at hg
  simp only at hg
  split at hg
  ·rename_i hk
   obtain rfl:=Option.some.inj hg
   exact ⟨((xn1 _ _).2 _ hl).1.1,hk⟩
  ·cases hg
theorem sum_yes {f:List Ev→Ev→Int→Fr} {fs:List Ev} {d:Int} {j:Nat} (h:(hireE fs ((j:Int)+1) d).isSome=true):sumQ f fs d (j+1)=sumQ f fs d j+(f fs ((hireE fs ((j:Int)+1) d).getD ev0) d).rat∧heldQ fs d (j+1)=true:=by
 have hg:=hire_get h
 refine ⟨?_,?_⟩
 ·rw [sumQ,addJ,show ((j+1:Nat):Int)=(j:Int)+1 by omega,hg];rfl
 ·rw [heldQ,show ((j+1:Nat):Int)=(j:Int)+1 by omega,h,Bool.or_true]
theorem sum_no {f:List Ev→Ev→Int→Fr} {fs:List Ev} {d:Int} {j:Nat} (h:(hireE fs ((j:Int)+1) d).isSome=false):sumQ f fs d (j+1)=sumQ f fs d j∧heldQ fs d (j+1)=heldQ fs d j:=by
 have hn:hireE fs ((j:Int)+1) d=none:=by
  cases hh:hireE fs ((j:Int)+1) d with
  | none=>rfl
  | some e=>rw [hh] at h;cases h
 refine ⟨?_,?_⟩
 ·rw [sumQ,addJ,show ((j+1:Nat):Int)=(j:Int)+1 by omega,hn];exact Rat.add_zero _
 ·rw [heldQ,show ((j+1:Nat):Int)=(j:Int)+1 by omega,hn,Option.isSome_none,Bool.or_false]
theorem c_sumPartof (fs:List Ev) (hF:fs.length≤100) (d:Int) (hs:SumOk partE fs d):
  Ct Tryz.prog 121 [tVw fs,tI d,tE (.func (.func 122) #[] #[])] (tT [tFr (fr (sumQ partE fs d 8)),tB (heldQ fs d 8)]):=by
 refine Ct.intro Tryz.func121 rfl Tryz.ntmps121 rfl ?_
 intro w F
 refine A3 ?_
 refine RE (x6 (k:=6) (n:=4) (agg:=true) zr30.1 zr30.2 rfl) trivial trivial ⟨rfl,trivial⟩ ?_
 refine A5 ?_
 refine R1 (x3 (xj6 0 (by decide) (by decide)) fi91 rfl) rfl (RE (x6 (k:=8) (n:=4) (agg:=true) zr30.1 zr30.2 rfl) trivial trivial ⟨rfl,trivial⟩ ?_)
 refine A15 ?_
 refine cL (fun (j:Nat)=>j≤8) (fun (j:Nat)=>upd (upd (upd (upd (upd (upd (upd (fun _=>none) 1 (some (.val (tI d)))) 2 (some (.val (tE (.func (.func 122) #[] #[]))))) 3 (some (.own (.ptr 3 0)))) 6 (some (.own (.ptr 6 0)))) 8 (some (.own (.ptr 8 0)))) 9 (some (.val (tB (heldQ fs d j))))) 10 (some (.val (tI ((j:Int)+1))))) (fun (j:Nat)=>upd (upd (upd (fun _=>none) 3 (some (⟨94,1,true,[.val (tVw fs)]⟩))) 6 (some (⟨30,4,true,[.val (tFr fr0)]⟩))) 8 (some (⟨30,4,true,[.val (tFr (fr (sumQ partE fs d j)))]⟩))) [3,6,8] (fun (j:Nat)=>8 - j) (0) (by omega) (hh:=((SubK.consI rfl (ImpK.of rfl)) ((SubK.consI rfl (ImpK.of rfl)) ((SubK.consI rfl ImpK.refl) SubK.nil)))) ?_
 intro j hI
 refine A7 ?_
 refine x9 rfl (fun h96=> ?_) (fun h96=> ?_)
 ·
  refine A9 ?_
  refine R3 (x3 (c_hire fs hF ((j:Int)+1) d) fi163 rfl) rfl rfl rfl ?_
  refine A3 ?_
  refine RE (x6 (k:=11) (n:=14) (agg:=true) zr32.1 zr32.2 rfl) trivial trivial ⟨rfl,trivial⟩ ?_
  refine A9 ?_
  refine xc1 rfl (fun h97=> ?_) (fun h97=> ?_)
  ·
   refine A1 ?_
   have hy:=sum_yes (f:=partE) h97
   have hin:=hire_in h97
   refine A6 ?_
   refine RE (xg6 (c_partOf fs hF ((hireE fs ((j:Int)+1) d).getD ev0) d) fi122 rfl) ⟨rfl,rfl,rfl,rfl,trivial⟩ trivial trivial (R2 (x3 (c_FAddM (sumQ partE fs d j) _ _ (hs.one _ hin.1 hin.2).1 (hs.all j (by omega)) (hs.one _ hin.1 hin.2).2 (by rw [←hy.1];exact hs.all (j+1) (by omega))) fi30 rfl) rfl rfl ?_)
   refine A16 ?_
   exact kF (j+1) ⟨(by omega),(by omega)⟩ (hg:=(sI ((Sub.consI rfl (Imp.of (by rw [hy.2]))) (sC (sC (sC (sC (sI Sub.nil)))))))) (hh:=((SubK.consI rfl (ImpK.of (by rw [hy.1];try rfl))) ((SubK.consI rfl ImpK.refl) ((SubK.consI rfl ImpK.refl) SubK.nil))))
  ·
   refine A8 ?_
   have hy:=sum_no (f:=partE) h97
   exact kF (j+1) ⟨(by omega),(by omega)⟩ (hg:=(sI ((Sub.consI rfl (Imp.of (by rw [hy.2]))) (sC (sC (sC (sC (sI Sub.nil)))))))) (hh:=((SubK.consI rfl (ImpK.of (by rw [hy.1];try rfl))) ((SubK.consI rfl ImpK.refl) ((SubK.consI rfl ImpK.refl) SubK.nil))))
 ·
  refine A14 ?_
  exact xc8 Plain.mk' (rs:=[.cell 6 30,.tmp 7]) rfl rfl ⟨⟨_,_,_,_,_,rfl,rfl,ti30,(Le.of (by rw [show j=8 by omega]))⟩,⟨_,rfl,(Le.bool (by rw [show j=8 by omega]))⟩,trivial⟩
theorem c_sumPayof (fs:List Ev) (hF:fs.length≤100) (d:Int) (hs:SumOk payE fs d):
  Ct Tryz.prog 121 [tVw fs,tI d,tE (.func (.func 124) #[] #[])] (tT [tFr (fr (sumQ payE fs d 8)),tB (heldQ fs d 8)]):=by
 refine Ct.intro Tryz.func121 rfl Tryz.ntmps121 rfl ?_
 intro w F
 refine A3 ?_
 refine RE (x6 (k:=6) (n:=4) (agg:=true) zr30.1 zr30.2 rfl) trivial trivial ⟨rfl,trivial⟩ ?_
 refine A5 ?_
 refine R1 (x3 (xj6 0 (by decide) (by decide)) fi91 rfl) rfl (RE (x6 (k:=8) (n:=4) (agg:=true) zr30.1 zr30.2 rfl) trivial trivial ⟨rfl,trivial⟩ ?_)
 refine A15 ?_
 refine cL (fun (j:Nat)=>j≤8) (fun (j:Nat)=>upd (upd (upd (upd (upd (upd (upd (fun _=>none) 1 (some (.val (tI d)))) 2 (some (.val (tE (.func (.func 124) #[] #[]))))) 3 (some (.own (.ptr 3 0)))) 6 (some (.own (.ptr 6 0)))) 8 (some (.own (.ptr 8 0)))) 9 (some (.val (tB (heldQ fs d j))))) 10 (some (.val (tI ((j:Int)+1))))) (fun (j:Nat)=>upd (upd (upd (fun _=>none) 3 (some (⟨94,1,true,[.val (tVw fs)]⟩))) 6 (some (⟨30,4,true,[.val (tFr fr0)]⟩))) 8 (some (⟨30,4,true,[.val (tFr (fr (sumQ payE fs d j)))]⟩))) [3,6,8] (fun (j:Nat)=>8 - j) (0) (by omega) (hh:=((SubK.consI rfl (ImpK.of rfl)) ((SubK.consI rfl (ImpK.of rfl)) ((SubK.consI rfl ImpK.refl) SubK.nil)))) ?_
 intro j hI
 refine A7 ?_
 refine x9 rfl (fun h96=> ?_) (fun h96=> ?_)
 ·
  refine A9 ?_
  refine R3 (x3 (c_hire fs hF ((j:Int)+1) d) fi163 rfl) rfl rfl rfl ?_
  refine A3 ?_
  refine RE (x6 (k:=11) (n:=14) (agg:=true) zr32.1 zr32.2 rfl) trivial trivial ⟨rfl,trivial⟩ ?_
  refine A9 ?_
  refine xc1 rfl (fun h97=> ?_) (fun h97=> ?_)
  ·
   refine A1 ?_
   have hy:=sum_yes (f:=payE) h97
   have hin:=hire_in h97
   refine A6 ?_
   refine RE (xg6 (c_payOf fs hF ((hireE fs ((j:Int)+1) d).getD ev0) d) fi124 rfl) ⟨rfl,rfl,rfl,rfl,trivial⟩ trivial trivial (R2 (x3 (c_FAddM (sumQ payE fs d j) _ _ (hs.one _ hin.1 hin.2).1 (hs.all j (by omega)) (hs.one _ hin.1 hin.2).2 (by rw [←hy.1];exact hs.all (j+1) (by omega))) fi30 rfl) rfl rfl ?_)
   refine A16 ?_
   exact kF (j+1) ⟨(by omega),(by omega)⟩ (hg:=(sI ((Sub.consI rfl (Imp.of (by rw [hy.2]))) (sC (sC (sC (sC (sI Sub.nil)))))))) (hh:=((SubK.consI rfl (ImpK.of (by rw [hy.1];try rfl))) ((SubK.consI rfl ImpK.refl) ((SubK.consI rfl ImpK.refl) SubK.nil))))
  ·
   refine A8 ?_
   have hy:=sum_no (f:=payE) h97
   exact kF (j+1) ⟨(by omega),(by omega)⟩ (hg:=(sI ((Sub.consI rfl (Imp.of (by rw [hy.2]))) (sC (sC (sC (sC (sI Sub.nil)))))))) (hh:=((SubK.consI rfl (ImpK.of (by rw [hy.1];try rfl))) ((SubK.consI rfl ImpK.refl) ((SubK.consI rfl ImpK.refl) SubK.nil))))
 ·
  refine A14 ?_
  exact xc8 Plain.mk' (rs:=[.cell 6 30,.tmp 7]) rfl rfl ⟨⟨_,_,_,_,_,rfl,rfl,ti30,(Le.of (by rw [show j=8 by omega]))⟩,⟨_,rfl,(Le.bool (by rw [show j=8 by omega]))⟩,trivial⟩
theorem dy_next {fs:List Ev} {i:Nat} (hi:i < fs.length):(fs.take (i+1)).flatMap dyE=(fs.take i).flatMap dyE++dyE (fs.getD i ev0):=by
 rw [List.take_succ_eq_append_getElem hi,List.flatMap_append,List.getD_eq_getElem?_getD,List.getElem?_eq_getElem hi];simp
theorem dy_len: ∀fs:List Ev,(fs.flatMap dyE).length≤2*fs.length
 | []=>Nat.le_refl _
 | e::r=>by
  have:=dy_len r
  have:(dyE e).length≤2:=by
   rw [dyE]
   split
   ·exact Nat.zero_le _
   ·split
    ·exact Nat.le_refl _
    ·exact Nat.le_succ _
  rw [List.flatMap_cons,List.length_append,List.length_cons];omega
theorem c_days (fs:List Ev) (hF:fs.length≤100):
  Ct Tryz.prog 119 [tVw fs] (tL 1 false tI (dyF fs)):=by
 refine Ct.intro Tryz.func119 rfl Tryz.ntmps119 rfl ?_
 intro w F
 refine A8 ?_
 refine RE (xe4 (k:=3) 3 1 false rfl (fun _=>rfl)) trivial trivial ⟨rfl,trivial⟩ ?_
 refine A6 ?_
 refine xg5 (0) ti24 rfl rfl rfl (At.g 0 rfl (rfl)) rfl ?_
 refine A5 ?_
 refine cL (fun (i:Nat)=>i≤fs.length) (fun (i:Nat)=>upd (upd (upd (upd (fun _=>none) 3 (some (.own (.sl 3 1 0 ((fs.take i).flatMap dyE).length)))) 7 (some (.val (tL 14 true tEv fs)))) 8 (some (.val (tI fs.length)))) 9 (some (.val (tI i)))) (fun (i:Nat)=>upd (fun _=>none) 3 (some (⟨3,1,false,rV tI ((fs.take i).flatMap dyE)⟩))) [3] (fun (i:Nat)=>fs.length - i) (0) (Nat.zero_le _) (hh:=((SubK.consI rfl ImpK.refl) SubK.nil)) ?_
 intro i hI
 have hxl:((fs.take i).flatMap dyE).length≤2*i:=by have:=dy_len (fs.take i);rw [List.length_take] at this;omega
 refine A6 ?_
 refine x9 rfl (fun h108=> ?_) (fun h108=> ?_)
 ·
  refine A6 ?_
  refine R2 (x5 sl24 (i) (by omega) (gD (l:=fs) (n:=i) (d:=ev0) (by omega))) rfl rfl ?_
  refine A1 ?_
  refine RE (x6 (k:=5) (n:=14) (agg:=true) zr32.1 zr32.2 rfl) trivial trivial ⟨rfl,trivial⟩ ?_
  refine A11 ?_
  refine x9 rfl (fun h109=> ?_) (fun h109=> ?_)
  ·
   refine A8 ?_
   have hnx:(fs.take (i+1)).flatMap dyE=((fs.take i).flatMap dyE)++[]:=by rw [dy_next (by omega),dyE,if_pos (by omega)]
   exact kF (i+1) ⟨(by omega),(by omega)⟩ (hg:=(sI (sI (sC ((Sub.consI rfl (Imp.of (by rw [hnx,List.append_nil]))) Sub.nil))))) (hh:=((SubK.consI rfl (ImpK.of (by rw [hnx,List.append_nil]))) SubK.nil))
  ·
   refine A7 ?_
   refine R1 (xa8 (n:=1) (f:=fun n:Int=>tI n) [((fs.getD i ev0).day)] Tryz.underlying42 el3 zf3 rfl (fun _=>inferInstance) rfl rfl rfl) rfl (RE (xf5 (k:=3) (k':=20) (f:=fun n:Int=>tI n) ((fs.take i).flatMap dyE) ((fs.getD i ev0).day) Tryz.underlying42 el3 zf3 rfl rfl (fun _=>inferInstance) rfl ⟨by omega,by omega⟩ rfl) ⟨rfl,rfl,trivial⟩ ⟨rfl,trivial⟩ ⟨rfl,trivial⟩ ?_)
   refine A9 ?_
   refine RGcaseD (t:=24) rfl (fun h113=> ?_) (fun h113=> ?_)
   ·
    refine A6 ?_
    refine x9 rfl (fun h113_2=> ?_) (fun h113_2=> ?_)
    ·
     refine A4 ?_
     refine R1 (xa8 (n:=1) (f:=fun n:Int=>tI n) [((fs.getD i ev0).hi)] Tryz.underlying42 el3 zf3 rfl (fun _=>inferInstance) rfl rfl rfl) rfl (RE (xf5 (k:=20) (k':=33) (f:=fun n:Int=>tI n) (((fs.take i).flatMap dyE)++[(fs.getD i ev0).day]) ((fs.getD i ev0).hi) Tryz.underlying42 el3 zf3 rfl rfl (fun _=>inferInstance) (by rw [List.length_append];rfl) ⟨by omega,by omega⟩ rfl) ⟨rfl,rfl,trivial⟩ ⟨rfl,trivial⟩ ⟨rfl,trivial⟩ ?_)
     refine A8 ?_
     have hnx:(fs.take (i+1)).flatMap dyE=((fs.take i).flatMap dyE)++[(fs.getD i ev0).day,(fs.getD i ev0).hi]:=by rw [dy_next (by omega),dyE,if_neg (by omega),if_pos (by omega)]
     exact xc0 (l:=[3]) (fun j=>cond (Nat.beq j 3) 33 (j)) (i+1) ⟨(by omega),(by omega)⟩ (SubR.int rfl (by first | omega | rfl | (dsimp only;omega)) (SubR.int rfl (by first | omega | rfl | (dsimp only;omega)) (SubR.cons rfl ((SubR.consI rfl (Imp.of (by rw [hnx,List.length_append];rfl))) SubR.nil)))) ((SubKR.consI rfl (ImpK.of (by rw [hnx,show ((fs.take i).flatMap dyE)++[(fs.getD i ev0).day,(fs.getD i ev0).hi]=((fs.take i).flatMap dyE)++[(fs.getD i ev0).day]++[(fs.getD i ev0).hi] by simp];exact xa3.symm))) SubKR.nil) (SupG.val (SupG.val (SupG.val (SupG.own rfl SupG.nil)))) (SupH.cons rfl (supJ xa2) SupH.nil) (lkOk rfl) rfl rfl (fun _ h=>by cases h)
    ·
     refine A7 ?_
     have hnx:(fs.take (i+1)).flatMap dyE=((fs.take i).flatMap dyE)++[(fs.getD i ev0).day]:=by rw [dy_next (by omega),dyE,if_neg (by omega),if_neg (by omega)]
     exact xc0 (l:=[3]) (fun j=>cond (Nat.beq j 3) 20 (j)) (i+1) ⟨(by omega),(by omega)⟩ (SubR.int rfl (by first | omega | rfl | (dsimp only;omega)) (SubR.int rfl (by first | omega | rfl | (dsimp only;omega)) (SubR.cons rfl ((SubR.consI rfl (Imp.of (by rw [hnx,List.length_append];rfl))) SubR.nil)))) ((SubKR.consI rfl (ImpK.of (by rw [hnx];exact xa3.symm))) SubKR.nil) (SupG.val (SupG.val (SupG.val (SupG.own rfl SupG.nil)))) (SupH.cons rfl (supJ xa2) SupH.nil) (lkOk rfl) rfl rfl (fun _ h=>by cases h)
   ·
    refine A14 ?_
    have hnx:(fs.take (i+1)).flatMap dyE=((fs.take i).flatMap dyE)++[(fs.getD i ev0).day]:=by rw [dy_next (by omega),dyE,if_neg (by omega),if_neg (by omega)]
    exact xc0 (l:=[3]) (fun j=>cond (Nat.beq j 3) 20 (j)) (i+1) ⟨(by omega),(by omega)⟩ (SubR.int rfl (by first | omega | rfl | (dsimp only;omega)) (SubR.int rfl (by first | omega | rfl | (dsimp only;omega)) (SubR.cons rfl ((SubR.consI rfl (Imp.of (by rw [hnx,List.length_append];rfl))) SubR.nil)))) ((SubKR.consI rfl (ImpK.of (by rw [hnx];exact xa3.symm))) SubKR.nil) (SupG.val (SupG.val (SupG.val (SupG.own rfl SupG.nil)))) (SupH.cons rfl (supJ xa2) SupH.nil) (lkOk rfl) rfl rfl (fun _ h=>by cases h)
 ·
  refine A8 ?_
  refine RE (xb1 (fun _=>3) (c_SortI ((fs.take i).flatMap dyE) (by omega)) fi49 rfl (krC (ρ:=fun _=>3) (k:=1) xa3 (krN (ρ:=fun _=>3))) (krC (ρ:=fun _=>3) (k:=1) xa3 (krN (ρ:=fun _=>3))) ⟨⟨rfl,xa2⟩,trivial⟩ rfl) ⟨rfl,trivial⟩ ⟨rfl,trivial⟩ trivial ?_
  refine A3 ?_
  have hsl:=srtI_len ((fs.take i).flatMap dyE)
  refine A2 ?_
  refine RE (xb1 (fun _=>3) (c_CompactS ((fs.take i).flatMap dyE)) fi50 rfl (krC (ρ:=fun _=>3) (k:=1) xa3 (krN (ρ:=fun _=>3))) (krC (ρ:=fun _=>3) (k:=1) xa3 (krN (ρ:=fun _=>3))) ⟨⟨rfl,xa2⟩,trivial⟩ rfl) ⟨rfl,trivial⟩ ⟨rfl,trivial⟩ trivial (RE (xj4 (f:=tI) (xs:=brd ((fs.take i).flatMap dyE)) (fun _ h=>h) (xf7 rfl) rfl) ⟨rfl,trivial⟩ ⟨rfl,trivial⟩ trivial ?_)
  refine A3 ?_
  exact x4 Plain.mk' rfl rfl (Le.of (by rw [show i=fs.length by omega,List.take_length];rfl))
end An.S
namespace An
open Go An.S
def frB (D B:Int) (f:Fr):Prop:= ∃k:Int,(0≤k∧k≤B)∧f=fr (Rat.divInt k D)
def gE (D B:Int) (F:List Ev):Prop:= ∀e∈F,(uPart e.knd=true→frB D B e.part)∧(uPay e.knd=true→frB D B e.pay)
section
variable {D B:Int} {F:List Ev}
theorem frB_zero (hB:0≤B):frB D B (fr ((0:Int):Rat)):=⟨0,⟨by omega,hB⟩,by rw [Rat.zero_divInt];rfl⟩
theorem frB.rat {f:Fr} (h:frB D B f): ∃k:Int,(0≤k∧k≤B)∧f.rat=Rat.divInt k D:=by
 obtain ⟨k,hk,rfl⟩:=h
 exact ⟨k,hk,xh4 _⟩
theorem hire_some {job d:Int} {h:Ev} (hh:hireE F job d=some h):h∈F∧h.knd=1∧h.job=job∧h.day≤d:=by
 rw [hireE] at hh
 cases hl:lastE (pHire job d) F with
 | none=>rw [hl] at hh;cases hh
 | some e=>
  rw [hl] at hh
  simp only at hh
  split at hh
  ·rename_i hk
   obtain rfl:=Option.some.inj hh
   obtain ⟨⟨h1,h2⟩,_⟩:=(xn1 _ _).2 _ hl
   simp only [pHire,Bool.and_eq_true,decide_eq_true_eq] at h2
   exact ⟨h1,hk,h2.1.1,h2.1.2⟩
  ·cases hh
theorem part_B (hg:gE D B F) (hB:0≤B) {h:Ev} (hm:h∈F) (hk:h.knd=1) (d:Int):frB D B (partE F h d):=by
 rw [partE]
 split
 ·exact frB_zero hB
 ·cases hl:lastE (pHours h d) F with
  | none=>exact (hg h hm).1 (by rw [hk];rfl)
  | some e=>
   obtain ⟨⟨h1,h2⟩,_⟩:=(xn1 _ _).2 _ hl
   simp only [pHours,Bool.and_eq_true,decide_eq_true_eq] at h2
   exact (hg e h1).1 (by rw [h2.1.1.1.1];rfl)
theorem pay_B (hg:gE D B F) (hB:0≤B) {h:Ev} (hm:h∈F) (hk:h.knd=1) (d:Int):frB D B (payE F h d):=by
 rw [payE]
 split
 ·exact frB_zero hB
 ·cases hl:lastE (pPay h d) F with
  | none=>exact (hg h hm).2 (by rw [hk];rfl)
  | some e=>
   obtain ⟨⟨h1,h2⟩,_⟩:=(xn1 _ _).2 _ hl
   simp only [pPay,Bool.and_eq_true,decide_eq_true_eq] at h2
   exact (hg e h1).2 (by rw [h2.1.1.1];rfl)
theorem addJ_B {f:List Ev→Ev→Int→Fr} (hB:0≤B) {d:Int} (hf: ∀h,h∈F→h.knd=1→frB D B (f F h d)) (job:Nat): ∃k:Int,(0≤k∧k≤B)∧addJ f F d job=Rat.divInt k D:=by
 rw [addJ]
 cases hh:hireE F (job:Int) d with
 | none=>exact ⟨0,⟨by omega,hB⟩,by rw [Rat.zero_divInt];rfl⟩
 | some h=>
  obtain ⟨h1,h2,_⟩:=hire_some hh
  exact (hf h h1 h2).rat
theorem sumQ_B {f:List Ev→Ev→Int→Fr} (hD:0 < D) (hB:0≤B) {d:Int} (hf: ∀h,h∈F→h.knd=1→frB D B (f F h d)): ∀n:Nat,∃k:Int,(0≤k∧k≤(n:Int)*B)∧sumQ f F d n=Rat.divInt k D
 | 0=>⟨0,⟨by omega,by simp⟩,by rw [Rat.zero_divInt];rfl⟩
 | n+1=>by
  obtain ⟨k,⟨h1,h2⟩,h3⟩:=sumQ_B hD hB hf n
  obtain ⟨j,⟨g1,g2⟩,g3⟩:=addJ_B hB hf (n+1)
  refine ⟨k+j,⟨by omega,?_⟩,by rw [sumQ,h3,g3,addG hD]⟩
  rw [show ((n+1:Nat):Int)=(n:Int)+1 by omega,Int.add_mul,Int.one_mul];omega
theorem crd_B (hg:gE D B F) (hD:0 < D): ∀{G:List Ev},(∀e∈G,e∈F∧e.knd=6)→ ∃k:Int,(0≤k∧k≤(G.length:Int)*B)∧G.foldl (fun q e=>q+e.part.rat) ((0:Int):Rat)=Rat.divInt k D:=fun {G} hG=>
 xp0 (C:=fun G=>(∀e∈G,e∈F∧e.knd=6)→ ∃k:Int,(0≤k∧k≤(G.length:Int)*B)∧G.foldl (fun q e=>q+e.part.rat) ((0:Int):Rat)=Rat.divInt k D)
  (fun _=>⟨0,⟨by omega,by simp⟩,by rw [Rat.zero_divInt];rfl⟩)
  (fun G x ih hG=>by
   obtain ⟨k,⟨h1,h2⟩,h3⟩:=ih fun e he=>hG e (List.mem_append_left _ he)
   obtain ⟨hx,hk⟩:=hG x (by simp)
   obtain ⟨j,⟨g1,g2⟩,g3⟩:=((hg x hx).1 (by rw [hk];rfl)).rat
   refine ⟨k+j,⟨by omega,?_⟩,by rw [List.foldl_append,h3];show _+x.part.rat=_;rw [g3,addG hD]⟩
   rw [List.length_append,List.length_singleton,show ((G.length+1:Nat):Int)=(G.length:Int)+1 by omega,Int.add_mul,Int.one_mul];omega) G.length G rfl hG
theorem one_B (hD:0 < D) {k:Int} (h0:0≤k): ∃j:Int,(0≤j∧j≤k∧j≤D)∧oneQ (Rat.divInt k D)=Rat.divInt j D:=by
 rw [oneQ]
 have e1:((1:Int):Rat)=Rat.divInt D D:=by
  rw [int_div 1]
  exact (Rat.divInt_eq_divInt_iff (by decide) (by omega)).2 (by omega)
 split
 ·rename_i h
  refine ⟨D,⟨by omega,?_,Int.le_refl _⟩,e1⟩
  have h': ¬Rat.divInt k D≤((1:Int):Rat):=Rat.not_le.2 h
  rw [int_div 1,le_dv hD (by decide)] at h'
  omega
 ·rename_i h
  have h':=Rat.not_lt.1 h
  rw [int_div 1,le_dv hD (by decide)] at h'
  exact ⟨k,⟨h0,Int.le_refl _,by omega⟩,rfl⟩
theorem kQ_B (K:Nat) (hg:gE D B F) (hD:0 < D) (hB:0≤B) (hl:F.length≤100) {d:Int} {q:Rat} (h:kQ K F d=some q): ∃k:Int,(0≤k∧k≤100*B)∧(K=1→k≤D)∧q=Rat.divInt k D:=by
 match K,h with
 | 0,h=>
  have h:crdQ F d=some q:=h
  rw [crdQ] at h
  split at h
  ·cases h
  ·obtain rfl:=Option.some.inj h
   obtain ⟨k,⟨h1,h2⟩,h3⟩:=crd_B hg hD (G:=crdL F d) fun e he=>by
    obtain ⟨a,b⟩:=List.mem_filter.1 he
    simp only [Bool.and_eq_true,decide_eq_true_eq] at b
    exact ⟨a,b.1⟩
   refine ⟨k,⟨h1,Int.le_trans h2 (Int.mul_le_mul_of_nonneg_right ?_ hB)⟩,fun h=>(by cases h),h3⟩
   have:(crdL F d).length≤F.length:=List.length_filter_le ..
   omega
 | 1,h=>
  have h:fteQ F d=some q:=h
  rw [fteQ] at h
  split at h
  ·obtain rfl:=Option.some.inj h
   obtain ⟨k,⟨h1,h2⟩,h3⟩:=sumQ_B (f:=partE) hD hB (F:=F) (d:=d) (fun g hm hk=>part_B hg hB hm hk d) 8
   obtain ⟨j,⟨g1,g2,g3⟩,g4⟩:=one_B hD h1
   exact ⟨j,⟨g1,by omega⟩,fun _=>g3,by rw [h3,g4]⟩
  ·cases h
 | K+2,h=>
  have h:payQ F d=some q:=h
  rw [payQ] at h
  split at h
  ·obtain rfl:=Option.some.inj h
   obtain ⟨k,⟨h1,h2⟩,h3⟩:=sumQ_B (f:=payE) hD hB (F:=F) (d:=d) (fun g hm hk=>pay_B hg hB hm hk d) 8
   exact ⟨k,⟨h1,by omega⟩,fun h=>(by omega),h3⟩
  ·cases h
theorem kG_ok (K:Nat) (hg:gE D B F) (hD:0 < D) (hDb:D≤9223372036854775807) (hB:0≤B) (hBb:B≤92233720368547758) (hl:F.length≤100) {d:Int} {v:Va} (h:kG K F d=some v):gOk (kK K) D (100*B) v:=by
 obtain ⟨q,hq,rfl⟩:=Option.map_eq_some_iff.1 h
 obtain ⟨k,⟨h1,h2⟩,_,rfl⟩:=kQ_B K hg hD hB hl hq
 exact gOk.mk (by rw [kK];split <;> omega) hD hDb (by omega) (by omega) (by omega)
theorem mT_ok (K:Nat) (hc:calE F) (hg:gE D B F) (hD:0 < D) (hDb:D≤9223372036854775807) (hB:0≤B) (hBb:B≤92233720368547758) (hl:F.length≤100):isG (kK K) D (100*B) (mT K F):=by
 refine isG_pst ((segL_pw (kD_pw2 hc)).2.imp (S:=fun s t:Tst=>s.lo < s.hi→s.hi≤t.lo) fun h' _=>h') fun s hs _=> ?_
 obtain ⟨h1,h2,h3⟩:=segL_mem hs
 have hb: ∀x∈kD K F++[65536],0≤x∧x≤65536:=fun x hx=>by
  rcases List.mem_append.1 hx with h | h
  ·have:=kD_bd hc x h;omega
  ·rw [List.mem_singleton.1 h];decide
 have:=hb _ h1
 have:=hb _ h2
 exact ⟨by omega,kG_ok K hg hD hDb hB hBb hl h3⟩
theorem dyE_len (e:Ev):(dyE e).length≤2:=by
 rw [dyE]
 split
 ·exact Nat.zero_le _
 ·split
  ·exact Nat.le_refl _
  ·exact Nat.le_succ _
theorem flat2: ∀F:List Ev,(F.flatMap dyE).length≤2*F.length
 | []=>Nat.le_refl _
 | e::r=>by rw [List.flatMap_cons,List.length_append,List.length_cons];have:=flat2 r;have:=dyE_len e;omega
theorem kD_len (K:Nat):(kD K F).length≤2*F.length:=by
 rw [kD]
 split
 ·rw [dyC]
  have h1:=brd_len ((F.filter fun e=>decide (e.knd=6)).map (·.day))
  rw [List.length_map] at h1
  have h2:=List.length_filter_le (fun e:Ev=>decide (e.knd=6)) F
  omega
 ·rw [dyF];have h1:=brd_len (F.flatMap dyE);have h2:=flat2 F;omega
theorem mT_len (K:Nat):(mT K F).length≤2*F.length+1:=by
 have h:=pst_len (segL (kG K F) (kD K F++[65536])) []
 have h2:=segL_len (g:=kG K F) (kD K F++[65536])
 have h3:=kD_len (F:=F) K
 rw [mT];simp only [List.length_nil,List.length_append,List.length_singleton] at h h2 ⊢;omega
theorem xj3 {l:List Ev} {kn:Int} (hv: ∀i,i < l.length→EOk l i):calE (inf l kn):=fun e he=>by
 obtain ⟨i,hi,_,rfl⟩:=inf_mem he
 exact ⟨(hv i hi).days,(hv i hi).his⟩
theorem inf_gE {l:List Ev} {kn:Int} (h:gE D B l):gE D B (inf l kn):=fun e he=>by
 obtain ⟨i,hi,_,rfl⟩:=inf_mem he
 exact h _ (by rw [List.getD_eq_getElem?_getD,List.getElem?_eq_getElem hi];exact List.getElem_mem hi)
end
end An
