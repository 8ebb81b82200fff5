/- Part 4 of a proof: P1, Gs, Tx, Chg, Chg2a, Ty, LibZc, P2, LibZg, P3, Stab, Stab2, Stab3, Fa, F1, F2, LibKn, Cal, Sal, Fv, LibSt, F3, LibZh, LibZi, LibMa, LibMb, LibMs, Fv2, LibAp, LibAq, LibAr, LibAs, F4, F5, Ft, LibLk, LibNw, LibOv, LibLw, LibLx, LibN2, LibAt, LibAw, LibRn, F6, Fl, F7, Fx, Me. -/
import Derived.Laws.Strings2
import Derived.Laws.IdiomStrings
import Derived.Maps.RangeRun
import Derived.MapKept
import Derived.Carry
import Derived.Test.YtiagnhcmlefojaaGreatV3
set_option maxHeartbeats 4000000
set_option maxRecDepth 100000
namespace An.S
open Go Go.Proofs An
instance ti37:TyI Tryz.prog 37 1 false:=⟨by kernel_rfl,by kernel_rfl⟩
instance ti143:TyI Tryz.prog 143 1 false:=⟨by kernel_rfl,by kernel_rfl⟩
instance ti145:TyI Tryz.prog 145 2 true:=⟨by kernel_rfl,by kernel_rfl⟩
instance sl42:SlI Tryz.prog 42 3 1 false:=⟨Tryz.underlying42,ti3⟩
instance sl233:SlI Tryz.prog 233 37 1 false:=⟨Tryz.underlying233,ti37⟩
instance fo145_0:FoI Tryz.prog 145 0 0:=⟨by kernel_rfl⟩
instance fo145_1:FoI Tryz.prog 145 1 1:=⟨by kernel_rfl⟩
instance fi49:FnI Tryz.prog 49:=⟨_,Tryz.func49,by kernel_rfl,rfl⟩
instance fi50:FnI Tryz.prog 50:=⟨_,Tryz.func50,by kernel_rfl,rfl⟩
instance fi140:FnI Tryz.prog 140:=⟨_,Tryz.func140,by kernel_rfl,rfl⟩
instance fi141:FnI Tryz.prog 141:=⟨_,Tryz.func141,by kernel_rfl,rfl⟩
theorem el3:ElI Tryz.prog 3 1 8 false (.int .i64 0):=⟨ti3,by kernel_rfl,by kernel_rfl⟩
theorem el37:ElI Tryz.prog 37 1 24 false (.slice none 0 0):=⟨ti37,by kernel_rfl,by kernel_rfl⟩
theorem zr145:(Tryz.prog.info? 145).bind (·.zero)=some (.agg #[.pointer none,.pointer none])∧ ∀F w,(tS [⟨1,false,(tE (.pointer none))⟩,⟨1,false,(tE (.pointer none))⟩]).p F w (.agg #[.pointer none,.pointer none]):=⟨by kernel_rfl,fun _ _=>⟨_,rfl,rfl,⟨fun _=>rfl,rfl⟩,⟨fun _=>rfl,rfl⟩,trivial⟩⟩
theorem bu106:BuI Tryz.prog 106 (fun i=>[(0,1),(1,1)][i]?) (.agg #[.int .i64 0,.int .i64 0]):=BuI.struct Tryz.underlying106 (by kernel_rfl) (by kernel_rfl)
theorem zf3:Flat 1 false (.int .i64 0):=xc9 rfl
theorem zf37:Flat 1 false (.slice none 0 0):=xc9 rfl
instance un42:UnI Tryz.prog 42 (.slice 3):=⟨Tryz.underlying42⟩
instance un233:UnI Tryz.prog 233 (.slice 37):=⟨Tryz.underlying233⟩
def laySortR:Go.Shelf.Ren:=⟨fun n=>match n with | 125=>84 | 128=>137 | 129=>138 | 189=>49 | 215=>155 | 216=>134 | 257=>83 | 294=>128 | 295=>129 | 296=>130 | 297=>131 | 298=>132 | 299=>133 | 300=>135 | 301=>136 | 328=>169 | 329=>170 | 330=>171 | 331=>172 | 332=>173 | 343=>197 | n=>n,fun n=>match n with | 0=>0 | 3=>3 | 4=>4 | 5=>5 | 9=>9 | 28=>42 | 46=>139 | 51=>202 | 53=>116 | 131=>199 | 182=>193 | 183=>194 | 218=>227 | 222=>231 | 228=>247 | 229=>179 | n=>n,fun n=>n⟩
theorem laySort:Go.Proofs.Lays.n189 Tryz.prog laySortR where
 mixed:=by kernel_rfl
 f125:=by kernel_rfl
 f128:=by kernel_rfl
 f129:=by kernel_rfl
 f189:=by kernel_rfl
 f215:=by kernel_rfl
 f216:=by kernel_rfl
 f257:=by kernel_rfl
 f294:=by kernel_rfl
 f295:=by kernel_rfl
 f296:=by kernel_rfl
 f297:=by kernel_rfl
 f298:=by kernel_rfl
 f299:=by kernel_rfl
 f300:=by kernel_rfl
 f301:=by kernel_rfl
 f328:=by kernel_rfl
 f329:=by kernel_rfl
 f330:=by kernel_rfl
 f331:=by kernel_rfl
 f332:=by kernel_rfl
 f343:=by kernel_rfl
 t0:=by kernel_rfl
 a0:=fun w=>by kernel_rfl
 z0:=fun w=>by kernel_rfl
 v0:=fun w=>by kernel_rfl
 t3:=by kernel_rfl
 a3:=fun w=>by kernel_rfl
 z3:=fun w=>by kernel_rfl
 v3:=fun w=>by kernel_rfl
 t4:=by kernel_rfl
 a4:=fun w=>by kernel_rfl
 z4:=fun w=>by kernel_rfl
 v4:=fun w=>by kernel_rfl
 t5:=by kernel_rfl
 a5:=fun w=>by kernel_rfl
 z5:=fun w=>by kernel_rfl
 v5:=fun w=>by kernel_rfl
 t9:=by kernel_rfl
 a9:=fun w=>by kernel_rfl
 z9:=fun w=>by kernel_rfl
 v9:=fun w=>by kernel_rfl
 t28:=by kernel_rfl
 a28:=fun w=>by kernel_rfl
 z28:=fun w=>by kernel_rfl
 v28:=fun w=>by kernel_rfl
 t46:=by kernel_rfl
 a46:=fun w=>by kernel_rfl
 z46:=fun w=>by kernel_rfl
 v46:=fun w=>by kernel_rfl
 t51:=by kernel_rfl
 a51:=fun w=>by kernel_rfl
 z51:=fun w=>by kernel_rfl
 v51:=fun w=>by kernel_rfl
 t53:=by kernel_rfl
 a53:=fun w=>by kernel_rfl
 z53:=fun w=>by kernel_rfl
 v53:=fun w=>by kernel_rfl
 t131:=by kernel_rfl
 a131:=fun w=>by kernel_rfl
 z131:=fun w=>by kernel_rfl
 v131:=fun w=>by kernel_rfl
 t182:=by kernel_rfl
 a182:=fun w=>by kernel_rfl
 z182:=fun w=>by kernel_rfl
 v182:=fun w=>by kernel_rfl
 t183:=by kernel_rfl
 a183:=fun w=>by kernel_rfl
 z183:=fun w=>by kernel_rfl
 v183:=fun w=>by kernel_rfl
 t218:=by kernel_rfl
 a218:=fun w=>by kernel_rfl
 z218:=fun w=>by kernel_rfl
 v218:=fun w=>by kernel_rfl
 t222:=by kernel_rfl
 a222:=fun w=>by kernel_rfl
 z222:=fun w=>by kernel_rfl
 v222:=fun w=>by kernel_rfl
 t228:=by kernel_rfl
 a228:=fun w=>by kernel_rfl
 z228:=fun w=>by kernel_rfl
 v228:=fun w=>by kernel_rfl
 t229:=by kernel_rfl
 a229:=fun w=>by kernel_rfl
 z229:=fun w=>by kernel_rfl
 v229:=fun w=>by kernel_rfl
def layCompR:Go.Shelf.Ren:=⟨fun n=>match n with | 20=>50 | n=>n,fun n=>match n with | 0=>0 | 3=>3 | 4=>4 | 22=>42 | n=>n,fun n=>n⟩
theorem layComp:Go.Proofs.Lays2.n20 Tryz.prog layCompR where
 mixed:=by kernel_rfl
 f20:=by kernel_rfl
 t0:=by kernel_rfl
 a0:=fun w=>by kernel_rfl
 z0:=fun w=>by kernel_rfl
 v0:=fun w=>by kernel_rfl
 t3:=by kernel_rfl
 a3:=fun w=>by kernel_rfl
 z3:=fun w=>by kernel_rfl
 v3:=fun w=>by kernel_rfl
 t4:=by kernel_rfl
 a4:=fun w=>by kernel_rfl
 z4:=fun w=>by kernel_rfl
 v4:=fun w=>by kernel_rfl
 t22:=by kernel_rfl
 a22:=fun w=>by kernel_rfl
 z22:=fun w=>by kernel_rfl
 v22:=fun w=>by kernel_rfl
 i3:=by kernel_rfl
theorem c_SortI (xs:List Int) (hn:xs.length < 4611686018427387904):CtG Tryz.prog 49 [(1,⟨3,1,false,rV tI xs⟩)] [.own (.sl 1 1 0 xs.length)] (.val (tE (.tuple #[]))) [(1,⟨3,1,false,rV tI (srtI xs)⟩)] []:=sortI laySort 3 xs hn
theorem c_CompactI (xs:List Int):CtG Tryz.prog 50 [(1,⟨3,1,false,rV tI xs⟩)] [.own (.sl 1 1 0 xs.length)] (.own (.sl 1 1 0 (Lib.compact xs).length)) [(1,⟨3,1,false,rV tI (Lib.compact xs)⟩)] []:=compactI layComp 3 xs
theorem srtI_len (xs:List Int):(srtI xs).length=xs.length:=List.length_mergeSort ..
theorem xt7 (xs:List Int):CtG Tryz.prog 50 [(1,⟨3,1,false,rV tI (srtI xs)⟩)] [.own (.sl 1 1 0 xs.length)] (.own (.sl 1 1 0 (brd xs).length)) [(1,⟨3,1,false,rV tI (brd xs)⟩)] []:=by
 have h:=c_CompactI (srtI xs)
 rw [srtI_len] at h;exact h
theorem onV_some {l xs:List Tst} {d:Int} (h:onL l d=xs) (h0:0 < xs.length∧(xs.getD 0 tst0).lo≤d):onV l d=some (xs.getD 0 tst0).v:=by rw [onV,h,if_pos h0]
theorem onV_none {l xs:List Tst} {d:Int} (h:onL l d=xs) (h0: ¬(0 < xs.length∧(xs.getD 0 tst0).lo≤d)):onV l d=none:=by rw [onV,h,if_neg h0]
theorem tlen_take {ls:List (List Tst)} {i:Nat} (hi:i < ls.length):tlen (ls.take i)+(ls.getD i []).length≤tlen ls:=by
 have e:tlen (ls.take (i+1))=tlen (ls.take i)+(ls.getD i []).length:=by
  rw [List.take_succ_eq_append_getElem hi,tlen,List.map_append,List.sum_append,List.getD_eq_getElem?_getD,List.getElem?_eq_getElem hi];simp [tlen]
 have e2:tlen ls=tlen (ls.take (i+1))+tlen (ls.drop (i+1)):=by
  rw [tlen,tlen,tlen,←List.sum_append,←List.map_append,List.take_append_drop]
 omega
theorem c_borders (ls:List (List Tst)) (hl:ls.length≤1000) (ht:tlen ls≤1000000):
  Ct Tryz.prog 140 [tL 1 false (fun l=>tL 8 true tTs l) ls] (tL 1 false tI (bds ls)):=by
 refine Ct.intro Tryz.func140 rfl Tryz.ntmps140 rfl ?_
 intro w F
 refine A7 ?_
 refine RE (xd3 (k:=3) 3 1 false rfl (fun _=>rfl)) trivial trivial ⟨rfl,trivial⟩ ?_
 refine A11 ?_
 refine cL (fun (fm:(Nat)×(List Int))=>(fun (i:Nat) (xs:List Int)=>i≤ls.length∧xs=(ls.take i).flatMap eds) fm.1 fm.2) (fun (fm:(Nat)×(List Int))=>(fun (i:Nat) (xs:List Int)=>upd (upd (upd (upd (fun _=>none) 3 (some (.own (.sl 3 1 0 xs.length)))) 8 (some (.val (tL 1 false (fun l=>tL 8 true tTs l) ls)))) 9 (some (.val (tI ls.length)))) 10 (some (.val (tI i)))) fm.1 fm.2) (fun (fm:(Nat)×(List Int))=>(fun (i:Nat) (xs:List Int)=>upd (fun _=>none) 3 (some (⟨3,1,false,rV tI xs⟩))) fm.1 fm.2) [3] (fun (fm:(Nat)×(List Int))=>(fun (i:Nat) (xs:List Int)=>ls.length - i) fm.1 fm.2) ((0,[])) (by dsimp only;exact ⟨Nat.zero_le _,rfl⟩) (hh:=((SubK.consI rfl ImpK.refl) SubK.nil)) ?_
 intro fm hI
 obtain ⟨i,xs⟩:=fm
 replace hI:i≤ls.length∧xs=(ls.take i).flatMap eds:=hI
 show wc _ _ _ _ (upd (upd (upd (upd (fun _=>none) 3 (some (.own (.sl 3 1 0 xs.length)))) 8 (some (.val (tL 1 false (fun l=>tL 8 true tTs l) ls)))) 9 (some (.val (tI ls.length)))) 10 (some (.val (tI i)))) (upd (fun _=>none) 3 (some (⟨3,1,false,rV tI xs⟩))) _
 obtain ⟨hi,hx⟩:=hI
 refine A6 ?_
 refine x5 rfl (fun h151=> ?_) (fun h151=> ?_)
 ·
  refine A6 ?_
  refine R2 (x8 sl233 (i) (by omega) (gD (l:=ls) (n:=i) (d:=[]) (by omega))) rfl rfl ?_
  refine A12 ?_
  refine xh5 (s:=14) rfl (fun hl0=> ?_)
  have htk:=tlen_take (ls:=ls) (i:=i) (by omega)
  refine cL (fun (fm:(Nat)×(List Int))=>(fun (j:Nat) (xs:List Int)=>j≤(ls.getD i []).length∧xs=(ls.take i).flatMap eds++eds ((ls.getD i []).take j)) fm.1 fm.2) (fun (fm:(Nat)×(List Int))=>(fun (j:Nat) (xs:List Int)=>upd (upd (upd (upd (upd (upd (upd (fun _=>none) 3 (some (.own (.sl 3 1 0 xs.length)))) 8 (some (.val (tL 1 false (fun l=>tL 8 true tTs l) ls)))) 9 (some (.val (tI ls.length)))) 10 (some (.val (tI i)))) 14 (some (.val (tL 8 true tTs (ls.getD i []))))) 15 (some (.val (tI (ls.getD i []).length)))) 16 (some (.val (tI j)))) fm.1 fm.2) (fun (fm:(Nat)×(List Int))=>(fun (j:Nat) (xs:List Int)=>upd (fun _=>none) 3 (some (⟨3,1,false,rV tI xs⟩))) fm.1 fm.2) [3] (fun (fm:(Nat)×(List Int))=>(fun (j:Nat) (xs:List Int)=>(ls.getD i []).length - j) fm.1 fm.2) ((0,xs)) (by dsimp only;exact ⟨Nat.zero_le _,by rw [List.take_zero,hx];simp [eds]⟩) (hh:=((SubK.consI rfl ImpK.refl) SubK.nil)) ?_
  intro fm hI2
  obtain ⟨j,xs⟩:=fm
  replace hI2:j≤(ls.getD i []).length∧xs=(ls.take i).flatMap eds++eds ((ls.getD i []).take j):=hI2
  show wc _ _ _ _ (upd (upd (upd (upd (upd (upd (upd (fun _=>none) 3 (some (.own (.sl 3 1 0 xs.length)))) 8 (some (.val (tL 1 false (fun l=>tL 8 true tTs l) ls)))) 9 (some (.val (tI ls.length)))) 10 (some (.val (tI i)))) 14 (some (.val (tL 8 true tTs (ls.getD i []))))) 15 (some (.val (tI (ls.getD i []).length)))) 16 (some (.val (tI j)))) (upd (fun _=>none) 3 (some (⟨3,1,false,rV tI xs⟩))) _
  obtain ⟨hj,hx2⟩:=hI2
  have hxl:xs.length=2*tlen (ls.take i)+2*j:=by rw [hx2,List.length_append,flat_len,eds_len,List.length_take,Nat.min_eq_left hj]
  refine A6 ?_
  refine x5 rfl (fun h152=> ?_) (fun h152=> ?_)
  ·
   refine A6 ?_
   refine R2 (x8 sl37 (j) (by omega) (gD (l:=(ls.getD i [])) (n:=j) (d:=tst0) (by omega))) rfl rfl ?_
   refine A1 ?_
   refine RE (xa1 (k:=7) (n:=8) (agg:=true) zr77.1 zr77.2 rfl) trivial trivial ⟨rfl,trivial⟩ ?_
   refine A9 ?_
   refine R2 (xb0 (n:=2) (f:=fun n:Int=>tI n) [((ls.getD i []).getD j tst0).lo,((ls.getD i []).getD j tst0).hi] Tryz.underlying42 el3 zf3 rfl (fun _=>inferInstance) rfl rfl rfl) rfl rfl (RE (xb6 (k:=3) (k':=26) (f:=fun n:Int=>tI n) (ys:=[((ls.getD i []).getD j tst0).lo,((ls.getD i []).getD j tst0).hi]) (ts':=rV tI (xs++[((ls.getD i []).getD j tst0).lo,((ls.getD i []).getD j tst0).hi])) Tryz.underlying42 el3 zf3 rfl rfl (fun _=>inferInstance) xc6 (by simp;omega) (by simp;omega) (by simp [rV]) (n':=xs.length+2) rfl) ⟨rfl,rfl,trivial⟩ ⟨rfl,trivial⟩ ⟨rfl,trivial⟩ ?_)
   refine A8 ?_
   exact xb7 (l:=[3]) (fun j=>cond (Nat.beq j 3) 26 (j)) ((j+1,xs++[((ls.getD i []).getD j tst0).lo,((ls.getD i []).getD j tst0).hi])) ⟨(by dsimp only;exact ⟨by omega,by rw [eds_snoc (by omega),←List.append_assoc,←hx2]⟩),(by dsimp only;omega)⟩ (SubR.int rfl (by first | omega | rfl | (dsimp only;omega)) (SubR.int rfl (by first | omega | rfl | (dsimp only;omega)) (SubR.cons rfl (SubR.int rfl (by first | omega | rfl | (dsimp only;omega)) (SubR.int rfl (by first | omega | rfl | (dsimp only;omega)) (SubR.cons rfl ((SubR.consI rfl (Imp.of (by dsimp only;rw [List.length_append];rfl))) SubR.nil))))))) ((SubKR.consI rfl (ImpK.of xa2.symm)) SubKR.nil) (SupG.val (SupG.val (SupG.val (SupG.val (SupG.val (SupG.val (SupG.own rfl SupG.nil))))))) (SupH.cons rfl (supJ x9) SupH.nil) (lkOk rfl) rfl rfl (fun _ h=>by cases h)
  ·
   refine A10 ?_
   have hje:j=(ls.getD i []).length:=by omega
   subst hje
   exact kF ((i+1,xs)) ⟨(by dsimp only;exact ⟨by omega,by rw [flat_snoc (by omega),hx2,List.take_length]⟩),(by dsimp only;omega)⟩ (hh:=((SubK.consI rfl ImpK.refl) SubK.nil))
 ·
  refine A6 ?_
  have hie:i=ls.length:=by omega
  subst hie
  rw [List.take_length] at hx
  have hxl:xs.length=2*tlen ls:=by rw [hx,flat_len]
  have hsl:=srtI_len xs
  refine A2 ?_
  refine RE (xa5 (fun _=>3) (c_SortI xs (by omega)) fi49 rfl (krC (ρ:=fun _=>3) (k:=1) xa2 (krN (ρ:=fun _=>3))) (krC (ρ:=fun _=>3) (k:=1) xa2 (krN (ρ:=fun _=>3))) ⟨⟨rfl,x9⟩,trivial⟩ rfl) ⟨rfl,trivial⟩ ⟨rfl,trivial⟩ trivial ?_
  refine A5 ?_
  refine RE (xa5 (fun _=>3) (xt7 xs) fi50 rfl (krC (ρ:=fun _=>3) (k:=1) xa2 (krN (ρ:=fun _=>3))) (krC (ρ:=fun _=>3) (k:=1) xa2 (krN (ρ:=fun _=>3))) ⟨⟨rfl,x9⟩,trivial⟩ rfl) ⟨rfl,trivial⟩ ⟨rfl,trivial⟩ trivial (RE (xi2 (f:=tI) (xs:=brd xs) (fun _ h=>h) (xf4 rfl) rfl) ⟨rfl,trivial⟩ ⟨rfl,trivial⟩ trivial ?_)
  refine A3 ?_
  exact x4 Plain.mk' rfl rfl (Le.of (by rw [hx];rfl))
theorem c_on (l:List Tst) (d:Int):
  Ct Tryz.prog 141 [tL 8 true tTs l,tI d] (tT [tO 6 true tVa (onV l d),tL 8 true tTs (onL l d)]):=by
 refine Ct.intro Tryz.func141 rfl Tryz.ntmps141 rfl ?_
 intro w F
 refine xk4 ?_
 refine C_reg ?_
 refine R1 xd9 rfl (R1 xd9 rfl (xk6 (by kernel_rfl) (xf5 (xk4 (C_block ?_)))))
 refine cL (fun (xs:List Tst)=>onL xs d=onL l d) (fun (xs:List Tst)=>upd (upd (fun _=>none) 0 (some (.val (tL 8 true tTs xs)))) 1 (some (.val (tI d)))) (fun (xs:List Tst)=>fun _=>none) [] (fun (xs:List Tst)=>xs.length) (l) rfl ?_
 intro xs hI
 refine xh5 (s:=0) rfl (fun hl0=> ?_)
 refine xk4 (xk4 ?_)
 refine C_reg ?_
 refine R1 xc1 rfl (R1 (d_len Tryz.underlying37) rfl (R2 d_gtr rfl rfl (R1 xc1 rfl ?_)))
 refine RGcaseD (t:=9) rfl (fun h124=> ?_) (fun h124=> ?_)
 ·
  refine RGon (decide_eq_true h124) rfl xc1 rfl ⟨rfl,trivial⟩ trivial trivial (RGon (decide_eq_true h124) rfl (x8 sl37 (0) (by omega) (gD (l:=xs) (n:=0) (d:=tst0) (by omega))) rfl ⟨rfl,rfl,trivial⟩ trivial trivial (RGon (decide_eq_true h124) rfl (xe5 fo77_1.h (At.f 1 rfl rfl) rfl) rfl ⟨rfl,trivial⟩ trivial trivial (RGon (decide_eq_true h124) rfl (xm2 ti3) rfl ⟨rfl,trivial⟩ trivial trivial (RGon (decide_eq_true h124) rfl xc1 rfl ⟨rfl,trivial⟩ trivial trivial (RGon (decide_eq_true h124) rfl d_leq rfl ⟨rfl,rfl,trivial⟩ trivial trivial (R2 (xi9 (decide_eq_true h124)) rfl rfl (xk6 (by kernel_rfl) ?_)))))))
  refine xf5 ?_
  refine x5 rfl (fun h124_2=> ?_) (fun h124_2=> ?_)
  ·
   refine C_skip (xf5 (C_block ?_))
   refine C_reg ?_
   refine R1 xc1 rfl (R2 (d_sliceFrom sl37 1 rfl (by omega) rfl) rfl rfl (R1 xd9 rfl (xk6 (by kernel_rfl) (K_norB ?_))))
   exact kF (xs.drop 1) ⟨(by rw [on_next (by omega) (by omega)];exact hI),(by rw [List.length_drop];omega)⟩
  ·
   refine C_exit (K_exT (K_exT (K_exB (xf5 (xk4 (xk4 ?_))))))
   have hst:onL l d=xs:=by rw [←hI];exact on_stop (by omega)
   refine C_reg ?_
   refine R1 xc1 rfl (R1 (d_len Tryz.underlying37) rfl (R2 d_gtr rfl rfl (R1 xc1 rfl ?_)))
   refine RGcaseD (t:=22) rfl (fun h127=> ?_) (fun h127=> ?_)
   ·
    refine RGon (decide_eq_true h127) rfl xc1 rfl ⟨rfl,trivial⟩ trivial trivial (RGon (decide_eq_true h127) rfl (x8 sl37 (0) (by omega) (gD (l:=xs) (n:=0) (d:=tst0) (by omega))) rfl ⟨rfl,rfl,trivial⟩ trivial trivial (RGon (decide_eq_true h127) rfl (xe5 fo77_0.h (At.f 0 rfl rfl) rfl) rfl ⟨rfl,trivial⟩ trivial trivial (RGon (decide_eq_true h127) rfl (xm2 ti3) rfl ⟨rfl,trivial⟩ trivial trivial (RGon (decide_eq_true h127) rfl xc1 rfl ⟨rfl,trivial⟩ trivial trivial (RGon (decide_eq_true h127) rfl d_leq rfl ⟨rfl,rfl,trivial⟩ trivial trivial (R2 (xi9 (decide_eq_true h127)) rfl rfl (xk6 (by kernel_rfl) ?_)))))))
    refine xf5 ?_
    refine x5 rfl (fun h127_2=> ?_) (fun h127_2=> ?_)
    ·
     refine xk4 ?_
     refine C_reg ?_
     refine R1 xc1 rfl (R2 (x8 sl37 (0) (by omega) (gD (l:=xs) (n:=0) (d:=tst0) (by omega))) rfl rfl (R1 (xe5 fo77_2.h (At.f 2 rfl rfl) rfl) rfl (R1 xc1 rfl (R1 xd9 rfl (R1 xd9 rfl (xk6 (by kernel_rfl) (xf5 ?_)))))))
     refine C_ret (K_retT ?_)
     exact xd7 Plain.mk' rfl rfl rfl (leO (n:=6) (agg:=true) (f:=tVa) (onV_some hst ⟨by omega,by omega⟩)) (Le.of (by rw [hst]))
    ·
     refine C_skip (xf5 (xk4 ?_))
     refine C_reg ?_
     refine R1 xc1 rfl (R1 xd9 rfl (R1 xd9 rfl (xk6 (by kernel_rfl) (xf5 (C_ret ?_)))))
     exact xd7 Plain.mk' rfl rfl rfl (leO0 (onV_none hst (by omega))) (Le.of (by rw [hst]))
   ·
    refine RGoff (decide_eq_false h127) rfl rfl (RGoff (decide_eq_false h127) rfl rfl (RGoff (decide_eq_false h127) rfl rfl (RGoff (decide_eq_false h127) rfl rfl (RGoff (decide_eq_false h127) rfl rfl (RGoff (decide_eq_false h127) rfl rfl (R2 (xg6 (decide_eq_false h127)) rfl rfl (xk6 (by kernel_rfl) ?_)))))))
    refine xf5 (C_bF rfl rfl (C_skip (xf5 (xk4 ?_))))
    refine C_reg ?_
    refine R1 xc1 rfl (R1 xd9 rfl (R1 xd9 rfl (xk6 (by kernel_rfl) (xf5 (C_ret ?_)))))
    exact xd7 Plain.mk' rfl rfl rfl (leO0 (onV_none hst (by omega))) (Le.of (by rw [hst]))
 ·
  refine RGoff (decide_eq_false h124) rfl rfl (RGoff (decide_eq_false h124) rfl rfl (RGoff (decide_eq_false h124) rfl rfl (RGoff (decide_eq_false h124) rfl rfl (RGoff (decide_eq_false h124) rfl rfl (RGoff (decide_eq_false h124) rfl rfl (R2 (xg6 (decide_eq_false h124)) rfl rfl (xk6 (by kernel_rfl) ?_)))))))
  refine xf5 (C_bF rfl rfl (C_exit (K_exT (K_exT (K_exB (xf5 (xk4 ?_)))))))
  refine xk4 ?_
  have hst:onL l d=xs:=by rw [←hI];exact on_stop (by omega)
  refine C_reg ?_
  refine R1 xc1 rfl (R1 (d_len Tryz.underlying37) rfl (R2 d_gtr rfl rfl (R1 xc1 rfl ?_)))
  refine RGcaseD (t:=22) rfl (fun h127=> ?_) (fun h127=> ?_)
  ·
   refine RGon (decide_eq_true h127) rfl xc1 rfl ⟨rfl,trivial⟩ trivial trivial (RGon (decide_eq_true h127) rfl (x8 sl37 (0) (by omega) (gD (l:=xs) (n:=0) (d:=tst0) (by omega))) rfl ⟨rfl,rfl,trivial⟩ trivial trivial (RGon (decide_eq_true h127) rfl (xe5 fo77_0.h (At.f 0 rfl rfl) rfl) rfl ⟨rfl,trivial⟩ trivial trivial (RGon (decide_eq_true h127) rfl (xm2 ti3) rfl ⟨rfl,trivial⟩ trivial trivial (RGon (decide_eq_true h127) rfl xc1 rfl ⟨rfl,trivial⟩ trivial trivial (RGon (decide_eq_true h127) rfl d_leq rfl ⟨rfl,rfl,trivial⟩ trivial trivial (R2 (xi9 (decide_eq_true h127)) rfl rfl (xk6 (by kernel_rfl) ?_)))))))
   refine xf5 ?_
   refine x5 rfl (fun h127_2=> ?_) (fun h127_2=> ?_)
   ·
    refine xk4 ?_
    refine C_reg ?_
    refine R1 xc1 rfl (R2 (x8 sl37 (0) (by omega) (gD (l:=xs) (n:=0) (d:=tst0) (by omega))) rfl rfl (R1 (xe5 fo77_2.h (At.f 2 rfl rfl) rfl) rfl (R1 xc1 rfl (R1 xd9 rfl (R1 xd9 rfl (xk6 (by kernel_rfl) (xf5 ?_)))))))
    refine C_ret (K_retT ?_)
    exact xd7 Plain.mk' rfl rfl rfl (leO (n:=6) (agg:=true) (f:=tVa) (onV_some hst ⟨by omega,by omega⟩)) (Le.of (by rw [hst]))
   ·
    refine C_skip (xf5 (xk4 ?_))
    refine C_reg ?_
    refine R1 xc1 rfl (R1 xd9 rfl (R1 xd9 rfl (xk6 (by kernel_rfl) (xf5 (C_ret ?_)))))
    exact xd7 Plain.mk' rfl rfl rfl (leO0 (onV_none hst (by omega))) (Le.of (by rw [hst]))
  ·
   refine RGoff (decide_eq_false h127) rfl rfl (RGoff (decide_eq_false h127) rfl rfl (RGoff (decide_eq_false h127) rfl rfl (RGoff (decide_eq_false h127) rfl rfl (RGoff (decide_eq_false h127) rfl rfl (RGoff (decide_eq_false h127) rfl rfl (R2 (xg6 (decide_eq_false h127)) rfl rfl (xk6 (by kernel_rfl) ?_)))))))
   refine xf5 (C_bF rfl rfl (C_skip (xf5 (xk4 ?_))))
   refine C_reg ?_
   refine R1 xc1 rfl (R1 xd9 rfl (R1 xd9 rfl (xk6 (by kernel_rfl) (xf5 (C_ret ?_)))))
   exact xd7 Plain.mk' rfl rfl rfl (leO0 (onV_none hst (by omega))) (Le.of (by rw [hst]))
theorem c_together (a b:List Tst):
  CtG Tryz.prog 85 [] [.val (tL 8 true tTs a),.val (tL 8 true tTs b)] (.own (.fn 139 [.ptr 2 0,.ptr 3 0])) [(2,⟨37,1,false,[.val (tL 8 true tTs a)]⟩),(3,⟨37,1,false,[.val (tL 8 true tTs b)]⟩)] [2,3]:=by
 refine CtG.intro [] Tryz.func85 rfl Tryz.ntmps85 rfl rfl trivial ?_
 intro w F η
 refine A9 ?_
 refine R2 (xf3 (ps:=[.ptr 2 0,.ptr 3 0]) rfl) rfl rfl ?_
 refine A4 ?_
 exact xb5 LentC.mk' rfl rfl Imp.refl ⟨rfl,rfl,trivial⟩ rfl ⟨⟨rfl,(SupX.lit rfl)⟩,⟨rfl,(SupX.lit rfl)⟩,trivial⟩ rfl
abbrev tPr (x y:Option Va):Ty:=tS [⟨1,false,tO 6 true tVa x⟩,⟨1,false,tO 6 true tVa y⟩]
def tgY (a b:List Tst) (k:Nat):List Ty:=[tSn ⟨(bds [a,b]).getD k 0,(bds [a,b]).getD (k+1) 0⟩,tPr (valT a ((bds [a,b]).getD k 0)) (valT b ((bds [a,b]).getD k 0))]
theorem tg_le {a b:List Tst} {k:Nat} {x y:Option Va} (h1:x=valT a ((bds [a,b]).getD k 0)) (h2:y=valT b ((bds [a,b]).getD k 0)):LeL [tSn ⟨(bds [a,b]).getD k 0,(bds [a,b]).getD (k+1) 0⟩,tPr x y] (tgY a b k):=by
 subst h1;subst h2;exact ⟨Le.refl,Le.refl,trivial⟩
theorem i_together (a b:List Tst) (ha:ascT a) (hb:ascT b) (hla:a.length≤200000) (hlb:b.length≤200000):
  ItC Tryz.prog 139 [(1,⟨37,1,false,[.val (tL 8 true tTs a)]⟩),(2,⟨37,1,false,[.val (tL 8 true tTs b)]⟩)] [.ptr 1 0,.ptr 2 0] ((bds [a,b]).length - 1) (tgY a b):=by
 refine ItC.intro (K:=99) [1,2] Tryz.func139 rfl Tryz.ntmps139 rfl rfl ⟨⟨rfl,(SupX.lit rfl)⟩,⟨rfl,(SupX.lit rfl)⟩,trivial⟩ rfl ?_
 intro w F η l V J Jc hB
 refine A1 ?_
 have htl:tlen [a,b]≤400000:=by simp [tlen];omega
 refine A3 ?_
 refine R2 (xb0 (n:=2) (f:=fun l=>tL 8 true tTs l) [a,b] Tryz.underlying233 el37 zf37 rfl (fun _=>inferInstance) rfl rfl rfl) rfl rfl (R1 (x3 (c_borders [a,b] (by simp) (by omega)) fi140 rfl) rfl ?_)
 refine A9 ?_
 have htl:tlen [a,b]≤400000:=by simp [tlen];omega
 have hdl:=bds_len (ls:=[a,b])
 refine cL (fun (fm:(Nat)×(List Tst)×(List Tst))=>(fun (i:Nat) (xa:List Tst) (xb:List Tst)=>(i=0∨i+1≤(bds [a,b]).length)∧ogI a b xa xb ((bds [a,b]).getD (i - 1) 0)) fm.1 fm.2.1 fm.2.2) (fun (fm:(Nat)×(List Tst)×(List Tst))=>(fun (i:Nat) (xa:List Tst) (xb:List Tst)=>upd (upd (upd (upd (upd (fun _=>none) 0 (some (.val (tE (.func (.yield l) #[] #[]))))) 1 (some (.own (.ptr 1 0)))) 2 (some (.own (.ptr 2 0)))) 4 (some (.val (tL 1 false tI (bds [a,b]))))) 5 (some (.val (tI ((i:Int)+1))))) fm.1 fm.2.1 fm.2.2) (fun (fm:(Nat)×(List Tst)×(List Tst))=>(fun (i:Nat) (xa:List Tst) (xb:List Tst)=>upd (upd (upd (fun _=>none) 1 (some (⟨37,1,false,[.val (tL 8 true tTs xa)]⟩))) 2 (some (⟨37,1,false,[.val (tL 8 true tTs xb)]⟩))) 99 (some (⟨2*i,1,false,[]⟩))) fm.1 fm.2.1 fm.2.2) [1,2,99] (fun (fm:(Nat)×(List Tst)×(List Tst))=>(fun (i:Nat) (xa:List Tst) (xb:List Tst)=>(bds [a,b]).length - i) fm.1 fm.2.1 fm.2.2) ((0,a,b)) (by dsimp only;exact ⟨.inl rfl,ogI.zero ha hb _⟩) (hh:=((SubK.consI rfl ImpK.refl) ((SubK.consI rfl ImpK.refl) ((SubK.consI rfl ImpK.refl) SubK.nil)))) ?_
 intro fm hI
 obtain ⟨i,xa,xb⟩:=fm
 replace hI:(i=0∨i+1≤(bds [a,b]).length)∧ogI a b xa xb ((bds [a,b]).getD (i - 1) 0):=hI
 show wc _ _ _ _ (upd (upd (upd (upd (upd (fun _=>none) 0 (some (.val (tE (.func (.yield l) #[] #[]))))) 1 (some (.own (.ptr 1 0)))) 2 (some (.own (.ptr 2 0)))) 4 (some (.val (tL 1 false tI (bds [a,b]))))) 5 (some (.val (tI ((i:Int)+1))))) (upd (upd (upd (fun _=>none) 1 (some (⟨37,1,false,[.val (tL 8 true tTs xa)]⟩))) 2 (some (⟨37,1,false,[.val (tL 8 true tTs xb)]⟩))) 99 (some (⟨2*i,1,false,[]⟩))) _
 obtain ⟨hi,hog⟩:=hI
 refine A9 ?_
 refine x5 rfl (fun h137=> ?_) (fun h137=> ?_)
 ·
  refine A5 ?_
  have hle:(bds [a,b]).getD (i - 1) 0≤((bds [a,b]).getD i 0):=by
   rcases Nat.eq_zero_or_pos i with h0 | h0
   ·subst h0;exact Int.le_refl _
   ·have:=pw_lt (bds_pw (ls:=[a,b])) (show i - 1 < i by omega) (by omega);omega
  obtain ⟨hv1,hv2,hog2⟩:=hog.next hle
  refine A1 ?_
  refine RE (xa1 (k:=6) (n:=2) (agg:=true) zr145.1 zr145.2 rfl) trivial trivial ⟨rfl,trivial⟩ ?_
  refine A8 ?_
  refine R2 (x8 sl42 (i) (by omega) (gD (l:=(bds [a,b])) (n:=i) (d:=0) (by omega))) rfl rfl ?_
  refine A1 ?_
  refine R2 (x3 (c_on xa ((bds [a,b]).getD i 0)) fi141 rfl) rfl rfl ?_
  refine A4 ?_
  refine xp0 (0) ti143 rfl rfl rfl rfl (Up.g 0 rfl rfl rfl) rfl rfl ?_
  refine A9 ?_
  refine R2 (x8 sl42 (i) (by omega) (gD (l:=(bds [a,b])) (n:=i) (d:=0) (by omega))) rfl rfl ?_
  refine A1 ?_
  refine R2 (x3 (c_on xb ((bds [a,b]).getD i 0)) fi141 rfl) rfl rfl ?_
  refine A4 ?_
  refine xp0 (0) ti143 rfl rfl rfl rfl (Up.g 1 rfl rfl rfl) rfl rfl ?_
  refine A4 ?_
  refine C_drawY (n:=12) mixed ?_
  refine A4 ?_
  refine R2 (x8 sl42 (i) (by omega) (gD (l:=(bds [a,b])) (n:=i) (d:=0) (by omega))) rfl rfl ?_
  refine A3 ?_
  refine R2 (x8 sl42 (i+1) (by omega) (gD (l:=(bds [a,b])) (n:=i+1) (d:=0) (by omega))) rfl rfl ?_
  refine A1 ?_
  refine R2 (xa9 (r:=tS [⟨1,false,tI ((bds [a,b]).getD i 0)⟩,⟨1,false,tI ((bds [a,b]).getD (i+1) 0)⟩]) (ts:=[(0,tI ((bds [a,b]).getD i 0)),(1,tI ((bds [a,b]).getD (i+1) 0))]) bu106 zr106.2 (Bc 0 rfl rfl rfl (Bc 1 rfl rfl rfl Le.refl))) rfl rfl ?_
  refine A1 ?_
  refine R_endY (by kernel_rfl) ?_
  refine wl_yield (ts:=[tSn ⟨((bds [a,b]).getD i 0),((bds [a,b]).getD (i+1) 0)⟩,tPr (onV xa ((bds [a,b]).getD i 0)) (onV xb ((bds [a,b]).getD i 0))]) hB (xf6 rfl) rfl rfl ⟨rfl,rfl,trivial⟩ rfl rfl (by omega) (tg_le hv1 hv2) ?_ ?_
  ·
   refine xb9 d_not ⟨rfl,trivial⟩ trivial trivial rfl (xi1 ?_)
   refine A10 ?_
   exact kF ((i+1,onL xa ((bds [a,b]).getD i 0),onL xb ((bds [a,b]).getD i 0))) ⟨(by dsimp only;exact ⟨.inr (by omega),hog2⟩),(by dsimp only;omega)⟩ (hh:=((SubK.consI rfl ImpK.refl) ((SubK.consI rfl ImpK.refl) ((SubK.consI rfl ImpK.refl) SubK.nil))))
  ·
   refine xb9 d_not ⟨rfl,trivial⟩ trivial trivial rfl (xi1 ?_)
   refine A7 ?_
   exact E_it hB rfl trivial rfl (.inl rfl) rfl (.inr ⟨i,by omega,rfl⟩)
 ·
  refine A4 ?_
  exact E_it hB rfl trivial rfl (.inr rfl) rfl (.inl (by omega))
end An.S
namespace An.S
open Go
def wt (D:Int) (v:Va):Int:=(v.f.rat*(D:Rat)).num
theorem int_div (n:Int):(n:Rat)=Rat.divInt n 1:=by
 have:=Rat.num_divInt_den (n:Rat)
 rw [Rat.num_intCast,Rat.den_intCast] at this;exact this.symm
theorem wt_is {D k:Int} (hD:0 < D) {v:Va} (h:v.f.rat=Rat.divInt k D):wt D v=k:=by
 have e:Rat.divInt k D*(D:Rat)=(k:Rat):=by
  rw [int_div D,int_div k,Rat.divInt_mul_divInt]
  exact (Rat.divInt_eq_divInt_iff (by omega) (by decide)).2 (by rw [Int.mul_one,Int.mul_one])
 rw [wt,h,e,Rat.num_intCast]
theorem addG {D:Int} (hD:0 < D) (a b:Int):Rat.divInt a D+Rat.divInt b D=Rat.divInt (a+b) D:=by
 rw [Rat.divInt_add_divInt a b (by omega) (by omega)]
 exact (Rat.divInt_eq_divInt_iff (Int.ne_of_gt (Int.mul_pos hD hD)) (by omega)).2 (by rw [←Int.add_mul,Int.mul_assoc])
theorem xp1 {n d:Int} (hd:0 < d) (h1: -9223372036854775808≤n) (h2:n≤9223372036854775807) (h3:d≤9223372036854775807):short (Rat.divInt n d):=by
 have l16: ∀{n:Int}, -9223372036854775808≤n→n≤9223372036854775807→len16 n≤256:=fun h1 h2=>Nat.le_trans (len16_64 h1 h2) (by decide)
 have e:=lowest_eq (n:=n) hd
 have e1:(wh (Rat.divInt n d).num).l.length=(wh (n / (Int.gcd n d:Int))).l.length:=congrArg (fun f:Fr=>f.n.l.length) e
 have e2:(wh ((Rat.divInt n d).den:Int)).l.length=(wh (d / (Int.gcd n d:Int))).l.length:=congrArg (fun f:Fr=>f.d.l.length) e
 refine ⟨?_,?_⟩
 ·show (wh (Rat.divInt n d).num).l.length≤256
  rw [e1];exact len16_div (l16 h1 h2)
 ·show (wh ((Rat.divInt n d).den:Int)).l.length≤256
  rw [e2];exact len16_div (l16 (by omega) h3)
theorem splitG {l:List Tst} (h:0 < l.length):l=l.take (l.length - 1)++[l.getD (l.length - 1) tst0]:=by
 have e:l.take (l.length - 1+1)=l.take (l.length - 1)++[l[l.length - 1]]:=List.take_succ_eq_append_getElem (by omega)
 rw [show l.length - 1+1=l.length by omega,List.take_length] at e
 rw [List.getD_eq_getElem?_getD,List.getElem?_eq_getElem (by omega)];exact e
theorem le_dv {x y d e:Int} (hd:0 < d) (he:0 < e):Rat.divInt x d≤Rat.divInt y e↔x*e≤y*d:=by
 rw [Rat.le_iff_sub_nonneg,Rat.divInt_sub_divInt _ _ (by omega) (by omega),Rat.divInt_nonneg_iff_of_pos_right (Int.mul_pos he hd)];omega
theorem dig_frG (q:Rat):(fr q).dig:=⟨xd0 xb3 _,xd0 xb3 _⟩
def gOk (K:Nat) (D B:Int) (v:Va):Prop:=(v.valid=true∧v.kind=K∧v.i=0∧v.f=fr v.f.rat∧short v.f.rat)∧v.f.rat=Rat.divInt (wt D v) D∧ -B≤wt D v∧wt D v≤B
theorem gOk.dig {K:Nat} {D B:Int} {v:Va} (h:gOk K D B v):v.f.dig:=by rw [h.1.2.2.2.1];exact dig_frG _
theorem gOk.mk {K:Nat} {D B k:Int} (hK:K=2∨K=3) (hD:0 < D) (hDb:D≤9223372036854775807) (h1: -B≤k) (h2:k≤B) (hB:B≤9223372036854775807):gOk K D B ⟨K,fr (Rat.divInt k D),0⟩:=by
 have hs:short (Rat.divInt k D):=xp1 hD (by omega) (by omega) hDb
 have hw:wt D ⟨K,fr (Rat.divInt k D),0⟩=k:=wt_is hD (rat_fr _)
 refine ⟨⟨?_,rfl,rfl,by rw [rat_fr],by rw [rat_fr];exact hs⟩,?_,?_,?_⟩
 ·rw [Va.valid,if_pos hK]
  simp only [Bool.and_eq_true,decide_eq_true_eq]
  exact ⟨trivial,valid_fr hs⟩
 ·rw [hw];exact rat_fr _
 ·rw [hw];exact h1
 ·rw [hw];exact h2
def isG (K:Nat) (D B:Int) (l:List Tst):Prop:=tRight l=true∧ ∀s∈l,gOk K D B s.v
section
variable {K:Nat} {D B:Int} {l a b:List Tst}
theorem isG.dig (h:isG K D B l): ∀s∈l,s.v.f.dig:=fun s hs=>(h.2 s hs).dig
theorem isG.asc (h:isG K D B l):ascT l:=tRight_asc h.1
theorem isG.nb (h:isG K D B l):nbT l:=tRight_nb h.1
theorem isG_nil:isG K D B []:=⟨rfl,fun s hs=>by cases hs⟩
theorem isG_of (h:ascT l) (hn:nbT l) (hv: ∀s∈l,(0≤s.lo∧s.hi≤65536)∧gOk K D B s.v):isG K D B l:=
 ⟨right_of (K:=K) h hn fun s hs=>⟨(hv s hs).1.1,(hv s hs).1.2,(hv s hs).2.1.1,(hv s hs).2.1.2.1⟩,fun s hs=>(hv s hs).2⟩
theorem isG_pst {ps:List Tst} (hp:ps.Pairwise fun s t=>s.lo < s.hi→s.hi≤t.lo) (hv: ∀s∈ps,s.lo < s.hi→(0≤s.lo∧s.hi≤65536)∧gOk K D B s.v):isG K D B (pst [] ps):=by
 have h:=pst_val ps [] ⟨fun s hs=>(by cases hs),.nil⟩ trivial hp fun x hx=>by cases hx
 exact isG_of h.1 h.2.1 (pst_all (P:=fun s=>(0≤s.lo∧s.hi≤65536)∧gOk K D B s.v) (fun x s hx hs e=>⟨⟨hx.1.1,hs.1.2⟩,hx.2⟩) _ _ (fun s hs=>by cases hs) hv)
theorem segL_mem {g:Int→Option Va}: ∀{ds:List Int} {s:Tst},s∈segL g ds→s.lo∈ds∧s.hi∈ds∧g s.lo=some s.v
 | [],s,h=>by cases h
 | [x],s,h=>by cases h
 | x::y::r,s,h=>by
  rw [segL] at h
  rcases List.mem_append.1 h with h | h
  ·cases hg:g x with
   | none=>rw [hg] at h;cases h
   | some v=>
    rw [hg] at h
    rw [List.mem_singleton.1 h]
    exact ⟨by simp,by simp,hg⟩
  ·have:=segL_mem h
   exact ⟨List.mem_cons_of_mem _ this.1,List.mem_cons_of_mem _ this.2.1,this.2.2⟩
end
def bd (l:List Sn) (i:Nat):Int:=if i%2=0 then (l.getD (i / 2) sn0).lo else (l.getD (i / 2) sn0).hi
theorem bd_succ {l:List Sn} {i:Nat} (h:sVal l=true) (hi:i+1 < 2*l.length):bd l i < bd l (i+1):=by
 rcases Nat.mod_two_eq_zero_or_one i with h0 | h0
 ·have:=xr4 h (i:=i / 2) (by omega)
  rw [bd,bd,if_pos h0,if_neg (by omega),show (i+1) / 2=i / 2 by omega];exact this.2.1
 ·have:=(xs2.1 (sVal_iff.1 h ((i+1) / 2) (by omega))).2.2.resolve_left (by omega)
  rw [bd,bd,if_neg (by omega),if_pos (by omega)]
  rw [show (i+1) / 2 - 1=i / 2 by omega] at this;exact this
theorem bd_lt {l:List Sn} (h:sVal l=true): ∀{j i:Nat},i < j→j < 2*l.length→bd l i < bd l j
 | j+1,i,hij,hj=>by
  have h1:=bd_succ h hj
  rcases Nat.lt_or_ge i j with h2 | h2
  ·have:=bd_lt h h2 (by omega);omega
  ·have:i=j:=by omega
   subst this;exact h1
def mem (l:List Sn) (d:Int):Bool:=l.any fun s=>decide (s.lo≤d) && decide (d < s.hi)
theorem mem_iff {l:List Sn} {d:Int}:mem l d=true↔ ∃s∈l,s.lo≤d∧d < s.hi:=by simp [mem]
theorem mem_no {l:List Sn} {d:Int}:mem l d=false↔ ∀s∈l,¬(s.lo≤d∧d < s.hi):=by
 rw [←Bool.not_eq_true,mem_iff];simp only [not_exists,not_and]
theorem mem_snoc {l:List Sn} {s:Sn} {d:Int}:mem (l++[s]) d=(mem l d || (decide (s.lo≤d) && decide (d < s.hi))):=by simp [mem]
theorem exists_getS {l:List Sn} {s:Sn} (hs:s∈l): ∃i,i < l.length∧s=l.getD i sn0:=by
 obtain ⟨i,hi,e⟩:=List.getElem_of_mem hs
 exact ⟨i,hi,by rw [List.getD_eq_getElem?_getD,List.getElem?_eq_getElem hi];exact e.symm⟩
theorem bd_even (l:List Sn) (p:Nat):bd l (2*p)=(l.getD p sn0).lo:=by rw [bd,if_pos (by omega),show 2*p / 2=p by omega]
theorem bd_odd (l:List Sn) (p:Nat):bd l (2*p+1)=(l.getD p sn0).hi:=by rw [bd,if_neg (by omega),show (2*p+1) / 2=p by omega]
theorem sVal_lt {l:List Sn} (h:sVal l=true) {i j:Nat} (hij:i < j) (hj:j < l.length):(l.getD i sn0).hi < (l.getD j sn0).lo:=by
 have:=bd_lt h (show 2*i+1 < 2*j by omega) (by omega)
 rwa [bd_odd,bd_even] at this
def setS (l:List Sn):Prop:=(∀s∈l,okS s)∧l.Pairwise fun s t=>s.hi < t.lo
theorem sVal_set {l:List Sn} (h:sVal l=true):setS l:=by
 refine ⟨fun s hs=> ?_,List.pairwise_iff_getElem.2 fun i j hi hj hij=> ?_⟩
 ·obtain ⟨i,hi,rfl⟩:=exists_getS hs
  exact xr4 h hi
 ·have:=sVal_lt h hij hj
  rwa [List.getD_eq_getElem?_getD,List.getD_eq_getElem?_getD,List.getElem?_eq_getElem hi,List.getElem?_eq_getElem hj] at this
theorem mem_cons {s:Sn} {r:List Sn} {d:Int}:mem (s::r) d=((decide (s.lo≤d) && decide (d < s.hi)) || mem r d):=by simp [mem]
theorem mem_low {s:Sn} {r:List Sn} {d:Int} (h:setS (s::r)) (hd:d≤s.hi):mem r d=false:=mem_no.2 fun t ht h'=>by
 have:=(List.pairwise_cons.1 h.2).1 t ht;omega
theorem set_ext: ∀{a b:List Sn},setS a→setS b→(∀d,mem a d=mem b d)→a=b
 | [],[],_,_,_=>rfl
 | [],t::u,_,hb,h=>by
  have h1:=hb.1 t (List.mem_cons_self ..)
  have h2:=h t.lo
  rw [mem_cons] at h2
  simp [mem,h1.2.1] at h2
 | s::r,[],ha,_,h=>by
  have h1:=ha.1 s (List.mem_cons_self ..)
  have h2:=h s.lo
  rw [mem_cons] at h2
  simp [mem,h1.2.1] at h2
 | s::r,t::u,ha,hb,h=>by
  have hs:=ha.1 s (List.mem_cons_self ..)
  have ht:=hb.1 t (List.mem_cons_self ..)
  have pa:=List.pairwise_cons.1 ha.2
  have pb:=List.pairwise_cons.1 hb.2
  have l1:t.lo≤s.lo:=by
   obtain ⟨x,hx,hx2⟩:=mem_iff.1 ((h s.lo).symm.trans (by rw [mem_cons];simp [hs.2.1]))
   rcases List.mem_cons.1 hx with rfl | hx
   ·exact hx2.1
   ·have:=pb.1 x hx;have:=ht.2.1;omega
  have l2:s.lo≤t.lo:=by
   obtain ⟨x,hx,hx2⟩:=mem_iff.1 ((h t.lo).trans (by rw [mem_cons];simp [ht.2.1]))
   rcases List.mem_cons.1 hx with rfl | hx
   ·exact hx2.1
   ·have:=pa.1 x hx;have:=hs.2.1;omega
  have l3:t.hi≤s.hi:=by
   rcases Int.lt_or_le s.hi t.hi with h1 | h1
   ·have h2:=h s.hi
    have:=hs.2.1
    rw [mem_cons,mem_cons,mem_low ha (Int.le_refl _)] at h2
    simp [h1,show t.lo≤s.hi by omega] at h2
   ·exact h1
  have l4:s.hi≤t.hi:=by
   rcases Int.lt_or_le t.hi s.hi with h1 | h1
   ·have h2:=h t.hi
    have:=ht.2.1
    rw [mem_cons,mem_cons,mem_low hb (Int.le_refl _)] at h2
    simp [h1,show s.lo≤t.hi by omega] at h2
   ·exact h1
  have est:s=t:=by
   obtain ⟨a1,a2⟩:=s;obtain ⟨b1,b2⟩:=t
   simp only at l1 l2 l3 l4
   rw [show a1=b1 by omega,show a2=b2 by omega]
  subst est
  congr 1
  refine set_ext ⟨fun x hx=>ha.1 x (List.mem_cons_of_mem _ hx),pa.2⟩ ⟨fun x hx=>hb.1 x (List.mem_cons_of_mem _ hx),pb.2⟩ fun d=> ?_
  rcases Int.lt_or_le d s.hi with h1 | h1
  ·rw [mem_low ha (by omega),mem_low hb (by omega)]
  ·have h2:=h d
   rw [mem_cons,mem_cons] at h2
   simpa [show ¬d < s.hi by omega] using h2
theorem set_same {a b:List Sn} (ha:sVal a=true) (hb:sVal b=true) (h: ∀d,mem a d=mem b d):a=b:=set_ext (sVal_set ha) (sVal_set hb) h
theorem mem_mrg {d:Int}: ∀(xs acc:List Sn),ascS xs→sVal acc=true→(0 < acc.length→ ∀s∈xs,(lastS acc).hi≤s.lo)→mem (xs.foldl mrg1 acc) d=(mem acc d || mem xs d)
 | [],acc,_,_,_=>by simp [mem]
 | s::r,acc,hx,hv,hl=>by
  have hs:=hx.1 s (List.mem_cons_self ..)
  have hp:=List.pairwise_cons.1 hx.2
  have hr:ascS r:=⟨fun t ht=>hx.1 t (List.mem_cons_of_mem _ ht),hp.2⟩
  have h1:=mrg_asc [s] acc ⟨fun t ht=>hx.1 t (by rw [List.mem_singleton.1 ht];exact List.mem_cons_self ..),List.pairwise_singleton ..⟩ hv fun h0 t ht=>hl h0 t (by rw [List.mem_singleton.1 ht];exact List.mem_cons_self ..)
  have key:mem (mrg1 acc s) d=(mem acc d || (decide (s.lo≤d) && decide (d < s.hi)))∧(lastS (mrg1 acc s)).hi=s.hi:=by
   rw [mrg1]
   split
   ·rename_i hm
    have h2:(lastS acc).hi=s.lo:=by have:=hl hm.1 s (List.mem_cons_self ..);have h2:s.lo≤(lastS acc).hi:=hm.2;omega
    have hmax:max (acc.getD (acc.length - 1) sn0).hi s.hi=s.hi:=by
     have h3:(acc.getD (acc.length - 1) sn0).hi=s.lo:=h2
     have:=hs.2.1;omega
    rw [hmax]
    refine ⟨?_,by rw [lastS,List.length_set,getD_setS (by omega),if_pos rfl]⟩
    rw [set_lastE hm.1,mem_snoc]
    have e3:mem acc d=(mem (acc.take (acc.length - 1)) d || (decide ((lastS acc).lo≤d) && decide (d < (lastS acc).hi))):=by rw [←mem_snoc,←split_last hm.1]
    rw [e3,h2]
    have h4:=xr4 hv (i:=acc.length - 1) (by omega)
    have h5:(lastS acc).lo < s.lo:=by rw [←h2];exact h4.2.1
    have h6:(acc.getD (acc.length - 1) sn0).lo=(lastS acc).lo:=rfl
    have:=hs.2.1
    dsimp only
    rw [h6,Bool.or_assoc]
    congr 1
    rw [Bool.eq_iff_iff];simp;omega
   ·rename_i hm
    exact ⟨mem_snoc,by rw [lastS,xt8,List.length_append,List.length_singleton,if_neg (by omega),if_pos (by omega)]⟩
  have ih:=mem_mrg (d:=d) r (mrg1 acc s) hr h1.1 fun _ t ht=>by rw [key.2];exact hp.1 t ht
  rw [List.foldl_cons,ih,key.1,mem_cons,Bool.or_assoc]
def spT (s:Tst):Sn:=⟨s.lo,s.hi⟩
def cvS (l:List Tst):List Sn:=l.map spT
theorem mkS_asc {l:List Sn} (h:ascS l):mkS l=mrg l:=by rw [mkS,ascS_pos h,ascS_srt h]
theorem mem_cvS {l:List Tst} {d:Int}:mem (cvS l) d=(valT l d).isSome:=by
 rw [Bool.eq_iff_iff,mem_iff]
 constructor
 ·rintro ⟨s,hs,h⟩
  obtain ⟨x,hx,rfl⟩:=List.mem_map.1 hs
  cases hv:valT l d with
  | some v=>rfl
  | none=>exact absurd h (xp3.1 hv x hx)
 ·intro h
  obtain ⟨v,hv⟩:=Option.isSome_iff_exists.1 h
  obtain ⟨s,hs,h2,_⟩:=valT_some hv
  exact ⟨spT s,List.mem_map_of_mem hs,h2⟩
theorem mk_set {l:List Sn} (h:ascS l):sVal (mkS l)=true∧ ∀d,mem (mkS l) d=mem l d:=by
 rw [mkS_asc h]
 have h1:=mrg_asc l [] h rfl fun h'=>by cases h'
 refine ⟨h1.1,fun d=> ?_⟩
 have:=mem_mrg (d:=d) l [] h rfl fun h'=>by cases h'
 rw [mrg,this];rfl
def jnC (a b:List Tst):Prop:=(tRight a=true∧tRight b=true)∧ ¬(0 < a.length∧0 < b.length∧(a.getD 0 tst0).v.kind≠(b.getD 0 tst0).v.kind)
instance (a b:List Tst):Decidable (jnC a b):=inferInstanceAs (Decidable (_∧_))
def gdf (a b:List Tst) (d:Int):Option Va:=if dfB a b d then some An.va0 else none
theorem dfK_map (a b:List Tst): ∀k,dfK a b k=cvS (segN (gdf a b) (bds [a,b]) k)
 | 0=>rfl
 | k+1=>by
  rw [dfK_next,xm9,cvS,List.map_append,←cvS,←dfK_map a b k]
  congr 1
  rw [dfI,segI,gdf]
  by_cases h:dfB a b ((bds [a,b]).getD k 0)=true
  ·rw [if_pos h,if_pos h];rfl
  ·rw [if_neg h,if_neg h];rfl
theorem dfT_map (a b:List Tst):dfT a b=cvS (segL (gdf a b) (bds [a,b])):=by rw [dfT,dfK_map,segL_N]
def dfS (a b:List Tst):List Sn:=mkS (dfT a b)
theorem bds_in {a b:List Tst} (ha:tRight a=true) (hb:tRight b=true) {x:Int} (hx:x∈bds [a,b]):0≤x∧x≤65536:=by
 obtain ⟨l,hl,s,hs,he⟩:=bds_mem.1 hx
 have:0≤s.lo∧s.lo < s.hi∧s.hi≤65536:=by
  rcases List.mem_cons.1 hl with rfl | hl
  ·obtain ⟨i,hi,rfl⟩:=xu8 hs
   have:=xp9 ha hi;omega
  ·rw [List.mem_singleton.1 hl] at hs
   obtain ⟨i,hi,rfl⟩:=xu8 hs
   have:=xp9 hb hi;omega
 omega
theorem dfT_asc {a b:List Tst} (ha:tRight a=true) (hb:tRight b=true):ascS (dfT a b):=by
 rw [dfT_map]
 have hp:=segL_pw (g:=gdf a b) (bds_pw (ls:=[a,b]))
 refine ⟨fun s hs=> ?_,hp.2.map spT fun s t hst=>hst⟩
 obtain ⟨x,hx,rfl⟩:=List.mem_map.1 hs
 have h1:=segL_mem hx
 have b1:=bds_in ha hb h1.1
 have b2:=bds_in ha hb h1.2.1
 exact ⟨b1.1,hp.1 x hx,b2.2⟩
theorem dfS_set {a b:List Tst} (ha:tRight a=true) (hb:tRight b=true):sVal (dfS a b)=true∧ ∀d,mem (dfS a b) d=dfB a b d:=by
 have:=mk_set (dfT_asc ha hb)
 refine ⟨this.1,fun d=> ?_⟩
 rw [dfS,this.2,dfT_map,mem_cvS,seg_all (a:=a) (b:=b) (fun d x h1 h2=>by rw [gdf,gdf,dfB,dfB,h1,h2]) (fun d h1 h2=>by rw [gdf,dfB,h1,h2];rfl) bds_pw (bds_ends (by simp)) (bds_ends (by simp)),gdf]
 cases dfB a b d <;> rfl
end An.S
namespace An
open Go
theorem BuI.array {P:Program} {T E len n:Nat} {agg:Bool} {z:Value} (hu:P.underlying T=some (.array len E)) (te:TyI P E n agg) (hz:(P.info? T).bind (·.zero)=some z):BuI P T (fun i=>some (i*n,n)) z:=by
 refine ⟨fun parts w cs hf=> ?_⟩
 simp only [Instr.build,Sem.run_bind,run_zero hz,Result.andThen_ok,run_underlying hu,te.size_run w]
 rw [hf]
 simp
section
variable {P:Program} {c:Base} {d ty:Nat} {pos:String} {af:Array Edge} {gd:Option (Nat×Bool)}
end
end An
namespace An.S
open Go Go.Proofs An
instance ti74:TyI Tryz.prog 74 1 false:=⟨by kernel_rfl,by kernel_rfl⟩
instance fi57:FnI Tryz.prog 57:=⟨_,Tryz.func57,by kernel_rfl,rfl⟩
instance fi67:FnI Tryz.prog 67:=⟨_,Tryz.func67,by kernel_rfl,rfl⟩
instance fi85:FnI Tryz.prog 85:=⟨_,Tryz.func85,by kernel_rfl,rfl⟩
instance fi139:FnI Tryz.prog 139:=⟨_,Tryz.func139,by kernel_rfl,rfl⟩
theorem zr74:(Tryz.prog.info? 74).bind (·.zero)=some (.slice none 0 0)∧ ∀F w,(tE (.slice none 0 0)).p F w (.slice none 0 0):=⟨by kernel_rfl,fun _ _=>rfl⟩
theorem not_none {o:Option Va} (h:(!o.isNone)=true): ∃v,o=some v:=by
 cases o with
 | none=>cases h
 | some v=>exact ⟨v,rfl⟩
theorem dfK_eq {a b:List Tst} {k:Nat} (h:valT a ((bds [a,b]).getD k 0)=valT b ((bds [a,b]).getD k 0)):dfK a b (k+1)=dfK a b k:=by
 rw [dfK_next,dfI,if_neg (by rw [dfB,h];simp),List.append_nil]
theorem dfK_ne {a b:List Tst} {k:Nat} (h:valT a ((bds [a,b]).getD k 0)≠valT b ((bds [a,b]).getD k 0)):dfK a b (k+1)=dfK a b k++[⟨(bds [a,b]).getD k 0,(bds [a,b]).getD (k+1) 0⟩]:=by
 rw [dfK_next,dfI,if_pos (by rw [dfB];simpa using h)]
theorem some_of {o:Option Va} (h:o.isNone=false): ∃v,o=some v:=not_none (by rw [h];rfl)
theorem c_TDiff (a b:List Tst) (hla:a.length≤200000) (hlb:b.length≤200000) (hDa: ∀s∈a,s.v.f.dig) (hDb: ∀s∈b,s.v.f.dig):
  Ct Tryz.prog 51 [tL 8 true tTs a,tL 8 true tTs b] (tT [tL 2 true tSn (if tRight a=true∧tRight b=true then dfS a b else []),tI (if tRight a=true∧tRight b=true then 0 else 2)]):=by
 refine Ct.intro Tryz.func51 rfl Tryz.ntmps51 rfl ?_
 intro w F
 refine A10 ?_
 refine R1 (x3 (c_TRight a hDa) fi37 rfl) rfl ?_
 refine A2 ?_
 refine RGcase (t:=12) rfl (fun h223=> ?_) (fun h223=> ?_)
 ·
  refine A15 ?_
  exact xd7 Plain.mk' rfl rfl rfl (leNil (by rw [if_neg fun h=>by rw [h.1] at h223;cases h223])) (Le.int (by rw [if_neg fun h=>by rw [h.1] at h223;cases h223]))
 ·
  refine A1 ?_
  refine RGon h223 rfl (x3 (c_TRight b hDb) fi37 rfl) rfl ⟨rfl,trivial⟩ trivial trivial ?_
  refine A4 ?_
  refine xc0 rfl (fun h223_2=> ?_) (fun h223_2=> ?_)
  ·
   refine A8 ?_
   exact xd7 Plain.mk' rfl rfl rfl (leNil (by rw [if_neg fun h=>by rw [h.2] at h223_2;cases h223_2])) (Le.int (by rw [if_neg fun h=>by rw [h.2] at h223_2;cases h223_2]))
  ·
   refine A4 ?_
   refine RE (xa1 (k:=6) (n:=1) (agg:=false) zr74.1 zr74.2 rfl) trivial trivial ⟨rfl,trivial⟩ ?_
   refine A4 ?_
   have hok:tRight a=true∧tRight b=true:=⟨by simpa using h223,by simpa using h223_2⟩
   refine C_nilC (q:=6) 60 106 2 true 0 rfl rfl rfl rfl (fun h=>by cases h) rfl rfl ?_
   refine A3 ?_
   refine RE (xa5 (fun j=>cond (Nat.beq j 2) 19 (1019)) (c_together a b) fi85 rfl (krN (ρ:=fun j=>cond (Nat.beq j 2) 19 (1019))) (krC (ρ:=fun j=>cond (Nat.beq j 2) 19 (1019)) (k:=2) rfl (krC (ρ:=fun j=>cond (Nat.beq j 2) 19 (1019)) (k:=3) rfl (krN (ρ:=fun j=>cond (Nat.beq j 2) 19 (1019))))) ⟨⟨rfl,(SupX.lit rfl)⟩,⟨rfl,(SupX.lit rfl)⟩,trivial⟩ rfl) ⟨rfl,rfl,trivial⟩ trivial ⟨rfl,rfl,trivial⟩ ?_
   refine A3 ?_
   refine C_range (caps:=[.ptr 1 0,.ptr 2 0]) (κ:=Empty) (fun j=>cond (Nat.beq j 2) 1019 (cond (Nat.beq j 1) 19 (j))) rfl (fun _ h=>h) trivial (i_together a b (tRight_asc hok.1) (tRight_asc hok.2) hla hlb) fi139 rfl ⟨rfl,rfl,trivial⟩ rfl rfl (fun _ _=>rfl) (upd (fun _=>none) 6 (some (.own (.ptr 6 0)))) [6,60] [6] (Sub.cons rfl Sub.nil) (SupG.own rfl SupG.nil) rfl (lkOk rfl) (fun (k:Nat) (xs:List Sn)=>xs=dfK a b k∧xs.length≤k) (fun (k:Nat) (xs:List Sn)=>upd (upd (fun _=>none) 6 (some (⟨74,1,false,[.own (.sl 60 2 0 xs.length)]⟩))) 60 (some (⟨106,2,true,rV tSn xs⟩))) (fun k x=>(SupH.cons rfl (supJ x9) (SupH.cons rfl (supJL rfl) SupH.nil))) (fun k x y hy=>by simp only [List.mem_cons,List.not_mem_nil,or_false] at hy;rcases hy with rfl | rfl <;> rfl) (fun _ _=>False) (fun i=>i.elim) (fun _ _ h=>h.elim) ([]) ⟨rfl,Nat.le_refl _⟩ ((SubK.consI rfl ImpK.refl) ((SubK.consI rfl ImpK.refl) SubK.nil)) ?_ ?_ ?_
   ·
    intro D lp o1 o2 O W lη lb V0 k xs hk hI
    obtain ⟨hx,hxl⟩:=hI
    have hdl:=bds_len (ls:=[a,b])
    have htl:tlen [a,b]≤400000:=by simp [tlen];omega
    apply rnd_mk
    ·
     refine A2 ?_
     refine RE (xa1 (k:=7) (n:=2) (agg:=true) zr106.1 zr106.2 rfl) trivial trivial ⟨rfl,trivial⟩ ?_
     refine A4 ?_
     refine RE (xa1 (k:=8) (n:=2) (agg:=true) zr145.1 zr145.2 rfl) trivial trivial ⟨rfl,trivial⟩ ?_
     refine A2 ?_
     exact K_thenF fun _ _ h=>h
    ·
     refine A6 ?_
     refine R1 (d_eqlNil Tryz.underlying143) rfl ?_
     refine A1 ?_
     refine RGcase (t:=25) rfl (fun h228=> ?_) (fun h228=> ?_)
     ·
      refine A2 ?_
      refine RGon h228 rfl (d_eqlNil Tryz.underlying143) rfl ⟨rfl,trivial⟩ trivial trivial ?_
      refine A2 ?_
      refine RGcase (t:=30) rfl (fun h228_2=> ?_) (fun h228_2=> ?_)
      ·
       refine A18 ?_
       refine A8 ?_
       exact K_rnd (xs) ⟨by rw [dfK_eq (by rw [Option.isNone_iff_eq_none.1 h228,Option.isNone_iff_eq_none.1 h228_2])];exact hx,by omega⟩ ((SubK.consI rfl ImpK.refl) ((SubK.consI rfl ImpK.refl) SubK.nil)) (SupH.cons rfl (supJ x9) (SupH.cons rfl (supJL rfl) SupH.nil)) (lkOk rfl)
      ·
       refine A2 ?_
       refine RGon h228_2 rfl (d_neqNil Tryz.underlying143) rfl ⟨rfl,trivial⟩ trivial trivial ?_
       refine A1 ?_
       refine RGoff (by exact congrArg Bool.not h228) rfl rfl (RGoff (by exact congrArg Bool.not h228) rfl rfl (RGoff (by exact congrArg Bool.not h228) rfl rfl (RGon h228_2 rfl (xg6 (by exact congrArg Bool.not h228)) rfl ⟨rfl,rfl,trivial⟩ trivial trivial ?_)))
       refine A10 ?_
       refine RGon h228_2 rfl (xg6 rfl) rfl ⟨rfl,rfl,trivial⟩ trivial trivial ?_
       refine A7 ?_
       refine RE (xa6 (ts:=[.own (.sl 60 2 0 xs.length)]) (0) ti74 rfl rfl) ⟨rfl,trivial⟩ ⟨rfl,trivial⟩ trivial ?_
       refine A1 ?_
       refine R1 (xb0 (n:=1) (f:=tSn) [(⟨((bds [a,b]).getD k 0),((bds [a,b]).getD (k+1) 0)⟩:Sn)] Tryz.underlying74 el106 zf106 rfl (fun _=>inferInstance) rfl rfl rfl) rfl (RE (xb6 (k:=60) (k':=54) (f:=tSn) (ys:=[(⟨((bds [a,b]).getD k 0),((bds [a,b]).getD (k+1) 0)⟩:Sn)]) (ts':=rV tSn (xs++[(⟨((bds [a,b]).getD k 0),((bds [a,b]).getD (k+1) 0)⟩:Sn)])) Tryz.underlying74 el106 zf106 rfl rfl (fun _=>inferInstance) xc6 (by simp;omega) (by simp;omega) (by simp [rV]) (n':=xs.length+1) rfl) ⟨rfl,rfl,trivial⟩ ⟨rfl,trivial⟩ ⟨rfl,trivial⟩ (RE (xb2 (es:=1) (agg:=false) (e:= .own (.sl 54 2 0 (xs.length+1))) (0) ti74 rfl rfl rfl) ⟨rfl,rfl,trivial⟩ ⟨rfl,trivial⟩ trivial ?_))
       refine A2 ?_
       exact K_ren (g':=fun _=>none) [6,60] (fun j=>cond (Nat.beq j 60) 54 (j)) SubR.nil ((SubKR.consI rfl (ImpK.of xa2.symm)) ((SubKR.consI rfl (ImpK.of (by rw [List.length_append];rfl))) SubKR.nil)) SupG.nil (SupH.cons rfl (supJ x9) (SupH.cons rfl (supJL rfl) SupH.nil)) (lkOk rfl) rfl rfl (fun _ h=>by cases h) (K_rnd ((xs++[(⟨((bds [a,b]).getD k 0),((bds [a,b]).getD (k+1) 0)⟩:Sn)])) ⟨by rw [dfK_ne (fun e=>by rw [e,h228_2] at h228;cases h228),←hx],by rw [List.length_append];simp;omega⟩ SubK.refl (SupH.cons rfl (supJ x9) (SupH.cons rfl (supJL rfl) SupH.nil)) (lkOk rfl))
     ·
      refine A7 ?_
      refine RGon rfl rfl (d_neqNil Tryz.underlying143) rfl ⟨rfl,trivial⟩ trivial trivial ?_
      refine A1 ?_
      refine RGon (by exact congrArg Bool.not h228) rfl (xi0 fo145_1.h rfl) rfl ⟨rfl,trivial⟩ trivial trivial (xe3 (by exact congrArg Bool.not h228) rfl rfl (0) ti143 rfl rfl rfl (At.g 1 rfl rfl) rfl (RGon (by exact congrArg Bool.not h228) rfl (d_neqNil Tryz.underlying143) rfl ⟨rfl,trivial⟩ trivial trivial (RGon rfl rfl (xi9 (by exact congrArg Bool.not h228)) rfl ⟨rfl,rfl,trivial⟩ trivial trivial ?_)))
      refine A1 ?_
      refine RGcase (t:=39) rfl (fun h228_3=> ?_) (fun h228_3=> ?_)
      ·
       obtain ⟨u,hu⟩:=some_of h228
       obtain ⟨v,hv⟩:=not_none h228_3
       refine A2 ?_
       refine RGon h228_3 rfl (xo9 hu) rfl ⟨rfl,trivial⟩ trivial trivial ?_
       refine A3 ?_
       refine RGon h228_3 rfl (xo9 hv) rfl ⟨rfl,trivial⟩ trivial trivial ?_
       refine A1 ?_
       refine RGon h228_3 rfl (x3 (c_TSame _ _) fi74 rfl) rfl ⟨rfl,rfl,trivial⟩ trivial trivial (RGon rfl rfl (xi9 h228_3) rfl ⟨rfl,rfl,trivial⟩ trivial trivial ?_)
       refine A3 ?_
       refine x5 rfl (fun h228_4=> ?_) (fun h228_4=> ?_)
       ·
        refine A3 ?_
        exact K_rnd (xs) ⟨by rw [dfK_eq (by rw [hu,hv,h228_4])];exact hx,by omega⟩ ((SubK.consI rfl ImpK.refl) ((SubK.consI rfl ImpK.refl) SubK.nil)) (SupH.cons rfl (supJ x9) (SupH.cons rfl (supJL rfl) SupH.nil)) (lkOk rfl)
       ·
        refine A3 ?_
        refine RE (xa6 (ts:=[.own (.sl 60 2 0 xs.length)]) (0) ti74 rfl rfl) ⟨rfl,trivial⟩ ⟨rfl,trivial⟩ trivial ?_
        refine A1 ?_
        refine R1 (xb0 (n:=1) (f:=tSn) [(⟨((bds [a,b]).getD k 0),((bds [a,b]).getD (k+1) 0)⟩:Sn)] Tryz.underlying74 el106 zf106 rfl (fun _=>inferInstance) rfl rfl rfl) rfl (RE (xb6 (k:=60) (k':=54) (f:=tSn) (ys:=[(⟨((bds [a,b]).getD k 0),((bds [a,b]).getD (k+1) 0)⟩:Sn)]) (ts':=rV tSn (xs++[(⟨((bds [a,b]).getD k 0),((bds [a,b]).getD (k+1) 0)⟩:Sn)])) Tryz.underlying74 el106 zf106 rfl rfl (fun _=>inferInstance) xc6 (by simp;omega) (by simp;omega) (by simp [rV]) (n':=xs.length+1) rfl) ⟨rfl,rfl,trivial⟩ ⟨rfl,trivial⟩ ⟨rfl,trivial⟩ (RE (xb2 (es:=1) (agg:=false) (e:= .own (.sl 54 2 0 (xs.length+1))) (0) ti74 rfl rfl rfl) ⟨rfl,rfl,trivial⟩ ⟨rfl,trivial⟩ trivial ?_))
        refine A2 ?_
        exact K_ren (g':=fun _=>none) [6,60] (fun j=>cond (Nat.beq j 60) 54 (j)) SubR.nil ((SubKR.consI rfl (ImpK.of xa2.symm)) ((SubKR.consI rfl (ImpK.of (by rw [List.length_append];rfl))) SubKR.nil)) SupG.nil (SupH.cons rfl (supJ x9) (SupH.cons rfl (supJL rfl) SupH.nil)) (lkOk rfl) rfl rfl (fun _ h=>by cases h) (K_rnd ((xs++[(⟨((bds [a,b]).getD k 0),((bds [a,b]).getD (k+1) 0)⟩:Sn)])) ⟨by rw [dfK_ne (fun e=>by rw [hu,hv] at e;exact h228_4 (Option.some.inj e)),←hx],by rw [List.length_append];simp;omega⟩ SubK.refl (SupH.cons rfl (supJ x9) (SupH.cons rfl (supJL rfl) SupH.nil)) (lkOk rfl))
      ·
       refine A9 ?_
       refine RGon rfl rfl (xg6 h228_3) rfl ⟨rfl,rfl,trivial⟩ trivial trivial ?_
       refine A7 ?_
       refine RE (xa6 (ts:=[.own (.sl 60 2 0 xs.length)]) (0) ti74 rfl rfl) ⟨rfl,trivial⟩ ⟨rfl,trivial⟩ trivial ?_
       refine A1 ?_
       refine R1 (xb0 (n:=1) (f:=tSn) [(⟨((bds [a,b]).getD k 0),((bds [a,b]).getD (k+1) 0)⟩:Sn)] Tryz.underlying74 el106 zf106 rfl (fun _=>inferInstance) rfl rfl rfl) rfl (RE (xb6 (k:=60) (k':=54) (f:=tSn) (ys:=[(⟨((bds [a,b]).getD k 0),((bds [a,b]).getD (k+1) 0)⟩:Sn)]) (ts':=rV tSn (xs++[(⟨((bds [a,b]).getD k 0),((bds [a,b]).getD (k+1) 0)⟩:Sn)])) Tryz.underlying74 el106 zf106 rfl rfl (fun _=>inferInstance) xc6 (by simp;omega) (by simp;omega) (by simp [rV]) (n':=xs.length+1) rfl) ⟨rfl,rfl,trivial⟩ ⟨rfl,trivial⟩ ⟨rfl,trivial⟩ (RE (xb2 (es:=1) (agg:=false) (e:= .own (.sl 54 2 0 (xs.length+1))) (0) ti74 rfl rfl rfl) ⟨rfl,rfl,trivial⟩ ⟨rfl,trivial⟩ trivial ?_))
       refine A2 ?_
       exact K_ren (g':=fun _=>none) [6,60] (fun j=>cond (Nat.beq j 60) 54 (j)) SubR.nil ((SubKR.consI rfl (ImpK.of xa2.symm)) ((SubKR.consI rfl (ImpK.of (by rw [List.length_append];rfl))) SubKR.nil)) SupG.nil (SupH.cons rfl (supJ x9) (SupH.cons rfl (supJL rfl) SupH.nil)) (lkOk rfl) rfl rfl (fun _ h=>by cases h) (K_rnd ((xs++[(⟨((bds [a,b]).getD k 0),((bds [a,b]).getD (k+1) 0)⟩:Sn)])) ⟨by rw [dfK_ne (fun e=>by rw [←e,h228] at h228_3;cases h228_3),←hx],by rw [List.length_append];simp;omega⟩ SubK.refl (SupH.cons rfl (supJ x9) (SupH.cons rfl (supJL rfl) SupH.nil)) (lkOk rfl))
   ·
    intro D hD xs hI
    obtain ⟨hx,hxl⟩:=hI
    have hdl:=bds_len (ls:=[a,b])
    have htl:tlen [a,b]≤400000:=by simp [tlen];omega
    have hx:xs=dfT a b:=hx
    have hall:=ascS_ok (dfT_asc hok.1 hok.2)
    refine A4 ?_
    refine RE (Does.giveL (k:=60) (es:=2) (off:=0) (len:=xs.length) (xs:=xs) (f:=tSn) (ts:=rV tSn xs) (xa6 (ts:=[.own (.sl 60 2 0 xs.length)]) (0) ti74 rfl rfl) (fun _ h=>h) (xf4 rfl) rfl) ⟨rfl,trivial⟩ ⟨rfl,rfl,trivial⟩ trivial (R1 (x3 (c_SnMake xs (by omega)) fi67 rfl) rfl ?_)
    refine A7 ?_
    exact xd7 (Plain.loop Plain.mk' hD) rfl rfl rfl (Le.of (by rw [if_pos hok,hx,if_pos hall];rfl)) (Le.int (by rw [if_pos hok,hx,if_pos hall]))
   ·
    intro D hD e i;exact i.elim
end An.S
namespace An
open Go
theorem off_mapV {α:Type} {es:Nat} {agg:Bool} {f:α→Ty}: ∀(l:List α) (i:Nat),i < l.length→Fd.off (l.map fun x=>⟨es,agg,f x⟩) i=i*es
 | [],i,h=>by simp at h
 | _::r,0,_=>by simp [Fd.off]
 | _::r,i+1,h=>by
  rw [List.map_cons,Fd.off,off_mapV r i (by simpa using h),Nat.succ_mul]
  exact Nat.add_comm _ _
theorem At.row {α:Type} {es:Nat} {agg:Bool} {f:α→Ty} {l:List α} {i:Nat} (d:α) (hi:i < l.length):At (tS (l.map fun x=>⟨es,agg,f x⟩)) (i*es) es agg (f (l.getD i d)):=
 At.f i (f:=⟨es,agg,f (l.getD i d)⟩) (by rw [List.getElem?_map,gD (d:=d) hi];rfl) (off_mapV l i hi)
section
variable {P:Program} {c:Base} {d ty:Nat} {pos:String} {af:Array Edge} {gd:Option (Nat×Bool)}
theorem run_part {E es:Nat} {agg:Bool} (t:TyI P E es agg) {cs:Array Value} {o:Nat} (ho:o+es≤cs.size) (h1:agg=false→es=1) (w:World):(part E cs o).run P w= .ok (pick agg es cs o) w:=by
 simp only [part,Sem.run_bind,t.agg_run w,Result.andThen_ok]
 cases agg with
 | true=>simp only [↓reduceIte,Sem.run_bind,t.size_run w,Result.andThen_ok,Sem.run_pure,pick,cond_true]
 | false=>
  have:=h1 rfl
  simp only [Bool.false_eq_true,↓reduceIte,pick,cond_false]
  rw [Array.getD_eq_getD_getElem?,Array.getElem?_eq_getElem (show o < cs.size by omega)]
  rfl
theorem d_indexV {T E es len:Nat} {agg:Bool} {k:IntKind} {x y:Operand} {t t':Ty} {v:Int} (hT:P.underlying T=some (.array len E)) (ti:TyI P E es agg) (i:Nat) (hv:v=(i:Int)) (hi:i < len) (hat:At t (i*es) es agg t'):
  Does P c ⟨some d,.index T x y,ty,pos,af,gd⟩ ⟨[(x,.val t),(y,.val (tE (.int k v)))],[],some (d,some (.val t')),[],[]⟩:=
 Does.value rfl fun g h al a w η hrd _ s=>by
  subst hv
  obtain ⟨cs,h1,h2,h3,h4⟩:=hat _ _ _ (xa3 s hrd.1).1
  have h5:a.eval y= .int k (i:Int):=(xa3 s hrd.2.1).1
  refine ⟨_,w,?_,Ext.refl w,h3,fun j hj=>by cases hj⟩
  simp only [execOp,h1,h5,Instr.index,asIntOf,Sem.run_bind,Sem.run_pure,run_underlying hT,Result.andThen_ok]
  rw [if_pos ⟨by omega,by omega⟩]
  simp only [Sem.run_bind,ti.size_run w,Result.andThen_ok]
  rw [Int.toNat_natCast,run_part ti h2 h4 w];rfl
end
end An
namespace An.S
open Go Go.Proofs An
instance fi47:FnI Tryz.prog 47:=⟨_,Tryz.func47,by kernel_rfl,rfl⟩
instance fi82:FnI Tryz.prog 82:=⟨_,Tryz.func82,by kernel_rfl,rfl⟩
theorem c_SameStep (x y:Tst):
  Ct Tryz.prog 47 [tTs x,tTs y] (tB (decide (x=y))):=by
 refine Ct.intro Tryz.func47 rfl Tryz.ntmps47 rfl ?_
 intro w F
 refine A15 ?_
 refine RGcaseD (t:=10) rfl (fun h196=> ?_) (fun h196=> ?_)
 ·
  refine A7 ?_
  refine RGcaseD (t:=17) rfl (fun h196_2=> ?_) (fun h196_2=> ?_)
  ·
   refine A4 ?_
   refine RGon (decide_eq_true h196_2) rfl (x3 (c_SameValue _ _) fi82 rfl) rfl ⟨rfl,rfl,trivial⟩ trivial trivial ?_
   refine A5 ?_
   exact x4 Plain.mk' rfl rfl (Le.bool (by obtain ⟨a,b,e⟩:=x;obtain ⟨c,d,f⟩:=y;simp only [Tst.mk.injEq] at*;simp_all <;> omega))
  ·
   refine A10 ?_
   exact x4 Plain.mk' rfl rfl (Le.bool (by obtain ⟨a,b,e⟩:=x;obtain ⟨c,d,f⟩:=y;simp only [Tst.mk.injEq] at*;simp_all <;> omega))
 ·
  refine A17 ?_
  exact x4 Plain.mk' rfl rfl (Le.bool (by obtain ⟨a,b,e⟩:=x;obtain ⟨c,d,f⟩:=y;simp only [Tst.mk.injEq] at*;simp_all <;> omega))
theorem xv5 (l:List Tst) (k:Nat) (hk:k < l.length):l.take (k+1)=l.take k++[l.getD k tst0]:=by
 rw [List.take_succ_eq_append_getElem hk,List.getD_eq_getElem?_getD,List.getElem?_eq_getElem hk];rfl
theorem xv3 (l:List Int) (k:Nat) (hk:k < l.length):l.take (k+1)=l.take k++[l.getD k 0]:=by
 rw [List.take_succ_eq_append_getElem hk,List.getD_eq_getElem?_getD,List.getElem?_eq_getElem hk];rfl
theorem c_SameSteps (xs ys:List Tst):
  Ct Tryz.prog 16 [tL 8 true tTs xs,tL 8 true tTs ys] (tB (decide (xs=ys))):=by
 refine Ct.intro Tryz.func16 rfl Tryz.ntmps16 rfl ?_
 intro w F
 refine xh5 (s:=0) rfl (fun hl0=> ?_)
 refine A15 ?_
 refine x5 rfl (fun h206=> ?_) (fun h206=> ?_)
 ·
  refine A7 ?_
  exact x4 Plain.mk' rfl rfl (Le.bool (decide_eq_false (fun h=>by rw [h] at h206;omega)).symm)
 ·
  have hll:xs.length=ys.length:=by omega
  refine A9 ?_
  refine cL (fun (i:Nat)=>i≤xs.length∧xs.take i=ys.take i) (fun (i:Nat)=>upd (upd (upd (fun _=>none) 0 (some (.val (tL 8 true tTs xs)))) 1 (some (.val (tL 8 true tTs ys)))) 5 (some (.val (tI i)))) (fun (i:Nat)=>fun _=>none) [] (fun (i:Nat)=>xs.length - i) (0) ⟨Nat.zero_le _,rfl⟩ ?_
  intro i hI
  obtain ⟨hi,ht⟩:=hI
  refine A9 ?_
  refine x5 rfl (fun h209=> ?_) (fun h209=> ?_)
  ·
   refine A8 ?_
   refine R2 (x8 sl37 i (by omega) (gD (d:=tst0) (by omega))) rfl rfl ?_
   refine A3 ?_
   refine R2 (x8 sl37 i (by omega) (gD (d:=tst0) (by omega))) rfl rfl ?_
   refine A1 ?_
   refine R2 (x3 (c_SameStep _ _) fi47 rfl) rfl rfl ?_
   refine A3 ?_
   refine C_ifn rfl (fun h210=> ?_) (fun h210=> ?_)
   ·
    refine A11 ?_
    exact x4 Plain.mk' rfl rfl (Le.bool (decide_eq_false (fun h=>by rw [h] at h210;exact (h210 rfl))).symm)
   ·
    refine A8 ?_
    exact kF (i+1) ⟨⟨by omega,by rw [xv5 xs i (by omega),xv5 ys i (by omega),ht,show xs.getD i tst0=ys.getD i tst0 from h210]⟩,(by omega)⟩
  ·
   refine A11 ?_
   exact x4 Plain.mk' rfl rfl (Le.bool (decide_eq_true (by rw [show i=xs.length by omega,List.take_length,hll,List.take_length] at ht;exact ht)).symm)
theorem c_SameInts (xs ys:List Int):
  Ct Tryz.prog 39 [tL 1 false tI xs,tL 1 false tI ys] (tB (decide (xs=ys))):=by
 refine Ct.intro Tryz.func39 rfl Tryz.ntmps39 rfl ?_
 intro w F
 refine xh5 (s:=0) rfl (fun hl0=> ?_)
 refine A15 ?_
 refine x5 rfl (fun h27=> ?_) (fun h27=> ?_)
 ·
  refine A7 ?_
  exact x4 Plain.mk' rfl rfl (Le.bool (decide_eq_false (fun h=>by rw [h] at h27;omega)).symm)
 ·
  have hll:xs.length=ys.length:=by omega
  refine A9 ?_
  refine cL (fun (i:Nat)=>i≤xs.length∧xs.take i=ys.take i) (fun (i:Nat)=>upd (upd (upd (fun _=>none) 0 (some (.val (tL 1 false tI xs)))) 1 (some (.val (tL 1 false tI ys)))) 5 (some (.val (tI i)))) (fun (i:Nat)=>fun _=>none) [] (fun (i:Nat)=>xs.length - i) (0) ⟨Nat.zero_le _,rfl⟩ ?_
  intro i hI
  obtain ⟨hi,ht⟩:=hI
  refine A9 ?_
  refine x5 rfl (fun h30=> ?_) (fun h30=> ?_)
  ·
   refine A8 ?_
   refine R2 (x8 sl42 i (by omega) (gD (d:=0) (by omega))) rfl rfl ?_
   refine A3 ?_
   refine R2 (x8 sl42 i (by omega) (gD (d:=0) (by omega))) rfl rfl ?_
   refine A4 ?_
   refine x5 rfl (fun h31=> ?_) (fun h31=> ?_)
   ·
    refine A11 ?_
    exact x4 Plain.mk' rfl rfl (Le.bool (decide_eq_false (fun h=>by rw [h] at h31;exact (h31 rfl))).symm)
   ·
    refine A8 ?_
    exact kF (i+1) ⟨⟨by omega,by rw [xv3 xs i (by omega),xv3 ys i (by omega),ht,show xs.getD i 0=ys.getD i 0 from (Decidable.of_not_not h31)]⟩,(by omega)⟩
  ·
   refine A11 ?_
   exact x4 Plain.mk' rfl rfl (Le.bool (decide_eq_true (by rw [show i=xs.length by omega,List.take_length,hll,List.take_length] at ht;exact ht)).symm)
end An.S
namespace An
section
variable {α:Type} {k:α→Int}
def Sbl (k:α→Int) (xs ys:List α):Prop:= ∀v,xs.filter (fun x=>decide (k x=v))=ys.filter (fun x=>decide (k x=v))
theorem Sbl.refl (xs:List α):Sbl k xs xs:=fun _=>rfl
theorem Sbl.symm {xs ys:List α} (h:Sbl k xs ys):Sbl k ys xs:=fun v=>(h v).symm
theorem Sbl.trans {xs ys zs:List α} (h:Sbl k xs ys) (g:Sbl k ys zs):Sbl k xs zs:=fun v=>(h v).trans (g v)
theorem Sbl.app {a b c d:List α} (h:Sbl k a b) (g:Sbl k c d):Sbl k (a++c) (b++d):=fun v=>by rw [List.filter_append,List.filter_append,h v,g v]
theorem Sbl.swap {u v:List α} (h: ∀a∈u,∀b∈v,k a≠k b):Sbl k (u++v) (v++u):=fun z=>by
 rw [List.filter_append,List.filter_append]
 by_cases hu:u.filter (fun x=>decide (k x=z))=[]
 ·rw [hu];simp
 ·have hv:v.filter (fun x=>decide (k x=z))=[]:=List.filter_eq_nil_iff.2 fun b hb hbz=>by
   obtain ⟨a,ha⟩:=List.exists_mem_of_ne_nil _ hu
   obtain ⟨h1,h2⟩:=List.mem_filter.1 ha
   exact h a h1 b hb ((of_decide_eq_true h2).trans (of_decide_eq_true hbz).symm)
  rw [hv];simp
theorem Sbl.mem {xs ys:List α} (h:Sbl k xs ys) {x:α}:x∈xs↔x∈ys:=by
 have h1:=h (k x)
 have e: ∀l:List α,x∈l↔x∈l.filter (fun y=>decide (k y=k x)):=fun l=>by simp
 rw [e xs,e ys,h1]
theorem Sbl.tail {x:α} {xs ys:List α} (h:Sbl k (x::xs) (x::ys)):Sbl k xs ys:=fun v=>by
 have:=h v
 rw [List.filter_cons,List.filter_cons] at this
 split at this
 ·exact (List.cons.inj this).2
 ·exact this
abbrev Srt (k:α→Int) (xs:List α):Prop:=xs.Pairwise fun a b=>k a≤k b
theorem sbl_eq: ∀{xs ys:List α},Srt k xs→Srt k ys→Sbl k xs ys→xs=ys
 | [],[],_,_,_=>rfl
 | [],y::s,_,_,h=>by have:=(h.mem (x:=y)).2 (List.mem_cons_self ..);cases this
 | x::r,[],_,_,h=>by have:=(h.mem (x:=x)).1 (List.mem_cons_self ..);cases this
 | x::r,y::s,h1,h2,h=>by
  have g1:=List.pairwise_cons.1 h1
  have g2:=List.pairwise_cons.1 h2
  have a1:k y≤k x:=by
   rcases List.mem_cons.1 ((h.mem (x:=x)).1 (List.mem_cons_self ..)) with e | e
   ·rw [e];exact Int.le_refl _
   ·exact g2.1 x e
  have a2:k x≤k y:=by
   rcases List.mem_cons.1 ((h.mem (x:=y)).2 (List.mem_cons_self ..)) with e | e
   ·rw [e];exact Int.le_refl _
   ·exact g1.1 y e
  have hv:=h (k x)
  rw [List.filter_cons,List.filter_cons,if_pos (by simp),if_pos (by simp;omega)] at hv
  have e:=(List.cons.inj hv).1
  subst e
  rw [sbl_eq g1.2 g2.2 h.tail]
def insS (k:α→Int) (x:α):List α→List α
 | []=>[x]
 | y::r=>if k x≤k y then x::y::r else y::insS k x r
def ssort (k:α→Int):List α→List α
 | []=>[]
 | x::r=>insS k x (ssort k r)
theorem insS_sbl {x:α}: ∀l:List α,Sbl k (x::l) (insS k x l)
 | []=>Sbl.refl _
 | y::r=>by
  rw [insS];split
  ·exact Sbl.refl _
  ·next h=>exact Sbl.trans (Sbl.swap (u:=[x]) (v:=[y]) (fun a ha b hb=>by rw [List.mem_singleton.1 ha,List.mem_singleton.1 hb];omega) |>.app (Sbl.refl r)) (Sbl.app (Sbl.refl [y]) (insS_sbl r))
theorem insS_srt {x:α}: ∀{l:List α},Srt k l→Srt k (insS k x l)
 | [],_=>List.pairwise_singleton ..
 | y::r,h=>by
  rw [insS];split
  ·next hx=>exact List.pairwise_cons.2 ⟨fun b hb=>by
    rcases List.mem_cons.1 hb with e | e
    ·rw [e];exact hx
    ·exact Int.le_trans hx ((List.pairwise_cons.1 h).1 b e),h⟩
  ·next hx=>exact List.pairwise_cons.2 ⟨fun b hb=>by
    rcases List.mem_cons.1 ((insS_sbl r).mem.2 hb) with e | e
    ·rw [e];omega
    ·exact (List.pairwise_cons.1 h).1 b e,insS_srt (List.pairwise_cons.1 h).2⟩
theorem ssort_sbl: ∀l:List α,Sbl k l (ssort k l)
 | []=>Sbl.refl _
 | x::r=>Sbl.trans (Sbl.app (Sbl.refl [x]) (ssort_sbl r)) (insS_sbl _)
theorem xt2: ∀l:List α,Srt k (ssort k l)
 | []=>List.Pairwise.nil
 | _::r=>insS_srt (xt2 r)
theorem ssort_uniq {xs ys:List α} (h1:Srt k ys) (h2:Sbl k xs ys):ys=ssort k xs:=sbl_eq h1 (xt2 xs) (h2.symm.trans (ssort_sbl xs))
theorem ssort_id {xs:List α} (h:Srt k xs):ssort k xs=xs:=(ssort_uniq h (Sbl.refl _)).symm
theorem ssort_mem {xs:List α} {x:α}:x∈ssort k xs↔x∈xs:=(ssort_sbl xs).mem.symm
theorem insS_len {x:α}: ∀l:List α,(insS k x l).length=l.length+1
 | []=>rfl
 | y::r=>by rw [insS];split <;> simp [insS_len r]
theorem xp5: ∀l:List α,(ssort k l).length=l.length
 | []=>rfl
 | x::r=>by rw [ssort,insS_len,xp5 r];rfl
variable (d:α)
structure Prt (k:α→Int) (d:α) (a b:Nat) (xs ys:List α):Prop where
  len:ys.length=xs.length
  out: ∀i,i < a∨b≤i→ys.getD i d=xs.getD i d
  sb:Sbl k xs ys
variable {d}
theorem Prt.refl (a b:Nat) (xs:List α):Prt k d a b xs xs:=⟨rfl,fun _ _=>rfl,Sbl.refl _⟩
theorem Prt.trans {a b:Nat} {xs ys zs:List α} (h:Prt k d a b xs ys) (g:Prt k d a b ys zs):Prt k d a b xs zs:=⟨g.len.trans h.len,fun i hi=>(g.out i hi).trans (h.out i hi),h.sb.trans g.sb⟩
theorem Prt.mono {a b a' b':Nat} {xs ys:List α} (h:Prt k d a b xs ys) (h1:a'≤a) (h2:b≤b'):Prt k d a' b' xs ys:=⟨h.len,fun i hi=>h.out i (by omega),h.sb⟩
def SrtP (k:α→Int) (d:α) (a b:Nat) (xs:List α):Prop:= ∀i j,a≤i→i < j→j < b→k (xs.getD i d)≤k (xs.getD j d)
theorem xg9 {xs ys:List α} (hl:xs.length=ys.length) (h: ∀i,i < xs.length→xs.getD i d=ys.getD i d):xs=ys:=by
 apply List.ext_getElem hl
 intro i h1 h2
 have:=h i h1
 rwa [List.getD_eq_getElem?_getD,List.getD_eq_getElem?_getD,List.getElem?_eq_getElem h1,List.getElem?_eq_getElem h2] at this
theorem xs9 {xs:List α} {n i:Nat} (h:i < n):(xs.take n).getD i d=xs.getD i d:=by rw [List.getD_eq_getElem?_getD,List.getElem?_take,if_pos h,List.getD_eq_getElem?_getD]
theorem xt0 {xs:List α} {n i:Nat}:(xs.drop n).getD i d=xs.getD (n+i) d:=by rw [List.getD_eq_getElem?_getD,List.getElem?_drop,List.getD_eq_getElem?_getD]
def sgm (a b:Nat) (xs:List α):List α:=(xs.take b).drop a
theorem xg2 {a b:Nat} {xs:List α} (hb:b≤xs.length):(sgm a b xs).length=b - a:=by rw [sgm,List.length_drop,List.length_take];omega
theorem xp4 {a b i:Nat} {xs:List α} (h:a+i < b):(sgm a b xs).getD i d=xs.getD (a+i) d:=by rw [sgm,xt0,xs9 h]
theorem xp8 {a b:Nat} {xs:List α} (hab:a≤b):xs=xs.take a++(sgm a b xs++xs.drop b):=by
 have e1:xs.take a=(xs.take b).take a:=by rw [List.take_take,Nat.min_eq_left hab]
 rw [←List.append_assoc,sgm,e1,List.take_append_drop,List.take_append_drop]
def srtR (k:α→Int) (a b:Nat) (xs:List α):List α:=xs.take a++(ssort k (sgm a b xs)++xs.drop b)
theorem prt_sg {a b:Nat} {xs ys:List α} (hab:a≤b) (hb:b≤xs.length) (h:Prt k d a b xs ys):ys.take a=xs.take a∧ys.drop b=xs.drop b∧Sbl k (sgm a b xs) (sgm a b ys):=by
 have hl:=h.len
 have e1:ys.take a=xs.take a:=xg9 (d:=d) (by simp [hl]) fun i hi=>by
  rw [List.length_take] at hi
  rw [xs9 (by omega),xs9 (by omega),h.out i (by omega)]
 have e2:ys.drop b=xs.drop b:=xg9 (d:=d) (by simp [hl]) fun i hi=>by
  rw [xt0,xt0,h.out _ (by omega)]
 refine ⟨e1,e2,fun v=> ?_⟩
 have h3:=h.sb v
 have s1:=xp8 (xs:=xs) hab
 have s2:=xp8 (xs:=ys) hab
 rw [e1,e2] at s2
 rw [s1,s2] at h3
 simp only [List.filter_append] at h3
 exact List.append_cancel_right (List.append_cancel_left h3)
theorem srtP_sg {a b:Nat} {xs:List α} (hb:b≤xs.length) (h:SrtP k d a b xs):Srt k (sgm a b xs):=by
 refine List.pairwise_iff_getElem.2 fun i j hi hj hij=> ?_
 rw [xg2 hb] at hi hj
 have:=h (a+i) (a+j) (by omega) (by omega) (by omega)
 rw [←xp4 (b:=b) (by omega),←xp4 (b:=b) (by omega),List.getD_eq_getElem?_getD,List.getD_eq_getElem?_getD,List.getElem?_eq_getElem (by rw [xg2 hb];omega),List.getElem?_eq_getElem (by rw [xg2 hb];omega)] at this
 exact this
theorem xp7 {a b:Nat} {xs ys:List α} (hab:a≤b) (hb:b≤xs.length) (h:Prt k d a b xs ys) (hs:SrtP k d a b ys):ys=srtR k a b xs:=by
 obtain ⟨h1,h2,h3⟩:=prt_sg hab hb h
 have:=ssort_uniq (srtP_sg (by rw [h.len];exact hb) hs) h3
 rw [srtR,←this,←h1,←h2,←xp8 hab]
theorem srtR_len {a b:Nat} {xs:List α} (hab:a≤b) (hb:b≤xs.length):(srtR k a b xs).length=xs.length:=by
 rw [srtR,List.length_append,List.length_append,xp5,xg2 hb,List.length_take,List.length_drop];omega
theorem xh0 {a b:Nat} {xs:List α} (hab:a≤b) (hb:b≤xs.length):Prt k d a b xs (srtR k a b xs):=by
 refine ⟨srtR_len hab hb,fun i hi=> ?_,?_⟩
 ·rw [srtR]
  rcases hi with hi | hi
  ·rw [List.getD_eq_getElem?_getD,List.getElem?_append_left (by rw [List.length_take];omega),←List.getD_eq_getElem?_getD,xs9 hi]
  ·have e1:(xs.take a).length=a:=by rw [List.length_take];omega
   have e2:(ssort k (sgm a b xs)).length=b - a:=by rw [xp5,xg2 hb]
   rw [List.getD_eq_getElem?_getD,List.getElem?_append_right (by omega),List.getElem?_append_right (by omega),←List.getD_eq_getElem?_getD,xt0,e1,e2]
   congr 1;omega
 ·intro v
  rw [srtR]
  conv=>lhs;rw [xp8 (xs:=xs) hab]
  exact ((Sbl.refl _).app ((ssort_sbl _).app (Sbl.refl _))) v
theorem xj9 {a b:Nat} {xs:List α} (hab:a≤b) (hb:b≤xs.length):SrtP k d a b (srtR k a b xs):=by
 intro i j h1 h2 h3
 have e1:(xs.take a).length=a:=by rw [List.length_take];omega
 have e2:(ssort k (sgm a b xs)).length=b - a:=by rw [xp5,xg2 hb]
 have key: ∀t,a≤t→(h:t < b)→(srtR k a b xs).getD t d=(ssort k (sgm a b xs))[t - a]'(by omega):=fun t g1 g2=>by
  rw [srtR,List.getD_eq_getElem?_getD,List.getElem?_append_right (by omega),List.getElem?_append_left (by omega),e1,List.getElem?_eq_getElem (by omega)];rfl
 rw [key i h1 (by omega),key j (by omega) h3]
 exact List.pairwise_iff_getElem.1 (xt2 _) _ _ _ _ (by omega)
theorem srtR_all {xs:List α}:srtR k 0 xs.length xs=ssort k xs:=by rw [srtR,sgm];simp
def rotR (a m b:Nat) (xs:List α):List α:=xs.take a++(sgm m b xs++(sgm a m xs++xs.drop b))
theorem rot_split {a m b:Nat} {xs:List α} (h1:a≤m) (h2:m≤b):xs=xs.take a++(sgm a m xs++(sgm m b xs++xs.drop b)):=by
 conv=>lhs;rw [xp8 (xs:=xs) h1,xp8 (xs:=xs.drop m) (a:=0) (b:=b - m) (by omega)]
 congr 2
 have e:b - m+m=b:=by omega
 rw [List.take_zero,List.nil_append,List.drop_drop,Nat.add_comm m,e]
 congr 1
 rw [sgm,sgm,List.drop_zero,List.take_drop,Nat.add_comm m,e]
theorem xc4 {a m b:Nat} {xs:List α} (h1:a≤m) (h2:m≤b) (h3:b≤xs.length):(rotR a m b xs).length=xs.length:=by
 simp only [rotR,List.length_append,List.length_take,List.length_drop,xg2 h3,xg2 (show m≤xs.length by omega)];omega
theorem xe2 {a m b i:Nat} {xs:List α} (h1:a≤m) (h2:m≤b) (h3:b≤xs.length):(rotR a m b xs).getD i d=if i < a then xs.getD i d else if i < a+(b - m) then xs.getD (m+(i - a)) d else if i < b then xs.getD (a+(i - (a+(b - m)))) d else xs.getD i d:=by
 have e0:(xs.take a).length=a:=by rw [List.length_take];omega
 have e1:=xg2 (a:=m) h3
 have e2:=xg2 (a:=a) (show m≤xs.length by omega)
 rw [rotR,List.getD_eq_getElem?_getD]
 split
 ·rw [List.getElem?_append_left (by omega),←List.getD_eq_getElem?_getD,xs9 (by omega)]
 ·rw [List.getElem?_append_right (by omega)]
  split
  ·rw [List.getElem?_append_left (by omega),←List.getD_eq_getElem?_getD,e0,xp4 (by omega)]
  ·rw [List.getElem?_append_right (by omega)]
   split
   ·rw [List.getElem?_append_left (by omega),←List.getD_eq_getElem?_getD,xp4 (by omega)]
    congr 1;omega
   ·rw [List.getElem?_append_right (by omega),←List.getD_eq_getElem?_getD,xt0]
    congr 1;omega
theorem rot_prt {a m b:Nat} {xs:List α} (h1:a≤m) (h2:m≤b) (h3:b≤xs.length) (h: ∀i j,a≤i→i < m→m≤j→j < b→k (xs.getD i d)≠k (xs.getD j d)):Prt k d a b xs (rotR a m b xs):=by
 refine ⟨xc4 h1 h2 h3,fun i hi=> ?_,?_⟩
 ·rw [xe2 h1 h2 h3]
  rcases hi with hi | hi
  ·rw [if_pos hi]
  ·split
   ·omega
   ·split
    ·omega
    ·rw [if_neg (by omega)]
 ·intro v
  conv=>lhs;rw [rot_split (xs:=xs) h1 h2]
  rw [rotR,←List.append_assoc (sgm a m xs),←List.append_assoc (sgm m b xs)]
  refine ((Sbl.refl _).app ((Sbl.swap fun x hx y hy=> ?_).app (Sbl.refl _))) v
  obtain ⟨i,hi,rfl⟩:=List.mem_iff_getElem.1 hx
  obtain ⟨j,hj,rfl⟩:=List.mem_iff_getElem.1 hy
  rw [xg2 (show m≤xs.length by omega)] at hi
  rw [xg2 h3] at hj
  have:=h (a+i) (m+j) (by omega) (by omega) (by omega) (by omega)
  rw [←xp4 (b:=m) (by omega),←xp4 (b:=b) (by omega),List.getD_eq_getElem?_getD,List.getD_eq_getElem?_getD,List.getElem?_eq_getElem (by rw [xg2 (show m≤xs.length by omega)];omega),List.getElem?_eq_getElem (by rw [xg2 h3];omega)] at this
  exact this
def swpR (d:α) (a b n:Nat) (xs:List α):List α:=(List.range xs.length).map fun t=>if a≤t∧t < a+n then xs.getD (b+(t - a)) d else if b≤t∧t < b+n then xs.getD (a+(t - b)) d else xs.getD t d
theorem xe1 {a b n:Nat} {xs:List α}:(swpR d a b n xs).length=xs.length:=by simp [swpR]
theorem xg7 {a b n t:Nat} {xs:List α} (ht:t < xs.length):(swpR d a b n xs).getD t d=if a≤t∧t < a+n then xs.getD (b+(t - a)) d else if b≤t∧t < b+n then xs.getD (a+(t - b)) d else xs.getD t d:=by
 rw [swpR,List.getD_eq_getElem?_getD,List.getElem?_map,List.getElem?_range ht];rfl
theorem swp_zero {a b:Nat} {xs:List α}:swpR d a b 0 xs=xs:=xg9 (d:=d) xe1 fun i hi=>by
 rw [xe1] at hi
 rw [xg7 hi,if_neg (by omega),if_neg (by omega)]
theorem getD_set {xs:List α} {i j:Nat} {x:α} (hi:i < xs.length):(xs.set i x).getD j d=if j=i then x else xs.getD j d:=by
 rw [List.getD_eq_getElem?_getD,List.getElem?_set]
 by_cases h:i=j
 ·subst h;rw [if_pos rfl,if_pos hi,if_pos rfl];rfl
 ·rw [if_neg h,if_neg (Ne.symm h),List.getD_eq_getElem?_getD]
theorem swp_next {a b n:Nat} {xs:List α} (h1:a+n < b) (h2:b+n < xs.length):((swpR d a b n xs).set (a+n) (xs.getD (b+n) d)).set (b+n) (xs.getD (a+n) d)=swpR d a b (n+1) xs:=by
 refine xg9 (d:=d) (by simp [xe1]) fun i hi=> ?_
 simp only [List.length_set,xe1] at hi
 rw [getD_set (by simp [xe1];omega),getD_set (by simp [xe1];omega),xg7 hi,xg7 hi]
 by_cases e1:i=b+n
 ·subst e1
  rw [if_pos rfl,if_neg (by omega),if_pos (by omega)]
  congr 1;omega
 ·rw [if_neg e1]
  by_cases e2:i=a+n
  ·subst e2
   rw [if_pos rfl,if_pos (by omega)]
   congr 1;omega
  ·rw [if_neg e2]
   (repeat' split) <;> first | rfl | omega | (congr 1;omega)
theorem swp_same {a b n:Nat} {xs:List α} (h1:a+n < b) (h2:b+n < xs.length):(swpR d a b n xs).getD (a+n) d=xs.getD (a+n) d∧(swpR d a b n xs).getD (b+n) d=xs.getD (b+n) d:=by
 rw [xg7 (by omega),xg7 (by omega),if_neg (by omega),if_neg (by omega),if_neg (by omega),if_neg (by omega)];exact ⟨rfl,rfl⟩
theorem rot_left {m i j:Nat} {xs:List α} (h1:i≤m) (h2:j < i) (h3:m+j≤xs.length):rotR (m - (i - j)) m (m+j) (swpR d (m - i) m j xs)=rotR (m - i) m (m+j) xs:=by
 have hl:(swpR d (m - i) m j xs).length=xs.length:=xe1
 refine xg9 (d:=d) (by rw [xc4 (by omega) (by omega) (by omega),xc4 (by omega) (by omega) (by omega),hl]) fun t ht=> ?_
 rw [xc4 (by omega) (by omega) (by omega),hl] at ht
 rw [xe2 (by omega) (by omega) (by omega),xe2 (by omega) (by omega) (by omega)]
 by_cases c1:t < m - i
 ·rw [if_pos (by omega),if_pos c1,xg7 ht,if_neg (by omega),if_neg (by omega)]
 ·rw [if_neg c1]
  by_cases c2:t < m - i+(m+j - m)
  ·rw [if_pos (by omega),if_pos c2,xg7 ht,if_pos (by omega)]
  ·rw [if_neg c2]
   by_cases c3:t < m - (i - j)
   ·omega
   ·rw [if_neg c3]
    by_cases c4:t < m - (i - j)+(m+j - m)
    ·rw [if_pos c4,if_pos (by omega),xg7 (by omega),if_neg (by omega),if_pos (by omega)]
     congr 1;omega
    ·rw [if_neg c4]
     by_cases c5:t < m+j
     ·rw [if_pos c5,if_pos c5,xg7 (by omega),if_neg (by omega),if_neg (by omega)]
      congr 1;omega
     ·rw [if_neg c5,if_neg c5,xg7 ht,if_neg (by omega),if_neg (by omega)]
theorem rot_right {m i j:Nat} {xs:List α} (h1:i≤m) (h2:i < j) (h3:m+j≤xs.length):rotR (m - i) m (m+(j - i)) (swpR d (m - i) (m+j - i) i xs)=rotR (m - i) m (m+j) xs:=by
 have hl:(swpR d (m - i) (m+j - i) i xs).length=xs.length:=xe1
 refine xg9 (d:=d) (by rw [xc4 (by omega) (by omega) (by omega),xc4 (by omega) (by omega) (by omega),hl]) fun t ht=> ?_
 rw [xc4 (by omega) (by omega) (by omega),hl] at ht
 rw [xe2 (by omega) (by omega) (by omega),xe2 (by omega) (by omega) (by omega)]
 by_cases c1:t < m - i
 ·rw [if_pos c1,if_pos c1,xg7 ht,if_neg (by omega),if_neg (by omega)]
 ·rw [if_neg c1,if_neg c1]
  by_cases c2:t < m - i+(m+(j - i) - m)
  ·rw [if_pos c2,if_pos (by omega),xg7 (by omega),if_neg (by omega),if_neg (by omega)]
  ·rw [if_neg c2]
   by_cases c3:t < m+(j - i)
   ·rw [if_pos c3,if_pos (by omega),xg7 (by omega),if_pos (by omega)]
    congr 1;omega
   ·rw [if_neg c3]
    by_cases c4:t < m+j
    ·rw [xg7 ht,if_neg (by omega),if_pos (by omega),if_neg (by omega),if_pos c4]
     congr 1;omega
    ·rw [xg7 ht,if_neg (by omega),if_neg (by omega),if_neg (by omega),if_neg c4]
theorem rot_same {m i:Nat} {xs:List α} (h1:i≤m) (h3:m+i≤xs.length):swpR d (m - i) m i xs=rotR (m - i) m (m+i) xs:=by
 refine xg9 (d:=d) (by rw [xc4 (by omega) (by omega) (by omega),xe1]) fun t ht=> ?_
 rw [xe1] at ht
 rw [xe2 (by omega) (by omega) (by omega),xg7 ht]
 (repeat' split) <;> first | rfl | omega | (congr 1;omega)
def swp1 (d:α) (j:Nat) (xs:List α):List α:=(xs.set j (xs.getD (j+1) d)).set (j+1) (xs.getD j d)
theorem swp1_len {j:Nat} {xs:List α}:(swp1 d j xs).length=xs.length:=by simp [swp1]
theorem swp1_get {j t:Nat} {xs:List α} (h:j+1 < xs.length):(swp1 d j xs).getD t d=if t=j+1 then xs.getD j d else if t=j then xs.getD (j+1) d else xs.getD t d:=by
 rw [swp1,getD_set (by simp;omega),getD_set (by omega)]
theorem swp1_rot {j:Nat} {xs:List α} (h:j+1 < xs.length):swp1 d j xs=rotR j (j+1) (j+2) xs:=by
 refine xg9 (d:=d) (by rw [xc4 (by omega) (by omega) (by omega),swp1_len]) fun t ht=> ?_
 rw [swp1_get h,xe2 (by omega) (by omega) (by omega)]
 by_cases c1:t=j+1
 ·subst c1;rw [if_pos rfl,if_neg (by omega),if_neg (by omega),if_pos (by omega)];congr 1;omega
 ·rw [if_neg c1]
  by_cases c2:t=j
  ·subst c2;rw [if_pos rfl,if_neg (by omega),if_pos (by omega)];congr 1;omega
  ·rw [if_neg c2]
   by_cases c3:t < j
   ·rw [if_pos c3]
   ·rw [if_neg c3,if_neg (by omega),if_neg (by omega)]
theorem swp1_prt {a b j:Nat} {xs:List α} (h1:a≤j) (h2:j+1 < b) (h3:b≤xs.length) (h:k (xs.getD (j+1) d) < k (xs.getD j d)):Prt k d a b xs (swp1 d j xs):=by
 rw [swp1_rot (by omega)]
 refine (rot_prt (by omega) (by omega) (by omega) fun i i' g1 g2 g3 g4=> ?_).mono h1 (by omega)
 have e1:i=j:=by omega
 have e2:i'=j+1:=by omega
 subst e1 e2;omega
end
section
variable {α:Type} {k:α→Int} {d:α}
theorem prt_mem {a b i:Nat} {xs ys:List α} (hb:b≤xs.length) (h:Prt k d a b xs ys) (h1:a≤i) (h2:i < b): ∃j,a≤j∧j < b∧ys.getD i d=xs.getD j d:=by
 have h3:=(prt_sg (by omega) hb h).2.2
 have e:ys.getD i d∈sgm a b ys:=by
  have hl:i - a < (sgm a b ys).length:=by rw [xg2 (by rw [h.len];exact hb)];omega
  have:=xp4 (d:=d) (a:=a) (b:=b) (i:=i - a) (xs:=ys) (by omega)
  rw [show a+(i - a)=i by omega] at this
  rw [←this,List.getD_eq_getElem?_getD,List.getElem?_eq_getElem hl];exact List.getElem_mem hl
 obtain ⟨j,hj,hj2⟩:=List.mem_iff_getElem.1 (h3.mem.2 e)
 rw [xg2 hb] at hj
 refine ⟨a+j,by omega,by omega,?_⟩
 rw [←xp4 (b:=b) (by omega),List.getD_eq_getElem?_getD (l:=sgm a b xs),List.getElem?_eq_getElem (by rw [xg2 hb];omega)]
 exact hj2.symm
theorem SrtP.sub {a b a' b':Nat} {xs:List α} (h:SrtP k d a b xs) (h1:a≤a') (h2:b'≤b):SrtP k d a' b' xs:=fun i j g1 g2 g3=>h i j (by omega) g2 (by omega)
theorem SrtP.le {a b i j:Nat} {xs:List α} (h:SrtP k d a b xs) (h1:a≤i) (h2:i≤j) (h3:j < b):k (xs.getD i d)≤k (xs.getD j d):=by
 rcases Nat.lt_or_ge i j with h4 | h4
 ·exact h i j h1 h4 h3
 ·rw [show i=j by omega];exact Int.le_refl _
theorem SrtP.out {a b a' b':Nat} {xs ys:List α} (h:SrtP k d a b xs) (hp:Prt k d a' b' xs ys) (hd:b≤a'∨b'≤a):SrtP k d a b ys:=fun i j g1 g2 g3=>by
 rw [hp.out i (by omega),hp.out j (by omega)];exact h i j g1 g2 g3
def InsP (k:α→Int) (d:α) (a i j:Nat) (xs:List α):Prop:= ∀p q,a≤p→p < q→q≤i→q≠j→k (xs.getD p d)≤k (xs.getD q d)
theorem ins_begin {a i:Nat} {xs:List α} (h:SrtP k d a i xs):InsP k d a i i xs:=fun p q h1 h2 h3 h4=>h p q h1 h2 (by omega)
theorem ins_step {a i j:Nat} {xs:List α} (h:InsP k d a i (j+1) xs) (h1:a≤j) (h2:j+1≤i) (h3:i < xs.length) (hlt:k (xs.getD (j+1) d) < k (xs.getD j d)):InsP k d a i j (swp1 d j xs):=by
 intro p q g1 g2 g3 g4
 rw [swp1_get (by omega),swp1_get (by omega)]
 by_cases c1:q=j+1
 ·subst c1
  rw [if_pos rfl]
  by_cases c2:p=j
  ·subst c2;rw [if_neg (by omega),if_pos rfl];omega
  ·rw [if_neg (by omega),if_neg c2];exact h p j g1 (by omega) (by omega) (by omega)
 ·rw [if_neg c1,if_neg g4]
  by_cases c2:p=j+1
  ·subst c2;rw [if_pos rfl];exact h j q h1 (by omega) g3 c1
  ·rw [if_neg c2]
   by_cases c3:p=j
   ·subst c3
    rw [if_pos rfl]
    exact h (p+1) q (by omega) (by omega) g3 c1
   ·rw [if_neg c3];exact h p q g1 g2 g3 c1
theorem ins_end {a i j:Nat} {xs:List α} (h:InsP k d a i j xs) (hj:j≤i) (hs:a < j→k (xs.getD (j - 1) d)≤k (xs.getD j d)):SrtP k d a (i+1) xs:=by
 intro p q g1 g2 g3
 by_cases c:q=j
 ·subst c
  have h1:=hs (by omega)
  rcases Nat.lt_or_ge p (q - 1) with h2 | h2
  ·have:=h p (q - 1) g1 h2 (by omega) (by omega);omega
  ·rw [show p=q - 1 by omega];exact h1
 ·exact h p q g1 g2 (by omega) c
theorem rot_up {a t:Nat} {xs:List α} (h:a+1+t < xs.length):swp1 d (a+t) (rotR a (a+1) (a+1+t) xs)=rotR a (a+1) (a+2+t) xs:=by
 have hl:(rotR a (a+1) (a+1+t) xs).length=xs.length:=xc4 (by omega) (by omega) (by omega)
 refine xg9 (d:=d) (by rw [swp1_len,hl,xc4 (by omega) (by omega) (by omega)]) fun i hi=> ?_
 rw [swp1_len,hl] at hi
 rw [swp1_get (by omega),xe2 (by omega) (by omega) (by omega),xe2 (by omega) (by omega) (by omega),xe2 (by omega) (by omega) (by omega),xe2 (by omega) (by omega) (by omega)]
 (repeat' split) <;> first | rfl | omega | (congr 1;omega)
theorem rot_down {j m:Nat} {xs:List α} (h1:j < m) (h2:m < xs.length):swp1 d j (rotR (j+1) m (m+1) xs)=rotR j m (m+1) xs:=by
 have hl:(rotR (j+1) m (m+1) xs).length=xs.length:=xc4 (by omega) (by omega) (by omega)
 refine xg9 (d:=d) (by rw [swp1_len,hl,xc4 (by omega) (by omega) (by omega)]) fun i hi=> ?_
 rw [swp1_len,hl] at hi
 rw [swp1_get (by omega),xe2 (by omega) (by omega) (by omega),xe2 (by omega) (by omega) (by omega),xe2 (by omega) (by omega) (by omega),xe2 (by omega) (by omega) (by omega)]
 (repeat' split) <;> first | rfl | omega | (congr 1;omega)
theorem rot_none1 (d:α) {a b:Nat} {xs:List α} (h1:a≤b) (h2:b≤xs.length):rotR a a b xs=xs:=xg9 (d:=d) (xc4 (by omega) h1 h2) fun i hi=>by
 rw [xe2 (by omega) h1 h2]
 (repeat' split) <;> first | rfl | omega | (congr 1;omega)
theorem rot_none2 (d:α) {a b:Nat} {xs:List α} (h1:a≤b) (h2:b≤xs.length):rotR a b b xs=xs:=xg9 (d:=d) (xc4 h1 (by omega) h2) fun i hi=>by
 rw [xe2 h1 (by omega) h2]
 (repeat' split) <;> first | rfl | omega | (congr 1;omega)
theorem merge_first {a b i:Nat} {xs:List α} (hs:SrtP k d (a+1) b xs) (hb:b≤xs.length) (h1:a+1≤i) (h2:i≤b) (h3: ∀t,a+1≤t→t < i→k (xs.getD t d) < k (xs.getD a d)) (h4: ∀t,i≤t→t < b→k (xs.getD a d)≤k (xs.getD t d)):rotR a (a+1) i xs=srtR k a b xs:=by
 refine xp7 (d:=d) (by omega) hb ((rot_prt (by omega) h1 (by omega) fun p q g1 g2 g3 g4=> ?_).mono (Nat.le_refl _) h2) fun p q g1 g2 g3=> ?_
 ·have e:p=a:=by omega
  subst e;have:=h3 q g3 g4;omega
 ·rw [xe2 (by omega) h1 (by omega),xe2 (by omega) h1 (by omega)]
  rw [if_neg (by omega),if_neg (show ¬q < a by omega)]
  by_cases c1:p < a+(i - (a+1))
  ·rw [if_pos c1]
   by_cases c2:q < a+(i - (a+1))
   ·rw [if_pos c2];exact hs _ _ (by omega) (by omega) (by omega)
   ·rw [if_neg c2]
    have:=h3 (a+1+(p - a)) (by omega) (by omega)
    by_cases c3:q < i
    ·rw [if_pos c3,show a+(q - (a+(i - (a+1))))=a by omega];omega
    ·rw [if_neg c3];have:=h4 q (by omega) g3;omega
  ·rw [if_neg c1]
   rw [if_neg (show ¬q < a+(i - (a+1)) by omega),if_neg (show ¬q < i by omega)]
   by_cases c3:p < i
   ·rw [if_pos c3,show a+(p - (a+(i - (a+1))))=a by omega];exact h4 q (by omega) g3
   ·rw [if_neg c3];exact hs p q (by omega) g2 g3
theorem merge_last {a m i:Nat} {xs:List α} (hs:SrtP k d a m xs) (hb:m < xs.length) (h1:a≤i) (h2:i≤m) (h3: ∀t,a≤t→t < i→k (xs.getD t d)≤k (xs.getD m d)) (h4: ∀t,i≤t→t < m→k (xs.getD m d) < k (xs.getD t d)):rotR i m (m+1) xs=srtR k a (m+1) xs:=by
 refine xp7 (d:=d) (by omega) hb ((rot_prt h2 (by omega) (by omega) fun p q g1 g2 g3 g4=> ?_).mono h1 (Nat.le_refl _)) fun p q g1 g2 g3=> ?_
 ·have e:q=m:=by omega
  subst e;have:=h4 p g1 g2;omega
 ·rw [xe2 h2 (by omega) (by omega),xe2 h2 (by omega) (by omega)]
  by_cases c1:p < i
  ·rw [if_pos c1]
   by_cases c2:q < i
   ·rw [if_pos c2];exact hs p q g1 g2 (by omega)
   ·rw [if_neg c2]
    by_cases c3:q < i+(m+1 - m)
    ·rw [if_pos c3,show m+(q - i)=m by omega];exact h3 p g1 c1
    ·rw [if_neg c3,if_pos (by omega)];exact hs p _ g1 (by omega) (by omega)
  ·rw [if_neg c1,if_neg (show ¬q < i by omega),if_neg (show ¬q < i+(m+1 - m) by omega),if_pos (show q < m+1 by omega)]
   by_cases c3:p < i+(m+1 - m)
   ·rw [if_pos c3,show m+(p - i)=m by omega];have:=h4 (i+(q - (i+(m+1 - m)))) (by omega) (by omega);omega
   ·rw [if_neg c3,if_pos (by omega)];exact hs _ _ (by omega) (by omega) (by omega)
structure CutP (k:α→Int) (d:α) (a m b s e mid:Nat) (xs:List α):Prop where
  la:a≤s
  sm:s≤m
  me:m≤e
  eb:e≤b
  hm:s+(e - m)=mid
  c1: ∀x y,a≤x→x < s→e≤y→y < b→k (xs.getD x d)≤k (xs.getD y d)
  c2: ∀x y,s≤x→x < m→m≤y→y < e→k (xs.getD y d) < k (xs.getD x d)
section
variable {a m b s e mid:Nat} {xs:List α}
theorem CutP.prt (h:CutP k d a m b s e mid xs) (hb:b≤xs.length):Prt k d a b xs (rotR s m e xs):=
 (rot_prt h.sm h.me (by have:=h.eb;omega) fun p q g1 g2 g3 g4=>by have:=h.c2 p q g1 g2 g3 g4;omega).mono h.la h.eb
theorem CutP.get (h:CutP k d a m b s e mid xs) (hb:b≤xs.length) (i:Nat):(rotR s m e xs).getD i d=if i < s then xs.getD i d else if i < mid then xs.getD (m+(i - s)) d else if i < e then xs.getD (s+(i - mid)) d else xs.getD i d:=by
 have h1:=h.sm;have h2:=h.me;have h3:=h.eb;have h4:=h.hm
 rw [xe2 h1 h2 (by omega),h4]
theorem CutP.left1 (h:CutP k d a m b s e mid xs) (hb:b≤xs.length) (hs:SrtP k d a m xs):SrtP k d a s (rotR s m e xs):=fun i j g1 g2 g3=>by
 have h1:=h.sm
 rw [h.get hb,h.get hb,if_pos (by omega),if_pos g3];exact hs i j g1 g2 (by omega)
theorem CutP.left2 (h:CutP k d a m b s e mid xs) (hb:b≤xs.length) (hs:SrtP k d m b xs):SrtP k d s mid (rotR s m e xs):=fun i j g1 g2 g3=>by
 have h1:=h.sm;have h2:=h.me;have h3:=h.eb;have h4:=h.hm
 rw [h.get hb,h.get hb,if_neg (by omega),if_pos (by omega),if_neg (by omega),if_pos g3];exact hs _ _ (by omega) (by omega) (by omega)
theorem CutP.right1 (h:CutP k d a m b s e mid xs) (hb:b≤xs.length) (hs:SrtP k d a m xs):SrtP k d mid e (rotR s m e xs):=fun i j g1 g2 g3=>by
 have h0:=h.la;have h1:=h.sm;have h2:=h.me;have h3:=h.eb;have h4:=h.hm
 rw [h.get hb,h.get hb,if_neg (by omega),if_neg (by omega),if_pos (by omega),if_neg (by omega),if_neg (by omega),if_pos g3];exact hs _ _ (by omega) (by omega) (by omega)
theorem CutP.right2 (h:CutP k d a m b s e mid xs) (hb:b≤xs.length) (hs:SrtP k d m b xs):SrtP k d e b (rotR s m e xs):=fun i j g1 g2 g3=>by
 have h1:=h.sm;have h2:=h.me;have h3:=h.eb;have h4:=h.hm
 rw [h.get hb,h.get hb,if_neg (by omega),if_neg (by omega),if_neg (by omega),if_neg (by omega),if_neg (by omega),if_neg (by omega)];exact hs _ _ (by omega) (by omega) (by omega)
theorem CutP.cross (h:CutP k d a m b s e mid xs) (hb:b≤xs.length) (hs1:SrtP k d a m xs) (hs2:SrtP k d m b xs) {i j:Nat} (g1:a≤i) (g2:i < mid) (g3:mid≤j) (g4:j < b):k ((rotR s m e xs).getD i d)≤k ((rotR s m e xs).getD j d):=by
 have h0:=h.la;have h1:=h.sm;have h2:=h.me;have h3:=h.eb;have h4:=h.hm
 rw [h.get hb,h.get hb,if_neg (show ¬j < s by omega),if_neg (show ¬j < mid by omega)]
 by_cases c1:i < s
 ·rw [if_pos c1]
  by_cases c2:j < e
  ·rw [if_pos c2];exact hs1.le g1 (by omega) (by omega)
  ·rw [if_neg c2];exact h.c1 i j g1 c1 (by omega) g4
 ·rw [if_neg c1,if_pos g2]
  by_cases c2:j < e
  ·rw [if_pos c2];have:=h.c2 (s+(j - mid)) (m+(i - s)) (by omega) (by omega) (by omega) (by omega);omega
  ·rw [if_neg c2];exact hs2.le (by omega) (by omega) g4
theorem CutP.fin (h:CutP k d a m b s e mid xs) (hb:b≤xs.length) (hs1:SrtP k d a m xs) (hs2:SrtP k d m b xs):srtR k mid b (srtR k a mid (rotR s m e xs))=srtR k a b xs:=by
 have h0:=h.la;have h1:=h.sm;have h2:=h.me;have h3:=h.eb;have h4:=h.hm
 have p1:=h.prt hb
 have hb1:b≤(rotR s m e xs).length:=by rw [p1.len];exact hb
 have p2:Prt k d a mid (rotR s m e xs) (srtR k a mid (rotR s m e xs)):=xh0 (by omega) (by omega)
 have hb2:b≤(srtR k a mid (rotR s m e xs)).length:=by rw [p2.len];exact hb1
 have p3:Prt k d mid b (srtR k a mid (rotR s m e xs)) (srtR k mid b (srtR k a mid (rotR s m e xs))):=xh0 (by omega) hb2
 refine xp7 (d:=d) (by omega) hb ((p1.trans (p2.mono (Nat.le_refl _) (by omega))).trans (p3.mono (by omega) (Nat.le_refl _))) fun i j g1 g2 g3=> ?_
 rcases Nat.lt_or_ge j mid with c | c
 ·rw [p3.out i (by omega),p3.out j (by omega)]
  exact xj9 (by omega) (by omega) i j g1 g2 c
 ·rcases Nat.lt_or_ge i mid with c2 | c2
  ·rw [p3.out i (by omega)]
   obtain ⟨i',q1,q2,q3⟩:=prt_mem (by omega) p2 g1 c2
   obtain ⟨j',r1,r2,r3⟩:=prt_mem hb2 p3 c g3
   rw [q3,r3,p2.out j' (by omega)]
   exact h.cross hb hs1 hs2 q1 q2 r1 r2
  ·exact xj9 (by omega) hb2 i j c2 g2 g3
theorem srtR_idP {a b:Nat} {xs:List α} (hab:a≤b) (hb:b≤xs.length) (h:SrtP k d a b xs):srtR k a b xs=xs:=(xp7 hab hb (Prt.refl ..) h).symm
theorem CutP.leftId (h:CutP k d a m b s e mid xs) (hb:b≤xs.length) (hs1:SrtP k d a m xs) (hs2:SrtP k d m b xs) (hc: ¬(a < s∧s < mid)):srtR k a mid (rotR s m e xs)=rotR s m e xs:=by
 have h0:=h.la;have h1:=h.sm;have h2:=h.me;have h3:=h.eb;have h4:=h.hm
 have p1:=h.prt hb
 refine srtR_idP (d:=d) (by omega) (by rw [p1.len];omega) ?_
 by_cases c:a < s
 ·have e1:mid=s:=by omega
  rw [e1];exact h.left1 hb hs1
 ·have e1:a=s:=by omega
  rw [e1];exact h.left2 hb hs2
theorem CutP.rightId (h:CutP k d a m b s e mid xs) (hb:b≤xs.length) (hs1:SrtP k d a m xs) (hs2:SrtP k d m b xs) (hc: ¬(mid < e∧e < b)):srtR k mid b (srtR k a mid (rotR s m e xs))=srtR k a mid (rotR s m e xs):=by
 have h0:=h.la;have h1:=h.sm;have h2:=h.me;have h3:=h.eb;have h4:=h.hm
 have p1:=h.prt hb
 have p2:Prt k d a mid (rotR s m e xs) (srtR k a mid (rotR s m e xs)):=xh0 (by omega) (by rw [p1.len];omega)
 refine srtR_idP (d:=d) (by omega) (by rw [p2.len,p1.len];omega) (SrtP.out ?_ p2 (.inr (Nat.le_refl _)))
 by_cases c:mid < e
 ·have e1:b=e:=by omega
  rw [e1];exact h.right1 hb hs1
 ·have e1:mid=e:=by omega
  rw [e1];exact h.right2 hb hs2
end
end
section
variable {α:Type} {k:α→Int} {d:α} {xs ys:List α} {B n c c':Nat}
theorem cut_of {a b m mid s s0 r0:Nat} (h1:a < m) (h2:m < b) (hm:mid=(a+b) / 2) (hs1:SrtP k d a m xs) (hs2:SrtP k d m b xs) (hc:(mid < m∧s0=mid+m - b∧r0=mid)∨(m≤mid∧s0=a∧r0=m)) (h3:s0≤s) (h4:s≤r0)
  (hl: ∀c,s0≤c→c < s→k (xs.getD c d)≤k (xs.getD (mid+m - 1 - c) d)) (hr: ∀c,s≤c→c < r0→k (xs.getD (mid+m - 1 - c) d) < k (xs.getD c d)):CutP k d a m b s (mid+m - s) mid xs:=by
 refine ⟨by omega,by omega,by omega,by omega,by omega,fun x y g1 g2 g3 g4=> ?_,fun x y g1 g2 g3 g4=> ?_⟩
 ·have e:s0 < s:=by omega
  have q:=hl (s - 1) (by omega) (by omega)
  rw [show mid+m - 1 - (s - 1)=mid+m - s by omega] at q
  have q1:=hs1.le (i:=x) (j:=s - 1) (by omega) (by omega) (by omega)
  have q2:=hs2.le (i:=mid+m - s) (j:=y) (by omega) (by omega) (by omega)
  omega
 ·have e:s < r0:=by omega
  have q:=hr s (by omega) e
  have q1:=hs1.le (i:=s) (j:=x) (by omega) (by omega) (by omega)
  have q2:=hs2.le (i:=y) (j:=mid+m - 1 - s) (by omega) (by omega) (by omega)
  omega
def BlkP (k:α→Int) (d:α) (B n:Nat) (xs:List α):Prop:= ∀t,SrtP k d (t*B) (min (t*B+B) n) xs
def BlkA (k:α→Int) (d:α) (B u:Nat) (xs:List α):Prop:= ∀t,t < u→SrtP k d (t*B) (t*B+B) xs
theorem mul_lt1 {t u B:Nat} (h:t < u):t*B+B≤u*B:=by
 have:=Nat.mul_le_mul_right B (show t+1≤u from h)
 rw [Nat.succ_mul] at this;exact this
theorem blkA_zero:BlkA k d B 0 xs:=fun t h=>absurd h (Nat.not_lt_zero t)
theorem blkA_next {u:Nat} (h:BlkA k d B u xs) (hp:Prt k d (u*B) (u*B+B) xs ys) (hs:SrtP k d (u*B) (u*B+B) ys):BlkA k d B (u+1) ys:=fun t ht=>by
 rcases Nat.lt_or_ge t u with h1 | h1
 ·exact (h t h1).out hp (.inl (mul_lt1 h1))
 ·have e:t=u:=by omega
  subst e;exact hs
theorem blkP_of {u:Nat} (h:BlkA k d B u xs) (h1:n < u*B+B) (hp:Prt k d (u*B) n xs ys) (hs:SrtP k d (u*B) n ys):BlkP k d B n ys:=fun t=>by
 rcases Nat.lt_trichotomy t u with h2 | h2 | h2
 ·exact ((h t h2).out hp (.inl (mul_lt1 h2))).sub (Nat.le_refl _) (Nat.min_le_left _ _)
 ·subst h2
  rw [Nat.min_eq_right (by omega)];exact hs
 ·intro i j g1 g2 g3
  have:=mul_lt1 (B:=B) h2
  omega
theorem two_mul_B {u B:Nat}:(2*u)*B=u*(2*B)∧(2*u+1)*B=u*(2*B)+B:=by
 have e:(2*u)*B=u*(2*B):=by rw [Nat.mul_comm 2 u,Nat.mul_assoc]
 exact ⟨e,by rw [Nat.succ_mul,e]⟩
def BlkR (k:α→Int) (d:α) (B n c:Nat) (xs:List α):Prop:= ∀t,c≤t*B→SrtP k d (t*B) (min (t*B+B) n) xs
theorem BlkR.at (h:BlkR k d B n c xs) {u:Nat} (hc:c≤u*(2*B)) (hn:u*(2*B)+B≤n):SrtP k d (u*(2*B)) (u*(2*B)+B) xs∧SrtP k d (u*(2*B)+B) (min (u*(2*B)+2*B) n) xs:=by
 obtain ⟨e1,e2⟩:=two_mul_B (u:=u) (B:=B)
 have h1:=h (2*u) (by rw [e1];exact hc)
 have h2:=h (2*u+1) (by rw [e2];omega)
 rw [e1,Nat.min_eq_left hn] at h1
 rw [e2,show u*(2*B)+B+B=u*(2*B)+2*B by omega] at h2
 exact ⟨h1,h2⟩
theorem BlkR.one (h:BlkR k d B n c xs) {u:Nat} (hc:c≤u*(2*B)) (hn:n≤u*(2*B)+B):SrtP k d (u*(2*B)) n xs:=by
 have h1:=h (2*u) (by rw [two_mul_B.1];exact hc)
 rw [two_mul_B.1,Nat.min_eq_right hn] at h1;exact h1
theorem BlkR.next (h:BlkR k d B n c xs) {a b:Nat} (hp:Prt k d a b xs ys) (hb:b≤c') (hc:c≤c'):BlkR k d B n c' ys:=fun t ht=>(h t (by omega)).out hp (.inr (by omega))
theorem blkP_R (h:BlkP k d B n xs):BlkR k d B n 0 xs:=fun t _=>h t
theorem blkP_all (h:BlkP k d B n xs) (hn:n≤B):SrtP k d 0 n xs:=by
 have:=h 0
 rw [Nat.zero_mul,Nat.min_eq_right (by omega)] at this;exact this
theorem blkP_end {u:Nat} (h:BlkA k d (2*B) u xs) (h1:n < u*(2*B)+2*B) (hs:SrtP k d (u*(2*B)) n xs):BlkP k d (2*B) n xs:=blkP_of h h1 (Prt.refl ..) hs
end
end An
namespace An
open Go
structure Fa where
  key:ByteArray
  lo:Int
  hi:Int
  kn:Int
  gone:Bool
  v:Va
deriving DecidableEq
def fa0:Fa:=⟨⟨#[]⟩,0,0,0,false,va0⟩
abbrev tFa (f:Fa):Ty:=tS [⟨1,false,tE (.string f.key)⟩,⟨1,false,tI f.lo⟩,⟨1,false,tI f.hi⟩,⟨1,false,tI f.kn⟩,⟨1,false,tB f.gone⟩,⟨6,true,tVa f.v⟩]
def cmpK (x y:Int):Int:=if x < y then -1 else if y < x then 1 else 0
theorem xn9 {x y:Int}:cmpK x y < 0↔x < y:=by
 rw [cmpK];split
 ·next h=>exact ⟨fun _=>h,fun _=>by decide⟩
 ·next h=>split <;> exact ⟨fun h2=>absurd h2 (by decide),fun h2=>absurd h2 h⟩
def toldT (l:List Fa) (key:ByteArray) (known:Int):List Fa:=ssort Fa.kn (l.filter fun f=>decide (f.key=key) && decide (f.kn≤known))
end An
namespace An.S
open Go Go.Proofs An
instance ti59:TyI Tryz.prog 59 11 true:=⟨by kernel_rfl,by kernel_rfl⟩
instance sl46:SlI Tryz.prog 46 59 11 true:=⟨Tryz.underlying46,ti59⟩
instance fo59_3:FoI Tryz.prog 59 3 3:=⟨by kernel_rfl⟩
instance fi105:FnI Tryz.prog 105:=⟨_,Tryz.func105,by kernel_rfl,rfl⟩
instance fi155:FnI Tryz.prog 155:=⟨_,Tryz.func155,by kernel_rfl,rfl⟩
instance fi160:FnI Tryz.prog 160:=⟨_,Tryz.func160,by kernel_rfl,rfl⟩
instance fi225:FnI Tryz.prog 225:=⟨_,Tryz.func225,by kernel_rfl,rfl⟩
theorem c_isNaN (x:Int):
  Ct Tryz.prog 155 [tI x] (tB false):=by
 refine Ct.intro Tryz.func155 rfl Tryz.ntmps155 rfl ?_
 intro w F
 refine A14 ?_
 exact x4 Plain.mk' rfl rfl (Le.bool (by simp))
theorem c_Compare (x y:Int):
  Ct Tryz.prog 105 [tI x,tI y] (tI (cmpK x y)):=by
 refine Ct.intro Tryz.func105 rfl Tryz.ntmps105 rfl ?_
 intro w F
 refine A8 ?_
 refine R1 (x3 (c_isNaN x) fi155 rfl) rfl ?_
 refine A6 ?_
 refine R1 (x3 (c_isNaN y) fi155 rfl) rfl ?_
 refine A18 ?_
 refine A11 ?_
 refine x5 rfl (fun h52=> ?_) (fun h52=> ?_)
 ·
  refine A7 ?_
  exact x4 Plain.mk' rfl rfl (Le.int (by rw [cmpK,if_pos (by omega)]))
 ·
  refine A10 ?_
  refine x5 rfl (fun h55=> ?_) (fun h55=> ?_)
  ·
   refine A7 ?_
   exact x4 Plain.mk' rfl rfl (Le.int (by rw [cmpK,if_neg (by omega),if_pos (by omega)]))
  ·
   refine A8 ?_
   exact x4 Plain.mk' rfl rfl (Le.int (by rw [cmpK,if_neg (by omega),if_neg (by omega)]))
theorem c_told11 (x y:Fa):
  Ct Tryz.prog 160 [tFa x,tFa y] (tI (cmpK x.kn y.kn)):=by
 refine Ct.intro Tryz.func160 rfl Tryz.ntmps160 rfl ?_
 intro w F
 refine A13 ?_
 refine R2 (x3 (c_Compare x.kn y.kn) fi105 rfl) rfl rfl ?_
 refine A4 ?_
 exact x4 Plain.mk' rfl rfl Le.refl
theorem c_swapRF (xs:List Fa) {L:Nat} (eL:xs.length=L) (a b n:Nat) {x y u:Int} (ex:x=(a:Int)) (ey:y=(b:Int)) (eu:u=(n:Int)) (h1:a+n≤b) (h2:b+n≤xs.length) (hx:xs.length≤1000000):
  CtG Tryz.prog 225 [(20,⟨59,11,true,rV tFa xs⟩)] [.own (.sl 20 11 0 L),.val (tI x),.val (tI y),.val (tI u),.val (tE (.func (.func 160) #[] #[]))] (.val (tT [])) [(20,⟨59,11,true,rV tFa (swpR fa0 a b n xs)⟩)] []:=by
 subst ex ey eu eL
 refine CtG.intro [20] Tryz.func225 rfl Tryz.ntmps225 rfl rfl ⟨⟨rfl,x9⟩,trivial⟩ ?_
 intro w F η
 refine A6 ?_
 refine cL (fun (i:Nat)=>i≤n) (fun (i:Nat)=>upd (upd (upd (upd (upd (fun _=>none) 0 (some (.own (.sl 20 11 0 xs.length)))) 1 (some (.val (tI a)))) 2 (some (.val (tI b)))) 3 (some (.val (tI n)))) 10 (some (.val (tI i)))) (fun (i:Nat)=>upd (fun _=>none) 20 (some (⟨59,11,true,rV tFa (swpR fa0 a b i xs)⟩))) [20] (fun (i:Nat)=>n - i) (0) (Nat.zero_le _) (hh:=((SubK.consI rfl (ImpK.of (by rw [swp_zero]))) SubK.nil)) ?_
 intro i hI
 refine A8 ?_
 refine x5 rfl (fun h330=> ?_) (fun h330=> ?_)
 ·
  refine A17 ?_
  refine R2 (x7 sl46 (by omega) (by omega) rfl) rfl rfl (RE (xa6 (b+i) ti59 (xa8 (f:=tFa) (xs:=(swpR fa0 a b i xs)) (d:=fa0) (by rw [xe1];omega)) (by omega)) ⟨rfl,trivial⟩ ⟨rfl,trivial⟩ trivial ?_)
  refine A4 ?_
  refine R2 (x7 sl46 (by omega) (by omega) rfl) rfl rfl (RE (xa6 (a+i) ti59 (xa8 (f:=tFa) (xs:=(swpR fa0 a b i xs)) (d:=fa0) (by rw [xe1];omega)) (by omega)) ⟨rfl,trivial⟩ ⟨rfl,trivial⟩ trivial (R2 (x7 sl46 (by omega) (by omega) rfl) rfl rfl (RE (xb2 (a+i) ti59 (xh8 (by rw [xe1];omega)) (by omega) (xe6 (m:=((swpR fa0 a b i xs).getD (b+i) fa0)) rfl)) ⟨rfl,rfl,trivial⟩ ⟨rfl,trivial⟩ trivial (R2 (x7 sl46 (by omega) (by omega) rfl) rfl rfl (RE (xb2 (b+i) ti59 (xh8 (by rw [List.length_set,xe1];omega)) (by omega) (xe6 (m:=((swpR fa0 a b i xs).getD (a+i) fa0)) rfl)) ⟨rfl,rfl,trivial⟩ ⟨rfl,trivial⟩ trivial ?_)))))
  refine A8 ?_
  exact kF (i+1) ⟨(by omega),(by omega)⟩ (hh:=((SubK.consI rfl (ImpK.of (by rw [(swp_same (d:=fa0) (a:=a) (b:=b) (n:=i) (xs:=xs) (by omega) (by omega)).1,(swp_same (d:=fa0) (a:=a) (b:=b) (n:=i) (xs:=xs) (by omega) (by omega)).2,swp_next (by omega) (by omega)]))) SubK.nil))
 ·
  refine A4 ?_
  exact xe7 LentC.mk' rfl (.inr rfl) ⟨(congrArg some (show (⟨59,11,true,rV tFa (swpR fa0 a b i xs)⟩:HEnt)=⟨59,11,true,rV tFa (swpR fa0 a b n xs)⟩ by rw [show i=n by omega])),trivial⟩ ⟨⟨rfl,x9⟩,trivial⟩ rfl
theorem c_rotateF (xs:List Fa) {L:Nat} (eL:xs.length=L) (a m b:Nat) {x y u:Int} (ex:x=(a:Int)) (ey:y=(m:Int)) (eu:u=(b:Int)) (h1:a < m) (h2:m < b) (h3:b≤xs.length) (hx:xs.length≤1000000):
  CtG Tryz.prog 221 [(20,⟨59,11,true,rV tFa xs⟩)] [.own (.sl 20 11 0 L),.val (tI x),.val (tI y),.val (tI u),.val (tE (.func (.func 160) #[] #[]))] (.val (tT [])) [(20,⟨59,11,true,rV tFa (rotR a m b xs)⟩)] []:=by
 subst ex ey eu eL
 refine CtG.intro [20] Tryz.func221 rfl Tryz.ntmps221 rfl rfl ⟨⟨rfl,x9⟩,trivial⟩ ?_
 intro w F η
 refine A18 ?_
 refine cL (fun (fm:(List Fa)×(Nat)×(Nat))=>(fun (ys:List Fa) (i:Nat) (j:Nat)=>ys.length=xs.length∧0 < i∧0 < j∧i≤m∧m+j≤b∧rotR (m - i) m (m+j) ys=rotR a m b xs) fm.1 fm.2.1 fm.2.2) (fun (fm:(List Fa)×(Nat)×(Nat))=>(fun (ys:List Fa) (i:Nat) (j:Nat)=>upd (upd (upd (upd (upd (fun _=>none) 0 (some (.own (.sl 20 11 0 xs.length)))) 2 (some (.val (tI m)))) 4 (some (.val (tE (.func (.func 160) #[] #[]))))) 10 (some (.val (tI i)))) 11 (some (.val (tI j)))) fm.1 fm.2.1 fm.2.2) (fun (fm:(List Fa)×(Nat)×(Nat))=>(fun (ys:List Fa) (i:Nat) (j:Nat)=>upd (fun _=>none) 20 (some (⟨59,11,true,rV tFa ys⟩))) fm.1 fm.2.1 fm.2.2) [20] (fun (fm:(List Fa)×(Nat)×(Nat))=>(fun (ys:List Fa) (i:Nat) (j:Nat)=>i+j) fm.1 fm.2.1 fm.2.2) ((xs,m - a,b - m)) (by dsimp only;exact ⟨rfl,by omega,by omega,by omega,by omega,by rw [show m - (m - a)=a by omega,show m+(b - m)=b by omega]⟩) (hg:=((Sub.consI rfl (Imp.int (by dsimp only;omega))) ((Sub.consI rfl (Imp.int (by dsimp only;omega))) (sC (sI (sC Sub.nil)))))) (hh:=((SubK.consI rfl ImpK.refl) SubK.nil)) ?_
 intro fm hI
 obtain ⟨ys,i,j⟩:=fm
 replace hI:ys.length=xs.length∧0 < i∧0 < j∧i≤m∧m+j≤b∧rotR (m - i) m (m+j) ys=rotR a m b xs:=hI
 show wc _ _ _ _ (upd (upd (upd (upd (upd (fun _=>none) 0 (some (.own (.sl 20 11 0 xs.length)))) 2 (some (.val (tI m)))) 4 (some (.val (tE (.func (.func 160) #[] #[]))))) 10 (some (.val (tI i)))) 11 (some (.val (tI j)))) (upd (fun _=>none) 20 (some (⟨59,11,true,rV tFa ys⟩))) _
 obtain ⟨hl,hi,hj,him,hjb,hr⟩:=hI
 refine A8 ?_
 refine x5 rfl (fun h468=> ?_) (fun h468=> ?_)
 ·
  refine A10 ?_
  refine x5 rfl (fun h469=> ?_) (fun h469=> ?_)
  ·
   refine A9 ?_
   refine RE (xa5 (fun _=>20) (c_swapRF ys hl (m - i) m j (by omega) rfl rfl (by omega) (by omega) (by omega)) fi225 rfl (krC (ρ:=fun _=>20) (k:=20) xa2 (krN (ρ:=fun _=>20))) (krC (ρ:=fun _=>20) (k:=20) xa2 (krN (ρ:=fun _=>20))) ⟨⟨rfl,x9⟩,trivial⟩ rfl) ⟨rfl,rfl,rfl,rfl,rfl,trivial⟩ ⟨rfl,trivial⟩ trivial ?_
   refine A9 ?_
   exact kF ((swpR fa0 (m - i) m j ys,i - j,j)) ⟨(by dsimp only;exact ⟨by rw [xe1,hl],by omega,hj,by omega,hjb,by rw [rot_left him (by omega) (by omega),hr]⟩),(by dsimp only;omega)⟩ (hg:=(sI ((Sub.consI rfl (Imp.int (by dsimp only;omega))) (sC (sI (sC Sub.nil)))))) (hh:=((SubK.consI rfl ImpK.refl) SubK.nil))
  ·
   refine A13 ?_
   refine RE (xa5 (fun _=>20) (c_swapRF ys hl (m - i) (m+j - i) i (by omega) (by omega) rfl (by omega) (by omega) (by omega)) fi225 rfl (krC (ρ:=fun _=>20) (k:=20) xa2 (krN (ρ:=fun _=>20))) (krC (ρ:=fun _=>20) (k:=20) xa2 (krN (ρ:=fun _=>20))) ⟨⟨rfl,x9⟩,trivial⟩ rfl) ⟨rfl,rfl,rfl,rfl,rfl,trivial⟩ ⟨rfl,trivial⟩ trivial ?_
   refine A9 ?_
   exact kF ((swpR fa0 (m - i) (m+j - i) i ys,i,j - i)) ⟨(by dsimp only;exact ⟨by rw [xe1,hl],hi,by omega,him,by omega,by rw [rot_right him (by omega) (by omega),hr]⟩),(by dsimp only;omega)⟩ (hg:=((Sub.consI rfl (Imp.int (by dsimp only;omega))) (sI (sC (sI (sC Sub.nil)))))) (hh:=((SubK.consI rfl ImpK.refl) SubK.nil))
 ·
  refine A13 ?_
  refine RE (xa5 (fun _=>20) (c_swapRF ys hl (m - i) m i (by omega) rfl rfl (by omega) (by omega) (by omega)) fi225 rfl (krC (ρ:=fun _=>20) (k:=20) xa2 (krN (ρ:=fun _=>20))) (krC (ρ:=fun _=>20) (k:=20) xa2 (krN (ρ:=fun _=>20))) ⟨⟨rfl,x9⟩,trivial⟩ rfl) ⟨rfl,rfl,rfl,rfl,rfl,trivial⟩ ⟨rfl,trivial⟩ trivial ?_
  refine A1 ?_
  exact xe7 LentC.mk' rfl (.inr rfl) ⟨(congrArg some (show (⟨59,11,true,rV tFa (swpR fa0 (m - i) m i ys)⟩:HEnt)=⟨59,11,true,rV tFa (rotR a m b xs)⟩ by rw [←hr,show j=i by omega,rot_same him (by omega)])),trivial⟩ ⟨⟨rfl,x9⟩,trivial⟩ rfl
theorem c_insSortF (xs:List Fa) {L:Nat} (eL:xs.length=L) (a b:Nat) {x y:Int} (ex:x=(a:Int)) (ey:y=(b:Int)) (h1:a≤b) (h2:b≤xs.length) (hx:xs.length≤1000000):
  CtG Tryz.prog 212 [(20,⟨59,11,true,rV tFa xs⟩)] [.own (.sl 20 11 0 L),.val (tI x),.val (tI y),.val (tE (.func (.func 160) #[] #[]))] (.val (tT [])) [(20,⟨59,11,true,rV tFa (srtR Fa.kn a b xs)⟩)] []:=by
 subst ex ey eL
 refine CtG.intro [20] Tryz.func212 rfl Tryz.ntmps212 rfl rfl ⟨⟨rfl,x9⟩,trivial⟩ ?_
 intro w F η
 refine A8 ?_
 refine cL (fun (fm:(List Fa)×(Nat))=>(fun (ys:List Fa) (i:Nat)=>ys.length=xs.length∧a < i∧(i≤b∨i=a+1)∧Prt Fa.kn fa0 a b xs ys∧SrtP Fa.kn fa0 a i ys) fm.1 fm.2) (fun (fm:(List Fa)×(Nat))=>(fun (ys:List Fa) (i:Nat)=>upd (upd (upd (upd (upd (fun _=>none) 0 (some (.own (.sl 20 11 0 xs.length)))) 1 (some (.val (tI a)))) 2 (some (.val (tI b)))) 3 (some (.val (tE (.func (.func 160) #[] #[]))))) 8 (some (.val (tI i)))) fm.1 fm.2) (fun (fm:(List Fa)×(Nat))=>(fun (ys:List Fa) (i:Nat)=>upd (fun _=>none) 20 (some (⟨59,11,true,rV tFa ys⟩))) fm.1 fm.2) [20] (fun (fm:(List Fa)×(Nat))=>(fun (ys:List Fa) (i:Nat)=>b - i) fm.1 fm.2) ((xs,a+1)) (by dsimp only;exact ⟨rfl,by omega,.inr rfl,Prt.refl ..,fun i j g1 g2 g3=>by omega⟩) (hh:=((SubK.consI rfl ImpK.refl) SubK.nil)) ?_
 intro fm hI
 obtain ⟨ys,i⟩:=fm
 replace hI:ys.length=xs.length∧a < i∧(i≤b∨i=a+1)∧Prt Fa.kn fa0 a b xs ys∧SrtP Fa.kn fa0 a i ys:=hI
 show wc _ _ _ _ (upd (upd (upd (upd (upd (fun _=>none) 0 (some (.own (.sl 20 11 0 xs.length)))) 1 (some (.val (tI a)))) 2 (some (.val (tI b)))) 3 (some (.val (tE (.func (.func 160) #[] #[]))))) 8 (some (.val (tI i)))) (upd (fun _=>none) 20 (some (⟨59,11,true,rV tFa ys⟩))) _
 obtain ⟨hl,hi,hib,hp,hs⟩:=hI
 refine A8 ?_
 refine x5 rfl (fun h11=> ?_) (fun h11=> ?_)
 ·
  refine A11 ?_
  refine cL (fun (fm:(List Fa)×(Nat))=>(fun (zs:List Fa) (j:Nat)=>zs.length=xs.length∧a≤j∧j≤i∧Prt Fa.kn fa0 a b xs zs∧InsP Fa.kn fa0 a i j zs) fm.1 fm.2) (fun (fm:(List Fa)×(Nat))=>(fun (zs:List Fa) (j:Nat)=>upd (upd (upd (upd (upd (upd (fun _=>none) 0 (some (.own (.sl 20 11 0 xs.length)))) 1 (some (.val (tI a)))) 2 (some (.val (tI b)))) 3 (some (.val (tE (.func (.func 160) #[] #[]))))) 8 (some (.val (tI i)))) 9 (some (.val (tI j)))) fm.1 fm.2) (fun (fm:(List Fa)×(Nat))=>(fun (zs:List Fa) (j:Nat)=>upd (fun _=>none) 20 (some (⟨59,11,true,rV tFa zs⟩))) fm.1 fm.2) [20] (fun (fm:(List Fa)×(Nat))=>(fun (zs:List Fa) (j:Nat)=>j) fm.1 fm.2) ((ys,i)) (by dsimp only;exact ⟨hl,by omega,Nat.le_refl _,hp,ins_begin hs⟩) (hh:=((SubK.consI rfl ImpK.refl) SubK.nil)) ?_
  intro fm hI
  obtain ⟨zs,j⟩:=fm
  replace hI:zs.length=xs.length∧a≤j∧j≤i∧Prt Fa.kn fa0 a b xs zs∧InsP Fa.kn fa0 a i j zs:=hI
  show wc _ _ _ _ (upd (upd (upd (upd (upd (upd (fun _=>none) 0 (some (.own (.sl 20 11 0 xs.length)))) 1 (some (.val (tI a)))) 2 (some (.val (tI b)))) 3 (some (.val (tE (.func (.func 160) #[] #[]))))) 8 (some (.val (tI i)))) 9 (some (.val (tI j)))) (upd (fun _=>none) 20 (some (⟨59,11,true,rV tFa zs⟩))) _
  obtain ⟨hzl,haj,hji,hzp,hzi⟩:=hI
  refine A7 ?_
  refine RGcaseD (t:=21) rfl (fun h12=> ?_) (fun h12=> ?_)
  ·
   refine A3 ?_
   refine RGon (decide_eq_true h12) rfl (x7 sl46 (by omega) (by omega) rfl) rfl ⟨rfl,rfl,trivial⟩ trivial trivial (RGon (decide_eq_true h12) rfl (xa6 (j) ti59 (xa8 (f:=tFa) (xs:=zs) (d:=fa0) (by omega)) (by omega)) rfl ⟨rfl,trivial⟩ ⟨rfl,trivial⟩ trivial ?_)
   refine A2 ?_
   refine RGon (decide_eq_true h12) rfl (xe4 (wr64 (by omega) (by omega))) rfl ⟨rfl,rfl,trivial⟩ trivial trivial (RGon (decide_eq_true h12) rfl (x7 sl46 (by omega) (by omega) rfl) rfl ⟨rfl,rfl,trivial⟩ trivial trivial (RGon (decide_eq_true h12) rfl (xa6 (j - 1) ti59 (xa8 (f:=tFa) (xs:=zs) (d:=fa0) (by omega)) (by omega)) rfl ⟨rfl,trivial⟩ ⟨rfl,trivial⟩ trivial (RGon (decide_eq_true h12) rfl (xe9 (c_told11 (zs.getD j fa0) (zs.getD (j - 1) fa0)) fi160 rfl) rfl ⟨rfl,rfl,rfl,trivial⟩ trivial trivial ?_)))
   refine A4 ?_
   refine x5 rfl (fun h12_2=> ?_) (fun h12_2=> ?_)
   ·
    refine A13 ?_
    refine R2 (x7 sl46 (by omega) (by omega) rfl) rfl rfl (RE (xa6 (j - 1) ti59 (xa8 (f:=tFa) (xs:=zs) (d:=fa0) (by omega)) (by omega)) ⟨rfl,trivial⟩ ⟨rfl,trivial⟩ trivial ?_)
    refine A2 ?_
    refine R2 (x7 sl46 (by omega) (by omega) rfl) rfl rfl (RE (xa6 (j) ti59 (xa8 (f:=tFa) (xs:=zs) (d:=fa0) (by omega)) (by omega)) ⟨rfl,trivial⟩ ⟨rfl,trivial⟩ trivial (R2 (x7 sl46 (by omega) (by omega) rfl) rfl rfl (RE (xb2 (j) ti59 (xh8 (by omega)) (by omega) (xe6 (m:=(zs.getD (j - 1) fa0)) rfl)) ⟨rfl,rfl,trivial⟩ ⟨rfl,trivial⟩ trivial (R2 (x7 sl46 (by omega) (by omega) rfl) rfl rfl (RE (xb2 (j - 1) ti59 (xh8 (by rw [List.length_set];omega)) (by omega) (xe6 (m:=(zs.getD j fa0)) rfl)) ⟨rfl,rfl,trivial⟩ ⟨rfl,trivial⟩ trivial ?_)))))
    refine A8 ?_
    obtain ⟨q,rfl⟩: ∃q,j=q+1:=⟨j - 1,by omega⟩
    have hlt:=xn9.1 h12_2
    rw [show q+1 - 1=q by omega] at*
    have e1:((zs.set (q+1) (zs.getD q fa0)).set q (zs.getD (q+1) fa0))=swp1 fa0 q zs:=by rw [swp1,List.set_comm _ _ (by omega)]
    exact kF ((swp1 fa0 q zs,q)) ⟨(by dsimp only;exact ⟨by rw [swp1_len,hzl],by omega,by omega,hzp.trans (swp1_prt (by omega) (by omega) (by omega) hlt),ins_step hzi (by omega) (by omega) (by omega) hlt⟩),(by dsimp only;omega)⟩ (hg:=((Sub.consI rfl (Imp.int (by dsimp only;omega))) (sI (sC (sI (sI (sC Sub.nil))))))) (hh:=((SubK.consI rfl (ImpK.of (by rw [e1]))) SubK.nil))
   ·
    refine A11 ?_
    exact kF ((zs,i+1)) ⟨(by dsimp only;exact ⟨hzl,by omega,.inl (by omega),hzp,ins_end hzi (by omega) (fun hh=>by first | omega | exact Int.not_lt.1 (fun hc=>h12_2 (xn9.2 hc)))⟩),(by dsimp only;omega)⟩ (hh:=((SubK.consI rfl ImpK.refl) SubK.nil))
  ·
   refine A18 ?_
   refine A9 ?_
   exact kF ((zs,i+1)) ⟨(by dsimp only;exact ⟨hzl,by omega,.inl (by omega),hzp,ins_end hzi (by omega) (fun hh=>by first | omega | exact Int.not_lt.1 (fun hc=>h12_2 (xn9.2 hc)))⟩),(by dsimp only;omega)⟩ (hh:=((SubK.consI rfl ImpK.refl) SubK.nil))
 ·
  refine A4 ?_
  exact xe7 LentC.mk' rfl (.inr rfl) ⟨(congrArg some (show (⟨59,11,true,rV tFa ys⟩:HEnt)=⟨59,11,true,rV tFa (srtR Fa.kn a b xs)⟩ by rw [xp7 h1 h2 hp (hs.sub (Nat.le_refl _) (by omega))])),trivial⟩ ⟨⟨rfl,x9⟩,trivial⟩ rfl
instance fi190:FnI Tryz.prog 190:=⟨_,Tryz.func190,by kernel_rfl,rfl⟩
instance fi212:FnI Tryz.prog 212:=⟨_,Tryz.func212,by kernel_rfl,rfl⟩
instance fi213:FnI Tryz.prog 213:=⟨_,Tryz.func213,by kernel_rfl,rfl⟩
instance fi221:FnI Tryz.prog 221:=⟨_,Tryz.func221,by kernel_rfl,rfl⟩
instance un46:UnI Tryz.prog 46 (.slice 59):=⟨Tryz.underlying46⟩
def SymIHF (n:Nat):Prop:= ∀(xs:List Fa) (a m b:Nat) {L:Nat} {x y u:Int},xs.length=L→x=(a:Int)→y=(m:Int)→u=(b:Int)→a < m→m < b→b≤xs.length→xs.length≤1000000→SrtP Fa.kn fa0 a m xs→SrtP Fa.kn fa0 m b xs→b - a < n→CtG Tryz.prog 213 [(20,⟨59,11,true,rV tFa xs⟩)] [.own (.sl 20 11 0 L),.val (tI x),.val (tI y),.val (tI u),.val (tE (.func (.func 160) #[] #[]))] (.val (tT [])) [(20,⟨59,11,true,rV tFa (srtR Fa.kn a b xs)⟩)] []
theorem c_symStepF (n:Nat) (ih:SymIHF n) (xs:List Fa) (a m b:Nat) {L:Nat} {x y u:Int} (eL:xs.length=L) (ex:x=(a:Int)) (ey:y=(m:Int)) (eu:u=(b:Int)) (hab:a < m) (hmb:m < b) (h3:b≤xs.length) (hx:xs.length≤1000000) (hs1:SrtP Fa.kn fa0 a m xs) (hs2:SrtP Fa.kn fa0 m b xs) (hn:b - a≤n):
  CtG Tryz.prog 213 [(20,⟨59,11,true,rV tFa xs⟩)] [.own (.sl 20 11 0 L),.val (tI x),.val (tI y),.val (tI u),.val (tE (.func (.func 160) #[] #[]))] (.val (tT [])) [(20,⟨59,11,true,rV tFa (srtR Fa.kn a b xs)⟩)] []:=by
 subst ex ey eu eL
 refine CtG.intro [20] Tryz.func213 rfl Tryz.ntmps213 rfl rfl ⟨⟨rfl,x9⟩,trivial⟩ ?_
 intro w F η
 refine A9 ?_
 refine x5 rfl (fun h382=> ?_) (fun h382=> ?_)
 ·
  refine A14 ?_
  refine cL (fun (fm:(Nat)×(Nat))=>(fun (p:Nat) (q:Nat)=>m≤p∧p≤q∧q≤b∧(∀t,m≤t→t < p→Fa.kn (xs.getD t fa0) < Fa.kn (xs.getD a fa0))∧ ∀t,q≤t→t < b→Fa.kn (xs.getD a fa0)≤Fa.kn (xs.getD t fa0)) fm.1 fm.2) (fun (fm:(Nat)×(Nat))=>(fun (p:Nat) (q:Nat)=>upd (upd (upd (upd (upd (upd (upd (fun _=>none) 0 (some (.own (.sl 20 11 0 xs.length)))) 1 (some (.val (tI a)))) 2 (some (.val (tI m)))) 3 (some (.val (tI b)))) 4 (some (.val (tE (.func (.func 160) #[] #[]))))) 10 (some (.val (tI p)))) 11 (some (.val (tI q)))) fm.1 fm.2) (fun (fm:(Nat)×(Nat))=>(fun (p:Nat) (q:Nat)=>upd (fun _=>none) 20 (some (⟨59,11,true,rV tFa xs⟩))) fm.1 fm.2) [20] (fun (fm:(Nat)×(Nat))=>(fun (p:Nat) (q:Nat)=>q - p) fm.1 fm.2) ((m,b)) (by dsimp only;exact ⟨Nat.le_refl _,by omega,Nat.le_refl _,fun t g1 g2=>by omega,fun t g1 g2=>by omega⟩) (hh:=((SubK.consI rfl ImpK.refl) SubK.nil)) ?_
  intro fm hI
  obtain ⟨p,q⟩:=fm
  replace hI:m≤p∧p≤q∧q≤b∧(∀t,m≤t→t < p→Fa.kn (xs.getD t fa0) < Fa.kn (xs.getD a fa0))∧ ∀t,q≤t→t < b→Fa.kn (xs.getD a fa0)≤Fa.kn (xs.getD t fa0):=hI
  show wc _ _ _ _ (upd (upd (upd (upd (upd (upd (upd (fun _=>none) 0 (some (.own (.sl 20 11 0 xs.length)))) 1 (some (.val (tI a)))) 2 (some (.val (tI m)))) 3 (some (.val (tI b)))) 4 (some (.val (tE (.func (.func 160) #[] #[]))))) 10 (some (.val (tI p)))) 11 (some (.val (tI q)))) (upd (fun _=>none) 20 (some (⟨59,11,true,rV tFa xs⟩))) _
  obtain ⟨hlp,hpq,hqh,hf,hg⟩:=hI
  refine A8 ?_
  refine x5 rfl (fun h388=> ?_) (fun h388=> ?_)
  ·
   refine A8 ?_
   refine R1 (x6 Tryz.underlying139 (isS Tryz.underlying3) (by first | exact wu64 (by omega) (by omega) | exact mu64)) rfl (R2 (xf0 (r:=((((p+q) / 2):Nat):Int)) (by decide) ((shrN (s:=1) rfl (by decide)).trans (by simp))) rfl rfl (R1 (x6 Tryz.underlying3 (isS Tryz.underlying139) (wr64 (by omega) (by omega))) rfl ?_))
   refine A8 ?_
   refine R2 (x7 sl46 (by omega) (by omega) rfl) rfl rfl (RE (xa6 (((p+q) / 2)) ti59 (xa8 (f:=tFa) (xs:=xs) (d:=fa0) (by omega)) (by omega)) ⟨rfl,trivial⟩ ⟨rfl,trivial⟩ trivial ?_)
   refine A2 ?_
   refine R2 (x7 sl46 (by omega) (by omega) rfl) rfl rfl (RE (xa6 (a) ti59 (xa8 (f:=tFa) (xs:=xs) (d:=fa0) (by omega)) (by omega)) ⟨rfl,trivial⟩ ⟨rfl,trivial⟩ trivial (R3 (xe9 (c_told11 (xs.getD ((p+q) / 2) fa0) (xs.getD a fa0)) fi160 rfl) rfl rfl rfl ?_))
   refine A3 ?_
   refine x5 rfl (fun h390=> ?_) (fun h390=> ?_)
   ·
    refine A6 ?_
    have hc:=xn9.1 h390
    exact kF ((((p+q) / 2)+1,q)) ⟨(by dsimp only;exact ⟨by omega,by omega,hqh,fun t g1 g2=>by have:=hs2.le (i:=t) (j:=((p+q) / 2)) (by omega) (by omega) (by omega);omega,hg⟩),(by dsimp only;omega)⟩ (hg:=(sI ((Sub.consI rfl (Imp.int (by dsimp only;omega))) (sC (sI (sI (sI (sC Sub.nil)))))))) (hh:=((SubK.consI rfl ImpK.refl) SubK.nil))
   ·
    refine A5 ?_
    have hc:=fun hh=>h390 (xn9.2 hh)
    exact kF ((p,((p+q) / 2))) ⟨(by dsimp only;exact ⟨hlp,by omega,by omega,hf,fun t g1 g2=>by have:=hs2.le (i:=((p+q) / 2)) (j:=t) (by omega) (by omega) (by omega);have:=Int.not_lt.1 hc;omega⟩),(by dsimp only;omega)⟩ (hh:=((SubK.consI rfl ImpK.refl) SubK.nil))
  ·
   refine A13 ?_
   refine cL (fun (t:Nat)=>a+1+t≤p) (fun (t:Nat)=>upd (upd (upd (fun _=>none) 0 (some (.own (.sl 20 11 0 xs.length)))) 10 (some (.val (tI p)))) 13 (some (.val (tI ((a:Int)+(t:Int)))))) (fun (t:Nat)=>upd (fun _=>none) 20 (some (⟨59,11,true,rV tFa (rotR a (a+1) (a+1+t) xs)⟩))) [20] (fun (t:Nat)=>p - t) (0) (by omega) (hg:=((Sub.consI rfl (Imp.int (by simp))) (sI (sC Sub.nil)))) (hh:=((SubK.consI rfl (ImpK.of (by rw [rot_none2 fa0 (by omega) (by omega)]))) SubK.nil)) ?_
   intro t hI
   refine A9 ?_
   refine x5 rfl (fun h397=> ?_) (fun h397=> ?_)
   ·
    refine A13 ?_
    refine R2 (x7 sl46 (by omega) (by omega) rfl) rfl rfl (RE (xa6 (a+t+1) ti59 (xa8 (f:=tFa) (xs:=(rotR a (a+1) (a+1+t) xs)) (d:=fa0) (by rw [xc4 (by omega) (by omega) (by omega)];omega)) (by omega)) ⟨rfl,trivial⟩ ⟨rfl,trivial⟩ trivial ?_)
    refine A2 ?_
    refine R2 (x7 sl46 (by omega) (by omega) rfl) rfl rfl (RE (xa6 (a+t) ti59 (xa8 (f:=tFa) (xs:=(rotR a (a+1) (a+1+t) xs)) (d:=fa0) (by rw [xc4 (by omega) (by omega) (by omega)];omega)) (by omega)) ⟨rfl,trivial⟩ ⟨rfl,trivial⟩ trivial (R2 (x7 sl46 (by omega) (by omega) rfl) rfl rfl (RE (xb2 (a+t) ti59 (xh8 (by rw [xc4 (by omega) (by omega) (by omega)];omega)) (by omega) (xe6 (m:=((rotR a (a+1) (a+1+t) xs).getD (a+t+1) fa0)) rfl)) ⟨rfl,rfl,trivial⟩ ⟨rfl,trivial⟩ trivial (R2 (x7 sl46 (by omega) (by omega) rfl) rfl rfl (RE (xb2 (a+t+1) ti59 (xh8 (by rw [List.length_set,xc4 (by omega) (by omega) (by omega)];omega)) (by omega) (xe6 (m:=((rotR a (a+1) (a+1+t) xs).getD (a+t) fa0)) rfl)) ⟨rfl,rfl,trivial⟩ ⟨rfl,trivial⟩ trivial ?_)))))
    refine A8 ?_
    have hup:=rot_up (d:=fa0) (a:=a) (t:=t) (xs:=xs) (by omega)
    exact kF (t+1) ⟨(by omega),(by omega)⟩ (hg:=((Sub.consI rfl (Imp.int (by omega))) (sI (sC Sub.nil)))) (hh:=((SubK.consI rfl (ImpK.of (by rw [show a+1+(t+1)=a+2+t by omega,←hup];rfl))) SubK.nil))
   ·
    refine A7 ?_
    exact xe7 LentC.mk' rfl (.inl rfl) ⟨(congrArg some (show (⟨59,11,true,rV tFa (rotR a (a+1) (a+1+t) xs)⟩:HEnt)=⟨59,11,true,rV tFa (srtR Fa.kn a b xs)⟩ by have hm1:m=a+1:=(by omega);subst hm1;rw [show a+1+t=p by omega,merge_first hs2 h3 (by omega) (by omega) hf (fun t g1 g2=>hg t (by omega) g2)])),trivial⟩ ⟨⟨rfl,x9⟩,trivial⟩ rfl
 ·
  refine A11 ?_
  refine x5 rfl (fun h406=> ?_) (fun h406=> ?_)
  ·
   refine A14 ?_
   refine cL (fun (fm:(Nat)×(Nat))=>(fun (p:Nat) (q:Nat)=>a≤p∧p≤q∧q≤m∧(∀t,a≤t→t < p→Fa.kn (xs.getD t fa0)≤Fa.kn (xs.getD m fa0))∧ ∀t,q≤t→t < m→Fa.kn (xs.getD m fa0) < Fa.kn (xs.getD t fa0)) fm.1 fm.2) (fun (fm:(Nat)×(Nat))=>(fun (p:Nat) (q:Nat)=>upd (upd (upd (upd (upd (upd (upd (fun _=>none) 0 (some (.own (.sl 20 11 0 xs.length)))) 1 (some (.val (tI a)))) 2 (some (.val (tI m)))) 3 (some (.val (tI b)))) 4 (some (.val (tE (.func (.func 160) #[] #[]))))) 14 (some (.val (tI p)))) 15 (some (.val (tI q)))) fm.1 fm.2) (fun (fm:(Nat)×(Nat))=>(fun (p:Nat) (q:Nat)=>upd (fun _=>none) 20 (some (⟨59,11,true,rV tFa xs⟩))) fm.1 fm.2) [20] (fun (fm:(Nat)×(Nat))=>(fun (p:Nat) (q:Nat)=>q - p) fm.1 fm.2) ((a,m)) (by dsimp only;exact ⟨Nat.le_refl _,by omega,Nat.le_refl _,fun t g1 g2=>by omega,fun t g1 g2=>by omega⟩) (hh:=((SubK.consI rfl ImpK.refl) SubK.nil)) ?_
   intro fm hI
   obtain ⟨p,q⟩:=fm
   replace hI:a≤p∧p≤q∧q≤m∧(∀t,a≤t→t < p→Fa.kn (xs.getD t fa0)≤Fa.kn (xs.getD m fa0))∧ ∀t,q≤t→t < m→Fa.kn (xs.getD m fa0) < Fa.kn (xs.getD t fa0):=hI
   show wc _ _ _ _ (upd (upd (upd (upd (upd (upd (upd (fun _=>none) 0 (some (.own (.sl 20 11 0 xs.length)))) 1 (some (.val (tI a)))) 2 (some (.val (tI m)))) 3 (some (.val (tI b)))) 4 (some (.val (tE (.func (.func 160) #[] #[]))))) 14 (some (.val (tI p)))) 15 (some (.val (tI q)))) (upd (fun _=>none) 20 (some (⟨59,11,true,rV tFa xs⟩))) _
   obtain ⟨hlp,hpq,hqh,hf,hg⟩:=hI
   refine A8 ?_
   refine x5 rfl (fun h412=> ?_) (fun h412=> ?_)
   ·
    refine A8 ?_
    refine R1 (x6 Tryz.underlying139 (isS Tryz.underlying3) (by first | exact wu64 (by omega) (by omega) | exact mu64)) rfl (R2 (xf0 (r:=((((p+q) / 2):Nat):Int)) (by decide) ((shrN (s:=1) rfl (by decide)).trans (by simp))) rfl rfl (R1 (x6 Tryz.underlying3 (isS Tryz.underlying139) (wr64 (by omega) (by omega))) rfl ?_))
    refine A8 ?_
    refine R2 (x7 sl46 (by omega) (by omega) rfl) rfl rfl (RE (xa6 (m) ti59 (xa8 (f:=tFa) (xs:=xs) (d:=fa0) (by omega)) (by omega)) ⟨rfl,trivial⟩ ⟨rfl,trivial⟩ trivial ?_)
    refine A2 ?_
    refine R2 (x7 sl46 (by omega) (by omega) rfl) rfl rfl (RE (xa6 (((p+q) / 2)) ti59 (xa8 (f:=tFa) (xs:=xs) (d:=fa0) (by omega)) (by omega)) ⟨rfl,trivial⟩ ⟨rfl,trivial⟩ trivial (R3 (xe9 (c_told11 (xs.getD m fa0) (xs.getD ((p+q) / 2) fa0)) fi160 rfl) rfl rfl rfl ?_))
    refine A4 ?_
    refine C_ifn rfl (fun h414=> ?_) (fun h414=> ?_)
    ·
     refine A6 ?_
     have hc:=fun hh=>h414 (xn9.2 hh)
     exact kF ((((p+q) / 2)+1,q)) ⟨(by dsimp only;exact ⟨by omega,by omega,hqh,fun t g1 g2=>by have:=hs1.le (i:=t) (j:=((p+q) / 2)) (by omega) (by omega) (by omega);have:=Int.not_lt.1 hc;omega,hg⟩),(by dsimp only;omega)⟩ (hg:=(sI ((Sub.consI rfl (Imp.int (by dsimp only;omega))) (sC (sI (sI (sI (sC Sub.nil)))))))) (hh:=((SubK.consI rfl ImpK.refl) SubK.nil))
    ·
     refine A5 ?_
     have hc:=xn9.1 h414
     exact kF ((p,((p+q) / 2))) ⟨(by dsimp only;exact ⟨hlp,by omega,by omega,hf,fun t g1 g2=>by have:=hs1.le (i:=((p+q) / 2)) (j:=t) (by omega) (by omega) (by omega);omega⟩),(by dsimp only;omega)⟩ (hh:=((SubK.consI rfl ImpK.refl) SubK.nil))
   ·
    refine A13 ?_
    refine cL (fun (t:Nat)=>p≤t∧t≤m) (fun (t:Nat)=>upd (upd (upd (fun _=>none) 0 (some (.own (.sl 20 11 0 xs.length)))) 14 (some (.val (tI p)))) 17 (some (.val (tI t)))) (fun (t:Nat)=>upd (fun _=>none) 20 (some (⟨59,11,true,rV tFa (rotR t m (m+1) xs)⟩))) [20] (fun (t:Nat)=>t) (m) ⟨by omega,Nat.le_refl _⟩ (hh:=((SubK.consI rfl (ImpK.of (by rw [rot_none1 fa0 (by omega) (by omega)]))) SubK.nil)) ?_
    intro t hI
    obtain ⟨ht1,ht2⟩:=hI
    refine A8 ?_
    refine x5 rfl (fun h421=> ?_) (fun h421=> ?_)
    ·
     refine A13 ?_
     refine R2 (x7 sl46 (by omega) (by omega) rfl) rfl rfl (RE (xa6 (t - 1) ti59 (xa8 (f:=tFa) (xs:=(rotR t m (m+1) xs)) (d:=fa0) (by rw [xc4 (by omega) (by omega) (by omega)];omega)) (by omega)) ⟨rfl,trivial⟩ ⟨rfl,trivial⟩ trivial ?_)
     refine A2 ?_
     refine R2 (x7 sl46 (by omega) (by omega) rfl) rfl rfl (RE (xa6 (t) ti59 (xa8 (f:=tFa) (xs:=(rotR t m (m+1) xs)) (d:=fa0) (by rw [xc4 (by omega) (by omega) (by omega)];omega)) (by omega)) ⟨rfl,trivial⟩ ⟨rfl,trivial⟩ trivial (R2 (x7 sl46 (by omega) (by omega) rfl) rfl rfl (RE (xb2 (t) ti59 (xh8 (by rw [xc4 (by omega) (by omega) (by omega)];omega)) (by omega) (xe6 (m:=((rotR t m (m+1) xs).getD (t - 1) fa0)) rfl)) ⟨rfl,rfl,trivial⟩ ⟨rfl,trivial⟩ trivial (R2 (x7 sl46 (by omega) (by omega) rfl) rfl rfl (RE (xb2 (t - 1) ti59 (xh8 (by rw [List.length_set,xc4 (by omega) (by omega) (by omega)];omega)) (by omega) (xe6 (m:=((rotR t m (m+1) xs).getD (t) fa0)) rfl)) ⟨rfl,rfl,trivial⟩ ⟨rfl,trivial⟩ trivial ?_)))))
     refine A8 ?_
     obtain ⟨j,rfl⟩: ∃j,t=j+1:=⟨t - 1,by omega⟩
     have hdn:=rot_down (d:=fa0) (j:=j) (m:=m) (xs:=xs) (by omega) (by omega)
     rw [swp1,List.set_comm _ _ (by omega)] at hdn
     exact kF (j) ⟨⟨by omega,by omega⟩,(by omega)⟩ (hg:=((Sub.consI rfl (Imp.int (by omega))) (sI (sC Sub.nil)))) (hh:=((SubK.consI rfl (ImpK.of (by rw [←hdn];rfl))) SubK.nil))
    ·
     refine A7 ?_
     exact xe7 LentC.mk' rfl (.inl rfl) ⟨(congrArg some (show (⟨59,11,true,rV tFa (rotR t m (m+1) xs)⟩:HEnt)=⟨59,11,true,rV tFa (srtR Fa.kn a b xs)⟩ by have hb1:b=m+1:=(by omega);subst hb1;rw [show t=p by omega,merge_last hs1 (by omega) (by omega) (by omega) hf (fun t g1 g2=>hg t (by omega) g2)])),trivial⟩ ⟨⟨rfl,x9⟩,trivial⟩ rfl
  ·
   refine A7 ?_
   refine R1 (x6 Tryz.underlying139 (isS Tryz.underlying3) (by first | exact wu64 (by omega) (by omega) | exact mu64)) rfl (R2 (xf0 (r:=((((a+b) / 2):Nat):Int)) (by decide) ((shrN (s:=1) rfl (by decide)).trans (by simp))) rfl rfl (R1 (x6 Tryz.underlying3 (isS Tryz.underlying139) (wr64 (by omega) (by omega))) rfl ?_))
   refine A4 ?_
   obtain ⟨mid,hmid⟩: ∃mid,mid=((a+b) / 2):=⟨_,rfl⟩
   rw [←hmid]
   refine A13 ?_
   refine xg1 (fun (fm:(Nat)×(Nat))=>(fun (s0:Nat) (r0:Nat)=>((mid < m∧s0=mid+m - b∧r0=mid)∨(m≤mid∧s0=a∧r0=m))) fm.1 fm.2) (fun (fm:(Nat)×(Nat))=>(fun (s0:Nat) (r0:Nat)=>upd (upd (upd (upd (upd (upd (upd (upd (upd (fun _=>none) 0 (some (.own (.sl 20 11 0 xs.length)))) 1 (some (.val (tI a)))) 2 (some (.val (tI m)))) 3 (some (.val (tI b)))) 4 (some (.val (tE (.func (.func 160) #[] #[]))))) 18 (some (.val (tI mid)))) 19 (some (.val (tI ((mid:Int)+(m:Int)))))) 20 (some (.val (tI s0)))) 21 (some (.val (tI r0)))) fm.1 fm.2) (fun (fm:(Nat)×(Nat))=>(fun (s0:Nat) (r0:Nat)=>upd (fun _=>none) 20 (some (⟨59,11,true,rV tFa xs⟩))) fm.1 fm.2) (nm [20]) ?_ ?_
   ·
    refine A7 ?_
    refine x5 rfl (fun h430=> ?_) (fun h430=> ?_)
    ·
     refine A12 ?_
     exact kF ((mid+m - b,mid)) (by dsimp only;exact (.inl ⟨by omega,rfl,rfl⟩)) (hg:=(sI ((Sub.consI rfl (Imp.int (by dsimp only;omega))) (sI (sI (sC (sI (sI (sI (sC Sub.nil)))))))))) (hh:=((SubK.consI rfl ImpK.refl) SubK.nil))
    ·
     refine A10 ?_
     exact kF ((a,m)) (by dsimp only;exact (.inr ⟨by omega,rfl,rfl⟩)) (hh:=((SubK.consI rfl ImpK.refl) SubK.nil))
   ·
    intro fm hsr
    obtain ⟨s0,r0⟩:=fm
    replace hsr:((mid < m∧s0=mid+m - b∧r0=mid)∨(m≤mid∧s0=a∧r0=m)):=hsr
    show wc _ _ _ _ (upd (upd (upd (upd (upd (upd (upd (upd (upd (fun _=>none) 0 (some (.own (.sl 20 11 0 xs.length)))) 1 (some (.val (tI a)))) 2 (some (.val (tI m)))) 3 (some (.val (tI b)))) 4 (some (.val (tE (.func (.func 160) #[] #[]))))) 18 (some (.val (tI mid)))) 19 (some (.val (tI ((mid:Int)+(m:Int)))))) 20 (some (.val (tI s0)))) 21 (some (.val (tI r0)))) (upd (fun _=>none) 20 (some (⟨59,11,true,rV tFa xs⟩))) _
    refine A9 ?_
    refine cL (fun (fm:(Nat)×(Nat))=>(fun (s:Nat) (r:Nat)=>s0≤s∧s≤r∧r≤r0∧(∀t,s0≤t→t < s→Fa.kn (xs.getD t fa0)≤Fa.kn (xs.getD (mid+m - 1 - t) fa0))∧ ∀t,r≤t→t < r0→Fa.kn (xs.getD (mid+m - 1 - t) fa0) < Fa.kn (xs.getD t fa0)) fm.1 fm.2) (fun (fm:(Nat)×(Nat))=>(fun (s:Nat) (r:Nat)=>upd (upd (upd (upd (upd (upd (upd (upd (upd (upd (fun _=>none) 0 (some (.own (.sl 20 11 0 xs.length)))) 1 (some (.val (tI a)))) 2 (some (.val (tI m)))) 3 (some (.val (tI b)))) 4 (some (.val (tE (.func (.func 160) #[] #[]))))) 18 (some (.val (tI mid)))) 19 (some (.val (tI ((mid:Int)+(m:Int)))))) 20 (some (.val (tI s)))) 21 (some (.val (tI r)))) 22 (some (.val (tI ((mid:Int)+(m:Int) - 1))))) fm.1 fm.2) (fun (fm:(Nat)×(Nat))=>(fun (s:Nat) (r:Nat)=>upd (fun _=>none) 20 (some (⟨59,11,true,rV tFa xs⟩))) fm.1 fm.2) [20] (fun (fm:(Nat)×(Nat))=>(fun (s:Nat) (r:Nat)=>r - s) fm.1 fm.2) ((s0,r0)) (by dsimp only;exact ⟨Nat.le_refl _,by omega,Nat.le_refl _,fun t g1 g2=>by omega,fun t g1 g2=>by omega⟩) (hh:=((SubK.consI rfl ImpK.refl) SubK.nil)) ?_
    intro fm hI
    obtain ⟨s,r⟩:=fm
    replace hI:s0≤s∧s≤r∧r≤r0∧(∀t,s0≤t→t < s→Fa.kn (xs.getD t fa0)≤Fa.kn (xs.getD (mid+m - 1 - t) fa0))∧ ∀t,r≤t→t < r0→Fa.kn (xs.getD (mid+m - 1 - t) fa0) < Fa.kn (xs.getD t fa0):=hI
    show wc _ _ _ _ (upd (upd (upd (upd (upd (upd (upd (upd (upd (upd (fun _=>none) 0 (some (.own (.sl 20 11 0 xs.length)))) 1 (some (.val (tI a)))) 2 (some (.val (tI m)))) 3 (some (.val (tI b)))) 4 (some (.val (tE (.func (.func 160) #[] #[]))))) 18 (some (.val (tI mid)))) 19 (some (.val (tI ((mid:Int)+(m:Int)))))) 20 (some (.val (tI s)))) 21 (some (.val (tI r)))) 22 (some (.val (tI ((mid:Int)+(m:Int) - 1))))) (upd (fun _=>none) 20 (some (⟨59,11,true,rV tFa xs⟩))) _
    obtain ⟨hss,hsr1,hrr,hf,hg⟩:=hI
    refine A8 ?_
    refine x5 rfl (fun h439=> ?_) (fun h439=> ?_)
    ·
     refine A8 ?_
     refine R1 (x6 Tryz.underlying139 (isS Tryz.underlying3) (by first | exact wu64 (by omega) (by omega) | exact mu64)) rfl (R2 (xf0 (r:=((((s+r) / 2):Nat):Int)) (by decide) ((shrN (s:=1) rfl (by decide)).trans (by simp))) rfl rfl (R1 (x6 Tryz.underlying3 (isS Tryz.underlying139) (wr64 (by omega) (by omega))) rfl ?_))
     refine A10 ?_
     refine R2 (x7 sl46 (by omega) (by omega) rfl) rfl rfl (RE (xa6 (mid+m - 1 - (s+r) / 2) ti59 (xa8 (f:=tFa) (xs:=xs) (d:=fa0) (by omega)) (by omega)) ⟨rfl,trivial⟩ ⟨rfl,trivial⟩ trivial ?_)
     refine A2 ?_
     refine R2 (x7 sl46 (by omega) (by omega) rfl) rfl rfl (RE (xa6 ((s+r) / 2) ti59 (xa8 (f:=tFa) (xs:=xs) (d:=fa0) (by omega)) (by omega)) ⟨rfl,trivial⟩ ⟨rfl,trivial⟩ trivial (R3 (xe9 (c_told11 (xs.getD (mid+m - 1 - (s+r) / 2) fa0) (xs.getD ((s+r) / 2) fa0)) fi160 rfl) rfl rfl rfl ?_))
     refine A4 ?_
     refine C_ifn rfl (fun h441=> ?_) (fun h441=> ?_)
     ·
      refine A6 ?_
      have hc:=Int.not_lt.1 (fun hh=>h441 (xn9.2 hh))
      exact kF (((s+r) / 2+1,r)) ⟨(by dsimp only;exact ⟨by omega,by omega,hrr,fun t g1 g2=>by have q1:=hs1.le (i:=t) (j:=(s+r) / 2) (by omega) (by omega) (by omega);have q2:=hs2.le (i:=mid+m - 1 - (s+r) / 2) (j:=mid+m - 1 - t) (by omega) (by omega) (by omega);omega,hg⟩),(by dsimp only;omega)⟩ (hg:=(sI (sI ((Sub.consI rfl (Imp.int (by dsimp only;omega))) (sI (sI (sC (sI (sI (sI (sC Sub.nil))))))))))) (hh:=((SubK.consI rfl ImpK.refl) SubK.nil))
     ·
      refine A5 ?_
      have hc:=xn9.1 h441
      exact kF ((s,(s+r) / 2)) ⟨(by dsimp only;exact ⟨hss,by omega,by omega,hf,fun t g1 g2=>by have q1:=hs1.le (i:=(s+r) / 2) (j:=t) (by omega) (by omega) (by omega);have q2:=hs2.le (i:=mid+m - 1 - t) (j:=mid+m - 1 - (s+r) / 2) (by omega) (by omega) (by omega);omega⟩),(by dsimp only;omega)⟩ (hh:=((SubK.consI rfl ImpK.refl) SubK.nil))
    ·
     refine A6 ?_
     have hcut:=cut_of (s:=s) hab hmb hmid hs1 hs2 hsr hss (by omega) hf (fun c g1 g2=>hg c (by omega) g2)
     have hct1:=hcut.sm
     have hct2:=hcut.me
     have hct3:=hcut.eb
     have hct4:=hcut.la
     have hct5:=hcut.hm
     have hpr:=hcut.prt h3
     refine A7 ?_
     refine xg1 (fun (_j:Unit)=>True) (fun (_j:Unit)=>upd (upd (upd (upd (upd (upd (upd (upd (fun _=>none) 0 (some (.own (.sl 20 11 0 xs.length)))) 1 (some (.val (tI a)))) 2 (some (.val (tI m)))) 3 (some (.val (tI b)))) 4 (some (.val (tE (.func (.func 160) #[] #[]))))) 18 (some (.val (tI mid)))) 20 (some (.val (tI s)))) 24 (some (.val (tI ((mid+m - s:Nat):Int))))) (fun (_j:Unit)=>upd (fun _=>none) 20 (some (⟨59,11,true,rV tFa (rotR s m (mid+m - s) xs)⟩))) (nm [20]) ?_ ?_
     ·
      refine A6 ?_
      refine RGcaseD (t:=181) rfl (fun h449=> ?_) (fun h449=> ?_)
      ·
       refine A6 ?_
       refine x5 rfl (fun h449_2=> ?_) (fun h449_2=> ?_)
       ·
        refine A6 ?_
        refine RE (xa5 (fun _=>20) (c_rotateF xs rfl s m (mid+m - s) rfl rfl (by omega) (by omega) (by omega) (by omega) (by omega)) fi221 rfl (krC (ρ:=fun _=>20) (k:=20) xa2 (krN (ρ:=fun _=>20))) (krC (ρ:=fun _=>20) (k:=20) xa2 (krN (ρ:=fun _=>20))) ⟨⟨rfl,x9⟩,trivial⟩ rfl) ⟨rfl,rfl,rfl,rfl,rfl,trivial⟩ ⟨rfl,trivial⟩ trivial ?_
        refine A1 ?_
        exact kF (()) trivial (hh:=((SubK.consI rfl ImpK.refl) SubK.nil))
       ·
        refine A1 ?_
        exact kF (()) trivial (hh:=((SubK.consI rfl (ImpK.of (by rw [show mid+m - s=m by omega,rot_none2 fa0 (by omega) (by omega)]))) SubK.nil))
      ·
       refine A8 ?_
       exact kF (()) trivial (hh:=((SubK.consI rfl (ImpK.of (by rw [show s=m by omega,rot_none1 fa0 (by omega) (by omega)]))) SubK.nil))
     ·
      intro _j hj449
      refine xg1 (fun (_j:Unit)=>True) (fun (_j:Unit)=>upd (upd (upd (upd (upd (upd (upd (upd (fun _=>none) 0 (some (.own (.sl 20 11 0 xs.length)))) 1 (some (.val (tI a)))) 2 (some (.val (tI m)))) 3 (some (.val (tI b)))) 4 (some (.val (tE (.func (.func 160) #[] #[]))))) 18 (some (.val (tI mid)))) 20 (some (.val (tI s)))) 24 (some (.val (tI ((mid+m - s:Nat):Int))))) (fun (_j:Unit)=>upd (fun _=>none) 20 (some (⟨59,11,true,rV tFa (srtR Fa.kn a mid (rotR s m (mid+m - s) xs))⟩))) (nm [20]) ?_ ?_
      ·
       refine A6 ?_
       refine RGcaseD (t:=195) rfl (fun h452=> ?_) (fun h452=> ?_)
       ·
        refine A6 ?_
        refine x5 rfl (fun h452_2=> ?_) (fun h452_2=> ?_)
        ·
         refine A6 ?_
         refine RE (xa5 (fun _=>20) (ih (rotR s m (mid+m - s) xs) a s mid hpr.len rfl rfl rfl (by omega) (by omega) (by rw [hpr.len];omega) (by rw [hpr.len];omega) (hcut.left1 h3 hs1) (hcut.left2 h3 hs2) (by omega)) fi213 rfl (krC (ρ:=fun _=>20) (k:=20) xa2 (krN (ρ:=fun _=>20))) (krC (ρ:=fun _=>20) (k:=20) xa2 (krN (ρ:=fun _=>20))) ⟨⟨rfl,x9⟩,trivial⟩ rfl) ⟨rfl,rfl,rfl,rfl,rfl,trivial⟩ ⟨rfl,trivial⟩ trivial ?_
         refine A1 ?_
         exact kF (()) trivial (hh:=((SubK.consI rfl ImpK.refl) SubK.nil))
        ·
         refine A1 ?_
         exact kF (()) trivial (hh:=((SubK.consI rfl (ImpK.of (by rw [hcut.leftId h3 hs1 hs2 (by omega)]))) SubK.nil))
       ·
        refine A8 ?_
        exact kF (()) trivial (hh:=((SubK.consI rfl (ImpK.of (by rw [hcut.leftId h3 hs1 hs2 (by omega)]))) SubK.nil))
      ·
       intro _j hj452
       refine A1 ?_
       have hpr2:Prt Fa.kn fa0 a mid (rotR s m (mid+m - s) xs) (srtR Fa.kn a mid (rotR s m (mid+m - s) xs)):=xh0 (by omega) (by rw [hpr.len];omega)
       refine A5 ?_
       refine RGcaseD (t:=209) rfl (fun h455=> ?_) (fun h455=> ?_)
       ·
        refine A6 ?_
        refine x5 rfl (fun h455_2=> ?_) (fun h455_2=> ?_)
        ·
         refine A6 ?_
         refine RE (xa5 (fun _=>20) (ih (srtR Fa.kn a mid (rotR s m (mid+m - s) xs)) mid (mid+m - s) b (hpr2.len.trans hpr.len) rfl rfl rfl (by omega) (by omega) (by rw [hpr2.len,hpr.len];omega) (by rw [hpr2.len,hpr.len];omega) ((hcut.right1 h3 hs1).out hpr2 (.inr (Nat.le_refl _))) ((hcut.right2 h3 hs2).out hpr2 (.inr (by omega))) (by omega)) fi213 rfl (krC (ρ:=fun _=>20) (k:=20) xa2 (krN (ρ:=fun _=>20))) (krC (ρ:=fun _=>20) (k:=20) xa2 (krN (ρ:=fun _=>20))) ⟨⟨rfl,x9⟩,trivial⟩ rfl) ⟨rfl,rfl,rfl,rfl,rfl,trivial⟩ ⟨rfl,trivial⟩ trivial ?_
         refine A1 ?_
         exact xe7 LentC.mk' rfl (.inr rfl) ⟨(congrArg some (show (⟨59,11,true,rV tFa (srtR Fa.kn mid b (srtR Fa.kn a mid (rotR s m (mid+m - s) xs)))⟩:HEnt)=⟨59,11,true,rV tFa (srtR Fa.kn a b xs)⟩ by rw [hcut.fin h3 hs1 hs2])),trivial⟩ ⟨⟨rfl,x9⟩,trivial⟩ rfl
        ·
         refine A1 ?_
         exact xe7 LentC.mk' rfl (.inr rfl) ⟨(congrArg some (show (⟨59,11,true,rV tFa (srtR Fa.kn a mid (rotR s m (mid+m - s) xs))⟩:HEnt)=⟨59,11,true,rV tFa (srtR Fa.kn a b xs)⟩ by rw [←hcut.fin h3 hs1 hs2,hcut.rightId h3 hs1 hs2 (by omega)])),trivial⟩ ⟨⟨rfl,x9⟩,trivial⟩ rfl
       ·
        refine A8 ?_
        exact xe7 LentC.mk' rfl (.inr rfl) ⟨(congrArg some (show (⟨59,11,true,rV tFa (srtR Fa.kn a mid (rotR s m (mid+m - s) xs))⟩:HEnt)=⟨59,11,true,rV tFa (srtR Fa.kn a b xs)⟩ by rw [←hcut.fin h3 hs1 hs2,hcut.rightId h3 hs1 hs2 (by omega)])),trivial⟩ ⟨⟨rfl,x9⟩,trivial⟩ rfl
theorem symIH_allF: ∀n,SymIHF n
 | 0=>fun xs a m b L x y u eL ex ey eu h1 h2 h3 h4 h5 h6 h7=>absurd h7 (Nat.not_lt_zero _)
 | n+1=>fun xs a m b L x y u eL ex ey eu h1 h2 h3 h4 h5 h6 h7=>c_symStepF n (symIH_allF n) xs a m b eL ex ey eu h1 h2 h3 h4 h5 h6 (by omega)
theorem c_symF (xs:List Fa) (a m b:Nat) {L:Nat} {x y u:Int} (eL:xs.length=L) (ex:x=(a:Int)) (ey:y=(m:Int)) (eu:u=(b:Int)) (h1:a < m) (h2:m < b) (h3:b≤xs.length) (h4:xs.length≤1000000) (h5:SrtP Fa.kn fa0 a m xs) (h6:SrtP Fa.kn fa0 m b xs):CtG Tryz.prog 213 [(20,⟨59,11,true,rV tFa xs⟩)] [.own (.sl 20 11 0 L),.val (tI x),.val (tI y),.val (tI u),.val (tE (.func (.func 160) #[] #[]))] (.val (tT [])) [(20,⟨59,11,true,rV tFa (srtR Fa.kn a b xs)⟩)] []:=
 symIH_allF (b - a+1) xs a m b eL ex ey eu h1 h2 h3 h4 h5 h6 (Nat.lt_succ_self _)
theorem c_stableF (xs:List Fa) {L:Nat} (eL:xs.length=L) {x:Int} (ex:x=(xs.length:Int)) (hx:xs.length≤1000000):
  CtG Tryz.prog 190 [(20,⟨59,11,true,rV tFa xs⟩)] [.own (.sl 20 11 0 L),.val (tI x),.val (tE (.func (.func 160) #[] #[]))] (.val (tT [])) [(20,⟨59,11,true,rV tFa (ssort Fa.kn xs)⟩)] []:=by
 subst ex eL
 refine CtG.intro [20] Tryz.func190 rfl Tryz.ntmps190 rfl rfl ⟨⟨rfl,x9⟩,trivial⟩ ?_
 intro w F η
 refine A14 ?_
 refine cL (fun (fm:(List Fa)×(Nat))=>(fun (ys:List Fa) (c:Nat)=>ys.length=xs.length∧c*20≤xs.length∧Prt Fa.kn fa0 0 xs.length xs ys∧BlkA Fa.kn fa0 20 c ys) fm.1 fm.2) (fun (fm:(List Fa)×(Nat))=>(fun (ys:List Fa) (c:Nat)=>upd (upd (upd (upd (upd (upd (fun _=>none) 0 (some (.own (.sl 20 11 0 xs.length)))) 1 (some (.val (tI xs.length)))) 2 (some (.val (tE (.func (.func 160) #[] #[]))))) 6 (some (.val (tI 20)))) 7 (some (.val (tI ((c*20:Nat):Int))))) 8 (some (.val (tI ((c*20+20:Nat):Int))))) fm.1 fm.2) (fun (fm:(List Fa)×(Nat))=>(fun (ys:List Fa) (c:Nat)=>upd (fun _=>none) 20 (some (⟨59,11,true,rV tFa ys⟩))) fm.1 fm.2) [20] (fun (fm:(List Fa)×(Nat))=>(fun (ys:List Fa) (c:Nat)=>xs.length - c*20) fm.1 fm.2) ((xs,0)) (by dsimp only;exact ⟨rfl,by omega,Prt.refl ..,blkA_zero⟩) (hh:=((SubK.consI rfl ImpK.refl) SubK.nil)) ?_
 intro fm hI
 obtain ⟨ys,c⟩:=fm
 replace hI:ys.length=xs.length∧c*20≤xs.length∧Prt Fa.kn fa0 0 xs.length xs ys∧BlkA Fa.kn fa0 20 c ys:=hI
 show wc _ _ _ _ (upd (upd (upd (upd (upd (upd (fun _=>none) 0 (some (.own (.sl 20 11 0 xs.length)))) 1 (some (.val (tI xs.length)))) 2 (some (.val (tE (.func (.func 160) #[] #[]))))) 6 (some (.val (tI 20)))) 7 (some (.val (tI ((c*20:Nat):Int))))) 8 (some (.val (tI ((c*20+20:Nat):Int))))) (upd (fun _=>none) 20 (some (⟨59,11,true,rV tFa ys⟩))) _
 obtain ⟨hl,hc,hp,hb⟩:=hI
 refine A8 ?_
 refine x5 rfl (fun h338=> ?_) (fun h338=> ?_)
 ·
  refine A9 ?_
  refine RE (xa5 (fun _=>20) (c_insSortF ys hl (c*20) (c*20+20) rfl rfl (by omega) (by omega) (by omega)) fi212 rfl (krC (ρ:=fun _=>20) (k:=20) xa2 (krN (ρ:=fun _=>20))) (krC (ρ:=fun _=>20) (k:=20) xa2 (krN (ρ:=fun _=>20))) ⟨⟨rfl,x9⟩,trivial⟩ rfl) ⟨rfl,rfl,rfl,rfl,trivial⟩ ⟨rfl,trivial⟩ trivial ?_
  refine A15 ?_
  have hq:Prt Fa.kn fa0 (c*20) (c*20+20) ys (srtR Fa.kn (c*20) (c*20+20) ys):=xh0 (by omega) (by omega)
  exact kF (((srtR Fa.kn (c*20) (c*20+20) ys),c+1)) ⟨(by dsimp only;exact ⟨hq.len.trans hl,by omega,hp.trans (hq.mono (by omega) (by omega)),blkA_next hb hq (xj9 (by omega) (by omega))⟩),(by dsimp only;omega)⟩ (hg:=((Sub.consI rfl (Imp.int (by dsimp only;omega))) ((Sub.consI rfl (Imp.int (by dsimp only;omega))) (sI (sC (sI (sC Sub.nil))))))) (hh:=((SubK.consI rfl ImpK.refl) SubK.nil))
 ·
  refine A6 ?_
  have hq:Prt Fa.kn fa0 (c*20) xs.length ys (srtR Fa.kn (c*20) xs.length ys):=xh0 (by omega) (by omega)
  refine A5 ?_
  refine RE (xa5 (fun _=>20) (c_insSortF ys hl (c*20) xs.length rfl rfl (by omega) (by omega) (by omega)) fi212 rfl (krC (ρ:=fun _=>20) (k:=20) xa2 (krN (ρ:=fun _=>20))) (krC (ρ:=fun _=>20) (k:=20) xa2 (krN (ρ:=fun _=>20))) ⟨⟨rfl,x9⟩,trivial⟩ rfl) ⟨rfl,rfl,rfl,rfl,trivial⟩ ⟨rfl,trivial⟩ trivial ?_
  refine A3 ?_
  refine cL (fun (fm:(List Fa)×(Nat))=>(fun (zs:List Fa) (w:Nat)=>zs.length=xs.length∧20≤w∧w≤2*xs.length+20∧Prt Fa.kn fa0 0 xs.length xs zs∧BlkP Fa.kn fa0 w xs.length zs) fm.1 fm.2) (fun (fm:(List Fa)×(Nat))=>(fun (zs:List Fa) (w:Nat)=>upd (upd (upd (upd (fun _=>none) 0 (some (.own (.sl 20 11 0 xs.length)))) 1 (some (.val (tI xs.length)))) 2 (some (.val (tE (.func (.func 160) #[] #[]))))) 6 (some (.val (tI w)))) fm.1 fm.2) (fun (fm:(List Fa)×(Nat))=>(fun (zs:List Fa) (w:Nat)=>upd (fun _=>none) 20 (some (⟨59,11,true,rV tFa zs⟩))) fm.1 fm.2) [20] (fun (fm:(List Fa)×(Nat))=>(fun (zs:List Fa) (w:Nat)=>xs.length - w) fm.1 fm.2) (((srtR Fa.kn (c*20) xs.length ys),20)) (by dsimp only;exact ⟨hq.len.trans hl,Nat.le_refl _,by omega,hp.trans (hq.mono (by omega) (Nat.le_refl _)),blkP_of hb (by omega) hq (xj9 (by omega) (by omega))⟩) (hh:=((SubK.consI rfl ImpK.refl) SubK.nil)) ?_
  intro fm hI
  obtain ⟨zs,w⟩:=fm
  replace hI:zs.length=xs.length∧20≤w∧w≤2*xs.length+20∧Prt Fa.kn fa0 0 xs.length xs zs∧BlkP Fa.kn fa0 w xs.length zs:=hI
  show wc _ _ _ _ (upd (upd (upd (upd (fun _=>none) 0 (some (.own (.sl 20 11 0 xs.length)))) 1 (some (.val (tI xs.length)))) 2 (some (.val (tE (.func (.func 160) #[] #[]))))) 6 (some (.val (tI w)))) (upd (fun _=>none) 20 (some (⟨59,11,true,rV tFa zs⟩))) _
  obtain ⟨hzl,hw0,hw1,hzp,hzb⟩:=hI
  refine A8 ?_
  refine x5 rfl (fun h345=> ?_) (fun h345=> ?_)
  ·
   refine A6 ?_
   refine R2 (xg8 (wr64 (by omega) (by omega))) rfl rfl ?_
   refine A6 ?_
   refine cL (fun (fm:(List Fa)×(Nat))=>(fun (us:List Fa) (v:Nat)=>us.length=xs.length∧(v*(2*w))≤xs.length∧Prt Fa.kn fa0 0 xs.length xs us∧BlkA Fa.kn fa0 (2*w) v us∧BlkR Fa.kn fa0 w xs.length (v*(2*w)) us) fm.1 fm.2) (fun (fm:(List Fa)×(Nat))=>(fun (us:List Fa) (v:Nat)=>upd (upd (upd (upd (upd (upd (fun _=>none) 0 (some (.own (.sl 20 11 0 xs.length)))) 1 (some (.val (tI xs.length)))) 2 (some (.val (tE (.func (.func 160) #[] #[]))))) 6 (some (.val (tI w)))) 7 (some (.val (tI (((v*(2*w)):Nat):Int))))) 8 (some (.val (tI (((v*(2*w))+2*w:Nat):Int))))) fm.1 fm.2) (fun (fm:(List Fa)×(Nat))=>(fun (us:List Fa) (v:Nat)=>upd (fun _=>none) 20 (some (⟨59,11,true,rV tFa us⟩))) fm.1 fm.2) [20] (fun (fm:(List Fa)×(Nat))=>(fun (us:List Fa) (v:Nat)=>xs.length - (v*(2*w))) fm.1 fm.2) ((zs,0)) (by dsimp only;exact ⟨hzl,by omega,hzp,blkA_zero,by rw [Nat.zero_mul];exact blkP_R hzb⟩) (hg:=((Sub.consI rfl (Imp.int (by dsimp only;omega))) ((Sub.consI rfl (Imp.int (by dsimp only;omega))) (sI (sC (sI (sC Sub.nil))))))) (hh:=((SubK.consI rfl ImpK.refl) SubK.nil)) ?_
   intro fm hI
   obtain ⟨us,v⟩:=fm
   replace hI:us.length=xs.length∧(v*(2*w))≤xs.length∧Prt Fa.kn fa0 0 xs.length xs us∧BlkA Fa.kn fa0 (2*w) v us∧BlkR Fa.kn fa0 w xs.length (v*(2*w)) us:=hI
   show wc _ _ _ _ (upd (upd (upd (upd (upd (upd (fun _=>none) 0 (some (.own (.sl 20 11 0 xs.length)))) 1 (some (.val (tI xs.length)))) 2 (some (.val (tE (.func (.func 160) #[] #[]))))) 6 (some (.val (tI w)))) 7 (some (.val (tI (((v*(2*w)):Nat):Int))))) 8 (some (.val (tI (((v*(2*w))+2*w:Nat):Int))))) (upd (fun _=>none) 20 (some (⟨59,11,true,rV tFa us⟩))) _
   obtain ⟨hul,hvn,hup,huA,huR⟩:=hI
   have hat:=fun hh=>huR.at (u:=v) (Nat.le_refl _) hh
   refine A8 ?_
   refine x5 rfl (fun h347=> ?_) (fun h347=> ?_)
   ·
    refine A12 ?_
    refine RE (xa5 (fun _=>20) (c_symF us (v*(2*w)) ((v*(2*w))+w) ((v*(2*w))+2*w) hul rfl (by omega) (by omega) (by omega) (by omega) (by omega) (by omega) (hat (by omega)).1 ((hat (by omega)).2.sub (Nat.le_refl _) (by omega))) fi213 rfl (krC (ρ:=fun _=>20) (k:=20) xa2 (krN (ρ:=fun _=>20))) (krC (ρ:=fun _=>20) (k:=20) xa2 (krN (ρ:=fun _=>20))) ⟨⟨rfl,x9⟩,trivial⟩ rfl) ⟨rfl,rfl,rfl,rfl,rfl,trivial⟩ ⟨rfl,trivial⟩ trivial ?_
    refine A11 ?_
    refine R2 (xg8 (wr64 (by omega) (by omega))) rfl rfl ?_
    refine A4 ?_
    have hq3:Prt Fa.kn fa0 (v*(2*w)) ((v*(2*w))+2*w) us (srtR Fa.kn (v*(2*w)) ((v*(2*w))+2*w) us):=xh0 (by omega) (by omega)
    have hsm:(v+1)*(2*w)=(v*(2*w))+2*w:=Nat.succ_mul v (2*w)
    exact kF (((srtR Fa.kn (v*(2*w)) ((v*(2*w))+2*w) us),v+1)) ⟨(by dsimp only;exact ⟨hq3.len.trans hul,by omega,hup.trans (hq3.mono (by omega) (by omega)),blkA_next huA hq3 (xj9 (by omega) (by omega)),huR.next hq3 (by omega) (by omega)⟩),(by dsimp only;omega)⟩ (hg:=((Sub.consI rfl (Imp.int (by dsimp only;omega))) ((Sub.consI rfl (Imp.int (by dsimp only;omega))) (sI (sC (sI (sC Sub.nil))))))) (hh:=((SubK.consI rfl ImpK.refl) SubK.nil))
   ·
    refine A18 ?_
    refine A3 ?_
    refine x5 rfl (fun h352=> ?_) (fun h352=> ?_)
    ·
     refine A6 ?_
     refine RE (xa5 (fun _=>20) (c_symF us (v*(2*w)) ((v*(2*w))+w) xs.length hul rfl (by omega) rfl (by omega) (by omega) (by omega) (by omega) (hat (by omega)).1 ((hat (by omega)).2.sub (Nat.le_refl _) (by omega))) fi213 rfl (krC (ρ:=fun _=>20) (k:=20) xa2 (krN (ρ:=fun _=>20))) (krC (ρ:=fun _=>20) (k:=20) xa2 (krN (ρ:=fun _=>20))) ⟨⟨rfl,x9⟩,trivial⟩ rfl) ⟨rfl,rfl,rfl,rfl,rfl,trivial⟩ ⟨rfl,trivial⟩ trivial ?_
     refine A4 ?_
     refine R2 (xg8 (wr64 (by omega) (by omega))) rfl rfl ?_
     refine A3 ?_
     have hq5:Prt Fa.kn fa0 (v*(2*w)) xs.length us (srtR Fa.kn (v*(2*w)) xs.length us):=xh0 (by omega) (by omega)
     exact kF (((srtR Fa.kn (v*(2*w)) xs.length us),2*w)) ⟨(by dsimp only;exact ⟨hq5.len.trans hul,by omega,by omega,hup.trans (hq5.mono (by omega) (Nat.le_refl _)),blkP_of huA (by omega) hq5 (xj9 (by omega) (by omega))⟩),(by dsimp only;omega)⟩ (hg:=((Sub.consI rfl (Imp.int (by dsimp only;omega))) (sC (sI (sC Sub.nil))))) (hh:=((SubK.consI rfl ImpK.refl) SubK.nil))
    ·
     refine A4 ?_
     refine R2 (xg8 (wr64 (by omega) (by omega))) rfl rfl ?_
     refine A3 ?_
     exact kF ((us,2*w)) ⟨(by dsimp only;exact ⟨hul,by omega,by omega,hup,blkP_end huA (by omega) (huR.one (Nat.le_refl _) (by omega))⟩),(by dsimp only;omega)⟩ (hg:=((Sub.consI rfl (Imp.int (by dsimp only;omega))) (sC (sI (sC Sub.nil))))) (hh:=((SubK.consI rfl ImpK.refl) SubK.nil))
  ·
   refine A4 ?_
   exact xe7 LentC.mk' rfl (.inr rfl) ⟨(congrArg some (show (⟨59,11,true,rV tFa zs⟩:HEnt)=⟨59,11,true,rV tFa (ssort Fa.kn xs)⟩ by rw [xp7 (Nat.zero_le _) (Nat.le_refl _) hzp (blkP_all hzb (by omega)),srtR_all])),trivial⟩ ⟨⟨rfl,x9⟩,trivial⟩ rfl
theorem c_sortStableF (xs:List Fa) {L:Nat} (eL:xs.length=L) (hx:xs.length≤1000000):
  CtG Tryz.prog 159 [(20,⟨59,11,true,rV tFa xs⟩)] [.own (.sl 20 11 0 L),.val (tE (.func (.func 160) #[] #[]))] (.val (tT [])) [(20,⟨59,11,true,rV tFa (ssort Fa.kn xs)⟩)] []:=by
 subst eL
 refine CtG.intro [20] Tryz.func159 rfl Tryz.ntmps159 rfl rfl ⟨⟨rfl,x9⟩,trivial⟩ ?_
 intro w F η
 refine A5 ?_
 refine RE (xa5 (fun _=>20) (c_stableF xs rfl rfl hx) fi190 rfl (krC (ρ:=fun _=>20) (k:=20) xa2 (krN (ρ:=fun _=>20))) (krC (ρ:=fun _=>20) (k:=20) xa2 (krN (ρ:=fun _=>20))) ⟨⟨rfl,x9⟩,trivial⟩ rfl) ⟨rfl,rfl,rfl,trivial⟩ ⟨rfl,trivial⟩ trivial ?_
 refine A1 ?_
 exact xe7 LentC.mk' rfl (.inr rfl) ⟨rfl,trivial⟩ ⟨⟨rfl,x9⟩,trivial⟩ rfl
end An.S
namespace An
open Go
structure Kw where
  p:Dom→World→Prop
  mono: ∀{F F':Dom} {w w':World},p F w→Keep F F' w w'→p F' w'
def tKG (K:Kw) (t:Ty):Ty:=⟨fun F w v=>t.p F w v∧K.p F w,fun h hk=>⟨t.mono h.1 hk,K.mono h.2 hk⟩⟩
instance {K:Kw} {t:Ty} {n:Nat} {agg:Bool} [h:Shape t n agg]:Shape (tKG K t) n agg:=⟨fun hp=>h.flat hp.1⟩
section
variable {P:Program} {c:Base} {g:Slots} {h:Keys} {al:Names} {d ty:Nat} {pos:String} {af:Array Edge} {gd:Option (Nat×Bool)} {Q:Exit→Act→World→Prop}
end
section
variable {P:Program} {c:Base} {d ty:Nat} {pos:String} {af:Array Edge} {gd:Option (Nat×Bool)}
end
end An
namespace An
end An
namespace An.S
open Go
def fstI (n:Nat) (f:Nat→Bool):Nat:=((List.range n).takeWhile fun i=> !f i).length
theorem fst_is {n p:Nat} {f:Nat→Bool} (hp:p≤n) (h1: ∀i,i < p→f i=false) (h2:p < n→f p=true):fstI n f=p:=by
 have e:List.range n=List.range p++(List.range (n - p)).map (p+ ·):=by
  rw [←List.range_add];congr 1;omega
 rw [fstI,e,List.takeWhile_append_of_pos fun i hi=>by rw [h1 i (List.mem_range.1 hi)];rfl]
 cases hm:n - p with
 | zero=>simp
 | succ m=>
  rw [List.range_succ_eq_map,List.map_cons,List.takeWhile_cons,if_neg (by rw [Nat.add_zero,h2 (by omega)];simp)]
  simp
theorem fst_spec (n:Nat) (f:Nat→Bool):fstI n f≤n∧(∀i,i < fstI n f→f i=false)∧(fstI n f < n→f (fstI n f)=true):=by
 have ex: ∃p,p≤n∧(∀i,i < p→f i=false)∧(p < n→f p=true):=by
  induction n with
  | zero=>exact ⟨0,Nat.le_refl _,fun i hi=>by omega,fun h=>by omega⟩
  | succ n ih=>
   obtain ⟨p,h1,h2,h3⟩:=ih
   rcases Nat.lt_or_ge p n with h4 | h4
   ·exact ⟨p,by omega,h2,fun _=>h3 h4⟩
   ·have e:p=n:=by omega
    subst e
    cases hf:f p with
    | true=>exact ⟨p,by omega,h2,fun _=>hf⟩
    | false=>exact ⟨p+1,Nat.le_refl _,fun i hi=>by
      rcases Nat.lt_or_ge i p with h5 | h5
      ·exact h2 i h5
      ·rw [show i=p by omega];exact hf,fun h=>by omega⟩
 obtain ⟨p,h1,h2,h3⟩:=ex
 rw [fst_is h1 h2 h3];exact ⟨h1,h2,h3⟩
def onF (d:Int) (f:Fa):Bool:=decide (f.lo≤d) && decide (d < f.hi)
theorem xi7 {d:Int} {f:Fa}:onF d f=true↔f.lo≤d∧d < f.hi:=by simp [onF]
def lastF (T:List Fa) (d:Int):Option Fa:=(T.filter (onF d)).getLast?
theorem lastF_app {T:List Fa} {f:Fa} {d:Int}:lastF (T++[f]) d=if onF d f=true then some f else lastF T d:=by
 rw [lastF,List.filter_append,List.filter_cons]
 split
 ·simp
 ·simp [lastF]
theorem lastF_snoc {T:List Fa} {i:Nat} {d:Int} (hi:i < T.length):lastF (T.take (i+1)) d=if onF d (T.getD i fa0)=true then some (T.getD i fa0) else lastF (T.take i) d:=by
 rw [List.take_succ_eq_append_getElem hi,lastF_app,List.getD_eq_getElem?_getD,List.getElem?_eq_getElem hi];rfl
theorem lastF_mem {T:List Fa} {d:Int} {f:Fa} (h:lastF T d=some f):f∈T∧f.lo≤d∧d < f.hi:=by
 have h1:=List.mem_of_getLast? h
 obtain ⟨h2,h3⟩:=List.mem_filter.1 h1
 exact ⟨h2,xi7.1 h3⟩
def valF (o:Option Fa):Option Va:=match o with
 | none=>none
 | some f=>if f.gone=true then none else some f.v
def gF (T:List Fa) (d:Int):Option Va:=valF (lastF T d)
def edF (T:List Fa):List Int:=T.flatMap fun f=>[f.lo,f.hi]
def bdF (T:List Fa):List Int:=brd (edF T)
theorem edF_len {T:List Fa}:(edF T).length=2*T.length:=by
 induction T with
 | nil=>rfl
 | cons s r ih=>rw [edF,List.flatMap_cons,List.length_append,←edF,ih];simp;omega
theorem edF_snoc {T:List Fa} {i:Nat} (hi:i < T.length):edF (T.take (i+1))=edF (T.take i)++[(T.getD i fa0).lo,(T.getD i fa0).hi]:=by
 rw [List.take_succ_eq_append_getElem hi,edF,List.flatMap_append,List.getD_eq_getElem?_getD,List.getElem?_eq_getElem hi];simp [edF]
theorem xk9 {T:List Fa}:(bdF T).Pairwise (· < ·):=(xf2 _).1
theorem bdF_len {T:List Fa}:(bdF T).length≤2*T.length:=by rw [←edF_len];exact xr3 _
theorem bdF_mem {T:List Fa} {x:Int}:x∈bdF T↔ ∃f∈T,x=f.lo∨x=f.hi:=by
 rw [bdF,(xf2 _).2,edF,List.mem_flatMap];simp
def ixD (ds:List Int) (x:Int):Nat:=fstI ds.length fun i=>decide (x≤ds.getD i 0)
theorem ixD_le {ds:List Int} {x:Int}:ixD ds x≤ds.length:=(fst_spec _ _).1
theorem ixD_lt {ds:List Int} {x:Int} (h:ds.Pairwise (· < ·)) {p:Nat} (hp:p < ds.length):p < ixD ds x↔ds.getD p 0 < x:=by
 obtain ⟨h1,h2,h3⟩:=fst_spec ds.length fun i=>decide (x≤ds.getD i 0)
 constructor
 ·intro hlt
  have:=of_decide_eq_false (h2 p hlt)
  omega
 ·intro hlt
  rcases Nat.lt_or_ge p (ixD ds x) with h4 | h4
  ·exact h4
  ·have h5:=of_decide_eq_true (h3 (by rw [ixD] at h4;omega))
   rw [←ixD] at h5
   rcases Nat.lt_or_ge (ixD ds x) p with h6 | h6
   ·have:=pw_lt h h6 hp;omega
   ·have e:p=ixD ds x:=by omega
    rw [←e] at h5;omega
theorem ixD_on {ds:List Int} (h:ds.Pairwise (· < ·)) {f:Fa} {p:Nat} (hp:p < ds.length):onF (ds.getD p 0) f=true↔ixD ds f.lo≤p∧p < ixD ds f.hi:=by
 have h1:=ixD_lt (x:=f.lo) h hp
 have h2:=ixD_lt (x:=f.hi) h hp
 rw [xi7]
 constructor
 ·intro hh;exact ⟨Nat.not_lt.1 fun hc=>by have:=h1.1 hc;omega,h2.2 hh.2⟩
 ·intro hh;exact ⟨Int.not_lt.1 fun hc=>by have:=h1.2 hc;omega,h2.1 hh.2⟩
def rowL (T:List Fa) (ds:List Int) (i p:Nat):List (Option Fa):=(ds.take p).map (lastF (T.take (i+1)))++(ds.drop p).map (lastF (T.take i))
def rowA (T:List Fa) (ds:List Int) (i:Nat):List (Option Fa):=ds.map (lastF (T.take i))
theorem rowA_len {T:List Fa} {ds:List Int} {i:Nat}:(rowA T ds i).length=ds.length:=by simp [rowA]
theorem xk8 {T:List Fa} {ds:List Int} {i p:Nat}:(rowL T ds i p).length=ds.length:=by
 rw [rowL,List.length_append,List.length_map,List.length_map,←List.length_append,List.take_append_drop]
theorem rowA_get {T:List Fa} {ds:List Int} {i p:Nat} (hp:p < ds.length):(rowA T ds i).getD p none=lastF (T.take i) (ds.getD p 0):=by
 rw [rowA,List.getD_eq_getElem?_getD,List.getElem?_map,List.getElem?_eq_getElem hp,List.getD_eq_getElem?_getD,List.getElem?_eq_getElem hp];rfl
theorem rowA_zero {T:List Fa} {ds:List Int}:rowA T ds 0=List.replicate ds.length none:=by
 rw [rowA,List.take_zero]
 apply List.ext_getElem (by simp)
 intro i h1 h2
 simp [lastF]
theorem rowL_get {T:List Fa} {ds:List Int} {i p q:Nat} (hq:q < ds.length):(rowL T ds i p).getD q none=if q < p then lastF (T.take (i+1)) (ds.getD q 0) else lastF (T.take i) (ds.getD q 0):=by
 rw [rowL,List.getD_eq_getElem?_getD,List.getElem?_append,List.length_map,List.length_take,List.getElem?_map,List.getElem?_map,List.getElem?_take,List.getElem?_drop]
 have e:ds.getD q 0=ds[q]:=by rw [List.getD_eq_getElem?_getD,List.getElem?_eq_getElem hq];rfl
 rw [e]
 by_cases h:q < p
 ·rw [if_pos (by omega),if_pos h,if_pos h,List.getElem?_eq_getElem hq];rfl
 ·rw [if_neg (by omega),if_neg h,show p+(q - min p ds.length)=q by omega,List.getElem?_eq_getElem hq];rfl
theorem row_ext {xs ys:List (Option Fa)} (hl:xs.length=ys.length) (h: ∀q,q < xs.length→xs.getD q none=ys.getD q none):xs=ys:=xg9 hl h
theorem rowL_begin {T:List Fa} {ds:List Int} (h:ds.Pairwise (· < ·)) {i:Nat} (hi:i < T.length):rowL T ds i (ixD ds (T.getD i fa0).lo)=rowA T ds i:=by
 refine row_ext (by rw [xk8,rowA_len]) fun q hq=> ?_
 rw [xk8] at hq
 rw [rowL_get hq,rowA_get hq]
 split
 ·next hp=>rw [lastF_snoc hi,if_neg (fun hh=>by have:=(ixD_on h hq).1 hh;omega)]
 ·rfl
theorem rowL_end {T:List Fa} {ds:List Int} (h:ds.Pairwise (· < ·)) {i p:Nat} (hi:i < T.length) (_h1:ixD ds (T.getD i fa0).lo≤p) (h2:ixD ds (T.getD i fa0).hi≤p):rowL T ds i p=rowA T ds (i+1):=by
 refine row_ext (by rw [xk8,rowA_len]) fun q hq=> ?_
 rw [xk8] at hq
 rw [rowL_get hq,rowA_get hq]
 split
 ·rfl
 ·next hp=>rw [lastF_snoc hi,if_neg (fun hh=>by have:=(ixD_on h hq).1 hh;omega)]
theorem rowL_set {T:List Fa} {ds:List Int} (h:ds.Pairwise (· < ·)) {i p:Nat} (hi:i < T.length) (hp:p < ds.length) (h1:ixD ds (T.getD i fa0).lo≤p) (h2:p < ixD ds (T.getD i fa0).hi):(rowL T ds i p).set p (some (T.getD i fa0))=rowL T ds i (p+1):=by
 refine row_ext (by rw [List.length_set,xk8,xk8]) fun q hq=> ?_
 rw [List.length_set,xk8] at hq
 rw [getD_set (by rw [xk8];exact hp),rowL_get hq,rowL_get hq]
 by_cases hqp:q=p
 ·subst hqp
  rw [if_pos rfl,if_pos (by omega),lastF_snoc hi,if_pos ((ixD_on h hq).2 ⟨h1,h2⟩)]
 ·rw [if_neg hqp]
  by_cases hlt:q < p
  ·rw [if_pos hlt,if_pos (by omega)]
  ·rw [if_neg hlt,if_neg (by omega)]
def vwK (T:List Fa) (k:Nat):List Tst:=pst [] (segN (gF T) (bdF T) k)
def vwT (T:List Fa):List Tst:=pst [] (segL (gF T) (bdF T))
theorem lastF_end {T:List Fa} {p:Nat} {f:Fa} (h:lastF T ((bdF T).getD p 0)=some f) (hp:p < (bdF T).length):p+1 < (bdF T).length:=by
 obtain ⟨h1,h2,h3⟩:=lastF_mem h
 rcases Nat.lt_or_ge (p+1) (bdF T).length with h4 | h4
 ·exact h4
 ·obtain ⟨j,hj,e⟩:=List.mem_iff_getElem.1 (bdF_mem.2 ⟨f,h1,.inr rfl⟩)
  have e2:(bdF T).getD j 0=f.hi:=by rw [List.getD_eq_getElem?_getD,List.getElem?_eq_getElem hj];exact e
  rcases Nat.lt_or_ge j p with h5 | h5
  ·have:=pw_lt xk9 h5 hp;omega
  ·have e3:j=p:=by omega
   rw [e3] at e2;omega
theorem vwK_all {T:List Fa}:vwK T ((bdF T).length)=vwT T:=by
 rw [vwK,vwT,segL_N]
 rcases Nat.eq_zero_or_pos (bdF T).length with h | h
 ·rw [h]
 ·obtain ⟨m,hm⟩: ∃m,(bdF T).length=m+1:=⟨(bdF T).length - 1,by omega⟩
  have e:segI (gF T) (bdF T) m=[]:=by
   rw [segI]
   cases hl:lastF T ((bdF T).getD m 0) with
   | none=>rw [gF,hl];rfl
   | some f=>have:=lastF_end hl (by omega);omega
  rw [hm,xm9,e,List.append_nil];rfl
theorem vwK_none {T:List Fa} {k:Nat} (h:gF T ((bdF T).getD k 0)=none):vwK T (k+1)=vwK T k:=by
 rw [vwK,xm9,segI,h,List.append_nil];rfl
theorem vwK_some {T:List Fa} {k:Nat} {v:Va} (h:gF T ((bdF T).getD k 0)=some v):vwK T (k+1)=pst1 (vwK T k) ⟨(bdF T).getD k 0,(bdF T).getD (k+1) 0,v⟩:=by
 rw [vwK,xm9,segI,h,pst_app];rfl
theorem vwK_len {T:List Fa} {k:Nat}:(vwK T k).length≤k:=by
 have h:=xq7 (segN (gF T) (bdF T) k) []
 have:=segN_len (g:=gF T) (ds:=bdF T) k
 have h2:(vwK T k).length≤([]:List Tst).length+(segN (gF T) (bdF T) k).length:=h
 simp at h2;omega
end An.S
namespace An
open Go
abbrev tSt (s:ByteArray):Ty:=tE (.string s)
section
variable {P:Program}
end
section
variable {P:Program} {c:Base} {d ty:Nat} {pos:String} {af:Array Edge} {gd:Option (Nat×Bool)}
theorem beqB {p q:ByteArray}:(p.toList==q.toList)=decide (p=q):=by
 rw [ByteArray.toList_eq,ByteArray.toList_eq]
 by_cases h:p=q
 ·subst h;simp
 ·have h2:p.data.toList≠q.data.toList:=fun e=>h (by cases p;cases q;congr 1;exact Array.toList_inj.1 e)
  rw [decide_eq_false h];exact beq_false_of_ne h2
theorem d_eqlS {T yT:TypeId} {x y:Operand} {p q:ByteArray}:Does P c ⟨some d,.binOp .eql T x y yT,ty,pos,af,gd⟩ ⟨[(x,.val (tSt p)),(y,.val (tSt q))],[],some (d,some (.val (tB (decide (p=q))))),[],[]⟩:=
 xj1 fun w=>by simp only [eqGuard_at_string,binOp,Sem.run_bind,Sem.run_pure,Result.andThen_ok,Op.stringOp,beqB]
theorem d_lenS {T:TypeId} {x:Operand} {s:ByteArray} (hT:P.underlying T=some .string):
  Does P c ⟨some d,.call {callee:= .builtin .len,args:= #[x],argTypes:= #[T]},ty,pos,af,gd⟩ ⟨[(x,.val (tSt s))],[],some (d,some (.val (tI s.size))),[],[]⟩:=
 Does.value rfl fun g h al a w η hrd _ st=>by
  have h1:a.eval x= .string s:=(xa3 st hrd.1).1
  exact ⟨_,w,by simp only [execOp,resolve,invoke,builtin,List.map_toArray,List.map_cons,List.map_nil,h1];simp [run_len_string (P:=P) (w:=w) T ty s hT,go_sem],Ext.refl w,rfl,fun k hk=>by cases hk⟩
end
end An
namespace An.S
open Go Go.Proofs An
instance ti9:TyI Tryz.prog 9 1 false:=⟨by kernel_rfl,by kernel_rfl⟩
instance ti42:TyI Tryz.prog 42 1 false:=⟨by kernel_rfl,by kernel_rfl⟩
instance ti46:TyI Tryz.prog 46 1 false:=⟨by kernel_rfl,by kernel_rfl⟩
instance fo59_0:FoI Tryz.prog 59 0 0:=⟨by kernel_rfl⟩
instance fo59_1:FoI Tryz.prog 59 1 1:=⟨by kernel_rfl⟩
instance fo59_2:FoI Tryz.prog 59 2 2:=⟨by kernel_rfl⟩
instance fi157:FnI Tryz.prog 157:=⟨_,Tryz.func157,by kernel_rfl,rfl⟩
instance fi158:FnI Tryz.prog 158:=⟨_,Tryz.func158,by kernel_rfl,rfl⟩
instance fi159:FnI Tryz.prog 159:=⟨_,Tryz.func159,by kernel_rfl,rfl⟩
instance fi161:FnI Tryz.prog 161:=⟨_,Tryz.func161,by kernel_rfl,rfl⟩
instance fi191:FnI Tryz.prog 191:=⟨_,Tryz.func191,by kernel_rfl,rfl⟩
theorem el59:ElI Tryz.prog 59 11 128 true (.agg #[.string ⟨#[]⟩,.int .i64 0,.int .i64 0,.int .i64 0,.bool false,.int .u8 0,.bool false,.slice none 0 0,.bool false,.slice none 0 0,.int .i64 0]):=⟨ti59,by kernel_rfl,by kernel_rfl⟩
theorem zr59:(Tryz.prog.info? 59).bind (·.zero)=some (.agg #[.string ⟨#[]⟩,.int .i64 0,.int .i64 0,.int .i64 0,.bool false,.int .u8 0,.bool false,.slice none 0 0,.bool false,.slice none 0 0,.int .i64 0])∧ ∀F w,(tS [⟨1,false,(tE (.string ⟨#[]⟩))⟩,⟨1,false,(tE (.int .i64 0))⟩,⟨1,false,(tE (.int .i64 0))⟩,⟨1,false,(tE (.int .i64 0))⟩,⟨1,false,(tE (.bool false))⟩,⟨6,true,(tS [⟨1,false,(tE (.int .u8 0))⟩,⟨4,true,(tS [⟨2,true,(tS [⟨1,false,(tE (.bool false))⟩,⟨1,false,(tLm [])⟩])⟩,⟨2,true,(tS [⟨1,false,(tE (.bool false))⟩,⟨1,false,(tLm [])⟩])⟩])⟩,⟨1,false,(tE (.int .i64 0))⟩])⟩]).p F w (.agg #[.string ⟨#[]⟩,.int .i64 0,.int .i64 0,.int .i64 0,.bool false,.int .u8 0,.bool false,.slice none 0 0,.bool false,.slice none 0 0,.int .i64 0]):=⟨by kernel_rfl,fun _ _=>⟨_,rfl,rfl,⟨fun _=>rfl,rfl⟩,⟨fun _=>rfl,rfl⟩,⟨fun _=>rfl,rfl⟩,⟨fun _=>rfl,rfl⟩,⟨fun _=>rfl,rfl⟩,⟨fun h=>Bool.noConfusion h,⟨_,rfl,rfl,⟨fun _=>rfl,rfl⟩,⟨fun h=>Bool.noConfusion h,⟨_,rfl,rfl,⟨fun h=>Bool.noConfusion h,⟨_,rfl,rfl,⟨fun _=>rfl,rfl⟩,⟨fun _=>rfl,⟨none,0,rfl,Nat.le_refl _,by decide,.inl rfl⟩⟩,trivial⟩⟩,⟨fun h=>Bool.noConfusion h,⟨_,rfl,rfl,⟨fun _=>rfl,rfl⟩,⟨fun _=>rfl,⟨none,0,rfl,Nat.le_refl _,by decide,.inl rfl⟩⟩,trivial⟩⟩,trivial⟩⟩,⟨fun _=>rfl,rfl⟩,trivial⟩⟩,trivial⟩⟩
theorem zf59:Flat 11 true (.agg #[.string ⟨#[]⟩,.int .i64 0,.int .i64 0,.int .i64 0,.bool false,.int .u8 0,.bool false,.slice none 0 0,.bool false,.slice none 0 0,.int .i64 0]):=xn1 (by intro u hu;simp at hu;rcases hu with rfl | rfl | rfl | rfl | rfl | rfl | rfl | rfl | rfl | rfl | rfl <;> rfl)
abbrev flt (key:ByteArray) (kn:Int) (f:Fa):Bool:=decide (f.key=key) && decide (f.kn≤kn)
theorem flt_next {key:ByteArray} {kn:Int} {a:List Fa} {i:Nat} (hi:i < a.length):(a.take (i+1)).filter (flt key kn)=(a.take i).filter (flt key kn)++if (a.getD i fa0).key=key∧(a.getD i fa0).kn≤kn then [a.getD i fa0] else []:=by
 rw [List.take_succ_eq_append_getElem hi,List.filter_append,List.getD_eq_getElem?_getD,List.getElem?_eq_getElem hi,List.filter_cons]
 congr 1
 simp only [flt,Bool.and_eq_true,decide_eq_true_eq,List.filter_nil,Option.getD_some]
theorem flt_len {key:ByteArray} {kn:Int} {a:List Fa} {i:Nat}:((a.take i).filter (flt key kn)).length≤i:=by
 have h1:=List.length_filter_le (flt key kn) (a.take i)
 rw [List.length_take] at h1;omega
theorem told_len {a:List Fa} {key:ByteArray} {kn:Int}:(toldT a key kn).length=(a.filter (flt key kn)).length:=xp5 _
theorem told_le {a:List Fa} {key:ByteArray} {kn:Int}:(toldT a key kn).length≤a.length:=by rw [told_len];exact List.length_filter_le ..
def toY (a:List Fa) (key:ByteArray) (kn:Int) (j:Nat):List Ty:=[tFa ((toldT a key kn).getD j fa0)]
theorem c_told (a:List Fa) (key:ByteArray) (kn:Int):
  CtG Tryz.prog 112 [] [.val (tL 11 true tFa a),.val (tSt key),.val (tI kn)] (.own (.fn 158 [.ptr 3 0,.ptr 4 0,.ptr 5 0])) [(3,⟨46,1,false,[.val (tL 11 true tFa a)]⟩),(4,⟨9,1,false,[.val (tSt key)]⟩),(5,⟨3,1,false,[.val (tI kn)]⟩)] [3,4,5]:=by
 refine CtG.intro [] Tryz.func112 rfl Tryz.ntmps112 rfl rfl trivial ?_
 intro w F η
 refine A10 ?_
 refine R3 (xf3 (ps:=[.ptr 3 0,.ptr 4 0,.ptr 5 0]) rfl) rfl rfl rfl ?_
 refine A4 ?_
 exact xb5 LentC.mk' rfl rfl Imp.refl ⟨rfl,rfl,rfl,trivial⟩ rfl ⟨⟨rfl,(SupX.lit rfl)⟩,⟨rfl,(SupX.lit rfl)⟩,⟨rfl,(SupX.lit rfl)⟩,trivial⟩ rfl
theorem i_told (a:List Fa) (key:ByteArray) (kn:Int) (hl:a.length≤1000000):
  ItC Tryz.prog 158 [(3,⟨46,1,false,[.val (tL 11 true tFa a)]⟩),(4,⟨9,1,false,[.val (tSt key)]⟩),(5,⟨3,1,false,[.val (tI kn)]⟩)] [.ptr 3 0,.ptr 4 0,.ptr 5 0] ((toldT a key kn).length) (toY a key kn):=by
 refine ItC.intro (K:=99) [3,4,5] Tryz.func158 rfl Tryz.ntmps158 rfl rfl ⟨⟨rfl,(SupX.lit rfl)⟩,⟨rfl,(SupX.lit rfl)⟩,⟨rfl,(SupX.lit rfl)⟩,trivial⟩ rfl ?_
 intro w F η l V J Jc hB
 refine A2 ?_
 refine RE (xd3 (k:=50) 59 11 true rfl (fun h=>by cases h)) trivial trivial ⟨rfl,trivial⟩ ?_
 refine A11 ?_
 refine cL (fun (i:Nat)=>i≤a.length) (fun (i:Nat)=>upd (upd (upd (upd (upd (upd (upd (upd (fun _=>none) 0 (some (.val (tE (.func (.yield l) #[] #[]))))) 1 (some (.own (.ptr 3 0)))) 2 (some (.own (.ptr 4 0)))) 3 (some (.own (.ptr 5 0)))) 5 (some (.own (.sl 50 11 0 ((a.take i).filter (flt key kn)).length)))) 10 (some (.val (tL 11 true tFa a)))) 11 (some (.val (tI a.length)))) 12 (some (.val (tI i)))) (fun (i:Nat)=>upd (upd (upd (upd (upd (fun _=>none) 3 (some (⟨46,1,false,[.val (tL 11 true tFa a)]⟩))) 4 (some (⟨9,1,false,[.val (tSt key)]⟩))) 5 (some (⟨3,1,false,[.val (tI kn)]⟩))) 99 (some (⟨2*0,1,false,[]⟩))) 50 (some (⟨59,11,true,rV tFa ((a.take i).filter (flt key kn))⟩))) [3,4,5,99,50] (fun (i:Nat)=>a.length - i) (0) (Nat.zero_le _) (hh:=((SubK.consI rfl ImpK.refl) ((SubK.consI rfl ImpK.refl) ((SubK.consI rfl ImpK.refl) ((SubK.consI rfl ImpK.refl) ((SubK.consI rfl ImpK.refl) SubK.nil)))))) ?_
 intro i hI
 have hnx:=fun hh=>flt_next (key:=key) (kn:=kn) (a:=a) (i:=i) hh
 have hxl:=flt_len (key:=key) (kn:=kn) (a:=a) (i:=i)
 refine A6 ?_
 refine x5 rfl (fun h76=> ?_) (fun h76=> ?_)
 ·
  refine A6 ?_
  refine R2 (x8 sl46 (i) (by omega) (gD (l:=a) (n:=i) (d:=fa0) (by omega))) rfl rfl ?_
  refine A1 ?_
  refine RE (xa1 (k:=7) (n:=11) (agg:=true) zr59.1 zr59.2 rfl) trivial trivial ⟨rfl,trivial⟩ ?_
  refine A8 ?_
  refine R2 (d_eqlS) rfl rfl ?_
  refine A1 ?_
  refine RGcaseD (t:=20) rfl (fun h77=> ?_) (fun h77=> ?_)
  ·
   refine A7 ?_
   refine x5 rfl (fun h77_2=> ?_) (fun h77_2=> ?_)
   ·
    refine A3 ?_
    refine R1 (xb0 (n:=1) (f:=tFa) [(a.getD i fa0)] Tryz.underlying46 el59 zf59 rfl (fun _=>inferInstance) rfl rfl rfl) rfl (RE (xb6 (k:=50) (k':=29) (f:=tFa) (ys:=[(a.getD i fa0)]) (ts':=rV tFa (((a.take i).filter (flt key kn))++[(a.getD i fa0)])) Tryz.underlying46 el59 zf59 rfl rfl (fun _=>inferInstance) xc6 (by simp;omega) (by simp;omega) (by simp [rV]) (n':=((a.take i).filter (flt key kn)).length+1) rfl) ⟨rfl,rfl,trivial⟩ ⟨rfl,trivial⟩ ⟨rfl,trivial⟩ ?_)
    refine A8 ?_
    rw [if_pos ⟨h77,h77_2⟩] at hnx
    have hnx:=hnx (by omega)
    exact xb7 (l:=[3,4,5,99,50]) (fun j=>cond (Nat.beq j 50) 29 (j)) (i+1) ⟨(by omega),(by omega)⟩ (SubR.int rfl (by first | omega | rfl | (dsimp only;omega)) (SubR.int rfl (by first | omega | rfl | (dsimp only;omega)) (SubR.cons rfl ((SubR.consI rfl (Imp.of (by rw [hnx,List.length_append];rfl))) (SubR.cons rfl (SubR.cons rfl (SubR.cons rfl (SubR.cons rfl SubR.nil)))))))) ((SubKR.consI rfl (ImpK.of (by rw [hnx];exact xa2.symm))) ((SubKR.consI rfl ImpK.refl) ((SubKR.consI rfl ImpK.refl) ((SubKR.consI rfl ImpK.refl) ((SubKR.consI rfl ImpK.refl) SubKR.nil))))) (SupG.val (SupG.val (SupG.val (SupG.own rfl (SupG.own rfl (SupG.own rfl (SupG.own rfl (SupG.val SupG.nil)))))))) (SupH.cons rfl (supJ x9) (SupH.cons rfl (supJL rfl) (SupH.cons rfl (supJL rfl) (SupH.cons rfl (supJL rfl) (SupH.cons rfl (supJL rfl) SupH.nil))))) (lkOk rfl) rfl rfl (fun _ h=>by cases h;rfl)
   ·
    refine A7 ?_
    rw [if_neg (fun hh=>h77_2 hh.2),List.append_nil] at hnx
    have hnx:=hnx (by omega)
    exact kF (i+1) ⟨(by omega),(by omega)⟩ (hg:=(sI (sI (sC ((Sub.consI rfl (Imp.of (by rw [hnx]))) (sC (sC (sC (sC Sub.nil))))))))) (hh:=((SubK.consI rfl (ImpK.of (by rw [hnx]))) ((SubK.consI rfl ImpK.refl) ((SubK.consI rfl ImpK.refl) ((SubK.consI rfl ImpK.refl) ((SubK.consI rfl ImpK.refl) SubK.nil))))))
  ·
   refine A15 ?_
   rw [if_neg (fun hh=>h77 hh.1),List.append_nil] at hnx
   have hnx:=hnx (by omega)
   exact kF (i+1) ⟨(by omega),(by omega)⟩ (hg:=(sI (sI (sC ((Sub.consI rfl (Imp.of (by rw [hnx]))) (sC (sC (sC (sC Sub.nil))))))))) (hh:=((SubK.consI rfl (ImpK.of (by rw [hnx]))) ((SubK.consI rfl ImpK.refl) ((SubK.consI rfl ImpK.refl) ((SubK.consI rfl ImpK.refl) ((SubK.consI rfl ImpK.refl) SubK.nil))))))
 ·
  refine A6 ?_
  have hia:i=a.length:=by omega
  have hie:((a.take i).filter (flt key kn)).length=(toldT a key kn).length:=by rw [told_len,hia,List.take_length]
  refine A2 ?_
  refine RE (xa5 (fun _=>50) (c_sortStableF ((a.take i).filter (flt key kn)) rfl (by omega)) fi159 rfl (krC (ρ:=fun _=>50) (k:=20) xa2 (krN (ρ:=fun _=>50))) (krC (ρ:=fun _=>50) (k:=20) xa2 (krN (ρ:=fun _=>50))) ⟨⟨rfl,x9⟩,trivial⟩ rfl) ⟨rfl,rfl,trivial⟩ ⟨rfl,trivial⟩ trivial ?_
  refine A3 ?_
  refine C_key (k:=50) (e':=⟨59,11,true,rV tFa (toldT a key kn)⟩) rfl (by rw [hia,List.take_length];rfl) ?_
  refine A7 ?_
  refine cL (fun (j:Nat)=>j≤(toldT a key kn).length) (fun (j:Nat)=>upd (upd (upd (upd (upd (upd (upd (fun _=>none) 0 (some (.val (tE (.func (.yield l) #[] #[]))))) 1 (some (.own (.ptr 3 0)))) 2 (some (.own (.ptr 4 0)))) 3 (some (.own (.ptr 5 0)))) 33 (some (.own (.sl 50 11 0 (toldT a key kn).length)))) 34 (some (.val (tI (toldT a key kn).length)))) 35 (some (.val (tI j)))) (fun (j:Nat)=>upd (upd (upd (upd (upd (fun _=>none) 3 (some (⟨46,1,false,[.val (tL 11 true tFa a)]⟩))) 4 (some (⟨9,1,false,[.val (tSt key)]⟩))) 5 (some (⟨3,1,false,[.val (tI kn)]⟩))) 99 (some (⟨2*j,1,false,[]⟩))) 50 (some (⟨59,11,true,rV tFa (toldT a key kn)⟩))) [3,4,5,99,50] (fun (j:Nat)=>(toldT a key kn).length - j) (0) (Nat.zero_le _) (hg:=(sI ((Sub.consI rfl (Imp.int (by rw [hie]))) ((Sub.consI rfl (Imp.of (by rw [hie]))) (sC (sC (sC (sC Sub.nil)))))))) (hh:=((SubK.consI rfl ImpK.refl) ((SubK.consI rfl ImpK.refl) ((SubK.consI rfl ImpK.refl) ((SubK.consI rfl ImpK.refl) ((SubK.consI rfl ImpK.refl) SubK.nil)))))) ?_
  intro j hI
  have htl:=told_le (a:=a) (key:=key) (kn:=kn)
  refine A6 ?_
  refine x5 rfl (fun h82=> ?_) (fun h82=> ?_)
  ·
   refine A6 ?_
   refine R2 (x7 sl46 (by omega) (by omega) rfl) rfl rfl (RE (xa6 (j) ti59 (xa8 (f:=tFa) (xs:=(toldT a key kn)) (d:=fa0) (by omega)) (by omega)) ⟨rfl,trivial⟩ ⟨rfl,trivial⟩ trivial (RE (xa1 (k:=9) (n:=11) (agg:=true) zr59.1 zr59.2 rfl) trivial trivial ⟨rfl,trivial⟩ ?_))
   refine A4 ?_
   refine xm0 ?_
   refine xb9 xc1 ⟨rfl,trivial⟩ trivial trivial rfl (xb9 (xa6 (0) ti59 rfl rfl) ⟨rfl,trivial⟩ ⟨rfl,trivial⟩ trivial rfl ?_)
   refine wl_yield (ts:=[tFa ((toldT a key kn).getD j fa0)]) hB (xf6 rfl) rfl rfl ⟨rfl,trivial⟩ rfl rfl (by omega) ⟨Le.refl,trivial⟩ ?_ ?_
   ·
    refine xb9 d_not ⟨rfl,trivial⟩ trivial trivial rfl (xi1 ?_)
    refine A9 ?_
    exact kF (j+1) ⟨(by omega),(by omega)⟩ (hh:=((SubK.consI rfl ImpK.refl) ((SubK.consI rfl ImpK.refl) ((SubK.consI rfl ImpK.refl) ((SubK.consI rfl ImpK.refl) ((SubK.consI rfl ImpK.refl) SubK.nil))))))
   ·
    refine xb9 d_not ⟨rfl,trivial⟩ trivial trivial rfl (xi1 ?_)
    refine A7 ?_
    exact E_it hB rfl trivial rfl (.inl rfl) rfl (.inr ⟨j,by omega,rfl⟩)
  ·
   refine A4 ?_
   exact E_it hB rfl trivial rfl (.inr rfl) rfl (.inl (by rw [show j=(toldT a key kn).length by omega]))
theorem take_nextF {ks:List Fa} {k:Nat} (h:k < ks.length):ks.take (k+1)=ks.take k++[ks.getD k fa0]:=by
 rw [List.take_succ_eq_append_getElem h,List.getD_eq_getElem?_getD,List.getElem?_eq_getElem h];rfl
theorem c_AppSeqF (a:List Fa) (key:ByteArray) (kn:Int) (hl:a.length≤1000000):
  CtG Tryz.prog 157 [(104,⟨46,1,false,[.val (tL 11 true tFa a)]⟩),(105,⟨9,1,false,[.val (tSt key)]⟩),(106,⟨3,1,false,[.val (tI kn)]⟩)] [.val (tE (.slice none 0 0)),.own (.fn 158 [.ptr 104 0,.ptr 105 0,.ptr 106 0])] (.own (.sl 60 11 0 (toldT a key kn).length)) [(60,⟨59,11,true,rV tFa (toldT a key kn)⟩)] [60]:=by
 refine CtG.intro [104,105,106] Tryz.func157 rfl Tryz.ntmps157 rfl rfl ⟨⟨rfl,(SupX.lit rfl)⟩,⟨rfl,(SupX.lit rfl)⟩,⟨rfl,(SupX.lit rfl)⟩,trivial⟩ ?_
 intro w F η
 refine A8 ?_
 refine C_nilC (q:=2) 60 59 11 true 0 rfl rfl rfl rfl (fun h=>by cases h) rfl rfl ?_
 refine A5 ?_
 refine C_range (caps:=[.ptr 3 0,.ptr 4 0,.ptr 5 0]) (κ:=Empty) (fun j=>cond (Nat.beq j 5) 106 (cond (Nat.beq j 4) 105 (cond (Nat.beq j 3) 104 (j)))) rfl (fun _ h=>h) trivial (i_told a key kn hl) fi158 rfl ⟨rfl,rfl,rfl,trivial⟩ rfl rfl (fun _ _=>rfl) (upd (fun _=>none) 2 (some (.own (.ptr 2 0)))) [2,60,104,105,106] [2] (Sub.cons rfl Sub.nil) (SupG.own rfl SupG.nil) rfl (lkOk rfl) (fun (k:Nat) (xs:List Fa)=>xs=((toldT a key kn).take k)) (fun (k:Nat) (xs:List Fa)=>upd (upd (fun _=>none) 2 (some (⟨46,1,false,[.own (.sl 60 11 0 xs.length)]⟩))) 60 (some (⟨59,11,true,rV tFa xs⟩))) (fun k x=>(SupH.cons rfl (supJ x9) (SupH.cons rfl (supJL rfl) SupH.nil))) (fun k x y hy=>by simp only [List.mem_cons,List.not_mem_nil,or_false] at hy;rcases hy with rfl | rfl | rfl <;> rfl) (fun _ _=>False) (fun i=>i.elim) (fun _ _ h=>h.elim) ([]) rfl ((SubK.consI rfl ImpK.refl) ((SubK.consI rfl ImpK.refl) SubK.nil)) ?_ ?_ ?_
 ·
  intro D lp o1 o2 O W lη lb V0 k xs hk hI
  have htl:=told_le (a:=a) (key:=key) (kn:=kn)
  have hxl:xs.length≤1000000:=by rw [hI,List.length_take];omega
  apply rnd_mk
  ·
   refine A1 ?_
   refine RE (xa1 (k:=5) (n:=11) (agg:=true) zr59.1 zr59.2 rfl) trivial trivial ⟨rfl,trivial⟩ ?_
   refine A2 ?_
   exact K_thenF fun _ _ h=>h
  ·
   refine A2 ?_
   refine RE (xa6 (ts:=[.own (.sl 60 11 0 xs.length)]) (0) ti46 rfl rfl) ⟨rfl,trivial⟩ ⟨rfl,trivial⟩ trivial ?_
   refine A1 ?_
   refine R1 (xb0 (n:=1) (f:=tFa) [((toldT a key kn).getD k fa0)] Tryz.underlying46 el59 zf59 rfl (fun _=>inferInstance) rfl rfl rfl) rfl (RE (xb6 (k:=60) (k':=11) (f:=tFa) (ys:=[((toldT a key kn).getD k fa0)]) (ts':=rV tFa (xs++[((toldT a key kn).getD k fa0)])) Tryz.underlying46 el59 zf59 rfl rfl (fun _=>inferInstance) xc6 (by simp;omega) (by simp;omega) (by simp [rV]) (n':=xs.length+1) rfl) ⟨rfl,rfl,trivial⟩ ⟨rfl,trivial⟩ ⟨rfl,trivial⟩ (RE (xb2 (es:=1) (agg:=false) (e:= .own (.sl 11 11 0 (xs.length+1))) (0) ti46 rfl rfl rfl) ⟨rfl,rfl,trivial⟩ ⟨rfl,trivial⟩ trivial ?_))
   refine A2 ?_
   exact K_ren (g':=fun _=>none) [2,60,104,105,106] (fun j=>cond (Nat.beq j 60) 11 (j)) SubR.nil ((SubKR.consI rfl (ImpK.of xa2.symm)) ((SubKR.consI rfl (ImpK.of (by rw [List.length_append];rfl))) SubKR.nil)) SupG.nil (SupH.cons rfl (supJ x9) (SupH.cons rfl (supJL rfl) SupH.nil)) (lkOk rfl) rfl rfl (fun _ h=>by cases h) (K_rnd ((xs++[(toldT a key kn).getD k fa0])) (by rw [take_nextF hk,hI]) SubK.refl (SupH.cons rfl (supJ x9) (SupH.cons rfl (supJL rfl) SupH.nil)) (lkOk rfl))
 ·
  intro D hD xs hI
  rw [List.take_length] at hI
  subst hI
  refine A4 ?_
  refine RE (xa6 (ts:=[.own (.sl 60 11 0 (toldT a key kn).length)]) (0) ti46 rfl rfl) ⟨rfl,trivial⟩ ⟨rfl,trivial⟩ trivial ?_
  refine A4 ?_
  exact xb5 (LentC.loop LentC.mk' hD) rfl rfl Imp.refl ⟨rfl,trivial⟩ rfl ⟨⟨rfl,x9⟩,trivial⟩ rfl
 ·
  intro D hD e i;exact i.elim
theorem c_CollectF (a:List Fa) (key:ByteArray) (kn:Int) (hl:a.length≤1000000):
  CtG Tryz.prog 111 [(104,⟨46,1,false,[.val (tL 11 true tFa a)]⟩),(105,⟨9,1,false,[.val (tSt key)]⟩),(106,⟨3,1,false,[.val (tI kn)]⟩)] [.own (.fn 158 [.ptr 104 0,.ptr 105 0,.ptr 106 0])] (.own (.sl 4 11 0 (toldT a key kn).length)) [(4,⟨59,11,true,rV tFa (toldT a key kn)⟩)] [4]:=by
 refine CtG.intro [104,105,106] Tryz.func111 rfl Tryz.ntmps111 rfl rfl ⟨⟨rfl,(SupX.lit rfl)⟩,⟨rfl,(SupX.lit rfl)⟩,⟨rfl,(SupX.lit rfl)⟩,trivial⟩ ?_
 intro w F η
 refine A8 ?_
 refine RE (xa5 (fun j=>cond (Nat.beq j 105) 105 (cond (Nat.beq j 104) 104 (cond (Nat.beq j 60) 4 (106)))) (c_AppSeqF a key kn hl) fi157 rfl (krC (ρ:=fun j=>cond (Nat.beq j 105) 105 (cond (Nat.beq j 104) 104 (cond (Nat.beq j 60) 4 (106)))) (k:=104) rfl (krC (ρ:=fun j=>cond (Nat.beq j 105) 105 (cond (Nat.beq j 104) 104 (cond (Nat.beq j 60) 4 (106)))) (k:=105) rfl (krC (ρ:=fun j=>cond (Nat.beq j 105) 105 (cond (Nat.beq j 104) 104 (cond (Nat.beq j 60) 4 (106)))) (k:=106) rfl (krN (ρ:=fun j=>cond (Nat.beq j 105) 105 (cond (Nat.beq j 104) 104 (cond (Nat.beq j 60) 4 (106)))))))) (krC (ρ:=fun j=>cond (Nat.beq j 105) 105 (cond (Nat.beq j 104) 104 (cond (Nat.beq j 60) 4 (106)))) (k:=60) xa2 (krN (ρ:=fun j=>cond (Nat.beq j 105) 105 (cond (Nat.beq j 104) 104 (cond (Nat.beq j 60) 4 (106)))))) ⟨⟨rfl,x9⟩,trivial⟩ rfl) ⟨rfl,rfl,trivial⟩ ⟨rfl,rfl,rfl,trivial⟩ ⟨rfl,trivial⟩ ?_
 refine A4 ?_
 exact xb5 LentC.mk' rfl rfl Imp.refl ⟨rfl,trivial⟩ rfl ⟨⟨rfl,x9⟩,trivial⟩ rfl
theorem c_Fborders (T:List Fa) (hl:T.length≤1000000):
  Ct Tryz.prog 113 [tL 11 true tFa T] (tL 1 false tI (bdF T)):=by
 refine Ct.intro Tryz.func113 rfl Tryz.ntmps113 rfl ?_
 intro w F
 refine xh5 (s:=0) rfl (fun hl0=> ?_)
 refine A7 ?_
 refine RE (xd3 (k:=3) 3 1 false rfl (fun _=>rfl)) trivial trivial ⟨rfl,trivial⟩ ?_
 refine A11 ?_
 refine cL (fun (i:Nat)=>i≤T.length) (fun (i:Nat)=>upd (upd (upd (upd (fun _=>none) 3 (some (.own (.sl 3 1 0 (edF (T.take i)).length)))) 6 (some (.val (tL 11 true tFa T)))) 7 (some (.val (tI T.length)))) 8 (some (.val (tI i)))) (fun (i:Nat)=>upd (fun _=>none) 3 (some (⟨3,1,false,rV tI (edF (T.take i))⟩))) [3] (fun (i:Nat)=>T.length - i) (0) (Nat.zero_le _) (hh:=((SubK.consI rfl ImpK.refl) SubK.nil)) ?_
 intro i hI
 have hnx:=fun hh=>edF_snoc (T:=T) (i:=i) hh
 have hxl:(edF (T.take i)).length≤2*i:=by rw [edF_len,List.length_take];omega
 refine A6 ?_
 refine x5 rfl (fun h93=> ?_) (fun h93=> ?_)
 ·
  refine A6 ?_
  refine R2 (x8 sl46 (i) (by omega) (gD (l:=T) (n:=i) (d:=fa0) (by omega))) rfl rfl ?_
  refine A1 ?_
  refine RE (xa1 (k:=5) (n:=11) (agg:=true) zr59.1 zr59.2 rfl) trivial trivial ⟨rfl,trivial⟩ ?_
  refine A9 ?_
  refine R2 (xb0 (n:=2) (f:=fun n:Int=>tI n) [(T.getD i fa0).lo,(T.getD i fa0).hi] Tryz.underlying42 el3 zf3 rfl (fun _=>inferInstance) rfl rfl rfl) rfl rfl (RE (xb6 (k:=3) (k':=18) (f:=fun n:Int=>tI n) (ys:=[(T.getD i fa0).lo,(T.getD i fa0).hi]) (ts':=rV tI ((edF (T.take i))++[(T.getD i fa0).lo,(T.getD i fa0).hi])) Tryz.underlying42 el3 zf3 rfl rfl (fun _=>inferInstance) xc6 (by simp;omega) (by simp;omega) (by simp [rV]) (n':=(edF (T.take i)).length+2) rfl) ⟨rfl,rfl,trivial⟩ ⟨rfl,trivial⟩ ⟨rfl,trivial⟩ ?_)
  refine A8 ?_
  have hnx:=hnx (by omega)
  exact xb7 (l:=[3]) (fun j=>cond (Nat.beq j 3) 18 (j)) (i+1) ⟨(by omega),(by omega)⟩ (SubR.int rfl (by first | omega | rfl | (dsimp only;omega)) (SubR.int rfl (by first | omega | rfl | (dsimp only;omega)) (SubR.cons rfl ((SubR.consI rfl (Imp.of (by rw [hnx,List.length_append];rfl))) SubR.nil)))) ((SubKR.consI rfl (ImpK.of (by rw [hnx];exact xa2.symm))) SubKR.nil) (SupG.val (SupG.val (SupG.val (SupG.own rfl SupG.nil)))) (SupH.cons rfl (supJ x9) SupH.nil) (lkOk rfl) rfl rfl (fun _ h=>by cases h)
 ·
  refine A8 ?_
  refine RE (xa5 (fun _=>3) (c_SortI (edF (T.take i)) (by omega)) fi49 rfl (krC (ρ:=fun _=>3) (k:=1) xa2 (krN (ρ:=fun _=>3))) (krC (ρ:=fun _=>3) (k:=1) xa2 (krN (ρ:=fun _=>3))) ⟨⟨rfl,x9⟩,trivial⟩ rfl) ⟨rfl,trivial⟩ ⟨rfl,trivial⟩ trivial ?_
  refine A3 ?_
  have hsl:=srtI_len (edF (T.take i))
  refine A2 ?_
  refine RE (xa5 (fun _=>3) (xt7 (edF (T.take i))) fi50 rfl (krC (ρ:=fun _=>3) (k:=1) xa2 (krN (ρ:=fun _=>3))) (krC (ρ:=fun _=>3) (k:=1) xa2 (krN (ρ:=fun _=>3))) ⟨⟨rfl,x9⟩,trivial⟩ rfl) ⟨rfl,trivial⟩ ⟨rfl,trivial⟩ trivial (RE (xi2 (f:=tI) (xs:=brd (edF (T.take i))) (fun _ h=>h) (xf4 rfl) rfl) ⟨rfl,trivial⟩ ⟨rfl,trivial⟩ trivial ?_)
  refine A3 ?_
  exact x4 Plain.mk' rfl rfl (Le.of (by rw [show i=T.length by omega,List.take_length];rfl))
theorem c_SI1 (ds:List Int) (x:Int) (i:Nat) (hi:i < ds.length):
  CtG Tryz.prog 191 [(2,⟨42,1,false,[.val (tL 1 false tI ds)]⟩),(3,⟨3,1,false,[.val (tI x)]⟩)] [.val (tI i),.own (.ptr 2 0),.own (.ptr 3 0)] (.val (tB (decide (x≤ds.getD i 0)))) [(2,⟨42,1,false,[.val (tL 1 false tI ds)]⟩),(3,⟨3,1,false,[.val (tI x)]⟩)] []:=by
 refine CtG.intro [2,3] Tryz.func191 rfl Tryz.ntmps191 rfl rfl ⟨⟨rfl,(SupX.lit rfl)⟩,⟨rfl,(SupX.lit rfl)⟩,trivial⟩ ?_
 intro w F η
 refine A9 ?_
 refine R2 (x8 sl42 (i) (by omega) (gD (l:=ds) (n:=i) (d:=0) (by omega))) rfl rfl ?_
 refine A7 ?_
 exact xb5 LentC.mk' rfl rfl Imp.refl ⟨rfl,rfl,trivial⟩ rfl ⟨⟨rfl,(SupX.lit rfl)⟩,⟨rfl,(SupX.lit rfl)⟩,trivial⟩ rfl
theorem pw_le {ds:List Int} (h:ds.Pairwise (· < ·)) {i j:Nat} (hij:i≤j) (hj:j < ds.length):ds.getD i 0≤ds.getD j 0:=by
 rcases Nat.lt_or_ge i j with h1 | h1
 ·exact Int.le_of_lt (pw_lt h h1 hj)
 ·rw [show i=j by omega];exact Int.le_refl _
theorem c_SearchI (ds:List Int) (x:Int) (hpw:ds.Pairwise (· < ·)) (hdl:ds.length≤2000000):
  CtG Tryz.prog 57 [(2,⟨42,1,false,[.val (tL 1 false tI ds)]⟩),(3,⟨3,1,false,[.val (tI x)]⟩)] [.val (tI ds.length),.own (.fn 191 [.ptr 2 0,.ptr 3 0])] (.val (tI (ixD ds x))) [(2,⟨42,1,false,[.val (tL 1 false tI ds)]⟩),(3,⟨3,1,false,[.val (tI x)]⟩)] []:=by
 refine CtG.intro [2,3] Tryz.func57 rfl Tryz.ntmps57 rfl rfl ⟨⟨rfl,(SupX.lit rfl)⟩,⟨rfl,(SupX.lit rfl)⟩,trivial⟩ ?_
 intro w F η
 refine A14 ?_
 refine cL (fun (fm:(Nat)×(Nat))=>(fun (p:Nat) (q:Nat)=>p≤q∧q≤ds.length∧(∀i,i < p→ds.getD i 0 < x)∧ ∀i,q≤i→i < ds.length→x≤ds.getD i 0) fm.1 fm.2) (fun (fm:(Nat)×(Nat))=>(fun (p:Nat) (q:Nat)=>upd (upd (upd (fun _=>none) 1 (some (.own (.fn 191 [.ptr 2 0,.ptr 3 0])))) 5 (some (.val (tI p)))) 6 (some (.val (tI q)))) fm.1 fm.2) (fun (fm:(Nat)×(Nat))=>(fun (p:Nat) (q:Nat)=>upd (upd (fun _=>none) 2 (some (⟨42,1,false,[.val (tL 1 false tI ds)]⟩))) 3 (some (⟨3,1,false,[.val (tI x)]⟩))) fm.1 fm.2) [2,3] (fun (fm:(Nat)×(Nat))=>(fun (p:Nat) (q:Nat)=>q - p) fm.1 fm.2) ((0,ds.length)) (by dsimp only;exact ⟨Nat.zero_le _,Nat.le_refl _,fun i hi=>by omega,fun i hi hi2=>by omega⟩) (hh:=((SubK.consI rfl ImpK.refl) ((SubK.consI rfl ImpK.refl) SubK.nil))) ?_
 intro fm hI
 obtain ⟨p,q⟩:=fm
 replace hI:p≤q∧q≤ds.length∧(∀i,i < p→ds.getD i 0 < x)∧ ∀i,q≤i→i < ds.length→x≤ds.getD i 0:=hI
 show wc _ _ _ _ (upd (upd (upd (fun _=>none) 1 (some (.own (.fn 191 [.ptr 2 0,.ptr 3 0])))) 5 (some (.val (tI p)))) 6 (some (.val (tI q)))) (upd (upd (fun _=>none) 2 (some (⟨42,1,false,[.val (tL 1 false tI ds)]⟩))) 3 (some (⟨3,1,false,[.val (tI x)]⟩))) _
 obtain ⟨hp,hq,h1,h2⟩:=hI
 refine A8 ?_
 refine x5 rfl (fun h62=> ?_) (fun h62=> ?_)
 ·
  refine A8 ?_
  refine R1 (x6 Tryz.underlying139 (isS Tryz.underlying3) (by first | exact wu64 (by omega) (by omega) | exact mu64)) rfl (R2 (xf0 (r:=((((p+q) / 2):Nat):Int)) (by decide) ((shrN (s:=1) rfl (by decide)).trans (by simp))) rfl rfl (R1 (x6 Tryz.underlying3 (isS Tryz.underlying139) (wr64 (by omega) (by omega))) rfl ?_))
  refine A7 ?_
  refine RE (xh2 (ps:=[.val (tI _)]) (caps:=[.ptr 2 0,.ptr 3 0]) (fun j=>cond (Nat.beq j 2) 2 (3)) (c_SI1 ds x ((p+q) / 2) (by omega)) fi191 rfl (krC (ρ:=fun j=>cond (Nat.beq j 2) 2 (3)) (k:=2) rfl (krC (ρ:=fun j=>cond (Nat.beq j 2) 2 (3)) (k:=3) rfl (krN (ρ:=fun j=>cond (Nat.beq j 2) 2 (3))))) (krC (ρ:=fun j=>cond (Nat.beq j 2) 2 (3)) (k:=2) rfl (krC (ρ:=fun j=>cond (Nat.beq j 2) 2 (3)) (k:=3) rfl (krN (ρ:=fun j=>cond (Nat.beq j 2) 2 (3))))) ⟨⟨rfl,(SupX.lit rfl)⟩,⟨rfl,(SupX.lit rfl)⟩,trivial⟩ rfl) ⟨rfl,rfl,trivial⟩ ⟨rfl,rfl,trivial⟩ trivial ?_
  refine A3 ?_
  refine C_ifn rfl (fun h65=> ?_) (fun h65=> ?_)
  ·
   refine A6 ?_
   exact kF ((((p+q) / 2)+1,q)) ⟨(by dsimp only;exact ⟨by omega,hq,fun i hi=>by have:=pw_le hpw (show i≤((p+q) / 2) by omega) (by omega);omega,h2⟩),(by dsimp only;omega)⟩ (hh:=((SubK.consI rfl ImpK.refl) ((SubK.consI rfl ImpK.refl) SubK.nil)))
  ·
   refine A5 ?_
   exact kF ((p,((p+q) / 2))) ⟨(by dsimp only;exact ⟨by omega,by omega,h1,fun i hi hi2=>by have:=pw_le hpw hi hi2;omega⟩),(by dsimp only;omega)⟩ (hh:=((SubK.consI rfl ImpK.refl) ((SubK.consI rfl ImpK.refl) SubK.nil)))
 ·
  refine A12 ?_
  exact xb5 LentC.mk' rfl rfl (Imp.int (congrArg Int.ofNat (fst_is (n:=ds.length) (f:=fun i=>decide (x≤ds.getD i 0)) (by omega) (fun i hi=>decide_eq_false (by have:=h1 i hi;omega)) (fun hp2=>decide_eq_true (h2 p (by omega) hp2))).symm)) ⟨rfl,rfl,trivial⟩ rfl ⟨⟨rfl,(SupX.lit rfl)⟩,⟨rfl,(SupX.lit rfl)⟩,trivial⟩ rfl
theorem c_SearchInts (ds:List Int) (x:Int) (hpw:ds.Pairwise (· < ·)) (hdl:ds.length≤2000000):
  Ct Tryz.prog 161 [tL 1 false tI ds,tI x] (tI (ixD ds x)):=by
 refine Ct.intro Tryz.func161 rfl Tryz.ntmps161 rfl ?_
 intro w F
 refine A11 ?_
 refine R2 (xf3 (ps:=[.ptr 2 0,.ptr 3 0]) rfl) rfl rfl (RE (xa5 (fun j=>cond (Nat.beq j 2) 2 (3)) (c_SearchI ds x hpw hdl) fi57 rfl (krC (ρ:=fun j=>cond (Nat.beq j 2) 2 (3)) (k:=2) rfl (krC (ρ:=fun j=>cond (Nat.beq j 2) 2 (3)) (k:=3) rfl (krN (ρ:=fun j=>cond (Nat.beq j 2) 2 (3))))) (krC (ρ:=fun j=>cond (Nat.beq j 2) 2 (3)) (k:=2) rfl (krC (ρ:=fun j=>cond (Nat.beq j 2) 2 (3)) (k:=3) rfl (krN (ρ:=fun j=>cond (Nat.beq j 2) 2 (3))))) ⟨⟨rfl,(SupX.lit rfl)⟩,⟨rfl,(SupX.lit rfl)⟩,trivial⟩ rfl) ⟨rfl,rfl,trivial⟩ ⟨rfl,rfl,trivial⟩ trivial ?_)
 refine A4 ?_
 exact x4 Plain.mk' rfl rfl Le.refl
theorem c_parts (ds:List Int) (f:Fa) (hpw:ds.Pairwise (· < ·)) (hdl:ds.length≤2000000):
  Ct Tryz.prog 114 [tL 1 false tI ds,tFa f] (tT [tI (ixD ds f.lo),tI (ixD ds f.hi)]):=by
 refine Ct.intro Tryz.func114 rfl Tryz.ntmps114 rfl ?_
 intro w F
 refine A12 ?_
 refine R2 (x3 (c_SearchInts ds f.lo hpw hdl) fi161 rfl) rfl rfl ?_
 refine A3 ?_
 refine R2 (x3 (c_SearchInts ds f.hi hpw hdl) fi161 rfl) rfl rfl ?_
 refine A5 ?_
 exact xd7 Plain.mk' rfl rfl rfl Le.refl Le.refl
end An.S
namespace An
open Go
section
variable {P:Program} {c:Base} {g:Slots} {h:Keys} {al:Names} {d ty:Nat} {pos:String} {af:Array Edge} {gd:Option (Nat×Bool)}
end
section
variable {P:Program} {c:Base} {d ty:Nat} {pos:String} {af:Array Edge} {gd:Option (Nat×Bool)}
end
def cP (a b:Nat):Nat:=2 ^ a*(2*b+1)
theorem cP_pos {a b:Nat}:0 < cP a b:=Nat.mul_pos (Nat.pow_pos (by decide)) (by omega)
theorem cP_succ {a b:Nat}:cP (a+1) b=2*cP a b:=by rw [cP,cP,Nat.pow_succ,Nat.mul_comm (2 ^ a) 2,Nat.mul_assoc]
theorem cP_zero {b:Nat}:cP 0 b=2*b+1:=by simp [cP]
theorem cP_inj: ∀{a b a' b':Nat},cP a b=cP a' b'→a=a'∧b=b'
 | 0,b,0,b',h=>by rw [cP_zero,cP_zero] at h;exact ⟨rfl,by omega⟩
 | a+1,b,a'+1,b',h=>by
  rw [cP_succ,cP_succ] at h
  have:=cP_inj (a:=a) (b:=b) (a':=a') (b':=b') (by omega)
  exact ⟨by omega,this.2⟩
 | 0,b,a'+1,b',h=>by rw [cP_zero,cP_succ] at h;omega
 | a+1,b,0,b',h=>by rw [cP_zero,cP_succ] at h;omega
def cLs:List Nat→Nat
 | []=>0
 | x::r=>cP x (cLs r)
theorem cLs_inj: ∀{l m:List Nat},cLs l=cLs m→l=m
 | [],[],_=>rfl
 | [],y::s,h=>by simp only [cLs] at h;have:=cP_pos (a:=y) (b:=cLs s);omega
 | x::r,[],h=>by simp only [cLs] at h;have:=cP_pos (a:=x) (b:=cLs r);omega
 | x::r,y::s,h=>by
  simp only [cLs] at h
  obtain ⟨h1,h2⟩:=cP_inj h
  rw [h1,cLs_inj h2]
theorem map_injL {α β:Type} {f:α→β} (hf: ∀x y,f x=f y→x=y): ∀{l m:List α},l.map f=m.map f→l=m
 | [],[],_=>rfl
 | [],_::_,h=>by cases h
 | _::_,[],h=>by cases h
 | x::r,y::s,h=>by
  simp only [List.map_cons,List.cons.injEq] at h
  rw [hf x y h.1,map_injL hf h.2]
structure MK (α β:Type) where
  fk:α→Value
  fv:β→Value
  ca:α→Nat
  cb:β→Nat
  ja: ∀x y,ca x=ca y→x=y
  jb: ∀x y,cb x=cb y→x=y
structure MS (α β:Type) where
  b:Nat
  l:List (α×β)
  it:Option (Nat×List Nat)
variable {α β:Type}
def MK.ents (M:MK α β):Nat→List (α×β)→List MapEntry
 | _,[]=>[]
 | i,p::r=>⟨M.fk p.1,M.fv p.2,i⟩::M.ents (i+1) r
def MK.obj (M:MK α β) (l:List (α×β)):Obj:= .map (M.ents 0 l).toArray l.length
def MK.c2 (M:MK α β) (p:α×β):Nat:=cP (M.ca p.1) (M.cb p.2)
theorem MK.c2_inj (M:MK α β) (x y:α×β) (h:M.c2 x=M.c2 y):x=y:=by
 obtain ⟨h1,h2⟩:=cP_inj h
 exact Prod.ext (M.ja _ _ h1) (M.jb _ _ h2)
def cIt:Option (Nat×List Nat)→Nat
 | none=>0
 | some (r,q)=>cP r (cLs q)
theorem cIt_inj: ∀{x y:Option (Nat×List Nat)},cIt x=cIt y→x=y
 | none,none,_=>rfl
 | none,some (r,q),h=>by simp only [cIt] at h;have:=cP_pos (a:=r) (b:=cLs q);omega
 | some (r,q),none,h=>by simp only [cIt] at h;have:=cP_pos (a:=r) (b:=cLs q);omega
 | some (r,q),some (r',q'),h=>by
  obtain ⟨h1,h2⟩:=cP_inj h
  rw [h1,cLs_inj h2]
def MK.code (M:MK α β):Option (MS α β)→Nat
 | none=>0
 | some s=>cP s.b (cP (cLs (s.l.map M.c2)) (cIt s.it))
theorem MK.code_inj (M:MK α β): ∀{x y:Option (MS α β)},M.code x=M.code y→x=y
 | none,none,_=>rfl
 | none,some s,h=>by simp only [MK.code] at h;have:=cP_pos (a:=s.b) (b:=cP (cLs (s.l.map M.c2)) (cIt s.it));omega
 | some s,none,h=>by simp only [MK.code] at h;have:=cP_pos (a:=s.b) (b:=cP (cLs (s.l.map M.c2)) (cIt s.it));omega
 | some ⟨b,l,t⟩,some ⟨b',l',t'⟩,h=>by
  obtain ⟨h1,h2⟩:=cP_inj h
  obtain ⟨h3,h4⟩:=cP_inj h2
  have h1:b=b':=h1
  have h3:l=l':=map_injL M.c2_inj (cLs_inj h3)
  have h4:t=t':=cIt_inj h4
  rw [h1,h3,h4]
def MK.at (M:MK α β):Option (MS α β)→Dom→Dom→World→Prop
 | none,_,_,_=>True
 | some s,O,V,w=>(w.heap[s.b]? =some (M.obj s.l)∧V s.b∧ ¬O s.b)∧ ∀r q,s.it=some (r,q)→w.heap[r]? =some (.mapIter (some s.b) s.l.length q.toArray s.l.length)∧V r∧ ¬O r∧r≠s.b
def MK.J (M:MK α β) (n:Nat) (O V:Dom) (w:World):Prop:= ∃s,M.code s=n∧M.at s O V w
theorem MK.J_at (M:MK α β) {s:Option (MS α β)} {O V:Dom} {w:World}:M.J (M.code s) O V w↔M.at s O V w:=by
 constructor
 ·rintro ⟨t,h1,h2⟩
  rw [←M.code_inj h1];exact h2
 ·exact fun h=>⟨s,rfl,h⟩
theorem MK.Jc (M:MK α β):JcOf M.J:=by
 rintro n O O' V w w' ⟨s,h1,h2⟩ hs hO
 refine ⟨s,h1,?_⟩
 cases s with
 | none=>trivial
 | some s=>
  obtain ⟨⟨h3,h4,h5⟩,h6⟩:=h2
  have key: ∀b,b < w.heap.size→ ¬O b→ ¬O' b:=fun b hb h h'=>by
   rcases (hO b h').2 with h7 | h7
   ·exact h h7
   ·omega
  refine ⟨⟨(hs.block _ (xa7 h3) h5).trans h3,h4,key _ (xa7 h3) h5⟩,fun r q hr=> ?_⟩
  obtain ⟨h7,h8,h9,h10⟩:=h6 r q hr
  exact ⟨(hs.block _ (xa7 h7) h9).trans h7,h8,key _ (xa7 h7) h9,h10⟩
structure MB (M:MK α β) (c:Base) (K:Nat):Prop where
  yk:c.yk=some K
  ln:K∈c.ln
  c0:c.lη.c K=0
  ro:c.ro=none
  J:c.J=M.J
def Base.maps (N:Nat) (w:World) (F:Dom) (K:Nat) (M:MK α β):Base:=⟨N,w,F,[K],⟨fun _=>0,fun _=>0,fun _=>False⟩,fun _=>False,none,[],[],fun _=>False,some K,fun _=>False,M.J,M.Jc⟩
theorem MB.mk' {M:MK α β} {N K:Nat} {w:World} {F:Dom}:MB M (Base.maps N w F K M) K:=⟨rfl,by simp [Base.maps],rfl,rfl,rfl⟩
theorem Plain.maps {M:MK α β} {N K:Nat} {w:World} {F:Dom}:Plain (Base.maps N w F K M) w F:=⟨rfl,rfl,fun _ h=>h,fun _ h=>h,trivial⟩
section
variable {P:Program} {c:Base} {g:Slots} {h:Keys} {al:Names} {Q:Exit→Act→World→Prop} {M:MK α β} {K:Nat}
theorem wl_ghost {A:Array Oper} {rest:List Oper} {o:Oper} {d:Nat} {s:Option (MS α β)} {ι:Type} (p:ι→Prop) (t:ι→Ty) (s':ι→Option (MS α β)) (hB:MB M c K) (hdst:o.dst=some d)
  (hw: ∀a w η,St' c g h al a w η→Region.wanted o (yielded A a.tmps)=true) (hdN:Nat.blt d c.N=true) (hK:h K=some ⟨M.code s,1,false,[]⟩)
  (hrun: ∀a w η,St' c g h al a w η→M.at s (c.chg h η) η.vo w→ ∃i v w' V',(execOp a.eval o).run P w= .ok (.value v) w'∧Kept η.vo V' w w'∧M.at (s' i) (c.chg h η) V' w'∧(∀F,(t i).p F w' v)∧p i)
  (H: ∀i,p i→wl P c A Q rest (upd g d (some (.val (t i)))) (upd h K (some ⟨M.code (s' i),1,false,[]⟩)) al):wl P c A Q (o::rest) g h al:=fun a w ⟨η,st⟩=>by
 unfold wpListIn
 rw [if_pos (hw a w η st)]
 have hj:=st.jj K _ hB.yk hK
 rw [hB.J] at hj
 obtain ⟨i,v,w',V',h1,h2,h3,h4,h5⟩:=hrun a w η st (M.J_at.1 hj)
 refine xe8 h1 ?_
 have s2:=st.fed hB.yk hB.ln hB.c0 hK h2 (m:=M.code (s' i)) (by rw [hB.J];exact M.J_at.2 h3)
 rw [hdst]
 exact H i h5 _ _ ⟨_,s2.put (by simpa using hdN) (e:= .val (t i)) (h4 _) fun k hk=>by cases hk⟩
theorem wl_ghost0 {A:Array Oper} {rest:List Oper} {o:Oper} {s:Option (MS α β)} (s':Option (MS α β)) (hB:MB M c K) (hdst:o.dst=none)
  (hw: ∀a w η,St' c g h al a w η→Region.wanted o (yielded A a.tmps)=true) (hK:h K=some ⟨M.code s,1,false,[]⟩)
  (hrun: ∀a w η,St' c g h al a w η→M.at s (c.chg h η) η.vo w→ ∃w' V',(execOp a.eval o).run P w= .ok .skip w'∧Kept η.vo V' w w'∧M.at s' (c.chg h η) V' w')
  (H:wl P c A Q rest g (upd h K (some ⟨M.code s',1,false,[]⟩)) al):wl P c A Q (o::rest) g h al:=fun a w ⟨η,st⟩=>by
 unfold wpListIn
 rw [if_pos (hw a w η st)]
 have hj:=st.jj K _ hB.yk hK
 rw [hB.J] at hj
 obtain ⟨w',V',h1,h2,h3⟩:=hrun a w η st (M.J_at.1 hj)
 refine upon_skip h1 ?_
 have s2:=st.fed hB.yk hB.ln hB.c0 hK h2 (m:=M.code s') (by rw [hB.J];exact M.J_at.2 h3)
 rw [hdst]
 exact H _ _ ⟨_,s2⟩
end
variable {α β:Type} {M:MK α β}
theorem MK.ents_len (M:MK α β): ∀(l:List (α×β)) (i:Nat),(M.ents i l).length=l.length
 | [],_=>rfl
 | _::r,i=>by rw [MK.ents,List.length_cons,M.ents_len r];rfl
theorem MK.ents_get (M:MK α β): ∀(l:List (α×β)) (i j:Nat),(M.ents i l)[j]? =l[j]?.map fun p=>⟨M.fk p.1,M.fv p.2,i+j⟩
 | [],_,_=>by simp [MK.ents]
 | p::r,i,0=>by simp [MK.ents]
 | p::r,i,j+1=>by
  rw [MK.ents,List.getElem?_cons_succ,List.getElem?_cons_succ,M.ents_get r (i+1) j,show i+1+j=i+(j+1) by omega]
section
variable [DecidableEq α]
def getI (a:α):Nat→List (α×β)→Option (Nat×β)
 | _,[]=>none
 | i,p::r=>if a=p.1 then some (i,p.2) else getI a (i+1) r
theorem getI_some {a:α}: ∀{l:List (α×β)} {i j:Nat} {v:β},getI a i l=some (j,v)→i≤j∧l[j - i]? =some (a,v)
 | [],_,_,_,h=>by cases h
 | p::r,i,j,v,h=>by
  rw [getI] at h
  split at h
  ·rename_i e
   cases h
   exact ⟨Nat.le_refl _,by simp [e]⟩
  ·obtain ⟨h1,h2⟩:=getI_some h
   refine ⟨by omega,?_⟩
   rw [show j - i=(j - (i+1))+1 by omega,List.getElem?_cons_succ];exact h2
def getM (l:List (α×β)) (a:α):Option β:=(getI a 0 l).map (·.2)
def entV (z:β) (l:List (α×β)) (a:α):β:=((getI a 0 l).map (·.2)).getD z
def putM (l:List (α×β)) (a:α) (v:β):List (α×β):=match getI a 0 l with
 | some (i,_)=>l.set i (a,v)
 | none=>l++[(a,v)]
theorem find_ents {d:TypeDesc} (hs: ∀x y,Instr.sameNow d (M.fk x) (M.fk y)=some (decide (x=y))) (a:α): ∀(l:List (α×β)) (i:Nat),Instr.findNow d (M.fk a) (M.ents i l) i=some ((getI a i l).map fun x=>(x.1,M.fv x.2))
 | [],_=>rfl
 | p::r,i=>by
  rw [MK.ents,Instr.findNow,getI]
  by_cases h:a=p.1
  ·simp [hs,h]
  ·simp [hs,h,find_ents hs a r (i+1)]
end
structure MapF [DecidableEq α] (P:Program) (t:TypeId) (M:MK α β) (z:β):Prop where
  und: ∃kt e d,P.underlying t=some (.map kt e)∧P.underlying kt=some d∧(∀x y,Instr.sameNow d (M.fk x) (M.fk y)=some (decide (x=y)))∧(∀x,MapKept.IsKey d (M.fk x))∧(∀x,Instr.sameBits 10000 (M.fk x) (M.fk x)=true)∧ ∀w,(zeroValue e).run P w= .ok (M.fv z) w
section
variable {P:Program} {w:World} {b:Nat} {l:List (α×β)} [DecidableEq α] {t:TypeId} {z:β}
theorem run_lookupM (hf:MapF P t M z) (hb:w.heap[b]? =some (M.obj l)) (a:α):(Instr.lookup t (.map (some b)) (M.fk a) false).run P w= .ok (M.fv ((getM l a).getD z)) w:=by
 obtain ⟨kt,e,d,ht,hd,hs,hk,hy,hz⟩:=hf.und
 have h1:=MapKept.run_findKey (w:=w) hd (find_ents hs a l 0)
 have h2:=fun em=>MapKept.run_checkKey (w:=w) hd (hk a) em 9999
 have hb':w.heap[b]? =some (.map (M.ents 0 l).toArray l.length):=hb
 cases hg:getI a 0 l with
 | none=>simp [hg] at h1;simp [Instr.lookup,run_underlying ht,MapKept.run_getObj_map hb',h2,h1,hz,Result.andThen,getM,hg]
 | some x=>simp [hg] at h1;simp [Instr.lookup,run_underlying ht,MapKept.run_getObj_map hb',h2,h1,Result.andThen,getM,hg]
omit [DecidableEq α] in
theorem ents_push {p:α×β}:(M.ents 0 l).toArray.push ⟨M.fk p.1,M.fv p.2,l.length⟩=(M.ents 0 (l++[p])).toArray:=by
 apply Array.ext'
 rw [Array.toList_push]
 apply List.ext_getElem?
 intro i
 rw [M.ents_get]
 rcases Nat.lt_trichotomy i l.length with h | h | h
 ·rw [List.getElem?_append_left (by rw [M.ents_len];exact h),List.getElem?_append_left h,M.ents_get]
 ·subst h
  rw [List.getElem?_append_right (by rw [M.ents_len];exact Nat.le_refl _),List.getElem?_append_right (Nat.le_refl _),M.ents_len];simp
 ·rw [List.getElem?_append_right (by rw [M.ents_len];omega),List.getElem?_append_right (by omega),M.ents_len,List.getElem?_eq_none (by simp;omega),List.getElem?_eq_none (by simp;omega)];rfl
omit [DecidableEq α] in
theorem ents_set {i:Nat} {p:α×β} {f:MapEntry→MapEntry} (hf: ∀q,l[i]? =some q→f ⟨M.fk q.1,M.fv q.2,i⟩=⟨M.fk p.1,M.fv p.2,i⟩):(M.ents 0 l).modify i f=M.ents 0 (l.set i p):=by
 apply List.ext_getElem?
 intro j
 rw [M.ents_get,List.getElem?_modify,List.getElem?_set,M.ents_get]
 by_cases h:i=j
 ·subst h
  cases hq:l[i]? with
  | none=>
   have:l.length≤i:=List.getElem?_eq_none_iff.1 hq
   simp;omega
  | some q=>
   have:=(List.getElem?_eq_some_iff.1 hq).1
   simp [hf q hq,this]
 ·simp [h]
end
section
variable {P:Program} {w:World} {b:Nat} {l:List (α×β)} {t:TypeId}
end
section
variable {P:Program} {w:World} {b:Nat} {l:List (α×β)} [DecidableEq α] {t:TypeId} {z:β}
theorem run_updateM (hf:MapF P t M z) (hb:w.heap[b]? =some (M.obj l)) (a:α) (v:β):(Instr.mapUpdate t (.map (some b)) (M.fk a) (M.fv v)).run P w= .ok () (ChangeMaps.setBlock w b (M.obj (putM l a v))):=by
 obtain ⟨kt,e,d,ht,hd,hs,hk,hy,hz⟩:=hf.und
 have h1:=MapKept.run_findKey (w:=w) hd (find_ents hs a l 0)
 have h2:=fun em=>MapKept.run_checkKey (w:=w) hd (hk a) em 9999
 have hb':w.heap[b]? =some (.map (M.ents 0 l).toArray l.length):=hb
 have hset:=fun o=>MapKept.run_setObj_map (P:=P) o hb'
 cases hg:getI a 0 l with
 | none=>
  simp [hg] at h1
  have hp:=ents_push (M:=M) (l:=l) (p:=(a,v))
  simp [Instr.mapUpdate,run_underlying ht,MapKept.run_getObj_map hb',h2,h1,hset,Result.andThen,putM,hg,ChangeMaps.setBlock,MK.obj]
  rw [←hp];simp
 | some x=>
  obtain ⟨i,u⟩:=x
  have hi:=(getI_some hg).2
  simp only [Nat.sub_zero] at hi
  simp [hg] at h1
  have he:(M.ents 0 l)[i]? =some ⟨M.fk a,M.fv u,i⟩:=by rw [M.ents_get,hi];simp
  have hm:=ents_set (M:=M) (l:=l) (i:=i) (p:=(a,v)) (f:=fun e=>{e with key:=M.fk a,val:=M.fv v}) (fun q hq=>by rfl)
  simp [Instr.mapUpdate,run_underlying ht,MapKept.run_getObj_map hb',h2,h1,he,Instr.keyThatStays,hy,hset,Result.andThen,putM,hg,ChangeMaps.setBlock,MK.obj,hm]
end
theorem stp_set {V:Dom} {w:World} {b:Nat} {o:Obj} (hV:V b):Stp V w (ChangeMaps.setBlock w b o):=⟨rfl,rfl,rfl,by simp [ChangeMaps.setBlock],fun x _ hx=>by
 show (w.heap.setIfInBounds b o)[x]? =_
 rw [Array.getElem?_setIfInBounds,if_neg (fun e=>hx (by rw [←e];exact hV))]⟩
theorem set_same {w:World} {b:Nat} {o o':Obj} (hb:w.heap[b]? =some o):(ChangeMaps.setBlock w b o').heap[b]? =some o':=(MapKept.heap_set hb).1
section
variable {P:Program} {c:Base} {g:Slots} {h:Keys} {al:Names} {Q:Exit→Act→World→Prop} {K:Nat} {A:Array Oper} {rest:List Oper} {d ty:Nat} {pos:String} {af:Array Edge} {gd:Option (Nat×Bool)} {t:TypeId} {b:Nat} {l:List (α×β)}
theorem kept_same {a:Act} {w w':World} {η:Env} (st:St' c g h al a w η) (hs:Stp η.vo w w'):Kept η.vo η.vo w w':=
 ⟨hs,fun _ h=>h,fun b hb=>⟨Nat.lt_of_lt_of_le (st.fr.vnew b hb).1 hs.size,.inl hb⟩⟩
theorem kept_new {a:Act} {w:World} {η:Env} (o:Obj) (st:St' c g h al a w η):Kept η.vo (fun x=>η.vo x∨x=w.heap.size) w (w.alloc o):=
 ⟨⟨rfl,rfl,rfl,by simp,fun b hb _=>(MapKept.heap_alloc w o).2 b hb⟩,fun _ h=> .inl h,fun b hb=>by
  rcases hb with hb | rfl
  ·exact ⟨by have:=(st.fr.vnew b hb).1;simp;omega,.inl hb⟩
  ·exact ⟨by simp,.inr (Nat.le_refl _)⟩⟩
theorem wl_makeM (hB:MB M c K) (hw: ∀a w η,St' c g h al a w η→Region.wanted ⟨some d,.makeMap t none,ty,pos,af,gd⟩ (yielded A a.tmps)=true) (hdN:Nat.blt d c.N=true) (hK:h K=some ⟨0,1,false,[]⟩)
  (H: ∀b,wl P c A Q rest (upd g d (some (.val (tE (.map (some b)))))) (upd h K (some ⟨M.code (some ⟨b,[],none⟩),1,false,[]⟩)) al):wl P c A Q (⟨some d,.makeMap t none,ty,pos,af,gd⟩::rest) g h al:=
 wl_ghost (s:=none) (fun _=>True) (fun b=>tE (.map (some b))) (fun b=>some ⟨b,[],none⟩) hB rfl hw hdN hK (fun a w η st _=>⟨w.heap.size,_,_,_,rfl,kept_new _ st,⟨⟨(MapKept.heap_alloc w _).1,.inr rfl,fun hO=>absurd (st.chg_lt hO) (Nat.lt_irrefl _)⟩,fun r q hr=>by cases hr⟩,fun _=>rfl,trivial⟩) fun b _=>H b
theorem wl_putM [DecidableEq α] {z:β} {x y u:Operand} {a:α} {v:β} (hf:MapF P t M z) (hB:MB M c K) (hw: ∀a w η,St' c g h al a w η→Region.wanted ⟨none,.mapUpdate t x y u,ty,pos,af,gd⟩ (yielded A a.tmps)=true)
  (hx:look g x=some (.val (tE (.map (some b))))) (hy:look g y=some (.val (tE (M.fk a)))) (hu:look g u=some (.val (tE (M.fv v)))) (hK:h K=some ⟨M.code (some ⟨b,l,none⟩),1,false,[]⟩)
  (H:wl P c A Q rest g (upd h K (some ⟨M.code (some ⟨b,putM l a v,none⟩),1,false,[]⟩)) al):wl P c A Q (⟨none,.mapUpdate t x y u,ty,pos,af,gd⟩::rest) g h al:=
 wl_ghost0 (s:=some ⟨b,l,none⟩) (some ⟨b,putM l a v,none⟩) hB rfl hw hK (fun a' w η st hm=>by
  have e1:a'.eval x= .map (some b):=(xa3 st hx).1
  have e2:a'.eval y=M.fk a:=(xa3 st hy).1
  have e3:a'.eval u=M.fv v:=(xa3 st hu).1
  obtain ⟨⟨h1,h2,h3⟩,_⟩:=hm
  refine ⟨_,η.vo,?_,kept_same st (stp_set (b:=b) (o:=M.obj (putM l a v)) h2),⟨⟨set_same h1,h2,h3⟩,fun r q hr=>by cases hr⟩⟩
  simp only [execOp,e1,e2,e3,Sem.run_bind,run_updateM hf h1,Result.andThen];rfl) H
theorem d_lookupM [DecidableEq α] {z:β} {x y:Operand} (hf:MapF P t M z) (hB:MB M c K) (b:Nat) (l:List (α×β)) (a:α):
  Does P c ⟨some d,.lookup t x y false,ty,pos,af,gd⟩ ⟨[(x,.val (tE (.map (some b)))),(y,.val (tE (M.fk a)))],[(K,⟨M.code (some ⟨b,l,none⟩),1,false,[]⟩)],some (d,some (.val (tE (M.fv (entV z l a))))),[],[]⟩:=
 Does.value rfl fun g h al a' w η hrd hkr st=>by
  have e1:a'.eval x= .map (some b):=(xa3 st hrd.1).1
  have e2:a'.eval y=M.fk a:=(xa3 st hrd.2.1).1
  have hj:=st.jj K _ hB.yk hkr.1
  rw [hB.J] at hj
  have hj:M.J (M.code (some ⟨b,l,none⟩)) (c.chg h η) η.vo w:=hj
  obtain ⟨⟨h1,_⟩,_⟩:=M.J_at.1 hj
  refine ⟨_,w,?_,Ext.refl w,rfl,fun k hk=>by cases hk⟩
  simp only [execOp,e1,e2,Sem.run_bind,run_lookupM hf h1,Result.andThen];rfl
end
theorem Ct.introM {P:Program} {f:FuncId} {fn:Func} {x:Code} {N:Nat} {ts:List Ty} {r:Ty} (M:MK α β) (K:Nat) (hf:P.funcs[f]? =some fn) (hb:fn.body=some x) (hN:fn.ntmps=N) (hlb:Nat.ble ts.length N=true)
  (H: ∀w F,MB M (Base.maps N w F K M) K→wc P (Base.maps N w F K M) x (Post P w F fn r) (args 0 ts) (upd (fun _=>none) K (some ⟨0,1,false,[]⟩)) (nm [K])):Ct P f ts r:=by
 intro F w vs hvs
 have hl:ts.length≤N:=Nat.le_of_ble_eq_true hlb
 have hlen:vs.length=ts.length:=by
  clear H hlb hl
  induction ts generalizing vs with
  | nil=>cases vs with
   | nil=>rfl
   | cons=>exact hvs.elim
  | cons t r ih=>cases vs with
   | nil=>exact hvs.elim
   | cons v s=>simp [ih s hvs.2]
 have hkey: ∀k y,upd (fun _=>none) K (some (⟨0,1,false,[]⟩:HEnt)) k=some y→k=K∧y=⟨0,1,false,[]⟩:=fun k y hy=>by
  by_cases hk:k=K
  ·subst hk;rw [xb1] at hy;cases hy;exact ⟨rfl,rfl⟩
  ·rw [xa4 _ _ _ hk] at hy;cases hy
 have hK:memN K [K]=true:=xb8.2 (by simp)
 have hown: ∀b,¬Own (upd (fun _=>none) K (some (⟨0,1,false,[]⟩:HEnt))) ⟨fun _=>0,fun _=>0,fun _=>False⟩ b:=by
  rintro b ⟨k,y,_,hc,_⟩
  exact absurd hc (Nat.lt_irrefl 0)
 refine xo8 hf hb (H w F MB.mk' _ w ⟨⟨fun _=>0,fun _=>0,fun _=>False⟩,?_⟩)
 refine ⟨?_,rfl,fun s e hs=> ?_,fun k x hx=> ?_,fun k k' x x' hx _ _ hc=>absurd hc (Nat.lt_irrefl 0),⟨rfl,rfl,rfl,Nat.le_refl _,fun _ _ _ _=>rfl,fun _ hb=>hb,fun _ hb=>hb.elim⟩,fun k hk=> ?_,fun x hx=>(by cases hx),fun b hb=>hb.elim,fun k hk=> ?_,fun k x hk hx=> ?_,fun b hb=>hb.elim⟩
 ·simp [hlen,hN,Base.maps];omega
 ·obtain ⟨j,t,h1,h2,h3⟩:=args_spec ts 0 s e hs
  subst h3
  have hj:j < ts.length:=(List.getElem?_eq_some_iff.1 h2).1
  obtain ⟨v,hv,hp⟩:=Tup.get ts vs j t hvs h2
  refine ⟨by show s < N;omega,fun k hk=>(by cases hk),?_⟩
  have e1:(vs.toArray++Array.replicate (fn.ntmps - vs.toArray.size) undef).getD s undef=v:=by
   rw [Array.getD_eq_getD_getElem?,Array.getElem?_append,if_pos (by simp;omega)]
   rw [h1,Nat.zero_add,List.getElem?_toArray,hv];rfl
  show t.p _ w _
  simp only [e1]
  exact t.mono hp fun b o hb hl _=>⟨⟨.inr ⟨hb,fun hv=>hv⟩,hown b,fun hv=>hv,fun hv=>hv⟩,hl⟩
 ·obtain ⟨rfl,rfl⟩:=hkey k x hx
  exact ⟨hK,fun j hj=>(by cases hj),⟨by simp,by simp,fun _=>rfl,by simp,fun hc=>absurd hc (Nat.lt_irrefl 0)⟩,fun hc=>absurd hc (Nat.lt_irrefl 0)⟩
 ·have hk:k∈[K]:=hk
  rw [List.mem_singleton.1 hk]
  exact ⟨hK,rfl,rfl⟩
 ·have hk:some K=some k:=hk
  cases hk
  exact hK
 ·have hk:some K=some k:=hk
  cases hk
  rw [xb1] at hx
  cases hx
  exact (M.J_at (s:=none)).2 trivial
abbrev MK.cd (M:MK α β) (b:Nat) (l:List (α×β)):Nat:=M.code (some ⟨b,l,none⟩)
variable {α β:Type}
def tMp (M:MK α β):Option (List (α×β))→Ty
 | none=>tE (.map none)
 | some l=>⟨fun F w v=> ∃b,v= .map (some b)∧F b∧w.heap[b]? =some (M.obj l),fun ⟨b,h1,h2,h3⟩ hk=>let h4:=hk b _ h2 h3 rfl;⟨b,h1,h4.1,h4.2⟩⟩
section
variable {P:Program} {c:Base} {d ty:Nat} {pos:String} {af:Array Edge} {gd:Option (Nat×Bool)} {M:MK α β} {g:Slots} {h:Keys} {al:Names}
theorem d_lookupG [DecidableEq α] {t:TypeId} {z:β} {x y:Operand} (hf:MapF P t M z) (l:List (α×β)) (a:α):
  Does P c ⟨some d,.lookup t x y false,ty,pos,af,gd⟩ ⟨[(x,.val (tMp M (some l))),(y,.val (tE (M.fk a)))],[],some (d,some (.val (tE (M.fv (entV z l a))))),[],[]⟩:=
 Does.value rfl fun g h al a' w η hrd hkr st=>by
  obtain ⟨b,e1,_,h1⟩:=(xa3 st hrd.1).1
  have e1:a'.eval x= .map (some b):=e1
  have e2:a'.eval y=M.fk a:=(xa3 st hrd.2.1).1
  refine ⟨_,w,?_,Ext.refl w,rfl,fun k hk=>by cases hk⟩
  simp only [execOp,e1,e2,Sem.run_bind,run_lookupM hf h1,Result.andThen];rfl
theorem E_ret2M {N K:Nat} {w0:World} {F:Dom} {fn:Func} {t u b:Nat} {l:List (α×β)} {o:Option (List (α×β))} {r2 r2':Ty} (hr:fn.results= #[.tmp t,.tmp u]) (hx:g t=some (.val (tE (.map (some b))))) (hK:h K=some ⟨M.code (some ⟨b,l,none⟩),1,false,[]⟩) (hy:g u=some (.val r2')) (ho:o=some l) (h2:Le r2' r2):
  wk (Base.maps N w0 F K M) .ret (Post P w0 F fn (tT [tMp M o,r2])) g h al:=by
 subst ho
 refine K_endR (.inl rfl) Plain.maps.df fun df pn a w η s=> ?_
 have h0: ∀b,η.vo b→w0.heap.size≤b:=fun b hb=>(s.fr.vnew b hb).2.2.elim (fun h=>h.elim) id
 have hj:M.J (M.code (some ⟨b,l,none⟩)) _ η.vo w:=s.jj K _ rfl hK
 obtain ⟨⟨m1,m2,m3⟩,_⟩:=(M.J_at (s:=some ⟨b,l,none⟩)).1 hj
 have e1:a.tmps.getD t undef= .map (some b):=xq9 s hx
 have e2:=xq9 s hy
 refine ⟨_,results_tmp2 hr a.tmps P w,⟨s.fr.os,s.fr.tape,s.fr.output,s.fr.size,fun b hb=>s.fr.block b hb (fun h=>h.elim) fun hv=>by have:=h0 b hv;omega⟩,[_,_],rfl,⟨b,e1,.inl (h0 b m2),m1⟩,r2.mono (h2 _ _ _ e2) fun b o hb hl _=>⟨hb.1.imp id fun h=>h.1,hl⟩,trivial⟩
end
theorem beqBA (a b:ByteArray):(a==b)=decide (a=b):=by
 by_cases h:a=b
 ·subst h;rw [decide_eq_true rfl];rcases a with ⟨d⟩;show (d==d)=true;simp
 ·rw [decide_eq_false h];rcases a with ⟨d⟩;rcases b with ⟨e⟩;show (d==e)=false;exact beq_false_of_ne fun h2=>h (by rw [h2])
def caS (s:ByteArray):Nat:=cLs (s.data.toList.map UInt8.toNat)
theorem caS_inj (x y:ByteArray) (h:caS x=caS y):x=y:=by
 have h1:=map_injL (f:=UInt8.toNat) (fun a b e=>UInt8.toNat_inj.1 e) (cLs_inj h)
 rcases x with ⟨a⟩;rcases y with ⟨b⟩
 exact congrArg ByteArray.mk (Array.toList_inj.1 h1)
abbrev mkSU:MK ByteArray Nat:=⟨fun s=> .string s,fun n=> .int .u8 (n:Int),caS,id,caS_inj,fun _ _ h=>h⟩
theorem mapF_SU {P:Program} {t kt e:TypeId} (h1:P.underlying t=some (.map kt e)) (h2:P.underlying kt=some .string) (h3: ∀w,(zeroValue e).run P w= .ok (.int .u8 0) w):MapF P t mkSU 0:=
 ⟨kt,e,_,h1,h2,fun x y=>by simp only [Instr.sameNow,beqBA],fun x=>by simp [MapKept.IsKey],fun x=>by simp [Instr.sameBits,beqBA],h3⟩
end An
namespace An.S
open Go
def fRight (f:Fa):Bool:=decide (1≤f.key.size) && decide (f.key.size≤24) && decide (0≤f.lo) && decide (f.lo < f.hi) && decide (f.hi≤65536) && decide (0≤f.kn) && decide (f.kn < 65536) && if f.gone=true then decide (f.v=An.va0) else f.v.valid
def kGet (m:List (ByteArray×Nat)) (k:ByteArray):Nat:=entV 0 m k
def kAdd (m:List (ByteArray×Nat)) (f:Fa):List (ByteArray×Nat):=putM m f.key (max (kGet m f.key) f.v.kind)
def kM (a:List Fa):List (ByteArray×Nat):=a.foldl kAdd []
def kBad (m:List (ByteArray×Nat)) (f:Fa):Bool:=decide (kGet m f.key≠0) && !f.gone && decide (kGet m f.key≠f.v.kind)
def kOk (a:List Fa):Bool:=(List.range a.length).all fun i=> !kBad (kM (a.take i)) (a.getD i fa0)
theorem kM_snoc {a:List Fa} {i:Nat} (hi:i < a.length):kM (a.take (i+1))=kAdd (kM (a.take i)) (a.getD i fa0):=by
 rw [List.take_succ_eq_append_getElem hi,kM,List.foldl_append,List.getD_eq_getElem?_getD,List.getElem?_eq_getElem hi];rfl
theorem kOk_bad {a:List Fa} {i:Nat} (hi:i < a.length) (h:kBad (kM (a.take i)) (a.getD i fa0)=true):kOk a=false:=xu5 hi (by rw [h];rfl)
theorem kBad_iff {m:List (ByteArray×Nat)} {f:Fa}:kBad m f=true↔kGet m f.key≠0∧f.gone=false∧kGet m f.key≠f.v.kind:=by
 simp only [kBad,Bool.and_eq_true,decide_eq_true_eq,Bool.not_eq_true',and_assoc]
def recOk (a:List Fa):Bool:=decide (a.length≤2000) && a.all fRight && kOk a
def ixA (p:Fa→Bool) (l:List Fa):Int:=if l.any p then ((l.takeWhile fun s=> !p s).length:Int) else -1
theorem ixA_at {p:Fa→Bool}: ∀{l:List Fa} {i:Nat},i < l.length→(l.take i).any p=false→p (l.getD i fa0)=true→(i:Int)=ixA p l
 | [],i,hi,_,_=>by simp at hi
 | x::xs,0,_,_,h=>by
  have h:p x=true:=h
  simp [ixA,h]
 | x::xs,i+1,hi,ha,h=>by
  simp only [List.take_succ_cons,List.any_cons,Bool.or_eq_false_iff] at ha
  have h2:p (xs.getD i fa0)=true:=by simpa using h
  have hi2:i < xs.length:=by simpa using hi
  have ih:=ixA_at hi2 ha.2 h2
  have hany:xs.any p=true:=List.any_eq_true.2 ⟨xs.getD i fa0,by rw [List.getD_eq_getElem?_getD,List.getElem?_eq_getElem hi2];exact List.getElem_mem hi2,h2⟩
  rw [ixA,if_pos hany] at ih
  simp only [ixA,List.any_cons,ha.1,hany,Bool.or_true,if_true,Bool.not_false,List.takeWhile_cons,List.length_cons]
  omega
theorem ixA_end {p:Fa→Bool} {l:List Fa} (h:l.any p=false): -1=ixA p l:=by simp [ixA,h]
theorem ixA_any {p:Fa→Bool} {l:List Fa}:decide (ixA p l≥0)=l.any p:=by
 rw [ixA]
 cases l.any p with
 | true=>simp
 | false=>simp
theorem anyA_next {p:Fa→Bool} {l:List Fa} {i:Nat} (hi:i < l.length):(l.take (i+1)).any p=((l.take i).any p || p (l.getD i fa0)):=by
 rw [List.take_succ_eq_append_getElem hi,List.any_append,List.getD_eq_getElem?_getD,List.getElem?_eq_getElem hi];simp
theorem anyA_all {l:List Fa}:(l.any fun f=> !fRight f)= !l.all fRight:=by
 rw [List.any_eq_not_all_not];simp
theorem mem_getDF {l:List Fa} {i:Nat} (hi:i < l.length):l.getD i fa0∈l:=by
 rw [List.getD_eq_getElem?_getD,List.getElem?_eq_getElem hi];exact List.getElem_mem hi
end An.S
namespace An
open Go
section
variable {P:Program} {c:Base} {g:Slots} {h:Keys} {al:Names} {d ty:Nat} {pos:String} {af:Array Edge} {Q:Exit→Act→World→Prop}
end
section
variable {α:Type} (L:Nat→List α) (m:Nat→Nat→α) (d:α)
variable {L m d}
end
section
variable {n es k:Nat} {κ len:Nat→Nat} {t0:Nat→Ent}
end
section
variable {P:Program} {c:Base} {g:Slots} {h:Keys} {al:Names} {a:Act} {w:World} {η:Env}
theorem St'.giveL (s:St' c g h al a w η) {k:Nat} {T es off len:Nat} {agg:Bool} {ts:List Ent} {α:Type} {f:α→Ty} {xs:List α} (hk:h k=some ⟨T,es,agg,ts⟩) (hlb:0 < η.c k→ ¬c.lb (η.b k))
  (hts:(ts.drop off).take len=xs.map fun x=> .val (f x)) (hl:xs.length=len) {v:Value} (hv:(Ent.own (.sl k es off len)).sat (c.dom h η) w η v):(tL es agg f xs).p (c.dom (upd h k none) η) w v:=by
 subst hl
 obtain ⟨A,h1,h2,h3⟩:=hv
 obtain ⟨h4,h5,⟨h6,h7,h8,h9,h10⟩,h11⟩:=s.key k _ hk
 simp only at h7 h8 h9 h10
 refine ⟨A,_,h1,by omega,by omega,?_⟩
 rcases Nat.eq_zero_or_pos xs.length with h0 | h0
 ·exact .inl (List.eq_nil_of_length_eq_zero h0)
 ·have hc:0 < η.c k:=by omega
  obtain ⟨cs,e1,e2,e3⟩:=h10 hc
  obtain ⟨d1,d2,d3⟩:=h11 hc
  have d1:c.w0.heap.size≤η.b k:=d1.resolve_right (hlb hc)
  refine .inr ⟨η.b k,off*es,h3 (by omega),⟨.inl d1,?_,d2,d3⟩,fun i x hi=> ?_⟩
  ·rintro ⟨j,y,hj,hcj,e⟩
   by_cases hjk:j=k
   ·subst hjk;rw [xb1] at hj;cases hj
   ·rw [xa4 _ _ _ hjk] at hj
    exact s.inj j k y _ hj hk hjk hcj hc e.symm
  ·have hil:i < xs.length:=(List.getElem?_eq_some_iff.1 hi).1
   have he:=e3 (off+i) _ (map_get hts i x hi)
   have hle:off*es+i*es+es≤cs.size:=by
    rw [e2,←Nat.add_mul,←Nat.succ_mul];exact Nat.mul_le_mul_right _ (by omega)
   refine ⟨_,⟨cs,_,_,e1,hle,h7,h8,rfl⟩,?_⟩
   rw [←Nat.add_mul]
   exact (f x).mono he (Keep.drop k)
theorem C_giveL {Q:Exit→Act→World→Prop} {x:Code} {t k T es off len:Nat} {agg:Bool} {ts:List Ent} {α:Type} {f:α→Ty} {xs:List α} (hg:g t=some (.own (.sl k es off len))) (hk:h k=some ⟨T,es,agg,ts⟩)
  (hlb: ∀b,c.lb b→ ∃j y,j∈c.ln∧j≠k∧h j=some y∧0 < c.lη.c j∧b=c.lη.b j)
  (hts:(ts.drop off).take len=xs.map fun x=> .val (f x)) (hl:xs.length=len) (H:wc P c x Q (upd g t (some (.val (tL es agg f xs)))) (upd h k none) al):wc P c x Q g h al:=fun a w ⟨η,s⟩=>by
 have h2:=s.giveL hk (fun hc hb=>by
  obtain ⟨j,y,h1,h2,h3,h4,h5⟩:=hlb _ hb
  obtain ⟨_,e1,e2⟩:=s.lk j h1
  exact s.inj j k y _ h3 hk h2 (by rw [e2];exact h4) hc (by rw [e1,←h5])) hts hl (s.slot t _ hg).2.2
 have s2:=(s.drop k).put (s.slot t _ hg).1 (e:= .val (tL es agg f xs)) h2 fun j hj=>by cases hj
 refine H a w ⟨η,?_⟩
 have e:a.put (some t) (a.tmps.getD t undef)=a:=by
  have hlt:t < a.tmps.size:=by rw [s.tn];exact (s.slot t _ hg).1
  have:a.tmps.setIfInBounds t (a.tmps.getD t undef)=a.tmps:=by
   apply Array.ext_getElem?
   intro i
   rw [Array.getElem?_setIfInBounds]
   by_cases hi:t=i
   ·subst hi;simp [hlt]
   ·simp [hi]
  simp only [Act.put,this]
 rwa [e] at s2
end
section
variable {P:Program} {c:Base} {d ty:Nat} {pos:String} {af:Array Edge} {gd:Option (Nat×Bool)}
end
section
variable {P:Program} {c:Base} {d ty:Nat} {pos:String} {af:Array Edge} {gd:Option (Nat×Bool)}
end
section
variable {P:Program} {c:Base} {g:Slots} {h:Keys} {al:Names} {Q:Exit→Act→World→Prop}
theorem wl_imp {A:Array Oper} {rest:List Oper} {t:Nat} {e e':Ent} (hg:g t=some e) (hi:Imp e e') (hs: ∀k∈e'.supp,k∈e.supp) (H:wl P c A Q rest (upd g t (some e')) h al):wl P c A Q rest g h al:=fun a w ⟨η,s⟩=>
 H a w ⟨η,⟨s.tn,s.df,fun q y hy=>by
  by_cases hq:q=t
  ·subst hq
   rw [xb1] at hy
   cases hy
   obtain ⟨h1,h2,h3⟩:=s.slot q e hg
   exact ⟨h1,fun k hk=>h2 k (hs k hk),hi _ _ _ _ h3⟩
  ·rw [xa4 _ _ _ hq] at hy
   exact s.slot q y hy,s.key,s.inj,s.fr,s.lk,s.pin,s.vol,s.yal,s.jj,s.lbl⟩⟩
end
end An
namespace An.S
open Go Go.Proofs An
instance fo59_4:FoI Tryz.prog 59 4 4:=⟨by kernel_rfl⟩
instance fo59_5:FoI Tryz.prog 59 5 5:=⟨by kernel_rfl⟩
instance fi69:FnI Tryz.prog 69:=⟨_,Tryz.func69,by kernel_rfl,rfl⟩
instance fi70:FnI Tryz.prog 70:=⟨_,Tryz.func70,by kernel_rfl,rfl⟩
instance fi71:FnI Tryz.prog 71:=⟨_,Tryz.func71,by kernel_rfl,rfl⟩
instance fi72:FnI Tryz.prog 72:=⟨_,Tryz.func72,by kernel_rfl,rfl⟩
instance fi109:FnI Tryz.prog 109:=⟨_,Tryz.func109,by kernel_rfl,rfl⟩
instance fi110:FnI Tryz.prog 110:=⟨_,Tryz.func110,by kernel_rfl,rfl⟩
theorem hMS:MapF Tryz.prog 128 mkSU 0:=mapF_SU Tryz.underlying128 Tryz.underlying9 (fun w=>by kernel_rfl)
theorem maxN {a b:Nat}:max (a:Int) (b:Int)=((max a b:Nat):Int):=by omega
theorem c_isKnown (d:Int):
  Ct Tryz.prog 110 [tI d] (tB (decide (0≤d) && decide (d < 65536))):=by
 refine Ct.intro Tryz.func110 rfl Tryz.ntmps110 rfl ?_
 intro w F
 refine A10 ?_
 refine RGcaseD (t:=5) rfl (fun h18=> ?_) (fun h18=> ?_)
 ·
  refine A7 ?_
  exact x4 Plain.mk' rfl rfl (Le.bool (by simp [*]))
 ·
  refine A7 ?_
  exact x4 Plain.mk' rfl rfl (Le.bool (by simp [*]))
theorem c_FRight (f:Fa) (hD:f.v.f.dig):
  Ct Tryz.prog 71 [tFa f] (tB (fRight f)):=by
 refine Ct.intro Tryz.func71 rfl Tryz.ntmps71 rfl ?_
 intro w F
 refine A11 ?_
 refine R1 (d_lenS Tryz.underlying9) rfl ?_
 refine A2 ?_
 refine RGcaseD (t:=7) rfl (fun h23=> ?_) (fun h23=> ?_)
 ·
  refine A18 ?_
  refine A18 ?_
  refine A2 ?_
  exact x4 Plain.mk' rfl rfl (Le.bool (by symm;rw [Bool.eq_false_iff];intro hr;simp only [fRight,Bool.and_eq_true,decide_eq_true_eq] at hr;first | omega | (simp_all;done) | (simp at*;omega)))
 ·
  refine A2 ?_
  refine RGon (decide_eq_false h23) rfl (d_lenS Tryz.underlying9) rfl ⟨rfl,trivial⟩ trivial trivial ?_
  refine A3 ?_
  refine RGcaseD (t:=13) rfl (fun h23_2=> ?_) (fun h23_2=> ?_)
  ·
   refine A18 ?_
   refine A14 ?_
   exact x4 Plain.mk' rfl rfl (Le.bool (by symm;rw [Bool.eq_false_iff];intro hr;simp only [fRight,Bool.and_eq_true,decide_eq_true_eq] at hr;first | omega | (simp_all;done) | (simp at*;omega)))
  ·
   refine A5 ?_
   refine RGcaseD (t:=18) rfl (fun h23_3=> ?_) (fun h23_3=> ?_)
   ·
    refine A18 ?_
    refine A9 ?_
    exact x4 Plain.mk' rfl rfl (Le.bool (by symm;rw [Bool.eq_false_iff];intro hr;simp only [fRight,Bool.and_eq_true,decide_eq_true_eq] at hr;first | omega | (simp_all;done) | (simp at*;omega)))
   ·
    refine A7 ?_
    refine RGcaseD (t:=25) rfl (fun h23_4=> ?_) (fun h23_4=> ?_)
    ·
     refine A18 ?_
     refine A2 ?_
     exact x4 Plain.mk' rfl rfl (Le.bool (by symm;rw [Bool.eq_false_iff];intro hr;simp only [fRight,Bool.and_eq_true,decide_eq_true_eq] at hr;first | omega | (simp_all;done) | (simp at*;omega)))
    ·
     refine A5 ?_
     refine RGcaseD (t:=30) rfl (fun h23_5=> ?_) (fun h23_5=> ?_)
     ·
      refine A15 ?_
      exact x4 Plain.mk' rfl rfl (Le.bool (by symm;rw [Bool.eq_false_iff];intro hr;simp only [fRight,Bool.and_eq_true,decide_eq_true_eq] at hr;first | omega | (simp_all;done) | (simp at*;omega)))
     ·
      refine A2 ?_
      refine RGon (decide_eq_false h23_5) rfl (x3 (c_isKnown f.kn) fi110 rfl) rfl ⟨rfl,trivial⟩ trivial trivial ?_
      refine A4 ?_
      refine xc0 rfl (fun h23_6=> ?_) (fun h23_6=> ?_)
      ·
       refine A7 ?_
       exact x4 Plain.mk' rfl rfl (Le.bool (by symm;rw [Bool.eq_false_iff];intro hr;simp only [fRight,Bool.and_eq_true,decide_eq_true_eq] at hr;first | omega | (simp_all;done) | (simp at*;omega)))
      ·
       refine A9 ?_
       refine xc0 rfl (fun h26=> ?_) (fun h26=> ?_)
       ·
        refine A4 ?_
        refine R0 (xa9 (r:=tS [⟨1,false,(tE (.int .u8 0))⟩,⟨4,true,(tS [⟨2,true,(tS [⟨1,false,(tE (.bool false))⟩,⟨1,false,(tLm [])⟩])⟩,⟨2,true,(tS [⟨1,false,(tE (.bool false))⟩,⟨1,false,(tLm [])⟩])⟩])⟩,⟨1,false,(tE (.int .i64 0))⟩]) (ts:=[]) bu57 zr57.2 Le.refl) (R2 (x3 (c_TSame f.v An.va0) fi74 rfl) rfl rfl ?_)
        refine A5 ?_
        exact x4 Plain.mk' rfl rfl (Le.bool (by rw [fRight];simp only [Bool.not_eq_false',Bool.and_eq_true,decide_eq_true_eq, *] at*;simp;omega))
       ·
        refine A6 ?_
        refine R1 (x3 (c_TValid f.v hD) fi77 rfl) rfl ?_
        refine A4 ?_
        exact x4 Plain.mk' rfl rfl (Le.bool (by rw [fRight];simp only [Bool.not_eq_false',Bool.and_eq_true,decide_eq_true_eq, *] at*;simp;omega))
theorem c_FValid1 (f:Fa) (hD:f.v.f.dig):
  Ct Tryz.prog 70 [tFa f] (tB (!fRight f)):=by
 refine Ct.intro Tryz.func70 rfl Tryz.ntmps70 rfl ?_
 intro w F
 refine A9 ?_
 refine R1 (x3 (c_FRight f hD) fi71 rfl) rfl ?_
 refine A5 ?_
 exact x4 Plain.mk' rfl rfl Le.refl
theorem c_FaIndex (a:List Fa) (hD: ∀f∈a,f.v.f.dig):
  Ct Tryz.prog 109 [tL 11 true tFa a,tE (.func (.func 70) #[] #[])] (tI (ixA (fun f:Fa=> !fRight f) a)):=by
 refine Ct.intro Tryz.func109 rfl Tryz.ntmps109 rfl ?_
 intro w F
 refine xh5 (s:=0) rfl (fun hl0=> ?_)
 refine A14 ?_
 refine cL (fun (i:Nat)=>i≤a.length∧(a.take i).any (fun f:Fa=> !fRight f)=false) (fun (i:Nat)=>upd (upd (upd (upd (fun _=>none) 0 (some (.val (tL 11 true tFa a)))) 1 (some (.val (tE (.func (.func 70) #[] #[]))))) 7 (some (.val (tI a.length)))) 8 (some (.val (tI i)))) (fun (i:Nat)=>fun _=>none) [] (fun (i:Nat)=>a.length - i) (0) ⟨Nat.zero_le _,rfl⟩ ?_
 intro i hI
 obtain ⟨hi,ha⟩:=hI
 refine A6 ?_
 refine x5 rfl (fun h108=> ?_) (fun h108=> ?_)
 ·
  refine A15 ?_
  refine R2 (x8 sl46 (i) (by omega) (gD (l:=a) (n:=i) (d:=fa0) (by omega))) rfl rfl ?_
  refine A1 ?_
  refine R2 (xe9 (c_FValid1 (a.getD i fa0) (hD _ (mem_getDF (by omega)))) fi70 rfl) rfl rfl ?_
  refine A2 ?_
  refine xc0 rfl (fun h109=> ?_) (fun h109=> ?_)
  ·
   refine A12 ?_
   exact x4 Plain.mk' rfl rfl (Le.int (ixA_at (by omega) ha h109))
  ·
   refine A7 ?_
   exact kF (i+1) ⟨⟨by omega,by rw [anyA_next (by omega),ha,h109];rfl⟩,(by omega)⟩
 ·
  refine A11 ?_
  exact x4 Plain.mk' rfl rfl (Le.int (ixA_end (by rw [←ha,show i=a.length by omega,List.take_length])))
theorem c_FaContains (a:List Fa) (hD: ∀f∈a,f.v.f.dig):
  Ct Tryz.prog 69 [tL 11 true tFa a,tE (.func (.func 70) #[] #[])] (tB (a.any (fun f:Fa=> !fRight f))):=by
 refine Ct.intro Tryz.func69 rfl Tryz.ntmps69 rfl ?_
 intro w F
 refine A9 ?_
 refine R2 (x3 (c_FaIndex a hD) fi109 rfl) rfl rfl ?_
 refine A5 ?_
 exact x4 Plain.mk' rfl rfl (Le.bool ixA_any)
theorem c_kinds (a:List Fa):
  Ct Tryz.prog 72 [tL 11 true tFa a] (tT [tMp mkSU (if kOk a=true then some (kM a) else none),tB (kOk a)]):=by
 refine Ct.introM mkSU 90 Tryz.func72 rfl Tryz.ntmps72 rfl ?_
 intro w F hM
 refine xh5 (s:=0) rfl (fun hl0=> ?_)
 refine A7 ?_
 refine xm0 ?_
 refine wl_makeM hM (xf6 rfl) rfl rfl (fun bm=> ?_)
 refine xb9 xd9 ⟨rfl,trivial⟩ trivial trivial rfl (xi1 ?_)
 refine A10 ?_
 refine cL (fun (i:Nat)=>i≤a.length∧ ∀j,j < i→kBad (kM (a.take j)) (a.getD j fa0)=false) (fun (i:Nat)=>upd (upd (upd (upd (upd (fun _=>none) 0 (some (.val (tL 11 true tFa a)))) 4 (some (.val (tE (.map (some bm)))))) 9 (some (.val (tL 11 true tFa a)))) 10 (some (.val (tI a.length)))) 11 (some (.val (tI i)))) (fun (i:Nat)=>upd (fun _=>none) 90 (some (⟨mkSU.cd bm (kM (a.take i)),1,false,[]⟩))) [90] (fun (i:Nat)=>a.length - i) (0) ⟨Nat.zero_le _,fun j hj=>by omega⟩ (hh:=((SubK.consI rfl ImpK.refl) SubK.nil)) ?_
 intro i hI
 obtain ⟨hi,hok⟩:=hI
 have hnx:=fun hh=>kM_snoc (a:=a) (i:=i) hh
 have hbi:=kBad_iff (m:=kM (a.take i)) (f:=(a.getD i fa0))
 refine A6 ?_
 refine x5 rfl (fun h35=> ?_) (fun h35=> ?_)
 ·
  refine A6 ?_
  refine R2 (x8 sl46 (i) (by omega) (gD (l:=a) (n:=i) (d:=fa0) (by omega))) rfl rfl ?_
  refine A1 ?_
  refine RE (xa1 (k:=6) (n:=11) (agg:=true) zr59.1 zr59.2 rfl) trivial trivial ⟨rfl,trivial⟩ ?_
  refine A8 ?_
  refine RE (d_lookupM hMS hM bm (kM (a.take i)) (a.getD i fa0).key) ⟨rfl,rfl,trivial⟩ ⟨rfl,trivial⟩ trivial ?_
  refine A9 ?_
  refine RGcaseD (t:=21) rfl (fun h37=> ?_) (fun h37=> ?_)
  ·
   refine A5 ?_
   refine RGcase (t:=26) rfl (fun h37_2=> ?_) (fun h37_2=> ?_)
   ·
    refine A3 ?_
    refine xe3 h37_2 rfl rfl (0) ti5 rfl rfl rfl (At.t (At.g 5 rfl rfl) (At.g 0 rfl rfl)) rfl ?_
    refine A4 ?_
    refine x5 rfl (fun h37_3=> ?_) (fun h37_3=> ?_)
    ·
     refine A1 ?_
     have hko:kOk a=false:=kOk_bad (a:=a) (i:=i) (by omega) (hbi.2 ⟨by simp only [kGet];omega,by simpa using h37_2,by simp only [kGet];omega⟩)
     refine A12 ?_
     exact xd7 Plain.maps rfl rfl rfl (Le.of (by rw [if_neg (by rw [hko];decide)];rfl)) (Le.bool hko.symm)
    ·
     refine A2 ?_
     refine xm0 ?_
     refine xb9 xc1 ⟨rfl,trivial⟩ trivial trivial rfl (xb9 (xi0 fo59_0.h rfl) ⟨rfl,trivial⟩ trivial trivial rfl (xq8 (0) ti9 rfl rfl rfl (At.g 0 rfl rfl) rfl rfl (xb9 xc1 ⟨rfl,trivial⟩ trivial trivial rfl (xb9 (xi0 fo59_5.h rfl) ⟨rfl,trivial⟩ trivial trivial rfl (xb9 (xi0 fo57_0.h rfl) ⟨rfl,trivial⟩ trivial trivial rfl (xq8 (0) ti5 rfl rfl rfl (At.t (At.g 5 rfl rfl) (At.g 0 rfl rfl)) rfl rfl (xb9 (d_max2) ⟨rfl,rfl,trivial⟩ trivial trivial rfl ?_)))))))
     refine wl_imp (t:=40) rfl (Imp.int maxN) (fun k hk=>by cases hk) (wl_putM (b:=bm) (l:=(kM (a.take i))) (a:=(a.getD i fa0).key) (v:=(max (kGet (kM (a.take i)) (a.getD i fa0).key) (a.getD i fa0).v.kind)) hMS hM (xf6 rfl) rfl rfl rfl rfl (xi1 ?_))
     refine A6 ?_
     have hnx:=hnx (by omega)
     have hnb:kBad (kM (a.take i)) (a.getD i fa0)=false:=Bool.eq_false_iff.2 fun hh=>by
      obtain ⟨b1,b2,b3⟩:=hbi.1 hh
      simp only [kGet] at b1 b3
      first | omega | (exact absurd b2 (by simpa using h37_2))
     exact K_fam (i+1) ⟨⟨by omega,fun j hj=>by
  by_cases hji:j=i
  ·subst hji;exact hnb
  ·exact hok j (by omega)⟩,(by omega)⟩ (Sub.int rfl (by first | omega | rfl | (dsimp only;omega)) (Sub.int rfl (by first | omega | rfl | (dsimp only;omega)) (Sub.cons rfl (Sub.cons rfl (Sub.cons rfl Sub.nil))))) ((SubK.consI (hT:=by rw [hnx];rfl) rfl (ImpK.of (by rw [hnx];rfl))) SubK.nil) (SupG.val (SupG.val (SupG.val (SupG.val (SupG.val SupG.nil))))) (SupH.cons rfl (supJL rfl) SupH.nil) (lkOk rfl)
   ·
    refine A11 ?_
    refine xm0 ?_
    refine xb9 xc1 ⟨rfl,trivial⟩ trivial trivial rfl (xb9 (xi0 fo59_0.h rfl) ⟨rfl,trivial⟩ trivial trivial rfl (xq8 (0) ti9 rfl rfl rfl (At.g 0 rfl rfl) rfl rfl (xb9 xc1 ⟨rfl,trivial⟩ trivial trivial rfl (xb9 (xi0 fo59_5.h rfl) ⟨rfl,trivial⟩ trivial trivial rfl (xb9 (xi0 fo57_0.h rfl) ⟨rfl,trivial⟩ trivial trivial rfl (xq8 (0) ti5 rfl rfl rfl (At.t (At.g 5 rfl rfl) (At.g 0 rfl rfl)) rfl rfl (xb9 (d_max2) ⟨rfl,rfl,trivial⟩ trivial trivial rfl ?_)))))))
    refine wl_imp (t:=40) rfl (Imp.int maxN) (fun k hk=>by cases hk) (wl_putM (b:=bm) (l:=(kM (a.take i))) (a:=(a.getD i fa0).key) (v:=(max (kGet (kM (a.take i)) (a.getD i fa0).key) (a.getD i fa0).v.kind)) hMS hM (xf6 rfl) rfl rfl rfl rfl (xi1 ?_))
    refine A6 ?_
    have hnx:=hnx (by omega)
    have hnb:kBad (kM (a.take i)) (a.getD i fa0)=false:=Bool.eq_false_iff.2 fun hh=>by
     obtain ⟨b1,b2,b3⟩:=hbi.1 hh
     simp only [kGet] at b1 b3
     first | omega | (exact absurd b2 (by simpa using h37_2))
    exact K_fam (i+1) ⟨⟨by omega,fun j hj=>by
  by_cases hji:j=i
  ·subst hji;exact hnb
  ·exact hok j (by omega)⟩,(by omega)⟩ (Sub.int rfl (by first | omega | rfl | (dsimp only;omega)) (Sub.int rfl (by first | omega | rfl | (dsimp only;omega)) (Sub.cons rfl (Sub.cons rfl (Sub.cons rfl Sub.nil))))) ((SubK.consI (hT:=by rw [hnx];rfl) rfl (ImpK.of (by rw [hnx];rfl))) SubK.nil) (SupG.val (SupG.val (SupG.val (SupG.val (SupG.val SupG.nil))))) (SupH.cons rfl (supJL rfl) SupH.nil) (lkOk rfl)
  ·
   refine A16 ?_
   refine xm0 ?_
   refine xb9 xc1 ⟨rfl,trivial⟩ trivial trivial rfl (xb9 (xi0 fo59_0.h rfl) ⟨rfl,trivial⟩ trivial trivial rfl (xq8 (0) ti9 rfl rfl rfl (At.g 0 rfl rfl) rfl rfl (xb9 xc1 ⟨rfl,trivial⟩ trivial trivial rfl (xb9 (xi0 fo59_5.h rfl) ⟨rfl,trivial⟩ trivial trivial rfl (xb9 (xi0 fo57_0.h rfl) ⟨rfl,trivial⟩ trivial trivial rfl (xq8 (0) ti5 rfl rfl rfl (At.t (At.g 5 rfl rfl) (At.g 0 rfl rfl)) rfl rfl (xb9 (d_max2) ⟨rfl,rfl,trivial⟩ trivial trivial rfl ?_)))))))
   refine wl_imp (t:=40) rfl (Imp.int maxN) (fun k hk=>by cases hk) (wl_putM (b:=bm) (l:=(kM (a.take i))) (a:=(a.getD i fa0).key) (v:=(max (kGet (kM (a.take i)) (a.getD i fa0).key) (a.getD i fa0).v.kind)) hMS hM (xf6 rfl) rfl rfl rfl rfl (xi1 ?_))
   refine A6 ?_
   have hnx:=hnx (by omega)
   have hnb:kBad (kM (a.take i)) (a.getD i fa0)=false:=Bool.eq_false_iff.2 fun hh=>by
    obtain ⟨b1,b2,b3⟩:=hbi.1 hh
    simp only [kGet] at b1 b3
    first | omega | (exact absurd b2 (by simpa using h37_2))
   exact K_fam (i+1) ⟨⟨by omega,fun j hj=>by
  by_cases hji:j=i
  ·subst hji;exact hnb
  ·exact hok j (by omega)⟩,(by omega)⟩ (Sub.int rfl (by first | omega | rfl | (dsimp only;omega)) (Sub.int rfl (by first | omega | rfl | (dsimp only;omega)) (Sub.cons rfl (Sub.cons rfl (Sub.cons rfl Sub.nil))))) ((SubK.consI (hT:=by rw [hnx];rfl) rfl (ImpK.of (by rw [hnx];rfl))) SubK.nil) (SupG.val (SupG.val (SupG.val (SupG.val (SupG.val SupG.nil))))) (SupH.cons rfl (supJL rfl) SupH.nil) (lkOk rfl)
 ·
  refine A6 ?_
  have hko:kOk a=true:=List.all_eq_true.2 fun j hj=>by rw [hok j (by have:=List.mem_range.1 hj;omega)];rfl
  refine A7 ?_
  exact E_ret2M rfl rfl rfl rfl (by rw [if_pos hko,show i=a.length by omega,List.take_length]) (Le.bool hko.symm)
theorem c_FcValid (a:List Fa) (hD: ∀f∈a,f.v.f.dig):
  Ct Tryz.prog 35 [tL 11 true tFa a] (tB (recOk a)):=by
 refine Ct.intro Tryz.func35 rfl Tryz.ntmps35 rfl ?_
 intro w F
 refine xh5 (s:=0) rfl (fun hl0=> ?_)
 refine A12 ?_
 refine RGcaseD (t:=8) rfl (fun h47=> ?_) (fun h47=> ?_)
 ·
  refine A13 ?_
  exact x4 Plain.mk' rfl rfl (Le.bool (by symm;rw [Bool.eq_false_iff];intro hr;simp only [recOk,Bool.and_eq_true,decide_eq_true_eq] at hr;first | omega | (rw [anyA_all,hr.1.2] at h47_2;cases h47_2)))
 ·
  refine A1 ?_
  refine RGon (decide_eq_false h47) rfl (x3 (c_FaContains a hD) fi69 rfl) rfl ⟨rfl,rfl,trivial⟩ trivial trivial ?_
  refine A3 ?_
  refine xc0 rfl (fun h47_2=> ?_) (fun h47_2=> ?_)
  ·
   refine A7 ?_
   exact x4 Plain.mk' rfl rfl (Le.bool (by symm;rw [Bool.eq_false_iff];intro hr;simp only [recOk,Bool.and_eq_true,decide_eq_true_eq] at hr;first | omega | (rw [anyA_all,hr.1.2] at h47_2;cases h47_2)))
  ·
   refine A5 ?_
   refine R1 (x3 (c_kinds a) fi72 rfl) rfl ?_
   refine A14 ?_
   exact x4 Plain.mk' rfl rfl (Le.bool (by rw [recOk];rw [anyA_all] at*;rw [decide_eq_true (by omega)];simp_all))
instance ti181:TyI Tryz.prog 181 1 false:=⟨by kernel_rfl,by kernel_rfl⟩
instance sl178:SlI Tryz.prog 178 181 1 false:=⟨Tryz.underlying178,ti181⟩
instance fi35:FnI Tryz.prog 35:=⟨_,Tryz.func35,by kernel_rfl,rfl⟩
instance fi73:FnI Tryz.prog 73:=⟨_,Tryz.func73,by kernel_rfl,rfl⟩
instance fi111:FnI Tryz.prog 111:=⟨_,Tryz.func111,by kernel_rfl,rfl⟩
instance fi112:FnI Tryz.prog 112:=⟨_,Tryz.func112,by kernel_rfl,rfl⟩
instance fi113:FnI Tryz.prog 113:=⟨_,Tryz.func113,by kernel_rfl,rfl⟩
instance fi114:FnI Tryz.prog 114:=⟨_,Tryz.func114,by kernel_rfl,rfl⟩
instance fi115:FnI Tryz.prog 115:=⟨_,Tryz.func115,by kernel_rfl,rfl⟩
theorem el181:ElI Tryz.prog 181 1 8 false (.pointer none):=⟨ti181,by kernel_rfl,by kernel_rfl⟩
instance un178:UnI Tryz.prog 178 (.slice 181):=⟨Tryz.underlying178⟩
theorem c_fcopied (v:Va) (h1:v.f.n.l.length≤1000000) (h2:v.f.d.l.length≤1000000):
  Ct Tryz.prog 115 [tVa v] (tVa v):=by
 refine Ct.intro Tryz.func115 rfl Tryz.ntmps115 rfl ?_
 intro w F
 refine A3 ?_
 refine RE (xa1 (k:=2) (n:=6) (agg:=true) zr57.1 zr57.2 rfl) trivial trivial ⟨rfl,trivial⟩ ?_
 refine A7 ?_
 refine xh3 (0) ti26 rfl rfl rfl (At.t (At.g 1 rfl rfl) (At.t (At.g 0 rfl rfl) (At.g 1 rfl rfl))) rfl (R1 (x3 (xk5 _ h1) fi87 rfl) rfl ?_)
 refine A3 ?_
 refine RE (xj8 (k:=1) (T0:=57) (es:=6) (ts:=[.val (tVa v)]) (0) ti26 rfl (upN v) rfl rfl) ⟨rfl,rfl,trivial⟩ ⟨rfl,trivial⟩ trivial ?_
 refine A7 ?_
 refine xh3 (0) ti26 rfl rfl rfl (At.t (At.g 1 rfl rfl) (At.t (At.g 1 rfl rfl) (At.g 1 rfl rfl))) rfl (R1 (x3 (xk5 _ h2) fi87 rfl) rfl ?_)
 refine A3 ?_
 refine RE (xj8 (k:=1) (T0:=57) (es:=6) (ts:=[.val (tVa v)]) (0) ti26 rfl (upD v) rfl rfl) ⟨rfl,rfl,trivial⟩ ⟨rfl,trivial⟩ trivial ?_
 refine A9 ?_
 exact xc3 Plain.mk' rfl ⟨_,_,_,_,_,rfl,rfl,ti57,Le.refl⟩
def smF (a:List Fa):Prop:= ∀f∈a,f.v.f.n.l.length≤1000000∧f.v.f.d.l.length≤1000000
theorem told_sub {a:List Fa} {key:ByteArray} {kn:Int} {f:Fa} (h:f∈toldT a key kn):f∈a∧f.key=key∧f.kn≤kn:=by
 have h1:=List.mem_filter.1 (ssort_mem.1 h)
 have h2:=h1.2
 simp only [Bool.and_eq_true,decide_eq_true_eq] at h2
 exact ⟨h1.1,h2.1,h2.2⟩
theorem c_view (a:List Fa) (key:ByteArray) (kn:Int) (hl:a.length≤100000) (hS:smF a):
  Ct Tryz.prog 73 [tL 11 true tFa a,tSt key,tI kn] (tL 8 true tTs (vwT (toldT a key kn))):=by
 refine Ct.intro Tryz.func73 rfl Tryz.ntmps73 rfl ?_
 intro w F
 refine A10 ?_
 refine RE (xa5 (fun j=>cond (Nat.beq j 4) 1021 (cond (Nat.beq j 3) 21 (2021))) (c_told a key kn) fi112 rfl (krN (ρ:=fun j=>cond (Nat.beq j 4) 1021 (cond (Nat.beq j 3) 21 (2021)))) (krC (ρ:=fun j=>cond (Nat.beq j 4) 1021 (cond (Nat.beq j 3) 21 (2021))) (k:=3) rfl (krC (ρ:=fun j=>cond (Nat.beq j 4) 1021 (cond (Nat.beq j 3) 21 (2021))) (k:=4) rfl (krC (ρ:=fun j=>cond (Nat.beq j 4) 1021 (cond (Nat.beq j 3) 21 (2021))) (k:=5) rfl (krN (ρ:=fun j=>cond (Nat.beq j 4) 1021 (cond (Nat.beq j 3) 21 (2021))))))) ⟨⟨rfl,(SupX.lit rfl)⟩,⟨rfl,(SupX.lit rfl)⟩,⟨rfl,(SupX.lit rfl)⟩,trivial⟩ rfl) ⟨rfl,rfl,rfl,trivial⟩ trivial ⟨rfl,rfl,rfl,trivial⟩ (RE (xa5 (fun j=>cond (Nat.beq j 105) 1021 (cond (Nat.beq j 104) 21 (cond (Nat.beq j 4) 22 (2021)))) (c_CollectF a key kn (by omega)) fi111 rfl (krC (ρ:=fun j=>cond (Nat.beq j 105) 1021 (cond (Nat.beq j 104) 21 (cond (Nat.beq j 4) 22 (2021)))) (k:=104) rfl (krC (ρ:=fun j=>cond (Nat.beq j 105) 1021 (cond (Nat.beq j 104) 21 (cond (Nat.beq j 4) 22 (2021)))) (k:=105) rfl (krC (ρ:=fun j=>cond (Nat.beq j 105) 1021 (cond (Nat.beq j 104) 21 (cond (Nat.beq j 4) 22 (2021)))) (k:=106) rfl (krN (ρ:=fun j=>cond (Nat.beq j 105) 1021 (cond (Nat.beq j 104) 21 (cond (Nat.beq j 4) 22 (2021)))))))) (krC (ρ:=fun j=>cond (Nat.beq j 105) 1021 (cond (Nat.beq j 104) 21 (cond (Nat.beq j 4) 22 (2021)))) (k:=4) xa2 (krN (ρ:=fun j=>cond (Nat.beq j 105) 1021 (cond (Nat.beq j 104) 21 (cond (Nat.beq j 4) 22 (2021)))))) ⟨⟨rfl,x9⟩,trivial⟩ rfl) ⟨rfl,trivial⟩ ⟨rfl,rfl,rfl,trivial⟩ ⟨rfl,trivial⟩ ?_)
 refine A4 ?_
 have hTl0:=told_le (a:=a) (key:=key) (kn:=kn)
 have hST0:smF (toldT a key kn):=fun f hf=>hS f (told_sub hf).1
 generalize toldT a key kn=T at*
 have hbl:=bdF_len (T:=T)
 have hST:=hST0
 refine C_give (t:=7) (k:=22) (f:=tFa) (xs:=T) rfl rfl (fun _ h=>h) (xf4 rfl) rfl ?_
 refine A2 ?_
 refine R1 (x3 (c_Fborders T (by omega)) fi113 rfl) rfl ?_
 refine A7 ?_
 refine RE (xi6 (k:=27) (t:=tE (.pointer none)) (ts:=rV (tO 11 true tFa) (rowA T (bdF T) 0)) (bdF T).length (bdF T).length Tryz.underlying178 el181 (fun _ _=>rfl) rfl rfl rfl (Nat.le_refl _) (by omega) (by omega) (by rw [rowA_zero];exact rV_rep (f:=tO 11 true tFa) _ _ rfl)) ⟨rfl,rfl,trivial⟩ trivial ⟨rfl,trivial⟩ ?_
 refine A12 ?_
 refine cL (fun (i:Nat)=>i≤T.length) (fun (i:Nat)=>upd (upd (upd (upd (upd (fun _=>none) 7 (some (.val (tL 11 true tFa T)))) 8 (some (.val (tL 1 false tI (bdF T))))) 9 (some (.own (.sl 27 1 0 (bdF T).length)))) 29 (some (.val (tI T.length)))) 30 (some (.val (tI i)))) (fun (i:Nat)=>upd (fun _=>none) 27 (some (⟨181,1,false,rV (tO 11 true tFa) (rowA T (bdF T) i)⟩))) [27] (fun (i:Nat)=>T.length - i) (0) (Nat.zero_le _) (hh:=((SubK.consI rfl ImpK.refl) SubK.nil)) ?_
 intro i hI
 have hx1:=ixD_le (ds:=bdF T) (x:=(T.getD i fa0).lo)
 have hx2:=ixD_le (ds:=bdF T) (x:=(T.getD i fa0).hi)
 refine A6 ?_
 refine x5 rfl (fun h117=> ?_) (fun h117=> ?_)
 ·
  refine A15 ?_
  refine R2 (x8 sl46 (i) (by omega) (gD (l:=T) (n:=i) (d:=fa0) (by omega))) rfl rfl ?_
  refine A1 ?_
  refine R2 (x3 (c_parts (bdF T) (T.getD i fa0) xk9 (by omega)) fi114 rfl) rfl rfl ?_
  refine A14 ?_
  refine cL (fun (p:Nat)=>(ixD (bdF T) (T.getD i fa0).lo)≤p∧(p≤(ixD (bdF T) (T.getD i fa0).hi)∨p=(ixD (bdF T) (T.getD i fa0).lo))) (fun (p:Nat)=>upd (upd (upd (upd (upd (upd (upd (upd (fun _=>none) 7 (some (.val (tL 11 true tFa T)))) 8 (some (.val (tL 1 false tI (bdF T))))) 9 (some (.own (.sl 27 1 0 (bdF T).length)))) 10 (some (.val (tI i)))) 12 (some (.val (tI (ixD (bdF T) (T.getD i fa0).hi))))) 13 (some (.val (tI p)))) 29 (some (.val (tI T.length)))) 30 (some (.val (tI i)))) (fun (p:Nat)=>upd (fun _=>none) 27 (some (⟨181,1,false,rV (tO 11 true tFa) (rowL T (bdF T) i p)⟩))) [27] (fun (p:Nat)=>(ixD (bdF T) (T.getD i fa0).hi) - p) ((ixD (bdF T) (T.getD i fa0).lo)) ⟨Nat.le_refl _,.inr rfl⟩ (hh:=((SubK.consI rfl (ImpK.of (by rw [rowL_begin xk9 (by omega)]))) SubK.nil)) ?_
  intro p hI2
  obtain ⟨hp1,hp2⟩:=hI2
  refine A8 ?_
  refine x5 rfl (fun h119=> ?_) (fun h119=> ?_)
  ·
   refine A9 ?_
   refine R2 (x8 sl46 (i) (by omega) (gD (l:=T) (n:=i) (d:=fa0) (by omega))) rfl rfl (R2 (x7 sl178 (by omega) (by omega) rfl) rfl rfl (RE (xb2 (p) ti181 (xh8 (by rw [xk8];omega)) (by omega) (xe6 (m:=(some (T.getD i fa0))) rfl)) ⟨rfl,rfl,trivial⟩ ⟨rfl,trivial⟩ trivial ?_))
   refine A8 ?_
   exact kF (p+1) ⟨⟨by omega,.inl (by omega)⟩,(by omega)⟩ (hh:=((SubK.consI rfl (ImpK.of (by rw [rowL_set xk9 (by omega) (by omega) hp1 (by omega)]))) SubK.nil))
  ·
   refine A10 ?_
   exact kF (i+1) ⟨(by omega),(by omega)⟩ (hh:=((SubK.consI rfl (ImpK.of (by rw [rowL_end xk9 (by omega) hp1 (by omega)]))) SubK.nil))
 ·
  refine A7 ?_
  refine RE (xd3 (k:=14) 77 8 true rfl (fun h=>by cases h)) trivial trivial ⟨rfl,trivial⟩ ?_
  refine A11 ?_
  refine cL (fun (fm:(Nat)×(List Tst))=>(fun (k:Nat) (xs:List Tst)=>k≤(bdF T).length∧xs=vwK T k) fm.1 fm.2) (fun (fm:(Nat)×(List Tst))=>(fun (k:Nat) (xs:List Tst)=>upd (upd (upd (upd (upd (fun _=>none) 8 (some (.val (tL 1 false tI (bdF T))))) 14 (some (.own (.sl 14 8 0 xs.length)))) 55 (some (.own (.sl 27 1 0 (bdF T).length)))) 56 (some (.val (tI (bdF T).length)))) 57 (some (.val (tI k)))) fm.1 fm.2) (fun (fm:(Nat)×(List Tst))=>(fun (k:Nat) (xs:List Tst)=>upd (upd (fun _=>none) 27 (some (⟨181,1,false,rV (tO 11 true tFa) (rowA T (bdF T) T.length)⟩))) 14 (some (⟨77,8,true,rV tTs xs⟩))) fm.1 fm.2) [27,14] (fun (fm:(Nat)×(List Tst))=>(fun (k:Nat) (xs:List Tst)=>(bdF T).length - k) fm.1 fm.2) ((0,[])) (by dsimp only;exact ⟨Nat.zero_le _,rfl⟩) (hh:=((SubK.consI rfl ImpK.refl) ((SubK.consI rfl (ImpK.of (by rw [show i=T.length by omega]))) SubK.nil))) ?_
  intro fm hI
  obtain ⟨k,xs⟩:=fm
  replace hI:k≤(bdF T).length∧xs=vwK T k:=hI
  show wc _ _ _ _ (upd (upd (upd (upd (upd (fun _=>none) 8 (some (.val (tL 1 false tI (bdF T))))) 14 (some (.own (.sl 14 8 0 xs.length)))) 55 (some (.own (.sl 27 1 0 (bdF T).length)))) 56 (some (.val (tI (bdF T).length)))) 57 (some (.val (tI k)))) (upd (upd (fun _=>none) 27 (some (⟨181,1,false,rV (tO 11 true tFa) (rowA T (bdF T) T.length)⟩))) 14 (some (⟨77,8,true,rV tTs xs⟩))) _
  obtain ⟨hk,hx⟩:=hI
  have hxl:xs.length≤k:=by rw [hx];exact vwK_len
  refine A6 ?_
  refine x5 rfl (fun h124=> ?_) (fun h124=> ?_)
  ·
   refine A7 ?_
   refine R2 (x7 sl178 (by omega) (by omega) rfl) rfl rfl (RE (xa6 (k) ti181 (xa8 (f:=tO 11 true tFa) (xs:=rowA T (bdF T) T.length) (d:=none) (by rw [rowA_len];omega)) (by omega)) ⟨rfl,trivial⟩ ⟨rfl,trivial⟩ trivial ?_)
   refine A6 ?_
   have hlo:(rowA T (bdF T) T.length).getD k none=lastF T ((bdF T).getD k 0):=by rw [rowA_get (by omega),List.take_length]
   generalize (rowA T (bdF T) T.length).getD k none=o at*
   refine A2 ?_
   refine R1 (d_eqlNil (n:=11) (agg:=true) (f:=tFa) Tryz.underlying181) rfl ?_
   refine A1 ?_
   refine RGcase (t:=64) rfl (fun h125=> ?_) (fun h125=> ?_)
   ·
    have hgn:gF T ((bdF T).getD k 0)=none:=by rw [gF,←hlo,Option.isNone_iff_eq_none.1 h125];rfl
    refine A16 ?_
    exact kF ((k+1,xs)) ⟨(by dsimp only;exact ⟨by omega,by rw [vwK_none hgn];exact hx⟩),(by dsimp only;omega)⟩ (hh:=((SubK.consI rfl ImpK.refl) ((SubK.consI rfl ImpK.refl) SubK.nil)))
   ·
    obtain ⟨f,rfl⟩: ∃f,o=some f:=Option.isSome_iff_exists.1 (by cases o with
     | none=>exact absurd h125 (by decide)
     | some f=>rfl)
    refine A1 ?_
    refine RGon h125 rfl (xo9 (n:=11) (agg:=true) (f:=tFa) (y:=f) rfl) rfl ⟨rfl,trivial⟩ trivial trivial (RGon h125 rfl (xe5 fo59_4.h (At.f 4 rfl rfl) rfl) rfl ⟨rfl,trivial⟩ trivial trivial (RGon h125 rfl (xm2 ti4) rfl ⟨rfl,trivial⟩ trivial trivial ?_))
    refine A3 ?_
    refine xc0 rfl (fun h125_2=> ?_) (fun h125_2=> ?_)
    ·
     have hgn:gF T ((bdF T).getD k 0)=none:=by rw [gF,←hlo,valF,if_pos h125_2]
     refine A8 ?_
     exact kF ((k+1,xs)) ⟨(by dsimp only;exact ⟨by omega,by rw [vwK_none hgn];exact hx⟩),(by dsimp only;omega)⟩ (hh:=((SubK.consI rfl ImpK.refl) ((SubK.consI rfl ImpK.refl) SubK.nil)))
    ·
     rw [←Bool.not_eq_true] at h125_2
     refine A3 ?_
     have hgs:gF T ((bdF T).getD k 0)=some f.v:=by rw [gF,←hlo,valF,if_neg h125_2]
     have hk1:=lastF_end hlo.symm (by omega)
     have hfm:=(lastF_mem hlo.symm).1
     have hpd:=pw_lt (xk9 (T:=T)) (show k < k+1 by omega) hk1
     refine A7 ?_
     have hgs:gF T ((bdF T).getD k 0)=some f.v:=by rw [gF,←hlo,valF,if_neg h125_2]
     have hk1:=lastF_end hlo.symm (by omega)
     have hfm:=(lastF_mem hlo.symm).1
     have hpd:=pw_lt (xk9 (T:=T)) (show k < k+1 by omega) hk1
     refine A4 ?_
     refine RGcaseD (t:=74) rfl (fun h128=> ?_) (fun h128=> ?_)
     ·
      refine A2 ?_
      refine RGon (decide_eq_true h128) rfl (xe4 (wr64 (by omega) (by omega))) rfl ⟨rfl,rfl,trivial⟩ trivial trivial (RGon (decide_eq_true h128) rfl (x7 sl37 (by omega) (by omega) rfl) rfl ⟨rfl,rfl,trivial⟩ trivial trivial ?_)
      refine A1 ?_
      refine RGon (decide_eq_true h128) rfl (xh9 (es:=8) (o:=1) (xs.length - 1) ti3 (xa8 (d:=tst0) (by omega)) (At.g 1 rfl rfl) (by omega)) rfl ⟨rfl,trivial⟩ ⟨rfl,trivial⟩ trivial ?_
      refine A2 ?_
      refine RGon (decide_eq_true h128) rfl (x8 sl42 (k) (by omega) (gD (l:=bdF T) (n:=k) (d:=0) (by omega))) rfl ⟨rfl,rfl,trivial⟩ trivial trivial ?_
      refine A4 ?_
      refine RGcaseD (t:=87) rfl (fun h128_2=> ?_) (fun h128_2=> ?_)
      ·
       refine A2 ?_
       refine RGon (decide_eq_true h128_2) rfl (xe4 (wr64 (by omega) (by omega))) rfl ⟨rfl,rfl,trivial⟩ trivial trivial (RGon (decide_eq_true h128_2) rfl (x7 sl37 (by omega) (by omega) rfl) rfl ⟨rfl,rfl,trivial⟩ trivial trivial ?_)
       refine A1 ?_
       refine RGon (decide_eq_true h128_2) rfl (xh9 (es:=8) (o:=2) (xs.length - 1) ti57 (xa8 (d:=tst0) (by omega)) (At.g 2 rfl rfl) (by omega)) rfl ⟨rfl,trivial⟩ ⟨rfl,trivial⟩ trivial ?_
       refine A1 ?_
       refine RGon (decide_eq_true h128_2) rfl (xo9 (n:=11) (agg:=true) (f:=tFa) (y:=f) rfl) rfl ⟨rfl,trivial⟩ trivial trivial (RGon (decide_eq_true h128_2) rfl (xe5 fo59_5.h (At.f 5 rfl rfl) rfl) rfl ⟨rfl,trivial⟩ trivial trivial ?_)
       refine A1 ?_
       refine RGon (decide_eq_true h128_2) rfl (x3 (c_TSame _ _) fi74 rfl) rfl ⟨rfl,rfl,trivial⟩ trivial trivial ?_
       refine A3 ?_
       refine x5 rfl (fun h128_3=> ?_) (fun h128_3=> ?_)
       ·
        refine A7 ?_
        refine R2 (x8 sl42 (k+1) (by omega) (gD (l:=bdF T) (n:=k+1) (d:=0) (by omega))) rfl rfl ?_
        refine A1 ?_
        refine R2 (x7 sl37 (by omega) (by omega) rfl) rfl rfl ?_
        refine A1 ?_
        refine RE (xj8 (es:=8) (o:=1) (t2:=tTs ⟨(xs.getD (xs.length - 1) tst0).lo,(bdF T).getD (k+1) 0,(xs.getD (xs.length - 1) tst0).v⟩) (xs.length - 1) ti3 (xa8 (d:=tst0) (by omega)) (Up.g 1 rfl rfl rfl) (by omega) (xe6 rfl)) ⟨rfl,rfl,trivial⟩ ⟨rfl,trivial⟩ trivial ?_
        refine A7 ?_
        exact kF ((k+1,(xs.set (xs.length - 1) ⟨(xs.getD (xs.length - 1) tst0).lo,(bdF T).getD (k+1) 0,(xs.getD (xs.length - 1) tst0).v⟩))) ⟨(by dsimp only;exact ⟨by omega,by rw [vwK_some hgs,←hx,pst1,if_neg (by dsimp only;omega),if_pos ⟨by omega,by dsimp only;omega,h128_3⟩]⟩),(by dsimp only;omega)⟩ (hg:=(sI (sI (sC ((Sub.consI rfl (Imp.of (by dsimp only;rw [List.length_set]))) (sC Sub.nil)))))) (hh:=((SubK.consI rfl ImpK.refl) ((SubK.consI rfl ImpK.refl) SubK.nil)))
       ·
        refine A4 ?_
        refine R2 (x8 sl42 (k) (by omega) (gD (l:=bdF T) (n:=k) (d:=0) (by omega))) rfl rfl ?_
        refine A4 ?_
        refine R2 (x8 sl42 (k+1) (by omega) (gD (l:=bdF T) (n:=k+1) (d:=0) (by omega))) rfl rfl ?_
        refine A2 ?_
        refine R1 (xo9 (n:=11) (agg:=true) (f:=tFa) (y:=f) rfl) rfl (R1 (xe5 fo59_5.h (At.f 5 rfl rfl) rfl) rfl ?_)
        refine A1 ?_
        refine R1 (x3 (c_fcopied f.v (hST f hfm).1 (hST f hfm).2) fi115 rfl) rfl (R3 (xa9 (r:=tS [⟨1,false,tI ((bdF T).getD k 0)⟩,⟨1,false,tI ((bdF T).getD (k+1) 0)⟩,⟨6,true,tVa f.v⟩]) (ts:=[(0,tI ((bdF T).getD k 0)),(1,tI ((bdF T).getD (k+1) 0)),(2,tVa f.v)]) bu77 zr77.2 (Bc 0 rfl rfl rfl (Bc 1 rfl rfl rfl (Bc 2 rfl rfl rfl Le.refl)))) rfl rfl rfl (R1 (xb0 (n:=1) (f:=tTs) [(⟨(bdF T).getD k 0,(bdF T).getD (k+1) 0,f.v⟩:Tst)] Tryz.underlying37 el77 zf77 rfl (fun _=>inferInstance) rfl rfl rfl) rfl (RE (xb6 (k:=14) (k':=127) (f:=tTs) (ys:=[(⟨(bdF T).getD k 0,(bdF T).getD (k+1) 0,f.v⟩:Tst)]) (ts':=rV tTs (xs++[(⟨(bdF T).getD k 0,(bdF T).getD (k+1) 0,f.v⟩:Tst)])) Tryz.underlying37 el77 zf77 rfl rfl (fun _=>inferInstance) xc6 (by simp;omega) (by simp;omega) (by simp [rV]) (n':=xs.length+1) rfl) ⟨rfl,rfl,trivial⟩ ⟨rfl,trivial⟩ ⟨rfl,trivial⟩ ?_)))
        refine A8 ?_
        exact xb7 (l:=[27,14]) (fun j=>cond (Nat.beq j 14) 127 (j)) ((k+1,xs++[(⟨(bdF T).getD k 0,(bdF T).getD (k+1) 0,f.v⟩:Tst)])) ⟨(by dsimp only;exact ⟨by omega,by rw [vwK_some hgs,←hx,pst1,if_neg (by dsimp only;omega),if_neg (fun h=>h128_3 h.2.2)]⟩),(by dsimp only;omega)⟩ (SubR.int rfl (by first | omega | rfl | (dsimp only;omega)) (SubR.int rfl (by first | omega | rfl | (dsimp only;omega)) (SubR.cons rfl ((SubR.consI rfl (Imp.of (by dsimp only;rw [List.length_append];rfl))) (SubR.cons rfl SubR.nil))))) ((SubKR.consI rfl (ImpK.of xa2.symm)) ((SubKR.consI rfl (ImpK.of xa2.symm)) SubKR.nil)) (SupG.val (SupG.val (SupG.own rfl (SupG.own rfl (SupG.val SupG.nil))))) (SupH.cons rfl (supJ x9) (SupH.cons rfl (supJ x9) SupH.nil)) (lkOk rfl) rfl rfl (fun _ h=>by cases h)
      ·
       refine A18 ?_
       refine A1 ?_
       refine R2 (x8 sl42 (k) (by omega) (gD (l:=bdF T) (n:=k) (d:=0) (by omega))) rfl rfl ?_
       refine A4 ?_
       refine R2 (x8 sl42 (k+1) (by omega) (gD (l:=bdF T) (n:=k+1) (d:=0) (by omega))) rfl rfl ?_
       refine A2 ?_
       refine R1 (xo9 (n:=11) (agg:=true) (f:=tFa) (y:=f) rfl) rfl (R1 (xe5 fo59_5.h (At.f 5 rfl rfl) rfl) rfl ?_)
       refine A1 ?_
       refine R1 (x3 (c_fcopied f.v (hST f hfm).1 (hST f hfm).2) fi115 rfl) rfl (R3 (xa9 (r:=tS [⟨1,false,tI ((bdF T).getD k 0)⟩,⟨1,false,tI ((bdF T).getD (k+1) 0)⟩,⟨6,true,tVa f.v⟩]) (ts:=[(0,tI ((bdF T).getD k 0)),(1,tI ((bdF T).getD (k+1) 0)),(2,tVa f.v)]) bu77 zr77.2 (Bc 0 rfl rfl rfl (Bc 1 rfl rfl rfl (Bc 2 rfl rfl rfl Le.refl)))) rfl rfl rfl (R1 (xb0 (n:=1) (f:=tTs) [(⟨(bdF T).getD k 0,(bdF T).getD (k+1) 0,f.v⟩:Tst)] Tryz.underlying37 el77 zf77 rfl (fun _=>inferInstance) rfl rfl rfl) rfl (RE (xb6 (k:=14) (k':=127) (f:=tTs) (ys:=[(⟨(bdF T).getD k 0,(bdF T).getD (k+1) 0,f.v⟩:Tst)]) (ts':=rV tTs (xs++[(⟨(bdF T).getD k 0,(bdF T).getD (k+1) 0,f.v⟩:Tst)])) Tryz.underlying37 el77 zf77 rfl rfl (fun _=>inferInstance) xc6 (by simp;omega) (by simp;omega) (by simp [rV]) (n':=xs.length+1) rfl) ⟨rfl,rfl,trivial⟩ ⟨rfl,trivial⟩ ⟨rfl,trivial⟩ ?_)))
       refine A8 ?_
       exact xb7 (l:=[27,14]) (fun j=>cond (Nat.beq j 14) 127 (j)) ((k+1,xs++[(⟨(bdF T).getD k 0,(bdF T).getD (k+1) 0,f.v⟩:Tst)])) ⟨(by dsimp only;exact ⟨by omega,by rw [vwK_some hgs,←hx,pst1,if_neg (by dsimp only;omega),if_neg (by dsimp only;omega)]⟩),(by dsimp only;omega)⟩ (SubR.int rfl (by first | omega | rfl | (dsimp only;omega)) (SubR.int rfl (by first | omega | rfl | (dsimp only;omega)) (SubR.cons rfl ((SubR.consI rfl (Imp.of (by dsimp only;rw [List.length_append];rfl))) (SubR.cons rfl SubR.nil))))) ((SubKR.consI rfl (ImpK.of xa2.symm)) ((SubKR.consI rfl (ImpK.of xa2.symm)) SubKR.nil)) (SupG.val (SupG.val (SupG.own rfl (SupG.own rfl (SupG.val SupG.nil))))) (SupH.cons rfl (supJ x9) (SupH.cons rfl (supJ x9) SupH.nil)) (lkOk rfl) rfl rfl (fun _ h=>by cases h)
     ·
      refine A18 ?_
      refine A14 ?_
      refine R2 (x8 sl42 (k) (by omega) (gD (l:=bdF T) (n:=k) (d:=0) (by omega))) rfl rfl ?_
      refine A4 ?_
      refine R2 (x8 sl42 (k+1) (by omega) (gD (l:=bdF T) (n:=k+1) (d:=0) (by omega))) rfl rfl ?_
      refine A2 ?_
      refine R1 (xo9 (n:=11) (agg:=true) (f:=tFa) (y:=f) rfl) rfl (R1 (xe5 fo59_5.h (At.f 5 rfl rfl) rfl) rfl ?_)
      refine A1 ?_
      refine R1 (x3 (c_fcopied f.v (hST f hfm).1 (hST f hfm).2) fi115 rfl) rfl (R3 (xa9 (r:=tS [⟨1,false,tI ((bdF T).getD k 0)⟩,⟨1,false,tI ((bdF T).getD (k+1) 0)⟩,⟨6,true,tVa f.v⟩]) (ts:=[(0,tI ((bdF T).getD k 0)),(1,tI ((bdF T).getD (k+1) 0)),(2,tVa f.v)]) bu77 zr77.2 (Bc 0 rfl rfl rfl (Bc 1 rfl rfl rfl (Bc 2 rfl rfl rfl Le.refl)))) rfl rfl rfl (R1 (xb0 (n:=1) (f:=tTs) [(⟨(bdF T).getD k 0,(bdF T).getD (k+1) 0,f.v⟩:Tst)] Tryz.underlying37 el77 zf77 rfl (fun _=>inferInstance) rfl rfl rfl) rfl (RE (xb6 (k:=14) (k':=127) (f:=tTs) (ys:=[(⟨(bdF T).getD k 0,(bdF T).getD (k+1) 0,f.v⟩:Tst)]) (ts':=rV tTs (xs++[(⟨(bdF T).getD k 0,(bdF T).getD (k+1) 0,f.v⟩:Tst)])) Tryz.underlying37 el77 zf77 rfl rfl (fun _=>inferInstance) xc6 (by simp;omega) (by simp;omega) (by simp [rV]) (n':=xs.length+1) rfl) ⟨rfl,rfl,trivial⟩ ⟨rfl,trivial⟩ ⟨rfl,trivial⟩ ?_)))
      refine A8 ?_
      exact xb7 (l:=[27,14]) (fun j=>cond (Nat.beq j 14) 127 (j)) ((k+1,xs++[(⟨(bdF T).getD k 0,(bdF T).getD (k+1) 0,f.v⟩:Tst)])) ⟨(by dsimp only;exact ⟨by omega,by rw [vwK_some hgs,←hx,pst1,if_neg (by dsimp only;omega),if_neg (by dsimp only;omega)]⟩),(by dsimp only;omega)⟩ (SubR.int rfl (by first | omega | rfl | (dsimp only;omega)) (SubR.int rfl (by first | omega | rfl | (dsimp only;omega)) (SubR.cons rfl ((SubR.consI rfl (Imp.of (by dsimp only;rw [List.length_append];rfl))) (SubR.cons rfl SubR.nil))))) ((SubKR.consI rfl (ImpK.of xa2.symm)) ((SubKR.consI rfl (ImpK.of xa2.symm)) SubKR.nil)) (SupG.val (SupG.val (SupG.own rfl (SupG.own rfl (SupG.val SupG.nil))))) (SupH.cons rfl (supJ x9) (SupH.cons rfl (supJ x9) SupH.nil)) (lkOk rfl) rfl rfl (fun _ h=>by cases h)
  ·
   refine A8 ?_
   refine RE (xi2 (f:=tTs) (xs:=xs) (fun _ h=>h) (xf4 rfl) rfl) ⟨rfl,trivial⟩ ⟨rfl,trivial⟩ trivial ?_
   refine A3 ?_
   exact x4 Plain.mk' rfl rfl (Le.of (by rw [hx,show k=(bdF T).length by omega,vwK_all]))
theorem c_View (a:List Fa) (key:ByteArray) (kn:Int) (hl:a.length≤100000) (hS:smF a) (hD: ∀f∈a,f.v.f.dig):
  Ct Tryz.prog 36 [tL 11 true tFa a,tSt key,tI kn] (tT [tL 8 true tTs (if recOk a=true then vwT (toldT a key kn) else []),tI (if recOk a=true then 0 else 2)]):=by
 refine Ct.intro Tryz.func36 rfl Tryz.ntmps36 rfl ?_
 intro w F
 refine A10 ?_
 refine R1 (x3 (c_FcValid a hD) fi35 rfl) rfl ?_
 refine A3 ?_
 refine xc0 rfl (fun h139=> ?_) (fun h139=> ?_)
 ·
  have hr: ¬recOk a=true:=by simpa using h139
  refine A8 ?_
  exact xd7 Plain.mk' rfl rfl rfl (leNil (by rw [if_neg hr])) (Le.int (by rw [if_neg hr]))
 ·
  have hr:recOk a=true:=by simpa using h139
  refine A7 ?_
  refine R3 (x3 (c_view a key kn hl hS) fi73 rfl) rfl rfl rfl ?_
  refine A5 ?_
  exact xd7 Plain.mk' rfl rfl rfl (Le.of (by rw [if_pos hr])) (Le.int (by rw [if_pos hr]))
end An.S
namespace An.S
open Go
def w8 (n:Nat):UInt8:=UInt8.ofNat n
theorem w8_nat {n:Nat} (h:n < 256):(w8 n).toNat=n:=by simp [w8];omega
theorem w8_inj {m n:Nat} (hm:m < 256) (hn:n < 256) (h:w8 m=w8 n):m=n:=by
 have:=congrArg UInt8.toNat h
 rwa [w8_nat hm,w8_nat hn] at this
def decB (n:Nat):List UInt8:=if n < 10 then [w8 (48+n)] else [w8 (48+n / 10),w8 (48+n%10)]
def limB (x:Nat):List UInt8:=[w8 (x / 256),w8 (x%256)]
def booB (b:Bool):List UInt8:=if b=true then [116,114,117,101] else [102,97,108,115,101]
def limsB (l:List Nat):List UInt8:=l.flatMap limB
def whB (n:Wh):List UInt8:=32::(booB n.neg++32::(decB n.l.length++limsB n.l))
def txOk (v:Va):Prop:=0≤v.i∧v.i < 100∧v.f.n.l.length < 10∧v.f.d.l.length < 10∧v.f.dig
theorem boo_inj {b c:Bool} {r s:List UInt8} (h:booB b++r=booB c++s):b=c∧r=s:=by
 cases b <;> cases c <;> simp only [booB,Bool.false_eq_true,if_false,if_true,List.cons_append,List.nil_append,List.cons.injEq] at h
 ·exact ⟨rfl,h.2.2.2.2.2⟩
 ·exact absurd h.1 (by decide)
 ·exact absurd h.1 (by decide)
 ·exact ⟨rfl,h.2.2.2.2⟩
theorem xr7 {l:List Nat}:(limsB l).length=2*l.length:=by
 induction l with
 | nil=>rfl
 | cons x r ih=>rw [limsB,List.flatMap_cons,List.length_append,←limsB,ih];simp [limB];omega
theorem lims_inj: ∀{l m:List Nat},(∀x∈l,x < 65536)→(∀x∈m,x < 65536)→limsB l=limsB m→l=m
 | [],[],_,_,_=>rfl
 | [],y::s,_,_,h=>by have:=congrArg List.length h;rw [xr7,xr7] at this;simp at this
 | x::r,[],_,_,h=>by have:=congrArg List.length h;rw [xr7,xr7] at this;simp at this
 | x::r,y::s,h1,h2,h=>by
  have e: ∀(a:Nat) (t:List Nat),limsB (a::t)=w8 (a / 256)::w8 (a%256)::limsB t:=fun a t=>by simp [limsB,limB]
  rw [e,e] at h
  simp only [List.cons.injEq] at h
  have b1:=h1 x (List.mem_cons_self ..)
  have b2:=h2 y (List.mem_cons_self ..)
  have g1:=w8_inj (by omega) (by omega) h.1
  have g2:=w8_inj (by omega) (by omega) h.2.1
  rw [lims_inj (fun z hz=>h1 z (List.mem_cons_of_mem _ hz)) (fun z hz=>h2 z (List.mem_cons_of_mem _ hz)) h.2.2,show x=y by omega]
theorem wh_inj {x y:Wh} {r s:List UInt8} (hx:x.l.length < 10) (hy:y.l.length < 10) (dx: ∀z∈x.l,z < 65536) (dy: ∀z∈y.l,z < 65536) (h:whB x++r=whB y++s):x=y∧r=s:=by
 unfold whB at h
 simp only [List.cons_append,List.cons.injEq,List.append_assoc,true_and] at h
 obtain ⟨h1,h2⟩:=boo_inj h
 simp only [List.cons.injEq,true_and] at h2
 unfold decB at h2
 rw [if_pos hx,if_pos hy] at h2
 simp only [List.cons_append,List.nil_append,List.cons.injEq] at h2
 have h3:=w8_inj (by omega) (by omega) h2.1
 have h4:=List.append_inj h2.2 (by rw [xr7,xr7];omega)
 have h5:=lims_inj dx dy h4.1
 rcases x with ⟨a,l⟩;rcases y with ⟨b,m⟩
 simp only at h1 h5
 subst h1 h5
 exact ⟨rfl,h4.2⟩
end An.S
namespace An
open Go
def tLK {α:Type} (es:Nat) (agg:Bool) (f:α→Ty) (xs ms:List α):Ty:=
 ⟨fun F w v=> ∃A c,v= .slice A xs.length c∧(tL es agg f (xs++ms)).p F w (.slice A (xs.length+ms.length) c),fun ⟨A,c,h1,h2⟩ hk=>⟨A,c,h1,(tL es agg f (xs++ms)).mono h2 hk⟩⟩
instance {α:Type} {es:Nat} {agg:Bool} {f:α→Ty} {xs ms:List α}:Shape (tLK es agg f xs ms) 1 false:=⟨fun ⟨_,_,h,_⟩=>by rw [h];exact xc9 rfl⟩
section
variable {P:Program} {c:Base} {d ty:Nat} {pos:String} {af:Array Edge} {gd:Option (Nat×Bool)}
end
def tG (G:Dom) (t:Ty):Ty:=⟨fun F w v=>t.p (fun b=>F b∧G b) w v,fun h hk=>t.mono h fun b o hb hl hd=>⟨⟨(hk b o hb.1 hl hd).1,hb.2⟩,(hk b o hb.1 hl hd).2⟩⟩
instance {G:Dom} {t:Ty} {n:Nat} {agg:Bool} [h:Shape t n agg]:Shape (tG G t) n agg:=⟨fun hp=>h.flat (F:=fun b=>_∧G b) hp⟩
abbrev up (n:Nat):Dom:=fun b=>n≤b
section
variable {P:Program}
variable {c:Base} {d ty:Nat} {pos:String} {af:Array Edge} {gd:Option (Nat×Bool)}
end
section
variable {P:Program} {c:Base} {d ty:Nat} {pos:String} {af:Array Edge} {gd:Option (Nat×Bool)}
end
section
variable {P:Program} {c:Base} {g:Slots} {h:Keys} {al:Names} {d ty:Nat} {pos:String} {af:Array Edge} {gd:Option (Nat×Bool)}
end
structure OvJ where
  D:Dom
  J:Nat→World→Prop
  loc: ∀n w w',J n w→w.heap.size≤w'.heap.size→(∀b,D b→b < w.heap.size→w'.heap[b]? =w.heap[b]?)→J n w'
section
variable {P:Program} {X:OvJ}
variable {c:Base} {g:Slots} {h:Keys} {al:Names} {d ty:Nat} {pos:String} {af:Array Edge} {gd:Option (Nat×Bool)}
end
def tLW {α:Type} (T es:Nat) (agg:Bool) (f:α→Ty) (xs ms:List α):Ty:=
  ⟨fun F w v=> ∃b c cs,v= .slice (some ⟨b,0,none⟩) xs.length c∧F b∧w.heap[b]? =some (.cells cs T (0,0))∧cs.size=c*es∧0 < es∧(agg=false→es=1)∧xs.length+ms.length≤c∧c≤9223372036854775807∧
      ∀i x,(xs++ms)[i]? =some x→(f x).p (fun b'=>F b'∧b'≠b) w (pick agg es cs (i*es)),
   fun ⟨b,c,cs,h1,hF,hh,h2,h3,h4,h5,h6,hx⟩ hk=>⟨b,c,cs,h1,(hk b _ hF hh rfl).1,(hk b _ hF hh rfl).2,h2,h3,h4,h5,h6,fun i x hi=>(f x).mono (hx i x hi) fun b' o hb hl hd=>⟨⟨(hk b' o hb.1 hl hd).1,hb.2⟩,(hk b' o hb.1 hl hd).2⟩⟩⟩
instance {α:Type} {T es:Nat} {agg:Bool} {f:α→Ty} {xs ms:List α}:Shape (tLW T es agg f xs ms) 1 false:=⟨fun ⟨_,_,_,h,_⟩=>by rw [h];exact xc9 rfl⟩
section
variable {P:Program} {c:Base} {d ty:Nat} {pos:String} {af:Array Edge} {gd:Option (Nat×Bool)}
end
abbrev VM:=Nat→Option (Nat×Nat)
def tSlV (V:VM) (n:Nat):Ty:=⟨fun _ _ v=> ∃b m c,v= .slice (some ⟨b,0,none⟩) n c∧V b=some (m,c)∧n+12≤m,fun h _=>h⟩
instance {V:VM} {n:Nat}:Shape (tSlV V n) 1 false:=⟨fun ⟨_,_,_,h,_⟩=>by rw [h];exact xc9 rfl⟩
open Classical in
section
variable {P:Program} {g:Slots} {h:Keys} {al:Names} {Q:Exit→Act→World→Prop}
end
section
variable {P:Program} {c:Base} {d ty:Nat} {pos:String} {af:Array Edge} {gd:Option (Nat×Bool)}
end
section
variable {P:Program} {c:Base} {d ty:Nat} {pos:String} {af:Array Edge} {gd:Option (Nat×Bool)}
end
section
variable {P:Program} {c:Base} {g:Slots} {h:Keys} {al:Names} {Q:Exit→Act→World→Prop}
end
section
variable {P:Program} {c:Base} {d ty:Nat} {pos:String} {af:Array Edge} {gd:Option (Nat×Bool)}
end
section
variable {P:Program} {c:Base} {g:Slots} {h:Keys} {al:Names} {Q:Exit→Act→World→Prop}
end
section
variable {P:Program} {c:Base} {d ty:Nat} {pos:String} {af:Array Edge} {gd:Option (Nat×Bool)}
end
section
variable {P:Program} {c:Base} {g:Slots} {h:Keys} {al:Names} {Q:Exit→Act→World→Prop}
end
section
variable {P:Program} {c:Base} {d ty:Nat} {pos:String} {af:Array Edge} {gd:Option (Nat×Bool)}
end
end An
namespace An.S
open Go Go.Proofs An
theorem wh_len {v:Va} {i:Nat} (h:txOk v) (hi:i < 2):([v.f.n,v.f.d].getD i ⟨false,[]⟩).l.length < 10∧ ∀x∈([v.f.n,v.f.d].getD i ⟨false,[]⟩).l,x < 65536:=by
 rcases (show i=0∨i=1 by omega) with rfl | rfl
 ·exact ⟨h.2.2.1,h.2.2.2.2.1⟩
 ·exact ⟨h.2.2.2.1,h.2.2.2.2.2⟩
end An.S
namespace An.S
open Go
end An.S
namespace An.S
open Go Go.Proofs An
end An.S
namespace An.S
open Go
theorem lastF_const {T:List Fa} {x d:Int} (h: ∀f∈T,¬(x < f.lo∧f.lo≤d)∧ ¬(x < f.hi∧f.hi≤d)) (hxd:x≤d):lastF T d=lastF T x:=by
 rw [lastF,lastF,List.filter_congr fun f hf=> ?_]
 have:=h f hf
 rw [Bool.eq_iff_iff,xi7,xi7]
 omega
theorem lastF_out {T:List Fa} {d:Int} (h: ∀f∈T,¬(f.lo≤d∧d < f.hi)):lastF T d=none:=by
 rw [lastF,List.filter_eq_nil_iff.2 fun f hf h'=>h f hf (xi7.1 h')];rfl
theorem cOn_F {T:List Fa}: ∀{pre ds:List Int},(pre++ds).Pairwise (· < ·)→(∀f∈T,f.lo∈pre++ds∧f.hi∈pre++ds)→cOn (gF T) ds
 | _,[],_,_=>trivial
 | _,[x],_,_=>trivial
 | pre,x::y::r,hp,ha=>by
  have h1:=List.pairwise_append.1 hp
  have hq:=List.pairwise_cons.1 h1.2.1
  have hq2:=List.pairwise_cons.1 hq.2
  have key: ∀z∈pre++x::y::r,z≤x∨y≤z:=fun z hz=>by
   rcases List.mem_append.1 hz with hz | hz
   ·have:=h1.2.2 z hz x (List.mem_cons_self ..);omega
   ·rcases List.mem_cons.1 hz with rfl | hz
    ·omega
    ·rcases List.mem_cons.1 hz with rfl | hz
     ·omega
     ·have:=hq2.1 z hz;omega
  refine ⟨fun d hx hy=> ?_,?_⟩
  ·rw [gF,gF,lastF_const (fun f hf=> ?_) hx]
   have k1:=key _ (ha f hf).1
   have k2:=key _ (ha f hf).2
   omega
  ·have e:pre++x::y::r=(pre++[x])++(y::r):=by simp
   rw [e] at hp ha
   exact cOn_F hp ha
theorem bdF_in {T:List Fa}: ∀f∈T,f.lo∈bdF T∧f.hi∈bdF T:=fun f hf=>⟨bdF_mem.2 ⟨f,hf,.inl rfl⟩,bdF_mem.2 ⟨f,hf,.inr rfl⟩⟩
theorem segF {T:List Fa} (d:Int):valT (segL (gF T) (bdF T)) d=gF T d:=by
 have hv:=segL_val (xk9 (T:=T)) (cOn_F (T:=T) (pre:=[]) xk9 bdF_in)
 by_cases h1: ∃x∈bdF T,x≤d
 ·by_cases h2: ∃y∈bdF T,d < y
  ·exact hv.1 d h1 h2
  ·have h3: ∀y∈bdF T,y≤d:=fun y hy=>Int.not_lt.1 fun h'=>h2 ⟨y,hy,h'⟩
   rw [hv.2 d (.inr h3),gF,lastF_out fun f hf h'=>by have:=h3 _ (bdF_in f hf).2;omega];rfl
 ·have h3: ∀x∈bdF T,d < x:=fun x hx=>Int.not_le.1 fun h'=>h1 ⟨x,hx,h'⟩
  rw [hv.2 d (.inl h3),gF,lastF_out fun f hf h'=>by have:=h3 _ (bdF_in f hf).1;omega];rfl
theorem vw_asc (T:List Fa):ascT (vwT T)∧nbT (vwT T):=⟨(seg_pst xk9).1,(seg_pst xk9).2.1⟩
theorem vw_val (T:List Fa) (d:Int):valT (vwT T) d=gF T d:=by rw [vwT,(seg_pst xk9).2.2,segF]
theorem segL_len {g:Int→Option Va} (ds:List Int):(segL g ds).length≤ds.length:=by
 rw [segL_N]
 have:=segN_len (g:=g) (ds:=ds) (ds.length - 1)
 omega
section
variable {α:Type} {k:α→Int}
end
end An.S
namespace An
open Go
structure Ev where
  knd:Nat
  kn:Int
  job:Int
  day:Int
  hi:Int
  part:Fr
  pay:Fr
  nr:Int
deriving DecidableEq
def ev0:Ev:=⟨0,0,0,0,0,fr0,fr0,0⟩
abbrev tEv (e:Ev):Ty:=tS [⟨1,false,tE (.int .u8 (e.knd:Int))⟩,⟨1,false,tI e.kn⟩,⟨1,false,tI e.job⟩,⟨1,false,tI e.day⟩,⟨1,false,tI e.hi⟩,⟨4,true,tFr e.part⟩,⟨4,true,tFr e.pay⟩,⟨1,false,tI e.nr⟩]
def uJob (k:Nat):Bool:=decide (1≤k) && decide (k≤5)
def uDay (k:Nat):Bool:=decide (1≤k) && decide (k≤6)
def uTo (k:Nat):Bool:=decide (k=3) || decide (k=5)
def uPart (k:Nat):Bool:=decide (k=1) || decide (k=3) || decide (k=6)
def uPay (k:Nat):Bool:=decide (k=1) || decide (k=4)
def uOf (k:Nat):Bool:=decide (k=7)
def eBlank (f:Fr):Bool:=(!f.n.neg && decide (f.n.l.length=0)) && (!f.d.neg && decide (f.d.l.length=0))
def eExact (f:Fr):Bool:=f.valid && !f.n.neg && decide (f.n.l.length≤2) && decide (f.d.l.length≤2)
def eNum (u:Bool) (n lo hi:Int):Bool:=if u=true then decide (lo≤n) && decide (n≤hi) else decide (n=0)
def eFrc (u:Bool) (f:Fr):Bool:=if u=true then eExact f else eBlank f
def xOk (x:Ev) (i:Nat):Bool:=
 (decide (1≤x.knd) && decide (x.knd≤7)) && decide (0≤x.kn) && decide (x.kn < 65536) && eNum (uJob x.knd) x.job 1 8 && eNum (uDay x.knd) x.day 0 65535 &&
 eNum (uTo x.knd) x.hi (x.day+1) 65536 && eNum (uOf x.knd) x.nr 1 i && eFrc (uPart x.knd) x.part && eFrc (uPay x.knd) x.pay &&
 !(uPart x.knd && decide (x.knd≠6) && decide (1 < x.part.rat))
def eRight (l:List Ev) (i:Nat):Bool:=xOk (l.getD i ev0) i && (!uOf (l.getD i ev0).knd || decide ((l.getD ((l.getD i ev0).nr - 1).toNat ev0).kn≤(l.getD i ev0).kn))
def eVal (l:List Ev):Bool:=decide (l.length≤100) && (List.range l.length).all (eRight l)
def liveS (l:List Ev) (kn:Int):Nat→List Bool×List Bool
 | 0=>(List.replicate l.length false,List.replicate l.length false)
 | k+1=>
  if kn < (l.getD (l.length - 1 - k) ev0).kn∨(liveS l kn k).2.getD (l.length - 1 - k) false=true then liveS l kn k
  else ((liveS l kn k).1.set (l.length - 1 - k) true,if (l.getD (l.length - 1 - k) ev0).knd=7 then (liveS l kn k).2.set ((l.getD (l.length - 1 - k) ev0).nr - 1).toNat true else (liveS l kn k).2)
def live (l:List Ev) (kn:Int):List Bool:=(liveS l kn l.length).1
def frc (l:List Ev) (kn:Int) (i:Nat):Bool:=(live l kn).getD i false
def infI (l:List Ev) (kn:Int):List Nat:=(List.range l.length).filter (frc l kn)
def inf (l:List Ev) (kn:Int):List Ev:=(infI l kn).map fun i=>l.getD i ev0
theorem xt1 {l:List Ev} {kn:Int}: ∀k,(liveS l kn k).1.length=l.length∧(liveS l kn k).2.length=l.length
 | 0=>by simp [liveS]
 | k+1=>by
  have ih:=xt1 (l:=l) (kn:=kn) k
  rw [liveS]
  split
  ·exact ih
  ·refine ⟨by rw [List.length_set];exact ih.1,?_⟩
   show (if _ then _ else _:List Bool).length=_
   split
   ·rw [List.length_set];exact ih.2
   ·exact ih.2
theorem live_len {l:List Ev} {kn:Int}:(live l kn).length=l.length:=(xt1 _).1
theorem getD_setB {l:List Bool} {i j:Nat} {b:Bool} (hi:i < l.length):(l.set i b).getD j false=if j=i then b else l.getD j false:=by
 rw [List.getD_eq_getElem?_getD,List.getElem?_set,List.getD_eq_getElem?_getD]
 by_cases h:i=j
 ·subst h;rw [if_pos rfl,if_pos hi,if_pos rfl];rfl
 ·rw [if_neg h,if_neg (fun h'=>h h'.symm)]
theorem mem_getE {l:List Ev} {i:Nat} (hi:i < l.length):l.getD i ev0∈l:=by
 rw [List.getD_eq_getElem?_getD,List.getElem?_eq_getElem hi];exact List.getElem_mem hi
theorem eVal_at {l:List Ev} (h:eVal l=true) {i:Nat} (hi:i < l.length):eRight l i=true:=by
 rw [eVal,Bool.and_eq_true] at h
 exact List.all_eq_true.1 h.2 i (List.mem_range.2 hi)
theorem eVal_len {l:List Ev} (h:eVal l=true):l.length≤100:=by
 rw [eVal,Bool.and_eq_true] at h
 exact of_decide_eq_true h.1
structure EOk (l:List Ev) (i:Nat):Prop where
  k1:1≤(l.getD i ev0).knd
  k2:(l.getD i ev0).knd≤7
  n1:0≤(l.getD i ev0).kn
  n2:(l.getD i ev0).kn < 65536
  jb:eNum (uJob (l.getD i ev0).knd) (l.getD i ev0).job 1 8=true
  dy:eNum (uDay (l.getD i ev0).knd) (l.getD i ev0).day 0 65535=true
  up:eNum (uTo (l.getD i ev0).knd) (l.getD i ev0).hi ((l.getD i ev0).day+1) 65536=true
  nm:eNum (uOf (l.getD i ev0).knd) (l.getD i ev0).nr 1 i=true
  pt:eFrc (uPart (l.getD i ev0).knd) (l.getD i ev0).part=true
  py:eFrc (uPay (l.getD i ev0).knd) (l.getD i ev0).pay=true
  p1:uPart (l.getD i ev0).knd=true→(l.getD i ev0).knd≠6→ ¬1 < (l.getD i ev0).part.rat
  vo:(l.getD i ev0).knd=7→(l.getD ((l.getD i ev0).nr - 1).toNat ev0).kn≤(l.getD i ev0).kn
theorem xd4 {l:List Ev} {i:Nat}:eRight l i=true↔EOk l i:=by
 simp only [eRight,xOk,Bool.and_eq_true,decide_eq_true_eq,Bool.not_eq_true',Bool.and_eq_false_iff,decide_eq_false_iff_not,Bool.or_eq_true,uOf]
 constructor
 ·rintro ⟨⟨⟨⟨⟨⟨⟨⟨⟨⟨⟨h1,h2⟩,h3⟩,h4⟩,h5⟩,h6⟩,h7⟩,h8⟩,h9⟩,h10⟩,h11⟩,h12⟩
  refine ⟨h1,h2,h3,h4,h5,h6,h7,h8,h9,h10,fun a b c=> ?_,fun a=> ?_⟩
  ·rcases h11 with (h | h) | h
   ·rw [a] at h;cases h
   ·exact h b
   ·exact h c
  ·rcases h12 with h | h
   ·exact absurd a h
   ·exact h
 ·rintro ⟨h1,h2,h3,h4,h5,h6,h7,h8,h9,h10,h11,h12⟩
  refine ⟨⟨⟨⟨⟨⟨⟨⟨⟨⟨⟨h1,h2⟩,h3⟩,h4⟩,h5⟩,h6⟩,h7⟩,h8⟩,h9⟩,h10⟩,?_⟩,?_⟩
  ·by_cases a:uPart (l.getD i ev0).knd=true
   ·by_cases b:(l.getD i ev0).knd=6
    ·exact .inl (.inr fun hh=>hh b)
    ·exact .inr (h11 a b)
   ·exact .inl (.inl (by simpa using a))
  ·by_cases a:(l.getD i ev0).knd=7
   ·exact .inr (h12 a)
   ·exact .inl a
theorem xn2 {u:Bool} {n lo hi:Int} (h:eNum u n lo hi=true) (hu:u=true):lo≤n∧n≤hi:=by
 rw [eNum,if_pos hu,Bool.and_eq_true,decide_eq_true_eq,decide_eq_true_eq] at h;exact h
theorem eNum_no {u:Bool} {n lo hi:Int} (h:eNum u n lo hi=true) (hu:u=false):n=0:=by
 rw [eNum,if_neg (by rw [hu];decide),decide_eq_true_eq] at h;exact h
theorem EOk.of_ {l:List Ev} {i:Nat} (h:EOk l i) (hk:(l.getD i ev0).knd=7):1≤(l.getD i ev0).nr∧(l.getD i ev0).nr≤i:=xn2 h.nm (by rw [hk];rfl)
theorem EOk.days {l:List Ev} {i:Nat} (h:EOk l i):0≤(l.getD i ev0).day∧(l.getD i ev0).day≤65535:=by
 cases hu:uDay (l.getD i ev0).knd with
 | true=>exact xn2 h.dy hu
 | false=>have:=eNum_no h.dy hu;omega
theorem EOk.his {l:List Ev} {i:Nat} (h:EOk l i):0≤(l.getD i ev0).hi∧(l.getD i ev0).hi≤65536:=by
 have:=h.days
 cases hu:uTo (l.getD i ev0).knd with
 | true=>have:=xn2 h.up hu;omega
 | false=>have:=eNum_no h.up hu;omega
theorem liveS_spec {l:List Ev} {kn:Int} (hv: ∀i,i < l.length→EOk l i): ∀k,k≤l.length→
  (∀i,i < l.length - k→(liveS l kn k).1.getD i false=false)∧
  (∀j,(liveS l kn k).2.getD j false=true↔ ∃i,l.length - k≤i∧i < l.length∧(liveS l kn k).1.getD i false=true∧(l.getD i ev0).knd=7∧(l.getD i ev0).nr=(j:Int)+1)∧
  (∀i,l.length - k≤i→i < l.length→((liveS l kn k).1.getD i false=true↔(l.getD i ev0).kn≤kn∧ ∀j,i < j→j < l.length→(liveS l kn k).1.getD j false=true→(l.getD j ev0).knd=7→(l.getD j ev0).nr≠(i:Int)+1))
 | 0,_=>by
  have hr: ∀i,(List.replicate l.length false).getD i false=false:=fun i=>by
   rw [List.getD_eq_getElem?_getD,List.getElem?_replicate];split <;> rfl
  refine ⟨fun i _=>hr i,fun j=>⟨fun h=> ?_,fun ⟨i,h1,h2,_⟩=>by omega⟩,fun i h1 h2=>by omega⟩
  rw [liveS] at h;rw [hr] at h;cases h
 | k+1,hk=>by
  obtain ⟨ih1,ih2,ih3⟩:=liveS_spec (kn:=kn) hv k (by omega)
  obtain ⟨hl1,hl2⟩:=xt1 (l:=l) (kn:=kn) k
  have hn:l.length - (k+1)=l.length - 1 - k:=by omega
  have hn2:l.length - k=l.length - 1 - k+1:=by omega
  generalize hN:l.length - 1 - k=n at*
  have hnl:n < l.length:=by omega
  rw [liveS,hN]
  by_cases c:kn < (l.getD n ev0).kn∨(liveS l kn k).2.getD n false=true
  ·rw [if_pos c,hn]
   have hz:=ih1 n (by omega)
   refine ⟨fun i h=>ih1 i (by omega),fun j=> ?_,fun i h1 h2=> ?_⟩
   ·rw [ih2 j]
    constructor
    ·rintro ⟨i,a,b⟩;exact ⟨i,by omega,b⟩
    ·rintro ⟨i,a,b,c2,d⟩
     by_cases e:i=n
     ·subst e;rw [hz] at c2;cases c2
     ·exact ⟨i,by omega,b,c2,d⟩
   ·by_cases e:i=n
    ·subst e
     rw [hz]
     refine ⟨fun h=>(by cases h),fun ⟨h3,h4⟩=> ?_⟩
     rcases c with c | c
     ·omega
     ·obtain ⟨j,a,b,c2,d,f⟩:=(ih2 i).1 c
      exact absurd f (h4 j (by omega) b c2 d)
    ·exact ih3 i (by omega) h2
  ·rw [if_neg c,hn]
   have c1:(l.getD n ev0).kn≤kn:=Int.not_lt.1 fun h=>c (.inl h)
   have c2: ¬(liveS l kn k).2.getD n false=true:=fun h=>c (.inr h)
   have hset: ∀j,((liveS l kn k).1.set n true).getD j false=if j=n then true else (liveS l kn k).1.getD j false:=fun j=>getD_setB (by rw [hl1];exact hnl)
   refine ⟨fun i h=> ?_,fun j=> ?_,fun i h1 h2=> ?_⟩
   ·show ((liveS l kn k).1.set n true).getD i false=false
    rw [hset,if_neg (by omega)];exact ih1 i (by omega)
   ·show (if (l.getD n ev0).knd=7 then (liveS l kn k).2.set ((l.getD n ev0).nr - 1).toNat true else (liveS l kn k).2).getD j false=true↔ ∃i,n≤i∧i < l.length∧((liveS l kn k).1.set n true).getD i false=true∧_
    have hold:(liveS l kn k).2.getD j false=true↔ ∃i,n < i∧i < l.length∧((liveS l kn k).1.set n true).getD i false=true∧(l.getD i ev0).knd=7∧(l.getD i ev0).nr=(j:Int)+1:=by
     rw [ih2 j]
     constructor
     ·rintro ⟨i,a,b,d,e⟩
      refine ⟨i,by omega,b,?_,e⟩
      rw [hset,if_neg (by omega)];exact d
     ·rintro ⟨i,a,b,d,e⟩
      refine ⟨i,by omega,b,?_,e⟩
      rw [hset,if_neg (by omega)] at d;exact d
    by_cases hk7:(l.getD n ev0).knd=7
    ·rw [if_pos hk7]
     have ho:=(hv n hnl).of_ hk7
     rw [getD_setB (by rw [hl2];omega)]
     constructor
     ·intro h
      by_cases e:j=((l.getD n ev0).nr - 1).toNat
      ·refine ⟨n,Nat.le_refl _,hnl,?_,hk7,by omega⟩
       rw [hset,if_pos rfl]
      ·rw [if_neg e] at h
       obtain ⟨i,a,b⟩:=hold.1 h
       exact ⟨i,by omega,b⟩
     ·rintro ⟨i,a,b,d,e,f⟩
      by_cases ei:i=n
      ·subst ei
       rw [if_pos (by omega)]
      ·have:=hold.2 ⟨i,by omega,b,d,e,f⟩
       split
       ·rfl
       ·exact this
    ·rw [if_neg hk7]
     constructor
     ·intro h
      obtain ⟨i,a,b⟩:=hold.1 h
      exact ⟨i,by omega,b⟩
     ·rintro ⟨i,a,b,d,e,f⟩
      by_cases ei:i=n
      ·subst ei;exact absurd e hk7
      ·exact hold.2 ⟨i,by omega,b,d,e,f⟩
   ·show ((liveS l kn k).1.set n true).getD i false=true↔_∧ ∀j,i < j→j < l.length→((liveS l kn k).1.set n true).getD j false=true→_
    by_cases e:i=n
    ·subst e
     rw [hset,if_pos rfl]
     refine ⟨fun _=>⟨c1,fun j h3 h4 h5 h6 h7=> ?_⟩,fun _=>rfl⟩
     rw [hset,if_neg (by omega)] at h5
     exact c2 ((ih2 i).2 ⟨j,by omega,h4,h5,h6,h7⟩)
    ·rw [hset,if_neg e,ih3 i (by omega) h2]
     refine and_congr_right fun _=>forall_congr' fun j=> ?_
     constructor
     ·intro h h3 h4 h5
      rw [hset,if_neg (by omega)] at h5
      exact h h3 h4 h5
     ·intro h h3 h4 h5
      refine h h3 h4 ?_
      rw [hset,if_neg (by omega)];exact h5
theorem frc_iff {l:List Ev} {kn:Int} (hv: ∀i,i < l.length→EOk l i) {i:Nat} (hi:i < l.length):frc l kn i=true↔(l.getD i ev0).kn≤kn∧ ∀j,i < j→j < l.length→frc l kn j=true→(l.getD j ev0).knd=7→(l.getD j ev0).nr≠(i:Int)+1:=
 (liveS_spec (kn:=kn) hv l.length (Nat.le_refl _)).2.2 i (by omega) hi
theorem frc_uniq {l:List Ev} {kn:Int} (hv: ∀i,i < l.length→EOk l i) {f:Nat→Bool} (hf: ∀i,i < l.length→(f i=true↔(l.getD i ev0).kn≤kn∧ ∀j,i < j→j < l.length→f j=true→(l.getD j ev0).knd=7→(l.getD j ev0).nr≠(i:Int)+1)): ∀n i,l.length - i≤n→i < l.length→f i=frc l kn i
 | 0,i,h1,h2=>by omega
 | n+1,i,h1,h2=>by
  rw [Bool.eq_iff_iff,hf i h2,frc_iff hv h2]
  refine and_congr_right fun _=>forall_congr' fun j=> ?_
  constructor
  ·intro h h3 h4 h5
   exact h h3 h4 (by rw [frc_uniq hv hf n j (by omega) h4];exact h5)
  ·intro h h3 h4 h5
   exact h h3 h4 (by rw [←frc_uniq hv hf n j (by omega) h4];exact h5)
theorem inf_mem {l:List Ev} {kn:Int} {e:Ev} (h:e∈inf l kn): ∃i,i < l.length∧frc l kn i=true∧e=l.getD i ev0:=by
 obtain ⟨i,hi,rfl⟩:=List.mem_map.1 h
 obtain ⟨h1,h2⟩:=List.mem_filter.1 hi
 exact ⟨i,List.mem_range.1 h1,h2,rfl⟩
theorem infI_len {l:List Ev} {kn:Int}:(infI l kn).length≤l.length:=by
 have:=List.length_filter_le (frc l kn) (List.range l.length)
 rw [List.length_range] at this;exact this
theorem inf_len {l:List Ev} {kn:Int}:(inf l kn).length≤l.length:=by rw [inf,List.length_map];exact infI_len
theorem inf_congr {l m:List Ev} {kn km:Int} (hl:l.length=m.length) (hf: ∀i,i < l.length→frc l kn i=frc m km i) (he: ∀i,i < l.length→frc l kn i=true→l.getD i ev0=m.getD i ev0):inf l kn=inf m km:=by
 have e1:infI l kn=infI m km:=by
  rw [infI,infI,←hl]
  exact List.filter_congr fun i hi=>hf i (List.mem_range.1 hi)
 rw [inf,inf,←e1]
 exact List.map_congr_left fun i hi=>he i (List.mem_range.1 (List.mem_filter.1 hi).1) (List.mem_filter.1 hi).2
def last1 (p:Ev→Bool) (o:Option Ev) (e:Ev):Option Ev:=if p e=true∧(o.isSome=true→(o.getD ev0).day≤e.day) then some e else o
def lastE (p:Ev→Bool) (F:List Ev):Option Ev:=F.foldl (last1 p) none
theorem lastE_app {p:Ev→Bool} {F:List Ev} {e:Ev}:lastE p (F++[e])=last1 p (lastE p F) e:=by rw [lastE,List.foldl_append];rfl
theorem xd5 {p:Ev→Bool} {F:List Ev} {i:Nat} (hi:i < F.length):lastE p (F.take (i+1))=last1 p (lastE p (F.take i)) (F.getD i ev0):=by
 rw [List.take_succ_eq_append_getElem hi,lastE_app,List.getD_eq_getElem?_getD,List.getElem?_eq_getElem hi];rfl
theorem xs3 {α:Type} {C:List α→Prop} (h0:C []) (h1: ∀l x,C l→C (l++[x])): ∀n (l:List α),l.length=n→C l
 | 0,l,h=>by rw [List.eq_nil_of_length_eq_zero h];exact h0
 | n+1,l,h=>by
  have e:l=l.take n++[l[n]]:=by rw [←List.take_succ_eq_append_getElem (by omega),List.take_of_length_le (by omega)]
  rw [e]
  exact h1 _ _ (xs3 h0 h1 n _ (by rw [List.length_take];omega))
theorem xt9 (p:Ev→Bool) (F:List Ev):(lastE p F=none↔ ∀e∈F,p e=false)∧ ∀b,lastE p F=some b→(b∈F∧p b=true)∧ ∀e∈F,p e=true→e.day≤b.day:=
 xs3 (C:=fun F=>(lastE p F=none↔ ∀e∈F,p e=false)∧ ∀b,lastE p F=some b→(b∈F∧p b=true)∧ ∀e∈F,p e=true→e.day≤b.day)
  ⟨⟨fun _ _ h=>absurd h List.not_mem_nil,fun _=>rfl⟩,fun b h=>by cases h⟩
  (fun F x ⟨ih1,ih2⟩=>by
   rw [lastE_app]
   by_cases hp:p x=true
   ·cases ho:lastE p F with
    | none=>
     have h0:=ih1.1 ho
     rw [last1,if_pos ⟨hp,fun h=>by cases h⟩]
     refine ⟨⟨fun h=>(by cases h),fun h=> ?_⟩,fun b h=> ?_⟩
     ·have:=h x (by simp);rw [hp] at this;cases this
     ·obtain rfl:=Option.some.inj h
      refine ⟨⟨by simp,hp⟩,fun e he hpe=> ?_⟩
      rcases List.mem_append.1 he with h1 | h1
      ·rw [h0 e h1] at hpe;cases hpe
      ·rw [List.mem_singleton.1 h1];exact Int.le_refl _
    | some c=>
     have h0:=ih2 c ho
     rw [last1]
     by_cases hd:c.day≤x.day
     ·rw [if_pos ⟨hp,fun _=>hd⟩]
      refine ⟨⟨fun h=>(by cases h),fun h=> ?_⟩,fun b h=> ?_⟩
      ·have:=h x (by simp);rw [hp] at this;cases this
      ·obtain rfl:=Option.some.inj h
       refine ⟨⟨by simp,hp⟩,fun e he hpe=> ?_⟩
       rcases List.mem_append.1 he with h1 | h1
       ·have:=h0.2 e h1 hpe;omega
       ·rw [List.mem_singleton.1 h1];exact Int.le_refl _
     ·rw [if_neg (fun h=>hd (h.2 rfl))]
      refine ⟨⟨fun h=>(by cases h),fun h=> ?_⟩,fun b h=> ?_⟩
      ·have:=h x (by simp);rw [hp] at this;cases this
      ·obtain rfl:=Option.some.inj h
       refine ⟨⟨by simp [h0.1.1],h0.1.2⟩,fun e he hpe=> ?_⟩
       rcases List.mem_append.1 he with h1 | h1
       ·exact h0.2 e h1 hpe
       ·rw [List.mem_singleton.1 h1];omega
   ·rw [last1,if_neg (fun h=>hp h.1)]
    have hx:p x=false:=by simpa using hp
    refine ⟨ih1.trans ⟨fun h e he=> ?_,fun h e he=>h e (by simp [he])⟩,fun b h=> ?_⟩
    ·rcases List.mem_append.1 he with h1 | h1
     ·exact h e h1
     ·rw [List.mem_singleton.1 h1];exact hx
    ·have h0:=ih2 b h
     refine ⟨⟨by simp [h0.1.1],h0.1.2⟩,fun e he hpe=> ?_⟩
     rcases List.mem_append.1 he with h1 | h1
     ·exact h0.2 e h1 hpe
     ·rw [List.mem_singleton.1 h1,hx] at hpe;cases hpe) F.length F rfl
abbrev EvC:={e:Ev // 0≤e.day∧e.day≤65536}
def evc0:EvC:=⟨ev0,by decide⟩
abbrev tEvC (e:EvC):Ty:=tEv e.1
def kfD (e:EvC):Int:=e.1.day
theorem subD_lt {x y:EvC}:x.1.day - y.1.day < 0↔kfD x < kfD y:=by unfold kfD;omega
end An
