/- Part 5 of a proof: V19, U20, Ref4, U34, P14, Y0, G1, O31. -/
import Derived.Lib.LaidTab
import Derived.Test.YtobjfhagbkjegaaGreatDoorChecked
import Derived.Test.YtobjfhagbkjegaaGreatDoorTie
import Derived.Test.YtobjfhagbkjegaaGreatDoorR4
set_option maxHeartbeats 4000000
set_option maxRecDepth 100000
namespace An.S
open Go Go.Proofs An
instance fi101:FnI Tryz.prog 101:=⟨_,Tryz.func101,by kernel_rfl,rfl⟩
instance fi119:FnI Tryz.prog 119:=⟨_,Tryz.func119,by kernel_rfl,rfl⟩
instance fi120:FnI Tryz.prog 120:=⟨_,Tryz.func120,by kernel_rfl,rfl⟩
instance fi121:FnI Tryz.prog 121:=⟨_,Tryz.func121,by kernel_rfl,rfl⟩
instance fi122:FnI Tryz.prog 122:=⟨_,Tryz.func122,by kernel_rfl,rfl⟩
instance fi123:FnI Tryz.prog 123:=⟨_,Tryz.func123,by kernel_rfl,rfl⟩
theorem c_RPlusOne (q:Nat) (h:(dig 65536 q).length≤100000):Ct Tryz.prog 121 [tM q,tLm [1]] (tM (q+1)):=by
 have e:dig 65536 1=[1]:=by rw [xh8 x9 (by decide),show (1:Nat) / 65536=0 by decide,xc3]
 have:=c_RPlus q 1 h (by rw [e];decide)
 rw [tM,tM,e] at this;exact this
theorem lenM {a b k:Nat} (h:a≤b) (hb:(dig 65536 b).length≤k):(dig 65536 a).length≤k:=Nat.le_trans (xe4 x9 h) hb
theorem one_dec {l:List Nat} (h:l.length=1):decide (((l.getD 0 0:Nat):Int)=1)=decide (l=[1]):=by
 obtain ⟨a,rfl⟩:=List.length_eq_one_iff.1 h
 simp
 omega
theorem c_RDivided (a b:Nat) (hb:0 < b) (ha:(dig 65536 a).length≤4000) (hbl:(dig 65536 b).length≤4000):
  Ct Tryz.prog 101 [tM a,tM b] (tT [tM (a / b),tM (a%b)]):=by
 refine Ct.intro Tryz.func101 rfl Tryz.ntmps101 rfl ?_
 intro w F
 refine A14 ?_
 refine x7 rfl (fun h103=> ?_) (fun h103=> ?_)
 ·
  have hb0:=one_limb (b:=b) (by omega)
  have hbW:=(xc5 x9 b).getD (by decide) 0
  refine A4 ?_
  refine R2 (x6 sl22 (0) (by omega) (gN (by omega))) rfl rfl ?_
  refine A1 ?_
  refine R1 (x5 Tryz.underlying3 (isS Tryz.underlying100) (wr64 (by omega) (by omega))) rfl (R2 (x4 (c_RShort a _ (by omega) (by omega) (by omega)) fi119 rfl) rfl rfl ?_)
  refine A8 ?_
  exact xc9 Plain.mk' rfl rfl rfl (Le.of (by rw [hb0])) (Le.of (by rw [hb0]))
 ·
  refine A15 ?_
  refine cL (fun (n:Nat)=>n=0∨b*2 ^ n≤a+a) (fun (n:Nat)=>upd (upd (upd (upd (fun _=>none) 0 (some (.val (tM a)))) 1 (some (.val (tM b)))) 6 (some (.val (tI n)))) 7 (some (.val (tM (b*2 ^ n))))) (fun (n:Nat)=>fun _=>none) [] (fun (n:Nat)=>a+1 - b*2 ^ n) (0) (.inl rfl) (hg:=(Sub.le rfl (Le.of (by first | rw [Nat.pow_zero,Nat.mul_one] | (dsimp only;rw [Nat.pow_zero,Nat.mul_one]))) (sI (sC (sC Sub.nil))))) ?_
  intro n hI
  have hn:n < 16*4001:=by
   rcases hI with h | h
   ·omega
   ·refine bits_le (a:=a+a) ?_ (by have:=len_dbl ha ha;omega)
    exact Nat.le_trans (Nat.le_mul_of_pos_left _ hb) h
  refine A5 ?_
  refine R2 (x4 (c_RLess a (b*2 ^ n)) fi120 rfl) rfl rfl ?_
  refine A3 ?_
  refine xd3 rfl (fun h107=> ?_) (fun h107=> ?_)
  ·
   have hle:b*2 ^ n≤a:=by
    have h:=h107
    simp at h;exact h
   have hnl:=lenM hle ha
   refine A7 ?_
   refine R2 (x4 (c_RPlus (b*2 ^ n) (b*2 ^ n) (by omega) (by omega)) fi121 rfl) rfl rfl ?_
   refine A9 ?_
   have he:b*2 ^ n+b*2 ^ n=b*2 ^ (n+1):=by rw [Nat.pow_succ,←Nat.mul_assoc,Nat.mul_two]
   have hp:0 < b*2 ^ n:=Nat.mul_pos hb (Nat.pow_pos (by decide))
   exact kF (n+1) ⟨(.inr (by omega)),(by show a+1 - b*2 ^ (n+1) < a+1 - b*2 ^ n;omega)⟩ (hg:=(Sub.le rfl (Le.of (by rw [he])) (sI (sC (sC Sub.nil)))))
  ·
   have hlt:a < b*2 ^ n:=by
    have h:=h107
    simp at h;exact h
   have hnl:(dig 65536 (b*2 ^ n)).length≤4001:=by
    rcases hI with h | h
    ·rw [h,Nat.pow_zero,Nat.mul_one];omega
    ·exact lenM h (len_dbl ha ha)
   refine A18 ?_
   refine cL (fun (i:Nat)=>i≤n) (fun (i:Nat)=>upd (upd (upd (upd (upd (fun _=>none) 0 (some (.val (tM a)))) 1 (some (.val (tM b)))) 6 (some (.val (tI n)))) 8 (some (.val (tM (b*2 ^ i))))) 9 (some (.val (tI i)))) (fun (i:Nat)=>fun _=>none) [] (fun (i:Nat)=>n - i) (0) (Nat.zero_le _) (hg:=(sI (Sub.le rfl (Le.of (by first | rw [Nat.pow_zero,Nat.mul_one] | (dsimp only;rw [Nat.pow_zero,Nat.mul_one]))) (sI (sC (sC Sub.nil)))))) ?_
   intro i hJ
   refine A8 ?_
   refine x7 rfl (fun h111=> ?_) (fun h111=> ?_)
   ·
    have hil:(dig 65536 (b*2 ^ i)).length≤4001:=lenM (Nat.mul_le_mul_left _ (Nat.pow_le_pow_right (by decide) (by omega))) hnl
    refine A7 ?_
    refine R2 (x4 (c_RPlus (b*2 ^ i) (b*2 ^ i) (by omega) (by omega)) fi121 rfl) rfl rfl ?_
    refine A9 ?_
    have he:b*2 ^ i+b*2 ^ i=b*2 ^ (i+1):=by rw [Nat.pow_succ,←Nat.mul_assoc,Nat.mul_two]
    exact kF (i+1) ⟨(by omega),(by omega)⟩ (hg:=(sI (Sub.le rfl (Le.of (by rw [he])) (sI (sC (sC Sub.nil))))))
   ·
    refine A12 ?_
    refine RE (xr0 (k:=43) (ents:=[]) Tryz.underlying22 el100 zf100 rfl (by simp) rfl rfl rfl) trivial trivial ⟨rfl,trivial⟩ ?_
    refine A1 ?_
    refine RE (xb2 (k:=43) (k':=45) (ts':=rW .u16 (dig 65536 a)) Tryz.underlying22 el100 zf100 rfl rfl (fun _=>inferInstance) rfl (by simp;omega) (by simp;omega) (by simp [rW]) (n':=(dig 65536 a).length) (by simp)) ⟨rfl,rfl,trivial⟩ ⟨rfl,trivial⟩ ⟨rfl,trivial⟩ (RE (xi1 (f:=fun n:Nat=>tE (.int .u16 n)) (xs:=dig 65536 a) (fun _ h=>h) (xi5 rfl) rfl) ⟨rfl,trivial⟩ ⟨rfl,trivial⟩ trivial ?_)
    refine A9 ?_
    refine cL (fun (fm:(Nat)×(Nat)×(Nat)×(Nat))=>(fun (j:Nat) (q:Nat) (r:Nat) (d:Nat)=>j≤n∧d=b*2 ^ (n - j)∧a=q*d+r∧r < d) fm.1 fm.2.1 fm.2.2.1 fm.2.2.2) (fun (fm:(Nat)×(Nat)×(Nat)×(Nat))=>(fun (j:Nat) (q:Nat) (r:Nat) (d:Nat)=>upd (upd (upd (upd (upd (fun _=>none) 6 (some (.val (tI n)))) 8 (some (.val (tM d)))) 10 (some (.val (tM q)))) 11 (some (.val (tM r)))) 12 (some (.val (tI j)))) fm.1 fm.2.1 fm.2.2.1 fm.2.2.2) (fun (fm:(Nat)×(Nat)×(Nat)×(Nat))=>(fun (j:Nat) (q:Nat) (r:Nat) (d:Nat)=>fun _=>none) fm.1 fm.2.1 fm.2.2.1 fm.2.2.2) [] (fun (fm:(Nat)×(Nat)×(Nat)×(Nat))=>(fun (j:Nat) (q:Nat) (r:Nat) (d:Nat)=>n - j) fm.1 fm.2.1 fm.2.2.1 fm.2.2.2) ((0,0,a,b*2 ^ n)) (by dsimp only;exact ⟨Nat.zero_le _,rfl,by omega,by omega⟩) (hg:=(sI (sC (Sub.le rfl (leNil (xc3 _)) (Sub.le rfl (Le.of (by first | rw [show i=n by omega] | (dsimp only;rw [show i=n by omega]))) (sI Sub.nil)))))) ?_
    intro fm hK
    obtain ⟨j,q,r,d⟩:=fm
    replace hK:j≤n∧d=b*2 ^ (n - j)∧a=q*d+r∧r < d:=hK
    show wc _ _ _ _ (upd (upd (upd (upd (upd (fun _=>none) 6 (some (.val (tI n)))) 8 (some (.val (tM d)))) 10 (some (.val (tM q)))) 11 (some (.val (tM r)))) 12 (some (.val (tI j)))) (fun _=>none) _
    obtain ⟨hj,hd,hq,hr⟩:=hK
    have hqa:q≤a:=by
     have h1:q*1≤q*d:=Nat.mul_le_mul_left _ (by omega)
     omega
    have hql:=lenM hqa ha
    have hdn:b*2 ^ (n - j)≤b*2 ^ n:=Nat.mul_le_mul_left _ (Nat.pow_le_pow_right (by decide) (by omega))
    have hdl:(dig 65536 d).length≤4001:=by rw [←hd] at hdn;exact lenM hdn hnl
    have hqq:=len_dbl hql hql
    refine A8 ?_
    refine x7 rfl (fun h116=> ?_) (fun h116=> ?_)
    ·
     refine A7 ?_
     refine R1 (x4 (c_RHalf d (by omega)) fi122 rfl) rfl ?_
     refine A7 ?_
     refine R2 (x4 (c_RPlus q q (by omega) (by omega)) fi121 rfl) rfl rfl ?_
     refine A7 ?_
     refine R2 (x4 (c_RLess r (d / 2)) fi120 rfl) rfl rfl ?_
     refine A3 ?_
     refine xd3 rfl (fun h119=> ?_) (fun h119=> ?_)
     ·
      have hge:d / 2≤r:=by
       have h:=h119
       simp at h;exact h
      refine A4 ?_
      refine R2 (x4 (c_RMinus r (d / 2) (by omega) (by have:=lenM (Nat.le_of_lt hr) hdl;omega)) fi123 rfl) rfl rfl ?_
      refine A5 ?_
      refine R1 (xm5 (n:=1) [1] Tryz.underlying22 el100 zf100 rfl rfl rfl) rfl (R2 (x4 (c_RPlusOne (q+q) (by omega)) fi121 rfl) rfl rfl ?_)
      refine A9 ?_
      obtain ⟨b1,b2,b3⟩:=div_bit (by omega) hd hq hr
      obtain ⟨b4,b5,b6⟩:=b3 (by omega)
      exact kF ((j+1,q+q+1,r - d / 2,d / 2)) ⟨(by dsimp only;exact ⟨by omega,b1,b4,b5⟩),(by dsimp only;omega)⟩
     ·
      have hge:r < d / 2:=by
       have h:=h119
       simp at h;exact h
      refine A8 ?_
      obtain ⟨b1,b2,b3⟩:=div_bit (by omega) hd hq hr
      exact kF ((j+1,q+q,r,d / 2)) ⟨(by dsimp only;exact ⟨by omega,b1,b2 (by omega),by omega⟩),(by dsimp only;omega)⟩
    ·
     have hdb:d=b:=by rw [hd,show n - j=0 by omega,Nat.pow_zero,Nat.mul_one]
     rw [hdb] at hq hr
     obtain ⟨e1,e2⟩:=div_done hq hr
     refine A14 ?_
     exact xc9 Plain.mk' rfl rfl rfl (Le.of (by rw [e1])) (Le.of (by rw [e2]))
theorem c_RCommon (a b:Nat) (ha:(dig 65536 a).length≤4000) (hb:(dig 65536 b).length≤4000):
  Ct Tryz.prog 74 [tM a,tM b] (tM (Nat.gcd a b)):=by
 refine Ct.intro Tryz.func74 rfl Tryz.ntmps74 rfl ?_
 intro w F
 refine A7 ?_
 refine cL (fun (fm:(Nat)×(Nat))=>(fun (x:Nat) (y:Nat)=>Nat.gcd x y=Nat.gcd a b∧(dig 65536 x).length≤4000∧(dig 65536 y).length≤4000) fm.1 fm.2) (fun (fm:(Nat)×(Nat))=>(fun (x:Nat) (y:Nat)=>upd (upd (fun _=>none) 0 (some (.val (tM x)))) 1 (some (.val (tM y)))) fm.1 fm.2) (fun (fm:(Nat)×(Nat))=>(fun (x:Nat) (y:Nat)=>fun _=>none) fm.1 fm.2) [] (fun (fm:(Nat)×(Nat))=>(fun (x:Nat) (y:Nat)=>y) fm.1 fm.2) ((a,b)) (by dsimp only;exact ⟨rfl,ha,hb⟩) ?_
 intro fm hI
 obtain ⟨x,y⟩:=fm
 replace hI:Nat.gcd x y=Nat.gcd a b∧(dig 65536 x).length≤4000∧(dig 65536 y).length≤4000:=hI
 show wc _ _ _ _ (upd (upd (fun _=>none) 0 (some (.val (tM x)))) 1 (some (.val (tM y)))) (fun _=>none) _
 obtain ⟨hg,hx,hy⟩:=hI
 refine A8 ?_
 refine x7 rfl (fun h261=> ?_) (fun h261=> ?_)
 ·
  have hy0:0 < y:=by have:=len_ne.1 h261;omega
  refine A7 ?_
  refine R2 (x4 (c_RDivided x y hy0 hx hy) fi101 rfl) rfl rfl ?_
  refine A18 ?_
  have hlt:x%y < y:=Nat.mod_lt _ hy0
  exact kF ((y,x%y)) ⟨(by dsimp only;exact ⟨by rw [Nat.gcd_comm,←Nat.gcd_rec,Nat.gcd_comm];exact hg,hy,lenM (Nat.le_of_lt hlt) hy⟩),(by dsimp only;omega)⟩
 ·
  have hy0:y=0:=Classical.byContradiction fun h=>h261 (len_ne.2 h)
  refine A12 ?_
  exact x3 Plain.mk' rfl rfl (Le.of (by rw [←hg,hy0,Nat.gcd_zero_right]))
theorem c_Rone (l:List Nat):
  Ct Tryz.prog 73 [tLm l] (tB (decide (l=[1]))):=by
 refine Ct.intro Tryz.func73 rfl Tryz.ntmps73 rfl ?_
 intro w F
 refine A11 ?_
 refine RGcaseD (t:=6) rfl (fun h24=> ?_) (fun h24=> ?_)
 ·
  refine A1 ?_
  refine RGon (decide_eq_true h24) rfl (x6 sl22 (0) (by omega) (gN (by omega))) rfl ⟨rfl,rfl,trivial⟩ trivial trivial ?_
  refine A7 ?_
  exact x3 Plain.mk' rfl rfl (Le.bool (one_dec (by omega)))
 ·
  refine A9 ?_
  exact x3 Plain.mk' rfl rfl (Le.bool (decide_eq_false (fun h=>h24 (by rw [h];rfl))).symm)
theorem any_next {i:Nat} {f:Nat→Bool}:(List.range (i+1)).any f=((List.range i).any f || f i):=by
 rw [List.range_succ,List.any_append];simp
end An.S
namespace An
open Go
end An
namespace An.S
open Go Go.Proofs An
instance fi71:FnI Tryz.prog 71:=⟨_,Tryz.func71,by kernel_rfl,rfl⟩
instance fi72:FnI Tryz.prog 72:=⟨_,Tryz.func72,by kernel_rfl,rfl⟩
instance fi73:FnI Tryz.prog 73:=⟨_,Tryz.func73,by kernel_rfl,rfl⟩
instance fi74:FnI Tryz.prog 74:=⟨_,Tryz.func74,by kernel_rfl,rfl⟩
theorem c_RValid (x:Wh):
  Ct Tryz.prog 71 [tWh x] (tB x.valid):=by
 refine Ct.intro Tryz.func71 rfl Tryz.ntmps71 rfl ?_
 intro w F
 refine A15 ?_
 refine x7 rfl (fun h142=> ?_) (fun h142=> ?_)
 ·
  refine A10 ?_
  exact x3 Plain.mk' rfl rfl (Le.bool (by simp only [Wh.valid];rw [if_pos (by omega)]))
 ·
  refine A3 ?_
  refine xf1 (s:=4) rfl (fun hl4=> ?_)
  refine A6 ?_
  refine RGcaseD (t:=14) rfl (fun h145=> ?_) (fun h145=> ?_)
  ·
   refine A5 ?_
   refine RGon (decide_eq_true h145) rfl (xe1 (wr64 (by omega) (by omega))) rfl ⟨rfl,rfl,trivial⟩ trivial trivial (RGon (decide_eq_true h145) rfl (x6 sl22 (x.l.length - 1) (by omega) (gN (by omega))) rfl ⟨rfl,rfl,trivial⟩ trivial trivial ?_)
   refine A7 ?_
   exact x3 Plain.mk' rfl rfl (Le.bool (by simp only [Wh.valid];rw [if_neg (by omega),decide_eq_true (show x.l.length≤1024 by omega),Bool.true_and];exact decide_eq_decide.2 (by omega)))
  ·
   refine A14 ?_
   exact x3 Plain.mk' rfl rfl (Le.bool (by simp only [Wh.valid];rw [if_neg (by omega),decide_eq_false (show ¬x.l.length≤1024 by omega),Bool.false_and]))
theorem len_nil {x:Int}:(wh x).l.length=0↔x=0:=by
 show (dig 65536 x.natAbs).length=0↔_
 rw [List.length_eq_zero_iff,xi2 x9];omega
theorem c_RFits (f:Fr):
  Ct Tryz.prog 72 [tFr f] (tB f.sh):=by
 refine Ct.intro Tryz.func72 rfl Tryz.ntmps72 rfl ?_
 intro w F
 refine A10 ?_
 refine xf7 (0) ti22 rfl rfl rfl (At.t (At.g 0 rfl rfl) (At.g 1 rfl rfl)) rfl ?_
 refine A3 ?_
 refine RGcaseD (t:=8) rfl (fun h27=> ?_) (fun h27=> ?_)
 ·
  refine A2 ?_
  refine xb7 (decide_eq_true h27) rfl rfl (0) ti22 rfl rfl rfl (At.t (At.g 1 rfl rfl) (At.g 1 rfl rfl)) rfl ?_
  refine A7 ?_
  exact x3 Plain.mk' rfl rfl (Le.bool (by rw [Fr.sh,decide_eq_true (show f.n.l.length≤256 by omega),Bool.true_and];exact decide_eq_decide.2 (by omega)))
 ·
  refine A10 ?_
  exact x3 Plain.mk' rfl rfl (Le.bool (by rw [Fr.sh,decide_eq_false (show ¬f.n.l.length≤256 by omega)];rfl))
theorem one_dec2 {x y:Int}:decide (dig 65536 (Nat.gcd x.natAbs y.natAbs)=[1])=decide (Int.gcd x y=1):=by
 have h1:dig 65536 1=[1]:=by rw [xh8 x9 (by decide),show (1:Nat) / 65536=0 by decide,xc3]
 refine decide_eq_decide.2 ⟨fun h=> ?_,fun h=> ?_⟩
 ·rw [←h1] at h
  have h2:=congrArg (val 65536) h
  rw [xj2 x9,xj2 x9] at h2
  exact h2
 ·have h:Nat.gcd x.natAbs y.natAbs=1:=h
  rw [h,h1]
theorem c_R2Valid (f:Fr) (hn:Dig 65536 f.n.l) (hd:Dig 65536 f.d.l):
  Ct Tryz.prog 47 [tFr f] (tB f.valid):=by
 obtain ⟨n,d⟩:=f
 replace hn:Dig 65536 n.l:=hn
 replace hd:Dig 65536 d.l:=hd
 refine Ct.intro Tryz.func47 rfl Tryz.ntmps47 rfl ?_
 intro w F
 refine A11 ?_
 refine R1 (x4 (c_RValid n) fi71 rfl) rfl ?_
 refine A2 ?_
 refine RGcase (t:=7) rfl (fun h39=> ?_) (fun h39=> ?_)
 ·
  have hv1:n.valid=false:=by simpa using h39
  refine A18 ?_
  refine A14 ?_
  exact x3 Plain.mk' rfl rfl (Le.bool (by simp only [Fr.valid,hv1,Bool.and_false,Bool.false_and]))
 ·
  have hv1:n.valid=true:=by simpa using h39
  refine A2 ?_
  refine RGon h39 rfl (x4 (c_RValid d) fi71 rfl) rfl ⟨rfl,trivial⟩ trivial trivial ?_
  refine A3 ?_
  refine RGcase (t:=13) rfl (fun h39_2=> ?_) (fun h39_2=> ?_)
  ·
   have hv2:d.valid=false:=by simpa using h39_2
   refine A18 ?_
   refine A8 ?_
   exact x3 Plain.mk' rfl rfl (Le.bool (by simp only [Fr.valid,hv2,Bool.and_false,Bool.false_and]))
  ·
   have hv2:d.valid=true:=by simpa using h39_2
   obtain ⟨x,rfl,hxl⟩:=Wh.of_valid hn hv1
   obtain ⟨y,rfl,hyl⟩:=Wh.of_valid hd hv2
   have ix:=int_wh x
   have iy:=int_wh y
   refine A1 ?_
   refine RGon h39_2 rfl (x4 (c_RFits _) fi72 rfl) rfl ⟨rfl,trivial⟩ trivial trivial ?_
   refine A3 ?_
   refine RGcase (t:=18) rfl (fun h39_3=> ?_) (fun h39_3=> ?_)
   ·
    have hs:(⟨wh x,wh y⟩:Fr).sh=false:=by simpa using h39_3
    refine A18 ?_
    refine A3 ?_
    exact x3 Plain.mk' rfl rfl (Le.bool (by simp only [Fr.valid,hs,Bool.false_and]))
   ·
    have hs:(⟨wh x,wh y⟩:Fr).sh=true:=by simpa using h39_3
    refine A2 ?_
    refine xb7 h39_3 rfl rfl (0) ti4 rfl rfl rfl (At.t (At.g 1 rfl rfl) (At.g 0 rfl rfl)) rfl ?_
    refine A2 ?_
    refine RGcase (t:=23) rfl (fun h39_4=> ?_) (fun h39_4=> ?_)
    ·
     have hy0: ¬0 < y:=by have:y < 0:=of_decide_eq_true h39_4;omega
     refine A16 ?_
     exact x3 Plain.mk' rfl rfl (Le.bool (by simp only [Fr.valid,ix,iy,decide_eq_false hy0,Bool.and_false,Bool.false_and]))
    ·
     refine A2 ?_
     refine xb7 h39_4 rfl rfl (0) ti22 rfl rfl rfl (At.t (At.g 1 rfl rfl) (At.g 1 rfl rfl)) rfl ?_
     refine A5 ?_
     refine x7 rfl (fun h39_5=> ?_) (fun h39_5=> ?_)
     ·
      have h5:(((wh y).l.length:Nat):Int)=0:=h39_5
      have hy0: ¬0 < y:=fun h=>by have:=len_nil.1 (show (wh y).l.length=0 by omega);omega
      refine A7 ?_
      exact x3 Plain.mk' rfl rfl (Le.bool (by simp only [Fr.valid,ix,iy,decide_eq_false hy0,Bool.and_false,Bool.false_and]))
     ·
      have h5: ¬(((wh y).l.length:Nat):Int)=0:=h39_5
      have hy0:0 < y:=pos_of_wh h39_4 (by omega)
      refine A6 ?_
      refine xf7 (0) ti22 rfl rfl rfl (At.t (At.g 0 rfl rfl) (At.g 1 rfl rfl)) rfl ?_
      refine A2 ?_
      refine xf7 (0) ti22 rfl rfl rfl (At.t (At.g 1 rfl rfl) (At.g 1 rfl rfl)) rfl (R2 (x4 (c_RCommon x.natAbs y.natAbs (by show len16 x≤4000;omega) (by show len16 y≤4000;omega)) fi74 rfl) rfl rfl (R1 (x4 (c_Rone _) fi73 rfl) rfl ?_))
      refine A4 ?_
      exact x3 Plain.mk' rfl rfl (Le.bool (by simp only [Fr.valid,ix,iy,hs,hv1,hv2,decide_eq_true hy0,Bool.true_and];exact one_dec2))
instance fi21:FnI Tryz.prog 21:=⟨_,Tryz.func21,by kernel_rfl,rfl⟩
instance fi27:FnI Tryz.prog 27:=⟨_,Tryz.func27,by kernel_rfl,rfl⟩
instance fi43:FnI Tryz.prog 43:=⟨_,Tryz.func43,by kernel_rfl,rfl⟩
instance fi48:FnI Tryz.prog 48:=⟨_,Tryz.func48,by kernel_rfl,rfl⟩
instance fi68:FnI Tryz.prog 68:=⟨_,Tryz.func68,by kernel_rfl,rfl⟩
instance fi75:FnI Tryz.prog 75:=⟨_,Tryz.func75,by kernel_rfl,rfl⟩
instance fi94:FnI Tryz.prog 94:=⟨_,Tryz.func94,by kernel_rfl,rfl⟩
def mk16:List Nat:=(List.range 12).map fun i=>(8000024+i)%65536
theorem mk16_len:mk16.length=12:=rfl
theorem mk16_at {j:Nat} (h:j < 12):mk16.getD j 0=(8000024+j)%65536:=by
 have: ∀j,j < 12→mk16.getD j 0=(8000024+j)%65536:=by decide
 exact this j h
theorem mk16_take {i:Nat} (h:i < 12):mk16.take (i+1)=mk16.take i++[(8000024+i)%65536]:=by
 rw [List.take_succ_eq_append_getElem (by rw [mk16_len];exact h)]
 congr 2
 have:=mk16_at h
 rw [List.getD_eq_getElem?_getD,List.getElem?_eq_getElem (by rw [mk16_len];exact h)] at this
 exact this
theorem cutM {i:Nat}:IntKind.u16.wrap (1000003*(1+7)+(i:Int))=(((8000024+i)%65536:Nat):Int):=by rw [mu16];omega
abbrev tLmK (l:List Nat):Ty:=tLK 1 false (fun n:Nat=>tE (.int .u16 (n:Int))) l mk16
abbrev tWhK (x:Wh):Ty:=tS [⟨1,false,tB x.neg⟩,⟨1,false,tLmK x.l⟩]
abbrev tFrK (f:Fr):Ty:=tS [⟨2,true,tWhK f.n⟩,⟨2,true,tWhK f.d⟩]
abbrev tVaK (v:Va):Ty:=tS [⟨1,false,tE (.int .u8 (v.kind:Int))⟩,⟨4,true,tFrK v.f⟩,⟨1,false,tI v.i⟩]
theorem whK_le {x:Wh}:Le (tWhK x) (tWh x):=Le.tS ⟨⟨rfl,rfl,Le.refl⟩,⟨rfl,rfl,tLK_le⟩,trivial⟩
theorem frK_le {f:Fr}:Le (tFrK f) (tFr f):=Le.tS ⟨⟨rfl,rfl,whK_le⟩,⟨rfl,rfl,whK_le⟩,trivial⟩
theorem vaK_le {v:Va}:Le (tVaK v) (tVa v):=Le.tS ⟨⟨rfl,rfl,Le.refl⟩,⟨rfl,rfl,frK_le⟩,⟨rfl,rfl,Le.refl⟩,trivial⟩
theorem app_l {l m:List Nat} {i:Nat} (h:i < l.length):(l++m).getD i 0=l.getD i 0:=by
 rw [List.getD_eq_getElem?_getD,List.getElem?_append_left h,←List.getD_eq_getElem?_getD]
theorem app_r {l m:List Nat} {i:Nat} (h:l.length≤i):(l++m).getD i 0=m.getD (i - l.length) 0:=by
 rw [List.getD_eq_getElem?_getD,List.getElem?_append_right h,←List.getD_eq_getElem?_getD]
theorem c_mark1 (i:Nat) (h:i < 12):
  Ct Tryz.prog 94 [tI 1,tI i] (tI (1000003*(1+7)+(i:Int))):=by
 refine Ct.intro Tryz.func94 rfl Tryz.ntmps94 rfl ?_
 intro w F
 refine A9 ?_
 refine R2 (xg5 (wr64 (by omega) (by omega))) rfl rfl ?_
 refine A6 ?_
 exact x3 Plain.mk' rfl rfl Le.refl
theorem c_LentLimbs (l:List Nat) (hl:l.length≤1048576):
  Ct Tryz.prog 68 [tLm l] (tLmK l):=by
 refine Ct.intro Tryz.func68 rfl Tryz.ntmps68 rfl ?_
 intro w F
 refine A10 ?_
 refine RE (xh7 (k:=8) (t:=tE (.int .u16 0)) (ts:=([]:List Ent)) (0) (l.length+12) Tryz.underlying22 el100 (fun _ _=>rfl) rfl (by omega) (by omega) (by omega) (by omega) (by omega) rfl) ⟨rfl,rfl,trivial⟩ trivial ⟨rfl,trivial⟩ ?_
 refine A7 ?_
 refine RE (xb2 (k:=8) (k':=11) (ys:=l) (ts':=rW .u16 l) Tryz.underlying22 el100 zf100 rfl rfl (fun _=>inferInstance) rfl (by simp;omega) (by simp;omega) (by simp [rW]) (n':=l.length) (by simp)) ⟨rfl,rfl,trivial⟩ ⟨rfl,trivial⟩ ⟨rfl,trivial⟩ ?_
 refine A10 ?_
 refine cL (fun (i:Nat)=>i≤12) (fun (i:Nat)=>upd (upd (upd (fun _=>none) 0 (some (.val (tLm l)))) 3 (some (.own (.sl 11 1 0 (l.length+i))))) 4 (some (.val (tI i)))) (fun (i:Nat)=>upd (fun _=>none) 11 (some (⟨100,1,false,rW .u16 (l++mk16.take i)⟩))) [11] (fun (i:Nat)=>12 - i) (0) (Nat.zero_le _) (hh:=((SubK.consI rfl (ImpK.of (by rw [List.take_zero,List.append_nil]))) SubK.nil)) ?_
 intro i hI
 have htl:(l++mk16.take i).length=l.length+i:=by rw [List.length_append,List.length_take,mk16_len];omega
 refine A7 ?_
 refine x7 rfl (fun h64=> ?_) (fun h64=> ?_)
 ·
  refine A7 ?_
  refine R2 (x4 (c_mark1 i (by omega)) fi94 rfl) rfl rfl (R1 (x5 Tryz.underlying100 (isS Tryz.underlying3) cutM) rfl (R1 (xm5 (n:=1) [((8000024+i)%65536)] Tryz.underlying22 el100 zf100 rfl rfl rfl) rfl (RE (xb2 (k:=11) (k':=21) (ys:=[((8000024+i)%65536)]) (ts':=rW .u16 (l++mk16.take i++[((8000024+i)%65536)])) Tryz.underlying22 el100 zf100 rfl rfl (fun _=>inferInstance) (rW_len.trans htl) (by simp;omega) (by simp;omega) (by simp [rW]) (n':=l.length+i+1) rfl) ⟨rfl,rfl,trivial⟩ ⟨rfl,trivial⟩ ⟨rfl,trivial⟩ ?_)))
  refine A9 ?_
  exact xf2 (l:=[11]) (fun j=>cond (Nat.beq j 11) 21 (j)) (i+1) ⟨(by omega),(by omega)⟩ (SubR.int rfl (by first | omega | rfl | (dsimp only;omega)) (SubR.cons rfl (SubR.cons rfl SubR.nil))) ((SubKR.consI rfl (ImpK.of (by rw [mk16_take (by omega),←List.append_assoc];exact xk5.symm))) SubKR.nil) (SupG.val (SupG.own rfl (SupG.val SupG.nil))) (SupH.cons rfl (supJ xe8) SupH.nil) (lkOk rfl) rfl rfl (fun _ h=>by cases h)
 ·
  refine A10 ?_
  refine RE (d_keepO (k:=11) (f:=fun n:Nat=>tE (.int .u16 (n:Int))) (xs:=l) (ms:=mk16) sl22 (fun _ h=>h) (by rw [rW,show i=12 by omega,show mk16.take 12=mk16 from rfl]) (by rw [mk16_len];omega) rfl) ⟨rfl,rfl,trivial⟩ ⟨rfl,trivial⟩ trivial ?_
  refine A4 ?_
  exact x3 Plain.mk' rfl rfl Le.refl
theorem c_KeptLimbs (l:List Nat) (hl:l.length≤1048576):
  Ct Tryz.prog 75 [tLmK l,tLm l] (tB true):=by
 have hml:(l++mk16).length=l.length+12:=by rw [List.length_append,mk16_len]
 refine Ct.intro Tryz.func75 rfl Tryz.ntmps75 rfl ?_
 intro w F
 refine A9 ?_
 refine R1 (d_lenK Tryz.underlying22) rfl ?_
 refine A5 ?_
 refine C_bF rfl (decide_eq_false (by omega)) ?_
 refine A8 ?_
 refine R2 (d_sliceK sl22 (by rw [mk16_len];omega)) rfl rfl ?_
 refine A10 ?_
 refine cL (fun (i:Nat)=>i≤(l++mk16).length) (fun (i:Nat)=>upd (upd (upd (fun _=>none) 1 (some (.val (tLm l)))) 5 (some (.val (tLm (l++mk16))))) 6 (some (.val (tI i)))) (fun (i:Nat)=>fun _=>none) [] (fun (i:Nat)=>(l++mk16).length - i) (0) (Nat.zero_le _) ?_
 intro i hI
 refine A9 ?_
 refine x7 rfl (fun h75=> ?_) (fun h75=> ?_)
 ·
  refine A11 ?_
  refine RGcaseD (t:=27) rfl (fun h76=> ?_) (fun h76=> ?_)
  ·
   refine A2 ?_
   refine RGon (decide_eq_true h76) rfl (x6 sl22 (i) (by omega) (gN (by omega))) rfl ⟨rfl,rfl,trivial⟩ trivial trivial ?_
   refine A3 ?_
   refine RGon (decide_eq_true h76) rfl (x6 sl22 (i) (by omega) (gN (by omega))) rfl ⟨rfl,rfl,trivial⟩ trivial trivial ?_
   refine A5 ?_
   refine RGon (xa8 (by rw [app_l (by omega)])) rfl xb5 rfl ⟨rfl,trivial⟩ trivial trivial (RGon (xa8 (by rw [app_l (by omega)])) rfl xb5 rfl ⟨rfl,trivial⟩ trivial trivial (RGon (xa8 (by rw [app_l (by omega)])) rfl (d_len Tryz.underlying22) rfl ⟨rfl,trivial⟩ trivial trivial (RGon (xa8 (by rw [app_l (by omega)])) rfl d_geq rfl ⟨rfl,rfl,trivial⟩ trivial trivial (RGon (xa8 (by rw [app_l (by omega)])) rfl xb5 rfl ⟨rfl,trivial⟩ trivial trivial (RGoff (decide_eq_false (by omega)) rfl rfl (RGoff (decide_eq_false (by omega)) rfl rfl (RGoff (decide_eq_false (by omega)) rfl rfl ?_)))))))
   refine RGoff (decide_eq_false (by omega)) rfl rfl (RGoff (decide_eq_false (by omega)) rfl rfl (RGoff (decide_eq_false (by omega)) rfl rfl (RGoff (decide_eq_false (by omega)) rfl rfl (RGoff (decide_eq_false (by omega)) rfl rfl (RGoff (decide_eq_false (by omega)) rfl rfl (RGoff (decide_eq_false (by omega)) rfl rfl (RGoff (decide_eq_false (by omega)) rfl rfl ?_)))))))
   refine RGoff (decide_eq_false (by omega)) rfl rfl (RGon (xa8 (by rw [app_l (by omega)])) rfl (xh3 (decide_eq_false (by omega))) rfl ⟨rfl,rfl,trivial⟩ trivial trivial (R2 (xh3 (xa8 (by rw [app_l (by omega)]))) rfl rfl ?_))
   refine A11 ?_
   exact kF (i+1) ⟨(by omega),(by omega)⟩
  ·
   refine A17 ?_
   refine RGon (decide_eq_true (by omega)) rfl xb5 rfl ⟨rfl,trivial⟩ trivial trivial (RGon (decide_eq_true (by omega)) rfl xb5 rfl ⟨rfl,trivial⟩ trivial trivial (RGon (decide_eq_true (by omega)) rfl (x6 sl22 (i) (by omega) (gN (by omega))) rfl ⟨rfl,rfl,trivial⟩ trivial trivial (RGon (decide_eq_true (by omega)) rfl (xn3 ti100) rfl ⟨rfl,trivial⟩ trivial trivial (RGon (decide_eq_true (by omega)) rfl xb5 rfl ⟨rfl,trivial⟩ trivial trivial (RGon (decide_eq_true (by omega)) rfl xb5 rfl ⟨rfl,trivial⟩ trivial trivial (RGon (decide_eq_true (by omega)) rfl (d_len Tryz.underlying22) rfl ⟨rfl,trivial⟩ trivial trivial (RGon (decide_eq_true (by omega)) rfl (xe1 (r:=((i - l.length:Nat):Int)) (by rw [wr64 (by omega) (by omega)];omega)) rfl ⟨rfl,rfl,trivial⟩ trivial trivial ?_)))))))
   refine RGon (decide_eq_true (by omega)) rfl (x4 (c_mark1 (i - l.length) (by omega)) fi94 rfl) rfl ⟨rfl,rfl,trivial⟩ trivial trivial (RGon (decide_eq_true (by omega)) rfl (x5 Tryz.underlying100 (isS Tryz.underlying3) cutM) rfl ⟨rfl,trivial⟩ trivial trivial (RGon (decide_eq_true (by omega)) rfl d_eql rfl ⟨rfl,rfl,trivial⟩ trivial trivial (RGon (decide_eq_true (by omega)) rfl d_not rfl ⟨rfl,trivial⟩ trivial trivial (RGon rfl rfl (xh2 (decide_eq_true (by omega))) rfl ⟨rfl,rfl,trivial⟩ trivial trivial ?_))))
   refine A3 ?_
   refine C_bF rfl (xa8 (by rw [app_r (by omega),mk16_at (by omega)])) ?_
   refine A8 ?_
   exact kF (i+1) ⟨(by omega),(by omega)⟩
 ·
  refine A11 ?_
  exact x3 Plain.mk' rfl rfl Le.refl
theorem c_LentWhole (x:Wh) (hl:x.l.length≤1048576):
  Ct Tryz.prog 43 [tWh x] (tWhK x):=by
 refine Ct.intro Tryz.func43 rfl Tryz.ntmps43 rfl ?_
 intro w F
 refine A3 ?_
 refine RE (xb0 (k:=2) (n:=2) (agg:=true) zr24.1 zr24.2 rfl) trivial trivial ⟨rfl,trivial⟩ ?_
 refine A6 ?_
 refine R1 (x4 (c_LentLimbs x.l hl) fi68 rfl) rfl ?_
 refine A1 ?_
 refine xg4 (0) ti22 rfl rfl rfl rfl (Up.g 1 rfl rfl rfl) rfl rfl ?_
 refine A3 ?_
 refine C_key (k:=1) (e':=⟨24,2,true,[.val (tWhK x)]⟩) rfl rfl ?_
 refine A6 ?_
 exact xg0 Plain.mk' rfl ⟨_,_,_,_,_,rfl,rfl,ti24,Le.refl⟩
theorem c_LentFrac (f:Fr) (h1:f.n.l.length≤1048576) (h2:f.d.l.length≤1048576):
  Ct Tryz.prog 21 [tFr f] (tFrK f):=by
 refine Ct.intro Tryz.func21 rfl Tryz.ntmps21 rfl ?_
 intro w F
 refine A3 ?_
 refine RE (xb0 (k:=2) (n:=4) (agg:=true) zr26.1 zr26.2 rfl) trivial trivial ⟨rfl,trivial⟩ ?_
 refine A6 ?_
 refine R1 (x4 (c_LentWhole f.n h1) fi43 rfl) rfl ?_
 refine A1 ?_
 refine xg4 (0) ti24 rfl rfl rfl rfl (Up.g 0 rfl rfl rfl) rfl rfl ?_
 refine A6 ?_
 refine R1 (x4 (c_LentWhole f.d h2) fi43 rfl) rfl ?_
 refine A1 ?_
 refine xg4 (0) ti24 rfl rfl rfl rfl (Up.g 1 rfl rfl rfl) rfl rfl ?_
 refine A3 ?_
 refine C_key (k:=1) (e':=⟨26,4,true,[.val (tFrK f)]⟩) rfl rfl ?_
 refine A6 ?_
 exact xg0 Plain.mk' rfl ⟨_,_,_,_,_,rfl,rfl,ti26,Le.refl⟩
theorem c_LentValue (v:Va) (h1:v.f.n.l.length≤1048576) (h2:v.f.d.l.length≤1048576):
  Ct Tryz.prog 6 [tVa v] (tVaK v):=by
 refine Ct.intro Tryz.func6 rfl Tryz.ntmps6 rfl ?_
 intro w F
 refine A3 ?_
 refine RE (xb0 (k:=2) (n:=6) (agg:=true) zr28.1 zr28.2 rfl) trivial trivial ⟨rfl,trivial⟩ ?_
 refine A6 ?_
 refine R1 (x4 (c_LentFrac v.f h1 h2) fi21 rfl) rfl ?_
 refine A1 ?_
 refine xg4 (0) ti26 rfl rfl rfl rfl (Up.g 1 rfl rfl rfl) rfl rfl ?_
 refine A3 ?_
 refine C_key (k:=1) (e':=⟨28,6,true,[.val (tVaK v)]⟩) rfl rfl ?_
 refine A6 ?_
 exact xg0 Plain.mk' rfl ⟨_,_,_,_,_,rfl,rfl,ti28,Le.refl⟩
theorem c_KeptWhole (x:Wh) (hl:x.l.length≤1048576):
  Ct Tryz.prog 48 [tWhK x,tWh x] (tB true):=by
 refine Ct.intro Tryz.func48 rfl Tryz.ntmps48 rfl ?_
 intro w F
 refine A11 ?_
 refine R2 (d_callL (ts:=[tWhK x,tWh x]) (xr8 x x) fi60 rfl ⟨whK_le,Le.refl,trivial⟩) rfl rfl ?_
 refine A1 ?_
 refine RGon (decide_eq_true (by rfl)) rfl (xd0 fo24_1.h rfl) rfl ⟨rfl,trivial⟩ trivial trivial (xb7 (decide_eq_true (by rfl)) rfl rfl (0) ti22 rfl rfl rfl (At.g 1 rfl rfl) rfl (RGon (decide_eq_true (by rfl)) rfl (xd0 fo24_1.h rfl) rfl ⟨rfl,trivial⟩ trivial trivial (xb7 (decide_eq_true (by rfl)) rfl rfl (0) ti22 rfl rfl rfl (At.g 1 rfl rfl) rfl (RGon (decide_eq_true (by rfl)) rfl (x4 (c_KeptLimbs x.l hl) fi75 rfl) rfl ⟨rfl,rfl,trivial⟩ trivial trivial (R2 (xh2 (decide_eq_true (by rfl))) rfl rfl ?_)))))
 refine A4 ?_
 exact x3 Plain.mk' rfl rfl Le.refl
theorem c_KeptFrac (f:Fr) (h1:f.n.l.length≤1048576) (h2:f.d.l.length≤1048576):
  Ct Tryz.prog 27 [tFrK f,tFr f] (tB true):=by
 refine Ct.intro Tryz.func27 rfl Tryz.ntmps27 rfl ?_
 intro w F
 refine A11 ?_
 refine R2 (d_callL (ts:=[tFrK f,tFr f]) (c_SameFrac f f) fi34 rfl ⟨frK_le,Le.refl,trivial⟩) rfl rfl ?_
 refine A1 ?_
 refine RGon (decide_eq_true (by rfl)) rfl (xd0 fo26_0.h rfl) rfl ⟨rfl,trivial⟩ trivial trivial (xb7 (decide_eq_true (by rfl)) rfl rfl (0) ti24 rfl rfl rfl (At.g 0 rfl rfl) rfl (RGon (decide_eq_true (by rfl)) rfl (xd0 fo26_0.h rfl) rfl ⟨rfl,trivial⟩ trivial trivial (xb7 (decide_eq_true (by rfl)) rfl rfl (0) ti24 rfl rfl rfl (At.g 0 rfl rfl) rfl (RGon (decide_eq_true (by rfl)) rfl (x4 (c_KeptWhole f.n h1) fi48 rfl) rfl ⟨rfl,rfl,trivial⟩ trivial trivial (R2 (xh2 (decide_eq_true (by rfl))) rfl rfl ?_)))))
 refine A5 ?_
 refine RGon rfl rfl (x4 (c_KeptWhole f.d h2) fi48 rfl) rfl ⟨rfl,rfl,trivial⟩ trivial trivial ?_
 refine A5 ?_
 exact x3 Plain.mk' rfl rfl Le.refl
theorem c_KeptValue (v:Va) (h1:v.f.n.l.length≤1048576) (h2:v.f.d.l.length≤1048576):
  Ct Tryz.prog 9 [tVaK v,tVa v] (tB true):=by
 refine Ct.intro Tryz.func9 rfl Tryz.ntmps9 rfl ?_
 intro w F
 refine A11 ?_
 refine R2 (d_callL (ts:=[tVaK v,tVa v]) (xr6 v v) fi14 rfl ⟨vaK_le,Le.refl,trivial⟩) rfl rfl ?_
 refine A1 ?_
 refine RGon (decide_eq_true (by rfl)) rfl (xd0 fo28_1.h rfl) rfl ⟨rfl,trivial⟩ trivial trivial (xb7 (decide_eq_true (by rfl)) rfl rfl (0) ti26 rfl rfl rfl (At.g 1 rfl rfl) rfl (RGon (decide_eq_true (by rfl)) rfl (xd0 fo28_1.h rfl) rfl ⟨rfl,trivial⟩ trivial trivial (xb7 (decide_eq_true (by rfl)) rfl rfl (0) ti26 rfl rfl rfl (At.g 1 rfl rfl) rfl (RGon (decide_eq_true (by rfl)) rfl (x4 (c_KeptFrac v.f h1 h2) fi27 rfl) rfl ⟨rfl,rfl,trivial⟩ trivial trivial (R2 (xh2 (decide_eq_true (by rfl))) rfl rfl ?_)))))
 refine A4 ?_
 exact x3 Plain.mk' rfl rfl Le.refl
instance fi46:FnI Tryz.prog 46:=⟨_,Tryz.func46,by kernel_rfl,rfl⟩
instance fi47:FnI Tryz.prog 47:=⟨_,Tryz.func47,by kernel_rfl,rfl⟩
theorem fr0_eq {f:Fr} (h1:f.n.neg=false) (h2:f.d.neg=false) (h3:f.n.l.length=0) (h4:f.d.l.length=0):f=fr0:=by
 obtain ⟨⟨n1,l1⟩,⟨n2,l2⟩⟩:=f
 simp only at h1 h2 h3 h4
 rw [h1,h2,List.length_eq_zero_iff.1 h3,List.length_eq_zero_iff.1 h4];rfl
theorem fr0_ne {f:Fr} (h:f.n.neg=true∨f.d.neg=true∨0 < f.n.l.length∨0 < f.d.l.length):f≠fr0:=by
 rintro rfl
 rcases h with h | h | h | h <;> cases h
theorem va_no {v:Va} (h1: ¬(v.kind=2∨v.kind=3)) (h2:v.f≠fr0):v.valid=false:=by
 simp only [Va.valid]
 rw [if_neg h1,decide_eq_false h2]
 simp
theorem va_eq {u v:Va}:u=v↔u.kind=v.kind∧u.i=v.i∧u.f.n=v.f.n∧u.f.d=v.f.d:=by
 constructor
 ·rintro rfl;exact ⟨rfl,rfl,rfl,rfl⟩
 ·obtain ⟨k,⟨n,d⟩,i⟩:=u
  obtain ⟨k2,⟨n2,d2⟩,i2⟩:=v
  rintro ⟨h1,h2,h3,h4⟩
  simp only at h1 h2 h3 h4
  rw [h1,h2,h3,h4]
theorem c_R5Valid (v:Va) (hD:v.f.dig) (h1:v.f.n.l.length≤1048576) (h2:v.f.d.l.length≤1048576):
  Ct Tryz.prog 26 [tVa v] (tB v.valid):=by
 refine Ct.intro Tryz.func26 rfl Tryz.ntmps26 rfl ?_
 intro w F
 refine A13 ?_
 refine RGcaseD (t:=6) rfl (fun h14=> ?_) (fun h14=> ?_)
 ·
  refine A13 ?_
  refine RGcaseD (t:=14) rfl (fun h15=> ?_) (fun h15=> ?_)
  ·
   refine A2 ?_
   refine RGon (decide_eq_true h15) rfl (x4 (c_R2Valid v.f hD.1 hD.2) fi47 rfl) rfl ⟨rfl,trivial⟩ trivial trivial ?_
   refine A6 ?_
   exact x3 Plain.mk' rfl rfl (Le.bool (by simp only [Va.valid];rw [if_pos (show v.kind=2∨v.kind=3 by omega),decide_eq_true h15,Bool.true_and]))
  ·
   refine A9 ?_
   exact x3 Plain.mk' rfl rfl (Le.bool (by simp only [Va.valid];rw [if_pos (show v.kind=2∨v.kind=3 by omega),decide_eq_false h15];rfl))
 ·
  refine A6 ?_
  refine x7 rfl (fun h14_2=> ?_) (fun h14_2=> ?_)
  ·
   refine A6 ?_
   refine RGcaseD (t:=14) rfl (fun h15=> ?_) (fun h15=> ?_)
   ·
    refine A2 ?_
    refine RGon (decide_eq_true h15) rfl (x4 (c_R2Valid v.f hD.1 hD.2) fi47 rfl) rfl ⟨rfl,trivial⟩ trivial trivial ?_
    refine A6 ?_
    exact x3 Plain.mk' rfl rfl (Le.bool (by simp only [Va.valid];rw [if_pos (show v.kind=2∨v.kind=3 by omega),decide_eq_true h15,Bool.true_and]))
   ·
    refine A9 ?_
    exact x3 Plain.mk' rfl rfl (Le.bool (by simp only [Va.valid];rw [if_pos (show v.kind=2∨v.kind=3 by omega),decide_eq_false h15];rfl))
  ·
   refine A8 ?_
   refine xf7 (0) ti4 rfl rfl rfl (At.t (At.g 1 rfl rfl) (At.t (At.g 0 rfl rfl) (At.g 0 rfl rfl))) rfl ?_
   refine A1 ?_
   refine RGcase (t:=23) rfl (fun h17=> ?_) (fun h17=> ?_)
   ·
    have hnf:v.f≠fr0:=fr0_ne (.inl h17)
    refine A18 ?_
    refine A11 ?_
    exact x3 Plain.mk' rfl rfl (Le.bool (va_no (by omega) hnf).symm)
   ·
    refine A3 ?_
    refine xb7 h17 rfl rfl (0) ti4 rfl rfl rfl (At.t (At.g 1 rfl rfl) (At.t (At.g 1 rfl rfl) (At.g 0 rfl rfl))) rfl ?_
    refine A2 ?_
    refine RGcase (t:=29) rfl (fun h17_2=> ?_) (fun h17_2=> ?_)
    ·
     have hnf:v.f≠fr0:=fr0_ne (.inr (.inl h17_2))
     refine A18 ?_
     refine A5 ?_
     exact x3 Plain.mk' rfl rfl (Le.bool (va_no (by omega) hnf).symm)
    ·
     refine A3 ?_
     refine xb7 h17_2 rfl rfl (0) ti22 rfl rfl rfl (At.t (At.g 1 rfl rfl) (At.t (At.g 0 rfl rfl) (At.g 1 rfl rfl))) rfl ?_
     refine A4 ?_
     refine xb7 h17_2 rfl rfl (0) ti22 rfl rfl rfl (At.t (At.g 1 rfl rfl) (At.t (At.g 1 rfl rfl) (At.g 1 rfl rfl))) rfl ?_
     refine A1 ?_
     refine RGon h17_2 rfl (xe2 (wr64 (by omega) (by omega))) rfl ⟨rfl,rfl,trivial⟩ trivial trivial ?_
     refine A4 ?_
     refine x7 rfl (fun h17_3=> ?_) (fun h17_3=> ?_)
     ·
      have hnf:v.f≠fr0:=fr0_ne (by omega)
      refine A7 ?_
      exact x3 Plain.mk' rfl rfl (Le.bool (va_no (by omega) hnf).symm)
     ·
      have hf0:v.f=fr0:=fr0_eq h17 h17_2 (by omega) (by omega)
      refine A16 ?_
      refine x7 rfl (fun h21=> ?_) (fun h21=> ?_)
      ·
       refine A6 ?_
       refine RGcaseD (t:=50) rfl (fun h22=> ?_) (fun h22=> ?_)
       ·
        refine A10 ?_
        exact x3 Plain.mk' rfl rfl (Le.bool (by simp only [Va.valid];rw [if_neg (show ¬(v.kind=2∨v.kind=3) by omega),if_pos (show v.kind=1 by omega),decide_eq_true hf0,Bool.true_and,decide_eq_true (show 0≤v.i by omega),decide_eq_true (show v.i≤1 by omega)];rfl))
       ·
        refine A10 ?_
        exact x3 Plain.mk' rfl rfl (Le.bool (by simp only [Va.valid];rw [if_neg (show ¬(v.kind=2∨v.kind=3) by omega),if_pos (show v.kind=1 by omega),decide_eq_true hf0,Bool.true_and,←Bool.decide_and];exact decide_eq_decide.2 (by omega)))
      ·
       refine A6 ?_
       refine x7 rfl (fun h23=> ?_) (fun h23=> ?_)
       ·
        refine A6 ?_
        refine RGcaseD (t:=60) rfl (fun h24=> ?_) (fun h24=> ?_)
        ·
         refine A10 ?_
         exact x3 Plain.mk' rfl rfl (Le.bool (by simp only [Va.valid];rw [if_neg (show ¬(v.kind=2∨v.kind=3) by omega),if_neg (show ¬v.kind=1 by omega),if_pos (show v.kind=4 by omega),decide_eq_true hf0,Bool.true_and,←Bool.decide_and];exact decide_eq_decide.2 (by omega)))
        ·
         refine A10 ?_
         exact x3 Plain.mk' rfl rfl (Le.bool (by simp only [Va.valid];rw [if_neg (show ¬(v.kind=2∨v.kind=3) by omega),if_neg (show ¬v.kind=1 by omega),if_pos (show v.kind=4 by omega),decide_eq_true hf0,Bool.true_and,decide_eq_false (show ¬0≤v.i by omega)];rfl))
       ·
        refine A7 ?_
        refine x7 rfl (fun h25=> ?_) (fun h25=> ?_)
        ·
         refine A2 ?_
         refine C_bT rfl (decide_eq_true (by omega)) ?_
         refine A6 ?_
         refine RGcaseD (t:=71) rfl (fun h26=> ?_) (fun h26=> ?_)
         ·
          refine A10 ?_
          exact x3 Plain.mk' rfl rfl (Le.bool (by simp only [Va.valid];rw [if_neg (show ¬(v.kind=2∨v.kind=3) by omega),if_neg (show ¬v.kind=1 by omega),if_neg (show ¬v.kind=4 by omega),if_pos (show v.kind=5∨v.kind=6 by omega),decide_eq_true hf0,Bool.true_and,←Bool.decide_and];exact decide_eq_decide.2 (by omega)))
         ·
          refine A10 ?_
          exact x3 Plain.mk' rfl rfl (Le.bool (by simp only [Va.valid];rw [if_neg (show ¬(v.kind=2∨v.kind=3) by omega),if_neg (show ¬v.kind=1 by omega),if_neg (show ¬v.kind=4 by omega),if_pos (show v.kind=5∨v.kind=6 by omega),decide_eq_true hf0,Bool.true_and,decide_eq_false (show ¬ -1048576≤v.i by omega)];rfl))
        ·
         refine A5 ?_
         refine x7 rfl (fun h25_2=> ?_) (fun h25_2=> ?_)
         ·
          refine A6 ?_
          refine RGcaseD (t:=71) rfl (fun h26=> ?_) (fun h26=> ?_)
          ·
           refine A10 ?_
           exact x3 Plain.mk' rfl rfl (Le.bool (by simp only [Va.valid];rw [if_neg (show ¬(v.kind=2∨v.kind=3) by omega),if_neg (show ¬v.kind=1 by omega),if_neg (show ¬v.kind=4 by omega),if_pos (show v.kind=5∨v.kind=6 by omega),decide_eq_true hf0,Bool.true_and,←Bool.decide_and];exact decide_eq_decide.2 (by omega)))
          ·
           refine A10 ?_
           exact x3 Plain.mk' rfl rfl (Le.bool (by simp only [Va.valid];rw [if_neg (show ¬(v.kind=2∨v.kind=3) by omega),if_neg (show ¬v.kind=1 by omega),if_neg (show ¬v.kind=4 by omega),if_pos (show v.kind=5∨v.kind=6 by omega),decide_eq_true hf0,Bool.true_and,decide_eq_false (show ¬ -1048576≤v.i by omega)];rfl))
         ·
          refine A9 ?_
          exact x3 Plain.mk' rfl rfl (Le.bool (by simp only [Va.valid];rw [if_neg (show ¬(v.kind=2∨v.kind=3) by omega),if_neg (show ¬v.kind=1 by omega),if_neg (show ¬v.kind=4 by omega),if_neg (show ¬(v.kind=5∨v.kind=6) by omega)]))
theorem c_R5whole (x y:Wh) (hx:x.l.length≤1048576):
  Ct Tryz.prog 46 [tWh x,tWh y] (tB (decide (x=y))):=by
 refine Ct.intro Tryz.func46 rfl Tryz.ntmps46 rfl ?_
 intro w F
 refine A16 ?_
 refine RGcase (t:=11) rfl (fun h33=> ?_) (fun h33=> ?_)
 ·
  have hn:x.neg≠y.neg:=fun h=>by rw [h] at h33;simp at h33
  refine A18 ?_
  exact x3 Plain.mk' rfl rfl (Le.bool (decide_eq_false (fun h=>hn (by rw [h]))).symm)
 ·
  have hn:x.neg=y.neg:=by simpa using h33
  refine A10 ?_
  refine x7 rfl (fun h33_2=> ?_) (fun h33_2=> ?_)
  ·
   refine A7 ?_
   exact x3 Plain.mk' rfl rfl (Le.bool (decide_eq_false (fun h=>by rw [h] at h33_2;omega)).symm)
  ·
   have hll:x.l.length=y.l.length:=by omega
   refine A9 ?_
   refine cL (fun (i:Nat)=>i≤x.l.length∧x.l.take i=y.l.take i) (fun (i:Nat)=>upd (upd (upd (fun _=>none) 2 (some (.own (.ptr 2 0)))) 3 (some (.own (.ptr 3 0)))) 5 (some (.val (tI i)))) (fun (i:Nat)=>upd (upd (fun _=>none) 2 (some (⟨24,2,true,[.val (tWh x)]⟩))) 3 (some (⟨24,2,true,[.val (tWh y)]⟩))) [2,3] (fun (i:Nat)=>x.l.length - i) (0) ⟨Nat.zero_le _,rfl⟩ (hh:=((SubK.consI rfl ImpK.refl) ((SubK.consI rfl ImpK.refl) SubK.nil))) ?_
   intro i hI
   obtain ⟨hi,ht⟩:=hI
   refine A10 ?_
   refine x7 rfl (fun h36=> ?_) (fun h36=> ?_)
   ·
    refine A9 ?_
    refine R2 (x6 sl22 (i) (by omega) (gN (by omega))) rfl rfl ?_
    refine A4 ?_
    refine R2 (x6 sl22 (i) (by omega) (gN (by omega))) rfl rfl ?_
    refine A4 ?_
    refine x7 rfl (fun h37=> ?_) (fun h37=> ?_)
    ·
     refine A11 ?_
     exact x3 Plain.mk' rfl rfl (Le.bool (decide_eq_false (fun h=>by rw [h] at h37;omega)).symm)
    ·
     refine A8 ?_
     exact kF (i+1) ⟨⟨by omega,by rw [xd8 x.l i (by omega),xd8 y.l i (by omega),ht,show x.l.getD i 0=y.l.getD i 0 by omega]⟩,(by omega)⟩ (hh:=((SubK.consI rfl ImpK.refl) ((SubK.consI rfl ImpK.refl) SubK.nil)))
   ·
    refine A11 ?_
    exact x3 Plain.mk' rfl rfl (Le.bool (decide_eq_true (by rw [show i=x.l.length by omega,List.take_length,hll,List.take_length] at ht;obtain ⟨a,b⟩:=x;obtain ⟨c,d⟩:=y;simp only at hn ht;rw [hn,ht])).symm)
theorem c_R5Same (u v:Va) (h1:u.f.n.l.length≤1048576) (h2:u.f.d.l.length≤1048576):
  Ct Tryz.prog 25 [tVa u,tVa v] (tB (decide (u=v))):=by
 refine Ct.intro Tryz.func25 rfl Tryz.ntmps25 rfl ?_
 intro w F
 refine A15 ?_
 refine RGcaseD (t:=10) rfl (fun h46=> ?_) (fun h46=> ?_)
 ·
  refine A7 ?_
  refine RGcaseD (t:=17) rfl (fun h46_2=> ?_) (fun h46_2=> ?_)
  ·
   refine A2 ?_
   refine xb7 (decide_eq_true h46_2) rfl rfl (0) ti24 rfl rfl rfl (At.t (At.g 1 rfl rfl) (At.g 0 rfl rfl)) rfl ?_
   refine A2 ?_
   refine xb7 (decide_eq_true h46_2) rfl rfl (0) ti24 rfl rfl rfl (At.t (At.g 1 rfl rfl) (At.g 0 rfl rfl)) rfl (RGon (decide_eq_true h46_2) rfl (x4 (c_R5whole _ _ h1) fi46 rfl) rfl ⟨rfl,rfl,trivial⟩ trivial trivial ?_)
   refine A2 ?_
   refine RGcaseD (t:=26) rfl (fun h46_3=> ?_) (fun h46_3=> ?_)
   ·
    refine A2 ?_
    refine xb7 (decide_eq_true h46_3) rfl rfl (0) ti24 rfl rfl rfl (At.t (At.g 1 rfl rfl) (At.g 1 rfl rfl)) rfl ?_
    refine A2 ?_
    refine xb7 (decide_eq_true h46_3) rfl rfl (0) ti24 rfl rfl rfl (At.t (At.g 1 rfl rfl) (At.g 1 rfl rfl)) rfl (RGon (decide_eq_true h46_3) rfl (x4 (c_R5whole _ _ h2) fi46 rfl) rfl ⟨rfl,rfl,trivial⟩ trivial trivial ?_)
    refine A5 ?_
    exact x3 Plain.mk' rfl rfl (Le.bool (decide_eq_decide.2 (by rw [va_eq];exact ⟨fun h=>⟨by omega,by omega,h46_3,h⟩,fun h=>h.2.2.2⟩)))
   ·
    refine A12 ?_
    exact x3 Plain.mk' rfl rfl (Le.bool (decide_eq_false (fun h=>h46_3 (va_eq.1 h).2.2.1)).symm)
  ·
   refine A18 ?_
   refine A3 ?_
   exact x3 Plain.mk' rfl rfl (Le.bool (decide_eq_false (fun h=>h46_2 (va_eq.1 h).2.1)).symm)
 ·
  refine A18 ?_
  refine A10 ?_
  exact x3 Plain.mk' rfl rfl (Le.bool (decide_eq_false (fun h=>h46 (by rw [h]))).symm)
instance fi4:FnI Tryz.prog 4:=⟨_,Tryz.func4,by kernel_rfl,rfl⟩
instance fi5:FnI Tryz.prog 5:=⟨_,Tryz.func5,by kernel_rfl,rfl⟩
instance fi6:FnI Tryz.prog 6:=⟨_,Tryz.func6,by kernel_rfl,rfl⟩
instance fi8:FnI Tryz.prog 8:=⟨_,Tryz.func8,by kernel_rfl,rfl⟩
instance fi9:FnI Tryz.prog 9:=⟨_,Tryz.func9,by kernel_rfl,rfl⟩
instance fi25:FnI Tryz.prog 25:=⟨_,Tryz.func25,by kernel_rfl,rfl⟩
instance fi26:FnI Tryz.prog 26:=⟨_,Tryz.func26,by kernel_rfl,rfl⟩
abbrev tFaK (f:Fa):Ty:=tS [⟨1,false,tSt f.key⟩,⟨1,false,tI f.lo⟩,⟨1,false,tI f.hi⟩,⟨1,false,tI f.kn⟩,⟨1,false,tB f.gone⟩,⟨6,true,tVaK f.v⟩]
theorem faK_le {f:Fa}:Le (tFaK f) (tFa f):=Le.tS ⟨⟨rfl,rfl,Le.refl⟩,⟨rfl,rfl,Le.refl⟩,⟨rfl,rfl,Le.refl⟩,⟨rfl,rfl,Le.refl⟩,⟨rfl,rfl,Le.refl⟩,⟨rfl,rfl,vaK_le⟩,trivial⟩
theorem c_R6Right (f:Fa) (hD:f.v.f.dig) (h1:f.v.f.n.l.length≤1048576) (h2:f.v.f.d.l.length≤1048576):
  Ct Tryz.prog 8 [tFa f] (tB (fRight f)):=by
 refine Ct.intro Tryz.func8 rfl Tryz.ntmps8 rfl ?_
 intro w F
 refine A11 ?_
 refine R1 (d_lenS Tryz.underlying9) rfl ?_
 refine A2 ?_
 refine RGcaseD (t:=7) rfl (fun h13=> ?_) (fun h13=> ?_)
 ·
  refine A18 ?_
  refine A18 ?_
  refine A6 ?_
  exact x3 Plain.mk' rfl rfl (Le.bool (by symm;rw [Bool.eq_false_iff];intro hr;simp only [fRight,Bool.and_eq_true,decide_eq_true_eq] at hr;first | omega | (simp_all;done) | (simp at*;omega)))
 ·
  refine A2 ?_
  refine RGon (decide_eq_false h13) rfl (d_lenS Tryz.underlying9) rfl ⟨rfl,trivial⟩ trivial trivial ?_
  refine A3 ?_
  refine RGcaseD (t:=13) rfl (fun h13_2=> ?_) (fun h13_2=> ?_)
  ·
   refine A18 ?_
   refine A18 ?_
   exact x3 Plain.mk' rfl rfl (Le.bool (by symm;rw [Bool.eq_false_iff];intro hr;simp only [fRight,Bool.and_eq_true,decide_eq_true_eq] at hr;first | omega | (simp_all;done) | (simp at*;omega)))
  ·
   refine A5 ?_
   refine RGcaseD (t:=18) rfl (fun h13_3=> ?_) (fun h13_3=> ?_)
   ·
    refine A18 ?_
    refine A13 ?_
    exact x3 Plain.mk' rfl rfl (Le.bool (by symm;rw [Bool.eq_false_iff];intro hr;simp only [fRight,Bool.and_eq_true,decide_eq_true_eq] at hr;first | omega | (simp_all;done) | (simp at*;omega)))
   ·
    refine A7 ?_
    refine RGcaseD (t:=25) rfl (fun h13_4=> ?_) (fun h13_4=> ?_)
    ·
     refine A18 ?_
     refine A6 ?_
     exact x3 Plain.mk' rfl rfl (Le.bool (by symm;rw [Bool.eq_false_iff];intro hr;simp only [fRight,Bool.and_eq_true,decide_eq_true_eq] at hr;first | omega | (simp_all;done) | (simp at*;omega)))
    ·
     refine A5 ?_
     refine RGcaseD (t:=30) rfl (fun h13_5=> ?_) (fun h13_5=> ?_)
     ·
      refine A18 ?_
      refine A1 ?_
      exact x3 Plain.mk' rfl rfl (Le.bool (by symm;rw [Bool.eq_false_iff];intro hr;simp only [fRight,Bool.and_eq_true,decide_eq_true_eq] at hr;first | omega | (simp_all;done) | (simp at*;omega)))
     ·
      refine A5 ?_
      refine RGcaseD (t:=35) rfl (fun h13_6=> ?_) (fun h13_6=> ?_)
      ·
       refine A14 ?_
       exact x3 Plain.mk' rfl rfl (Le.bool (by symm;rw [Bool.eq_false_iff];intro hr;simp only [fRight,Bool.and_eq_true,decide_eq_true_eq] at hr;first | omega | (simp_all;done) | (simp at*;omega)))
      ·
       refine A6 ?_
       refine x7 rfl (fun h13_7=> ?_) (fun h13_7=> ?_)
       ·
        refine A7 ?_
        exact x3 Plain.mk' rfl rfl (Le.bool (by symm;rw [Bool.eq_false_iff];intro hr;simp only [fRight,Bool.and_eq_true,decide_eq_true_eq] at hr;first | omega | (simp_all;done) | (simp at*;omega)))
       ·
        refine A9 ?_
        refine xd3 rfl (fun h16=> ?_) (fun h16=> ?_)
        ·
         refine A4 ?_
         refine R0 (xd7 (r:=tS [⟨1,false,(tE (.int .u8 0))⟩,⟨4,true,(tS [⟨2,true,(tS [⟨1,false,(tE (.bool false))⟩,⟨1,false,(tLm [])⟩])⟩,⟨2,true,(tS [⟨1,false,(tE (.bool false))⟩,⟨1,false,(tLm [])⟩])⟩])⟩,⟨1,false,(tE (.int .i64 0))⟩]) (ts:=[]) bu28 zr28.2 Le.refl) (R2 (x4 (c_R5Same f.v An.va0 h1 h2) fi25 rfl) rfl rfl ?_)
         refine A5 ?_
         exact x3 Plain.mk' rfl rfl (Le.bool (by rw [fRight];simp only [Bool.not_eq_false',Bool.and_eq_true,decide_eq_true_eq, *] at*;simp;omega))
        ·
         refine A6 ?_
         refine R1 (x4 (c_R5Valid f.v hD h1 h2) fi26 rfl) rfl ?_
         refine A4 ?_
         exact x3 Plain.mk' rfl rfl (Le.bool (by rw [fRight];simp only [Bool.not_eq_false',Bool.and_eq_true,decide_eq_true_eq, *] at*;simp;omega))
theorem c_FaRights (f:Fa) (hD:f.v.f.dig) (h1:f.v.f.n.l.length≤70368744177664) (h2:f.v.f.d.l.length≤70368744177664):
  Ct Tryz.prog 3 [tFa f] (tB true):=by
 refine Ct.intro Tryz.func3 rfl Tryz.ntmps3 rfl ?_
 intro w F
 refine A11 ?_
 refine xf7 (0) ti26 rfl rfl rfl (At.t (At.g 5 rfl rfl) (At.g 1 rfl rfl)) rfl (R1 (x4 (c_Limbs f.v.f (by omega) (by omega)) fi4 rfl) rfl ?_)
 refine A3 ?_
 refine x7 rfl (fun h85=> ?_) (fun h85=> ?_)
 ·
  refine A2 ?_
  refine R0 (x4 c_awake06 fi5 rfl) ?_
  refine A5 ?_
  exact x3 Plain.mk' rfl rfl Le.refl
 ·
  refine A5 ?_
  refine RE (xb0 (k:=3) (n:=11) (agg:=true) zr30.1 zr30.2 rfl) trivial trivial ⟨rfl,trivial⟩ ?_
  refine A7 ?_
  refine R1 (x4 (c_LentValue f.v (by omega) (by omega)) fi6 rfl) rfl ?_
  refine A1 ?_
  refine xg4 (0) ti28 rfl rfl rfl rfl (Up.g 5 rfl rfl rfl) rfl rfl ?_
  refine A3 ?_
  refine C_key (k:=3) (e':=⟨30,11,true,[.val (tFaK f)]⟩) rfl rfl ?_
  refine A2 ?_
  refine R1 (d_callL (ts:=[tFaK f]) (c_FRight f hD) fi7 rfl ⟨faK_le,trivial⟩) rfl ?_
  refine A1 ?_
  refine R1 (x4 (c_R6Right f hD (by omega) (by omega)) fi8 rfl) rfl ?_
  refine A2 ?_
  refine RGon (by simp) rfl (xd0 fo30_5.h rfl) rfl ⟨rfl,trivial⟩ trivial trivial (xb7 (by simp) rfl rfl (0) ti28 rfl rfl rfl (At.g 5 rfl rfl) rfl (RGon (by simp) rfl (xd0 fo30_5.h rfl) rfl ⟨rfl,trivial⟩ trivial trivial (xb7 (by simp) rfl rfl (0) ti28 rfl rfl rfl (At.g 5 rfl rfl) rfl (RGon (by simp) rfl (x4 (c_KeptValue f.v (by omega) (by omega)) fi9 rfl) rfl ⟨rfl,rfl,trivial⟩ trivial trivial (R2 (xh2 (by simp)) rfl rfl ?_)))))
  refine A1 ?_
  refine RGon rfl rfl (x4 c_awake06 fi5 rfl) rfl trivial trivial trivial ?_
  refine A5 ?_
  exact x3 Plain.mk' rfl rfl Le.refl
end An.S
namespace An.S
open Go Go.Proofs An
open Go.ChangeShapes Go.WideShapes Go.ChangeAt Go.RowKit
theorem own:ownKnob Tryz.prog.godebug=none:=by kernel_rfl
theorem laidOut:laidOutB Tryz.prog=true:=by kernel_rfl
theorem oBool:Opn Tryz.prog 4 1 false (fun b:Bool=>tB b) (fun _=>True):=Opn.bool Tryz.underlying4 (by kernel_rfl)
theorem oInt:Opn Tryz.prog 3 1 false (fun n:Int=>tI n) (fun n=>IntKind.i64.min≤n∧n≤IntKind.i64.max):=Opn.int Tryz.underlying3 (by kernel_rfl)
theorem oU16:Opn Tryz.prog 100 1 false (fun n:Nat=>tE (.int .u16 n)) (fun n=>n < 65536):=Opn.nat Tryz.underlying100 (by kernel_rfl) rfl rfl
theorem oU8:Opn Tryz.prog 5 1 false (fun n:Nat=>tE (.int .u8 n)) (fun n=>n < 256):=Opn.nat Tryz.underlying5 (by kernel_rfl) rfl rfl
theorem oLm:OpnW Tryz.prog 22 1 false (fun l:List Nat=>tLm l) (fun l=>Dig 65536 l∧l.length≤70368744177664):=(OpnW.slice (by_:=2) Tryz.underlying22 (by kernel_rfl) (by kernel_rfl) (OpnW.of oU16)).as id (fun _=>rfl) (fun l h=>⟨h.1,by have h2:l.length*2≤140737488351232:=h.2;show l.length≤_;omega⟩)
def whFits (x:Wh):Prop:=Dig 65536 x.l∧x.l.length≤70368744177664
def frFits (x:Fr):Prop:=whFits x.n∧whFits x.d
theorem oWh:OpnW Tryz.prog 24 2 true (fun x:Wh=>tWh x) whFits:=
 (OpnW.struct Tryz.underlying24 (by kernel_rfl) (by decide) (OpnWF.cons (OpnW.of oBool) rfl rfl (OpnWF.cons oLm rfl rfl OpnWF.nil rfl) rfl)).as (fun x=>⟨x.1,x.2.1⟩) (fun _=>rfl) (fun _ h=>h.2.1)
theorem oFr:OpnW Tryz.prog 26 4 true (fun x:Fr=>tFr x) frFits:=
 (OpnW.struct Tryz.underlying26 (by kernel_rfl) (by decide) (OpnWF.cons oWh rfl rfl (OpnWF.cons oWh rfl rfl OpnWF.nil rfl) rfl)).as (fun x=>⟨x.1,x.2.1⟩) (fun _=>rfl) (fun _ h=>⟨h.1,h.2.1⟩)
theorem oVa:OpnW Tryz.prog 28 6 true (fun x:Va=>tVa x) (fun x=>frFits x.f):=
 (OpnW.struct Tryz.underlying28 (by kernel_rfl) (by decide) (OpnWF.cons (OpnW.of oU8) rfl rfl (OpnWF.cons oFr rfl rfl (OpnWF.cons (OpnW.of oInt) rfl rfl OpnWF.nil rfl) rfl) rfl)).as (fun x=>⟨x.1,x.2.1,x.2.2.1⟩) (fun _=>rfl) (fun _ h=>h.2.1)
theorem _root_.An.Opn.str {P:Program} {T:Nat} (ht:P.underlying T=some .string) (hc:P.cellsOf T=1):Opn P T 1 false (fun s:ByteArray=>tE (.string s)) (fun _=>True) where
 size:=hc
 pos:=by decide
 one:=fun _=>rfl
 go:=fun h=>by
  obtain ⟨s,rfl,_⟩:=DataW.trod_string ht h
  exact ⟨rfl,s,trivial,rfl⟩
theorem oStr:Opn Tryz.prog 9 1 false (fun s:ByteArray=>tSt s) (fun _=>True):=Opn.str Tryz.underlying9 (by kernel_rfl)
theorem oFa:OpnW Tryz.prog 30 11 true (fun x:Fa=>tFa x) (fun x=>frFits x.v.f):=
 (OpnW.struct Tryz.underlying30 (by kernel_rfl) (by decide) (OpnWF.cons (OpnW.of oStr) rfl rfl (OpnWF.cons (OpnW.of oInt) rfl rfl (OpnWF.cons (OpnW.of oInt) rfl rfl (OpnWF.cons (OpnW.of oInt) rfl rfl (OpnWF.cons (OpnW.of oBool) rfl rfl (OpnWF.cons oVa rfl rfl OpnWF.nil rfl) rfl) rfl) rfl) rfl) rfl)).as (fun x=>⟨x.1,x.2.1,x.2.2.1,x.2.2.2.1,x.2.2.2.2.1,x.2.2.2.2.2.1⟩) (fun _=>rfl) (fun _ h=>h.2.2.2.2.2.1)
theorem walked {f:FuncId} {ts:List Ty} (h:Ct Tryz.prog f ts (tB true)) {vs:List Value} {W:World} (ha:Tup.all (Old W) W ts vs):Calls Tryz.prog f vs.toArray W fun e W'=>e= .returned (.bool true)∧Ext W W':=
 (h (Old W) W vs ha).mono fun e W' ⟨v,h1,h2,h3⟩=>by
  have h3:v= .bool true:=h3
  subst h3;exact ⟨h1,h2⟩
abbrev laidL : List (String × DataW Unit) := [("math/bits.deBruijn32tab", Go.Proofs.YtobjfhagbkjegaaGreatDoor.Rows.laid_math_bits_deBruijn32tab), ("math/bits.deBruijn64tab", Go.Proofs.YtobjfhagbkjegaaGreatDoor.Rows.laid_math_bits_deBruijn64tab), ("internal/strconv.uint64pow10", Go.Proofs.YtobjfhagbkjegaaGreatDoor.Rows.laid_internal_strconv_uint64pow10)]
noncomputable def withCells (cs:Array Value):Obj→Obj
  | .cells _ t frozen=> .cells cs t frozen
  | o=>o
noncomputable def laidWorld (os:Os):World:=
  let w0:=World.holding Tryz.prog os ⟨#[],#[],[]⟩
  {w0 with heap:=((w0.heap.modify 0 (withCells #[.int .u64 1,.int .u64 10,.int .u64 100,.int .u64 1000,.int .u64 10000,.int .u64 100000,.int .u64 1000000,.int .u64 10000000,.int .u64 100000000,.int .u64 1000000000,.int .u64 10000000000,.int .u64 100000000000,.int .u64 1000000000000,.int .u64 10000000000000,.int .u64 100000000000000,.int .u64 1000000000000000,.int .u64 10000000000000000,.int .u64 100000000000000000,.int .u64 1000000000000000000,.int .u64 10000000000000000000])).modify 1 (withCells #[.int .u8 0,.int .u8 1,.int .u8 28,.int .u8 2,.int .u8 29,.int .u8 14,.int .u8 24,.int .u8 3,.int .u8 30,.int .u8 22,.int .u8 20,.int .u8 15,.int .u8 25,.int .u8 17,.int .u8 4,.int .u8 8,.int .u8 31,.int .u8 27,.int .u8 13,.int .u8 23,.int .u8 21,.int .u8 19,.int .u8 16,.int .u8 7,.int .u8 26,.int .u8 12,.int .u8 18,.int .u8 6,.int .u8 11,.int .u8 5,.int .u8 10,.int .u8 9])).modify 2 (withCells #[.int .u8 0,.int .u8 1,.int .u8 56,.int .u8 2,.int .u8 57,.int .u8 49,.int .u8 28,.int .u8 3,.int .u8 61,.int .u8 58,.int .u8 42,.int .u8 50,.int .u8 38,.int .u8 29,.int .u8 17,.int .u8 4,.int .u8 62,.int .u8 47,.int .u8 59,.int .u8 36,.int .u8 45,.int .u8 43,.int .u8 51,.int .u8 22,.int .u8 53,.int .u8 39,.int .u8 33,.int .u8 30,.int .u8 24,.int .u8 18,.int .u8 12,.int .u8 5,.int .u8 63,.int .u8 55,.int .u8 48,.int .u8 27,.int .u8 60,.int .u8 41,.int .u8 37,.int .u8 16,.int .u8 46,.int .u8 35,.int .u8 44,.int .u8 21,.int .u8 52,.int .u8 32,.int .u8 23,.int .u8 11,.int .u8 54,.int .u8 26,.int .u8 40,.int .u8 15,.int .u8 34,.int .u8 20,.int .u8 31,.int .u8 10,.int .u8 25,.int .u8 14,.int .u8 19,.int .u8 9,.int .u8 13,.int .u8 8,.int .u8 7,.int .u8 6])}
theorem laidWorld_met (os:Os) (args:Array Value):laidMetH Tryz.prog laidL ((laidWorld os).forCall (fun _ _=>0) ⟨#[],args,[]⟩).memory:=by
 show laidMet Tryz.prog laidL _
 exact laidMet_of_run' 8 (by kernel_rfl) (by kernel_rfl)
end An.S
