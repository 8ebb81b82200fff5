/- Part 5 of a proof: V17, V18, V19, U20, Ref4, U34, X1, X2, X3, LibLx, X4, Y0, R5, Y1, X5, Y2, Svc, S12, S13, X6, LibAp, Z1, LibAq, Z2, LibAr, LibAs. -/
import Derived.Test.YtdcbapghcmhgkaaGreatT4
/- The reference of layer 1: sums, differences. -/
namespace An.S
open Go Go.Proofs An
set_option maxHeartbeats 2000000
theorem c_RPlus (a b:Nat) (ha:(dig 65536 a).length≤100000) (hb:(dig 65536 b).length≤100000):
  Ct Tryz.prog 208 [tM a,tM b] (tM (a+b)):=by
 have hab:=len_dbl ha hb
 refine Ct.intro Tryz.func208 rfl Tryz.ntmps208 rfl ?_
 intro w F
 refine A7 ?_
 refine RE (xd3 (k:=5) 42 1 false rfl (fun _=>rfl)) trivial trivial ⟨rfl,trivial⟩ ?_
 refine A9 ?_
 refine A5 ?_
 refine cL (fun (fm:(Nat)×(Nat)×(List Nat))=>(fun (i:Nat) (n:Nat) (cs:List Nat)=>i≤(dig 65536 (a+b)).length∧n=(a%65536 ^ i+b%65536 ^ i) / 65536 ^ i∧cs=dgs 65536 i (a+b)) fm.1 fm.2.1 fm.2.2) (fun (fm:(Nat)×(Nat)×(List Nat))=>(fun (i:Nat) (n:Nat) (cs:List Nat)=>upd (upd (upd (upd (upd (fun _=>none) 0 (some (.val (tM a)))) 1 (some (.val (tM b)))) 5 (some (.own (.sl 5 1 0 cs.length)))) 7 (some (.val (tI i)))) 6 (some (.val (tI n)))) fm.1 fm.2.1 fm.2.2) (fun (fm:(Nat)×(Nat)×(List Nat))=>(fun (i:Nat) (n:Nat) (cs:List Nat)=>upd (fun _=>none) 5 (some (⟨42,1,false,rW .u16 cs⟩))) fm.1 fm.2.1 fm.2.2) [5] (fun (fm:(Nat)×(Nat)×(List Nat))=>(fun (i:Nat) (n:Nat) (cs:List Nat)=>(dig 65536 (a+b)).length - i) fm.1 fm.2.1 fm.2.2) ((0,0,[])) (by dsimp only;exact ⟨Nat.zero_le _,by simp [Nat.mod_one],rfl⟩) (hh:=((SubK.consI rfl ImpK.refl) SubK.nil)) ?_
 intro fm hI
 obtain ⟨i,n,cs⟩:=fm
 replace hI:i≤(dig 65536 (a+b)).length∧n=(a%65536 ^ i+b%65536 ^ i) / 65536 ^ i∧cs=dgs 65536 i (a+b):=hI
 show wc _ _ _ _ (upd (upd (upd (upd (upd (fun _=>none) 0 (some (.val (tM a)))) 1 (some (.val (tM b)))) 5 (some (.own (.sl 5 1 0 cs.length)))) 7 (some (.val (tI i)))) 6 (some (.val (tI n)))) (upd (fun _=>none) 5 (some (⟨42,1,false,rW .u16 cs⟩))) _
 obtain ⟨hi,hn,hcs⟩:=hI
 have hcl:cs.length=i:=by rw [hcs,xg4]
 have hn1:=rplus_small hn
 have xa:=xc4 x7 a i
 have xb:=xc4 x7 b i
 have xa1:=(xc3 x7 a).getD (by decide) i
 have xb1:=(xc3 x7 b).getD (by decide) i
 refine A8 ?_
 refine RGcaseD (t:=12) rfl (fun h35=> ?_) (fun h35=> ?_)
 ·
  have hmore:=rplus_more hn (.inl (by omega))
  refine A9 ?_
  refine A7 ?_
  refine xh2 (fun (m1:Nat)=>m1=(n+a / 65536 ^ i%65536)) (fun (m1:Nat)=>upd (upd (upd (upd (upd (fun _=>none) 0 (some (.val (tM a)))) 1 (some (.val (tM b)))) 5 (some (.own (.sl 5 1 0 cs.length)))) 7 (some (.val (tI i)))) 6 (some (.val (tI m1)))) (fun (m1:Nat)=>upd (fun _=>none) 5 (some (⟨42,1,false,rW .u16 cs⟩))) (nm [5]) ?_ ?_
  ·
   refine A8 ?_
   refine x9 rfl (fun h36=> ?_) (fun h36=> ?_)
   ·
    refine A4 ?_
    refine R2 (x6 sl26 (i) (by omega) (gN (by omega))) rfl rfl ?_
    refine A1 ?_
    refine R1 (x8 Tryz.underlying3 (isS Tryz.underlying42) (wr64 (by omega) (by omega))) rfl (R2 (xd4 (r:=((n+(dig 65536 a).getD i 0:Nat):Int)) (by rw [wr64 (by omega) (by omega)];omega)) rfl rfl ?_)
    refine A2 ?_
    exact kF (n+(dig 65536 a).getD i 0) (by rw [xa]) (hh:=((SubK.consI rfl ImpK.refl) SubK.nil))
   ·
    refine A1 ?_
    exact kF (n) (by rw [dig_out x7 (by omega),Nat.add_zero]) (hh:=((SubK.consI rfl ImpK.refl) SubK.nil))
  ·
   intro m1 hm1
   refine xh2 (fun (m2:Nat)=>m2=(m1+b / 65536 ^ i%65536)) (fun (m2:Nat)=>upd (upd (upd (upd (upd (fun _=>none) 0 (some (.val (tM a)))) 1 (some (.val (tM b)))) 5 (some (.own (.sl 5 1 0 cs.length)))) 7 (some (.val (tI i)))) 6 (some (.val (tI m2)))) (fun (m2:Nat)=>upd (fun _=>none) 5 (some (⟨42,1,false,rW .u16 cs⟩))) (nm [5]) ?_ ?_
   ·
    refine A8 ?_
    refine x9 rfl (fun h39=> ?_) (fun h39=> ?_)
    ·
     refine A4 ?_
     refine R2 (x6 sl26 (i) (by omega) (gN (by omega))) rfl rfl ?_
     refine A1 ?_
     refine R1 (x8 Tryz.underlying3 (isS Tryz.underlying42) (wr64 (by omega) (by omega))) rfl (R2 (xd4 (r:=((m1+(dig 65536 b).getD i 0:Nat):Int)) (by rw [wr64 (by omega) (by omega)];omega)) rfl rfl ?_)
     refine A2 ?_
     exact kF (m1+(dig 65536 b).getD i 0) (by rw [xb]) (hh:=((SubK.consI rfl ImpK.refl) SubK.nil))
    ·
     refine A1 ?_
     exact kF (m1) (by rw [dig_out x7 (by omega),Nat.add_zero]) (hh:=((SubK.consI rfl ImpK.refl) SubK.nil))
   ·
    intro m2 hm2
    refine A4 ?_
    refine R2 (d_rem (r:=((m2%65536:Nat):Int)) (by decide) (wrem64 (b:=65536))) rfl rfl (R1 (x8 Tryz.underlying42 (isS Tryz.underlying3) (wu16 (by omega) (by omega))) rfl (R1 (d_nums (n:=1) [m2%65536] Tryz.underlying26 el42 zf42 rfl rfl rfl) rfl (RE (xc1 (k:=5) (k':=51) (ts':=rW .u16 (cs++[m2%65536])) Tryz.underlying26 el42 zf42 rfl rfl (fun _=>inferInstance) rW_len (by simp;omega) (by simp;omega) (by simp [rW]) (n':=cs.length+1) rfl) ⟨rfl,rfl,trivial⟩ ⟨rfl,trivial⟩ ⟨rfl,trivial⟩ ?_)))
    refine A5 ?_
    refine R2 (d_quo (r:=((m2 / 65536:Nat):Int)) (by decide) (iquo64 (b:=65536) (by omega))) rfl rfl ?_
    refine A9 ?_
    obtain ⟨n1,n2⟩:=rplus_in (s:=m2) hn (by rw [hm2,hm1])
    exact xe6 (l:=[5]) (fun j=>cond (Nat.beq j 5) 51 (j)) ((i+1,m2 / 65536,cs++[m2%65536])) ⟨(by dsimp only;exact ⟨hmore,n2,by rw [hcs];exact n1⟩),(by dsimp only;omega)⟩ (SubR.int rfl (by first | omega | rfl | (dsimp only;omega)) (SubR.int rfl (by first | omega | rfl | (dsimp only;omega)) ((SubR.consI rfl (Imp.of (by dsimp only;rw [List.length_append];rfl))) (SubR.cons rfl (SubR.cons rfl SubR.nil))))) ((SubKR.consI rfl (ImpK.of xg9.symm)) SubKR.nil) (SupG.val (SupG.val (SupG.own rfl (SupG.val (SupG.val SupG.nil))))) (SupH.cons rfl (supJ xf2) SupH.nil) (lkOk rfl) rfl rfl (fun _ h=>by cases h)
 ·
  refine A6 ?_
  refine RGcaseD (t:=18) rfl (fun h35_2=> ?_) (fun h35_2=> ?_)
  ·
   have hmore:=rplus_more hn (.inr (.inl (by omega)))
   refine A9 ?_
   refine A1 ?_
   refine xh2 (fun (m1:Nat)=>m1=(n+a / 65536 ^ i%65536)) (fun (m1:Nat)=>upd (upd (upd (upd (upd (fun _=>none) 0 (some (.val (tM a)))) 1 (some (.val (tM b)))) 5 (some (.own (.sl 5 1 0 cs.length)))) 7 (some (.val (tI i)))) 6 (some (.val (tI m1)))) (fun (m1:Nat)=>upd (fun _=>none) 5 (some (⟨42,1,false,rW .u16 cs⟩))) (nm [5]) ?_ ?_
   ·
    refine A8 ?_
    refine x9 rfl (fun h36=> ?_) (fun h36=> ?_)
    ·
     refine A4 ?_
     refine R2 (x6 sl26 (i) (by omega) (gN (by omega))) rfl rfl ?_
     refine A1 ?_
     refine R1 (x8 Tryz.underlying3 (isS Tryz.underlying42) (wr64 (by omega) (by omega))) rfl (R2 (xd4 (r:=((n+(dig 65536 a).getD i 0:Nat):Int)) (by rw [wr64 (by omega) (by omega)];omega)) rfl rfl ?_)
     refine A2 ?_
     exact kF (n+(dig 65536 a).getD i 0) (by rw [xa]) (hh:=((SubK.consI rfl ImpK.refl) SubK.nil))
    ·
     refine A1 ?_
     exact kF (n) (by rw [dig_out x7 (by omega),Nat.add_zero]) (hh:=((SubK.consI rfl ImpK.refl) SubK.nil))
   ·
    intro m1 hm1
    refine xh2 (fun (m2:Nat)=>m2=(m1+b / 65536 ^ i%65536)) (fun (m2:Nat)=>upd (upd (upd (upd (upd (fun _=>none) 0 (some (.val (tM a)))) 1 (some (.val (tM b)))) 5 (some (.own (.sl 5 1 0 cs.length)))) 7 (some (.val (tI i)))) 6 (some (.val (tI m2)))) (fun (m2:Nat)=>upd (fun _=>none) 5 (some (⟨42,1,false,rW .u16 cs⟩))) (nm [5]) ?_ ?_
    ·
     refine A8 ?_
     refine x9 rfl (fun h39=> ?_) (fun h39=> ?_)
     ·
      refine A4 ?_
      refine R2 (x6 sl26 (i) (by omega) (gN (by omega))) rfl rfl ?_
      refine A1 ?_
      refine R1 (x8 Tryz.underlying3 (isS Tryz.underlying42) (wr64 (by omega) (by omega))) rfl (R2 (xd4 (r:=((m1+(dig 65536 b).getD i 0:Nat):Int)) (by rw [wr64 (by omega) (by omega)];omega)) rfl rfl ?_)
      refine A2 ?_
      exact kF (m1+(dig 65536 b).getD i 0) (by rw [xb]) (hh:=((SubK.consI rfl ImpK.refl) SubK.nil))
     ·
      refine A1 ?_
      exact kF (m1) (by rw [dig_out x7 (by omega),Nat.add_zero]) (hh:=((SubK.consI rfl ImpK.refl) SubK.nil))
    ·
     intro m2 hm2
     refine A4 ?_
     refine R2 (d_rem (r:=((m2%65536:Nat):Int)) (by decide) (wrem64 (b:=65536))) rfl rfl (R1 (x8 Tryz.underlying42 (isS Tryz.underlying3) (wu16 (by omega) (by omega))) rfl (R1 (d_nums (n:=1) [m2%65536] Tryz.underlying26 el42 zf42 rfl rfl rfl) rfl (RE (xc1 (k:=5) (k':=51) (ts':=rW .u16 (cs++[m2%65536])) Tryz.underlying26 el42 zf42 rfl rfl (fun _=>inferInstance) rW_len (by simp;omega) (by simp;omega) (by simp [rW]) (n':=cs.length+1) rfl) ⟨rfl,rfl,trivial⟩ ⟨rfl,trivial⟩ ⟨rfl,trivial⟩ ?_)))
     refine A5 ?_
     refine R2 (d_quo (r:=((m2 / 65536:Nat):Int)) (by decide) (iquo64 (b:=65536) (by omega))) rfl rfl ?_
     refine A9 ?_
     obtain ⟨n1,n2⟩:=rplus_in (s:=m2) hn (by rw [hm2,hm1])
     exact xe6 (l:=[5]) (fun j=>cond (Nat.beq j 5) 51 (j)) ((i+1,m2 / 65536,cs++[m2%65536])) ⟨(by dsimp only;exact ⟨hmore,n2,by rw [hcs];exact n1⟩),(by dsimp only;omega)⟩ (SubR.int rfl (by first | omega | rfl | (dsimp only;omega)) (SubR.int rfl (by first | omega | rfl | (dsimp only;omega)) ((SubR.consI rfl (Imp.of (by dsimp only;rw [List.length_append];rfl))) (SubR.cons rfl (SubR.cons rfl SubR.nil))))) ((SubKR.consI rfl (ImpK.of xg9.symm)) SubKR.nil) (SupG.val (SupG.val (SupG.own rfl (SupG.val (SupG.val SupG.nil))))) (SupH.cons rfl (supJ xf2) SupH.nil) (lkOk rfl) rfl rfl (fun _ h=>by cases h)
  ·
   refine A5 ?_
   refine x9 rfl (fun h35_3=> ?_) (fun h35_3=> ?_)
   ·
    have hmore:=rplus_more hn (.inr (.inr (by omega)))
    refine A4 ?_
    refine xh2 (fun (m1:Nat)=>m1=(n+a / 65536 ^ i%65536)) (fun (m1:Nat)=>upd (upd (upd (upd (upd (fun _=>none) 0 (some (.val (tM a)))) 1 (some (.val (tM b)))) 5 (some (.own (.sl 5 1 0 cs.length)))) 7 (some (.val (tI i)))) 6 (some (.val (tI m1)))) (fun (m1:Nat)=>upd (fun _=>none) 5 (some (⟨42,1,false,rW .u16 cs⟩))) (nm [5]) ?_ ?_
    ·
     refine A8 ?_
     refine x9 rfl (fun h36=> ?_) (fun h36=> ?_)
     ·
      refine A4 ?_
      refine R2 (x6 sl26 (i) (by omega) (gN (by omega))) rfl rfl ?_
      refine A1 ?_
      refine R1 (x8 Tryz.underlying3 (isS Tryz.underlying42) (wr64 (by omega) (by omega))) rfl (R2 (xd4 (r:=((n+(dig 65536 a).getD i 0:Nat):Int)) (by rw [wr64 (by omega) (by omega)];omega)) rfl rfl ?_)
      refine A2 ?_
      exact kF (n+(dig 65536 a).getD i 0) (by rw [xa]) (hh:=((SubK.consI rfl ImpK.refl) SubK.nil))
     ·
      refine A1 ?_
      exact kF (n) (by rw [dig_out x7 (by omega),Nat.add_zero]) (hh:=((SubK.consI rfl ImpK.refl) SubK.nil))
    ·
     intro m1 hm1
     refine xh2 (fun (m2:Nat)=>m2=(m1+b / 65536 ^ i%65536)) (fun (m2:Nat)=>upd (upd (upd (upd (upd (fun _=>none) 0 (some (.val (tM a)))) 1 (some (.val (tM b)))) 5 (some (.own (.sl 5 1 0 cs.length)))) 7 (some (.val (tI i)))) 6 (some (.val (tI m2)))) (fun (m2:Nat)=>upd (fun _=>none) 5 (some (⟨42,1,false,rW .u16 cs⟩))) (nm [5]) ?_ ?_
     ·
      refine A8 ?_
      refine x9 rfl (fun h39=> ?_) (fun h39=> ?_)
      ·
       refine A4 ?_
       refine R2 (x6 sl26 (i) (by omega) (gN (by omega))) rfl rfl ?_
       refine A1 ?_
       refine R1 (x8 Tryz.underlying3 (isS Tryz.underlying42) (wr64 (by omega) (by omega))) rfl (R2 (xd4 (r:=((m1+(dig 65536 b).getD i 0:Nat):Int)) (by rw [wr64 (by omega) (by omega)];omega)) rfl rfl ?_)
       refine A2 ?_
       exact kF (m1+(dig 65536 b).getD i 0) (by rw [xb]) (hh:=((SubK.consI rfl ImpK.refl) SubK.nil))
      ·
       refine A1 ?_
       exact kF (m1) (by rw [dig_out x7 (by omega),Nat.add_zero]) (hh:=((SubK.consI rfl ImpK.refl) SubK.nil))
     ·
      intro m2 hm2
      refine A4 ?_
      refine R2 (d_rem (r:=((m2%65536:Nat):Int)) (by decide) (wrem64 (b:=65536))) rfl rfl (R1 (x8 Tryz.underlying42 (isS Tryz.underlying3) (wu16 (by omega) (by omega))) rfl (R1 (d_nums (n:=1) [m2%65536] Tryz.underlying26 el42 zf42 rfl rfl rfl) rfl (RE (xc1 (k:=5) (k':=51) (ts':=rW .u16 (cs++[m2%65536])) Tryz.underlying26 el42 zf42 rfl rfl (fun _=>inferInstance) rW_len (by simp;omega) (by simp;omega) (by simp [rW]) (n':=cs.length+1) rfl) ⟨rfl,rfl,trivial⟩ ⟨rfl,trivial⟩ ⟨rfl,trivial⟩ ?_)))
      refine A5 ?_
      refine R2 (d_quo (r:=((m2 / 65536:Nat):Int)) (by decide) (iquo64 (b:=65536) (by omega))) rfl rfl ?_
      refine A9 ?_
      obtain ⟨n1,n2⟩:=rplus_in (s:=m2) hn (by rw [hm2,hm1])
      exact xe6 (l:=[5]) (fun j=>cond (Nat.beq j 5) 51 (j)) ((i+1,m2 / 65536,cs++[m2%65536])) ⟨(by dsimp only;exact ⟨hmore,n2,by rw [hcs];exact n1⟩),(by dsimp only;omega)⟩ (SubR.int rfl (by first | omega | rfl | (dsimp only;omega)) (SubR.int rfl (by first | omega | rfl | (dsimp only;omega)) ((SubR.consI rfl (Imp.of (by dsimp only;rw [List.length_append];rfl))) (SubR.cons rfl (SubR.cons rfl SubR.nil))))) ((SubKR.consI rfl (ImpK.of xg9.symm)) SubKR.nil) (SupG.val (SupG.val (SupG.own rfl (SupG.val (SupG.val SupG.nil))))) (SupH.cons rfl (supJ xf2) SupH.nil) (lkOk rfl) rfl rfl (fun _ h=>by cases h)
   ·
    refine A7 ?_
    refine RE (xg0 (f:=fun n:Nat=>tE (.int .u16 n)) (xs:=cs) (fun _ h=>h) (rW_all rfl) rfl) ⟨rfl,trivial⟩ ⟨rfl,trivial⟩ trivial ?_
    refine A4 ?_
    exact x4 Plain.mk' rfl rfl (Le.of (congrArg tLm (by rw [hcs,rplus_end hn (by omega) (by omega) (by omega) hi])))
end An.S

/- The reference of layer 1: differences, halves, quotients. -/
namespace An.S
open Go Go.Proofs An
set_option maxHeartbeats 2000000
instance fi203:FnI Tryz.prog 203:=⟨_,Tryz.func203,by kernel_rfl,rfl⟩
theorem c_RMinus (a b:Nat) (hab:b≤a) (ha:(dig 65536 a).length≤100000):
  Ct Tryz.prog 209 [tM a,tM b] (tM (a - b)):=by
 refine Ct.intro Tryz.func209 rfl Tryz.ntmps209 rfl ?_
 intro w F
 refine A7 ?_
 refine RE (xd3 (k:=5) 42 1 false rfl (fun _=>rfl)) trivial trivial ⟨rfl,trivial⟩ ?_
 refine A9 ?_
 refine A5 ?_
 refine cL (fun (fm:(Nat)×(Nat)×(List Nat))=>(fun (i:Nat) (br:Nat) (cs:List Nat)=>i≤(dig 65536 a).length∧cs.length=i∧Dig 65536 cs∧val 65536 cs+b%65536 ^ i=a%65536 ^ i+br*65536 ^ i∧br≤1) fm.1 fm.2.1 fm.2.2) (fun (fm:(Nat)×(Nat)×(List Nat))=>(fun (i:Nat) (br:Nat) (cs:List Nat)=>upd (upd (upd (upd (upd (fun _=>none) 0 (some (.val (tM a)))) 1 (some (.val (tM b)))) 5 (some (.own (.sl 5 1 0 cs.length)))) 6 (some (.val (tI br)))) 7 (some (.val (tI i)))) fm.1 fm.2.1 fm.2.2) (fun (fm:(Nat)×(Nat)×(List Nat))=>(fun (i:Nat) (br:Nat) (cs:List Nat)=>upd (fun _=>none) 5 (some (⟨42,1,false,rW .u16 cs⟩))) fm.1 fm.2.1 fm.2.2) [5] (fun (fm:(Nat)×(Nat)×(List Nat))=>(fun (i:Nat) (br:Nat) (cs:List Nat)=>(dig 65536 a).length - i) fm.1 fm.2.1 fm.2.2) ((0,0,[])) (by dsimp only;exact ⟨Nat.zero_le _,rfl,Dig.nil _,by simp [val,Nat.mod_one],by omega⟩) (hh:=((SubK.consI rfl ImpK.refl) SubK.nil)) ?_
 intro fm hI
 obtain ⟨i,br,cs⟩:=fm
 replace hI:i≤(dig 65536 a).length∧cs.length=i∧Dig 65536 cs∧val 65536 cs+b%65536 ^ i=a%65536 ^ i+br*65536 ^ i∧br≤1:=hI
 show wc _ _ _ _ (upd (upd (upd (upd (upd (fun _=>none) 0 (some (.val (tM a)))) 1 (some (.val (tM b)))) 5 (some (.own (.sl 5 1 0 cs.length)))) 6 (some (.val (tI br)))) 7 (some (.val (tI i)))) (upd (fun _=>none) 5 (some (⟨42,1,false,rW .u16 cs⟩))) _
 obtain ⟨hi,hl,hD,hv,hbr⟩:=hI
 have xa:=xc4 x7 a i
 have xb:=xc4 x7 b i
 have xa1:=(xc3 x7 a).getD (by decide) i
 have xb1:=(xc3 x7 b).getD (by decide) i
 refine A9 ?_
 refine x9 rfl (fun h52=> ?_) (fun h52=> ?_)
 ·
  refine A8 ?_
  refine R2 (x6 sl26 (i) (by omega) (gN (by omega))) rfl rfl ?_
  refine A1 ?_
  refine R1 (x8 Tryz.underlying3 (isS Tryz.underlying42) (wr64 (by omega) (by omega))) rfl (R2 (xd4 (r:=((65536+((dig 65536 a).getD i 0):Nat):Int)) (by rw [wr64 (by omega) (by omega)];omega)) rfl rfl ?_)
  refine A1 ?_
  refine R2 (xe4 (r:=((65536+((dig 65536 a).getD i 0) - br:Nat):Int)) (by rw [wr64 (by omega) (by omega)];omega)) rfl rfl ?_
  refine A3 ?_
  refine xh2 (fun (m:Nat)=>m+br+b / 65536 ^ i%65536=65536+a / 65536 ^ i%65536) (fun (m:Nat)=>upd (upd (upd (upd (upd (upd (fun _=>none) 0 (some (.val (tM a)))) 1 (some (.val (tM b)))) 5 (some (.own (.sl 5 1 0 cs.length)))) 6 (some (.val (tI br)))) 7 (some (.val (tI i)))) 8 (some (.val (tI m)))) (fun (m:Nat)=>upd (fun _=>none) 5 (some (⟨42,1,false,rW .u16 cs⟩))) (nm [5]) ?_ ?_
  ·
   refine A8 ?_
   refine x9 rfl (fun h54=> ?_) (fun h54=> ?_)
   ·
    refine A4 ?_
    refine R2 (x6 sl26 (i) (by omega) (gN (by omega))) rfl rfl ?_
    refine A1 ?_
    refine R1 (x8 Tryz.underlying3 (isS Tryz.underlying42) (wr64 (by omega) (by omega))) rfl (R2 (xe4 (r:=((65536+((dig 65536 a).getD i 0) - br - ((dig 65536 b).getD i 0):Nat):Int)) (by rw [wr64 (by omega) (by omega)];omega)) rfl rfl ?_)
    refine A2 ?_
    exact kF (65536+((dig 65536 a).getD i 0) - br - ((dig 65536 b).getD i 0)) (by omega) (hh:=((SubK.consI rfl ImpK.refl) SubK.nil))
   ·
    refine A1 ?_
    exact kF (65536+((dig 65536 a).getD i 0) - br) (by rw [dig_out x7 (v:=b) (i:=i) (by omega)];omega) (hh:=((SubK.consI rfl ImpK.refl) SubK.nil))
  ·
   intro m hm
   refine A4 ?_
   refine R2 (d_rem (r:=((m%65536:Nat):Int)) (by decide) (wrem64 (b:=65536))) rfl rfl (R1 (x8 Tryz.underlying42 (isS Tryz.underlying3) (wu16 (by omega) (by omega))) rfl (R1 (d_nums (n:=1) [m%65536] Tryz.underlying26 el42 zf42 rfl rfl rfl) rfl (RE (xc1 (k:=5) (k':=39) (ts':=rW .u16 (cs++[m%65536])) Tryz.underlying26 el42 zf42 rfl rfl (fun _=>inferInstance) rW_len (by simp;omega) (by simp;omega) (by simp [rW]) (n':=cs.length+1) rfl) ⟨rfl,rfl,trivial⟩ ⟨rfl,trivial⟩ ⟨rfl,trivial⟩ ?_)))
   refine A5 ?_
   refine R2 (d_quo (r:=((m / 65536:Nat):Int)) (by decide) (iquo64 (b:=65536) (by omega))) rfl rfl (R2 (xe4 (r:=((1 - m / 65536:Nat):Int)) (by rw [wr64 (by omega) (by omega)];omega)) rfl rfl ?_)
   refine A9 ?_
   obtain ⟨n1,n2,n3⟩:=rminus_in hl hv hbr hm
   exact xe6 (l:=[5]) (fun j=>cond (Nat.beq j 5) 39 (j)) ((i+1,1 - m / 65536,cs++[m%65536])) ⟨(by dsimp only;exact ⟨by omega,by rw [List.length_append,hl];rfl,hD.append (Dig.cons (Nat.mod_lt _ (by decide)) (Dig.nil _)),n1,n3⟩),(by dsimp only;omega)⟩ (SubR.int rfl (by first | omega | rfl | (dsimp only;omega)) (SubR.int rfl (by first | omega | rfl | (dsimp only;omega)) ((SubR.consI rfl (Imp.of (by dsimp only;rw [List.length_append];rfl))) (SubR.cons rfl (SubR.cons rfl SubR.nil))))) ((SubKR.consI rfl (ImpK.of xg9.symm)) SubKR.nil) (SupG.val (SupG.val (SupG.own rfl (SupG.val (SupG.val SupG.nil))))) (SupH.cons rfl (supJ xf2) SupH.nil) (lkOk rfl) rfl rfl (fun _ h=>by cases h)
 ·
  refine A7 ?_
  refine RE (xg0 (f:=fun n:Nat=>tE (.int .u16 n)) (xs:=cs) (fun _ h=>h) (rW_all rfl) rfl) ⟨rfl,trivial⟩ ⟨rfl,trivial⟩ trivial (R1 (x3 (c_RTrim _) fi235 rfl) rfl ?_)
  refine A4 ?_
  exact x4 Plain.mk' rfl rfl (Le.of (congrArg tLm (by rw [show i=(dig 65536 a).length by omega] at hv hl;exact rminus_end hl hD (xh0 x7 a) hab hv)))
theorem c_RHalf (a:Nat) (ha:(dig 65536 a).length≤200000):
  Ct Tryz.prog 232 [tM a] (tM (a / 2)):=by
 refine Ct.intro Tryz.func232 rfl Tryz.ntmps232 rfl ?_
 intro w F
 refine A9 ?_
 refine RE (xg8 (k:=8) (t:=tE (.int .u16 0)) (ts:=rW .u16 (List.replicate ((dig 65536 a).length) 0)) ((dig 65536 a).length) ((dig 65536 a).length) Tryz.underlying26 el42 (fun _ _=>rfl) rfl (by omega) (by omega) (Nat.le_refl _) (by omega) (by omega) (rW_rep _)) ⟨rfl,rfl,trivial⟩ trivial ⟨rfl,trivial⟩ ?_
 refine A9 ?_
 refine A9 ?_
 refine cL (fun (fm:(Nat)×(Nat)×(List Nat))=>(fun (k:Nat) (n:Nat) (qs:List Nat)=>k≤(dig 65536 a).length∧qs.length=(dig 65536 a).length∧Dig 65536 qs∧n%2=a / 65536 ^ k%2∧val 65536 (qs.drop k)=a / 65536 ^ k / 2) fm.1 fm.2.1 fm.2.2) (fun (fm:(Nat)×(Nat)×(List Nat))=>(fun (k:Nat) (n:Nat) (qs:List Nat)=>upd (upd (upd (upd (fun _=>none) 0 (some (.val (tM a)))) 3 (some (.own (.sl 8 1 0 (dig 65536 a).length)))) 4 (some (.val (tI n)))) 5 (some (.val (tI ((k:Int) - 1))))) fm.1 fm.2.1 fm.2.2) (fun (fm:(Nat)×(Nat)×(List Nat))=>(fun (k:Nat) (n:Nat) (qs:List Nat)=>upd (fun _=>none) 8 (some (⟨42,1,false,rW .u16 qs⟩))) fm.1 fm.2.1 fm.2.2) [8] (fun (fm:(Nat)×(Nat)×(List Nat))=>(fun (k:Nat) (n:Nat) (qs:List Nat)=>k) fm.1 fm.2.1 fm.2.2) (((dig 65536 a).length,0,List.replicate (dig 65536 a).length 0)) (by dsimp only;exact ⟨Nat.le_refl _,by simp,Dig.rep (by decide) _,by rw [Nat.div_eq_of_lt (xh0 x7 a)],by rw [Nat.div_eq_of_lt (xh0 x7 a),Nat.zero_div,List.drop_replicate,xg5]⟩) (hh:=((SubK.consI rfl ImpK.refl) SubK.nil)) ?_
 intro fm hI
 obtain ⟨k,n,qs⟩:=fm
 replace hI:k≤(dig 65536 a).length∧qs.length=(dig 65536 a).length∧Dig 65536 qs∧n%2=a / 65536 ^ k%2∧val 65536 (qs.drop k)=a / 65536 ^ k / 2:=hI
 show wc _ _ _ _ (upd (upd (upd (upd (fun _=>none) 0 (some (.val (tM a)))) 3 (some (.own (.sl 8 1 0 (dig 65536 a).length)))) 4 (some (.val (tI n)))) 5 (some (.val (tI ((k:Int) - 1))))) (upd (fun _=>none) 8 (some (⟨42,1,false,rW .u16 qs⟩))) _
 obtain ⟨hk,hl,hD,hn,hv⟩:=hI
 refine A7 ?_
 refine x9 rfl (fun h82=> ?_) (fun h82=> ?_)
 ·
  obtain ⟨j,rfl⟩: ∃j,k=j+1:=⟨k - 1,by omega⟩
  have hx:=xc4 x7 a j
  have hx1:=(xc3 x7 a).getD (by decide) j
  obtain ⟨n1,n2,n3,n4,n5⟩:=half_in (k:=j) (by omega) hl hD hn hv rfl
  rw [←hx] at n1 n2 n3 n4 n5
  refine A7 ?_
  refine R2 (d_rem (r:=((n%2:Nat):Int)) (by decide) (wrem64 (b:=2))) rfl rfl (R2 (d_mul (r:=((n%2*65536:Nat):Int)) (by rw [wr64 (by omega) (by omega)];omega)) rfl rfl ?_)
  refine A2 ?_
  refine R2 (x6 sl26 (j) (by omega) (gN (by omega))) rfl rfl ?_
  refine A1 ?_
  refine R1 (x8 Tryz.underlying3 (isS Tryz.underlying42) (wr64 (by omega) (by omega))) rfl (R2 (xd4 (r:=(((n%2*65536+(dig 65536 a).getD j 0):Nat):Int)) (by rw [wr64 (by omega) (by omega)];omega)) rfl rfl ?_)
  refine A7 ?_
  refine R2 (d_quo (r:=(((n%2*65536+(dig 65536 a).getD j 0) / 2:Nat):Int)) (by decide) (iquo64 (b:=2) (by omega))) rfl rfl (R1 (x8 Tryz.underlying42 (isS Tryz.underlying3) (wu16 (by omega) (by omega))) rfl (R2 (xa5 sl26 (by omega) (by omega) rfl) rfl rfl (RE (xc6 (j) ti42 (rW_lt (by omega)) (by omega) (rW_set (m:=_) rfl)) ⟨rfl,rfl,trivial⟩ ⟨rfl,trivial⟩ trivial ?_)))
  refine A8 ?_
  exact kF ((j,(n%2*65536+(dig 65536 a).getD j 0),qs.set j ((n%2*65536+(dig 65536 a).getD j 0) / 2))) ⟨(by dsimp only;exact ⟨by omega,n1,n2,n3,n4⟩),(by dsimp only;omega)⟩ (hh:=((SubK.consI rfl ImpK.refl) SubK.nil))
 ·
  have hk0:k=0:=by omega
  subst hk0
  rw [List.drop_zero,Nat.pow_zero,Nat.div_one] at hv
  refine A7 ?_
  refine RE (xg0 (f:=fun n:Nat=>tE (.int .u16 n)) (xs:=qs) (fun _ h=>h) (rW_all hl) hl) ⟨rfl,trivial⟩ ⟨rfl,trivial⟩ trivial (R1 (x3 (c_RTrim _) fi235 rfl) rfl ?_)
  refine A4 ?_
  exact x4 Plain.mk' rfl rfl (Le.of (congrArg tLm (by rw [xf0 x7 hD,hv])))
theorem c_RFromInt (n:Int) (h1: -9223372036854775808≤n) (h2:n≤9223372036854775807):
  Ct Tryz.prog 136 [tI n] (tWh (wh n)):=by
 refine Ct.intro Tryz.func136 rfl Tryz.ntmps136 rfl ?_
 intro w F
 refine A2 ?_
 refine RE (xa6 (k:=2) (n:=2) (agg:=true) zr28.1 zr28.2 rfl) trivial trivial ⟨rfl,trivial⟩ ?_
 refine A5 ?_
 refine R1 (x8 Tryz.underlying68 (isS Tryz.underlying3) toU64) rfl ?_
 refine A3 ?_
 refine xh2 (fun (v:Nat)=>v=n.natAbs) (fun (v:Nat)=>upd (upd (upd (fun _=>none) 0 (some (.val (tI n)))) 2 (some (.own (.ptr 2 0)))) 3 (some (.val (tE (.int .u64 ((v:Nat):Int)))))) (fun (v:Nat)=>upd (fun _=>none) 2 (some (⟨28,2,true,[.val (tWh ⟨false,[]⟩)]⟩))) (nm [2]) ?_ ?_
 ·
  refine A6 ?_
  refine x9 rfl (fun h164=> ?_) (fun h164=> ?_)
  ·
   refine A2 ?_
   refine R1 (d_neg (negU64 (by omega))) rfl ?_
   refine A2 ?_
   exact kF ((18446744073709551616 - (n%18446744073709551616).toNat)%18446744073709551616) (by omega) (hh:=((SubK.consI rfl ImpK.refl) SubK.nil))
  ·
   refine A1 ?_
   exact kF ((n%18446744073709551616).toNat) (by omega) (hh:=((SubK.consI rfl ImpK.refl) SubK.nil))
 ·
  intro v hv
  have hvl:=wh_len v (by omega)
  refine A2 ?_
  refine RE (xd3 (k:=4) 42 1 false rfl (fun _=>rfl)) trivial trivial ⟨rfl,trivial⟩ ?_
  refine A4 ?_
  refine cL (fun (fm:(Nat)×(Nat)×(List Nat))=>(fun (i:Nat) (u:Nat) (cs:List Nat)=>i≤(dig 65536 v).length∧u=v / 65536 ^ i∧cs=dgs 65536 i v∧u < 18446744073709551616) fm.1 fm.2.1 fm.2.2) (fun (fm:(Nat)×(Nat)×(List Nat))=>(fun (i:Nat) (u:Nat) (cs:List Nat)=>upd (upd (upd (upd (fun _=>none) 0 (some (.val (tI n)))) 2 (some (.own (.ptr 2 0)))) 3 (some (.val (tE (.int .u64 ((u:Nat):Int)))))) 4 (some (.own (.sl 4 1 0 cs.length)))) fm.1 fm.2.1 fm.2.2) (fun (fm:(Nat)×(Nat)×(List Nat))=>(fun (i:Nat) (u:Nat) (cs:List Nat)=>upd (upd (fun _=>none) 2 (some (⟨28,2,true,[.val (tWh ⟨false,[]⟩)]⟩))) 4 (some (⟨42,1,false,rW .u16 cs⟩))) fm.1 fm.2.1 fm.2.2) [2,4] (fun (fm:(Nat)×(Nat)×(List Nat))=>(fun (i:Nat) (u:Nat) (cs:List Nat)=>u) fm.1 fm.2.1 fm.2.2) ((0,v,[])) (by dsimp only;exact ⟨Nat.zero_le _,by simp,rfl,by omega⟩) (hh:=((SubK.consI rfl ImpK.refl) ((SubK.consI rfl ImpK.refl) SubK.nil))) ?_
  intro fm hI
  obtain ⟨i,u,cs⟩:=fm
  replace hI:i≤(dig 65536 v).length∧u=v / 65536 ^ i∧cs=dgs 65536 i v∧u < 18446744073709551616:=hI
  show wc _ _ _ _ (upd (upd (upd (upd (fun _=>none) 0 (some (.val (tI n)))) 2 (some (.own (.ptr 2 0)))) 3 (some (.val (tE (.int .u64 ((u:Nat):Int)))))) 4 (some (.own (.sl 4 1 0 cs.length)))) (upd (upd (fun _=>none) 2 (some (⟨28,2,true,[.val (tWh ⟨false,[]⟩)]⟩))) 4 (some (⟨42,1,false,rW .u16 cs⟩))) _
  obtain ⟨hi,hu,hcs,hu64⟩:=hI
  have hcl:cs.length=i:=by rw [hcs,xg4]
  refine A7 ?_
  refine x9 rfl (fun h168=> ?_) (fun h168=> ?_)
  ·
   refine A7 ?_
   refine R2 (d_rem (r:=((u%65536:Nat):Int)) (by decide) (wrem64 (b:=65536))) rfl rfl (R1 (x8 Tryz.underlying42 (isS Tryz.underlying68) (wu16 (by omega) (by omega))) rfl (R1 (d_nums (n:=1) [u%65536] Tryz.underlying26 el42 zf42 rfl rfl rfl) rfl (RE (xc1 (k:=4) (k':=18) (ts':=rW .u16 (cs++[u%65536])) Tryz.underlying26 el42 zf42 rfl rfl (fun _=>inferInstance) rW_len (by simp;omega) (by simp;omega) (by simp [rW]) (n':=cs.length+1) rfl) ⟨rfl,rfl,trivial⟩ ⟨rfl,trivial⟩ ⟨rfl,trivial⟩ ?_)))
   refine A5 ?_
   refine R2 (d_quo (r:=((u / 65536:Nat):Int)) (by decide) (wquo64 (b:=65536) (by omega))) rfl rfl ?_
   refine A3 ?_
   obtain ⟨n1,n2,n3⟩:=from_more hu (by omega)
   exact xe6 (l:=[2,4]) (fun j=>cond (Nat.beq j 4) 18 (j)) ((i+1,u / 65536,cs++[u%65536])) ⟨(by dsimp only;exact ⟨n1,n2,by rw [hcs];exact n3,by omega⟩),(by dsimp only;omega)⟩ ((SubR.consI rfl (Imp.of (by dsimp only;rw [List.length_append];rfl))) (SubR.int rfl (by first | omega | rfl | (dsimp only;omega)) (SubR.cons rfl (SubR.int rfl (by first | omega | rfl | (dsimp only;omega)) SubR.nil)))) ((SubKR.consI rfl (ImpK.of xg9.symm)) ((SubKR.consI rfl ImpK.refl) SubKR.nil)) (SupG.own rfl (SupG.val (SupG.own rfl (SupG.val SupG.nil)))) (SupH.cons rfl (supJ xf2) (SupH.cons rfl (supJL rfl) SupH.nil)) (lkOk rfl) rfl rfl (fun _ h=>by cases h)
  ·
   refine A9 ?_
   have hfin:cs=dig 65536 v:=by rw [hcs];exact from_end (by rw [←hu];omega) hi
   subst hfin
   refine RE (xg0 (f:=fun n:Nat=>tE (.int .u16 n)) (xs:=(dig 65536 v)) (fun _ h=>h) (rW_all rfl) rfl) ⟨rfl,trivial⟩ ⟨rfl,trivial⟩ trivial (R2 (x3 (c_RMake _ v) fi203 rfl) rfl rfl ?_)
   refine A4 ?_
   exact xd5 Plain.mk' rfl ⟨_,_,_,_,_,rfl,rfl,ti28,(Le.of (by rw [wh_sgn,hv,wh];congr 2;by_cases h:n < 0 <;> simp [h];omega))⟩
end An.S

/- The references: quotients, divisors, quick fractions. -/
namespace An.S
open Go Go.Proofs An
set_option maxHeartbeats 2000000
instance fi204:FnI Tryz.prog 204:=⟨_,Tryz.func204,by kernel_rfl,rfl⟩
instance fi208:FnI Tryz.prog 208:=⟨_,Tryz.func208,by kernel_rfl,rfl⟩
instance fi209:FnI Tryz.prog 209:=⟨_,Tryz.func209,by kernel_rfl,rfl⟩
instance fi230:FnI Tryz.prog 230:=⟨_,Tryz.func230,by kernel_rfl,rfl⟩
instance fi231:FnI Tryz.prog 231:=⟨_,Tryz.func231,by kernel_rfl,rfl⟩
instance fi232:FnI Tryz.prog 232:=⟨_,Tryz.func232,by kernel_rfl,rfl⟩
theorem c_RPlusOne (q:Nat) (h:(dig 65536 q).length≤100000):Ct Tryz.prog 208 [tM q,tLm [1]] (tM (q+1)):=by
  have e:dig 65536 1=[1]:=by rw [dig_pos x7 (by decide),show (1:Nat) / 65536=0 by decide,xd9]
  have:=c_RPlus q 1 h (by rw [e];decide)
  rw [tM,tM,e] at this;exact this
theorem lenM {a b k:Nat} (h:a≤b) (hb:(dig 65536 b).length≤k):(dig 65536 a).length≤k:=Nat.le_trans (xe7 x7 h) hb
theorem one_dec {l:List Nat} (h:l.length=1):decide (((l.getD 0 0:Nat):Int)=1)=decide (l=[1]):=by
  obtain ⟨a,rfl⟩:=List.length_eq_one_iff.1 h
  simp
  omega
theorem c_RDivided (a b:Nat) (hb:0 < b) (ha:(dig 65536 a).length≤4000) (hbl:(dig 65536 b).length≤4000):
    Ct Tryz.prog 204 [tM a,tM b] (tT [tM (a / b),tM (a%b)]):=by
  refine Ct.intro Tryz.func204 rfl Tryz.ntmps204 rfl ?_
  intro w F
  refine A9 ?_
  refine A5 ?_
  refine x9 rfl (fun h103=> ?_) (fun h103=> ?_)
  ·
    have hb0:=one_limb (b:=b) (by omega)
    have hbW:=(xc3 x7 b).getD (by decide) 0
    refine A4 ?_
    refine R2 (x6 sl26 (0) (by omega) (gN (by omega))) rfl rfl ?_
    refine A1 ?_
    refine R1 (x8 Tryz.underlying3 (isS Tryz.underlying42) (wr64 (by omega) (by omega))) rfl (R2 (x3 (c_RShort a _ (by omega) (by omega) (by omega)) fi230 rfl) rfl rfl ?_)
    refine A8 ?_
    exact xc8 Plain.mk' rfl rfl rfl (Le.of (by rw [hb0])) (Le.of (by rw [hb0]))
  ·
    refine A9 ?_
    refine A6 ?_
    refine cL (fun (n:Nat)=>n=0∨b*2 ^ n≤a+a) (fun (n:Nat)=>upd (upd (upd (upd (fun _=>none) 0 (some (.val (tM a)))) 1 (some (.val (tM b)))) 6 (some (.val (tI n)))) 7 (some (.val (tM (b*2 ^ n))))) (fun (n:Nat)=>fun _=>none) [] (fun (n:Nat)=>a+1 - b*2 ^ n) (0) (.inl rfl) (hg:=(Sub.le rfl (Le.of (by first | rw [Nat.pow_zero,Nat.mul_one] | (dsimp only;rw [Nat.pow_zero,Nat.mul_one]))) (sI (sC (sC Sub.nil))))) ?_
    intro n hI
    have hn:n < 16*4001:=by
      rcases hI with h | h
      · omega
      · refine bits_le (a:=a+a) ?_ (by have:=len_dbl ha ha;omega)
        exact Nat.le_trans (Nat.le_mul_of_pos_left _ hb) h
    refine A5 ?_
    refine R2 (x3 (c_RLess a (b*2 ^ n)) fi231 rfl) rfl rfl ?_
    refine A3 ?_
    refine xd2 rfl (fun h107=> ?_) (fun h107=> ?_)
    ·
      have hle:b*2 ^ n≤a:=by
        have h:=h107
        simp at h;exact h
      have hnl:=lenM hle ha
      refine A7 ?_
      refine R2 (x3 (c_RPlus (b*2 ^ n) (b*2 ^ n) (by omega) (by omega)) fi208 rfl) rfl rfl ?_
      refine A9 ?_
      have he:b*2 ^ n+b*2 ^ n=b*2 ^ (n+1):=by rw [Nat.pow_succ,←Nat.mul_assoc,Nat.mul_two]
      have hp:0 < b*2 ^ n:=Nat.mul_pos hb (Nat.pow_pos (by decide))
      exact kF (n+1) ⟨(.inr (by omega)),(by show a+1 - b*2 ^ (n+1) < a+1 - b*2 ^ n;omega)⟩ (hg:=(Sub.le rfl (Le.of (by rw [he])) (sI (sC (sC Sub.nil)))))
    ·
      have hlt:a < b*2 ^ n:=by
        have h:=h107
        simp at h;exact h
      have hnl:(dig 65536 (b*2 ^ n)).length≤4001:=by
        rcases hI with h | h
        · rw [h,Nat.pow_zero,Nat.mul_one];omega
        · exact lenM h (len_dbl ha ha)
      refine A9 ?_
      refine A9 ?_
      refine cL (fun (i:Nat)=>i≤n) (fun (i:Nat)=>upd (upd (upd (upd (upd (fun _=>none) 0 (some (.val (tM a)))) 1 (some (.val (tM b)))) 6 (some (.val (tI n)))) 8 (some (.val (tM (b*2 ^ i))))) 9 (some (.val (tI i)))) (fun (i:Nat)=>fun _=>none) [] (fun (i:Nat)=>n - i) (0) (Nat.zero_le _) (hg:=(sI (Sub.le rfl (Le.of (by first | rw [Nat.pow_zero,Nat.mul_one] | (dsimp only;rw [Nat.pow_zero,Nat.mul_one]))) (sI (sC (sC Sub.nil)))))) ?_
      intro i hJ
      refine A8 ?_
      refine x9 rfl (fun h111=> ?_) (fun h111=> ?_)
      ·
        have hil:(dig 65536 (b*2 ^ i)).length≤4001:=lenM (Nat.mul_le_mul_left _ (Nat.pow_le_pow_right (by decide) (by omega))) hnl
        refine A7 ?_
        refine R2 (x3 (c_RPlus (b*2 ^ i) (b*2 ^ i) (by omega) (by omega)) fi208 rfl) rfl rfl ?_
        refine A9 ?_
        have he:b*2 ^ i+b*2 ^ i=b*2 ^ (i+1):=by rw [Nat.pow_succ,←Nat.mul_assoc,Nat.mul_two]
        exact kF (i+1) ⟨(by omega),(by omega)⟩ (hg:=(sI (Sub.le rfl (Le.of (by rw [he])) (sI (sC (sC Sub.nil))))))
      ·
        refine A9 ?_
        refine A3 ?_
        refine RE (d_sliceOfO (k:=43) (ents:=[]) Tryz.underlying26 el42 zf42 rfl (by simp) rfl rfl rfl) trivial trivial ⟨rfl,trivial⟩ ?_
        refine A1 ?_
        refine RE (xc1 (k:=43) (k':=45) (ts':=rW .u16 (dig 65536 a)) Tryz.underlying26 el42 zf42 rfl rfl (fun _=>inferInstance) rfl (by simp;omega) (by simp;omega) (by simp [rW]) (n':=(dig 65536 a).length) (by simp)) ⟨rfl,rfl,trivial⟩ ⟨rfl,trivial⟩ ⟨rfl,trivial⟩ (RE (d_assignS (f:=fun n:Nat=>tE (.int .u16 n)) (xs:=dig 65536 a) (fun _ h=>h) (rW_all rfl) rfl) ⟨rfl,trivial⟩ ⟨rfl,trivial⟩ trivial ?_)
        refine A9 ?_
        refine cL (fun (fm:(Nat)×(Nat)×(Nat)×(Nat))=>(fun (j:Nat) (q:Nat) (r:Nat) (d:Nat)=>j≤n∧d=b*2 ^ (n - j)∧a=q*d+r∧r < d) fm.1 fm.2.1 fm.2.2.1 fm.2.2.2) (fun (fm:(Nat)×(Nat)×(Nat)×(Nat))=>(fun (j:Nat) (q:Nat) (r:Nat) (d:Nat)=>upd (upd (upd (upd (upd (fun _=>none) 6 (some (.val (tI n)))) 8 (some (.val (tM d)))) 10 (some (.val (tM q)))) 11 (some (.val (tM r)))) 12 (some (.val (tI j)))) fm.1 fm.2.1 fm.2.2.1 fm.2.2.2) (fun (fm:(Nat)×(Nat)×(Nat)×(Nat))=>(fun (j:Nat) (q:Nat) (r:Nat) (d:Nat)=>fun _=>none) fm.1 fm.2.1 fm.2.2.1 fm.2.2.2) [] (fun (fm:(Nat)×(Nat)×(Nat)×(Nat))=>(fun (j:Nat) (q:Nat) (r:Nat) (d:Nat)=>n - j) fm.1 fm.2.1 fm.2.2.1 fm.2.2.2) ((0,0,a,b*2 ^ n)) (by dsimp only;exact ⟨Nat.zero_le _,rfl,by omega,by omega⟩) (hg:=(sI (sC (Sub.le rfl (leNil (xd9 _)) (Sub.le rfl (Le.of (by first | rw [show i=n by omega] | (dsimp only;rw [show i=n by omega]))) (sI Sub.nil)))))) ?_
        intro fm hK
        obtain ⟨j,q,r,d⟩:=fm
        replace hK:j≤n∧d=b*2 ^ (n - j)∧a=q*d+r∧r < d:=hK
        show wc _ _ _ _ (upd (upd (upd (upd (upd (fun _=>none) 6 (some (.val (tI n)))) 8 (some (.val (tM d)))) 10 (some (.val (tM q)))) 11 (some (.val (tM r)))) 12 (some (.val (tI j)))) (fun _=>none) _
        obtain ⟨hj,hd,hq,hr⟩:=hK
        have hqa:q≤a:=by
          have h1:q*1≤q*d:=Nat.mul_le_mul_left _ (by omega)
          omega
        have hql:=lenM hqa ha
        have hdn:b*2 ^ (n - j)≤b*2 ^ n:=Nat.mul_le_mul_left _ (Nat.pow_le_pow_right (by decide) (by omega))
        have hdl:(dig 65536 d).length≤4001:=by rw [←hd] at hdn;exact lenM hdn hnl
        have hqq:=len_dbl hql hql
        refine A8 ?_
        refine x9 rfl (fun h116=> ?_) (fun h116=> ?_)
        ·
          refine A7 ?_
          refine R1 (x3 (c_RHalf d (by omega)) fi232 rfl) rfl ?_
          refine A7 ?_
          refine R2 (x3 (c_RPlus q q (by omega) (by omega)) fi208 rfl) rfl rfl ?_
          refine A7 ?_
          refine R2 (x3 (c_RLess r (d / 2)) fi231 rfl) rfl rfl ?_
          refine A3 ?_
          refine xd2 rfl (fun h119=> ?_) (fun h119=> ?_)
          ·
            have hge:d / 2≤r:=by
              have h:=h119
              simp at h;exact h
            refine A4 ?_
            refine R2 (x3 (c_RMinus r (d / 2) (by omega) (by have:=lenM (Nat.le_of_lt hr) hdl;omega)) fi209 rfl) rfl rfl ?_
            refine A5 ?_
            refine R1 (d_nums (n:=1) [1] Tryz.underlying26 el42 zf42 rfl rfl rfl) rfl (R2 (x3 (c_RPlusOne (q+q) (by omega)) fi208 rfl) rfl rfl ?_)
            refine A9 ?_
            obtain ⟨b1,b2,b3⟩:=div_bit (by omega) hd hq hr
            obtain ⟨b4,b5,b6⟩:=b3 (by omega)
            exact kF ((j+1,q+q+1,r - d / 2,d / 2)) ⟨(by dsimp only;exact ⟨by omega,b1,b4,b5⟩),(by dsimp only;omega)⟩
          ·
            have hge:r < d / 2:=by
              have h:=h119
              simp at h;exact h
            refine A8 ?_
            obtain ⟨b1,b2,b3⟩:=div_bit (by omega) hd hq hr
            exact kF ((j+1,q+q,r,d / 2)) ⟨(by dsimp only;exact ⟨by omega,b1,b2 (by omega),by omega⟩),(by dsimp only;omega)⟩
        ·
          have hdb:d=b:=by rw [hd,show n - j=0 by omega,Nat.pow_zero,Nat.mul_one]
          rw [hdb] at hq hr
          obtain ⟨e1,e2⟩:=div_done hq hr
          refine A9 ?_
          refine A5 ?_
          exact xc8 Plain.mk' rfl rfl rfl (Le.of (by rw [e1])) (Le.of (by rw [e2]))
theorem c_RCommon (a b:Nat) (ha:(dig 65536 a).length≤4000) (hb:(dig 65536 b).length≤4000):
  Ct Tryz.prog 140 [tM a,tM b] (tM (Nat.gcd a b)):=by
 refine Ct.intro Tryz.func140 rfl Tryz.ntmps140 rfl ?_
 intro w F
 refine A7 ?_
 refine cL (fun (fm:(Nat)×(Nat))=>(fun (x:Nat) (y:Nat)=>Nat.gcd x y=Nat.gcd a b∧(dig 65536 x).length≤4000∧(dig 65536 y).length≤4000) fm.1 fm.2) (fun (fm:(Nat)×(Nat))=>(fun (x:Nat) (y:Nat)=>upd (upd (fun _=>none) 0 (some (.val (tM x)))) 1 (some (.val (tM y)))) fm.1 fm.2) (fun (fm:(Nat)×(Nat))=>(fun (x:Nat) (y:Nat)=>fun _=>none) fm.1 fm.2) [] (fun (fm:(Nat)×(Nat))=>(fun (x:Nat) (y:Nat)=>y) fm.1 fm.2) ((a,b)) (by dsimp only;exact ⟨rfl,ha,hb⟩) ?_
 intro fm hI
 obtain ⟨x,y⟩:=fm
 replace hI:Nat.gcd x y=Nat.gcd a b∧(dig 65536 x).length≤4000∧(dig 65536 y).length≤4000:=hI
 show wc _ _ _ _ (upd (upd (fun _=>none) 0 (some (.val (tM x)))) 1 (some (.val (tM y)))) (fun _=>none) _
 obtain ⟨hg,hx,hy⟩:=hI
 refine A8 ?_
 refine x9 rfl (fun h261=> ?_) (fun h261=> ?_)
 ·
  have hy0:0 < y:=by have:=len_ne.1 h261;omega
  refine A7 ?_
  refine R2 (x3 (c_RDivided x y hy0 hx hy) fi204 rfl) rfl rfl ?_
  refine A9 ?_
  refine A9 ?_
  have hlt:x%y < y:=Nat.mod_lt _ hy0
  exact kF ((y,x%y)) ⟨(by dsimp only;exact ⟨by rw [Nat.gcd_comm,←Nat.gcd_rec,Nat.gcd_comm];exact hg,hy,lenM (Nat.le_of_lt hlt) hy⟩),(by dsimp only;omega)⟩
 ·
  have hy0:y=0:=Classical.byContradiction fun h=>h261 (len_ne.2 h)
  refine A9 ?_
  refine A3 ?_
  exact x4 Plain.mk' rfl rfl (Le.of (by rw [←hg,hy0,Nat.gcd_zero_right]))
theorem c_Rone (l:List Nat):
  Ct Tryz.prog 139 [tLm l] (tB (decide (l=[1]))):=by
 refine Ct.intro Tryz.func139 rfl Tryz.ntmps139 rfl ?_
 intro w F
 refine A9 ?_
 refine A2 ?_
 refine RGcaseD (t:=6) rfl (fun h24=> ?_) (fun h24=> ?_)
 ·
  refine A1 ?_
  refine RGon (decide_eq_true h24) rfl (x6 sl26 (0) (by omega) (gN (by omega))) rfl ⟨rfl,rfl,trivial⟩ trivial trivial ?_
  refine A7 ?_
  exact x4 Plain.mk' rfl rfl (Le.bool (one_dec (by omega)))
 ·
  refine A9 ?_
  exact x4 Plain.mk' rfl rfl (Le.bool (decide_eq_false (fun h=>h24 (by rw [h];rfl))).symm)
end An.S

/- The reference of layer 2; small functions of the laws. -/
namespace An.S
open Go Go.Proofs An
set_option maxHeartbeats 2000000
instance fi135:FnI Tryz.prog 135:=⟨_,Tryz.func135,by kernel_rfl,rfl⟩
instance fi136:FnI Tryz.prog 136:=⟨_,Tryz.func136,by kernel_rfl,rfl⟩
instance fi139:FnI Tryz.prog 139:=⟨_,Tryz.func139,by kernel_rfl,rfl⟩
instance fi140:FnI Tryz.prog 140:=⟨_,Tryz.func140,by kernel_rfl,rfl⟩
/-- A list that is too large. -/
def largeL (l:List Deal) (m k:Int):Bool:=(List.range l.length).any fun i=>decide (m≤(i:Int)) || decide (k < ((l.getD i deal0).share.n.l.length:Int)) || decide (k < ((l.getD i deal0).share.d.l.length:Int))
theorem any_next {i:Nat} {f:Nat→Bool}:(List.range (i+1)).any f=((List.range i).any f || f i):=by
  rw [List.range_succ,List.any_append];simp
end An.S

/- Multiplying limb by limb: plain numbers. -/
namespace An
open Go
theorem mul_lt16 {x y:Nat} (hx:x < 65536) (hy:y < 65536):x*y≤4294836225:=by
  have:=Nat.mul_le_mul (show x≤65535 by omega) (show y≤65535 by omega)
  omega
theorem rtimes_in {b i j c x y s la:Nat} {w0 vs:List Nat} (hl:vs.length=la) (hD:Dig 65536 vs) (hw:w0.length=la) (hdr:vs.drop (i+j)=w0.drop (i+j)) (hij:i+j < la) (hc:c < 65536) (hx:x < 65536) (hy:y=b / 65536 ^ j%65536)
    (hs:s=x*y+vs.getD (i+j) 0+c) (h:val 65536 (vs.take (i+j))+c*65536 ^ (i+j)=val 65536 (w0.take (i+j))+x*65536 ^ i*(b%65536 ^ j)):
    (vs.set (i+j) (s%65536)).length=la∧Dig 65536 (vs.set (i+j) (s%65536))∧(vs.set (i+j) (s%65536)).drop (i+(j+1))=w0.drop (i+(j+1))∧s / 65536 < 65536∧
      val 65536 ((vs.set (i+j) (s%65536)).take (i+(j+1)))+s / 65536*65536 ^ (i+(j+1))=val 65536 (w0.take (i+(j+1)))+x*65536 ^ i*(b%65536 ^ (j+1)):=by
  have hyW:y < 65536:=by rw [hy];exact Nat.mod_lt _ (by decide)
  have hg:vs.getD (i+j) 0 < 65536:=hD.getD (by decide) _
  refine ⟨by simpa using hl,hD.set (Nat.mod_lt _ (by decide)),by rw [←Nat.add_assoc,xf4];exact xi3 hdr (by omega),?_,?_⟩
  · have:=mul_lt16 hx hyW
    refine Nat.div_lt_of_lt_mul ?_
    show s < 65536*65536
    have:vs.getD (i+j) 0 < 65536:=hg
    have:c < 65536:=hc
    omega
  · rw [←Nat.add_assoc,xf9 (by omega),xe9 _ w0 _ (by omega),←xh7 hdr (Nat.le_refl _)]
    exact mul_step h hs hy
theorem rtimes_out {a b i c la lb:Nat} {w0 vs:List Nat} (hi:i < la) (hw:w0.length=la+lb) (hl:vs.length=la+lb) (hD:Dig 65536 vs) (hdr:vs.drop (i+lb)=w0.drop (i+lb)) (hz:w0.drop (i+lb)=List.replicate (la - i) 0) (hc:c < 65536)
    (h0:val 65536 (w0.take (i+lb))=a%65536 ^ i*b) (hb:b < 65536 ^ lb) (h:val 65536 (vs.take (i+lb))+c*65536 ^ (i+lb)=val 65536 (w0.take (i+lb))+a / 65536 ^ i%65536*65536 ^ i*(b%65536 ^ lb)):
    (vs.set (i+lb) c).length=la+lb∧Dig 65536 (vs.set (i+lb) c)∧(vs.set (i+lb) c).drop (i+1+lb)=List.replicate (la - (i+1)) 0∧val 65536 ((vs.set (i+lb) c).take (i+1+lb))=a%65536 ^ (i+1)*b:=by
  refine ⟨by simpa using hl,hD.set hc,?_,?_⟩
  · rw [show i+1+lb=i+lb+1 by omega,xf4,xi3 (j:=i+lb+1) hdr (by omega),←List.drop_drop,hz,List.drop_replicate];congr 1
  · rw [show i+1+lb=i+lb+1 by omega,xf9 (by omega),Nat.mul_comm _ c,h,h0,xh6,Nat.mod_eq_of_lt hb,Nat.add_mul]
    congr 1
    rw [Nat.mul_comm (65536 ^ i)]
theorem rtimes_end {a b la lb:Nat} {ws:List Nat} (hl:ws.length=la+lb) (hD:Dig 65536 ws) (ha:a < 65536 ^ la) (h:val 65536 (ws.take (la+lb))=a%65536 ^ la*b):trimL ws=dig 65536 (a*b):=by
  rw [xf0 x7 hD]
  rw [←hl,List.take_length,Nat.mod_eq_of_lt ha] at h
  rw [h]
end An

/- The references of layers 1 and 2: products, sums, quotients, numbers of 64 bits, fractions. -/
namespace An.S
open Go Go.Proofs An
set_option maxHeartbeats 2000000
set_option maxRecDepth 100000
instance fi71:FnI Tryz.prog 71:=⟨_,Tryz.func71,by kernel_rfl,rfl⟩
instance fi133:FnI Tryz.prog 133:=⟨_,Tryz.func133,by kernel_rfl,rfl⟩
instance fi134:FnI Tryz.prog 134:=⟨_,Tryz.func134,by kernel_rfl,rfl⟩
instance fi137:FnI Tryz.prog 137:=⟨_,Tryz.func137,by kernel_rfl,rfl⟩
instance fi138:FnI Tryz.prog 138:=⟨_,Tryz.func138,by kernel_rfl,rfl⟩
instance fi151:FnI Tryz.prog 151:=⟨_,Tryz.func151,by kernel_rfl,rfl⟩
instance fi202:FnI Tryz.prog 202:=⟨_,Tryz.func202,by kernel_rfl,rfl⟩
instance fi205:FnI Tryz.prog 205:=⟨_,Tryz.func205,by kernel_rfl,rfl⟩
instance fi228:FnI Tryz.prog 228:=⟨_,Tryz.func228,by kernel_rfl,rfl⟩
instance fi229:FnI Tryz.prog 229:=⟨_,Tryz.func229,by kernel_rfl,rfl⟩
instance fi233:FnI Tryz.prog 233:=⟨_,Tryz.func233,by kernel_rfl,rfl⟩
theorem c_RTimes (a b:Nat) (ha:(dig 65536 a).length≤100000) (hb:(dig 65536 b).length≤100000):
  Ct Tryz.prog 229 [tM a,tM b] (tM (a*b)):=by
 refine Ct.intro Tryz.func229 rfl Tryz.ntmps229 rfl ?_
 intro w F
 have hbW:=xh0 x7 b
 refine A9 ?_
 refine A3 ?_
 refine RE (xg8 (k:=14) (t:=tE (.int .u16 0)) (ts:=rW .u16 (List.replicate (((dig 65536 a).length+(dig 65536 b).length)) 0)) (((dig 65536 a).length+(dig 65536 b).length)) (((dig 65536 a).length+(dig 65536 b).length)) Tryz.underlying26 el42 (fun _ _=>rfl) rfl (by omega) (by omega) (Nat.le_refl _) (by omega) (by omega) (rW_rep _)) ⟨rfl,rfl,trivial⟩ trivial ⟨rfl,trivial⟩ ?_
 refine A9 ?_
 refine A1 ?_
 refine cL (fun (fm:(Nat)×(List Nat))=>(fun (i:Nat) (ws:List Nat)=>i≤(dig 65536 a).length∧ws.length=(dig 65536 a).length+(dig 65536 b).length∧Dig 65536 ws∧ws.drop (i+(dig 65536 b).length)=List.replicate ((dig 65536 a).length - i) 0∧val 65536 (ws.take (i+(dig 65536 b).length))=a%65536 ^ i*b) fm.1 fm.2) (fun (fm:(Nat)×(List Nat))=>(fun (i:Nat) (ws:List Nat)=>upd (upd (upd (upd (fun _=>none) 0 (some (.val (tM a)))) 1 (some (.val (tM b)))) 5 (some (.own (.sl 14 1 0 ((dig 65536 a).length+(dig 65536 b).length))))) 6 (some (.val (tI i)))) fm.1 fm.2) (fun (fm:(Nat)×(List Nat))=>(fun (i:Nat) (ws:List Nat)=>upd (fun _=>none) 14 (some (⟨42,1,false,rW .u16 ws⟩))) fm.1 fm.2) [14] (fun (fm:(Nat)×(List Nat))=>(fun (i:Nat) (ws:List Nat)=>(dig 65536 a).length - i) fm.1 fm.2) ((0,List.replicate ((dig 65536 a).length+(dig 65536 b).length) 0)) (by dsimp only;exact ⟨Nat.zero_le _,by simp,Dig.rep (by decide) _,by rw [List.drop_replicate];congr 1;omega,by rw [List.take_replicate,xg5,Nat.pow_zero,Nat.mod_one,Nat.zero_mul]⟩) (hh:=((SubK.consI rfl ImpK.refl) SubK.nil)) ?_
 intro fm hI
 obtain ⟨i,ws⟩:=fm
 replace hI:i≤(dig 65536 a).length∧ws.length=(dig 65536 a).length+(dig 65536 b).length∧Dig 65536 ws∧ws.drop (i+(dig 65536 b).length)=List.replicate ((dig 65536 a).length - i) 0∧val 65536 (ws.take (i+(dig 65536 b).length))=a%65536 ^ i*b:=hI
 show wc _ _ _ _ (upd (upd (upd (upd (fun _=>none) 0 (some (.val (tM a)))) 1 (some (.val (tM b)))) 5 (some (.own (.sl 14 1 0 ((dig 65536 a).length+(dig 65536 b).length))))) 6 (some (.val (tI i)))) (upd (fun _=>none) 14 (some (⟨42,1,false,rW .u16 ws⟩))) _
 obtain ⟨hi,hl,hD,hz,hv⟩:=hI
 have hx:=xc4 x7 a i
 have hx1:=(xc3 x7 a).getD (by omega) i
 refine A9 ?_
 refine x9 rfl (fun h66=> ?_) (fun h66=> ?_)
 ·
  refine A9 ?_
  refine A7 ?_
  refine cL (fun (fm:(Nat)×(List Nat)×(Nat))=>(fun (j:Nat) (vs:List Nat) (c:Nat)=>j≤(dig 65536 b).length∧vs.length=(dig 65536 a).length+(dig 65536 b).length∧Dig 65536 vs∧vs.drop (i+j)=ws.drop (i+j)∧c < 65536∧val 65536 (vs.take (i+j))+c*65536 ^ (i+j)=val 65536 (ws.take (i+j))+(dig 65536 a).getD i 0*65536 ^ i*(b%65536 ^ j)) fm.1 fm.2.1 fm.2.2) (fun (fm:(Nat)×(List Nat)×(Nat))=>(fun (j:Nat) (vs:List Nat) (c:Nat)=>upd (upd (upd (upd (upd (upd (fun _=>none) 0 (some (.val (tM a)))) 1 (some (.val (tM b)))) 5 (some (.own (.sl 14 1 0 ((dig 65536 a).length+(dig 65536 b).length))))) 6 (some (.val (tI i)))) 7 (some (.val (tI c)))) 8 (some (.val (tI j)))) fm.1 fm.2.1 fm.2.2) (fun (fm:(Nat)×(List Nat)×(Nat))=>(fun (j:Nat) (vs:List Nat) (c:Nat)=>upd (fun _=>none) 14 (some (⟨42,1,false,rW .u16 vs⟩))) fm.1 fm.2.1 fm.2.2) [14] (fun (fm:(Nat)×(List Nat)×(Nat))=>(fun (j:Nat) (vs:List Nat) (c:Nat)=>(dig 65536 b).length - j) fm.1 fm.2.1 fm.2.2) ((0,ws,0)) (by dsimp only;exact ⟨Nat.zero_le _,hl,hD,rfl,by omega,by rw [Nat.pow_zero,Nat.mod_one];omega⟩) (hh:=((SubK.consI rfl ImpK.refl) SubK.nil)) ?_
  intro fm hJ
  obtain ⟨j,vs,c⟩:=fm
  replace hJ:j≤(dig 65536 b).length∧vs.length=(dig 65536 a).length+(dig 65536 b).length∧Dig 65536 vs∧vs.drop (i+j)=ws.drop (i+j)∧c < 65536∧val 65536 (vs.take (i+j))+c*65536 ^ (i+j)=val 65536 (ws.take (i+j))+(dig 65536 a).getD i 0*65536 ^ i*(b%65536 ^ j):=hJ
  show wc _ _ _ _ (upd (upd (upd (upd (upd (upd (fun _=>none) 0 (some (.val (tM a)))) 1 (some (.val (tM b)))) 5 (some (.own (.sl 14 1 0 ((dig 65536 a).length+(dig 65536 b).length))))) 6 (some (.val (tI i)))) 7 (some (.val (tI c)))) 8 (some (.val (tI j)))) (upd (fun _=>none) 14 (some (⟨42,1,false,rW .u16 vs⟩))) _
  obtain ⟨hj,kl,kD,kdr,kc,kv⟩:=hJ
  have hy:=xc4 x7 b j
  have hy1:=(xc3 x7 b).getD (by omega) j
  have hw1:=kD.getD (by omega) (i+j)
  have hxy:=mul_lt16 hx1 hy1
  refine A9 ?_
  refine x9 rfl (fun h68=> ?_) (fun h68=> ?_)
  ·
   refine A9 ?_
   refine R2 (x6 sl26 (i) (by omega) (gN (by omega))) rfl rfl ?_
   refine A1 ?_
   refine R1 (x8 Tryz.underlying3 (isS Tryz.underlying42) (wr64 (by omega) (by omega))) rfl ?_
   refine A2 ?_
   refine R2 (x6 sl26 (j) (by omega) (gN (by omega))) rfl rfl ?_
   refine A1 ?_
   refine R1 (x8 Tryz.underlying3 (isS Tryz.underlying42) (wr64 (by omega) (by omega))) rfl (R2 (d_mul (r:=(((dig 65536 a).getD i 0*(dig 65536 b).getD j 0:Nat):Int)) (by rw [←Int.natCast_mul,wr64 (by omega) (by omega)])) rfl rfl (R2 (xd4 (r:=((c+(dig 65536 a).getD i 0*(dig 65536 b).getD j 0:Nat):Int)) (by rw [wr64 (by omega) (by omega)];omega)) rfl rfl ?_))
   refine A4 ?_
   refine R2 (xa5 sl26 (by omega) (by omega) rfl) rfl rfl (RE (xb2 (i+j) ti42 (rW_get (by omega)) (by omega)) ⟨rfl,trivial⟩ ⟨rfl,trivial⟩ trivial (R1 (x8 Tryz.underlying3 (isS Tryz.underlying42) (wr64 (by omega) (by omega))) rfl (R2 (xd4 (r:=(((c+(dig 65536 a).getD i 0*(dig 65536 b).getD j 0+vs.getD (i+j) 0):Nat):Int)) (by rw [wr64 (by omega) (by omega)];omega)) rfl rfl ?_)))
   refine A9 ?_
   refine A1 ?_
   refine R2 (d_rem (r:=(((c+(dig 65536 a).getD i 0*(dig 65536 b).getD j 0+vs.getD (i+j) 0)%65536:Nat):Int)) (by decide) (wrem64 (b:=65536))) rfl rfl (R1 (x8 Tryz.underlying42 (isS Tryz.underlying3) (wu16 (by omega) (by omega))) rfl (R2 (xa5 sl26 (by omega) (by omega) rfl) rfl rfl (RE (xc6 (i+j) ti42 (rW_lt (by omega)) (by omega) (rW_set (m:=_) rfl)) ⟨rfl,rfl,trivial⟩ ⟨rfl,trivial⟩ trivial ?_)))
   refine A4 ?_
   refine R2 (d_quo (r:=(((c+(dig 65536 a).getD i 0*(dig 65536 b).getD j 0+vs.getD (i+j) 0) / 65536:Nat):Int)) (by decide) (iquo64 (b:=65536) (by omega))) rfl rfl ?_
   refine A9 ?_
   obtain ⟨n1,n2,n3,n4,n5⟩:=rtimes_in (s:=(c+(dig 65536 a).getD i 0*(dig 65536 b).getD j 0+vs.getD (i+j) 0)) kl kD hl kdr (by omega) kc hx1 hy (by omega) kv
   exact kF ((j+1,vs.set (i+j) ((c+(dig 65536 a).getD i 0*(dig 65536 b).getD j 0+vs.getD (i+j) 0)%65536),(c+(dig 65536 a).getD i 0*(dig 65536 b).getD j 0+vs.getD (i+j) 0) / 65536)) ⟨(by dsimp only;exact ⟨by omega,n1,n2,n3,n4,n5⟩),(by dsimp only;omega)⟩ (hh:=((SubK.consI rfl ImpK.refl) SubK.nil))
  ·
   have hjb:j=(dig 65536 b).length:=by omega
   refine A9 ?_
   refine A3 ?_
   refine R1 (x8 Tryz.underlying42 (isS Tryz.underlying3) (wu16 (by omega) (by omega))) rfl (R2 (xa5 sl26 (by omega) (by omega) rfl) rfl rfl (RE (xc6 (i+(dig 65536 b).length) ti42 (rW_lt (by omega)) (by omega) (rW_set (m:=_) rfl)) ⟨rfl,rfl,trivial⟩ ⟨rfl,trivial⟩ trivial ?_))
   refine A8 ?_
   obtain ⟨n1,n2,n3,n4⟩:=rtimes_out (by omega) hl kl kD (by rw [←hjb];exact kdr) hz kc hv hbW (by rw [←hjb,←hx];exact kv)
   exact kF ((i+1,vs.set (i+(dig 65536 b).length) c)) ⟨(by dsimp only;exact ⟨by omega,n1,n2,n3,n4⟩),(by dsimp only;omega)⟩ (hh:=((SubK.consI rfl ImpK.refl) SubK.nil))
 ·
  refine A7 ?_
  refine RE (xg0 (f:=fun n:Nat=>tE (.int .u16 n)) (xs:=ws) (fun _ h=>h) (rW_all hl) hl) ⟨rfl,trivial⟩ ⟨rfl,trivial⟩ trivial (R1 (x3 (c_RTrim _) fi235 rfl) rfl ?_)
  refine A4 ?_
  exact x4 Plain.mk' rfl rfl (Le.of (congrArg tLm (rtimes_end hl hD (xh0 x7 a) (by rw [←show i=(dig 65536 a).length by omega];exact hv))))
theorem c_RValid (x:Wh):
  Ct Tryz.prog 137 [tWh x] (tB x.valid):=by
 refine Ct.intro Tryz.func137 rfl Tryz.ntmps137 rfl ?_
 intro w F
 refine A9 ?_
 refine A6 ?_
 refine x9 rfl (fun h142=> ?_) (fun h142=> ?_)
 ·
  refine A9 ?_
  refine A1 ?_
  exact x4 Plain.mk' rfl rfl (Le.bool (by simp only [Wh.valid];rw [if_pos (by omega)]))
 ·
  refine A3 ?_
  refine C_len (s:=4) rfl (fun hl4=> ?_)
  refine A6 ?_
  refine RGcaseD (t:=14) rfl (fun h145=> ?_) (fun h145=> ?_)
  ·
   refine A5 ?_
   refine RGon (decide_eq_true h145) rfl (xe4 (wr64 (by omega) (by omega))) rfl ⟨rfl,rfl,trivial⟩ trivial trivial (RGon (decide_eq_true h145) rfl (x6 sl26 (x.l.length - 1) (by omega) (gN (by omega))) rfl ⟨rfl,rfl,trivial⟩ trivial trivial ?_)
   refine A7 ?_
   exact x4 Plain.mk' rfl rfl (Le.bool (by simp only [Wh.valid];rw [if_neg (by omega),decide_eq_true (show x.l.length≤1024 by omega),Bool.true_and];exact decide_eq_decide.2 (by omega)))
  ·
   refine A9 ?_
   refine A5 ?_
   exact x4 Plain.mk' rfl rfl (Le.bool (by simp only [Wh.valid];rw [if_neg (by omega),decide_eq_false (show ¬x.l.length≤1024 by omega),Bool.false_and]))
theorem rsum1 {x y:Int} (h:((wh x).neg==(wh y).neg)=true):sgn (wh x).neg (x.natAbs+y.natAbs)=x+y:=by
  have h:decide (x < 0)=decide (y < 0):=eq_of_beq h
  show sgn (decide (x < 0)) _=_
  by_cases hx:x < 0 <;> by_cases hy:y < 0 <;> simp [hx,hy] at h <;> simp [sgn,hx] <;> omega
theorem rsum2 {x y:Int} (h:((wh x).neg==(wh y).neg)=false) (hl:x.natAbs < y.natAbs):sgn (wh y).neg (y.natAbs - x.natAbs)=x+y:=by
  have h:(decide (x < 0)==decide (y < 0))=false:=h
  show sgn (decide (y < 0)) _=_
  by_cases hx:x < 0 <;> by_cases hy:y < 0 <;> simp [hx,hy] at h <;> simp [sgn,hy] <;> omega
theorem rsum3 {x y:Int} (h:((wh x).neg==(wh y).neg)=false) (hl: ¬x.natAbs < y.natAbs):sgn (wh x).neg (x.natAbs - y.natAbs)=x+y:=by
  have h:(decide (x < 0)==decide (y < 0))=false:=h
  show sgn (decide (x < 0)) _=_
  by_cases hx:x < 0 <;> by_cases hy:y < 0 <;> simp [hx,hy] at h <;> simp [sgn,hx] <;> omega
theorem rneg1 {x:Int}:sgn (!(wh x).neg) x.natAbs= -x:=by
  show sgn (!decide (x < 0)) _=_
  by_cases hx:x < 0 <;> simp [sgn,hx] <;> omega
theorem len_nil {x:Int}:(wh x).l.length=0↔x=0:=by
  show (dig 65536 x.natAbs).length=0↔_
  rw [List.length_eq_zero_iff,xi1 x7];omega
theorem c_RSum (x y:Int) (hx:len16 x≤4001) (hy:len16 y≤4001):
  Ct Tryz.prog 228 [tWh (wh x),tWh (wh y)] (tWh (wh (x+y))):=by
 refine Ct.intro Tryz.func228 rfl Tryz.ntmps228 rfl ?_
 intro w F
 refine A4 ?_
 refine RE (xa6 (k:=4) (n:=2) (agg:=true) zr28.1 zr28.2 rfl) trivial trivial ⟨rfl,trivial⟩ ?_
 refine A9 ?_
 refine A3 ?_
 refine xd2 rfl (fun h198=> ?_) (fun h198=> ?_)
 ·
  refine A8 ?_
  refine R2 (x3 (c_RPlus x.natAbs y.natAbs (by show len16 x≤100000;omega) (by show len16 y≤100000;omega)) fi208 rfl) rfl rfl (R2 (x3 (c_RMake _ _) fi203 rfl) rfl rfl ?_)
  refine A5 ?_
  exact xd5 Plain.mk' rfl ⟨_,_,_,_,_,rfl,rfl,ti28,(Le.of (by rw [rsum1 h198]))⟩
 ·
  refine A9 ?_
  refine R2 (x3 (c_RLess x.natAbs y.natAbs) fi231 rfl) rfl rfl ?_
  refine A2 ?_
  refine x9 rfl (fun h201=> ?_) (fun h201=> ?_)
  ·
   refine A8 ?_
   refine R2 (x3 (c_RMinus y.natAbs x.natAbs (by omega) (by show len16 y≤100000;omega)) fi209 rfl) rfl rfl (R2 (x3 (c_RMake _ _) fi203 rfl) rfl rfl ?_)
   refine A5 ?_
   exact xd5 Plain.mk' rfl ⟨_,_,_,_,_,rfl,rfl,ti28,(Le.of (by rw [rsum2 h198 h201]))⟩
  ·
   refine A9 ?_
   refine A1 ?_
   refine R2 (x3 (c_RMinus x.natAbs y.natAbs (by omega) (by show len16 x≤100000;omega)) fi209 rfl) rfl rfl (R2 (x3 (c_RMake _ _) fi203 rfl) rfl rfl ?_)
   refine A4 ?_
   exact xd5 Plain.mk' rfl ⟨_,_,_,_,_,rfl,rfl,ti28,(Le.of (by rw [rsum3 h198 h201]))⟩
theorem c_RNeg (x:Int):
  Ct Tryz.prog 233 [tWh (wh x)] (tWh (wh (-x))):=by
 refine Ct.intro Tryz.func233 rfl Tryz.ntmps233 rfl ?_
 intro w F
 refine A3 ?_
 refine RE (xa6 (k:=2) (n:=2) (agg:=true) zr28.1 zr28.2 rfl) trivial trivial ⟨rfl,trivial⟩ ?_
 refine A9 ?_
 refine R2 (x3 (c_RMake _ x.natAbs) fi203 rfl) rfl rfl ?_
 refine A4 ?_
 exact xd5 Plain.mk' rfl ⟨_,_,_,_,_,rfl,rfl,ti28,(Le.of (by rw [rneg1]))⟩
theorem c_RProduct (x y:Int) (hx:len16 x≤4001) (hy:len16 y≤4001):
  Ct Tryz.prog 202 [tWh (wh x),tWh (wh y)] (tWh (wh (x*y))):=by
 refine Ct.intro Tryz.func202 rfl Tryz.ntmps202 rfl ?_
 intro w F
 refine A4 ?_
 refine RE (xa6 (k:=4) (n:=2) (agg:=true) zr28.1 zr28.2 rfl) trivial trivial ⟨rfl,trivial⟩ ?_
 refine A9 ?_
 refine A4 ?_
 refine R2 (x3 (c_RTimes x.natAbs y.natAbs (by show len16 x≤100000;omega) (by show len16 y≤100000;omega)) fi229 rfl) rfl rfl (R2 (x3 (c_RMake _ _) fi203 rfl) rfl rfl ?_)
 refine A4 ?_
 exact xd5 Plain.mk' rfl ⟨_,_,_,_,_,rfl,rfl,ti28,(Le.of (by rw [sgn_mul]))⟩
theorem c_ROrder (x y:Int) (hx:len16 x≤4000) (hy:len16 y≤4000):
  Ct Tryz.prog 205 [tWh (wh x),tWh (wh y)] (tI (cmpZ x y)):=by
 have hny:=len16_neg y
 refine Ct.intro Tryz.func205 rfl Tryz.ntmps205 rfl ?_
 intro w F
 refine A9 ?_
 refine A2 ?_
 refine R1 (x3 (c_RNeg y) fi233 rfl) rfl (R2 (x3 (c_RSum x (-y) (by omega) (by omega)) fi228 rfl) rfl rfl (RE (xa6 (k:=5) (n:=2) (agg:=true) zr28.1 zr28.2 rfl) trivial trivial ⟨rfl,trivial⟩ ?_))
 refine A9 ?_
 refine A1 ?_
 refine xd2 rfl (fun h280=> ?_) (fun h280=> ?_)
 ·
  have hlt:x+ -y < 0:=of_decide_eq_true h280
  refine A7 ?_
  exact x4 Plain.mk' rfl rfl (Le.int (by rw [cmpZ,if_pos (by omega)]))
 ·
  have hlt: ¬x+ -y < 0:=of_decide_eq_false h280
  refine A9 ?_
  refine A2 ?_
  refine x9 rfl (fun h283=> ?_) (fun h283=> ?_)
  ·
   have hne:x+ -y≠0:=fun h=>by have:=len_nil.2 h;omega
   refine A7 ?_
   exact x4 Plain.mk' rfl rfl (Le.int (by rw [cmpZ,if_neg (by omega),if_neg (by omega)]))
  ·
   have hne:x+ -y=0:=len_nil.1 (by omega)
   refine A8 ?_
   exact x4 Plain.mk' rfl rfl (Le.int (by rw [cmpZ,if_neg (by omega),if_pos (by omega)]))
theorem c_RFits (f:Fr):
  Ct Tryz.prog 138 [tFr f] (tB f.sh):=by
 refine Ct.intro Tryz.func138 rfl Tryz.ntmps138 rfl ?_
 intro w F
 refine A9 ?_
 refine A1 ?_
 refine xg1 (0) ti26 rfl rfl rfl (At.t (At.g 0 rfl rfl) (At.g 1 rfl rfl)) rfl ?_
 refine A3 ?_
 refine RGcaseD (t:=8) rfl (fun h27=> ?_) (fun h27=> ?_)
 ·
  refine A2 ?_
  refine xc5 (decide_eq_true h27) rfl rfl (0) ti26 rfl rfl rfl (At.t (At.g 1 rfl rfl) (At.g 1 rfl rfl)) rfl ?_
  refine A7 ?_
  exact x4 Plain.mk' rfl rfl (Le.bool (by rw [Fr.sh,decide_eq_true (show f.n.l.length≤256 by omega),Bool.true_and];exact decide_eq_decide.2 (by omega)))
 ·
  refine A9 ?_
  refine A1 ?_
  exact x4 Plain.mk' rfl rfl (Le.bool (by rw [Fr.sh,decide_eq_false (show ¬f.n.l.length≤256 by omega)];rfl))
theorem one_dec2 {x y:Int}:decide (dig 65536 (Nat.gcd x.natAbs y.natAbs)=[1])=decide (Int.gcd x y=1):=by
  have h1:dig 65536 1=[1]:=by rw [dig_pos x7 (by decide),show (1:Nat) / 65536=0 by decide,xd9]
  refine decide_eq_decide.2 ⟨fun h=> ?_,fun h=> ?_⟩
  · rw [←h1] at h
    have h2:=congrArg (val 65536) h
    rw [val_dig x7,val_dig x7] at h2
    exact h2
  · have h:Nat.gcd x.natAbs y.natAbs=1:=h
    rw [h,h1]
theorem c_R2Valid (f:Fr) (hn:Dig 65536 f.n.l) (hd:Dig 65536 f.d.l):
  Ct Tryz.prog 71 [tFr f] (tB f.valid):=by
 obtain ⟨n,d⟩:=f
 replace hn:Dig 65536 n.l:=hn
 replace hd:Dig 65536 d.l:=hd
 refine Ct.intro Tryz.func71 rfl Tryz.ntmps71 rfl ?_
 intro w F
 refine A9 ?_
 refine A2 ?_
 refine R1 (x3 (c_RValid n) fi137 rfl) rfl ?_
 refine A2 ?_
 refine RGcase (t:=7) rfl (fun h39=> ?_) (fun h39=> ?_)
 ·
  have hv1:n.valid=false:=by simpa using h39
  refine A9 ?_
  refine A9 ?_
  refine A9 ?_
  refine A5 ?_
  exact x4 Plain.mk' rfl rfl (Le.bool (by simp only [Fr.valid,hv1,Bool.and_false,Bool.false_and]))
 ·
  have hv1:n.valid=true:=by simpa using h39
  refine A2 ?_
  refine RGon h39 rfl (x3 (c_RValid d) fi137 rfl) rfl ⟨rfl,trivial⟩ trivial trivial ?_
  refine A3 ?_
  refine RGcase (t:=13) rfl (fun h39_2=> ?_) (fun h39_2=> ?_)
  ·
   have hv2:d.valid=false:=by simpa using h39_2
   refine A9 ?_
   refine A9 ?_
   refine A8 ?_
   exact x4 Plain.mk' rfl rfl (Le.bool (by simp only [Fr.valid,hv2,Bool.and_false,Bool.false_and]))
  ·
   have hv2:d.valid=true:=by simpa using h39_2
   obtain ⟨x,rfl,hxl⟩:=Wh.of_valid hn hv1
   obtain ⟨y,rfl,hyl⟩:=Wh.of_valid hd hv2
   have ix:=int_wh x
   have iy:=int_wh y
   refine A1 ?_
   refine RGon h39_2 rfl (x3 (c_RFits _) fi138 rfl) rfl ⟨rfl,trivial⟩ trivial trivial ?_
   refine A3 ?_
   refine RGcase (t:=18) rfl (fun h39_3=> ?_) (fun h39_3=> ?_)
   ·
    have hs:(⟨wh x,wh y⟩:Fr).sh=false:=by simpa using h39_3
    refine A9 ?_
    refine A9 ?_
    refine A3 ?_
    exact x4 Plain.mk' rfl rfl (Le.bool (by simp only [Fr.valid,hs,Bool.false_and]))
   ·
    have hs:(⟨wh x,wh y⟩:Fr).sh=true:=by simpa using h39_3
    refine A2 ?_
    refine xc5 h39_3 rfl rfl (0) ti4 rfl rfl rfl (At.t (At.g 1 rfl rfl) (At.g 0 rfl rfl)) rfl ?_
    refine A2 ?_
    refine RGcase (t:=23) rfl (fun h39_4=> ?_) (fun h39_4=> ?_)
    ·
     have hy0: ¬0 < y:=by have:y < 0:=of_decide_eq_true h39_4;omega
     refine A9 ?_
     refine A7 ?_
     exact x4 Plain.mk' rfl rfl (Le.bool (by simp only [Fr.valid,ix,iy,decide_eq_false hy0,Bool.and_false,Bool.false_and]))
    ·
     refine A2 ?_
     refine xc5 h39_4 rfl rfl (0) ti26 rfl rfl rfl (At.t (At.g 1 rfl rfl) (At.g 1 rfl rfl)) rfl ?_
     refine A5 ?_
     refine x9 rfl (fun h39_5=> ?_) (fun h39_5=> ?_)
     ·
      have h5:(((wh y).l.length:Nat):Int)=0:=h39_5
      have hy0: ¬0 < y:=fun h=>by have:=len_nil.1 (show (wh y).l.length=0 by omega);omega
      refine A7 ?_
      exact x4 Plain.mk' rfl rfl (Le.bool (by simp only [Fr.valid,ix,iy,decide_eq_false hy0,Bool.and_false,Bool.false_and]))
     ·
      have h5: ¬(((wh y).l.length:Nat):Int)=0:=h39_5
      have hy0:0 < y:=pos_of_wh h39_4 (by omega)
      refine A6 ?_
      refine xg1 (0) ti26 rfl rfl rfl (At.t (At.g 0 rfl rfl) (At.g 1 rfl rfl)) rfl ?_
      refine A2 ?_
      refine xg1 (0) ti26 rfl rfl rfl (At.t (At.g 1 rfl rfl) (At.g 1 rfl rfl)) rfl (R2 (x3 (c_RCommon x.natAbs y.natAbs (by show len16 x≤4000;omega) (by show len16 y≤4000;omega)) fi140 rfl) rfl rfl (R1 (x3 (c_Rone _) fi139 rfl) rfl ?_))
      refine A4 ?_
      exact x4 Plain.mk' rfl rfl (Le.bool (by simp only [Fr.valid,ix,iy,hs,hv1,hv2,decide_eq_true hy0,Bool.true_and];exact one_dec2))
theorem c_R2Order (a b:Rat) (ha:short a) (hb:short b):
  Ct Tryz.prog 141 [tFr (fr a),tFr (fr b)] (tI (cmpQ a b)):=by
 obtain ⟨an,ad⟩:=ha
 obtain ⟨bn,bd⟩:=hb
 have ha:short a:=⟨an,ad⟩
 have hb:short b:=⟨bn,bd⟩
 have da:=a.den_nz
 have db:=b.den_nz
 have l1:=len16_mul an bd
 have l2:=len16_mul bn ad
 refine Ct.intro Tryz.func141 rfl Tryz.ntmps141 rfl ?_
 intro w F
 refine A9 ?_
 refine A4 ?_
 refine R2 (x3 (c_RProduct a.num (b.den:Int) (by omega) (by omega)) fi202 rfl) rfl rfl ?_
 refine A4 ?_
 refine R2 (x3 (c_RProduct b.num (a.den:Int) (by omega) (by omega)) fi202 rfl) rfl rfl (R2 (x3 (c_ROrder (a.num*(b.den:Int)) (b.num*(a.den:Int)) (by omega) (by omega)) fi205 rfl) rfl rfl ?_)
 refine A4 ?_
 exact x4 Plain.mk' rfl rfl (Le.int (cmpQ_eq a b))
theorem c_R2FromInt (n:Int) (h1: -9223372036854775808≤n) (h2:n≤9223372036854775807):
  Ct Tryz.prog 76 [tI n] (tFr (fr (n:Rat))):=by
 refine Ct.intro Tryz.func76 rfl Tryz.ntmps76 rfl ?_
 intro w F
 refine A2 ?_
 refine RE (xa6 (k:=2) (n:=4) (agg:=true) zr30.1 zr30.2 rfl) trivial trivial ⟨rfl,trivial⟩ ?_
 refine A5 ?_
 refine R1 (x3 (c_RFromInt n h1 h2) fi136 rfl) rfl (R1 (x3 (c_RFromInt 1 (by decide) (by decide)) fi136 rfl) rfl (R2 (xb0 (r:=tS [⟨2,true,tWh (wh n)⟩,⟨2,true,tWh (wh 1)⟩]) (ts:=[(0,tWh (wh n)),(1,tWh (wh 1))]) bu30 zr30.2 ⟨_,rfl⟩ rfl ⟨_,_,_,_,rfl,Up.f (fs:=[⟨2,true,(tS [⟨1,false,(tE (.bool false))⟩,⟨1,false,(tLm [])⟩])⟩,⟨2,true,(tS [⟨1,false,(tE (.bool false))⟩,⟨1,false,(tLm [])⟩])⟩]) (f:=⟨2,true,(tS [⟨1,false,(tE (.bool false))⟩,⟨1,false,(tLm [])⟩])⟩) (fs':=[⟨2,true,tWh (wh n)⟩,⟨2,true,(tS [⟨1,false,(tE (.bool false))⟩,⟨1,false,(tLm [])⟩])⟩]) 0 rfl rfl rfl,inferInstance,⟨_,_,_,_,rfl,Up.f (fs:=[⟨2,true,tWh (wh n)⟩,⟨2,true,(tS [⟨1,false,(tE (.bool false))⟩,⟨1,false,(tLm [])⟩])⟩]) (f:=⟨2,true,(tS [⟨1,false,(tE (.bool false))⟩,⟨1,false,(tLm [])⟩])⟩) (fs':=[⟨2,true,tWh (wh n)⟩,⟨2,true,tWh (wh 1)⟩]) 1 rfl rfl rfl,inferInstance,Le.refl⟩⟩) rfl rfl ?_))
 refine A4 ?_
 exact xd5 Plain.mk' rfl ⟨_,_,_,_,_,rfl,rfl,ti30,(Le.of (by rw [fr,Rat.num_intCast,Rat.den_intCast];rfl))⟩
end An.S

/- What is lent to a call: steps; whether it is kept; what is written over it. -/
namespace An.S
open Go Go.Proofs An
set_option maxHeartbeats 2000000
set_option maxRecDepth 100000
instance fi32:FnI Tryz.prog 32:=⟨_,Tryz.func32,by kernel_rfl,rfl⟩
instance fi42:FnI Tryz.prog 42:=⟨_,Tryz.func42,by kernel_rfl,rfl⟩
instance fi43:FnI Tryz.prog 43:=⟨_,Tryz.func43,by kernel_rfl,rfl⟩
instance fi67:FnI Tryz.prog 67:=⟨_,Tryz.func67,by kernel_rfl,rfl⟩
instance fi83:FnI Tryz.prog 83:=⟨_,Tryz.func83,by kernel_rfl,rfl⟩
instance fi84:FnI Tryz.prog 84:=⟨_,Tryz.func84,by kernel_rfl,rfl⟩
instance fi130:FnI Tryz.prog 130:=⟨_,Tryz.func130,by kernel_rfl,rfl⟩
/-- The marks behind lent limbs. -/
def mk16:List Nat:=(List.range 12).map fun i=>(8000024+i)%65536
theorem mk16_len:mk16.length=12:=rfl
theorem mk16_at {j:Nat} (h:j < 12):mk16.getD j 0=(8000024+j)%65536:=by
  have: ∀j,j < 12→mk16.getD j 0=(8000024+j)%65536:=by decide
  exact this j h
theorem mk16_take {i:Nat} (h:i < 12):mk16.take (i+1)=mk16.take i++[(8000024+i)%65536]:=by
  rw [List.take_succ_eq_append_getElem (by rw [mk16_len];exact h)]
  congr 2
  have:=mk16_at h
  rw [List.getD_eq_getElem?_getD,List.getElem?_eq_getElem (by rw [mk16_len];exact h)] at this
  exact this
theorem cutM {i:Nat}:IntKind.u16.wrap (1000003*(1+7)+(i:Int))=(((8000024+i)%65536:Nat):Int):=by rw [mu16];omega
abbrev tLmK (l:List Nat):Ty:=tLK 1 false (fun n:Nat=>tE (.int .u16 (n:Int))) l mk16
abbrev tWhK (x:Wh):Ty:=tS [⟨1,false,tB x.neg⟩,⟨1,false,tLmK x.l⟩]
abbrev tFrK (f:Fr):Ty:=tS [⟨2,true,tWhK f.n⟩,⟨2,true,tWhK f.d⟩]
abbrev tVaK (v:Va):Ty:=tS [⟨1,false,tE (.int .u8 (v.kind:Int))⟩,⟨4,true,tFrK v.f⟩,⟨1,false,tI v.i⟩]
theorem whK_le {x:Wh}:Le (tWhK x) (tWh x):=Le.tS ⟨⟨rfl,rfl,Le.refl⟩,⟨rfl,rfl,tLK_le⟩,trivial⟩
theorem frK_le {f:Fr}:Le (tFrK f) (tFr f):=Le.tS ⟨⟨rfl,rfl,whK_le⟩,⟨rfl,rfl,whK_le⟩,trivial⟩
theorem vaK_le {v:Va}:Le (tVaK v) (tVa v):=Le.tS ⟨⟨rfl,rfl,Le.refl⟩,⟨rfl,rfl,frK_le⟩,⟨rfl,rfl,Le.refl⟩,trivial⟩
theorem app_l {l m:List Nat} {i:Nat} (h:i < l.length):(l++m).getD i 0=l.getD i 0:=by
  rw [List.getD_eq_getElem?_getD,List.getElem?_append_left h,←List.getD_eq_getElem?_getD]
theorem app_r {l m:List Nat} {i:Nat} (h:l.length≤i):(l++m).getD i 0=m.getD (i - l.length) 0:=by
  rw [List.getD_eq_getElem?_getD,List.getElem?_append_right h,←List.getD_eq_getElem?_getD]
theorem c_mark1 (i:Nat) (h:i < 12):
  Ct Tryz.prog 84 [tI 1,tI i] (tI (1000003*(1+7)+(i:Int))):=by
 refine Ct.intro Tryz.func84 rfl Tryz.ntmps84 rfl ?_
 intro w F
 refine A9 ?_
 refine R2 (d_mul (wr64 (by omega) (by omega))) rfl rfl ?_
 refine A6 ?_
 exact x4 Plain.mk' rfl rfl Le.refl
abbrev tLmW (l:List Nat):Ty:=tLW 42 1 false (fun n:Nat=>tE (.int .u16 (n:Int))) l mk16
abbrev tWhW (x:Wh):Ty:=tS [⟨1,false,tB x.neg⟩,⟨1,false,tLmW x.l⟩]
abbrev tFrW (f:Fr):Ty:=tS [⟨2,true,tWhW f.n⟩,⟨2,true,tWhW f.d⟩]
abbrev tVaW (v:Va):Ty:=tS [⟨1,false,tE (.int .u8 (v.kind:Int))⟩,⟨4,true,tFrW v.f⟩,⟨1,false,tI v.i⟩]
abbrev tTsW (s:Tst):Ty:=tS [⟨1,false,tI s.lo⟩,⟨1,false,tI s.hi⟩,⟨6,true,tVaW s.v⟩]
theorem whWK {x:Wh}:Le (tWhW x) (tWhK x):=Le.tS ⟨⟨rfl,rfl,Le.refl⟩,⟨rfl,rfl,tLW_le⟩,trivial⟩
theorem frWK {f:Fr}:Le (tFrW f) (tFrK f):=Le.tS ⟨⟨rfl,rfl,whWK⟩,⟨rfl,rfl,whWK⟩,trivial⟩
theorem vaWK {v:Va}:Le (tVaW v) (tVaK v):=Le.tS ⟨⟨rfl,rfl,Le.refl⟩,⟨rfl,rfl,frWK⟩,⟨rfl,rfl,Le.refl⟩,trivial⟩
theorem vaW_le {v:Va}:Le (tVaW v) (tVa v):=Le.trans vaWK vaK_le
theorem tsW_le {s:Tst}:Le (tTsW s) (tTs s):=Le.tS ⟨⟨rfl,rfl,Le.refl⟩,⟨rfl,rfl,Le.refl⟩,⟨rfl,rfl,vaW_le⟩,trivial⟩
/-- A lent step, or a mark behind them. -/
abbrev tTsM (x:Tst×Bool):Ty:=cond x.2 (tTsW x.1) (tTs x.1)
instance {x:Tst×Bool}:Shape (tTsM x) 8 true:=by
  obtain ⟨s,b⟩:=x
  cases b
  · exact (inferInstance:Shape (tTs s) 8 true)
  · exact (inferInstance:Shape (tTsW s) 8 true)
theorem tsM_le {x:Tst×Bool}:Le (tTsM x) (tTs x.1):=by
  obtain ⟨s,b⟩:=x
  cases b
  · exact Le.refl
  · exact tsW_le
def va00:Va:=⟨0,fr0,0⟩
def smk (k i:Nat):Tst:=⟨1000003*((k:Int)+7)+(i:Int),0,va00⟩
def mkT:List Tst:=(List.range 12).map (smk 1)
theorem mkT_len:mkT.length=12:=rfl
theorem mkT_at {j:Nat} (h:j < 12):mkT.getD j tst0=smk 1 j:=by
  have hl:j < mkT.length:=by rw [mkT_len];exact h
  rw [List.getD_eq_getElem?_getD,List.getElem?_eq_getElem hl,Option.getD_some]
  simp [mkT]
theorem mkT_take {i:Nat} (h:i < 12):mkT.take (i+1)=mkT.take i++[smk 1 i]:=by
  rw [List.take_succ_eq_append_getElem (by rw [mkT_len];exact h)]
  congr 2
  have:=mkT_at h
  rw [List.getD_eq_getElem?_getD,List.getElem?_eq_getElem (by rw [mkT_len];exact h)] at this
  exact this
/-- Lent steps and the marks behind them. -/
def lmT (l:List Tst):List (Tst×Bool):=l.map (·,true)
def mmT (m:List Tst):List (Tst×Bool):=m.map (·,false)
abbrev tStW (l:List Tst):Ty:=tLW 34 8 true tTsM (lmT l) (mmT mkT)
theorem lmT_len {l:List Tst}:(lmT l).length=l.length:=List.length_map ..
theorem mmT_len {l:List Tst}:(mmT l).length=l.length:=List.length_map ..
theorem lmT_take {l:List Tst} {i:Nat} (h:i < l.length):lmT (l.take (i+1))=lmT (l.take i)++[(l.getD i tst0,true)]:=by
  rw [lmT,lmT,List.take_succ_eq_append_getElem h,List.map_append,List.getD_eq_getElem?_getD,List.getElem?_eq_getElem h];rfl
theorem mmT_snoc {l:List Tst} {x:Tst}:mmT (l++[x])=mmT l++[(x,false)]:=by rw [mmT,List.map_append];rfl
def tm0:Tst×Bool:=(tst0,false)
theorem lm_l {l m:List Tst} {i:Nat} (h:i < l.length):(lmT l++mmT m).getD i tm0=(l.getD i tst0,true):=by
  rw [List.getD_eq_getElem?_getD,List.getElem?_append_left (by rw [lmT_len];exact h),lmT,List.getElem?_map,List.getElem?_eq_getElem h,List.getD_eq_getElem?_getD,List.getElem?_eq_getElem h];rfl
theorem lm_r {l m:List Tst} {i:Nat} (h:l.length≤i) (h2:i - l.length < m.length):(lmT l++mmT m).getD i tm0=(m.getD (i - l.length) tst0,false):=by
  rw [List.getD_eq_getElem?_getD,List.getElem?_append_right (by rw [lmT_len];exact h),lmT_len,mmT,List.getElem?_map,List.getElem?_eq_getElem h2,List.getD_eq_getElem?_getD,List.getElem?_eq_getElem h2];rfl
theorem va00N {G:Dom}:Le (tVa va00) (tG G (tVa va00)):=leG_S ⟨⟨rfl,rfl,tG_E⟩,⟨rfl,rfl,fr0N⟩,⟨rfl,rfl,tG_E⟩,trivial⟩
theorem stW_le {l:List Tst}:Le (tStW l) (tL 8 true tTs l):=fun F w v h=>by
  obtain ⟨A,c,h1,h2,h3,h4⟩:=le_L (fun x=>tsM_le) _ _ _ (tLW_leL _ _ _ h)
  rw [lmT_len] at h1 h2
  refine ⟨A,c,h1,h2,h3,h4.imp (fun h=>by rw [lmT] at h;exact List.map_eq_nil_iff.1 h) fun ⟨b,o,e,hb,hx⟩=>⟨b,o,e,hb,fun i x hi=>hx i (x,true) (by rw [lmT,List.getElem?_map,hi];rfl)⟩⟩
theorem c_LentLimbsN (l:List Nat) (hl:l.length≤1048576):
    CtN Tryz.prog 130 [tLm l] (fun nw=>tG (up nw) (tLmW l)):=by
  refine CtN.intro Tryz.func130 rfl Tryz.ntmps130 rfl ?_
  intro w F
  refine A9 ?_
  refine A1 ?_
  refine RE (xg8 (k:=8) (t:=tE (.int .u16 0)) (ts:=([]:List Ent)) (0) (l.length+12) Tryz.underlying26 el42 (fun _ _=>rfl) rfl (by omega) (by omega) (by omega) (by omega) (by omega) rfl) ⟨rfl,rfl,trivial⟩ trivial ⟨rfl,trivial⟩ ?_
  refine A7 ?_
  refine RE (xc1 (k:=8) (k':=11) (ys:=l) (ts':=rW .u16 l) Tryz.underlying26 el42 zf42 rfl rfl (fun _=>inferInstance) rfl (by simp;omega) (by simp;omega) (by simp [rW]) (n':=l.length) (by simp)) ⟨rfl,rfl,trivial⟩ ⟨rfl,trivial⟩ ⟨rfl,trivial⟩ ?_
  refine A9 ?_
  refine A1 ?_
  refine cL (fun (i:Nat)=>i≤12) (fun (i:Nat)=>upd (upd (upd (fun _=>none) 0 (some (.val (tLm l)))) 3 (some (.own (.sl 11 1 0 (l.length+i))))) 4 (some (.val (tI i)))) (fun (i:Nat)=>upd (fun _=>none) 11 (some (⟨42,1,false,rW .u16 (l++mk16.take i)⟩))) [11] (fun (i:Nat)=>12 - i) (0) (Nat.zero_le _) (hh:=((SubK.consI rfl (ImpK.of (by rw [List.take_zero,List.append_nil]))) SubK.nil)) ?_
  intro i hI
  have htl:(l++mk16.take i).length=l.length+i:=by rw [List.length_append,List.length_take,mk16_len];omega
  refine A7 ?_
  refine x9 rfl (fun h64=> ?_) (fun h64=> ?_)
  ·
    refine A7 ?_
    refine R2 (x3 (c_mark1 i (by omega)) fi84 rfl) rfl rfl ?_
    refine R1 (x8 Tryz.underlying42 (isS Tryz.underlying3) cutM) rfl ?_
    refine R1 (d_nums (n:=1) [((8000024+i)%65536)] Tryz.underlying26 el42 zf42 rfl rfl rfl) rfl ?_
    refine RE (xc1 (k:=11) (k':=21) (ys:=[((8000024+i)%65536)]) (ts':=rW .u16 (l++mk16.take i++[((8000024+i)%65536)])) Tryz.underlying26 el42 zf42 rfl rfl (fun _=>inferInstance) (rW_len.trans htl) (by simp;omega) (by simp;omega) (by simp [rW]) (n':=l.length+i+1) rfl) ⟨rfl,rfl,trivial⟩ ⟨rfl,trivial⟩ ⟨rfl,trivial⟩ ?_
    refine A9 ?_
    exact xe6 (l:=[11]) (fun j=>cond (Nat.beq j 11) 21 (j)) (i+1) ⟨(by omega),(by omega)⟩ (SubR.int rfl (by first | omega | rfl | (dsimp only;omega)) (SubR.cons rfl (SubR.cons rfl SubR.nil))) ((SubKR.consI rfl (ImpK.of (by rw [mk16_take (by omega),←List.append_assoc];exact xg9.symm))) SubKR.nil) (SupG.val (SupG.own rfl (SupG.val SupG.nil))) (SupH.cons rfl (supJ xf2) SupH.nil) (lkOk rfl) rfl rfl (fun _ h=>by cases h)
  ·
    refine A9 ?_
    refine A1 ?_
    refine RE (d_keepOW (k:=11) (f:=fun n:Nat=>tE (.int .u16 (n:Int))) (xs:=l) (ms:=mk16) (up w.heap.size) (fun _ h=>h) sl26 (fun _ h=>h) (fun _ _=>tG_E) (by rw [rW,show i=12 by omega,show mk16.take 12=mk16 from rfl]) (by rw [mk16_len];omega) (by omega) rfl) ⟨rfl,rfl,trivial⟩ ⟨rfl,trivial⟩ trivial ?_
    refine A4 ?_
    exact x4 Plain.mk' rfl rfl Le.refl
theorem c_KeptLimbs (l:List Nat) (hl:l.length≤1048576):
  Ct Tryz.prog 148 [tLmK l,tLm l] (tB true):=by
 have hml:(l++mk16).length=l.length+12:=by rw [List.length_append,mk16_len]
 refine Ct.intro Tryz.func148 rfl Tryz.ntmps148 rfl ?_
 intro w F
 refine A9 ?_
 refine R1 (d_lenK Tryz.underlying26) rfl ?_
 refine A5 ?_
 refine xa8 rfl (decide_eq_false (by omega)) ?_
 refine A8 ?_
 refine R2 (d_sliceK sl26 (by rw [mk16_len];omega)) rfl rfl ?_
 refine A9 ?_
 refine A1 ?_
 refine cL (fun (i:Nat)=>i≤(l++mk16).length) (fun (i:Nat)=>upd (upd (upd (fun _=>none) 1 (some (.val (tLm l)))) 5 (some (.val (tLm (l++mk16))))) 6 (some (.val (tI i)))) (fun (i:Nat)=>fun _=>none) [] (fun (i:Nat)=>(l++mk16).length - i) (0) (Nat.zero_le _) ?_
 intro i hI
 refine A9 ?_
 refine x9 rfl (fun h75=> ?_) (fun h75=> ?_)
 ·
  refine A9 ?_
  refine A2 ?_
  refine RGcaseD (t:=27) rfl (fun h76=> ?_) (fun h76=> ?_)
  ·
   refine A2 ?_
   refine RGon (decide_eq_true h76) rfl (x6 sl26 (i) (by omega) (gN (by omega))) rfl ⟨rfl,rfl,trivial⟩ trivial trivial ?_
   refine A3 ?_
   refine RGon (decide_eq_true h76) rfl (x6 sl26 (i) (by omega) (gN (by omega))) rfl ⟨rfl,rfl,trivial⟩ trivial trivial ?_
   refine A5 ?_
   refine RGon (xb7 (by rw [app_l (by omega)])) rfl xa2 rfl ⟨rfl,trivial⟩ trivial trivial (RGon (xb7 (by rw [app_l (by omega)])) rfl xa2 rfl ⟨rfl,trivial⟩ trivial trivial (RGon (xb7 (by rw [app_l (by omega)])) rfl (d_len Tryz.underlying26) rfl ⟨rfl,trivial⟩ trivial trivial (RGon (xb7 (by rw [app_l (by omega)])) rfl d_geq rfl ⟨rfl,rfl,trivial⟩ trivial trivial (RGon (xb7 (by rw [app_l (by omega)])) rfl xa2 rfl ⟨rfl,trivial⟩ trivial trivial (RGoff (decide_eq_false (by omega)) rfl rfl (RGoff (decide_eq_false (by omega)) rfl rfl (RGoff (decide_eq_false (by omega)) rfl rfl ?_)))))))
   refine RGoff (decide_eq_false (by omega)) rfl rfl (RGoff (decide_eq_false (by omega)) rfl rfl (RGoff (decide_eq_false (by omega)) rfl rfl (RGoff (decide_eq_false (by omega)) rfl rfl (RGoff (decide_eq_false (by omega)) rfl rfl (RGoff (decide_eq_false (by omega)) rfl rfl (RGoff (decide_eq_false (by omega)) rfl rfl (RGoff (decide_eq_false (by omega)) rfl rfl ?_)))))))
   refine RGoff (decide_eq_false (by omega)) rfl rfl (RGon (xb7 (by rw [app_l (by omega)])) rfl (xg3 (decide_eq_false (by omega))) rfl ⟨rfl,rfl,trivial⟩ trivial trivial (R2 (xg3 (xb7 (by rw [app_l (by omega)]))) rfl rfl ?_))
   refine A9 ?_
   refine A2 ?_
   exact kF (i+1) ⟨(by omega),(by omega)⟩
  ·
   refine A9 ?_
   refine A8 ?_
   refine RGon (decide_eq_true (by omega)) rfl xa2 rfl ⟨rfl,trivial⟩ trivial trivial (RGon (decide_eq_true (by omega)) rfl xa2 rfl ⟨rfl,trivial⟩ trivial trivial (RGon (decide_eq_true (by omega)) rfl (x6 sl26 (i) (by omega) (gN (by omega))) rfl ⟨rfl,rfl,trivial⟩ trivial trivial (RGon (decide_eq_true (by omega)) rfl (d_loadP ti42) rfl ⟨rfl,trivial⟩ trivial trivial (RGon (decide_eq_true (by omega)) rfl xa2 rfl ⟨rfl,trivial⟩ trivial trivial (RGon (decide_eq_true (by omega)) rfl xa2 rfl ⟨rfl,trivial⟩ trivial trivial (RGon (decide_eq_true (by omega)) rfl (d_len Tryz.underlying26) rfl ⟨rfl,trivial⟩ trivial trivial (RGon (decide_eq_true (by omega)) rfl (xe4 (r:=((i - l.length:Nat):Int)) (by rw [wr64 (by omega) (by omega)];omega)) rfl ⟨rfl,rfl,trivial⟩ trivial trivial ?_)))))))
   refine RGon (decide_eq_true (by omega)) rfl (x3 (c_mark1 (i - l.length) (by omega)) fi84 rfl) rfl ⟨rfl,rfl,trivial⟩ trivial trivial (RGon (decide_eq_true (by omega)) rfl (x8 Tryz.underlying42 (isS Tryz.underlying3) cutM) rfl ⟨rfl,trivial⟩ trivial trivial (RGon (decide_eq_true (by omega)) rfl d_eql rfl ⟨rfl,rfl,trivial⟩ trivial trivial (RGon (decide_eq_true (by omega)) rfl d_not rfl ⟨rfl,trivial⟩ trivial trivial (RGon rfl rfl (xg7 (decide_eq_true (by omega))) rfl ⟨rfl,rfl,trivial⟩ trivial trivial ?_))))
   refine A3 ?_
   refine xa8 rfl (xb7 (by rw [app_r (by omega),mk16_at (by omega)])) ?_
   refine A8 ?_
   exact kF (i+1) ⟨(by omega),(by omega)⟩
 ·
  refine A9 ?_
  refine A2 ?_
  exact x4 Plain.mk' rfl rfl Le.refl
theorem c_LentWholeN (x:Wh) (hl:x.l.length≤1048576):
    CtN Tryz.prog 67 [tWh x] (fun nw=>tG (up nw) (tWhW x)):=by
  refine CtN.intro Tryz.func67 rfl Tryz.ntmps67 rfl ?_
  intro w F
  refine A3 ?_
  refine RE (xa6 (k:=2) (n:=2) (agg:=true) zr28.1 zr28.2 rfl) trivial trivial ⟨rfl,trivial⟩ ?_
  refine A6 ?_
  refine R1 (d_callW (ts:=[_]) (r:=tG (up w.heap.size) _) (c_LentLimbsN x.l hl) fi130 (fun m hm=>tG_up hm) ⟨Le.refl,trivial⟩ rfl) rfl ?_
  refine A1 ?_
  refine R_storeF (0) ti26 rfl rfl rfl rfl (Up.g 1 rfl rfl rfl) rfl rfl ?_
  refine A3 ?_
  refine C_key (k:=1) (e':=⟨28,2,true,[.val (tS [⟨1,false,tB x.neg⟩,⟨1,false,tG (up w.heap.size) (tLmW x.l)⟩])]⟩) rfl rfl ?_
  refine A6 ?_
  exact xd5 Plain.mk' rfl ⟨_,_,_,_,_,rfl,rfl,ti28,(leG_S ⟨⟨rfl,rfl,tG_E⟩,⟨rfl,rfl,Le.refl⟩,trivial⟩)⟩
theorem c_LentFracN (f:Fr) (h1:f.n.l.length≤1048576) (h2:f.d.l.length≤1048576):
    CtN Tryz.prog 32 [tFr f] (fun nw=>tG (up nw) (tFrW f)):=by
  refine CtN.intro Tryz.func32 rfl Tryz.ntmps32 rfl ?_
  intro w F
  refine A3 ?_
  refine RE (xa6 (k:=2) (n:=4) (agg:=true) zr30.1 zr30.2 rfl) trivial trivial ⟨rfl,trivial⟩ ?_
  refine A6 ?_
  refine R1 (d_callW (ts:=[_]) (r:=tG (up w.heap.size) _) (c_LentWholeN f.n h1) fi67 (fun m hm=>tG_up hm) ⟨Le.refl,trivial⟩ rfl) rfl ?_
  refine A1 ?_
  refine R_storeF (0) ti28 rfl rfl rfl rfl (Up.g 0 rfl rfl rfl) rfl rfl ?_
  refine A6 ?_
  refine R1 (d_callW (ts:=[_]) (r:=tG (up w.heap.size) _) (c_LentWholeN f.d h2) fi67 (fun m hm=>tG_up hm) ⟨Le.refl,trivial⟩ rfl) rfl ?_
  refine A1 ?_
  refine R_storeF (0) ti28 rfl rfl rfl rfl (Up.g 1 rfl rfl rfl) rfl rfl ?_
  refine A3 ?_
  refine C_key (k:=1) (e':=⟨30,4,true,[.val (tS [⟨2,true,tG (up w.heap.size) (tWhW f.n)⟩,⟨2,true,tG (up w.heap.size) (tWhW f.d)⟩])]⟩) rfl rfl ?_
  refine A6 ?_
  exact xd5 Plain.mk' rfl ⟨_,_,_,_,_,rfl,rfl,ti30,(leG_S ⟨⟨rfl,rfl,Le.refl⟩,⟨rfl,rfl,Le.refl⟩,trivial⟩)⟩
theorem c_LentValueN (v:Va) (h1:v.f.n.l.length≤1048576) (h2:v.f.d.l.length≤1048576):
    CtN Tryz.prog 83 [tVa v] (fun nw=>tG (up nw) (tVaW v)):=by
  refine CtN.intro Tryz.func83 rfl Tryz.ntmps83 rfl ?_
  intro w F
  refine A3 ?_
  refine RE (xa6 (k:=2) (n:=6) (agg:=true) zr32.1 zr32.2 rfl) trivial trivial ⟨rfl,trivial⟩ ?_
  refine A6 ?_
  refine R1 (d_callW (ts:=[_]) (r:=tG (up w.heap.size) _) (c_LentFracN v.f h1 h2) fi32 (fun m hm=>tG_up hm) ⟨Le.refl,trivial⟩ rfl) rfl ?_
  refine A1 ?_
  refine R_storeF (0) ti30 rfl rfl rfl rfl (Up.g 1 rfl rfl rfl) rfl rfl ?_
  refine A3 ?_
  refine C_key (k:=1) (e':=⟨32,6,true,[.val (tS [⟨1,false,tE (.int .u8 (v.kind:Int))⟩,⟨4,true,tG (up w.heap.size) (tFrW v.f)⟩,⟨1,false,tI v.i⟩])]⟩) rfl rfl ?_
  refine A6 ?_
  exact xd5 Plain.mk' rfl ⟨_,_,_,_,_,rfl,rfl,ti32,(leG_S ⟨⟨rfl,rfl,tG_E⟩,⟨rfl,rfl,Le.refl⟩,⟨rfl,rfl,tG_E⟩,trivial⟩)⟩
theorem c_LentStepN (s:Tst) (h1:s.v.f.n.l.length≤1048576) (h2:s.v.f.d.l.length≤1048576):
    CtN Tryz.prog 42 [tTs s] (fun nw=>tG (up nw) (tTsW s)):=by
  refine CtN.intro Tryz.func42 rfl Tryz.ntmps42 rfl ?_
  intro w F
  refine A3 ?_
  refine RE (xa6 (k:=2) (n:=8) (agg:=true) zr34.1 zr34.2 rfl) trivial trivial ⟨rfl,trivial⟩ ?_
  refine A6 ?_
  refine R1 (d_callW (ts:=[_]) (r:=tG (up w.heap.size) _) (c_LentValueN s.v h1 h2) fi83 (fun m hm=>tG_up hm) ⟨Le.refl,trivial⟩ rfl) rfl ?_
  refine A1 ?_
  refine R_storeF (0) ti32 rfl rfl rfl rfl (Up.g 2 rfl rfl rfl) rfl rfl ?_
  refine A3 ?_
  refine C_key (k:=1) (e':=⟨34,8,true,[.val (tS [⟨1,false,tI s.lo⟩,⟨1,false,tI s.hi⟩,⟨6,true,tG (up w.heap.size) (tVaW s.v)⟩])]⟩) rfl rfl ?_
  refine A6 ?_
  exact xd5 Plain.mk' rfl ⟨_,_,_,_,_,rfl,rfl,ti34,(leG_S ⟨⟨rfl,rfl,tG_E⟩,⟨rfl,rfl,tG_E⟩,⟨rfl,rfl,Le.refl⟩,trivial⟩)⟩
theorem c_markK (k i:Nat) (hk:k < 1000) (hi:i < 10000000):
  Ct Tryz.prog 84 [tI k,tI i] (tI (1000003*((k:Int)+7)+(i:Int))):=by
 refine Ct.intro Tryz.func84 rfl Tryz.ntmps84 rfl ?_
 intro w F
 refine A9 ?_
 refine R2 (d_mul (wr64 (by omega) (by omega))) rfl rfl ?_
 refine A6 ?_
 exact x4 Plain.mk' rfl rfl Le.refl
theorem c_markStep (k i:Nat) (hk:k < 1000) (hi:i < 10000000):
    CtN Tryz.prog 43 [tI k,tI i] (fun nw=>tG (up nw) (tTs (smk k i))):=by
  refine CtN.intro Tryz.func43 rfl Tryz.ntmps43 rfl ?_
  intro w F
  refine A2 ?_
  refine RE (xa6 (k:=4) (n:=8) (agg:=true) zr34.1 zr34.2 rfl) trivial trivial ⟨rfl,trivial⟩ ?_
  refine A6 ?_
  refine R2 (x3 (c_markK k i hk hi) fi84 rfl) rfl rfl ?_
  refine R1 (xb0 (r:=tS [⟨1,false,tI (1000003*((k:Int)+7)+(i:Int))⟩,⟨1,false,(tE (.int .i64 0))⟩,⟨6,true,(tS [⟨1,false,(tE (.int .u8 0))⟩,⟨4,true,(tS [⟨2,true,(tS [⟨1,false,(tE (.bool false))⟩,⟨1,false,(tLm [])⟩])⟩,⟨2,true,(tS [⟨1,false,(tE (.bool false))⟩,⟨1,false,(tLm [])⟩])⟩])⟩,⟨1,false,(tE (.int .i64 0))⟩])⟩]) (ts:=[(0,tI (1000003*((k:Int)+7)+(i:Int)))]) bu34 zr34.2 ⟨_,rfl⟩ rfl ⟨_,_,_,_,rfl,Up.f (fs:=[⟨1,false,(tE (.int .i64 0))⟩,⟨1,false,(tE (.int .i64 0))⟩,⟨6,true,(tS [⟨1,false,(tE (.int .u8 0))⟩,⟨4,true,(tS [⟨2,true,(tS [⟨1,false,(tE (.bool false))⟩,⟨1,false,(tLm [])⟩])⟩,⟨2,true,(tS [⟨1,false,(tE (.bool false))⟩,⟨1,false,(tLm [])⟩])⟩])⟩,⟨1,false,(tE (.int .i64 0))⟩])⟩]) (f:=⟨1,false,(tE (.int .i64 0))⟩) (fs':=[⟨1,false,tI (1000003*((k:Int)+7)+(i:Int))⟩,⟨1,false,(tE (.int .i64 0))⟩,⟨6,true,(tS [⟨1,false,(tE (.int .u8 0))⟩,⟨4,true,(tS [⟨2,true,(tS [⟨1,false,(tE (.bool false))⟩,⟨1,false,(tLm [])⟩])⟩,⟨2,true,(tS [⟨1,false,(tE (.bool false))⟩,⟨1,false,(tLm [])⟩])⟩])⟩,⟨1,false,(tE (.int .i64 0))⟩])⟩]) 0 rfl rfl rfl,inferInstance,Le.refl⟩) rfl ?_
  refine A4 ?_
  exact xd5 Plain.mk' rfl ⟨_,_,_,_,_,rfl,rfl,ti34,(leG_S ⟨⟨rfl,rfl,tG_E⟩,⟨rfl,rfl,tG_E⟩,⟨rfl,rfl,va00N⟩,trivial⟩)⟩
theorem c_LentStepsN (l:List Tst) (hl:l.length≤60) (hs: ∀s∈l,s.v.f.n.l.length≤1048576∧s.v.f.d.l.length≤1048576):
    CtN Tryz.prog 16 [tL 8 true tTs l] (fun nw=>tG (up nw) (tStW l)):=by
  refine CtN.intro Tryz.func16 rfl Tryz.ntmps16 rfl ?_
  intro w F
  refine A9 ?_
  refine A1 ?_
  refine RE (xg8 (k:=10) (t:=(tS [⟨1,false,(tE (.int .i64 0))⟩,⟨1,false,(tE (.int .i64 0))⟩,⟨6,true,(tS [⟨1,false,(tE (.int .u8 0))⟩,⟨4,true,(tS [⟨2,true,(tS [⟨1,false,(tE (.bool false))⟩,⟨1,false,(tLm [])⟩])⟩,⟨2,true,(tS [⟨1,false,(tE (.bool false))⟩,⟨1,false,(tLm [])⟩])⟩])⟩,⟨1,false,(tE (.int .i64 0))⟩])⟩])) (ts:=([]:List Ent)) (0) (l.length+12) Tryz.underlying22 el34 (fun _ _=>⟨_,rfl,rfl,⟨fun _=>rfl,rfl⟩,⟨fun _=>rfl,rfl⟩,⟨fun h=>Bool.noConfusion h,⟨_,rfl,rfl,⟨fun _=>rfl,rfl⟩,⟨fun h=>Bool.noConfusion h,⟨_,rfl,rfl,⟨fun h=>Bool.noConfusion h,⟨_,rfl,rfl,⟨fun _=>rfl,rfl⟩,⟨fun _=>rfl,⟨none,0,rfl,Nat.le_refl _,by decide,.inl rfl⟩⟩,trivial⟩⟩,⟨fun h=>Bool.noConfusion h,⟨_,rfl,rfl,⟨fun _=>rfl,rfl⟩,⟨fun _=>rfl,⟨none,0,rfl,Nat.le_refl _,by decide,.inl rfl⟩⟩,trivial⟩⟩,trivial⟩⟩,⟨fun _=>rfl,rfl⟩,trivial⟩⟩,trivial⟩) rfl (by omega) (by omega) (by omega) (by omega) (by omega) rfl) ⟨rfl,rfl,trivial⟩ trivial ⟨rfl,trivial⟩ ?_
  refine A9 ?_
  refine A1 ?_
  refine cL (fun (i:Nat)=>i≤l.length) (fun (i:Nat)=>upd (upd (upd (fun _=>none) 0 (some (.val (tL 8 true tTs l)))) 3 (some (.own (.sl 10 8 0 i)))) 4 (some (.val (tI i)))) (fun (i:Nat)=>upd (fun _=>none) 10 (some (⟨34,8,true,rV (fun x=>tG (up w.heap.size) (tTsM x)) (lmT (l.take i))⟩))) [10] (fun (i:Nat)=>l.length - i) (0) (Nat.zero_le _) (hh:=((SubK.consI rfl (ImpK.of rfl)) SubK.nil)) ?_
  intro i hI
  have hxl:(lmT (l.take i)).length=i:=by rw [lmT_len,List.length_take];omega
  refine A9 ?_
  refine x9 rfl (fun h379=> ?_) (fun h379=> ?_)
  ·
    refine A8 ?_
    refine R2 (x6 sl22 i (by omega) (gD (l:=l) (n:=i) (d:=tst0) (by omega))) rfl rfl ?_
    refine A1 ?_
    refine R1 (d_callW (ts:=[_]) (r:=tG (up w.heap.size) _) (c_LentStepN (l.getD i tst0) (hs _ (xc2 (l:=l) (by omega))).1 (hs _ (xc2 (l:=l) (by omega))).2) fi42 (fun m hm=>tG_up hm) ⟨Le.refl,trivial⟩ rfl) rfl ?_
    refine RE (xa6 (k:=5) (n:=8) (agg:=true) zr34.1 zr34.2 rfl) trivial trivial ⟨rfl,trivial⟩ ?_
    refine A6 ?_
    refine R1 (xd6 (n:=1) (f:=(fun x=>tG (up w.heap.size) (tTsM x))) [((l.getD i tst0,true):Tst×Bool)] Tryz.underlying22 el34 zf34 rfl (fun _=>inferInstance) rfl rfl rfl) rfl ?_
    refine RE (xc1 (k:=10) (k':=25) (f:=(fun x=>tG (up w.heap.size) (tTsM x))) (ys:=[((l.getD i tst0,true):Tst×Bool)]) (ts':=rV (fun x=>tG (up w.heap.size) (tTsM x)) ((lmT (l.take i))++[((l.getD i tst0,true):Tst×Bool)])) Tryz.underlying22 el34 zf34 rfl rfl (fun _=>inferInstance) (xf1.trans hxl) (by simp;omega) (by simp;omega) (by simp [rV]) (n':=i+1) rfl) ⟨rfl,rfl,trivial⟩ ⟨rfl,trivial⟩ ⟨rfl,trivial⟩ ?_
    refine A9 ?_
    exact xe6 (l:=[10]) (fun j=>cond (Nat.beq j 10) 25 (j)) (i+1) ⟨(by omega),(by omega)⟩ (SubR.int rfl (by first | omega | rfl | (dsimp only;omega)) (SubR.cons rfl (SubR.cons rfl SubR.nil))) ((SubKR.consI rfl (ImpK.of (by rw [lmT_take (by omega)];exact xb9.symm))) SubKR.nil) (SupG.val (SupG.own rfl (SupG.val SupG.nil))) (SupH.cons rfl (supJ xa9) SupH.nil) (lkOk rfl) rfl rfl (fun _ h=>by cases h)
  ·
    refine A9 ?_
    refine A3 ?_
    have hil:i=l.length:=by omega
    subst hil
    refine cL (fun (i:Nat)=>i≤12) (fun (i:Nat)=>upd (upd (upd (fun _=>none) 0 (some (.val (tL 8 true tTs l)))) 3 (some (.own (.sl 10 8 0 (l.length+i))))) 6 (some (.val (tI i)))) (fun (i:Nat)=>upd (fun _=>none) 10 (some (⟨34,8,true,rV (fun x=>tG (up w.heap.size) (tTsM x)) (lmT l++mmT (mkT.take i))⟩))) [10] (fun (i:Nat)=>12 - i) (0) (Nat.zero_le _) (hh:=((SubK.consI rfl (ImpK.of (by rw [List.take_length,List.take_zero,mmT,List.map_nil,List.append_nil]))) SubK.nil)) ?_
    intro i hI
    have hxl:(lmT l++mmT (mkT.take i)).length=l.length+i:=by rw [List.length_append,lmT_len,mmT_len,List.length_take,mkT_len];omega
    refine A7 ?_
    refine x9 rfl (fun h383=> ?_) (fun h383=> ?_)
    ·
      refine A7 ?_
      refine R2 (d_callW (ts:=[_,_]) (r:=tG (up w.heap.size) _) (c_markStep 1 i (by decide) (by omega)) fi43 (fun m hm=>tG_up hm) ⟨Le.refl,Le.refl,trivial⟩ rfl) rfl rfl ?_
      refine R1 (xd6 (n:=1) (f:=(fun x=>tG (up w.heap.size) (tTsM x))) [((smk 1 i,false):Tst×Bool)] Tryz.underlying22 el34 zf34 rfl (fun _=>inferInstance) rfl rfl rfl) rfl ?_
      refine RE (xc1 (k:=10) (k':=34) (f:=(fun x=>tG (up w.heap.size) (tTsM x))) (ys:=[((smk 1 i,false):Tst×Bool)]) (ts':=rV (fun x=>tG (up w.heap.size) (tTsM x)) ((lmT l++mmT (mkT.take i))++[((smk 1 i,false):Tst×Bool)])) Tryz.underlying22 el34 zf34 rfl rfl (fun _=>inferInstance) (xf1.trans hxl) (by simp;omega) (by simp;omega) (by simp [rV]) (n':=l.length+i+1) rfl) ⟨rfl,rfl,trivial⟩ ⟨rfl,trivial⟩ ⟨rfl,trivial⟩ ?_
      refine A9 ?_
      exact xe6 (l:=[10]) (fun j=>cond (Nat.beq j 10) 34 (j)) (i+1) ⟨(by omega),(by omega)⟩ (SubR.int rfl (by first | omega | rfl | (dsimp only;omega)) (SubR.cons rfl (SubR.cons rfl SubR.nil))) ((SubKR.consI rfl (ImpK.of (by rw [mkT_take (by omega),mmT_snoc,←List.append_assoc];exact xb9.symm))) SubKR.nil) (SupG.val (SupG.own rfl (SupG.val SupG.nil))) (SupH.cons rfl (supJ xa9) SupH.nil) (lkOk rfl) rfl rfl (fun _ h=>by cases h)
    ·
      refine A9 ?_
      refine A1 ?_
      refine RE (d_keepOW (k:=10) (f:=(fun x=>tG (up w.heap.size) (tTsM x))) (xs:=lmT l) (ms:=mmT mkT) (up w.heap.size) (fun _ h=>h) sl22 (fun _ h=>h) (fun _ _=>tG_idem) (by rw [rV,show i=12 by omega,show mkT.take 12=mkT from rfl]) (by rw [lmT_len,mmT_len,mkT_len];omega) (by omega) (by rw [lmT_len])) ⟨rfl,rfl,trivial⟩ ⟨rfl,trivial⟩ trivial ?_
      refine A4 ?_
      exact x4 Plain.mk' rfl rfl (tG_mono (leLW fun _=>tG_le))
end An.S

/- Whether what was lent is kept; what is written over it. -/
namespace An.S
open Go Go.Proofs An
set_option maxHeartbeats 2000000
set_option maxRecDepth 100000
instance fi37:FnI Tryz.prog 37:=⟨_,Tryz.func37,by kernel_rfl,rfl⟩
instance fi51:FnI Tryz.prog 51:=⟨_,Tryz.func51,by kernel_rfl,rfl⟩
instance fi52:FnI Tryz.prog 52:=⟨_,Tryz.func52,by kernel_rfl,rfl⟩
instance fi78:FnI Tryz.prog 78:=⟨_,Tryz.func78,by kernel_rfl,rfl⟩
instance fi91:FnI Tryz.prog 91:=⟨_,Tryz.func91,by kernel_rfl,rfl⟩
instance fi148:FnI Tryz.prog 148:=⟨_,Tryz.func148,by kernel_rfl,rfl⟩
theorem c_KeptWhole (x:Wh) (hl:x.l.length≤1048576):
  Ct Tryz.prog 78 [tWhK x,tWh x] (tB true):=by
 refine Ct.intro Tryz.func78 rfl Tryz.ntmps78 rfl ?_
 intro w F
 refine A9 ?_
 refine A2 ?_
 refine R2 (xd7 (ts:=[tWhK x,tWh x]) (c_SameWhole x x) fi66 rfl ⟨whK_le,Le.refl,trivial⟩) rfl rfl ?_
 refine A1 ?_
 refine RGon (decide_eq_true (by rfl)) rfl (d_fieldO fo28_1.h rfl) rfl ⟨rfl,trivial⟩ trivial trivial (xc5 (decide_eq_true (by rfl)) rfl rfl (0) ti26 rfl rfl rfl (At.g 1 rfl rfl) rfl (RGon (decide_eq_true (by rfl)) rfl (d_fieldO fo28_1.h rfl) rfl ⟨rfl,trivial⟩ trivial trivial (xc5 (decide_eq_true (by rfl)) rfl rfl (0) ti26 rfl rfl rfl (At.g 1 rfl rfl) rfl (RGon (decide_eq_true (by rfl)) rfl (x3 (c_KeptLimbs x.l hl) fi148 rfl) rfl ⟨rfl,rfl,trivial⟩ trivial trivial (R2 (xg7 (decide_eq_true (by rfl))) rfl rfl ?_)))))
 refine A4 ?_
 exact x4 Plain.mk' rfl rfl Le.refl
theorem c_KeptFrac (f:Fr) (h1:f.n.l.length≤1048576) (h2:f.d.l.length≤1048576):
  Ct Tryz.prog 37 [tFrK f,tFr f] (tB true):=by
 refine Ct.intro Tryz.func37 rfl Tryz.ntmps37 rfl ?_
 intro w F
 refine A9 ?_
 refine A2 ?_
 refine R2 (xd7 (ts:=[tFrK f,tFr f]) (c_SameFrac f f) fi30 rfl ⟨frK_le,Le.refl,trivial⟩) rfl rfl ?_
 refine A1 ?_
 refine RGon (decide_eq_true (by rfl)) rfl (d_fieldO fo30_0.h rfl) rfl ⟨rfl,trivial⟩ trivial trivial (xc5 (decide_eq_true (by rfl)) rfl rfl (0) ti28 rfl rfl rfl (At.g 0 rfl rfl) rfl (RGon (decide_eq_true (by rfl)) rfl (d_fieldO fo30_0.h rfl) rfl ⟨rfl,trivial⟩ trivial trivial (xc5 (decide_eq_true (by rfl)) rfl rfl (0) ti28 rfl rfl rfl (At.g 0 rfl rfl) rfl (RGon (decide_eq_true (by rfl)) rfl (x3 (c_KeptWhole f.n h1) fi78 rfl) rfl ⟨rfl,rfl,trivial⟩ trivial trivial (R2 (xg7 (decide_eq_true (by rfl))) rfl rfl ?_)))))
 refine A5 ?_
 refine RGon rfl rfl (x3 (c_KeptWhole f.d h2) fi78 rfl) rfl ⟨rfl,rfl,trivial⟩ trivial trivial ?_
 refine A5 ?_
 exact x4 Plain.mk' rfl rfl Le.refl
theorem c_KeptValue (v:Va) (h1:v.f.n.l.length≤1048576) (h2:v.f.d.l.length≤1048576):
  Ct Tryz.prog 91 [tVaK v,tVa v] (tB true):=by
 refine Ct.intro Tryz.func91 rfl Tryz.ntmps91 rfl ?_
 intro w F
 refine A9 ?_
 refine A2 ?_
 refine R2 (xd7 (ts:=[tVaK v,tVa v]) (c_SameValue v v) fi8 rfl ⟨vaK_le,Le.refl,trivial⟩) rfl rfl ?_
 refine A1 ?_
 refine RGon (decide_eq_true (by rfl)) rfl (d_fieldO fo32_1.h rfl) rfl ⟨rfl,trivial⟩ trivial trivial (xc5 (decide_eq_true (by rfl)) rfl rfl (0) ti30 rfl rfl rfl (At.g 1 rfl rfl) rfl (RGon (decide_eq_true (by rfl)) rfl (d_fieldO fo32_1.h rfl) rfl ⟨rfl,trivial⟩ trivial trivial (xc5 (decide_eq_true (by rfl)) rfl rfl (0) ti30 rfl rfl rfl (At.g 1 rfl rfl) rfl (RGon (decide_eq_true (by rfl)) rfl (x3 (c_KeptFrac v.f h1 h2) fi37 rfl) rfl ⟨rfl,rfl,trivial⟩ trivial trivial (R2 (xg7 (decide_eq_true (by rfl))) rfl rfl ?_)))))
 refine A4 ?_
 exact x4 Plain.mk' rfl rfl Le.refl
theorem c_KeptStep (s:Tst) (h1:s.v.f.n.l.length≤1048576) (h2:s.v.f.d.l.length≤1048576):
  Ct Tryz.prog 51 [tTsW s,tTs s] (tB true):=by
 refine Ct.intro Tryz.func51 rfl Tryz.ntmps51 rfl ?_
 intro w F
 refine A9 ?_
 refine A2 ?_
 refine R2 (xd7 (ts:=[_,_]) (c_SameStep s s) fi52 rfl ⟨tsW_le,Le.refl,trivial⟩) rfl rfl ?_
 refine A1 ?_
 refine RGon (decide_eq_true (by rfl)) rfl (d_fieldO fo34_2.h rfl) rfl ⟨rfl,trivial⟩ trivial trivial (xc5 (decide_eq_true (by rfl)) rfl rfl (0) ti32 rfl rfl rfl (At.g 2 rfl rfl) rfl (RGon (decide_eq_true (by rfl)) rfl (d_fieldO fo34_2.h rfl) rfl ⟨rfl,trivial⟩ trivial trivial (xc5 (decide_eq_true (by rfl)) rfl rfl (0) ti32 rfl rfl rfl (At.g 2 rfl rfl) rfl (RGon (decide_eq_true (by rfl)) rfl (xd7 (ts:=[_,_]) (c_KeptValue s.v h1 h2) fi91 rfl ⟨vaWK,Le.refl,trivial⟩) rfl ⟨rfl,rfl,trivial⟩ trivial trivial (R2 (xg7 (decide_eq_true (by rfl))) rfl rfl ?_)))))
 refine A4 ?_
 exact x4 Plain.mk' rfl rfl Le.refl
theorem c_markStep1 (i:Nat) (hi:i < 10000000):Ct Tryz.prog 43 [tI 1,tI i] (tTs (smk 1 i)):=(c_markStep 1 i (by decide) hi).toCt fun _=>tG_le
theorem c_KeptSteps (l:List Tst) (hl:l.length≤60) (hs: ∀s∈l,s.v.f.n.l.length≤1048576∧s.v.f.d.l.length≤1048576):
  Ct Tryz.prog 23 [tStW l,tL 8 true tTs l] (tB true):=by
 have hml:(lmT l++mmT mkT).length=l.length+12:=by rw [List.length_append,lmT_len,mmT_len,mkT_len]
 have hll:(lmT l).length=l.length:=lmT_len
 refine Ct.intro Tryz.func23 rfl Tryz.ntmps23 rfl ?_
 intro w F
 refine A9 ?_
 refine R1 (d_lenW Tryz.underlying22 hll) rfl ?_
 refine A5 ?_
 refine xa8 rfl (decide_eq_false (by omega)) ?_
 refine A8 ?_
 refine R2 (d_sliceW sl22 (by rw [hll,mmT_len,mkT_len];omega)) rfl rfl ?_
 refine A9 ?_
 refine A1 ?_
 refine cL (fun (i:Nat)=>i≤(lmT l++mmT mkT).length) (fun (i:Nat)=>upd (upd (upd (fun _=>none) 1 (some (.val (tL 8 true tTs l)))) 5 (some (.val (tL 8 true tTsM (lmT l++mmT mkT))))) 6 (some (.val (tI i)))) (fun (i:Nat)=>fun _=>none) [] (fun (i:Nat)=>(lmT l++mmT mkT).length - i) (0) (Nat.zero_le _) ?_
 intro i hI
 refine A9 ?_
 refine x9 rfl (fun h394=> ?_) (fun h394=> ?_)
 ·
  refine A9 ?_
  refine A2 ?_
  refine RGcaseD (t:=27) rfl (fun h395=> ?_) (fun h395=> ?_)
  ·
   refine A2 ?_
   refine RGon (decide_eq_true h395) rfl (x6 sl22 i (by omega) (gD (l:=(lmT l++mmT mkT)) (n:=i) (d:=tm0) (by omega))) rfl ⟨rfl,rfl,trivial⟩ trivial trivial ?_
   refine A3 ?_
   refine RGon (decide_eq_true h395) rfl (x6 sl22 i (by omega) (gD (l:=l) (n:=i) (d:=tst0) (by omega))) rfl ⟨rfl,rfl,trivial⟩ trivial trivial ?_
   refine A1 ?_
   refine RGon (decide_eq_true h395) rfl (xd7 (ts:=[_,_]) (c_KeptStep (l.getD i tst0) (hs _ (xc2 (l:=l) (by omega))).1 (hs _ (xc2 (l:=l) (by omega))).2) fi51 rfl ⟨(by rw [lm_l (by omega)];exact Le.refl),Le.refl,trivial⟩) rfl ⟨rfl,rfl,trivial⟩ trivial trivial ?_
   refine A8 ?_
   refine RGoff (decide_eq_false (by omega)) rfl rfl (RGoff (decide_eq_false (by omega)) rfl rfl (RGoff (decide_eq_false (by omega)) rfl rfl (RGoff (decide_eq_false (by omega)) rfl rfl (RGoff (decide_eq_false (by omega)) rfl rfl (RGoff (decide_eq_false (by omega)) rfl rfl (RGoff (decide_eq_false (by omega)) rfl rfl (RGoff (decide_eq_false (by omega)) rfl rfl ?_)))))))
   refine RGoff (decide_eq_false (by omega)) rfl rfl (RGoff (decide_eq_false (by omega)) rfl rfl (RGoff (decide_eq_false (by omega)) rfl rfl (RGon rfl rfl (xg3 (decide_eq_false (by omega))) rfl ⟨rfl,rfl,trivial⟩ trivial trivial ?_)))
   refine A9 ?_
   refine A3 ?_
   exact kF (i+1) ⟨(by omega),(by omega)⟩
  ·
   refine A9 ?_
   refine A8 ?_
   refine RGon (decide_eq_true (by omega)) rfl xa2 rfl ⟨rfl,trivial⟩ trivial trivial (RGon (decide_eq_true (by omega)) rfl xa2 rfl ⟨rfl,trivial⟩ trivial trivial (RGon (decide_eq_true (by omega)) rfl (x6 sl22 i (by omega) (gD (l:=(lmT l++mmT mkT)) (n:=i) (d:=tm0) (by omega))) rfl ⟨rfl,rfl,trivial⟩ trivial trivial (RGon (decide_eq_true (by omega)) rfl (d_loadP ti34) rfl ⟨rfl,trivial⟩ trivial trivial (RGon (decide_eq_true (by omega)) rfl xa2 rfl ⟨rfl,trivial⟩ trivial trivial (RGon (decide_eq_true (by omega)) rfl xa2 rfl ⟨rfl,trivial⟩ trivial trivial (RGon (decide_eq_true (by omega)) rfl (d_len Tryz.underlying22) rfl ⟨rfl,trivial⟩ trivial trivial (RGon (decide_eq_true (by omega)) rfl (xe4 (r:=((i - l.length:Nat):Int)) (by rw [wr64 (by omega) (by omega)];omega)) rfl ⟨rfl,rfl,trivial⟩ trivial trivial ?_)))))))
   refine RGon (decide_eq_true (by omega)) rfl (xd7 (ts:=[_,_]) (c_markStep1 (i - l.length) (by omega)) fi43 rfl ⟨Le.refl,Le.refl,trivial⟩) rfl ⟨rfl,rfl,trivial⟩ trivial trivial (RGon (decide_eq_true (by omega)) rfl (xd7 (ts:=[_,_]) (c_SameStep (smk 1 (i - l.length)) (smk 1 (i - l.length))) fi52 rfl ⟨(by rw [lm_r (by omega) (by rw [mkT_len];omega),mkT_at (by omega)];exact Le.refl),Le.refl,trivial⟩) rfl ⟨rfl,rfl,trivial⟩ trivial trivial (RGon (decide_eq_true (by omega)) rfl d_not rfl ⟨rfl,trivial⟩ trivial trivial (RGon rfl rfl (xg7 (decide_eq_true (by omega))) rfl ⟨rfl,rfl,trivial⟩ trivial trivial ?_)))
   refine A3 ?_
   refine xa8 rfl (xb7 (by rfl)) ?_
   refine A8 ?_
   exact kF (i+1) ⟨(by omega),(by omega)⟩
 ·
  refine A9 ?_
  refine A2 ?_
  exact x4 Plain.mk' rfl rfl Le.refl
end An.S

/- What is written over lent steps and numbers. -/
namespace An.S
open Go Go.Proofs An
set_option maxHeartbeats 2000000
set_option maxRecDepth 100000
instance fi39:FnI Tryz.prog 39:=⟨_,Tryz.func39,by kernel_rfl,rfl⟩
instance fi79:FnI Tryz.prog 79:=⟨_,Tryz.func79,by kernel_rfl,rfl⟩
instance fi80:FnI Tryz.prog 80:=⟨_,Tryz.func80,by kernel_rfl,rfl⟩
instance fi149:FnI Tryz.prog 149:=⟨_,Tryz.func149,by kernel_rfl,rfl⟩
instance fi150:FnI Tryz.prog 150:=⟨_,Tryz.func150,by kernel_rfl,rfl⟩
/-- The first k limbs are written over. -/
def ovr (l:List Nat):Nat→List Nat
  | 0=>l
  | k+1=>(ovr l k).set k ((9000027+k)%65536)
abbrev tWhV (V:VM) (x:Wh):Ty:=tS [⟨1,false,tB x.neg⟩,⟨1,false,tSlV V x.l.length⟩]
abbrev tFrV (V:VM) (f:Fr):Ty:=tS [⟨2,true,tWhV V f.n⟩,⟨2,true,tWhV V f.d⟩]
abbrev tVaV (V:VM) (v:Va):Ty:=tS [⟨1,false,tE (.int .u8 (v.kind:Int))⟩,⟨4,true,tFrV V v.f⟩,⟨1,false,tI v.i⟩]
abbrev tTsV (V:VM) (s:Tst):Ty:=tS [⟨1,false,tI s.lo⟩,⟨1,false,tI s.hi⟩,⟨6,true,tVaV V s.v⟩]
/-- A lent step, or a mark behind them. -/
abbrev tTsVM (V:VM) (x:Tst×Bool):Ty:=cond x.2 (tTsV V x.1) (tTs x.1)
instance {V:VM} {x:Tst×Bool}:Shape (tTsVM V x) 8 true:=by
  obtain ⟨s,b⟩:=x
  cases b
  · exact (inferInstance:Shape (tTs s) 8 true)
  · exact (inferInstance:Shape (tTsV V s) 8 true)
theorem rowV {V:VM} {l:List Tst} {m:List Tst} {i:Nat} (h:i < l.length):(rV (tTsVM V) (lmT l++mmT m))[i]? =some (.val (tTsV V (l.getD i tst0))):=by
  have:=xh3 (f:=tTsVM V) (xs:=lmT l++mmT m) (i:=i) (d:=tm0) (by rw [List.length_append,lmT_len];omega)
  rw [lm_l h] at this;exact this
end An.S

/- Laws that overwrite what they have lent. For any program. -/
namespace An
open Go
section
variable {P:Program} {g:Slots} {h:Keys} {al:Names} {Q:Exit→Act→World→Prop}
abbrev ovb (N:Nat) (w0:World) (F:Dom) (K:Nat) (X:OvJ):Base:=Base.over N w0 F ⟨fun _=>0,fun _=>0,fun _=>False⟩ [] [] K X
end
/-- What was lent is handed to a call. -/
theorem XL_hand {T:Nat} {L F:Dom} {w1 w:World} {W:Ty} {v:Value} (hW:W.p L w1 v) (hJ:(XL T L w1).J 0 w):W.p (fun b=>F b∨L b) w v:=W.mono hW fun b _ hb hl _=>⟨.inr hb,(hJ.1 rfl b hb).trans hl⟩
/-- Arguments: what was lent, or others. -/
def HandL (T:Nat) (L:Dom) (w1:World):List Ty→List Ty→Prop
  | [],[]=>True
  | t::r,u::s=>(Le t u∨ ∃v,t=tE v∧u.p L w1 v)∧HandL T L w1 r s
  | _,_=>False
theorem HandL.all {T:Nat} {L F:Dom} {w1 w:World} (hJ:(XL T L w1).J 0 w): ∀{ts us:List Ty} {vs:List Value},HandL T L w1 ts us→Tup.all F w ts vs→Tup.all (fun b=>F b∨L b) w us vs
  | [],[],[],_,_=>trivial
  | t::r,u::s,v::vs,h,hv=>by
    refine ⟨?_,HandL.all hJ h.2 hv.2⟩
    rcases h.1 with h1 | ⟨v',rfl,h2⟩
    · exact u.mono (h1 _ _ _ hv.1) fun b _ hb hl _=>⟨.inl hb,hl⟩
    · have e:v=v':=hv.1
      subst e;exact XL_hand h2 hJ
  | [],[],_::_,_,hv=>hv.elim
  | _::_,_::_,[],_,hv=>hv.elim
  | [],_::_,_,h,_=>h.elim
  | _::_,[],_,h,_=>h.elim
section
variable {P:Program} {c:Base} {d ty:Nat} {pos:String} {af:Array Edge} {gd:Option (Nat×Bool)}
end
end An

/- What was lent to a law is written over. -/
namespace An.S
open Go Go.Proofs An
set_option maxHeartbeats 2000000
set_option maxRecDepth 100000
/-- Structs, field by field, from one memory to the other. -/
def Trs (F F':Dom) (w w':World):List Fd→List Fd→Prop
  | [],[]=>True
  | f::r,g::s=>(f.n=g.n∧f.agg=g.agg∧ ∀v,f.t.p F w v→g.t.p F' w' v)∧Trs F F' w w' r s
  | _,_=>False
theorem Trs.sum {F F':Dom} {w w':World}: ∀{fs gs:List Fd},Trs F F' w w' fs gs→Fd.sum fs=Fd.sum gs
  | [],[],_=>rfl
  | _::_,_::_,h=>by rw [Fd.sum,Fd.sum,h.1.1,Trs.sum h.2]
  | [],_::_,h=>h.elim
  | _::_,[],h=>h.elim
theorem Trs.all {F F':Dom} {w w':World} {cs:Array Value}: ∀{fs gs:List Fd} {o:Nat},Trs F F' w w' fs gs→Fd.all F w cs o fs→Fd.all F' w' cs o gs
  | [],[],_,_,_=>trivial
  | f::r,g::s,o,h,ha=>by
    obtain ⟨⟨h1,h2,h3⟩,h4⟩:=h
    refine ⟨⟨by rw [←h1,←h2];exact ha.1.1,by rw [←h1,←h2];exact h3 _ ha.1.2⟩,?_⟩
    rw [←h1];exact Trs.all h4 ha.2
  | [],_::_,_,h,_=>h.elim
  | _::_,[],_,h,_=>h.elim
theorem Trs.S {F F':Dom} {w w':World} {fs gs:List Fd} (h:Trs F F' w w' fs gs): ∀v,(tS fs).p F w v→(tS gs).p F' w' v:=fun _ ⟨cs,h1,h2,h3⟩=>⟨cs,h1,h2.trans h.sum,h.all h3⟩
theorem Free.nil {α:Type} {es:Nat} {agg:Bool} {f:α→Ty}:Free (tL es agg f []):=fun _ _ _ _ _ ⟨A,c,h1,h2,h3,_⟩=>⟨A,c,h1,h2,h3,.inl rfl⟩
end An.S

/- The reference of layer 5 for values. -/
namespace An.S
open Go Go.Proofs An
set_option maxHeartbeats 2000000
set_option maxRecDepth 100000
instance fi207:FnI Tryz.prog 207:=⟨_,Tryz.func207,by kernel_rfl,rfl⟩
theorem fr0_eq {f:Fr} (h1:f.n.neg=false) (h2:f.d.neg=false) (h3:f.n.l.length=0) (h4:f.d.l.length=0):f=fr0:=by
  obtain ⟨⟨n1,l1⟩,⟨n2,l2⟩⟩:=f
  simp only at h1 h2 h3 h4
  rw [h1,h2,List.length_eq_zero_iff.1 h3,List.length_eq_zero_iff.1 h4];rfl
theorem fr0_ne {f:Fr} (h:f.n.neg=true∨f.d.neg=true∨0 < f.n.l.length∨0 < f.d.l.length):f≠fr0:=by
  rintro rfl
  rcases h with h | h | h | h <;> cases h
theorem va_no {v:Va} (h1: ¬(v.kind=2∨v.kind=3)) (h2:v.f≠fr0):v.valid=false:=by
  simp only [Va.valid]
  rw [if_neg h1,decide_eq_false h2]
  simp
theorem va_eq {u v:Va}:u=v↔u.kind=v.kind∧u.i=v.i∧u.f.n=v.f.n∧u.f.d=v.f.d:=by
  constructor
  · rintro rfl;exact ⟨rfl,rfl,rfl,rfl⟩
  · obtain ⟨k,⟨n,d⟩,i⟩:=u
    obtain ⟨k2,⟨n2,d2⟩,i2⟩:=v
    rintro ⟨h1,h2,h3,h4⟩
    simp only at h1 h2 h3 h4
    rw [h1,h2,h3,h4]
theorem c_R5Valid (v:Va) (hD:v.f.dig) (h1:v.f.n.l.length≤1048576) (h2:v.f.d.l.length≤1048576):
  Ct Tryz.prog 146 [tVa v] (tB v.valid):=by
 refine Ct.intro Tryz.func146 rfl Tryz.ntmps146 rfl ?_
 intro w F
 refine A9 ?_
 refine A4 ?_
 refine RGcaseD (t:=6) rfl (fun h14=> ?_) (fun h14=> ?_)
 ·
  refine A9 ?_
  refine A4 ?_
  refine RGcaseD (t:=14) rfl (fun h15=> ?_) (fun h15=> ?_)
  ·
   refine A2 ?_
   refine RGon (decide_eq_true h15) rfl (x3 (c_R2Valid v.f hD.1 hD.2) fi71 rfl) rfl ⟨rfl,trivial⟩ trivial trivial ?_
   refine A6 ?_
   exact x4 Plain.mk' rfl rfl (Le.bool (by simp only [Va.valid];rw [if_pos (show v.kind=2∨v.kind=3 by omega),decide_eq_true h15,Bool.true_and]))
  ·
   refine A9 ?_
   exact x4 Plain.mk' rfl rfl (Le.bool (by simp only [Va.valid];rw [if_pos (show v.kind=2∨v.kind=3 by omega),decide_eq_false h15];rfl))
 ·
  refine A6 ?_
  refine x9 rfl (fun h14_2=> ?_) (fun h14_2=> ?_)
  ·
   refine A6 ?_
   refine RGcaseD (t:=14) rfl (fun h15=> ?_) (fun h15=> ?_)
   ·
    refine A2 ?_
    refine RGon (decide_eq_true h15) rfl (x3 (c_R2Valid v.f hD.1 hD.2) fi71 rfl) rfl ⟨rfl,trivial⟩ trivial trivial ?_
    refine A6 ?_
    exact x4 Plain.mk' rfl rfl (Le.bool (by simp only [Va.valid];rw [if_pos (show v.kind=2∨v.kind=3 by omega),decide_eq_true h15,Bool.true_and]))
   ·
    refine A9 ?_
    exact x4 Plain.mk' rfl rfl (Le.bool (by simp only [Va.valid];rw [if_pos (show v.kind=2∨v.kind=3 by omega),decide_eq_false h15];rfl))
  ·
   refine A8 ?_
   refine xg1 (0) ti4 rfl rfl rfl (At.t (At.g 1 rfl rfl) (At.t (At.g 0 rfl rfl) (At.g 0 rfl rfl))) rfl ?_
   refine A1 ?_
   refine RGcase (t:=23) rfl (fun h17=> ?_) (fun h17=> ?_)
   ·
    have hnf:v.f≠fr0:=fr0_ne (.inl h17)
    refine A9 ?_
    refine A9 ?_
    refine A9 ?_
    refine A2 ?_
    exact x4 Plain.mk' rfl rfl (Le.bool (va_no (by omega) hnf).symm)
   ·
    refine A3 ?_
    refine xc5 h17 rfl rfl (0) ti4 rfl rfl rfl (At.t (At.g 1 rfl rfl) (At.t (At.g 1 rfl rfl) (At.g 0 rfl rfl))) rfl ?_
    refine A2 ?_
    refine RGcase (t:=29) rfl (fun h17_2=> ?_) (fun h17_2=> ?_)
    ·
     have hnf:v.f≠fr0:=fr0_ne (.inr (.inl h17_2))
     refine A9 ?_
     refine A9 ?_
     refine A5 ?_
     exact x4 Plain.mk' rfl rfl (Le.bool (va_no (by omega) hnf).symm)
    ·
     refine A3 ?_
     refine xc5 h17_2 rfl rfl (0) ti26 rfl rfl rfl (At.t (At.g 1 rfl rfl) (At.t (At.g 0 rfl rfl) (At.g 1 rfl rfl))) rfl ?_
     refine A4 ?_
     refine xc5 h17_2 rfl rfl (0) ti26 rfl rfl rfl (At.t (At.g 1 rfl rfl) (At.t (At.g 1 rfl rfl) (At.g 1 rfl rfl))) rfl ?_
     refine A1 ?_
     refine RGon h17_2 rfl (xd4 (wr64 (by omega) (by omega))) rfl ⟨rfl,rfl,trivial⟩ trivial trivial ?_
     refine A4 ?_
     refine x9 rfl (fun h17_3=> ?_) (fun h17_3=> ?_)
     ·
      have hnf:v.f≠fr0:=fr0_ne (by omega)
      refine A7 ?_
      exact x4 Plain.mk' rfl rfl (Le.bool (va_no (by omega) hnf).symm)
     ·
      have hf0:v.f=fr0:=fr0_eq h17 h17_2 (by omega) (by omega)
      refine A9 ?_
      refine A7 ?_
      refine x9 rfl (fun h21=> ?_) (fun h21=> ?_)
      ·
       refine A6 ?_
       refine RGcaseD (t:=50) rfl (fun h22=> ?_) (fun h22=> ?_)
       ·
        refine A9 ?_
        refine A1 ?_
        exact x4 Plain.mk' rfl rfl (Le.bool (by simp only [Va.valid];rw [if_neg (show ¬(v.kind=2∨v.kind=3) by omega),if_pos (show v.kind=1 by omega),decide_eq_true hf0,Bool.true_and,decide_eq_true (show 0≤v.i by omega),decide_eq_true (show v.i≤1 by omega)];rfl))
       ·
        refine A9 ?_
        refine A1 ?_
        exact x4 Plain.mk' rfl rfl (Le.bool (by simp only [Va.valid];rw [if_neg (show ¬(v.kind=2∨v.kind=3) by omega),if_pos (show v.kind=1 by omega),decide_eq_true hf0,Bool.true_and,←Bool.decide_and];exact decide_eq_decide.2 (by omega)))
      ·
       refine A6 ?_
       refine x9 rfl (fun h23=> ?_) (fun h23=> ?_)
       ·
        refine A6 ?_
        refine RGcaseD (t:=60) rfl (fun h24=> ?_) (fun h24=> ?_)
        ·
         refine A9 ?_
         refine A1 ?_
         exact x4 Plain.mk' rfl rfl (Le.bool (by simp only [Va.valid];rw [if_neg (show ¬(v.kind=2∨v.kind=3) by omega),if_neg (show ¬v.kind=1 by omega),if_pos (show v.kind=4 by omega),decide_eq_true hf0,Bool.true_and,←Bool.decide_and];exact decide_eq_decide.2 (by omega)))
        ·
         refine A9 ?_
         refine A1 ?_
         exact x4 Plain.mk' rfl rfl (Le.bool (by simp only [Va.valid];rw [if_neg (show ¬(v.kind=2∨v.kind=3) by omega),if_neg (show ¬v.kind=1 by omega),if_pos (show v.kind=4 by omega),decide_eq_true hf0,Bool.true_and,decide_eq_false (show ¬0≤v.i by omega)];rfl))
       ·
        refine A7 ?_
        refine x9 rfl (fun h25=> ?_) (fun h25=> ?_)
        ·
         refine A2 ?_
         refine C_bT rfl (decide_eq_true (by omega)) ?_
         refine A6 ?_
         refine RGcaseD (t:=71) rfl (fun h26=> ?_) (fun h26=> ?_)
         ·
          refine A9 ?_
          refine A1 ?_
          exact x4 Plain.mk' rfl rfl (Le.bool (by simp only [Va.valid];rw [if_neg (show ¬(v.kind=2∨v.kind=3) by omega),if_neg (show ¬v.kind=1 by omega),if_neg (show ¬v.kind=4 by omega),if_pos (show v.kind=5∨v.kind=6 by omega),decide_eq_true hf0,Bool.true_and,←Bool.decide_and];exact decide_eq_decide.2 (by omega)))
         ·
          refine A9 ?_
          refine A1 ?_
          exact x4 Plain.mk' rfl rfl (Le.bool (by simp only [Va.valid];rw [if_neg (show ¬(v.kind=2∨v.kind=3) by omega),if_neg (show ¬v.kind=1 by omega),if_neg (show ¬v.kind=4 by omega),if_pos (show v.kind=5∨v.kind=6 by omega),decide_eq_true hf0,Bool.true_and,decide_eq_false (show ¬ -1048576≤v.i by omega)];rfl))
        ·
         refine A5 ?_
         refine x9 rfl (fun h25_2=> ?_) (fun h25_2=> ?_)
         ·
          refine A6 ?_
          refine RGcaseD (t:=71) rfl (fun h26=> ?_) (fun h26=> ?_)
          ·
           refine A9 ?_
           refine A1 ?_
           exact x4 Plain.mk' rfl rfl (Le.bool (by simp only [Va.valid];rw [if_neg (show ¬(v.kind=2∨v.kind=3) by omega),if_neg (show ¬v.kind=1 by omega),if_neg (show ¬v.kind=4 by omega),if_pos (show v.kind=5∨v.kind=6 by omega),decide_eq_true hf0,Bool.true_and,←Bool.decide_and];exact decide_eq_decide.2 (by omega)))
          ·
           refine A9 ?_
           refine A1 ?_
           exact x4 Plain.mk' rfl rfl (Le.bool (by simp only [Va.valid];rw [if_neg (show ¬(v.kind=2∨v.kind=3) by omega),if_neg (show ¬v.kind=1 by omega),if_neg (show ¬v.kind=4 by omega),if_pos (show v.kind=5∨v.kind=6 by omega),decide_eq_true hf0,Bool.true_and,decide_eq_false (show ¬ -1048576≤v.i by omega)];rfl))
         ·
          refine A9 ?_
          exact x4 Plain.mk' rfl rfl (Le.bool (by simp only [Va.valid];rw [if_neg (show ¬(v.kind=2∨v.kind=3) by omega),if_neg (show ¬v.kind=1 by omega),if_neg (show ¬v.kind=4 by omega),if_neg (show ¬(v.kind=5∨v.kind=6) by omega)]))
theorem c_R5whole (x y:Wh) (hx:x.l.length≤1048576):
  Ct Tryz.prog 207 [tWh x,tWh y] (tB (decide (x=y))):=by
 refine Ct.intro Tryz.func207 rfl Tryz.ntmps207 rfl ?_
 intro w F
 refine A9 ?_
 refine A7 ?_
 refine RGcase (t:=11) rfl (fun h33=> ?_) (fun h33=> ?_)
 ·
  have hn:x.neg≠y.neg:=fun h=>by rw [h] at h33;simp at h33
  refine A9 ?_
  refine A9 ?_
  exact x4 Plain.mk' rfl rfl (Le.bool (decide_eq_false (fun h=>hn (by rw [h]))).symm)
 ·
  have hn:x.neg=y.neg:=by simpa using h33
  refine A9 ?_
  refine A1 ?_
  refine x9 rfl (fun h33_2=> ?_) (fun h33_2=> ?_)
  ·
   refine A7 ?_
   exact x4 Plain.mk' rfl rfl (Le.bool (decide_eq_false (fun h=>by rw [h] at h33_2;omega)).symm)
  ·
   have hll:x.l.length=y.l.length:=by omega
   refine A9 ?_
   refine cL (fun (i:Nat)=>i≤x.l.length∧x.l.take i=y.l.take i) (fun (i:Nat)=>upd (upd (upd (fun _=>none) 2 (some (.own (.ptr 2 0)))) 3 (some (.own (.ptr 3 0)))) 5 (some (.val (tI i)))) (fun (i:Nat)=>upd (upd (fun _=>none) 2 (some (⟨28,2,true,[.val (tWh x)]⟩))) 3 (some (⟨28,2,true,[.val (tWh y)]⟩))) [2,3] (fun (i:Nat)=>x.l.length - i) (0) ⟨Nat.zero_le _,rfl⟩ (hh:=((SubK.consI rfl ImpK.refl) ((SubK.consI rfl ImpK.refl) SubK.nil))) ?_
   intro i hI
   obtain ⟨hi,ht⟩:=hI
   refine A9 ?_
   refine A1 ?_
   refine x9 rfl (fun h36=> ?_) (fun h36=> ?_)
   ·
    refine A9 ?_
    refine R2 (x6 sl26 (i) (by omega) (gN (by omega))) rfl rfl ?_
    refine A4 ?_
    refine R2 (x6 sl26 (i) (by omega) (gN (by omega))) rfl rfl ?_
    refine A4 ?_
    refine x9 rfl (fun h37=> ?_) (fun h37=> ?_)
    ·
     refine A9 ?_
     refine A2 ?_
     exact x4 Plain.mk' rfl rfl (Le.bool (decide_eq_false (fun h=>by rw [h] at h37;omega)).symm)
    ·
     refine A8 ?_
     exact kF (i+1) ⟨⟨by omega,by rw [xg2 x.l i (by omega),xg2 y.l i (by omega),ht,show x.l.getD i 0=y.l.getD i 0 by omega]⟩,(by omega)⟩ (hh:=((SubK.consI rfl ImpK.refl) ((SubK.consI rfl ImpK.refl) SubK.nil)))
   ·
    refine A9 ?_
    refine A2 ?_
    exact x4 Plain.mk' rfl rfl (Le.bool (decide_eq_true (by rw [show i=x.l.length by omega,List.take_length,hll,List.take_length] at ht;obtain ⟨a,b⟩:=x;obtain ⟨c,d⟩:=y;simp only at hn ht;rw [hn,ht])).symm)
theorem c_R5Same (u v:Va) (h1:u.f.n.l.length≤1048576) (h2:u.f.d.l.length≤1048576):
  Ct Tryz.prog 147 [tVa u,tVa v] (tB (decide (u=v))):=by
 refine Ct.intro Tryz.func147 rfl Tryz.ntmps147 rfl ?_
 intro w F
 refine A9 ?_
 refine A6 ?_
 refine RGcaseD (t:=10) rfl (fun h46=> ?_) (fun h46=> ?_)
 ·
  refine A7 ?_
  refine RGcaseD (t:=17) rfl (fun h46_2=> ?_) (fun h46_2=> ?_)
  ·
   refine A2 ?_
   refine xc5 (decide_eq_true h46_2) rfl rfl (0) ti28 rfl rfl rfl (At.t (At.g 1 rfl rfl) (At.g 0 rfl rfl)) rfl ?_
   refine A2 ?_
   refine xc5 (decide_eq_true h46_2) rfl rfl (0) ti28 rfl rfl rfl (At.t (At.g 1 rfl rfl) (At.g 0 rfl rfl)) rfl (RGon (decide_eq_true h46_2) rfl (x3 (c_R5whole _ _ h1) fi207 rfl) rfl ⟨rfl,rfl,trivial⟩ trivial trivial ?_)
   refine A2 ?_
   refine RGcaseD (t:=26) rfl (fun h46_3=> ?_) (fun h46_3=> ?_)
   ·
    refine A2 ?_
    refine xc5 (decide_eq_true h46_3) rfl rfl (0) ti28 rfl rfl rfl (At.t (At.g 1 rfl rfl) (At.g 1 rfl rfl)) rfl ?_
    refine A2 ?_
    refine xc5 (decide_eq_true h46_3) rfl rfl (0) ti28 rfl rfl rfl (At.t (At.g 1 rfl rfl) (At.g 1 rfl rfl)) rfl (RGon (decide_eq_true h46_3) rfl (x3 (c_R5whole _ _ h2) fi207 rfl) rfl ⟨rfl,rfl,trivial⟩ trivial trivial ?_)
    refine A5 ?_
    exact x4 Plain.mk' rfl rfl (Le.bool (decide_eq_decide.2 (by rw [va_eq];exact ⟨fun h=>⟨by omega,by omega,h46_3,h⟩,fun h=>h.2.2.2⟩)))
   ·
    refine A9 ?_
    refine A3 ?_
    exact x4 Plain.mk' rfl rfl (Le.bool (decide_eq_false (fun h=>h46_3 (va_eq.1 h).2.2.1)).symm)
  ·
   refine A9 ?_
   refine A9 ?_
   refine A3 ?_
   exact x4 Plain.mk' rfl rfl (Le.bool (decide_eq_false (fun h=>h46_2 (va_eq.1 h).2.1)).symm)
 ·
  refine A9 ?_
  refine A9 ?_
  refine A9 ?_
  refine A1 ?_
  exact x4 Plain.mk' rfl rfl (Le.bool (decide_eq_false (fun h=>h46 (by rw [h]))).symm)
end An.S

/- Layer 5, as the reference tells it: what a timeline is, parts. Plain data. -/
namespace An.S
open Go
/-- A step, as the reference looks at it. -/
def rOk (l:List Tst) (i:Nat):Prop:=((0≤(l.getD i tst0).lo∧(l.getD i tst0).lo < (l.getD i tst0).hi∧(l.getD i tst0).hi≤65536)∧(l.getD i tst0).v.valid=true∧(l.getD i tst0).v.kind=(l.getD 0 tst0).v.kind)∧
  (i=0∨(l.getD (i - 1) tst0).hi≤(l.getD i tst0).lo∧ ¬((l.getD (i - 1) tst0).hi=(l.getD i tst0).lo∧(l.getD (i - 1) tst0).v=(l.getD i tst0).v))
theorem right_R {l:List Tst}:tRight l=true↔ ∀i,i < l.length→rOk l i:=by
  constructor
  · intro h i hi
    have h1:=xh9 h hi
    exact ⟨⟨⟨h1.1,h1.2.1,h1.2.2.1⟩,tRight_valid h _ (xc2 hi),kind_at h hi⟩,h1.2.2.2.imp id fun h2=>⟨h2.1,h2.2.2⟩⟩
  · intro h
    refine tRight_iff.2 ⟨fun i hi=>tOk_iff.2 ?_,fun s hs=> ?_⟩
    · have h1:=h i hi
      refine ⟨h1.1.1.1,h1.1.1.2.1,h1.1.1.2.2,h1.2.imp id fun h2=>⟨h2.1,?_,h2.2⟩⟩
      rw [h1.1.2.2]
      by_cases h0:i=0
      · subst h0;rfl
      · exact (h (i - 1) (by omega)).1.2.2
    · obtain ⟨i,hi,rfl⟩:=xh5 hs
      exact (h i hi).1.2.1
theorem right_no {l:List Tst} {i:Nat} (hi:i < l.length) (h: ¬rOk l i):false=tRight l:=by
  cases hr:tRight l with
  | false=>rfl
  | true=>exact absurd (right_R.1 hr i hi) h
def parR (acc:List Tst) (s:Tst):List Tst:=if s.lo < s.hi then acc++[s] else acc
def cutR (l:List Tst) (a b:Int):List Tst:=(l.map (clip a b)).foldl parR []
end An.S

/- The reference of layer 5: what a timeline is, parts, sums. -/
namespace An.S
open Go Go.Proofs An
set_option maxHeartbeats 2000000
set_option maxRecDepth 100000
instance fi69:FnI Tryz.prog 69:=⟨_,Tryz.func69,by kernel_rfl,rfl⟩
instance fi76:FnI Tryz.prog 76:=⟨_,Tryz.func76,by kernel_rfl,rfl⟩
instance fi77:FnI Tryz.prog 77:=⟨_,Tryz.func77,by kernel_rfl,rfl⟩
instance fi131:FnI Tryz.prog 131:=⟨_,Tryz.func131,by kernel_rfl,rfl⟩
instance fi132:FnI Tryz.prog 132:=⟨_,Tryz.func132,by kernel_rfl,rfl⟩
instance fi146:FnI Tryz.prog 146:=⟨_,Tryz.func146,by kernel_rfl,rfl⟩
instance fi147:FnI Tryz.prog 147:=⟨_,Tryz.func147,by kernel_rfl,rfl⟩
instance fi199:FnI Tryz.prog 199:=⟨_,Tryz.func199,by kernel_rfl,rfl⟩
instance fi200:FnI Tryz.prog 200:=⟨_,Tryz.func200,by kernel_rfl,rfl⟩
instance fi201:FnI Tryz.prog 201:=⟨_,Tryz.func201,by kernel_rfl,rfl⟩
theorem c_R5Right (l:List Tst) (hl:l.length≤500000) (hD: ∀s∈l,s.v.f.dig) (hs: ∀s∈l,s.v.f.n.l.length≤1048576∧s.v.f.d.l.length≤1048576):
    Ct Tryz.prog 77 [tL 8 true tTs l] (tB (tRight l)):=by
  refine Ct.intro Tryz.func77 rfl Tryz.ntmps77 rfl ?_
  intro w F
  refine A9 ?_
  refine A3 ?_
  refine cL (fun (i:Nat)=>i≤l.length∧ ∀j,j < i→rOk l j) (fun (i:Nat)=>upd (upd (fun _=>none) 0 (some (.val (tL 8 true tTs l)))) 3 (some (.val (tI i)))) (fun (i:Nat)=>fun _=>none) [] (fun (i:Nat)=>l.length - i) (0) ⟨Nat.zero_le _,fun j hj=>by omega⟩ ?_
  intro i hI
  obtain ⟨hi,hok⟩:=hI
  refine A9 ?_
  refine x9 rfl (fun h51=> ?_) (fun h51=> ?_)
  ·
    refine A9 ?_
    refine R2 (x6 sl22 (i) (by omega) (gD (l:=l) (n:=i) (d:=tst0) (by omega))) rfl rfl (R1 (xb4 fo34_0.h (At.f 0 rfl rfl) rfl) rfl ?_)
    refine A3 ?_
    refine RGcaseD (t:=16) rfl (fun h52=> ?_) (fun h52=> ?_)
    ·
      refine A9 ?_
      refine A9 ?_
      refine A9 ?_
      refine A9 ?_
      refine A9 ?_
      refine A9 ?_
      refine A4 ?_
      exact x4 Plain.mk' rfl rfl (Le.bool (right_no (i:=i) (by omega) (fun h=>by have q1:=h.1.1;have q2:=h.1.2.1;have q3:=h.1.2.2;first | omega | (rw [q2] at h52_4;cases h52_4))))
    ·
      refine A2 ?_
      refine RGon (decide_eq_false h52) rfl (x6 sl22 (i) (by omega) (gD (l:=l) (n:=i) (d:=tst0) (by omega))) rfl ⟨rfl,rfl,trivial⟩ trivial trivial (RGon (decide_eq_false h52) rfl (xb4 fo34_0.h (At.f 0 rfl rfl) rfl) rfl ⟨rfl,trivial⟩ trivial trivial ?_)
      refine A3 ?_
      refine RGon (decide_eq_false h52) rfl (x6 sl22 (i) (by omega) (gD (l:=l) (n:=i) (d:=tst0) (by omega))) rfl ⟨rfl,rfl,trivial⟩ trivial trivial (RGon (decide_eq_false h52) rfl (xb4 fo34_1.h (At.f 1 rfl rfl) rfl) rfl ⟨rfl,trivial⟩ trivial trivial ?_)
      refine A4 ?_
      refine RGcaseD (t:=29) rfl (fun h52_2=> ?_) (fun h52_2=> ?_)
      ·
        refine A9 ?_
        refine A9 ?_
        refine A9 ?_
        refine A9 ?_
        refine A9 ?_
        exact x4 Plain.mk' rfl rfl (Le.bool (right_no (i:=i) (by omega) (fun h=>by have q1:=h.1.1;have q2:=h.1.2.1;have q3:=h.1.2.2;first | omega | (rw [q2] at h52_4;cases h52_4))))
      ·
        refine A2 ?_
        refine RGon (decide_eq_false h52_2) rfl (x6 sl22 (i) (by omega) (gD (l:=l) (n:=i) (d:=tst0) (by omega))) rfl ⟨rfl,rfl,trivial⟩ trivial trivial (RGon (decide_eq_false h52_2) rfl (xb4 fo34_1.h (At.f 1 rfl rfl) rfl) rfl ⟨rfl,trivial⟩ trivial trivial ?_)
        refine A4 ?_
        refine RGcaseD (t:=37) rfl (fun h52_3=> ?_) (fun h52_3=> ?_)
        ·
          refine A9 ?_
          refine A9 ?_
          refine A9 ?_
          refine A9 ?_
          refine A1 ?_
          exact x4 Plain.mk' rfl rfl (Le.bool (right_no (i:=i) (by omega) (fun h=>by have q1:=h.1.1;have q2:=h.1.2.1;have q3:=h.1.2.2;first | omega | (rw [q2] at h52_4;cases h52_4))))
        ·
          refine A2 ?_
          refine RGon (decide_eq_false h52_3) rfl (x6 sl22 (i) (by omega) (gD (l:=l) (n:=i) (d:=tst0) (by omega))) rfl ⟨rfl,rfl,trivial⟩ trivial trivial (RGon (decide_eq_false h52_3) rfl (xb4 fo34_2.h (At.f 2 rfl rfl) rfl) rfl ⟨rfl,trivial⟩ trivial trivial ?_)
          refine A1 ?_
          refine RGon (decide_eq_false h52_3) rfl (x3 (c_R5Valid _ (hD _ (xc2 (l:=l) (i:=i) (by omega))) (hs _ (xc2 (l:=l) (i:=i) (by omega))).1 (hs _ (xc2 (l:=l) (i:=i) (by omega))).2) fi146 rfl) rfl ⟨rfl,trivial⟩ trivial trivial ?_
          refine A3 ?_
          refine RGcase (t:=46) rfl (fun h52_4=> ?_) (fun h52_4=> ?_)
          ·
            refine A9 ?_
            refine A9 ?_
            refine A9 ?_
            refine A1 ?_
            exact x4 Plain.mk' rfl rfl (Le.bool (right_no (i:=i) (by omega) (fun h=>by have q1:=h.1.1;have q2:=h.1.2.1;have q3:=h.1.2.2;first | omega | (rw [q2] at h52_4;cases h52_4))))
          ·
            have hv:(l.getD i tst0).v.valid=true:=by simpa using h52_4
            refine A2 ?_
            refine RGon h52_4 rfl (x6 sl22 (i) (by omega) (gD (l:=l) (n:=i) (d:=tst0) (by omega))) rfl ⟨rfl,rfl,trivial⟩ trivial trivial (RGon h52_4 rfl (xb4 fo34_2.h (At.f 2 rfl rfl) rfl) rfl ⟨rfl,trivial⟩ trivial trivial (RGon h52_4 rfl (xb4 fo32_0.h (At.f 0 rfl rfl) rfl) rfl ⟨rfl,trivial⟩ trivial trivial ?_))
            refine A2 ?_
            refine RGon h52_4 rfl (x6 sl22 (0) (by omega) (gD (l:=l) (n:=0) (d:=tst0) (by omega))) rfl ⟨rfl,rfl,trivial⟩ trivial trivial (RGon h52_4 rfl (xb4 fo34_2.h (At.f 2 rfl rfl) rfl) rfl ⟨rfl,trivial⟩ trivial trivial (RGon h52_4 rfl (xb4 fo32_0.h (At.f 0 rfl rfl) rfl) rfl ⟨rfl,trivial⟩ trivial trivial ?_))
            refine A5 ?_
            refine x9 rfl (fun h52_5=> ?_) (fun h52_5=> ?_)
            ·
              refine A9 ?_
              refine A3 ?_
              exact x4 Plain.mk' rfl rfl (Le.bool (right_no (i:=i) (by omega) (fun h=>by have q1:=h.1.1;have q2:=h.1.2.1;have q3:=h.1.2.2;first | omega | (rw [q2] at h52_4;cases h52_4))))
            ·
              refine A7 ?_
              refine RGcaseD (t:=62) rfl (fun h55=> ?_) (fun h55=> ?_)
              ·
                refine A2 ?_
                refine RGon (decide_eq_true h55) rfl (xe4 (wr64 (by omega) (by omega))) rfl ⟨rfl,rfl,trivial⟩ trivial trivial (RGon (decide_eq_true h55) rfl (x6 sl22 (i - 1) (by omega) (gD (l:=l) (n:=i - 1) (d:=tst0) (by omega))) rfl ⟨rfl,rfl,trivial⟩ trivial trivial (RGon (decide_eq_true h55) rfl (xb4 fo34_1.h (At.f 1 rfl rfl) rfl) rfl ⟨rfl,trivial⟩ trivial trivial ?_))
                refine A3 ?_
                refine RGon (decide_eq_true h55) rfl (x6 sl22 (i) (by omega) (gD (l:=l) (n:=i) (d:=tst0) (by omega))) rfl ⟨rfl,rfl,trivial⟩ trivial trivial (RGon (decide_eq_true h55) rfl (xb4 fo34_0.h (At.f 0 rfl rfl) rfl) rfl ⟨rfl,trivial⟩ trivial trivial ?_)
                refine A3 ?_
                refine RGcaseD (t:=75) rfl (fun h55_2=> ?_) (fun h55_2=> ?_)
                ·
                  refine A9 ?_
                  refine A9 ?_
                  refine A8 ?_
                  refine RGon (decide_eq_true h55) rfl (xg7 (decide_eq_true h55_2)) rfl ⟨rfl,rfl,trivial⟩ trivial trivial ?_
                  refine A9 ?_
                  refine A6 ?_
                  exact x4 Plain.mk' rfl rfl (Le.bool (right_no (i:=i) (by omega) (fun h=>by have q:=h.2;first | omega | exact (q.resolve_left (by omega)).2 ⟨by omega,by assumption⟩)))
                ·
                  refine A2 ?_
                  refine RGon (decide_eq_false h55_2) rfl (xe4 (wr64 (by omega) (by omega))) rfl ⟨rfl,rfl,trivial⟩ trivial trivial (RGon (decide_eq_false h55_2) rfl (x6 sl22 (i - 1) (by omega) (gD (l:=l) (n:=i - 1) (d:=tst0) (by omega))) rfl ⟨rfl,rfl,trivial⟩ trivial trivial (RGon (decide_eq_false h55_2) rfl (xb4 fo34_1.h (At.f 1 rfl rfl) rfl) rfl ⟨rfl,trivial⟩ trivial trivial ?_))
                  refine A3 ?_
                  refine RGon (decide_eq_false h55_2) rfl (x6 sl22 (i) (by omega) (gD (l:=l) (n:=i) (d:=tst0) (by omega))) rfl ⟨rfl,rfl,trivial⟩ trivial trivial (RGon (decide_eq_false h55_2) rfl (xb4 fo34_0.h (At.f 0 rfl rfl) rfl) rfl ⟨rfl,trivial⟩ trivial trivial ?_)
                  refine A3 ?_
                  refine RGcaseD (t:=88) rfl (fun h55_3=> ?_) (fun h55_3=> ?_)
                  ·
                    refine A2 ?_
                    refine RGon (decide_eq_true h55_3) rfl (xe4 (wr64 (by omega) (by omega))) rfl ⟨rfl,rfl,trivial⟩ trivial trivial (RGon (decide_eq_true h55_3) rfl (x6 sl22 (i - 1) (by omega) (gD (l:=l) (n:=i - 1) (d:=tst0) (by omega))) rfl ⟨rfl,rfl,trivial⟩ trivial trivial (RGon (decide_eq_true h55_3) rfl (xb4 fo34_2.h (At.f 2 rfl rfl) rfl) rfl ⟨rfl,trivial⟩ trivial trivial ?_))
                    refine A3 ?_
                    refine RGon (decide_eq_true h55_3) rfl (x6 sl22 (i) (by omega) (gD (l:=l) (n:=i) (d:=tst0) (by omega))) rfl ⟨rfl,rfl,trivial⟩ trivial trivial (RGon (decide_eq_true h55_3) rfl (xb4 fo34_2.h (At.f 2 rfl rfl) rfl) rfl ⟨rfl,trivial⟩ trivial trivial ?_)
                    refine A1 ?_
                    refine RGon (decide_eq_true h55_3) rfl (x3 (c_R5Same _ _ (hs _ (xc2 (l:=l) (i:=i - 1) (by omega))).1 (hs _ (xc2 (l:=l) (i:=i - 1) (by omega))).2) fi147 rfl) rfl ⟨rfl,rfl,trivial⟩ trivial trivial (RGon (decide_eq_false h55_2) rfl (xg7 (decide_eq_true h55_3)) rfl ⟨rfl,rfl,trivial⟩ trivial trivial (RGon (decide_eq_true h55) rfl (xg3 (decide_eq_false h55_2)) rfl ⟨rfl,rfl,trivial⟩ trivial trivial ?_))
                    refine A3 ?_
                    refine x9 rfl (fun h55_4=> ?_) (fun h55_4=> ?_)
                    ·
                      refine A9 ?_
                      refine A2 ?_
                      exact x4 Plain.mk' rfl rfl (Le.bool (right_no (i:=i) (by omega) (fun h=>by have q:=h.2;first | omega | exact (q.resolve_left (by omega)).2 ⟨by omega,by assumption⟩)))
                    ·
                      refine A8 ?_
                      exact K_fam (i+1) ⟨⟨by omega,fun j hj=>by
    by_cases hji:j=i
    · subst hji;exact ⟨⟨⟨by omega,by omega,by omega⟩,hv,by omega⟩,.inr ⟨by omega,fun h=>h55_4 h.2⟩⟩
    · exact hok j (by omega)⟩, (by omega)⟩ (Sub.int rfl (by first | omega | rfl | (dsimp only; omega)) (Sub.cons rfl Sub.nil)) SubK.nil (SupG.val (SupG.val SupG.nil)) SupH.nil (lkOk rfl)
                  ·
                    refine A9 ?_
                    refine A3 ?_
                    refine RGon (decide_eq_false h55_2) rfl (xg3 (decide_eq_false h55_3)) rfl ⟨rfl,rfl,trivial⟩ trivial trivial (RGon (decide_eq_true h55) rfl (xg3 (decide_eq_false h55_2)) rfl ⟨rfl,rfl,trivial⟩ trivial trivial ?_)
                    refine A9 ?_
                    refine A3 ?_
                    exact K_fam (i+1) ⟨⟨by omega,fun j hj=>by
    by_cases hji:j=i
    · subst hji;exact ⟨⟨⟨by omega,by omega,by omega⟩,hv,by omega⟩,.inr ⟨by omega,fun h=>by omega⟩⟩
    · exact hok j (by omega)⟩, (by omega)⟩ (Sub.int rfl (by first | omega | rfl | (dsimp only; omega)) (Sub.cons rfl Sub.nil)) SubK.nil (SupG.val (SupG.val SupG.nil)) SupH.nil (lkOk rfl)
              ·
                refine A9 ?_
                refine A9 ?_
                refine A9 ?_
                refine A9 ?_
                refine A9 ?_
                refine A7 ?_
                exact K_fam (i+1) ⟨⟨by omega,fun j hj=>by
    by_cases hji:j=i
    · subst hji;exact ⟨⟨⟨by omega,by omega,by omega⟩,hv,by omega⟩,.inl (by omega)⟩
    · exact hok j (by omega)⟩,(by omega)⟩ (Sub.int rfl (by first | omega | rfl | (dsimp only;omega)) (Sub.cons rfl Sub.nil)) SubK.nil (SupG.val (SupG.val SupG.nil)) SupH.nil (lkOk rfl)
  ·
    refine A9 ?_
    refine A2 ?_
    exact x4 Plain.mk' rfl rfl (Le.bool (right_R.2 (fun j hj=>hok j (by omega))).symm)
end An.S

/- Law 5: TimelineSums: the program and the reference agree on sums. -/
namespace An.S
open Go Go.Proofs An
set_option maxHeartbeats 2000000
set_option maxRecDepth 100000
instance fi15:FnI Tryz.prog 15:=⟨_,Tryz.func15,by kernel_rfl,rfl⟩
/-- How many limbs steps have. -/
def limS (l:List Tst):Nat:=(l.map fun s=>s.v.f.n.l.length+s.v.f.d.l.length).sum
def fewB (l:List Tst):Bool:=decide (l.length≤60) && decide (limS l≤1200)
theorem limS_next {l:List Tst} {i:Nat} (hi:i < l.length):limS (l.take (i+1))=limS (l.take i)+((l.getD i tst0).v.f.n.l.length+(l.getD i tst0).v.f.d.l.length):=by
  rw [limS,limS,List.take_succ_eq_append_getElem hi,List.map_append,List.sum_append_nat,List.getD_eq_getElem?_getD,List.getElem?_eq_getElem hi];simp
theorem limS_le {l:List Tst} (h: ∀s∈l,s.v.f.n.l.length≤70368744177664∧s.v.f.d.l.length≤70368744177664): ∀{i:Nat},i≤l.length→limS (l.take i)≤i*140737488355328
  | 0,_=>by simp [limS]
  | i+1,hi=>by
    have h1:=limS_le h (i:=i) (by omega)
    have h2:=h _ (xc2 (l:=l) (i:=i) (by omega))
    rw [limS_next (by omega)];omega
theorem limS_mem {l:List Tst}: ∀s∈l,s.v.f.n.l.length+s.v.f.d.l.length≤limS l:=by
  induction l with
  | nil=>intro s hs;cases hs
  | cons x r ih=>
    intro s hs
    rw [limS,List.map_cons,List.sum_cons]
    rcases List.mem_cons.1 hs with rfl | hs
    · omega
    · have:=ih s hs;rw [limS] at this;omega
theorem few_of {l:List Tst} (h:fewB l=true):l.length≤60∧ ∀s∈l,s.v.f.n.l.length≤1200∧s.v.f.d.l.length≤1200:=by
  simp only [fewB,Bool.and_eq_true,decide_eq_true_eq] at h
  exact ⟨h.1,fun s hs=>by have:=limS_mem s hs;omega⟩
theorem few_1 {l:List Tst} {i:Nat} (h:l.length≤60) (hi:i=l.length):decide ((limS (l.take i):Int)≤1200)=fewB l:=by
  subst hi
  rw [fewB,decide_eq_true h,Bool.true_and,List.take_length]
  exact decide_eq_decide.2 (by omega)
theorem few_0 {l:List Tst} (h: ¬l.length≤60):false=fewB l:=by rw [fewB,decide_eq_false h,Bool.false_and]
theorem c_Few (l:List Tst) (hr: ∀s∈l,s.v.f.n.l.length≤70368744177664∧s.v.f.d.l.length≤70368744177664):
  Ct Tryz.prog 5 [tL 8 true tTs l] (tB (fewB l)):=by
 refine Ct.intro Tryz.func5 rfl Tryz.ntmps5 rfl ?_
 intro w F
 refine A9 ?_
 refine A8 ?_
 refine cL (fun (i:Nat)=>i≤l.length∧i≤60) (fun (i:Nat)=>upd (upd (upd (fun _=>none) 0 (some (.val (tL 8 true tTs l)))) 3 (some (.val (tI (limS (l.take i)))))) 4 (some (.val (tI i)))) (fun (i:Nat)=>fun _=>none) [] (fun (i:Nat)=>60 - i) (0) ⟨Nat.zero_le _,by decide⟩ (hg:=(sI (Sub.le rfl (Le.int rfl) (sC Sub.nil)))) ?_
 intro i hI
 obtain ⟨hi,hi2⟩:=hI
 have hb:=limS_le hr hi
 refine A8 ?_
 refine RGcaseD (t:=9) rfl (fun h14=> ?_) (fun h14=> ?_)
 ·
  refine A5 ?_
  refine x9 rfl (fun h14_2=> ?_) (fun h14_2=> ?_)
  ·
   refine A8 ?_
   have hsr:=hr _ (xc2 (l:=l) (i:=i) (by omega))
   refine R2 (x6 sl22 (i) (by omega) (gD (l:=l) (n:=i) (d:=tst0) (by omega))) rfl rfl (R1 (xb4 fo34_2.h (At.f 2 rfl rfl) rfl) rfl (R1 (xb4 fo32_1.h (At.f 1 rfl rfl) rfl) rfl ?_))
   refine A1 ?_
   refine R1 (x3 (c_Limbs _ (by omega) (by omega)) fi15 rfl) rfl ?_
   refine A9 ?_
   refine A1 ?_
   exact kF (i+1) ⟨⟨by omega,by omega⟩,(by omega)⟩ (hg:=(sI (Sub.le rfl (Le.int (by rw [limS_next (by omega)];omega)) (sC Sub.nil))))
  ·
   refine A9 ?_
   refine A2 ?_
   refine RGcaseD (t:=27) rfl (fun h17=> ?_) (fun h17=> ?_)
   ·
    refine A7 ?_
    exact x4 Plain.mk' rfl rfl (Le.bool (few_1 (by omega) (by omega)))
   ·
    refine A7 ?_
    exact x4 Plain.mk' rfl rfl (Le.bool (few_0 (by omega)))
 ·
  refine A9 ?_
  refine A8 ?_
  refine RGcaseD (t:=27) rfl (fun h17=> ?_) (fun h17=> ?_)
  ·
   refine A7 ?_
   exact x4 Plain.mk' rfl rfl (Le.bool (few_1 (by omega) (by omega)))
  ·
   refine A7 ?_
   exact x4 Plain.mk' rfl rfl (Le.bool (few_0 (by omega)))
end An.S

/- The reference of layer 8: records, years, limits. -/
namespace An.S
open Go Go.Proofs An
set_option maxHeartbeats 2000000
set_option maxRecDepth 100000
instance fi33:FnI Tryz.prog 33:=⟨_,Tryz.func33,by kernel_rfl,rfl⟩
instance fi36:FnI Tryz.prog 36:=⟨_,Tryz.func36,by kernel_rfl,rfl⟩
instance fi47:FnI Tryz.prog 47:=⟨_,Tryz.func47,by kernel_rfl,rfl⟩
instance fi68:FnI Tryz.prog 68:=⟨_,Tryz.func68,by kernel_rfl,rfl⟩
instance fi70:FnI Tryz.prog 70:=⟨_,Tryz.func70,by kernel_rfl,rfl⟩
instance fi72:FnI Tryz.prog 72:=⟨_,Tryz.func72,by kernel_rfl,rfl⟩
instance fi141:FnI Tryz.prog 141:=⟨_,Tryz.func141,by kernel_rfl,rfl⟩
theorem c_R2OrderV (f g:Fr) (hf:f.dig) (hg:g.dig) (vf:f.valid=true) (vg:g.valid=true):Ct Tryz.prog 141 [tFr f,tFr g] (tI (cmpQ f.rat g.rat)):=by
  obtain ⟨e1,s1⟩:=Fr.of_valid' hf vf
  obtain ⟨e2,s2⟩:=Fr.of_valid' hg vg
  have h:=c_R2Order f.rat g.rat s1 s2
  rw [←e1,←e2] at h;exact h
def cmpV (f g:Fr):Int:=if f.valid=true∧g.valid=true then cmpQ f.rat g.rat else 0
theorem c_R2Cmp (f g:Fr) (hf:f.dig) (hg:g.dig):
  Ct Tryz.prog 72 [tFr f,tFr g] (tI (cmpV f g)):=by
 refine Ct.intro Tryz.func72 rfl Tryz.ntmps72 rfl ?_
 intro w F
 refine A9 ?_
 refine A2 ?_
 refine R1 (x3 (c_R2Valid f hf.1 hf.2) fi71 rfl) rfl ?_
 refine A2 ?_
 refine RGcase (t:=8) rfl (fun h175=> ?_) (fun h175=> ?_)
 ·
  refine A9 ?_
  refine A5 ?_
  exact x4 Plain.mk' rfl rfl (Le.int (by rw [cmpV,if_neg (fun h=>by simp [h.1] at*)]))
 ·
  have vf:f.valid=true:=by simpa using h175
  refine A1 ?_
  refine RGon h175 rfl (x3 (c_R2Valid g hg.1 hg.2) fi71 rfl) rfl ⟨rfl,trivial⟩ trivial trivial ?_
  refine A4 ?_
  refine xd2 rfl (fun h175_2=> ?_) (fun h175_2=> ?_)
  ·
   refine A7 ?_
   exact x4 Plain.mk' rfl rfl (Le.int (by rw [cmpV,if_neg (fun h=>by simp [h.1,h.2] at*)]))
  ·
   refine A6 ?_
   refine R2 (x3 (c_R2OrderV f g hf hg vf (by simpa using h175_2)) fi141 rfl) rfl rfl ?_
   refine A4 ?_
   exact x4 Plain.mk' rfl rfl (Le.int (by rw [cmpV,if_pos ⟨vf,by simpa using h175_2⟩]))
theorem c_R2Cmp1 (f:Fr) (hf:f.dig):Ct Tryz.prog 72 [tFr f,tFr (fr ((1:Int):Rat))] (tI (if f.valid=true then cmpQ f.rat 1 else 0)):=by
  have h:=c_R2Cmp f (fr ((1:Int):Rat)) hf ⟨xc3 x7 _,xc3 x7 _⟩
  have e:cmpV f (fr ((1:Int):Rat))=if f.valid=true then cmpQ f.rat 1 else 0:=by
    rw [cmpV,rat_fr]
    by_cases hv:f.valid=true
    · rw [if_pos ⟨hv,valid_fr short_one⟩,if_pos hv];rfl
    · rw [if_neg (fun h=>hv h.1),if_neg hv]
  rw [e] at h;exact h
/-- A step of a record, as the reference looks at it. -/
def r8 (s:Tst):Prop:=s.v.kind=2∧s.v.f.n.neg=false∧ ¬0 < (if s.v.f.valid=true then cmpQ s.v.f.rat 1 else 0)
theorem sRight_R {l:List Tst} (h: ∀i,i < l.length→r8 (l.getD i tst0)):tRight l=sRight l:=by
  cases hr:tRight l with
  | false=>rw [sRight,hr];rfl
  | true=>
    rw [sRight,hr,Bool.true_and]
    refine (List.all_eq_true.2 fun s hs=> ?_).symm
    obtain ⟨i,hi,rfl⟩:=xh5 hs
    obtain ⟨h1,h2,h3⟩:=h i hi
    have hv:=num_valid (tRight_valid hr _ hs) h1
    rw [if_pos hv,cmpQ_pos] at h3
    simp only [sOk,h1,h2,Decidable.not_not.1 h3,decide_true,Bool.not_false,Bool.and_self]
theorem sRight_no {l:List Tst} {i:Nat} (hi:i < l.length) (h:sOk (l.getD i tst0)=false):false=sRight l:=by
  cases hr:sRight l with
  | false=>rfl
  | true=>
    simp only [sRight,Bool.and_eq_true,List.all_eq_true] at hr
    rw [hr.2 _ (xc2 hi)] at h;cases h
theorem sOk_cmp {s:Tst} (h:0 < (if s.v.f.valid=true then cmpQ s.v.f.rat 1 else 0)):sOk s=false:=by
  split at h
  · rw [cmpQ_pos] at h
    simp [sOk,h]
  · omega
theorem c_R8Right (l:List Tst) (hl:l.length≤500000) (hD: ∀s∈l,s.v.f.dig) (hs: ∀s∈l,s.v.f.n.l.length≤1048576∧s.v.f.d.l.length≤1048576):
    Ct Tryz.prog 36 [tL 8 true tTs l] (tB (sRight l)):=by
  refine Ct.intro Tryz.func36 rfl Tryz.ntmps36 rfl ?_
  intro w F
  refine A9 ?_
  refine A3 ?_
  refine cL (fun (i:Nat)=>i≤l.length∧ ∀j,j < i→r8 (l.getD j tst0)) (fun (i:Nat)=>upd (upd (fun _=>none) 0 (some (.val (tL 8 true tTs l)))) 3 (some (.val (tI i)))) (fun (i:Nat)=>fun _=>none) [] (fun (i:Nat)=>l.length - i) (0) ⟨Nat.zero_le _,fun j hj=>by omega⟩ ?_
  intro i hI
  obtain ⟨hi,hok⟩:=hI
  refine A9 ?_
  refine x9 rfl (fun h16=> ?_) (fun h16=> ?_)
  ·
    refine A8 ?_
    refine R2 (x6 sl22 (i) (by omega) (gD (l:=l) (n:=i) (d:=tst0) (by omega))) rfl rfl (R1 (xb4 fo34_2.h (At.f 2 rfl rfl) rfl) rfl (R1 (xb4 fo32_0.h (At.f 0 rfl rfl) rfl) rfl ?_))
    refine A3 ?_
    refine RGcaseD (t:=17) rfl (fun h17=> ?_) (fun h17=> ?_)
    ·
      refine A9 ?_
      refine A9 ?_
      refine A9 ?_
      refine A7 ?_
      exact x4 Plain.mk' rfl rfl (Le.bool (sRight_no (i:=i) (by omega) (by rw [sOk,decide_eq_false (by omega)];rfl)))
    ·
      refine A2 ?_
      refine RGon (decide_eq_false h17) rfl (x6 sl22 (i) (by omega) (gD (l:=l) (n:=i) (d:=tst0) (by omega))) rfl ⟨rfl,rfl,trivial⟩ trivial trivial (RGon (decide_eq_false h17) rfl (xb4 fo34_2.h (At.f 2 rfl rfl) rfl) rfl ⟨rfl,trivial⟩ trivial trivial (RGon (decide_eq_false h17) rfl (xb4 fo32_1.h (At.f 1 rfl rfl) rfl) rfl ⟨rfl,trivial⟩ trivial trivial (RGon (decide_eq_false h17) rfl (xb4 fo30_0.h (At.f 0 rfl rfl) rfl) rfl ⟨rfl,trivial⟩ trivial trivial (RGon (decide_eq_false h17) rfl (xb4 fo28_0.h (At.f 0 rfl rfl) rfl) rfl ⟨rfl,trivial⟩ trivial trivial ?_))))
      refine A3 ?_
      refine RGcase (t:=27) rfl (fun h17_2=> ?_) (fun h17_2=> ?_)
      ·
        refine A9 ?_
        refine A9 ?_
        refine A6 ?_
        exact x4 Plain.mk' rfl rfl (Le.bool (sRight_no (i:=i) (by omega) (by rw [sOk,h17_2];simp)))
      ·
        refine A2 ?_
        refine RGon h17_2 rfl (x6 sl22 (i) (by omega) (gD (l:=l) (n:=i) (d:=tst0) (by omega))) rfl ⟨rfl,rfl,trivial⟩ trivial trivial (RGon h17_2 rfl (xb4 fo34_2.h (At.f 2 rfl rfl) rfl) rfl ⟨rfl,trivial⟩ trivial trivial (RGon h17_2 rfl (xb4 fo32_1.h (At.f 1 rfl rfl) rfl) rfl ⟨rfl,trivial⟩ trivial trivial ?_))
        refine A1 ?_
        refine RGon h17_2 rfl (x3 (c_R2FromInt 1 (by decide) (by decide)) fi76 rfl) rfl ⟨rfl,trivial⟩ trivial trivial (RGon h17_2 rfl (x3 (c_R2Cmp1 _ (hD _ (xc2 (l:=l) (i:=i) (by omega)))) fi72 rfl) rfl ⟨rfl,rfl,trivial⟩ trivial trivial ?_)
        refine A4 ?_
        refine x9 rfl (fun h17_3=> ?_) (fun h17_3=> ?_)
        ·
          refine A9 ?_
          refine A2 ?_
          exact x4 Plain.mk' rfl rfl (Le.bool (sRight_no (i:=i) (by omega) (sOk_cmp h17_3)))
        ·
          refine A8 ?_
          exact K_fam (i+1) ⟨⟨by omega,fun j hj=>by
    by_cases hji:j=i
    · subst hji;exact ⟨by omega,h17_2,h17_3⟩
    · exact hok j (by omega)⟩,(by omega)⟩ (Sub.int rfl (by first | omega | rfl | (dsimp only;omega)) (Sub.cons rfl Sub.nil)) SubK.nil (SupG.val (SupG.val SupG.nil)) SupH.nil (lkOk rfl)
  ·
    refine A8 ?_
    refine R1 (x3 (c_R5Right l hl hD hs) fi77 rfl) rfl ?_
    refine A4 ?_
    exact x4 Plain.mk' rfl rfl (Le.bool (sRight_R fun j hj=>hok j (by omega)))
theorem c_R8may (l:List Tst) (hl:l.length≤500000) (a b:Int) (hD: ∀s∈l,s.v.f.dig) (hs: ∀s∈l,s.v.f.n.l.length≤1048576∧s.v.f.d.l.length≤1048576):
  Ct Tryz.prog 47 [tL 8 true tTs l,tI a,tI b] (tB (askB l a b)):=by
 refine Ct.intro Tryz.func47 rfl Tryz.ntmps47 rfl ?_
 intro w F
 refine A8 ?_
 refine R1 (x3 (c_R8Right l hl hD hs) fi36 rfl) rfl ?_
 refine A1 ?_
 refine RGcase (t:=9) rfl (fun h26=> ?_) (fun h26=> ?_)
 ·
  refine A4 ?_
  refine RGcaseD (t:=13) rfl (fun h26_2=> ?_) (fun h26_2=> ?_)
  ·
   refine A4 ?_
   refine RGcaseD (t:=17) rfl (fun h26_3=> ?_) (fun h26_3=> ?_)
   ·
    refine A4 ?_
    refine RGcaseD (t:=21) rfl (fun h26_4=> ?_) (fun h26_4=> ?_)
    ·
     refine A7 ?_
     exact x4 Plain.mk' rfl rfl (Le.bool (by simp only [askB];simp [*]))
    ·
     refine A7 ?_
     exact x4 Plain.mk' rfl rfl (Le.bool (by simp only [askB];simp [*]))
   ·
    refine A9 ?_
    refine A2 ?_
    exact x4 Plain.mk' rfl rfl (Le.bool (by simp only [askB];simp [*]))
  ·
   refine A9 ?_
   refine A6 ?_
   exact x4 Plain.mk' rfl rfl (Le.bool (by simp only [askB];simp [*]))
 ·
  refine A9 ?_
  refine A9 ?_
  refine A1 ?_
  exact x4 Plain.mk' rfl rfl (Le.bool (by simp only [askB];simp [*]))
end An.S

/- Layer 8: service records in order; sums of days. Plain data, but for what the walks define. -/
namespace An.S
open Go
theorem wkS_asc {l:List Tst} {a b:Int} (h:tRight l=true) (h0:0≤a) (h1:b≤65536) (hab:a < b):ascS (wkS l a b):=by
  refine ⟨fun s hs=> ?_,?_⟩
  · obtain ⟨x,hx,rfl⟩:=List.mem_map.1 hs
    obtain ⟨hm,hi⟩:=List.mem_filter.1 hx
    obtain ⟨i,hi2,rfl⟩:=xh5 hm
    have h3:=xh9 h hi2
    have h4: ¬_:=fun h'=>by rw [idle_iff.2 h'] at hi;cases hi
    simp only [okS,clipS]
    omega
  · refine (((tRight_pair h).filter _).map (S:=fun s t=>s.hi≤t.lo) (clipS a b) fun s t hst=> ?_)
    simp only [clipS];omega
theorem wkd_eq {l:List Tst} {a b:Int} (h:tRight l=true) (h0:0≤a) (h1:b≤65536):wkd l a b=if b≤a then [] else mrg (wkS l a b):=by
  rw [wkd];split
  · rfl
  · rename_i hab
    have ha:=wkS_asc h h0 h1 (by omega)
    rw [if_pos (ascS_ok ha),mkS,ascS_pos ha,ascS_srt ha]
theorem wkd_set {l:List Tst} {a b:Int} (h:tRight l=true) (h0:0≤a) (h1:b≤65536):sVal (wkd l a b)=true∧dayS (wkd l a b)=if b≤a then 0 else dayS (wkS l a b):=by
  rw [wkd_eq h h0 h1]
  split
  · exact ⟨rfl,rfl⟩
  · rename_i hab
    have:=mrg_asc (wkS l a b) [] (wkS_asc h h0 h1 (by omega)) rfl fun h'=>by cases h'
    exact ⟨this.1,by rw [mrg,this.2];simp [dayS]⟩
end An.S

/- Law 8: records are built, days are counted. -/
namespace An.S
open Go Go.Proofs An
set_option maxHeartbeats 2000000
def befS (day:Int) (s:Sn):Int:=if s.lo < day then min s.hi day - s.lo else 0
def bef (l:List Sn) (day:Int):Int:=(l.map (befS day)).sum
def bFrom (m:List Nat) (k:Nat) (t:Int):Int:=t+((m.getD (3*k) 0:Nat):Int)%2000
def bEnd (m:List Nat) (k:Nat) (t:Int):Int:=bFrom m k t+1+((m.getD (3*k+1) 0:Nat):Int)%2000
def bQ (m:List Nat) (k:Nat):Int:=((m.getD (3*k+2) 0:Nat):Int)%5
def qv (q:Int):Va:=⟨2,fr (kfr q 4),0⟩
def bSt (m:List Nat) (k:Nat) (t:Int):Tst:=⟨bFrom m k t,bEnd m k t,qv (bQ m k)⟩
def bRun (m:List Nat):Nat→Nat→List Tst→Int→List Tst
  | 0,_,out,_=>out
  | f+1,k,out,t=>if 3*k+2 < m.length∧k < 40 then (if 65536 < bEnd m k t then out else bRun m f (k+1) (pst1 out (bSt m k t)) (bEnd m k t)) else out
def builtT (m:List Nat):List Tst:=bRun m 41 0 [] 0
end An.S

/- Law 8: quarters, the examples of the chapter. -/
namespace An.S
open Go Go.Proofs An
set_option maxHeartbeats 2000000
set_option maxRecDepth 100000
instance fi10:FnI Tryz.prog 10:=⟨_,Tryz.func10,by kernel_rfl,rfl⟩
instance fi17:FnI Tryz.prog 17:=⟨_,Tryz.func17,by kernel_rfl,rfl⟩
instance fi18:FnI Tryz.prog 18:=⟨_,Tryz.func18,by kernel_rfl,rfl⟩
instance fi19:FnI Tryz.prog 19:=⟨_,Tryz.func19,by kernel_rfl,rfl⟩
instance fi24:FnI Tryz.prog 24:=⟨_,Tryz.func24,by kernel_rfl,rfl⟩
instance fi26:FnI Tryz.prog 26:=⟨_,Tryz.func26,by kernel_rfl,rfl⟩
instance fi28:FnI Tryz.prog 28:=⟨_,Tryz.func28,by kernel_rfl,rfl⟩
instance fi29:FnI Tryz.prog 29:=⟨_,Tryz.func29,by kernel_rfl,rfl⟩
instance fi31:FnI Tryz.prog 31:=⟨_,Tryz.func31,by kernel_rfl,rfl⟩
/-- The sum, and the number, of the quarters up to n that a value is. -/
def qsum (v:Va):Nat→Int
  | 0=>0
  | n+1=>qsum v n+if v=qv ((n:Int)+1) then (n:Int)+1 else 0
def qcnt (v:Va):Nat→Int
  | 0=>0
  | n+1=>qcnt v n+if v=qv ((n:Int)+1) then 1 else 0
def dys (a b:Int) (s:Tst):Int:=min s.hi b - max s.lo a
def quS1 (a b:Int) (s:Tst):Int:=if dys a b s≤0 then 0 else qsum s.v 4*dys a b s
def quW1 (a b:Int) (s:Tst):Int:=if dys a b s≤0 then 0 else qcnt s.v 4*dys a b s
def quS (l:List Tst) (a b:Int):Int:=(l.map (quS1 a b)).sum
def quW (l:List Tst) (a b:Int):Int:=(l.map (quW1 a b)).sum
theorem dig_fr (q:Rat):(fr q).dig:=⟨xc3 x7 _,xc3 x7 _⟩
def exL:List Tst:=[(⟨0,100,⟨2,fr (kfr 1 1),0⟩⟩:Tst),(⟨100,150,⟨2,fr (kfr 1 2),0⟩⟩:Tst),(⟨160,200,⟨2,fr (kfr 0 1),0⟩⟩:Tst),(⟨200,300,⟨2,fr (kfr 1 4),0⟩⟩:Tst)]
theorem exD: ∀s∈exL,s.v.f.dig:=fun s hs=>by
  simp only [exL,List.mem_cons,List.not_mem_nil,or_false] at hs
  rcases hs with rfl | rfl | rfl | rfl <;> exact dig_fr _
theorem c_example:
  Ct Tryz.prog 26 [] (tL 8 true tTs exL):=by
 refine Ct.intro Tryz.func26 rfl Tryz.ntmps26 rfl ?_
 intro w F
 refine A7 ?_
 refine RE (x3 (c_step08 0 100 1 1 (by decide) (by decide) (by decide) (by decide)) fi10 rfl) ⟨rfl,rfl,rfl,rfl,trivial⟩ trivial trivial (RE (x3 (c_step08 100 150 1 2 (by decide) (by decide) (by decide) (by decide)) fi10 rfl) ⟨rfl,rfl,rfl,rfl,trivial⟩ trivial trivial (RE (x3 (c_step08 160 200 0 1 (by decide) (by decide) (by decide) (by decide)) fi10 rfl) ⟨rfl,rfl,rfl,rfl,trivial⟩ trivial trivial (RE (x3 (c_step08 200 300 1 4 (by decide) (by decide) (by decide) (by decide)) fi10 rfl) ⟨rfl,rfl,rfl,rfl,trivial⟩ trivial trivial (RE (xd6 (n:=4) (f:=tTs) [(⟨0,100,⟨2,fr (kfr 1 1),0⟩⟩:Tst),(⟨100,150,⟨2,fr (kfr 1 2),0⟩⟩:Tst),(⟨160,200,⟨2,fr (kfr 0 1),0⟩⟩:Tst),(⟨200,300,⟨2,fr (kfr 1 4),0⟩⟩:Tst)] Tryz.underlying22 el34 zf34 rfl (fun _=>inferInstance) rfl rfl rfl) ⟨rfl,rfl,rfl,rfl,trivial⟩ trivial trivial ?_))))
 refine A4 ?_
 exact x4 Plain.mk' rfl rfl Le.refl
theorem c_YearsV (l:List Tst) (a b:Int) (q:Rat) (hl:l.length≤500000) (hD: ∀s∈l,s.v.f.dig) (hk:askB l a b=true) (hy:yq l a b=some q):Ct Tryz.prog 27 [tL 8 true tTs l,tI a,tI b] (tT [tFr (fr q),tI 0]):=by
  have h:=c_Years l a b hl hD
  rw [if_pos hk,if_pos hk,hy] at h;exact h
theorem c_CappedV (l:List Tst) (a b:Int) (f:Fr) (q:Rat) (hl:l.length≤500000) (hD: ∀s∈l,s.v.f.dig) (hF:f.dig) (hk:capC l a b f) (hy:capO l a b f=some q):Ct Tryz.prog 28 [tL 8 true tTs l,tI a,tI b,tFr f] (tT [tFr (fr q),tI 0]):=by
  have h:=c_Capped l a b f hl hD hF
  rw [if_pos hk,if_pos hk,hy] at h;exact h
theorem c_MonthsV (f:Fr) (n:Int) (hF:f.dig) (hc:moC f) (hn:(m12 f).floor=n):Ct Tryz.prog 29 [tFr f] (tT [tI n,tI 0]):=by
  have h:=c_Months f hF
  rw [if_pos hc,if_pos hc.1,if_pos hc,hn] at h;exact h
theorem c_WorkedV (l:List Tst) (a b:Int) (w:List Sn) (hl:l.length≤500000) (hD: ∀s∈l,s.v.f.dig) (hk:askB l a b=true) (hw:wkd l a b=w):Ct Tryz.prog 17 [tL 8 true tTs l,tI a,tI b] (tT [tL 2 true tSn w,tI 0]):=by
  have h:=c_Worked l a b hl hD
  rw [if_pos hk,if_pos hk,hw] at h;exact h
theorem c_BreaksV (l:List Tst) (a b:Int) (w:List Sn) (hl:l.length≤500000) (hD: ∀s∈l,s.v.f.dig) (hk:askB l a b=true) (hw:brk (wkd l a b)=w):Ct Tryz.prog 18 [tL 8 true tTs l,tI a,tI b] (tT [tL 2 true tSn w,tI 0]):=by
  have h:=c_Breaks l a b hl hD
  rw [if_pos hk,if_pos hk,hw] at h;exact h
theorem c_PeriodsV (l:List Tst) (a b d:Int) (w:List Sn) (hl:l.length≤500000) (hD: ∀s∈l,s.v.f.dig) (hk:askB l a b=true∧sVal (wkd l a b)=true∧0≤d) (hw:brg d (wkd l a b)=w):Ct Tryz.prog 19 [tL 8 true tTs l,tI a,tI b,tI d] (tT [tL 2 true tSn w,tI 0]):=by
  have h:=c_Periods l a b d hl hD
  rw [if_pos hk,if_pos hk,hw] at h;exact h
theorem c_sameF (f:Fr):Ct Tryz.prog 30 [tFr f,tFr f] (tB true):=by
  have h:=c_SameFrac f f
  rw [decide_eq_true rfl] at h;exact h
theorem c_sameS (w:List Sn):Ct Tryz.prog 24 [tL 2 true tSn w,tL 2 true tSn w] (tB true):=by
  have h:=c_SameSpans w w
  rw [decide_eq_true rfl] at h;exact h
theorem exW:wkd exL 0 300=[⟨0,150⟩,⟨200,300⟩]:=(wkd_eq (by decide+kernel) (by decide) (by decide)).trans (by decide+kernel)
theorem exV:wkd exL 150 220=[⟨200,220⟩]:=(wkd_eq (by decide+kernel) (by decide) (by decide)).trans (by decide+kernel)
theorem c_awake:
  Ct Tryz.prog 7 [] (tB true):=by
 refine Ct.intro Tryz.func7 rfl Tryz.ntmps7 rfl ?_
 intro w F
 refine A7 ?_
 refine R0 (x3 c_example fi26 rfl) ?_
 refine A6 ?_
 refine R3 (x3 (c_YearsV exL 0 300 (kfr 200 487) (by decide) exD (by decide+kernel) (by decide+kernel)) fi27 rfl) rfl rfl rfl ?_
 refine A3 ?_
 refine RE (xa6 (k:=2) (n:=4) (agg:=true) zr30.1 zr30.2 rfl) trivial trivial ⟨rfl,trivial⟩ ?_
 refine A7 ?_
 refine R3 (x3 (c_YearsV exL 50 50 (kfr 0 1) (by decide) exD (by decide+kernel) (by decide+kernel)) fi27 rfl) rfl rfl rfl ?_
 refine A3 ?_
 refine RE (xa6 (k:=4) (n:=4) (agg:=true) zr30.1 zr30.2 rfl) trivial trivial ⟨rfl,trivial⟩ ?_
 refine A7 ?_
 refine R3 (x3 (c_YearsV exL 120 110 (kfr 0 1) (by decide) exD (by decide+kernel) (by decide+kernel)) fi27 rfl) rfl rfl rfl ?_
 refine A3 ?_
 refine RE (xa6 (k:=6) (n:=4) (agg:=true) zr30.1 zr30.2 rfl) trivial trivial ⟨rfl,trivial⟩ ?_
 refine A7 ?_
 refine R2 (x3 (c_KFrac 1 3 (by decide) (by decide) (by decide) (by decide)) fi12 rfl) rfl rfl (RE (x3 (c_CappedV exL 0 300 (fr (kfr 1 3)) (kfr 1 3) (by decide) exD (dig_fr _) (by decide+kernel) (by decide+kernel)) fi28 rfl) ⟨rfl,rfl,rfl,rfl,trivial⟩ trivial trivial ?_)
 refine A3 ?_
 refine RE (xa6 (k:=8) (n:=4) (agg:=true) zr30.1 zr30.2 rfl) trivial trivial ⟨rfl,trivial⟩ ?_
 refine A6 ?_
 refine R2 (x3 (c_KFrac 5 4 (by decide) (by decide) (by decide) (by decide)) fi12 rfl) rfl rfl (R1 (x3 (c_MonthsV (fr (kfr 5 4)) 15 (dig_fr _) (by decide+kernel) (by decide+kernel)) fi29 rfl) rfl ?_)
 refine A9 ?_
 refine R2 (x3 (c_KFrac 1 13 (by decide) (by decide) (by decide) (by decide)) fi12 rfl) rfl rfl (R1 (x3 (c_MonthsV (fr (kfr 1 13)) 0 (dig_fr _) (by decide+kernel) (by decide+kernel)) fi29 rfl) rfl ?_)
 refine A9 ?_
 refine A9 ?_
 refine A5 ?_
 refine RGon (decide_eq_false (by omega)) rfl (xb2 (0) ti30 rfl rfl) rfl ⟨rfl,trivial⟩ ⟨rfl,trivial⟩ trivial (RGon (decide_eq_false (by omega)) rfl (x3 (c_KFrac 200 487 (by decide) (by decide) (by decide) (by decide)) fi12 rfl) rfl ⟨rfl,rfl,trivial⟩ trivial trivial (RGon (decide_eq_false (by omega)) rfl (x3 (c_sameF _) fi30 rfl) rfl ⟨rfl,rfl,trivial⟩ trivial trivial (RGon (decide_eq_false (by omega)) rfl d_not rfl ⟨rfl,trivial⟩ trivial trivial (R2 (xg3 (decide_eq_false (by omega))) rfl rfl ?_))))
 refine A2 ?_
 refine RGon rfl rfl (x3 (c_KFrac 0 1 (by decide) (by decide) (by decide) (by decide)) fi12 rfl) rfl ⟨rfl,rfl,trivial⟩ trivial trivial (RGon rfl rfl (x3 (c_sameF _) fi30 rfl) rfl ⟨rfl,rfl,trivial⟩ trivial trivial ?_)
 refine A5 ?_
 refine RGon rfl rfl (x3 (c_sameF _) fi30 rfl) rfl ⟨rfl,rfl,trivial⟩ trivial trivial ?_
 refine A4 ?_
 refine RGon rfl rfl (x3 (c_KFrac 1 3 (by decide) (by decide) (by decide) (by decide)) fi12 rfl) rfl ⟨rfl,rfl,trivial⟩ trivial trivial (RGon rfl rfl (x3 (c_sameF _) fi30 rfl) rfl ⟨rfl,rfl,trivial⟩ trivial trivial ?_)
 refine A7 ?_
 refine RGon (decide_eq_false (by omega)) rfl xa2 rfl ⟨rfl,trivial⟩ trivial trivial (RGon (decide_eq_false (by omega)) rfl d_neq rfl ⟨rfl,rfl,trivial⟩ trivial trivial (R2 (xg3 (decide_eq_false (by omega))) rfl rfl ?_))
 refine A2 ?_
 refine xa8 rfl (decide_eq_false (by omega)) ?_
 refine A5 ?_
 refine R3 (x3 (c_WorkedV exL 0 300 [(⟨0,150⟩:Sn),(⟨200,300⟩:Sn)] (by decide) exD (by decide+kernel) exW) fi17 rfl) rfl rfl rfl ?_
 refine A9 ?_
 refine A1 ?_
 refine R3 (x3 (c_BreaksV exL 0 300 [(⟨150,200⟩:Sn)] (by decide) exD (by decide+kernel) (by rw [exW];decide+kernel)) fi18 rfl) rfl rfl rfl ?_
 refine A9 ?_
 refine A1 ?_
 refine RE (x3 (c_PeriodsV exL 0 300 50 [(⟨0,300⟩:Sn)] (by decide) exD ⟨by decide+kernel,by rw [exW];decide+kernel,by decide⟩ (by rw [exW];decide+kernel)) fi19 rfl) ⟨rfl,rfl,rfl,rfl,trivial⟩ trivial trivial ?_
 refine A9 ?_
 refine A1 ?_
 refine RE (x3 (c_PeriodsV exL 0 300 49 [(⟨0,150⟩:Sn),(⟨200,300⟩:Sn)] (by decide) exD ⟨by decide+kernel,by rw [exW];decide+kernel,by decide⟩ (by rw [exW];decide+kernel)) fi19 rfl) ⟨rfl,rfl,rfl,rfl,trivial⟩ trivial trivial ?_
 refine A9 ?_
 refine A1 ?_
 refine R3 (x3 (c_WorkedV exL 150 220 [(⟨200,220⟩:Sn)] (by decide) exD (by decide+kernel) exV) fi17 rfl) rfl rfl rfl ?_
 refine A9 ?_
 refine A1 ?_
 refine R3 (x3 (c_BreaksV exL 150 220 [] (by decide) exD (by decide+kernel) (by rw [exV];decide+kernel)) fi18 rfl) rfl rfl rfl ?_
 refine A9 ?_
 refine A9 ?_
 refine A9 ?_
 refine RGon (decide_eq_true (by omega)) rfl xa2 rfl ⟨rfl,trivial⟩ trivial trivial (RGon (decide_eq_true (by omega)) rfl xa2 rfl ⟨rfl,trivial⟩ trivial trivial (RGon (decide_eq_true (by omega)) rfl (x3 (c_to 0 150) fi31 rfl) rfl ⟨rfl,rfl,trivial⟩ trivial trivial (RGon (decide_eq_true (by omega)) rfl (x3 (c_to 200 300) fi31 rfl) rfl ⟨rfl,rfl,trivial⟩ trivial trivial (RGon (decide_eq_true (by omega)) rfl (xd6 (n:=2) (f:=tSn) [(⟨0,150⟩:Sn),(⟨200,300⟩:Sn)] Tryz.underlying45 el62 zf62 rfl (fun _=>inferInstance) rfl rfl rfl) rfl ⟨rfl,rfl,trivial⟩ trivial trivial (RGon (decide_eq_true (by omega)) rfl (d_callF (c_sameS [(⟨0,150⟩:Sn),(⟨200,300⟩:Sn)]) fi24 rfl) rfl ⟨rfl,rfl,rfl,trivial⟩ trivial trivial (R2 (xg7 (decide_eq_true (by omega))) rfl rfl ?_))))))
 refine A3 ?_
 refine RGon rfl rfl (x3 (c_to 150 200) fi31 rfl) rfl ⟨rfl,rfl,trivial⟩ trivial trivial (RGon rfl rfl (xd6 (n:=1) (f:=tSn) [(⟨150,200⟩:Sn)] Tryz.underlying45 el62 zf62 rfl (fun _=>inferInstance) rfl rfl rfl) rfl ⟨rfl,trivial⟩ trivial trivial (RGon rfl rfl (d_callF (c_sameS [(⟨150,200⟩:Sn)]) fi24 rfl) rfl ⟨rfl,rfl,rfl,trivial⟩ trivial trivial ?_))
 refine A4 ?_
 refine RGon rfl rfl (x3 (c_to 0 300) fi31 rfl) rfl ⟨rfl,rfl,trivial⟩ trivial trivial (RGon rfl rfl (xd6 (n:=1) (f:=tSn) [(⟨0,300⟩:Sn)] Tryz.underlying45 el62 zf62 rfl (fun _=>inferInstance) rfl rfl rfl) rfl ⟨rfl,trivial⟩ trivial trivial (RGon rfl rfl (d_callF (c_sameS [(⟨0,300⟩:Sn)]) fi24 rfl) rfl ⟨rfl,rfl,rfl,trivial⟩ trivial trivial ?_))
 refine A5 ?_
 refine RGon rfl rfl (d_callF (c_sameS [(⟨0,150⟩:Sn),(⟨200,300⟩:Sn)]) fi24 rfl) rfl ⟨rfl,rfl,rfl,trivial⟩ trivial trivial ?_
 refine A4 ?_
 refine RGon rfl rfl (x3 (c_to 200 220) fi31 rfl) rfl ⟨rfl,rfl,trivial⟩ trivial trivial (RGon rfl rfl (xd6 (n:=1) (f:=tSn) [(⟨200,220⟩:Sn)] Tryz.underlying45 el62 zf62 rfl (fun _=>inferInstance) rfl rfl rfl) rfl ⟨rfl,trivial⟩ trivial trivial (RGon rfl rfl (d_callF (c_sameS [(⟨200,220⟩:Sn)]) fi24 rfl) rfl ⟨rfl,rfl,rfl,trivial⟩ trivial trivial ?_))
 refine A9 ?_
 refine A1 ?_
 exact x4 Plain.mk' rfl rfl (Le.bool (by decide))
end An.S

/- Law 8: ServiceYears: the program and the reference agree on years and limits. -/
namespace An.S
open Go Go.Proofs An
set_option maxHeartbeats 2000000
set_option maxRecDepth 100000
instance fi16:FnI Tryz.prog 16:=⟨_,Tryz.func16,by kernel_rfl,rfl⟩
instance fi23:FnI Tryz.prog 23:=⟨_,Tryz.func23,by kernel_rfl,rfl⟩
instance fi34:FnI Tryz.prog 34:=⟨_,Tryz.func34,by kernel_rfl,rfl⟩
instance fi38:FnI Tryz.prog 38:=⟨_,Tryz.func38,by kernel_rfl,rfl⟩
end An.S

/- append to a slice that others know too: in place, or in a new block; rows of blocks under names that are counted. For any program. -/
namespace An
open Go
theorem St'.more {c:Base} {g:Slots} {h:Keys} {al al':Names} {a:Act} {w:World} {η:Env} (s:St' c g h al a w η) (hal: ∀k,al k=true→al' k=true):St' c g h al' a w η:=
  ⟨s.tn,s.df,fun t e he=>⟨(s.slot t e he).1,fun k hk=>hal k ((s.slot t e he).2.1 k hk),(s.slot t e he).2.2⟩,fun k x hx=>⟨hal k (s.key k x hx).1,fun j hj=>hal j ((s.key k x hx).2.1 j hj),(s.key k x hx).2.2⟩,
   s.inj,s.fr,fun k hk=>⟨hal k (s.lk k hk).1,(s.lk k hk).2⟩,s.pin,s.vol,fun k hk=>hal k (s.yal k hk),s.jj,s.lbl⟩
section
variable {P:Program} {c:Base} {g:Slots} {h:Keys} {al:Names} {d ty:Nat} {pos:String} {af:Array Edge} {Q:Exit→Act→World→Prop}
/-- append to a slice of the call's own, which others know too: its block is as it was, but for what has come behind; or there is a new one. -/
theorem wl_app2 {A:Array Oper} {rest:List Oper} {T E es by_ k k' n:Nat} {agg:Bool} {z:Value} {α:Type} {f:α→Ty} {ys:List α} {x y:Operand} {ts:List Ent} {T0:Nat} (sl:P.underlying T=some (.slice E)) (el:ElI P E es by_ agg z) (hz:Flat es agg z) (hT:T0=E) (h0:Nat.blt 0 es=true)
    (hf: ∀y,Shape (f y) es agg) (hx:look g x=some (.own (.sl k es 0 n))) (hy:look g y=some (.val (tL es agg f ys))) (hk:h k=some ⟨T0,es,agg,ts⟩) (hk':al k'=false) (hn:ts.length=n) (hb:(n+ys.length)*by_≤140737488355328) (h63:n+ys.length≤9223372036854775807) (hpos:0 < ys.length) (hdN:Nat.blt d c.N=true)
    (H: ∀b:Bool,wl P c A Q rest (upd g d (some (.own (.sl (cond b k k') es 0 (n+ys.length))))) (upd h (cond b k k') (some ⟨T0,es,agg,ts++ys.map (fun y=> .val (f y))⟩)) (fun j=>Nat.beq j k' || al j)):
    wl P c A Q (⟨some d,.call {callee:= .builtin .append,args:= #[x,y],argTypes:= #[T,T]},ty,pos,af,none⟩::rest) g h al:=by
  intro a w ⟨η,s⟩
  unfold wpListIn
  rw [if_pos (by rfl)]
  subst hT hn
  have h0':0 < es:=by simpa using h0
  have hdN':d < c.N:=by simpa using hdN
  obtain ⟨hxv,hxs⟩:=xa3 s hx
  obtain ⟨AA,hA,hcap,hadr⟩:=hxv
  simp only [Nat.sub_zero,Nat.zero_add,Nat.zero_mul] at hA hcap hadr
  obtain ⟨A2,c2,news,hyv,hns,hsrc,hone,hnp,_⟩:=src_cells (P:=P) hf h0' (xa3 s hy).1
  have hA:a.eval x= .slice AA ts.length (η.c k):=hA
  have hyv:a.eval y= .slice A2 ys.length c2:=hyv
  obtain ⟨i,hi,hsz,hby,hz'⟩:=el.parts
  obtain ⟨k1,k2,⟨k3,k4,k5,k6,k7⟩,k8⟩:=s.key k _ hk
  simp only at k3 k4 k5 k6 k7
  have hexec: ∀v w',(Builtin.append_ #[T,T] ty #[.slice AA ts.length (η.c k),.slice A2 ys.length c2]).run P w= .ok v w'→
      (execOp a.eval ⟨some d,.call {callee:= .builtin .append,args:= #[x,y],argTypes:= #[T,T]},ty,pos,af,none⟩).run P w= .ok (.value v) w':=fun v w' hr=>by
    simp only [execOp,resolve,invoke,builtin,List.map_toArray,List.map_cons,List.map_nil,hA,hyv,Sem.run_bind,Sem.run_pure,Result.andThen_ok,hr]
  have hsupp: ∀j∈HEnt.supp ⟨T0,es,agg,ts++ys.map fun y=> .val (f y)⟩,al j=true:=fun j hj=>by
    simp only [HEnt.supp,List.mem_flatMap] at hj
    obtain ⟨e,he,hj⟩:=hj
    rcases List.mem_append.1 he with he | he
    · exact k2 j (List.mem_flatMap.2 ⟨e,he,hj⟩)
    · obtain ⟨y,_,rfl⟩:=List.mem_map.1 he
      cases hj
  have hlk: ∀(i:Nat) (e:Ent),(ts++ys.map fun y=>Ent.val (f y))[i]? =some e→(ts[i]? =some e∧i < ts.length)∨(∃y,ys[i - ts.length]? =some y∧e= .val (f y)∧ts.length≤i):=fun i e he=>by
    rcases Nat.lt_or_ge i ts.length with hlt | hge
    · rw [List.getElem?_append_left hlt] at he;exact .inl ⟨he,hlt⟩
    · rw [List.getElem?_append_right hge,List.getElem?_map] at he
      obtain ⟨y,hy,rfl⟩:=Option.map_eq_some_iff.1 he
      exact .inr ⟨y,hy,rfl,hge⟩
  have hcs: ∃cs:Array Value,(0 < η.c k→AA=some ⟨η.b k,0,none⟩∧w.heap[η.b k]? =some (.cells cs T0 (0,0))∧cs.size=η.c k*es)∧(0 < η.c k→ ∀(i:Nat) (e:Ent),ts[i]? =some e→e.sat (c.dom h η) w η (pick agg es cs (i*es))):=by
    rcases Nat.eq_zero_or_pos (η.c k) with hc | hc
    · exact ⟨#[],fun h=>by omega,fun h=>by omega⟩
    · obtain ⟨cs,m1,m2,m3⟩:=k7 hc
      exact ⟨cs,fun _=>⟨hadr hc,m1,m2⟩,fun _=>m3⟩
  obtain ⟨cs,hrow,m3⟩:=hcs
  rcases run_appendG (P:=P) (ty:=ty) (A:=AA) (n:=ts.length) (cap:=η.c k) (A2:=A2) (c2:=c2) (w:=w) (b:=η.b k) sl hi hsz hby hz' hz.1 h0' k3 cs hrow news hns hsrc hone h63 hb with ⟨hfit,w',hr,hw,_⟩ | ⟨hgt,w',cap',rest',hr,hle,hmax,hrest,hheap,hos,htape,hout,hold⟩
  · have hc:0 < η.c k:=by omega
    obtain ⟨hAv,m1,m2⟩:=hrow hc
    obtain ⟨q1,q2,q3,q4,q5,q6⟩:=hw hc
    refine xe8 (hexec _ _ hr) ?_
    have hsz2:ts.length*es+ys.length*es≤cs.size:=by rw [m2,←Nat.add_mul];exact Nat.mul_le_mul_right _ hfit
    have hnl:news.toList.length=ys.length*es:=by simpa using hns
    have s1:=s.write (w':=w') k hk ⟨T0,es,agg,ts++ys.map fun y=> .val (f y)⟩ (putAt cs (ts.length*es) news.toList) (by rw [xe1];exact m2) (by simpa using hfit) h0' k5 hsupp
      (fun j e hj=>by
        rcases hlk j e hj with ⟨he,hjl⟩ | ⟨y,hy',rfl,hge⟩
        · have hle':j*es+es≤ts.length*es:=by rw [←Nat.succ_mul];exact Nat.mul_le_mul_right _ hjl
          simp only []
          rw [xg6 (by omega) k5 (.inl hle')]
          exact m3 hc j e he
        · have hjl:j - ts.length < ys.length:=(List.getElem?_eq_some_iff.1 hy').1
          have hle':(j - ts.length)*es+es≤ys.length*es:=by rw [←Nat.succ_mul];exact Nat.mul_le_mul_right _ hjl
          have e1:j*es=ts.length*es+(j - ts.length)*es:=by rw [←Nat.add_mul];congr 1;omega
          have hpk:pick agg es (putAt cs (ts.length*es) news.toList) (j*es)=pick agg es news ((j - ts.length)*es):=by
            have hg: ∀q,q < es→(putAt cs (ts.length*es) news.toList)[j*es+q]? =news[(j - ts.length)*es+q]? :=fun q hq=>by
              rw [xh8 _ _ _ _ (by omega),if_pos (by omega),Array.getElem?_toList]
              congr 1;omega
            cases agg with
            | true=>
              simp only [pick,cond_true,Value.agg.injEq]
              apply Array.ext_getElem?
              intro q
              rw [Array.getElem?_extract,Array.getElem?_extract,xe1]
              by_cases hq:q < es
              · rw [if_pos (by omega),if_pos (by omega),hg q hq]
              · rw [if_neg (by omega),if_neg (by omega)]
            | false=>
              simp only [pick,cond_false]
              have:=hg 0 h0'
              rw [Array.getD_eq_getD_getElem?,Array.getD_eq_getD_getElem?]
              simp only [Nat.add_zero] at this
              rw [this]
          simp only []
          rw [hpk]
          exact hnp _ y hy')
      hc q1 q2 q3 q4 q5 q6 rfl
    refine H true _ _ ⟨_,(s1.put hdN' (e:= .own (.sl k es 0 (ts.length+ys.length))) ⟨AA,rfl,?_,?_⟩ ?_).more ?_⟩
    · simpa using hfit
    · intro _;rw [hAv];simp
    · intro j hj
      simp only [Ent.supp,VP.supp,List.mem_singleton] at hj
      subst hj;exact k1
    · intro j hj;simp [hj]
  · refine xe8 (hexec _ _ hr) ?_
    have hext:Ext w w':=⟨hos,htape,hout,by rw [hheap];simp,fun b hb=>by rw [hheap,Array.getElem?_push,if_neg (by omega)]⟩
    have hpos': ∀j e,ts[j]? =some e→0 < η.c k:=fun j e he=>by
      have:=(List.getElem?_eq_some_iff.1 he).1;omega
    have s2:=s.new' k' hk' ⟨T0,es,agg,ts++ys.map fun y=> .val (f y)⟩ cap' w.heap.size (by simpa using hle) h0' k5 hmax hsupp hext (fun _=>⟨Nat.le_refl _,cs.extract 0 (ts.length*es)++news++rest',by rw [hheap];simp,by
        simp only [Array.size_append,hns,hrest,hold]
        rw [←Nat.add_mul,←Nat.add_mul];congr 1;omega,fun j e hj=>by
        rcases hlk j e hj with ⟨he,hjl⟩ | ⟨y,hy',rfl,hge⟩
        · have hle':j*es+es≤ts.length*es:=by rw [←Nat.succ_mul];exact Nat.mul_le_mul_right _ hjl
          simp only []
          rw [Array.append_assoc,xh1 (by rw [hold];exact hle') k5,pick_extract0 hle' (by simp at hold;omega) k5]
          exact m3 (hpos' j e he) j e he
        · have hjl:j - ts.length < ys.length:=(List.getElem?_eq_some_iff.1 hy').1
          have hle':(j - ts.length)*es+es≤ys.length*es:=by rw [←Nat.succ_mul];exact Nat.mul_le_mul_right _ hjl
          have e1:j*es=(cs.extract 0 (ts.length*es)).size+(j - ts.length)*es:=by rw [hold,←Nat.add_mul];congr 1;omega
          simp only []
          rw [Array.append_assoc,e1,pick_append_right (by simp only [Array.size_append,hns];omega) k5,xh1 (by rw [hns];exact hle') k5]
          exact hnp _ y hy'⟩)
    refine H false _ _ ⟨_,s2.put hdN' (e:= .own (.sl k' es 0 (ts.length+ys.length))) ⟨some ⟨w.heap.size,0,none⟩,?_,?_,?_⟩ ?_⟩
    · simp [Env.set_c]
    · simpa [Env.set_c] using hle
    · intro _;simp [Env.set_b]
    · intro j hj
      simp only [Ent.supp,VP.supp,List.mem_singleton] at hj
      subst hj;simp
/-- A loop that is left in its first round. -/
theorem xa4 {x:Code} (round:wc P c x (Exit.then (fun _ _=>False) Q) g h al):wc P c (.loop x) Q g h al:=by
  intro a w hs b k cs hro hb hr
  obtain ⟨e,a₁,w₁,hq,harr⟩:=round a w hs b (.inLoop x::k) cs hro hb hr
  refine ⟨e,a₁,w₁,?_⟩
  cases e with
  | normal=>exact hq.elim
  | exit id=>exact ⟨hq,.of_steps (.one (fenced_calm hb hr rfl) stepR_loop) (.pass (x:= .inLoop x) rfl (fun _ _=> .inl (by simp)) harr)⟩
  | goto l=>exact ⟨hq,.of_steps (.one (fenced_calm hb hr rfl) stepR_loop) (.pass (x:= .inLoop x) rfl (fun _ _=> .inl (by simp)) harr)⟩
  | ret=>exact ⟨hq,.of_steps (.one (fenced_calm hb hr rfl) stepR_loop) (.pass (x:= .inLoop x) rfl (fun _ _=> .inl (by simp)) harr)⟩
  | panic ch=>exact ⟨hq,.of_steps (.one (fenced_calm hb hr rfl) stepR_loop) (.pass (x:= .inLoop x) rfl (fun _ _=> .inl (by simp)) harr)⟩
  | outgrown=>exact ⟨hq,.of_steps (.one (fenced_calm hb hr rfl) stepR_loop) (.pass (x:= .inLoop x) rfl (fun _ _=> .inl (by simp)) harr)⟩
/-- A loop, the names given counted by the family too. -/
theorem C_loopA {ι:Type} (I:ι→Prop) (G:ι→Slots) (H:ι→Keys) (al':ι→Names) (μ:ι→Nat) {x:Code} (i:ι) (hi:I i) (hg:Sub (G i) g) (hh:SubK (H i) h) (sg:SupG (G i) (al' i)) (sh:SupH (H i) (al' i)) (hlk:LkOk c (al' i))
    (round: ∀i,I i→wc P c x (Exit.then (fun a w=> ∃j,(I j∧μ j < μ i)∧St c (G j) (H j) (al' j) a w) Q) (G i) (H i) (al' i)):wc P c (.loop x) Q g h al:=by
  intro a w hs b k cs hro hb hr
  have key: ∀n i,μ i=n→I i→ ∀a w,St c (G i) (H i) (al' i) a w→
      ∃e a' w',Q e a' w'∧ArrivesIn (Machine.fenced P (fc c.ro)) P (lone (b.atR a (.code x:: .inLoop x::k)) cs w) b k cs e a' w':=by
    intro n
    induction n using Nat.strongRecOn with
    | _ n ih=>
      intro i hn hi a w hs
      obtain ⟨e,a₁,w₁,hq,harr⟩:=round i hi a w hs b (.inLoop x::k) cs hro hb hr
      cases e with
      | normal=>
        obtain ⟨j,⟨hj,hlt⟩,hs'⟩:=hq
        obtain ⟨e₂,a₂,w₂,hq₂,harr₂⟩:=ih (μ j) (hn▸hlt) j rfl hj a₁ w₁ hs'
        exact ⟨e₂,a₂,w₂,hq₂,.of_steps (StepsIn.trans harr (.one (fenced_calm hb hr rfl) stepR_inLoop)) harr₂⟩
      | exit id=>exact ⟨_,a₁,w₁,hq,.pass (x:= .inLoop x) rfl (fun _ _=> .inl (by simp)) harr⟩
      | goto l=>exact ⟨_,a₁,w₁,hq,.pass (x:= .inLoop x) rfl (fun _ _=> .inl (by simp)) harr⟩
      | ret=>exact ⟨_,a₁,w₁,hq,.pass (x:= .inLoop x) rfl (fun _ _=> .inl (by simp)) harr⟩
      | panic ch=>exact ⟨_,a₁,w₁,hq,.pass (x:= .inLoop x) rfl (fun _ _=> .inl (by simp)) harr⟩
      | outgrown=>exact ⟨_,a₁,w₁,hq,.pass (x:= .inLoop x) rfl (fun _ _=> .inl (by simp)) harr⟩
  obtain ⟨e,a',w',hq,harr⟩:=key _ i rfl hi a w (hs.weaken hg hh sg sh hlk)
  exact ⟨e,a',w',hq,.of_steps (.one (fenced_calm hb hr rfl) stepR_loop) harr⟩
/-- A round of such a loop ends. -/
theorem K_famA {ι:Type} {I:ι→Prop} {G:ι→Slots} {H:ι→Keys} {al':ι→Names} (i:ι) (hi:I i) (hg:Sub (G i) g) (hh:SubK (H i) h) (sg:SupG (G i) (al' i)) (sh:SupH (H i) (al' i)) (hlk:LkOk c (al' i)) {a:Act} {w:World} (hs:St c g h al a w): ∃j,I j∧St c (G j) (H j) (al' j) a w:=
  ⟨i,hi,hs.weaken hg hh sg sh hlk⟩
end
end An

/- Lists of slices that are empty share no memory. -/
namespace An.S
open Go Go.Proofs An
set_option maxHeartbeats 1000000
set_option maxRecDepth 100000
instance ti40:TyI Tryz.prog 40 1 false:=⟨by kernel_rfl,by kernel_rfl⟩
instance ti45:TyI Tryz.prog 45 1 false:=⟨by kernel_rfl,by kernel_rfl⟩
instance ti183:TyI Tryz.prog 183 1 false:=⟨by kernel_rfl,by kernel_rfl⟩
instance ti185:TyI Tryz.prog 185 1 false:=⟨by kernel_rfl,by kernel_rfl⟩
instance ti187:TyI Tryz.prog 187 1 false:=⟨by kernel_rfl,by kernel_rfl⟩
instance ti189:TyI Tryz.prog 189 1 false:=⟨by kernel_rfl,by kernel_rfl⟩
instance ti190:TyI Tryz.prog 190 1 false:=⟨by kernel_rfl,by kernel_rfl⟩
instance ti191:TyI Tryz.prog 191 1 false:=⟨by kernel_rfl,by kernel_rfl⟩
instance ti196:TyI Tryz.prog 196 1 false:=⟨by kernel_rfl,by kernel_rfl⟩
instance ti201:TyI Tryz.prog 201 1 false:=⟨by kernel_rfl,by kernel_rfl⟩
instance ti206:TyI Tryz.prog 206 1 false:=⟨by kernel_rfl,by kernel_rfl⟩
instance ti211:TyI Tryz.prog 211 1 false:=⟨by kernel_rfl,by kernel_rfl⟩
instance ti216:TyI Tryz.prog 216 1 false:=⟨by kernel_rfl,by kernel_rfl⟩
instance ti220:TyI Tryz.prog 220 1 false:=⟨by kernel_rfl,by kernel_rfl⟩
instance ti225:TyI Tryz.prog 225 1 false:=⟨by kernel_rfl,by kernel_rfl⟩
instance ti229:TyI Tryz.prog 229 1 false:=⟨by kernel_rfl,by kernel_rfl⟩
instance ti233:TyI Tryz.prog 233 1 false:=⟨by kernel_rfl,by kernel_rfl⟩
instance ti238:TyI Tryz.prog 238 1 false:=⟨by kernel_rfl,by kernel_rfl⟩
instance ti242:TyI Tryz.prog 242 1 false:=⟨by kernel_rfl,by kernel_rfl⟩
instance ti247:TyI Tryz.prog 247 1 false:=⟨by kernel_rfl,by kernel_rfl⟩
instance ti252:TyI Tryz.prog 252 1 false:=⟨by kernel_rfl,by kernel_rfl⟩
theorem el22:ElI Tryz.prog 22 1 24 false (.slice none 0 0):=⟨ti22,by kernel_rfl,by kernel_rfl⟩
theorem el26:ElI Tryz.prog 26 1 24 false (.slice none 0 0):=⟨ti26,by kernel_rfl,by kernel_rfl⟩
theorem el40:ElI Tryz.prog 40 1 24 false (.slice none 0 0):=⟨ti40,by kernel_rfl,by kernel_rfl⟩
theorem el45:ElI Tryz.prog 45 1 24 false (.slice none 0 0):=⟨ti45,by kernel_rfl,by kernel_rfl⟩
theorem el183:ElI Tryz.prog 183 1 24 false (.slice none 0 0):=⟨ti183,by kernel_rfl,by kernel_rfl⟩
theorem el185:ElI Tryz.prog 185 1 24 false (.slice none 0 0):=⟨ti185,by kernel_rfl,by kernel_rfl⟩
theorem el187:ElI Tryz.prog 187 1 24 false (.slice none 0 0):=⟨ti187,by kernel_rfl,by kernel_rfl⟩
theorem el189:ElI Tryz.prog 189 1 24 false (.slice none 0 0):=⟨ti189,by kernel_rfl,by kernel_rfl⟩
theorem el190:ElI Tryz.prog 190 1 24 false (.slice none 0 0):=⟨ti190,by kernel_rfl,by kernel_rfl⟩
theorem el191:ElI Tryz.prog 191 1 24 false (.slice none 0 0):=⟨ti191,by kernel_rfl,by kernel_rfl⟩
theorem el196:ElI Tryz.prog 196 1 24 false (.slice none 0 0):=⟨ti196,by kernel_rfl,by kernel_rfl⟩
theorem el201:ElI Tryz.prog 201 1 24 false (.slice none 0 0):=⟨ti201,by kernel_rfl,by kernel_rfl⟩
theorem el206:ElI Tryz.prog 206 1 24 false (.slice none 0 0):=⟨ti206,by kernel_rfl,by kernel_rfl⟩
theorem el211:ElI Tryz.prog 211 1 24 false (.slice none 0 0):=⟨ti211,by kernel_rfl,by kernel_rfl⟩
theorem el216:ElI Tryz.prog 216 1 24 false (.slice none 0 0):=⟨ti216,by kernel_rfl,by kernel_rfl⟩
theorem el220:ElI Tryz.prog 220 1 24 false (.slice none 0 0):=⟨ti220,by kernel_rfl,by kernel_rfl⟩
theorem el225:ElI Tryz.prog 225 1 24 false (.slice none 0 0):=⟨ti225,by kernel_rfl,by kernel_rfl⟩
theorem el229:ElI Tryz.prog 229 1 24 false (.slice none 0 0):=⟨ti229,by kernel_rfl,by kernel_rfl⟩
theorem el233:ElI Tryz.prog 233 1 24 false (.slice none 0 0):=⟨ti233,by kernel_rfl,by kernel_rfl⟩
theorem el238:ElI Tryz.prog 238 1 24 false (.slice none 0 0):=⟨ti238,by kernel_rfl,by kernel_rfl⟩
theorem el242:ElI Tryz.prog 242 1 24 false (.slice none 0 0):=⟨ti242,by kernel_rfl,by kernel_rfl⟩
theorem el247:ElI Tryz.prog 247 1 24 false (.slice none 0 0):=⟨ti247,by kernel_rfl,by kernel_rfl⟩
theorem el252:ElI Tryz.prog 252 1 24 false (.slice none 0 0):=⟨ti252,by kernel_rfl,by kernel_rfl⟩
instance un53:UnI Tryz.prog 53 (.slice 45):=⟨Tryz.underlying53⟩
instance un83:UnI Tryz.prog 83 (.slice 26):=⟨Tryz.underlying83⟩
instance un84:UnI Tryz.prog 84 (.slice 40):=⟨Tryz.underlying84⟩
instance un85:UnI Tryz.prog 85 (.slice 183):=⟨Tryz.underlying85⟩
instance un86:UnI Tryz.prog 86 (.slice 185):=⟨Tryz.underlying86⟩
instance un87:UnI Tryz.prog 87 (.slice 187):=⟨Tryz.underlying87⟩
instance un88:UnI Tryz.prog 88 (.slice 189):=⟨Tryz.underlying88⟩
instance un89:UnI Tryz.prog 89 (.slice 190):=⟨Tryz.underlying89⟩
instance un90:UnI Tryz.prog 90 (.slice 22):=⟨Tryz.underlying90⟩
instance un91:UnI Tryz.prog 91 (.slice 191):=⟨Tryz.underlying91⟩
instance un92:UnI Tryz.prog 92 (.slice 196):=⟨Tryz.underlying92⟩
instance un93:UnI Tryz.prog 93 (.slice 201):=⟨Tryz.underlying93⟩
instance un94:UnI Tryz.prog 94 (.slice 206):=⟨Tryz.underlying94⟩
instance un95:UnI Tryz.prog 95 (.slice 211):=⟨Tryz.underlying95⟩
instance un96:UnI Tryz.prog 96 (.slice 216):=⟨Tryz.underlying96⟩
instance un97:UnI Tryz.prog 97 (.slice 220):=⟨Tryz.underlying97⟩
instance un98:UnI Tryz.prog 98 (.slice 225):=⟨Tryz.underlying98⟩
instance un99:UnI Tryz.prog 99 (.slice 229):=⟨Tryz.underlying99⟩
instance un100:UnI Tryz.prog 100 (.slice 233):=⟨Tryz.underlying100⟩
instance un101:UnI Tryz.prog 101 (.slice 238):=⟨Tryz.underlying101⟩
instance un102:UnI Tryz.prog 102 (.slice 242):=⟨Tryz.underlying102⟩
instance un103:UnI Tryz.prog 103 (.slice 247):=⟨Tryz.underlying103⟩
instance un104:UnI Tryz.prog 104 (.slice 252):=⟨Tryz.underlying104⟩
theorem c_flat0Limbs:
  Ct Tryz.prog 92 [(tL 1 false (fun _:Nat=>tI 0) [])] (tB true):=by
 refine Ct.intro Tryz.func92 rfl Tryz.ntmps92 rfl ?_
 intro w F
 refine A9 ?_
 refine A3 ?_
 refine xa4 ?_
 refine A9 ?_
 refine xa8 rfl (decide_eq_false (by decide)) ?_
 refine A9 ?_
 refine R2 (xf7 (f:=fun _:Nat=>tL 1 false (fun _:Nat=>tI 0) []) (y0:=0) 0 0 Tryz.underlying83 el26 (fun _ _=>⟨none,0,rfl,Nat.le_refl _,by decide,.inl rfl⟩) inferInstance rfl rfl rfl (Nat.le_refl _) (by decide) (by decide) rfl) rfl rfl ?_
 refine A9 ?_
 refine A1 ?_
 refine xa4 ?_
 refine A9 ?_
 refine xa8 rfl (decide_eq_false (by decide)) ?_
 refine A9 ?_
 refine A3 ?_
 refine xa4 ?_
 refine A9 ?_
 refine xa8 rfl (decide_eq_false (by decide)) ?_
 refine A9 ?_
 refine A3 ?_
 refine xa4 ?_
 refine A9 ?_
 refine xa8 rfl (decide_eq_false (by decide)) ?_
 refine A9 ?_
 refine A3 ?_
 refine xa4 ?_
 refine A9 ?_
 refine xa8 rfl (decide_eq_false (by decide)) ?_
 refine A9 ?_
 refine A2 ?_
 exact x4 Plain.mk' rfl rfl Le.refl
theorem c_flat0Ints:
  Ct Tryz.prog 93 [(tL 1 false (fun _:Nat=>tI 0) [])] (tB true):=by
 refine Ct.intro Tryz.func93 rfl Tryz.ntmps93 rfl ?_
 intro w F
 refine A9 ?_
 refine A3 ?_
 refine xa4 ?_
 refine A9 ?_
 refine xa8 rfl (decide_eq_false (by decide)) ?_
 refine A9 ?_
 refine R2 (xf7 (f:=fun _:Nat=>tL 1 false (fun _:Nat=>tI 0) []) (y0:=0) 0 0 Tryz.underlying84 el40 (fun _ _=>⟨none,0,rfl,Nat.le_refl _,by decide,.inl rfl⟩) inferInstance rfl rfl rfl (Nat.le_refl _) (by decide) (by decide) rfl) rfl rfl ?_
 refine A9 ?_
 refine A1 ?_
 refine xa4 ?_
 refine A9 ?_
 refine xa8 rfl (decide_eq_false (by decide)) ?_
 refine A9 ?_
 refine A3 ?_
 refine xa4 ?_
 refine A9 ?_
 refine xa8 rfl (decide_eq_false (by decide)) ?_
 refine A9 ?_
 refine A3 ?_
 refine xa4 ?_
 refine A9 ?_
 refine xa8 rfl (decide_eq_false (by decide)) ?_
 refine A9 ?_
 refine A3 ?_
 refine xa4 ?_
 refine A9 ?_
 refine xa8 rfl (decide_eq_false (by decide)) ?_
 refine A9 ?_
 refine A2 ?_
 exact x4 Plain.mk' rfl rfl Le.refl
theorem c_flat0Texts:
  Ct Tryz.prog 94 [(tL 1 false (fun _:Nat=>tI 0) [])] (tB true):=by
 refine Ct.intro Tryz.func94 rfl Tryz.ntmps94 rfl ?_
 intro w F
 refine A9 ?_
 refine A3 ?_
 refine xa4 ?_
 refine A9 ?_
 refine xa8 rfl (decide_eq_false (by decide)) ?_
 refine A9 ?_
 refine R2 (xf7 (f:=fun _:Nat=>tL 1 false (fun _:Nat=>tI 0) []) (y0:=0) 0 0 Tryz.underlying85 el183 (fun _ _=>⟨none,0,rfl,Nat.le_refl _,by decide,.inl rfl⟩) inferInstance rfl rfl rfl (Nat.le_refl _) (by decide) (by decide) rfl) rfl rfl ?_
 refine A9 ?_
 refine A1 ?_
 refine xa4 ?_
 refine A9 ?_
 refine xa8 rfl (decide_eq_false (by decide)) ?_
 refine A9 ?_
 refine A3 ?_
 refine xa4 ?_
 refine A9 ?_
 refine xa8 rfl (decide_eq_false (by decide)) ?_
 refine A9 ?_
 refine A3 ?_
 refine xa4 ?_
 refine A9 ?_
 refine xa8 rfl (decide_eq_false (by decide)) ?_
 refine A9 ?_
 refine A3 ?_
 refine xa4 ?_
 refine A9 ?_
 refine xa8 rfl (decide_eq_false (by decide)) ?_
 refine A9 ?_
 refine A2 ?_
 exact x4 Plain.mk' rfl rfl Le.refl
theorem c_flat0Bytes:
  Ct Tryz.prog 95 [(tL 1 false (fun _:Nat=>tI 0) [])] (tB true):=by
 refine Ct.intro Tryz.func95 rfl Tryz.ntmps95 rfl ?_
 intro w F
 refine A9 ?_
 refine A3 ?_
 refine xa4 ?_
 refine A9 ?_
 refine xa8 rfl (decide_eq_false (by decide)) ?_
 refine A9 ?_
 refine R2 (xf7 (f:=fun _:Nat=>tL 1 false (fun _:Nat=>tI 0) []) (y0:=0) 0 0 Tryz.underlying86 el185 (fun _ _=>⟨none,0,rfl,Nat.le_refl _,by decide,.inl rfl⟩) inferInstance rfl rfl rfl (Nat.le_refl _) (by decide) (by decide) rfl) rfl rfl ?_
 refine A9 ?_
 refine A1 ?_
 refine xa4 ?_
 refine A9 ?_
 refine xa8 rfl (decide_eq_false (by decide)) ?_
 refine A9 ?_
 refine A3 ?_
 refine xa4 ?_
 refine A9 ?_
 refine xa8 rfl (decide_eq_false (by decide)) ?_
 refine A9 ?_
 refine A3 ?_
 refine xa4 ?_
 refine A9 ?_
 refine xa8 rfl (decide_eq_false (by decide)) ?_
 refine A9 ?_
 refine A3 ?_
 refine xa4 ?_
 refine A9 ?_
 refine xa8 rfl (decide_eq_false (by decide)) ?_
 refine A9 ?_
 refine A2 ?_
 exact x4 Plain.mk' rfl rfl Le.refl
theorem c_flat0Wholes:
  Ct Tryz.prog 96 [(tL 1 false (fun _:Nat=>tI 0) [])] (tB true):=by
 refine Ct.intro Tryz.func96 rfl Tryz.ntmps96 rfl ?_
 intro w F
 refine A9 ?_
 refine A3 ?_
 refine xa4 ?_
 refine A9 ?_
 refine xa8 rfl (decide_eq_false (by decide)) ?_
 refine A9 ?_
 refine R2 (xf7 (f:=fun _:Nat=>tL 1 false (fun _:Nat=>tI 0) []) (y0:=0) 0 0 Tryz.underlying87 el187 (fun _ _=>⟨none,0,rfl,Nat.le_refl _,by decide,.inl rfl⟩) inferInstance rfl rfl rfl (Nat.le_refl _) (by decide) (by decide) rfl) rfl rfl ?_
 refine A9 ?_
 refine A1 ?_
 refine xa4 ?_
 refine A9 ?_
 refine xa8 rfl (decide_eq_false (by decide)) ?_
 refine A9 ?_
 refine A3 ?_
 refine xa4 ?_
 refine A9 ?_
 refine xa8 rfl (decide_eq_false (by decide)) ?_
 refine A9 ?_
 refine A3 ?_
 refine xa4 ?_
 refine A9 ?_
 refine xa8 rfl (decide_eq_false (by decide)) ?_
 refine A9 ?_
 refine A3 ?_
 refine xa4 ?_
 refine A9 ?_
 refine xa8 rfl (decide_eq_false (by decide)) ?_
 refine A9 ?_
 refine A2 ?_
 exact x4 Plain.mk' rfl rfl Le.refl
theorem c_flat0Fracs:
  Ct Tryz.prog 97 [(tL 1 false (fun _:Nat=>tI 0) [])] (tB true):=by
 refine Ct.intro Tryz.func97 rfl Tryz.ntmps97 rfl ?_
 intro w F
 refine A9 ?_
 refine A3 ?_
 refine xa4 ?_
 refine A9 ?_
 refine xa8 rfl (decide_eq_false (by decide)) ?_
 refine A9 ?_
 refine R2 (xf7 (f:=fun _:Nat=>tL 1 false (fun _:Nat=>tI 0) []) (y0:=0) 0 0 Tryz.underlying88 el189 (fun _ _=>⟨none,0,rfl,Nat.le_refl _,by decide,.inl rfl⟩) inferInstance rfl rfl rfl (Nat.le_refl _) (by decide) (by decide) rfl) rfl rfl ?_
 refine A9 ?_
 refine A1 ?_
 refine xa4 ?_
 refine A9 ?_
 refine xa8 rfl (decide_eq_false (by decide)) ?_
 refine A9 ?_
 refine A3 ?_
 refine xa4 ?_
 refine A9 ?_
 refine xa8 rfl (decide_eq_false (by decide)) ?_
 refine A9 ?_
 refine A3 ?_
 refine xa4 ?_
 refine A9 ?_
 refine xa8 rfl (decide_eq_false (by decide)) ?_
 refine A9 ?_
 refine A3 ?_
 refine xa4 ?_
 refine A9 ?_
 refine xa8 rfl (decide_eq_false (by decide)) ?_
 refine A9 ?_
 refine A2 ?_
 exact x4 Plain.mk' rfl rfl Le.refl
theorem c_flat0Values:
  Ct Tryz.prog 98 [(tL 1 false (fun _:Nat=>tI 0) [])] (tB true):=by
 refine Ct.intro Tryz.func98 rfl Tryz.ntmps98 rfl ?_
 intro w F
 refine A9 ?_
 refine A3 ?_
 refine xa4 ?_
 refine A9 ?_
 refine xa8 rfl (decide_eq_false (by decide)) ?_
 refine A9 ?_
 refine R2 (xf7 (f:=fun _:Nat=>tL 1 false (fun _:Nat=>tI 0) []) (y0:=0) 0 0 Tryz.underlying89 el190 (fun _ _=>⟨none,0,rfl,Nat.le_refl _,by decide,.inl rfl⟩) inferInstance rfl rfl rfl (Nat.le_refl _) (by decide) (by decide) rfl) rfl rfl ?_
 refine A9 ?_
 refine A1 ?_
 refine xa4 ?_
 refine A9 ?_
 refine xa8 rfl (decide_eq_false (by decide)) ?_
 refine A9 ?_
 refine A3 ?_
 refine xa4 ?_
 refine A9 ?_
 refine xa8 rfl (decide_eq_false (by decide)) ?_
 refine A9 ?_
 refine A3 ?_
 refine xa4 ?_
 refine A9 ?_
 refine xa8 rfl (decide_eq_false (by decide)) ?_
 refine A9 ?_
 refine A3 ?_
 refine xa4 ?_
 refine A9 ?_
 refine xa8 rfl (decide_eq_false (by decide)) ?_
 refine A9 ?_
 refine A2 ?_
 exact x4 Plain.mk' rfl rfl Le.refl
theorem c_flat0Steps:
  Ct Tryz.prog 100 [(tL 1 false (fun _:Nat=>tI 0) [])] (tB true):=by
 refine Ct.intro Tryz.func100 rfl Tryz.ntmps100 rfl ?_
 intro w F
 refine A9 ?_
 refine A3 ?_
 refine xa4 ?_
 refine A9 ?_
 refine xa8 rfl (decide_eq_false (by decide)) ?_
 refine A9 ?_
 refine R2 (xf7 (f:=fun _:Nat=>tL 1 false (fun _:Nat=>tI 0) []) (y0:=0) 0 0 Tryz.underlying90 el22 (fun _ _=>⟨none,0,rfl,Nat.le_refl _,by decide,.inl rfl⟩) inferInstance rfl rfl rfl (Nat.le_refl _) (by decide) (by decide) rfl) rfl rfl ?_
 refine A9 ?_
 refine A1 ?_
 refine xa4 ?_
 refine A9 ?_
 refine xa8 rfl (decide_eq_false (by decide)) ?_
 refine A9 ?_
 refine A3 ?_
 refine xa4 ?_
 refine A9 ?_
 refine xa8 rfl (decide_eq_false (by decide)) ?_
 refine A9 ?_
 refine A3 ?_
 refine xa4 ?_
 refine A9 ?_
 refine xa8 rfl (decide_eq_false (by decide)) ?_
 refine A9 ?_
 refine A3 ?_
 refine xa4 ?_
 refine A9 ?_
 refine xa8 rfl (decide_eq_false (by decide)) ?_
 refine A9 ?_
 refine A2 ?_
 exact x4 Plain.mk' rfl rfl Le.refl
theorem c_flat0Facts:
  Ct Tryz.prog 101 [(tL 1 false (fun _:Nat=>tI 0) [])] (tB true):=by
 refine Ct.intro Tryz.func101 rfl Tryz.ntmps101 rfl ?_
 intro w F
 refine A9 ?_
 refine A3 ?_
 refine xa4 ?_
 refine A9 ?_
 refine xa8 rfl (decide_eq_false (by decide)) ?_
 refine A9 ?_
 refine R2 (xf7 (f:=fun _:Nat=>tL 1 false (fun _:Nat=>tI 0) []) (y0:=0) 0 0 Tryz.underlying91 el191 (fun _ _=>⟨none,0,rfl,Nat.le_refl _,by decide,.inl rfl⟩) inferInstance rfl rfl rfl (Nat.le_refl _) (by decide) (by decide) rfl) rfl rfl ?_
 refine A9 ?_
 refine A1 ?_
 refine xa4 ?_
 refine A9 ?_
 refine xa8 rfl (decide_eq_false (by decide)) ?_
 refine A9 ?_
 refine A3 ?_
 refine xa4 ?_
 refine A9 ?_
 refine xa8 rfl (decide_eq_false (by decide)) ?_
 refine A9 ?_
 refine A3 ?_
 refine xa4 ?_
 refine A9 ?_
 refine xa8 rfl (decide_eq_false (by decide)) ?_
 refine A9 ?_
 refine A3 ?_
 refine xa4 ?_
 refine A9 ?_
 refine xa8 rfl (decide_eq_false (by decide)) ?_
 refine A9 ?_
 refine A2 ?_
 exact x4 Plain.mk' rfl rfl Le.refl
theorem c_flat0Rows:
  Ct Tryz.prog 102 [(tL 1 false (fun _:Nat=>tI 0) [])] (tB true):=by
 refine Ct.intro Tryz.func102 rfl Tryz.ntmps102 rfl ?_
 intro w F
 refine A9 ?_
 refine A3 ?_
 refine xa4 ?_
 refine A9 ?_
 refine xa8 rfl (decide_eq_false (by decide)) ?_
 refine A9 ?_
 refine R2 (xf7 (f:=fun _:Nat=>tL 1 false (fun _:Nat=>tI 0) []) (y0:=0) 0 0 Tryz.underlying92 el196 (fun _ _=>⟨none,0,rfl,Nat.le_refl _,by decide,.inl rfl⟩) inferInstance rfl rfl rfl (Nat.le_refl _) (by decide) (by decide) rfl) rfl rfl ?_
 refine A9 ?_
 refine A1 ?_
 refine xa4 ?_
 refine A9 ?_
 refine xa8 rfl (decide_eq_false (by decide)) ?_
 refine A9 ?_
 refine A3 ?_
 refine xa4 ?_
 refine A9 ?_
 refine xa8 rfl (decide_eq_false (by decide)) ?_
 refine A9 ?_
 refine A3 ?_
 refine xa4 ?_
 refine A9 ?_
 refine xa8 rfl (decide_eq_false (by decide)) ?_
 refine A9 ?_
 refine A3 ?_
 refine xa4 ?_
 refine A9 ?_
 refine xa8 rfl (decide_eq_false (by decide)) ?_
 refine A9 ?_
 refine A2 ?_
 exact x4 Plain.mk' rfl rfl Le.refl
theorem c_flat0Tables:
  Ct Tryz.prog 103 [(tL 1 false (fun _:Nat=>tI 0) [])] (tB true):=by
 refine Ct.intro Tryz.func103 rfl Tryz.ntmps103 rfl ?_
 intro w F
 refine A9 ?_
 refine A3 ?_
 refine xa4 ?_
 refine A9 ?_
 refine xa8 rfl (decide_eq_false (by decide)) ?_
 refine A9 ?_
 refine R2 (xf7 (f:=fun _:Nat=>tL 1 false (fun _:Nat=>tI 0) []) (y0:=0) 0 0 Tryz.underlying93 el201 (fun _ _=>⟨none,0,rfl,Nat.le_refl _,by decide,.inl rfl⟩) inferInstance rfl rfl rfl (Nat.le_refl _) (by decide) (by decide) rfl) rfl rfl ?_
 refine A9 ?_
 refine A1 ?_
 refine xa4 ?_
 refine A9 ?_
 refine xa8 rfl (decide_eq_false (by decide)) ?_
 refine A9 ?_
 refine A3 ?_
 refine xa4 ?_
 refine A9 ?_
 refine xa8 rfl (decide_eq_false (by decide)) ?_
 refine A9 ?_
 refine A3 ?_
 refine xa4 ?_
 refine A9 ?_
 refine xa8 rfl (decide_eq_false (by decide)) ?_
 refine A9 ?_
 refine A3 ?_
 refine xa4 ?_
 refine A9 ?_
 refine xa8 rfl (decide_eq_false (by decide)) ?_
 refine A9 ?_
 refine A2 ?_
 exact x4 Plain.mk' rfl rfl Le.refl
theorem c_flat0Exprs:
  Ct Tryz.prog 104 [(tL 1 false (fun _:Nat=>tI 0) [])] (tB true):=by
 refine Ct.intro Tryz.func104 rfl Tryz.ntmps104 rfl ?_
 intro w F
 refine A9 ?_
 refine A3 ?_
 refine xa4 ?_
 refine A9 ?_
 refine xa8 rfl (decide_eq_false (by decide)) ?_
 refine A9 ?_
 refine R2 (xf7 (f:=fun _:Nat=>tL 1 false (fun _:Nat=>tI 0) []) (y0:=0) 0 0 Tryz.underlying94 el206 (fun _ _=>⟨none,0,rfl,Nat.le_refl _,by decide,.inl rfl⟩) inferInstance rfl rfl rfl (Nat.le_refl _) (by decide) (by decide) rfl) rfl rfl ?_
 refine A9 ?_
 refine A1 ?_
 refine xa4 ?_
 refine A9 ?_
 refine xa8 rfl (decide_eq_false (by decide)) ?_
 refine A9 ?_
 refine A3 ?_
 refine xa4 ?_
 refine A9 ?_
 refine xa8 rfl (decide_eq_false (by decide)) ?_
 refine A9 ?_
 refine A3 ?_
 refine xa4 ?_
 refine A9 ?_
 refine xa8 rfl (decide_eq_false (by decide)) ?_
 refine A9 ?_
 refine A3 ?_
 refine xa4 ?_
 refine A9 ?_
 refine xa8 rfl (decide_eq_false (by decide)) ?_
 refine A9 ?_
 refine A2 ?_
 exact x4 Plain.mk' rfl rfl Le.refl
theorem c_flat0Clauses:
  Ct Tryz.prog 105 [(tL 1 false (fun _:Nat=>tI 0) [])] (tB true):=by
 refine Ct.intro Tryz.func105 rfl Tryz.ntmps105 rfl ?_
 intro w F
 refine A9 ?_
 refine A3 ?_
 refine xa4 ?_
 refine A9 ?_
 refine xa8 rfl (decide_eq_false (by decide)) ?_
 refine A9 ?_
 refine R2 (xf7 (f:=fun _:Nat=>tL 1 false (fun _:Nat=>tI 0) []) (y0:=0) 0 0 Tryz.underlying95 el211 (fun _ _=>⟨none,0,rfl,Nat.le_refl _,by decide,.inl rfl⟩) inferInstance rfl rfl rfl (Nat.le_refl _) (by decide) (by decide) rfl) rfl rfl ?_
 refine A9 ?_
 refine A1 ?_
 refine xa4 ?_
 refine A9 ?_
 refine xa8 rfl (decide_eq_false (by decide)) ?_
 refine A9 ?_
 refine A3 ?_
 refine xa4 ?_
 refine A9 ?_
 refine xa8 rfl (decide_eq_false (by decide)) ?_
 refine A9 ?_
 refine A3 ?_
 refine xa4 ?_
 refine A9 ?_
 refine xa8 rfl (decide_eq_false (by decide)) ?_
 refine A9 ?_
 refine A3 ?_
 refine xa4 ?_
 refine A9 ?_
 refine xa8 rfl (decide_eq_false (by decide)) ?_
 refine A9 ?_
 refine A2 ?_
 exact x4 Plain.mk' rfl rfl Le.refl
theorem c_flat0Defs:
  Ct Tryz.prog 106 [(tL 1 false (fun _:Nat=>tI 0) [])] (tB true):=by
 refine Ct.intro Tryz.func106 rfl Tryz.ntmps106 rfl ?_
 intro w F
 refine A9 ?_
 refine A3 ?_
 refine xa4 ?_
 refine A9 ?_
 refine xa8 rfl (decide_eq_false (by decide)) ?_
 refine A9 ?_
 refine R2 (xf7 (f:=fun _:Nat=>tL 1 false (fun _:Nat=>tI 0) []) (y0:=0) 0 0 Tryz.underlying96 el216 (fun _ _=>⟨none,0,rfl,Nat.le_refl _,by decide,.inl rfl⟩) inferInstance rfl rfl rfl (Nat.le_refl _) (by decide) (by decide) rfl) rfl rfl ?_
 refine A9 ?_
 refine A1 ?_
 refine xa4 ?_
 refine A9 ?_
 refine xa8 rfl (decide_eq_false (by decide)) ?_
 refine A9 ?_
 refine A3 ?_
 refine xa4 ?_
 refine A9 ?_
 refine xa8 rfl (decide_eq_false (by decide)) ?_
 refine A9 ?_
 refine A3 ?_
 refine xa4 ?_
 refine A9 ?_
 refine xa8 rfl (decide_eq_false (by decide)) ?_
 refine A9 ?_
 refine A3 ?_
 refine xa4 ?_
 refine A9 ?_
 refine xa8 rfl (decide_eq_false (by decide)) ?_
 refine A9 ?_
 refine A2 ?_
 exact x4 Plain.mk' rfl rfl Le.refl
theorem c_flat0Plans:
  Ct Tryz.prog 107 [(tL 1 false (fun _:Nat=>tI 0) [])] (tB true):=by
 refine Ct.intro Tryz.func107 rfl Tryz.ntmps107 rfl ?_
 intro w F
 refine A9 ?_
 refine A3 ?_
 refine xa4 ?_
 refine A9 ?_
 refine xa8 rfl (decide_eq_false (by decide)) ?_
 refine A9 ?_
 refine R2 (xf7 (f:=fun _:Nat=>tL 1 false (fun _:Nat=>tI 0) []) (y0:=0) 0 0 Tryz.underlying97 el220 (fun _ _=>⟨none,0,rfl,Nat.le_refl _,by decide,.inl rfl⟩) inferInstance rfl rfl rfl (Nat.le_refl _) (by decide) (by decide) rfl) rfl rfl ?_
 refine A9 ?_
 refine A1 ?_
 refine xa4 ?_
 refine A9 ?_
 refine xa8 rfl (decide_eq_false (by decide)) ?_
 refine A9 ?_
 refine A3 ?_
 refine xa4 ?_
 refine A9 ?_
 refine xa8 rfl (decide_eq_false (by decide)) ?_
 refine A9 ?_
 refine A3 ?_
 refine xa4 ?_
 refine A9 ?_
 refine xa8 rfl (decide_eq_false (by decide)) ?_
 refine A9 ?_
 refine A3 ?_
 refine xa4 ?_
 refine A9 ?_
 refine xa8 rfl (decide_eq_false (by decide)) ?_
 refine A9 ?_
 refine A2 ?_
 exact x4 Plain.mk' rfl rfl Le.refl
theorem c_flat0Postings:
  Ct Tryz.prog 108 [(tL 1 false (fun _:Nat=>tI 0) [])] (tB true):=by
 refine Ct.intro Tryz.func108 rfl Tryz.ntmps108 rfl ?_
 intro w F
 refine A9 ?_
 refine A3 ?_
 refine xa4 ?_
 refine A9 ?_
 refine xa8 rfl (decide_eq_false (by decide)) ?_
 refine A9 ?_
 refine R2 (xf7 (f:=fun _:Nat=>tL 1 false (fun _:Nat=>tI 0) []) (y0:=0) 0 0 Tryz.underlying98 el225 (fun _ _=>⟨none,0,rfl,Nat.le_refl _,by decide,.inl rfl⟩) inferInstance rfl rfl rfl (Nat.le_refl _) (by decide) (by decide) rfl) rfl rfl ?_
 refine A9 ?_
 refine A1 ?_
 refine xa4 ?_
 refine A9 ?_
 refine xa8 rfl (decide_eq_false (by decide)) ?_
 refine A9 ?_
 refine A3 ?_
 refine xa4 ?_
 refine A9 ?_
 refine xa8 rfl (decide_eq_false (by decide)) ?_
 refine A9 ?_
 refine A3 ?_
 refine xa4 ?_
 refine A9 ?_
 refine xa8 rfl (decide_eq_false (by decide)) ?_
 refine A9 ?_
 refine A3 ?_
 refine xa4 ?_
 refine A9 ?_
 refine xa8 rfl (decide_eq_false (by decide)) ?_
 refine A9 ?_
 refine A2 ?_
 exact x4 Plain.mk' rfl rfl Le.refl
theorem c_flat0Orders:
  Ct Tryz.prog 109 [(tL 1 false (fun _:Nat=>tI 0) [])] (tB true):=by
 refine Ct.intro Tryz.func109 rfl Tryz.ntmps109 rfl ?_
 intro w F
 refine A9 ?_
 refine A3 ?_
 refine xa4 ?_
 refine A9 ?_
 refine xa8 rfl (decide_eq_false (by decide)) ?_
 refine A9 ?_
 refine R2 (xf7 (f:=fun _:Nat=>tL 1 false (fun _:Nat=>tI 0) []) (y0:=0) 0 0 Tryz.underlying99 el229 (fun _ _=>⟨none,0,rfl,Nat.le_refl _,by decide,.inl rfl⟩) inferInstance rfl rfl rfl (Nat.le_refl _) (by decide) (by decide) rfl) rfl rfl ?_
 refine A9 ?_
 refine A1 ?_
 refine xa4 ?_
 refine A9 ?_
 refine xa8 rfl (decide_eq_false (by decide)) ?_
 refine A9 ?_
 refine A3 ?_
 refine xa4 ?_
 refine A9 ?_
 refine xa8 rfl (decide_eq_false (by decide)) ?_
 refine A9 ?_
 refine A3 ?_
 refine xa4 ?_
 refine A9 ?_
 refine xa8 rfl (decide_eq_false (by decide)) ?_
 refine A9 ?_
 refine A3 ?_
 refine xa4 ?_
 refine A9 ?_
 refine xa8 rfl (decide_eq_false (by decide)) ?_
 refine A9 ?_
 refine A2 ?_
 exact x4 Plain.mk' rfl rfl Le.refl
theorem c_flat0Events:
  Ct Tryz.prog 110 [(tL 1 false (fun _:Nat=>tI 0) [])] (tB true):=by
 refine Ct.intro Tryz.func110 rfl Tryz.ntmps110 rfl ?_
 intro w F
 refine A9 ?_
 refine A3 ?_
 refine xa4 ?_
 refine A9 ?_
 refine xa8 rfl (decide_eq_false (by decide)) ?_
 refine A9 ?_
 refine R2 (xf7 (f:=fun _:Nat=>tL 1 false (fun _:Nat=>tI 0) []) (y0:=0) 0 0 Tryz.underlying100 el233 (fun _ _=>⟨none,0,rfl,Nat.le_refl _,by decide,.inl rfl⟩) inferInstance rfl rfl rfl (Nat.le_refl _) (by decide) (by decide) rfl) rfl rfl ?_
 refine A9 ?_
 refine A1 ?_
 refine xa4 ?_
 refine A9 ?_
 refine xa8 rfl (decide_eq_false (by decide)) ?_
 refine A9 ?_
 refine A3 ?_
 refine xa4 ?_
 refine A9 ?_
 refine xa8 rfl (decide_eq_false (by decide)) ?_
 refine A9 ?_
 refine A3 ?_
 refine xa4 ?_
 refine A9 ?_
 refine xa8 rfl (decide_eq_false (by decide)) ?_
 refine A9 ?_
 refine A3 ?_
 refine xa4 ?_
 refine A9 ?_
 refine xa8 rfl (decide_eq_false (by decide)) ?_
 refine A9 ?_
 refine A2 ?_
 exact x4 Plain.mk' rfl rfl Le.refl
theorem c_flat0Filings:
  Ct Tryz.prog 111 [(tL 1 false (fun _:Nat=>tI 0) [])] (tB true):=by
 refine Ct.intro Tryz.func111 rfl Tryz.ntmps111 rfl ?_
 intro w F
 refine A9 ?_
 refine A3 ?_
 refine xa4 ?_
 refine A9 ?_
 refine xa8 rfl (decide_eq_false (by decide)) ?_
 refine A9 ?_
 refine R2 (xf7 (f:=fun _:Nat=>tL 1 false (fun _:Nat=>tI 0) []) (y0:=0) 0 0 Tryz.underlying101 el238 (fun _ _=>⟨none,0,rfl,Nat.le_refl _,by decide,.inl rfl⟩) inferInstance rfl rfl rfl (Nat.le_refl _) (by decide) (by decide) rfl) rfl rfl ?_
 refine A9 ?_
 refine A1 ?_
 refine xa4 ?_
 refine A9 ?_
 refine xa8 rfl (decide_eq_false (by decide)) ?_
 refine A9 ?_
 refine A3 ?_
 refine xa4 ?_
 refine A9 ?_
 refine xa8 rfl (decide_eq_false (by decide)) ?_
 refine A9 ?_
 refine A3 ?_
 refine xa4 ?_
 refine A9 ?_
 refine xa8 rfl (decide_eq_false (by decide)) ?_
 refine A9 ?_
 refine A3 ?_
 refine xa4 ?_
 refine A9 ?_
 refine xa8 rfl (decide_eq_false (by decide)) ?_
 refine A9 ?_
 refine A2 ?_
 exact x4 Plain.mk' rfl rfl Le.refl
theorem c_flat0Cases:
  Ct Tryz.prog 112 [(tL 1 false (fun _:Nat=>tI 0) [])] (tB true):=by
 refine Ct.intro Tryz.func112 rfl Tryz.ntmps112 rfl ?_
 intro w F
 refine A9 ?_
 refine A3 ?_
 refine xa4 ?_
 refine A9 ?_
 refine xa8 rfl (decide_eq_false (by decide)) ?_
 refine A9 ?_
 refine R2 (xf7 (f:=fun _:Nat=>tL 1 false (fun _:Nat=>tI 0) []) (y0:=0) 0 0 Tryz.underlying102 el242 (fun _ _=>⟨none,0,rfl,Nat.le_refl _,by decide,.inl rfl⟩) inferInstance rfl rfl rfl (Nat.le_refl _) (by decide) (by decide) rfl) rfl rfl ?_
 refine A9 ?_
 refine A1 ?_
 refine xa4 ?_
 refine A9 ?_
 refine xa8 rfl (decide_eq_false (by decide)) ?_
 refine A9 ?_
 refine A3 ?_
 refine xa4 ?_
 refine A9 ?_
 refine xa8 rfl (decide_eq_false (by decide)) ?_
 refine A9 ?_
 refine A3 ?_
 refine xa4 ?_
 refine A9 ?_
 refine xa8 rfl (decide_eq_false (by decide)) ?_
 refine A9 ?_
 refine A3 ?_
 refine xa4 ?_
 refine A9 ?_
 refine xa8 rfl (decide_eq_false (by decide)) ?_
 refine A9 ?_
 refine A2 ?_
 exact x4 Plain.mk' rfl rfl Le.refl
theorem c_flat0Changes:
  Ct Tryz.prog 113 [(tL 1 false (fun _:Nat=>tI 0) [])] (tB true):=by
 refine Ct.intro Tryz.func113 rfl Tryz.ntmps113 rfl ?_
 intro w F
 refine A9 ?_
 refine A3 ?_
 refine xa4 ?_
 refine A9 ?_
 refine xa8 rfl (decide_eq_false (by decide)) ?_
 refine A9 ?_
 refine R2 (xf7 (f:=fun _:Nat=>tL 1 false (fun _:Nat=>tI 0) []) (y0:=0) 0 0 Tryz.underlying103 el247 (fun _ _=>⟨none,0,rfl,Nat.le_refl _,by decide,.inl rfl⟩) inferInstance rfl rfl rfl (Nat.le_refl _) (by decide) (by decide) rfl) rfl rfl ?_
 refine A9 ?_
 refine A1 ?_
 refine xa4 ?_
 refine A9 ?_
 refine xa8 rfl (decide_eq_false (by decide)) ?_
 refine A9 ?_
 refine A3 ?_
 refine xa4 ?_
 refine A9 ?_
 refine xa8 rfl (decide_eq_false (by decide)) ?_
 refine A9 ?_
 refine A3 ?_
 refine xa4 ?_
 refine A9 ?_
 refine xa8 rfl (decide_eq_false (by decide)) ?_
 refine A9 ?_
 refine A3 ?_
 refine xa4 ?_
 refine A9 ?_
 refine xa8 rfl (decide_eq_false (by decide)) ?_
 refine A9 ?_
 refine A2 ?_
 exact x4 Plain.mk' rfl rfl Le.refl
theorem c_flat0Deltas:
  Ct Tryz.prog 114 [(tL 1 false (fun _:Nat=>tI 0) [])] (tB true):=by
 refine Ct.intro Tryz.func114 rfl Tryz.ntmps114 rfl ?_
 intro w F
 refine A9 ?_
 refine A3 ?_
 refine xa4 ?_
 refine A9 ?_
 refine xa8 rfl (decide_eq_false (by decide)) ?_
 refine A9 ?_
 refine R2 (xf7 (f:=fun _:Nat=>tL 1 false (fun _:Nat=>tI 0) []) (y0:=0) 0 0 Tryz.underlying104 el252 (fun _ _=>⟨none,0,rfl,Nat.le_refl _,by decide,.inl rfl⟩) inferInstance rfl rfl rfl (Nat.le_refl _) (by decide) (by decide) rfl) rfl rfl ?_
 refine A9 ?_
 refine A1 ?_
 refine xa4 ?_
 refine A9 ?_
 refine xa8 rfl (decide_eq_false (by decide)) ?_
 refine A9 ?_
 refine A3 ?_
 refine xa4 ?_
 refine A9 ?_
 refine xa8 rfl (decide_eq_false (by decide)) ?_
 refine A9 ?_
 refine A3 ?_
 refine xa4 ?_
 refine A9 ?_
 refine xa8 rfl (decide_eq_false (by decide)) ?_
 refine A9 ?_
 refine A3 ?_
 refine xa4 ?_
 refine A9 ?_
 refine xa8 rfl (decide_eq_false (by decide)) ?_
 refine A9 ?_
 refine A2 ?_
 exact x4 Plain.mk' rfl rfl Le.refl
end An.S

/- Many blocks, counted: what slices hold that are told apart by marks. For any program. -/
namespace An
open Go
def poolK (n:Nat) (R:Nat→HEnt):Keys:=fun q=>cond (Nat.ble 100 q && Nat.blt q (100+n)) (some (R (q - 100))) none
def poolL (n:Nat) (R:Nat→HEnt):List (Nat×HEnt):=(List.range n).map fun j=>(j+100,R j)
def owns (n es:Nat) (len:Nat→Nat):List Ent:=(List.range n).map fun j=> .own (.sl (j+100) es 0 (len j))
theorem poolK_get {n k:Nat} {R:Nat→HEnt} (h:k < n):poolK n R (k+100)=some (R k):=by
  have h1:Nat.ble 100 (k+100)=true:=Nat.ble_eq_true_of_le (by omega)
  have h2:Nat.blt (k+100) (100+n)=true:=by simp [Nat.blt];omega
  simp [poolK,h1,h2]
theorem poolK_lt {n q:Nat} {R:Nat→HEnt} {x:HEnt} (h:poolK n R q=some x): ∃k,k < n∧q=k+100∧x=R k:=by
  simp only [poolK] at h
  cases hc:(Nat.ble 100 q && Nat.blt q (100+n)) with
  | false=>rw [hc] at h;cases h
  | true=>
    rw [hc] at h
    cases h
    simp only [Bool.and_eq_true,Nat.ble_eq,Nat.blt_eq] at hc
    exact ⟨q - 100,by omega,by omega,rfl⟩
theorem poolK_no {n q:Nat} {R:Nat→HEnt} (h: ∀k,k < n→q≠k+100):poolK n R q=none:=by
  cases hc:poolK n R q with
  | none=>rfl
  | some x=>obtain ⟨k,h1,h2,_⟩:=poolK_lt hc;exact absurd h2 (h k h1)
theorem owns_get {n es k:Nat} {len:Nat→Nat} (h:k < n):(owns n es len)[k]? =some (.own (.sl (k+100) es 0 (len k))):=by
  simp [owns,List.getElem?_map,List.getElem?_range h]
theorem owns_supp {n es k:Nat} {len:Nat→Nat} (h:k∈(owns n es len).flatMap Ent.supp): ∃j,j < n∧k=j+100:=by
  simp only [owns,List.mem_flatMap,List.mem_map,List.mem_range] at h
  obtain ⟨e,⟨j,hj,rfl⟩,hk⟩:=h
  simp only [Ent.supp,VP.supp,List.mem_singleton] at hk
  exact ⟨j,hj,hk⟩
theorem rV_supp {α:Type} {f:α→Ty} {xs:List α} {k:Nat} (h:k∈(rV f xs).flatMap Ent.supp):False:=by
  simp only [rV,List.mem_flatMap,List.mem_map] at h
  obtain ⟨e,⟨x,_,rfl⟩,hk⟩:=h
  cases hk
theorem keysOf_get {H:List (Nat×HEnt)} {k:Nat} {x:HEnt} (hx:(k,x)∈H) (hu: ∀y,(k,y)∈H→y=x):keysOf H k=some x:=by
  have key: ∀(l:List (Nat×HEnt)) (h:Keys),(∀y,h k=some y→y=x)→(∀y,(k,y)∈l→y=x)→((k,x)∈l∨h k=some x)→updK h (l.map fun x=>(x.1,some x.2)) k=some x:=by
    intro l
    induction l with
    | nil=>intro h _ _ h2;rcases h2 with h2 | h2;cases h2;exact h2
    | cons y r ih=>
      intro h h0 h1 h2
      refine ih _ (fun z hz=> ?_) (fun z hz=>h1 z (List.mem_cons_of_mem _ hz)) ?_
      · by_cases hk:k=y.1
        · rw [hk,xa7] at hz;cases hz;exact h1 _ (by rw [hk];simp)
        · rw [x5 _ _ _ hk] at hz;exact h0 z hz
      · rcases h2 with h2 | h2
        · rcases List.mem_cons.1 h2 with rfl | h2
          · exact .inr (xa7 _ _ _)
          · exact .inl h2
        · by_cases hk:k=y.1
          · have:y.2=x:=h1 _ (by rw [hk];simp)
            exact .inr (by show upd h y.1 (some y.2) k=some x;rw [hk,xa7,this])
          · exact .inr (by show upd h y.1 (some y.2) k=some x;rw [x5 _ _ _ hk];exact h2)
  exact key H _ (fun _ h=>by cases h) hu (.inl hx)
theorem poolL_mem {n k:Nat} {R:Nat→HEnt} {x:HEnt} (h:(k,x)∈poolL n R): ∃j,j < n∧k=j+100∧x=R j:=by
  simp only [poolL,List.mem_map,List.mem_range,Prod.mk.injEq] at h
  obtain ⟨j,hj,h1,h2⟩:=h
  exact ⟨j,hj,h1.symm,h2.symm⟩
theorem keysOf_pool {n:Nat} {R:Nat→HEnt} {X:HEnt}:SubK (upd (poolK n R) 20 (some X)) (keysOf ((20,X)::poolL n R)):=fun q x hx=>by
  by_cases hq:q=20
  · subst hq
    rw [xa7] at hx
    cases hx
    exact ⟨_,keysOf_get (by simp) (fun y hy=>by
      rcases List.mem_cons.1 hy with hy | hy
      · cases hy;rfl
      · obtain ⟨j,_,h2,_⟩:=poolL_mem hy;omega),rfl,.refl⟩
  · rw [x5 _ _ _ hq] at hx
    obtain ⟨k,h1,rfl,rfl⟩:=poolK_lt hx
    refine ⟨_,keysOf_get (x:=R k) (List.mem_cons_of_mem _ ?_) (fun y hy=> ?_),rfl,.refl⟩
    · simp only [poolL,List.mem_map,List.mem_range];exact ⟨k,h1,rfl⟩
    · rcases List.mem_cons.1 hy with hy | hy
      · exact absurd (Prod.ext_iff.1 hy).1 hq
      · obtain ⟨j,_,h2,rfl⟩:=poolL_mem hy
        have:j=k:=by omega
        rw [this]
def poolN (n:Nat):List Nat:=20::(List.range n).map (· +100)
theorem poolN_mem {n k:Nat} (h:k∈poolN n):k=20∨ ∃j,j < n∧k=j+100:=by
  simp only [poolN,List.mem_cons,List.mem_map,List.mem_range] at h
  rcases h with h | ⟨j,hj,h⟩
  · exact .inl h
  · exact .inr ⟨j,hj,h.symm⟩
/-- The names given: the list's, that of the other list, and those below m. -/
def alP (b:Bool) (m:Nat):Names:=fun q=>Nat.beq q 20 || (b && Nat.beq q 21) || (Nat.ble 100 q && Nat.blt q m)
theorem alP_in {b:Bool} {m q:Nat} (h1:100≤q) (h2:q < m):alP b m q=true:=by
  simp [alP,Nat.ble_eq_true_of_le h1,Nat.blt]
  right;omega
theorem alP_out {b:Bool} {m:Nat} (h:100≤m):alP b m m=false:=by
  have nb: ∀k,m≠k→Nat.beq m k=false:=fun k hk=>by
    cases hb:Nat.beq m k with
    | false=>rfl
    | true=>exact absurd (Nat.eq_of_beq_eq_true hb) hk
  have h3:Nat.blt m m=false:=by
    cases hb:Nat.blt m m with
    | false=>rfl
    | true=>exact absurd (Nat.le_of_ble_eq_true hb) (Nat.lt_irrefl m)
  simp [alP,nb 20 (by omega),nb 21 (by omega),h3]
theorem lkP {b:Bool} {N n m:Nat} {w:World} {F:Dom} {η:Env} {H:List (Nat×HEnt)} (h:n+100≤m):LkOk (Base.lent N w F η (poolN n) H) (alP b m):=
  ⟨fun k hk=>by
    rcases poolN_mem hk with rfl | ⟨j,hj,rfl⟩
    · rfl
    · exact alP_in (by omega) (by omega),fun k hk=>by cases hk⟩
theorem supP {b:Bool} {n m:Nat} {R:Nat→HEnt} {T es:Nat} {len:Nat→Nat} (h:n+100≤m) (hR: ∀k,k < n→(R k).supp=[]):SupH (upd (poolK n R) 20 (some ⟨T,1,false,owns n es len⟩)) (alP b m):=fun q x hx=>by
  by_cases hq:q=20
  · subst hq
    rw [xa7] at hx
    cases hx
    exact ⟨rfl,fun j hj=>by obtain ⟨i,hi,rfl⟩:=owns_supp hj;exact alP_in (by omega) (by omega)⟩
  · rw [x5 _ _ _ hq] at hx
    obtain ⟨k,h1,rfl,rfl⟩:=poolK_lt hx
    exact ⟨alP_in (by omega) (by omega),fun j hj=>by rw [hR k h1] at hj;cases hj⟩
/-! ### Marks -/
section
variable {α:Type} (L:Nat→List α) (m:Nat→Nat→α) (d:α)
/-- The slices before the k-th are marked, and i elements of the k-th. -/
def cM (k i j:Nat):List α:=(List.range (L j).length).map fun t=>if j < k∨(j=k∧t < i) then m j t else (L j).getD t d
def mkL (j n:Nat):List α:=(List.range n).map (m j)
variable {L m d}
theorem cM_len {k i j:Nat}:(cM L m d k i j).length=(L j).length:=by simp [cM]
theorem mkL_len {j n:Nat}:(mkL m j n).length=n:=by simp [mkL]
theorem cM_0 {j:Nat}:cM L m d 0 0 j=L j:=by
  apply List.ext_getElem?
  intro t
  rw [cM,List.getElem?_map]
  rcases Nat.lt_or_ge t (L j).length with h | h
  · rw [List.getElem?_range h]
    simp [List.getD_eq_getElem?_getD,List.getElem?_eq_getElem h]
  · rw [List.getElem?_eq_none (by simpa using h),List.getElem?_eq_none h];rfl
theorem cM_set {k i:Nat} (hi:i < (L k).length):(cM L m d k i k).set i (m k i)=cM L m d k (i+1) k:=by
  apply List.ext_getElem?
  intro t
  rw [List.getElem?_set]
  rcases Nat.lt_or_ge t (L k).length with h | h
  · simp only [cM,List.getElem?_map,List.getElem?_range h,List.length_map,List.length_range,Option.map_some]
    by_cases hit:i=t
    · subst hit;simp [h]
    · rw [if_neg hit]
      by_cases h1:t < i
      · simp [h1,show t < i+1 by omega]
      · simp [h1,show ¬t < i+1 by omega]
  · rw [if_neg (by omega),List.getElem?_eq_none (by rw [cM_len];exact h),List.getElem?_eq_none (by rw [cM_len];exact h)]
theorem cM_oth {k i j:Nat} (h:j≠k):cM L m d k (i+1) j=cM L m d k i j:=by
  simp only [cM]
  congr 1;funext t
  by_cases h1:j < k
  · rw [if_pos (.inl h1),if_pos (.inl h1)]
  · rw [if_neg (by omega),if_neg (by omega)]
theorem cM_next {k j:Nat}:cM L m d (k+1) 0 j=cM L m d k (L k).length j:=by
  apply List.map_congr_left
  intro t ht
  rw [List.mem_range] at ht
  by_cases h1:j < k
  · rw [if_pos (.inl (by omega)),if_pos (.inl h1)]
  · by_cases h2:j=k
    · subst h2;rw [if_pos (.inl (by omega)),if_pos (.inr ⟨rfl,ht⟩)]
    · rw [if_neg (by omega),if_neg (by omega)]
theorem cM_end {k j:Nat} (h:j < k):cM L m d k 0 j=mkL m j (L j).length:=by
  simp only [cM,mkL]
  congr 1;funext t
  rw [if_pos (.inl h)]
theorem mkL_succ {j n:Nat}:mkL m j n++[m j n]=mkL m j (n+1):=by simp [mkL,List.range_succ]
theorem mkL_get {j n t:Nat} (h:t < n):(mkL m j n)[t]? =some (m j t):=by simp [mkL,List.getElem?_map,List.getElem?_range h]
theorem mkL_pre {j n k:Nat} (h:k≤n): ∀(t:Nat) (x:α),(mkL m j k)[t]? =some x→(mkL m j n)[t]? =some x:=fun t x hx=>by
  have ht:t < k:=by have:=(List.getElem?_eq_some_iff.1 hx).1;rwa [mkL_len] at this
  rw [mkL_get ht] at hx
  rw [mkL_get (by omega),hx]
end
/-! ### Blocks on top of others -/
def pileK (κ:Nat→Nat) (R:Nat→HEnt):Nat→Keys→Keys
  | 0,h=>h
  | k+1,h=>upd (pileK κ R k h) (κ k) (some (R k))
theorem xi0 {κ:Nat→Nat} {R:Nat→HEnt} {h:Keys} {q:Nat}: ∀{k:Nat},(∀j,j < k→q≠κ j)→pileK κ R k h q=h q
  | 0,_=>rfl
  | k+1,H=>by rw [pileK,x5 _ _ _ (H k (by omega)),xi0 fun j hj=>H j (by omega)]
theorem pile_get {κ:Nat→Nat} {R:Nat→HEnt} {h:Keys} {j:Nat}: ∀{k:Nat},(∀i,i < k→i≠j→κ j≠κ i)→j < k→pileK κ R k h (κ j)=some (R j)
  | k+1,H,hj=>by
    by_cases hjk:j=k
    · subst hjk;exact xa7 _ _ _
    · rw [pileK,x5 _ _ _ (H k (by omega) (by omega))]
      exact pile_get (fun i hi=>H i (by omega)) (by omega)
theorem pile_lt {κ:Nat→Nat} {R:Nat→HEnt} {h:Keys} {q:Nat} {x:HEnt}: ∀{k:Nat},pileK κ R k h q=some x→(∃j,j < k∧q=κ j∧x=R j)∨h q=some x
  | 0,H=> .inr H
  | k+1,H=>by
    by_cases hq:q=κ k
    · subst hq;rw [pileK,xa7] at H;cases H;exact .inl ⟨k,by omega,rfl,rfl⟩
    · rw [pileK,x5 _ _ _ hq] at H
      rcases pile_lt H with ⟨j,h1,h2⟩ | h1
      · exact .inl ⟨j,by omega,h2⟩
      · exact .inr h1
theorem pile_congr {κ κ':Nat→Nat} {R:Nat→HEnt} {h:Keys}: ∀{k:Nat},(∀j,j < k→κ' j=κ j)→pileK κ' R k h=pileK κ R k h
  | 0,_=>rfl
  | k+1,H=>by rw [pileK,pileK,pile_congr fun j hj=>H j (by omega),H k (by omega)]
theorem pile_base {κ:Nat→Nat} {R:Nat→HEnt} {h h':Keys} {q:Nat} (H:h' q=h q): ∀{k:Nat},pileK κ R k h' q=pileK κ R k h q
  | 0=>H
  | k+1=>by
    by_cases hq:q=κ k
    · subst hq;rw [pileK,pileK,xa7,xa7]
    · rw [pileK,pileK,x5 _ _ _ hq,x5 _ _ _ hq,pile_base H]
theorem SubK.eq {h h':Keys} (H: ∀q x,h' q=some x→h q=some x):SubK h' h:=fun q x hx=>⟨x,H q x hx,rfl,.refl⟩
def setN (κ:Nat→Nat) (k v:Nat):Nat→Nat:=fun j=>if j=k then v else κ j
theorem setN_same {κ:Nat→Nat} {k v:Nat}:setN κ k v k=v:=if_pos rfl
theorem setN_other {κ:Nat→Nat} {k v j:Nat} (h:j≠k):setN κ k v j=κ j:=if_neg h
/-- The name that the k-th slice may have got. -/
def okN (k x:Nat):Prop:=x=k+100∨(2000+64*k≤x∧x < 2064+64*k)
theorem okN.lt {k x m:Nat} (h:okN k x) (hk:k≤900) (hm:2064+64*k≤m):100≤x∧x < m:=by rcases h with h | h <;> omega
theorem okN.ne {k j x y:Nat} (h:okN k x) (h':okN j y) (hk:k≤900) (hj:j≤900) (hne:k≠j):x≠y:=by rcases h with h | h <;> rcases h' with h' | h' <;> omega
/-- Another row over one of before. -/
theorem SubK.over {h:Keys} {v q:Nat} {r r':HEnt} (H: ∀y,h q=some y→r.T=y.T∧ImpK r y):SubK (upd h v (some r')) (upd (upd h q (some r)) v (some r')):=fun t x hx=>by
  by_cases htv:t=v
  · subst htv;rw [xa7] at hx ⊢;exact ⟨_,rfl,by cases hx;rfl,by cases hx;exact .refl⟩
  · rw [x5 _ _ _ htv] at hx ⊢
    by_cases htq:t=q
    · subst htq;rw [xa7];exact ⟨r,rfl,H x hx⟩
    · rw [x5 _ _ _ htq];exact ⟨x,hx,rfl,.refl⟩
/-- The second list: the first k are these, the others of before. -/
def gsR (n es:Nat) (κ len:Nat→Nat) (t0:Nat→Ent) (k:Nat):List Ent:=(List.range n).map fun j=>if j < k then .own (.sl (κ j) es 0 (len j)) else t0 j
section
variable {n es k:Nat} {κ len:Nat→Nat} {t0:Nat→Ent}
theorem gsR_len:(gsR n es κ len t0 k).length=n:=by simp [gsR]
theorem gsR_get {j:Nat} (hj:j < n) (hk:j < k):(gsR n es κ len t0 k)[j]? =some (.own (.sl (κ j) es 0 (len j))):=by
  simp [gsR,List.getElem?_map,List.getElem?_range hj,hk]
theorem gsR_rep {e:Ent}:List.replicate n e=gsR n es κ len (fun _=>e) 0:=by
  apply List.ext_getElem?
  intro t
  rw [gsR,List.getElem?_map]
  rcases Nat.lt_or_ge t n with h | h
  · rw [List.getElem?_range h,List.getElem?_replicate,if_pos h];simp
  · rw [List.getElem?_eq_none (by simpa using h),List.getElem?_eq_none (by simpa using h)];rfl
theorem gsR_set {v:Nat} (hk:k < n):(gsR n es κ len t0 k).set k (.own (.sl v es 0 (len k)))=gsR n es (setN κ k v) len t0 (k+1):=by
  apply List.ext_getElem?
  intro t
  rw [List.getElem?_set]
  rcases Nat.lt_or_ge t n with h | h
  · simp only [gsR,List.getElem?_map,List.getElem?_range h,List.length_map,List.length_range,Option.map_some]
    by_cases hit:k=t
    · subst hit;simp [h,setN]
    · rw [if_neg hit]
      by_cases h1:t < k
      · simp [h1,show t < k+1 by omega,setN_other (κ:=κ) (v:=v) (show t≠k by omega)]
      · simp [h1,show ¬t < k+1 by omega]
  · rw [if_neg (by omega),List.getElem?_eq_none (by rw [gsR_len];exact h),List.getElem?_eq_none (by rw [gsR_len];exact h)]
theorem gsR_supp {q:Nat} (h:q∈(gsR n es κ len t0 k).flatMap Ent.supp):(∃j,j < n∧j < k∧q=κ j)∨ ∃j,j < n∧q∈(t0 j).supp:=by
  simp only [gsR,List.mem_flatMap,List.mem_map,List.mem_range] at h
  obtain ⟨e,⟨j,hj,rfl⟩,hk⟩:=h
  by_cases hjk:j < k
  · rw [if_pos hjk] at hk
    simp only [Ent.supp,VP.supp,List.mem_singleton] at hk
    exact .inl ⟨j,hj,hjk,hk⟩
  · rw [if_neg hjk] at hk
    exact .inr ⟨j,hj,hk⟩
end
/-! ### A block of one's own is given away, where others are lent -/
section
variable {P:Program} {c:Base} {g:Slots} {h:Keys} {al:Names} {a:Act} {w:World} {η:Env}
theorem St'.giveL (s:St' c g h al a w η) {k:Nat} {T es off len:Nat} {agg:Bool} {ts:List Ent} {α:Type} {f:α→Ty} {xs:List α} (hk:h k=some ⟨T,es,agg,ts⟩) (hlb:0 < η.c k→ ¬c.lb (η.b k))
    (hts:(ts.drop off).take len=xs.map fun x=> .val (f x)) (hl:xs.length=len) {v:Value} (hv:(Ent.own (.sl k es off len)).sat (c.dom h η) w η v):(tL es agg f xs).p (c.dom (upd h k none) η) w v:=by
  subst hl
  obtain ⟨A,h1,h2,h3⟩:=hv
  obtain ⟨h4,h5,⟨h6,h7,h8,h9,h10⟩,h11⟩:=s.key k _ hk
  simp only at h7 h8 h9 h10
  refine ⟨A,_,h1,by omega,by omega,?_⟩
  rcases Nat.eq_zero_or_pos xs.length with h0 | h0
  · exact .inl (List.eq_nil_of_length_eq_zero h0)
  · have hc:0 < η.c k:=by omega
    obtain ⟨cs,e1,e2,e3⟩:=h10 hc
    obtain ⟨d1,d2,d3⟩:=h11 hc
    have d1:c.w0.heap.size≤η.b k:=d1.resolve_right (hlb hc)
    refine .inr ⟨η.b k,off*es,h3 (by omega),⟨.inl d1,?_,d2,d3⟩,fun i x hi=> ?_⟩
    · rintro ⟨j,y,hj,hcj,e⟩
      by_cases hjk:j=k
      · subst hjk;rw [xa7] at hj;cases hj
      · rw [x5 _ _ _ hjk] at hj
        exact s.inj j k y _ hj hk hjk hcj hc e.symm
    · have hil:i < xs.length:=(List.getElem?_eq_some_iff.1 hi).1
      have he:=e3 (off+i) _ (map_get hts i x hi)
      have hle:off*es+i*es+es≤cs.size:=by
        rw [e2,←Nat.add_mul,←Nat.succ_mul];exact Nat.mul_le_mul_right _ (by omega)
      refine ⟨_,⟨cs,_,_,e1,hle,h7,h8,rfl⟩,?_⟩
      rw [←Nat.add_mul]
      exact (f x).mono he (Keep.drop k)
theorem C_giveL {Q:Exit→Act→World→Prop} {x:Code} {t k T es off len:Nat} {agg:Bool} {ts:List Ent} {α:Type} {f:α→Ty} {xs:List α} (hg:g t=some (.own (.sl k es off len))) (hk:h k=some ⟨T,es,agg,ts⟩)
    (hlb: ∀b,c.lb b→ ∃j y,j∈c.ln∧j≠k∧h j=some y∧0 < c.lη.c j∧b=c.lη.b j)
    (hts:(ts.drop off).take len=xs.map fun x=> .val (f x)) (hl:xs.length=len) (H:wc P c x Q (upd g t (some (.val (tL es agg f xs)))) (upd h k none) al):wc P c x Q g h al:=fun a w ⟨η,s⟩=>by
  have h2:=s.giveL hk (fun hc hb=>by
    obtain ⟨j,y,h1,h2,h3,h4,h5⟩:=hlb _ hb
    obtain ⟨_,e1,e2⟩:=s.lk j h1
    exact s.inj j k y _ h3 hk h2 (by rw [e2];exact h4) hc (by rw [e1,←h5])) hts hl (s.slot t _ hg).2.2
  have s2:=(s.drop k).put (s.slot t _ hg).1 (e:= .val (tL es agg f xs)) h2 fun j hj=>by cases hj
  refine H a w ⟨η,?_⟩
  have e:a.put (some t) (a.tmps.getD t undef)=a:=by
    have hlt:t < a.tmps.size:=by rw [s.tn];exact (s.slot t _ hg).1
    have:a.tmps.setIfInBounds t (a.tmps.getD t undef)=a.tmps:=by
      apply Array.ext_getElem?
      intro i
      rw [Array.getElem?_setIfInBounds]
      by_cases hi:t=i
      · subst hi;simp [hlt]
      · simp [hi]
    simp only [Act.put,this]
  rwa [e] at s2
end
end An

/- Spans share no memory. -/
namespace An.S
open Go Go.Proofs An
set_option maxHeartbeats 1000000
set_option maxRecDepth 100000
instance sl53:SlI Tryz.prog 53 45 1 false:=⟨Tryz.underlying53,ti45⟩
instance fi162:FnI Tryz.prog 162:=⟨_,Tryz.func162,by kernel_rfl,rfl⟩
def mSn (k i:Nat):Sn:=⟨1000003*((k:Int)+7)+(i:Int),0⟩
theorem c_markK2 (k i:Nat) (hk:k < 2000) (hi:i < 10000000):
  Ct Tryz.prog 84 [tI k,tI i] (tI (1000003*((k:Int)+7)+(i:Int))):=by
 refine Ct.intro Tryz.func84 rfl Tryz.ntmps84 rfl ?_
 intro w F
 refine A9 ?_
 refine R2 (d_mul (wr64 (by omega) (by omega))) rfl rfl ?_
 refine A6 ?_
 exact x4 Plain.mk' rfl rfl Le.refl
theorem c_markSpan (k i:Nat) (hk:k < 2000) (hi:i < 10000000):
  Ct Tryz.prog 162 [tI k,tI i] (tSn (mSn k i)):=by
 refine Ct.intro Tryz.func162 rfl Tryz.ntmps162 rfl ?_
 intro w F
 refine A2 ?_
 refine RE (xa6 (k:=4) (n:=2) (agg:=true) zr62.1 zr62.2 rfl) trivial trivial ⟨rfl,trivial⟩ ?_
 refine A6 ?_
 refine R2 (x3 (c_markK2 k i hk hi) fi84 rfl) rfl rfl (R1 (xb0 (r:=tS [⟨1,false,tI (1000003*((k:Int)+7)+(i:Int))⟩,⟨1,false,(tE (.int .i64 0))⟩]) (ts:=[(0,tI (1000003*((k:Int)+7)+(i:Int)))]) bu62 zr62.2 ⟨_,rfl⟩ rfl ⟨_,_,_,_,rfl,Up.f (fs:=[⟨1,false,(tE (.int .i64 0))⟩,⟨1,false,(tE (.int .i64 0))⟩]) (f:=⟨1,false,(tE (.int .i64 0))⟩) (fs':=[⟨1,false,tI (1000003*((k:Int)+7)+(i:Int))⟩,⟨1,false,(tE (.int .i64 0))⟩]) 0 rfl rfl rfl,inferInstance,Le.refl⟩) rfl ?_)
 refine A4 ?_
 exact xd5 Plain.mk' rfl ⟨_,_,_,_,_,rfl,rfl,ti62,Le.refl⟩
theorem supHs_of {l:List Nat}: ∀{H:List (Nat×HEnt)},(∀x∈H,memN x.1 l=true∧SupX x.2.ts l)→SupHs H l
  | [],_=>trivial
  | x::r,h=>⟨h x (by simp),supHs_of fun y hy=>h y (List.mem_cons_of_mem _ hy)⟩
theorem supHs_pool {n T es:Nat} {len:Nat→Nat} {R:Nat→HEnt} (hR: ∀k,k < n→(R k).supp=[]):SupHs ((20,⟨T,1,false,owns n es len⟩)::poolL n R) (poolN n):=supHs_of fun x hx=>by
  rcases List.mem_cons.1 hx with rfl | hx
  · exact ⟨rfl,fun k hk=>by obtain ⟨j,hj,rfl⟩:=owns_supp hk;simp only [poolN,List.mem_cons,List.mem_map,List.mem_range];exact .inr ⟨j,hj,rfl⟩⟩
  · obtain ⟨j,hj,h1,h2⟩:=poolL_mem (k:=x.1) (x:=x.2) hx
    refine ⟨xc0.2 ?_,fun k hk=> ?_⟩
    · rw [h1];simp only [poolN,List.mem_cons,List.mem_map,List.mem_range];exact .inr ⟨j,hj,rfl⟩
    · have:=hR j hj;rw [h2] at hk;rw [HEnt.supp] at this;rw [this] at hk;cases hk
abbrev rS (xs:List Sn):HEnt:=⟨62,2,true,rV tSn xs⟩
abbrev hP (n:Nat) (L M:Nat→List Sn):Keys:=upd (poolK n fun j=>rS (M j)) 20 (some ⟨45,1,false,owns n 2 fun j=>(L j).length⟩)
theorem rS_supp {xs:List Sn}:(rS xs).supp=[]:=List.eq_nil_iff_forall_not_mem.2 fun _ hk=>rV_supp hk
theorem hP_get {n k:Nat} {L M:Nat→List Sn} (h:k < n):hP n L M (k+100)=some (rS (M k)):=by
  rw [hP,x5 _ _ _ (by omega)];exact poolK_get h
theorem hP_upd {n k:Nat} {L M M':Nat→List Sn} (h1: ∀j,j≠k→M' j=M j):SubK (hP n L M') (upd (hP n L M) (k+100) (some (rS (M' k)))):=fun q x hx=>by
  by_cases hq:q=k+100
  · subst hq
    rw [hP,x5 _ _ _ (by omega)] at hx
    obtain ⟨j,_,h2,rfl⟩:=poolK_lt hx
    have:j=k:=by omega
    subst this
    exact ⟨_,xa7 _ _ _,rfl,.refl⟩
  · rw [x5 _ _ _ hq]
    by_cases hq2:q=20
    · subst hq2;rw [hP,xa7] at hx ⊢;exact ⟨_,rfl,by cases hx;rfl,by cases hx;exact .refl⟩
    · rw [hP,x5 _ _ _ hq2] at hx ⊢
      obtain ⟨j,h1',rfl,rfl⟩:=poolK_lt hx
      refine ⟨_,poolK_get h1',rfl,?_⟩
      rw [h1 j (by omega)];exact .refl
theorem hP_eq {n:Nat} {L M M':Nat→List Sn} (h: ∀j,j < n→M' j=M j):SubK (hP n L M') (hP n L M):=fun q x hx=>by
  by_cases hq2:q=20
  · subst hq2;rw [hP,xa7] at hx ⊢;exact ⟨_,rfl,by cases hx;rfl,by cases hx;exact .refl⟩
  · rw [hP,x5 _ _ _ hq2] at hx ⊢
    obtain ⟨j,h1',rfl,rfl⟩:=poolK_lt hx
    exact ⟨_,poolK_get h1',rfl,by rw [h j h1'];exact .refl⟩
theorem hP_sup {b:Bool} {n m:Nat} {L M:Nat→List Sn} (h:n+100≤m):SupH (hP n L M) (alP b m):=supP h fun _ _=>rS_supp
theorem d_eqlSn {P:Program} {c:Base} {d ty:Nat} {pos:String} {af:Array Edge} {gd:Option (Nat×Bool)} {T yT:TypeId} {x y:Operand} {s t:Sn} {b:Bool} (h:EqS2 P T) (hb:decide (s=t)=b):
    Does P c ⟨some d,.binOp .eql T x y yT,ty,pos,af,gd⟩ ⟨[(x,.val (tSn s)),(y,.val (tSn t))],[],some (d,some (.val (tB b))),[],[]⟩:=
  Does.value rfl fun g hh al a w η hrd _ st=>by
    subst hb
    have h1:=tSn_val (xa3 st hrd.1).1
    have h2:=tSn_val (xa3 st hrd.2.1).1
    have hg:(eqGuard .eql T x y (.agg #[.int .i64 s.lo,.int .i64 s.hi]) (.agg #[.int .i64 t.lo,.int .i64 t.hi])).run P w= .ok () w:=by
      simp [eqGuard,go_sem,h.guard]
    have hb:(binOp .eql T (.agg #[.int .i64 s.lo,.int .i64 s.hi]) (.agg #[.int .i64 t.lo,.int .i64 t.hi])).run P w= .ok (.bool (s.lo==t.lo && s.hi==t.hi)) w:=by
      simp only [binOp,Sem.run_bind,h.eq,Result.andThen_ok,Sem.run_pure]
    refine ⟨.bool (s.lo==t.lo && s.hi==t.hi),w,?_,Ext.refl w,?_,fun k hk=>by cases hk⟩
    · simp only [execOp,h1,h2,Sem.run_bind,hg,hb,Result.andThen_ok,Sem.run_pure]
    · show _=Value.bool (decide (s=t))
      congr 1
      obtain ⟨a,b⟩:=s;obtain ⟨a',b'⟩:=t
      by_cases e1:a=a' <;> by_cases e2:b=b' <;> simp [e1,e2]
abbrev tN0:Nat→Ent:=fun _=> .val (tL 2 true tSn ([]:List Sn))
abbrev hB (n:Nat) (L:Nat→List Sn) (κ:Nat→Nat) (k:Nat):Keys:=upd (hP n L (cM L mSn sn0 n 0)) 21 (some ⟨45,1,false,gsR n 2 κ (fun j=>(L j).length+64) tN0 k⟩)
abbrev hQ (n:Nat) (L:Nat→List Sn) (κ:Nat→Nat) (k:Nat):Keys:=pileK κ (fun j=>rS (mkL mSn j ((L j).length+64))) k (hB n L κ k)
section
variable {n k:Nat} {L:Nat→List Sn} {κ:Nat→Nat}
theorem hQ_20 (hκ: ∀j,j < k→okN j (κ j)):hQ n L κ k 20=some ⟨45,1,false,owns n 2 fun j=>(L j).length⟩:=by
  rw [hQ,xi0 fun j hj=>by rcases hκ j hj with h | h <;> omega];rfl
theorem hQ_21 (hκ: ∀j,j < k→okN j (κ j)):hQ n L κ k 21=some ⟨45,1,false,gsR n 2 κ (fun j=>(L j).length+64) tN0 k⟩:=by
  rw [hQ,xi0 fun j hj=>by rcases hκ j hj with h | h <;> omega];exact xa7 _ _ _
theorem hQ_own (hn:n≤900) (hκ: ∀j,j < k→okN j (κ j)) (hk:k < n):hQ n L κ k (k+100)=some (rS (mkL mSn k (L k).length)):=by
  rw [hQ,xi0 fun j hj=>okN.ne (.inl rfl) (hκ j hj) (by omega) (by omega) (by omega),hB,x5 _ _ _ (by omega),hP_get hk,cM_end hk]
theorem hQ_new (hκ: ∀j,j < k→okN j (κ j)) (hn:n≤900) {q:Nat} (h:2000+64*k≤q):hQ n L κ k q=none:=by
  rw [hQ,xi0 fun j hj=>by rcases hκ j hj with h | h <;> omega,hB,x5 _ _ _ (by omega),hP,x5 _ _ _ (by omega)]
  exact poolK_no fun j hj=>by omega
theorem hQ_sup {m:Nat} (hκ: ∀j,j < k→okN j (κ j)) (hn:n≤900) (hk:k≤n) (hm:2000+64*k≤m):SupH (hQ n L κ k) (alP true m):=fun q x hx=>by
  have hin: ∀j,j < k→alP true m (κ j)=true:=fun j hj=>alP_in ((hκ j hj).lt (m:=m) (by omega) (by omega)).1 ((hκ j hj).lt (by omega) (by omega)).2
  rcases pile_lt hx with ⟨j,hj,rfl,rfl⟩ | hx
  · exact ⟨hin j hj,fun i hi=>by rw [rS_supp] at hi;cases hi⟩
  · by_cases hq:q=21
    · subst hq
      rw [hB,xa7] at hx
      cases hx
      refine ⟨rfl,fun i hi=> ?_⟩
      rcases gsR_supp hi with ⟨j,_,hj,rfl⟩ | ⟨j,_,hj⟩
      · exact hin j hj
      · cases hj
    · rw [hB,x5 _ _ _ hq] at hx
      exact hP_sup (by omega) q x hx
theorem hI_sup {m v:Nat} {r:List Sn} (hκ: ∀j,j < k→okN j (κ j)) (hn:n≤900) (hk:k≤n) (hm:2000+64*k≤m) (hv:100≤v∧v < m):SupH (upd (hQ n L κ k) v (some (rS r))) (alP true m):=fun q x hx=>by
  by_cases hq:q=v
  · subst hq;rw [xa7] at hx;cases hx;exact ⟨alP_in hv.1 hv.2,fun i hi=>by rw [rS_supp] at hi;cases hi⟩
  · rw [x5 _ _ _ hq] at hx;exact hQ_sup hκ hn hk hm q x hx
theorem okN_set {v:Nat} (hκ: ∀j,j < k→okN j (κ j)) (hv:v=k+100∨2000+64*k≤v∧v < 2000+64*k+64): ∀j,j < k+1→okN j (setN κ k v j):=fun j hj=>by
  by_cases h:j=k
  · subst h;rw [setN_same];rcases hv with h | h;exact .inl h;exact .inr ⟨h.1,by omega⟩
  · rw [setN_other h];exact hκ j (by omega)
theorem hQ_next {v:Nat} (hκ: ∀j,j < k→okN j (κ j)) (hv:100≤v):SubK (hQ n L (setN κ k v) (k+1)) (upd (upd (hQ n L κ k) v (some (rS (mkL mSn k ((L k).length+64))))) 21 (some ⟨45,1,false,gsR n 2 (setN κ k v) (fun j=>(L j).length+64) tN0 (k+1)⟩)):= .eq fun t x hx=>by
  rw [hQ,pileK,setN_same,pile_congr (κ:=κ) fun j hj=>setN_other (by omega)] at hx
  by_cases ht:t=21
  · subst ht
    rw [x5 _ _ _ (by omega),xi0 fun j hj=>by rcases hκ j hj with h | h <;> omega,hB,xa7] at hx
    rw [xa7];exact hx
  · rw [x5 _ _ _ ht]
    by_cases htv:t=v
    · subst htv;rw [xa7] at hx ⊢;exact hx
    · rw [x5 _ _ _ htv] at hx ⊢
      rw [pile_base (h:=hB n L κ k) (by rw [hB,hB,x5 _ _ _ ht,x5 _ _ _ ht])] at hx
      exact hx
theorem hQ_at {j:Nat} (hn:n≤900) (hk:k≤n) (hκ: ∀j,j < k→okN j (κ j)) (hj:j < k):hQ n L κ k (κ j)=some (rS (mkL mSn j ((L j).length+64))):=
  pile_get (fun i hi hij=>okN.ne (hκ j hj) (hκ i hi) (by omega) (by omega) (Ne.symm hij)) hj
theorem hQ_ls {j:Nat} (hn:n≤900) (hk:k≤n) (hκ: ∀j,j < k→okN j (κ j)) (hj:j < k): ∃m,(L j).length≤m∧hQ n L κ k (j+100)=some (rS (mkL mSn j m)):=by
  rcases hκ j hj with h | h
  · exact ⟨(L j).length+64,by omega,by rw [←h];exact hQ_at hn hk hκ hj⟩
  · refine ⟨(L j).length,Nat.le_refl _,?_⟩
    rw [hQ,xi0 fun i hi=>by
      by_cases hij:i=j
      · subst hij;omega
      · exact okN.ne (.inl rfl) (hκ i hi) (by omega) (by omega) (Ne.symm hij),hB,x5 _ _ _ (by omega),hP_get (by omega),cM_end (by omega)]
theorem rS_get {i m j:Nat} (h:i < m):(rV tSn (mkL mSn j m))[i]? =some (.val (tSn (mSn j i))):=by
  rw [rV,List.getElem?_map,mkL_get h];rfl
theorem rS_pre {j i i':Nat} (h:i'≤i):ImpK (rS (mkL mSn j i)) (rS (mkL mSn j i')):= .ts (by rw [xf1,xf1,mkL_len,mkL_len];exact h) fun t e he=>⟨e,by
  simp only [rV,List.getElem?_map] at he ⊢
  obtain ⟨x,hx,rfl⟩:=Option.map_eq_some_iff.1 he
  rw [mkL_pre h t x hx];rfl,.refl⟩
/-- The name that the k-th slice may have got the second time. -/
def okM (n k x:Nat):Prop:=x=k+100∨x=2000+64*n+k
theorem okM.ne {k j x y:Nat} (h:okM n k x) (h':okM n j y) (hk:k≤900) (hj:j≤900) (hne:k≠j):x≠y:=by rcases h with h | h <;> rcases h' with h' | h' <;> omega
abbrev tK (L:Nat→List Sn) (κ:Nat→Nat):Nat→Ent:=fun j=> .own (.sl (κ j) 2 0 ((L j).length+64))
abbrev rM (n:Nat) (L:Nat→List Sn) (j:Nat):HEnt:=rS (mkL mSn j (L j).length++mkL mSn (j+n) 64)
abbrev hC (n:Nat) (L:Nat→List Sn) (κ κ2:Nat→Nat) (k:Nat):Keys:=upd (hP n L (fun j=>mkL mSn j (L j).length)) 21 (some ⟨45,1,false,gsR n 2 κ2 (fun j=>(L j).length+64) (tK L κ) k⟩)
abbrev hR (n:Nat) (L:Nat→List Sn) (κ κ2:Nat→Nat) (k:Nat):Keys:=pileK κ2 (rM n L) k (hC n L κ κ2 k)
variable {κ2:Nat→Nat}
theorem hR_20 (hκ: ∀j,j < k→okM n j (κ2 j)):hR n L κ κ2 k 20=some ⟨45,1,false,owns n 2 fun j=>(L j).length⟩:=by
  rw [hR,xi0 fun j hj=>by rcases hκ j hj with h | h <;> omega];rfl
theorem hR_21 (hκ: ∀j,j < k→okM n j (κ2 j)):hR n L κ κ2 k 21=some ⟨45,1,false,gsR n 2 κ2 (fun j=>(L j).length+64) (tK L κ) k⟩:=by
  rw [hR,xi0 fun j hj=>by rcases hκ j hj with h | h <;> omega];exact xa7 _ _ _
theorem hR_own (hn:n≤900) (hκ: ∀j,j < k→okM n j (κ2 j)) (hk:k < n):hR n L κ κ2 k (k+100)=some (rS (mkL mSn k (L k).length)):=by
  rw [hR,xi0 fun j hj=>okM.ne (.inl rfl) (hκ j hj) (by omega) (by omega) (by omega),hC,x5 _ _ _ (by omega),hP_get hk]
theorem hR_sup {m:Nat} (hκ0: ∀j,j < n→okN j (κ j)) (hκ: ∀j,j < k→okM n j (κ2 j)) (hn:n≤900) (hk:k≤n) (hm:2000+64*n+k≤m):SupH (hR n L κ κ2 k) (alP true m):=fun q x hx=>by
  have hin: ∀j,j < k→alP true m (κ2 j)=true:=fun j hj=>by rcases hκ j hj with h | h <;> exact alP_in (by omega) (by omega)
  rcases pile_lt hx with ⟨j,hj,rfl,rfl⟩ | hx
  · exact ⟨hin j hj,fun i hi=>by rw [rS_supp] at hi;cases hi⟩
  · by_cases hq:q=21
    · subst hq
      rw [hC,xa7] at hx
      cases hx
      refine ⟨rfl,fun i hi=> ?_⟩
      rcases gsR_supp hi with ⟨j,_,hj,rfl⟩ | ⟨j,hjn,hj⟩
      · exact hin j hj
      · simp only [Ent.supp,VP.supp,List.mem_singleton] at hj
        subst hj
        exact alP_in ((hκ0 j hjn).lt (m:=m) (by omega) (by omega)).1 ((hκ0 j hjn).lt (by omega) (by omega)).2
    · rw [hC,x5 _ _ _ hq] at hx
      exact hP_sup (by omega) q x hx
theorem hR_0 {κ3:Nat→Nat} (hn:n≤900) (hκ: ∀j,j < n→okN j (κ j)):SubK (hR n L κ κ3 0) (hQ n L κ n):=fun q x hx=>by
  by_cases hq:q=21
  · subst hq
    have hx:hC n L κ κ3 0 21=some x:=hx
    rw [hC,xa7] at hx
    cases hx
    refine ⟨_,hQ_21 hκ,rfl,?_⟩
    rw [show gsR n 2 κ (fun j=>(L j).length+64) tN0 n=gsR n 2 κ3 (fun j=>(L j).length+64) (tK L κ) 0 from by
      apply List.map_congr_left;intro j hj;rw [List.mem_range] at hj;simp [hj]]
    exact .refl
  · have hx:hC n L κ κ3 0 q=some x:=hx
    rw [hC,x5 _ _ _ hq] at hx
    by_cases hq2:q=20
    · subst hq2
      rw [hP,xa7] at hx
      cases hx
      exact ⟨_,hQ_20 hκ,rfl,.refl⟩
    · rw [hP,x5 _ _ _ hq2] at hx
      obtain ⟨j,hj,rfl,rfl⟩:=poolK_lt hx
      obtain ⟨m,hm,e⟩:=hQ_ls (L:=L) hn (Nat.le_refl n) hκ hj
      exact ⟨_,e,rfl,rS_pre hm⟩
def fS (j i:Nat):List Sn:=(List.range 64).map fun t=>if t < i then mSn j t else sn0
theorem fS_len {j i:Nat}:(fS j i).length=64:=by simp [fS]
theorem fS_0 {j:Nat}:List.replicate 64 (Ent.val (tSn sn0))=rV tSn (fS j 0):=by
  rw [rV_rep 64 sn0 rfl];congr 1
theorem fS_set {j i:Nat} (hi:i < 64):(fS j i).set i (mSn j i)=fS j (i+1):=by
  apply List.ext_getElem?
  intro t
  rw [List.getElem?_set]
  rcases Nat.lt_or_ge t 64 with h | h
  · simp only [fS,List.getElem?_map,List.getElem?_range h,List.length_map,List.length_range,Option.map_some]
    by_cases hit:i=t
    · subst hit;simp [h]
    · rw [if_neg hit]
      by_cases h1:t < i
      · simp [h1,show t < i+1 by omega]
      · simp [h1,show ¬t < i+1 by omega]
  · rw [if_neg (by omega),List.getElem?_eq_none (by rw [fS_len];exact h),List.getElem?_eq_none (by rw [fS_len];exact h)]
theorem fS_64 {j:Nat}:fS j 64=mkL mSn j 64:=List.map_congr_left fun t ht=>if_pos (List.mem_range.1 ht)
def alM (m:Nat):Names:=fun q=>Nat.beq q 22 || alP true m q
theorem alM_no {m:Nat}:alP true m 22=false:=rfl
theorem alM_out {m:Nat} (h:100≤m):alM m m=false:=by
  have:Nat.beq m 22=false:=by
    cases hb:Nat.beq m 22 with
    | false=>rfl
    | true=>have:=Nat.eq_of_beq_eq_true hb;omega
  simp [alM,this,alP_out h]
theorem alM_of {m q:Nat} (h:alP true m q=true):alM m q=true:=by simp [alM,h]
theorem alM_sup {m:Nat} {h:Keys} {r:List Sn} (hs:SupH h (alP true m)):SupH (upd h 22 (some (rS r))) (alM m):=fun q x hx=>by
  by_cases hq:q=22
  · subst hq;rw [xa7] at hx;cases hx;exact ⟨rfl,fun i hi=>by rw [rS_supp] at hi;cases hi⟩
  · rw [x5 _ _ _ hq] at hx;exact ⟨alM_of (hs q x hx).1,fun i hi=>alM_of ((hs q x hx).2 i hi)⟩
theorem alM_lk {m:Nat} {c:Base} (h:LkOk c (alP true m)):LkOk c (alM m):=⟨fun k hk=>alM_of (h.ln k hk),fun k hk=>alM_of (h.yk k hk)⟩
theorem SubK.twice {h:Keys} {v:Nat} {r:Option HEnt} {r':HEnt}:SubK (upd h v (some r')) (upd (upd h v r) v (some r')):= .eq fun t x hx=>by
  by_cases ht:t=v
  · subst ht;rw [xa7] at hx ⊢;exact hx
  · rw [x5 _ _ _ ht] at hx ⊢;rw [x5 _ _ _ ht];exact hx
theorem okM_set {v:Nat} (hκ: ∀j,j < k→okM n j (κ2 j)) (hv:okM n k v): ∀j,j < k+1→okM n j (setN κ2 k v j):=fun j hj=>by
  by_cases h:j=k
  · subst h;rw [setN_same];exact hv
  · rw [setN_other h];exact hκ j (by omega)
theorem rM_eq {j:Nat}:(⟨62,2,true,rV tSn (mkL mSn j (L j).length)++(fS (j+n) 64).map (fun y=>Ent.val (tSn y))⟩:HEnt)=rM n L j:=by
  rw [rM,rS,←fS_64];simp [rV]
theorem hR_next {v:Nat} {r:HEnt} (hκ: ∀j,j < k→okM n j (κ2 j)) (hv:100≤v):SubK (hR n L κ (setN κ2 k v) (k+1)) (upd (upd (upd (upd (hR n L κ κ2 k) 22 (some r)) 22 none) v (some ⟨62,2,true,rV tSn (mkL mSn k (L k).length)++(fS (k+n) 64).map (fun y=>Ent.val (tSn y))⟩)) 21 (some ⟨45,1,false,gsR n 2 (setN κ2 k v) (fun j=>(L j).length+64) (tK L κ) (k+1)⟩)):= .eq fun t x hx=>by
  rw [rM_eq]
  rw [hR,pileK,setN_same,pile_congr (κ:=κ2) fun j hj=>setN_other (by omega)] at hx
  by_cases ht:t=21
  · subst ht
    rw [x5 _ _ _ (by omega),xi0 fun j hj=>by rcases hκ j hj with h | h <;> omega,hC,xa7] at hx
    rw [xa7];exact hx
  · rw [x5 _ _ _ ht]
    by_cases htv:t=v
    · subst htv;rw [xa7] at hx ⊢;exact hx
    · rw [x5 _ _ _ htv] at hx ⊢
      rw [pile_base (h:=hC n L κ κ2 k) (by rw [hC,hC,x5 _ _ _ ht,x5 _ _ _ ht])] at hx
      by_cases h22:t=22
      · subst h22
        rw [xi0 fun j hj=>by rcases hκ j hj with h | h <;> omega,hC,x5 _ _ _ (by omega),hP,x5 _ _ _ (by omega),poolK_no fun j _=>by omega] at hx
        cases hx
      · rw [x5 _ _ _ h22,x5 _ _ _ h22];exact hx
theorem hR_some {j:Nat} (hκ: ∀j,j < k→okM n j (κ2 j)) (hj:j < n): ∃y,hR n L κ κ2 k (j+100)=some y:=by
  have key: ∀i,∃y,pileK κ2 (rM n L) i (hC n L κ κ2 k) (j+100)=some y:=fun i=>by
    induction i with
    | zero=>exact ⟨_,by show hC n L κ κ2 k (j+100)=_;rw [hC,x5 _ _ _ (by omega)];exact hP_get hj⟩
    | succ i ih=>
      by_cases h:j+100=κ2 i
      · exact ⟨_,by rw [pileK,h];exact xa7 _ _ _⟩
      · obtain ⟨y,hy⟩:=ih;exact ⟨y,by rw [pileK,x5 _ _ _ h];exact hy⟩
  exact key k
theorem hR_lent {N:Nat} {w:World} {F:Dom} {η:Env} {R:Nat→HEnt} {X:HEnt} {r:Option HEnt} {b:Nat} (hκ: ∀j,j < k→okM n j (κ2 j)) (hk:k≤n) (hb:(Base.lent N w F η (poolN n) ((20,X)::poolL n R)).lb b):
    ∃j y,j∈poolN n∧j≠22∧upd (hR n L κ κ2 k) 22 r j=some y∧0 < η.c j∧b=η.b j:=by
  obtain ⟨x,hx,hc,e⟩:=hb
  rcases List.mem_cons.1 hx with rfl | hx
  · exact ⟨20,_,by simp [poolN],by omega,(x5 _ _ _ (by omega)).trans (hR_20 hκ),hc,e⟩
  · obtain ⟨j,hj,h1,_⟩:=poolL_mem (k:=x.1) (x:=x.2) hx
    obtain ⟨y,hy⟩:=hR_some (L:=L) (κ:=κ) hκ hj
    refine ⟨j+100,y,by simp only [poolN,List.mem_cons,List.mem_map,List.mem_range];exact .inr ⟨j,hj,rfl⟩,by omega,(x5 _ _ _ (by omega)).trans hy,by rw [←h1];exact hc,by rw [←h1];exact e⟩
theorem hR_at {j:Nat} (hn:n≤900) (hκ: ∀j,j < n→okM n j (κ2 j)) (hj:j < n):hR n L κ κ2 n (κ2 j)=some (rM n L j):=
  pile_get (fun i hi hij=>okM.ne (hκ j hj) (hκ i hi) (by omega) (by omega) (Ne.symm hij)) hj
theorem rM_get {i j:Nat} (h:i < (L j).length):(rV tSn (mkL mSn j (L j).length++mkL mSn (j+n) 64))[i]? =some (.val (tSn (mSn j i))):=by
  rw [rV,List.getElem?_map,List.getElem?_append_left (by rw [mkL_len];exact h),mkL_get h];rfl
theorem hR_ls {j:Nat} (hn:n≤900) (hκ: ∀j,j < n→okM n j (κ2 j)) (hj:j < n): ∃xs,hR n L κ κ2 n (j+100)=some (rS xs)∧ ∀i,i < (L j).length→(rV tSn xs)[i]? =some (.val (tSn (mSn j i))):=by
  rcases hκ j hj with h | h
  · exact ⟨_,(congrArg (hR n L κ κ2 n) h.symm).trans (hR_at hn hκ hj),fun i hi=>rM_get hi⟩
  · refine ⟨mkL mSn j (L j).length,?_,fun i hi=>rS_get hi⟩
    rw [hR,xi0 fun i hi=>by
      by_cases hij:i=j
      · subst hij;omega
      · exact okM.ne (.inl rfl) (hκ i hi) (by omega) (by omega) (Ne.symm hij),hC,x5 _ _ _ (by omega),hP_get hj]
theorem rS_app {i:Nat} {j:Nat}:(⟨62,2,true,rV tSn (mkL mSn j i)++[mSn j i].map (fun y=>Ent.val (tSn y))⟩:HEnt)=rS (mkL mSn j (i+1)):=by
  rw [rS,←mkL_succ];simp [rV]
end
theorem c_flatSpans (n:Nat) (L:Nat→List Sn) (hn:n≤900) (hL: ∀j,(L j).length≤1000000):
    CtG Tryz.prog 99 ((20,⟨45,1,false,owns n 2 fun j=>(L j).length⟩)::poolL n fun j=>rS (L j)) [.own (.sl 20 1 0 n)] (.val (tB true)) [] []:=by
  refine CtG.intro (poolN n) Tryz.func99 rfl Tryz.ntmps99 rfl rfl (supHs_pool fun _ _=>rS_supp) ?_
  intro w F η
  refine A9 ?_
  refine A3 ?_
  refine C_loop (fun k:Nat=>k≤n) (fun k=>upd (upd (fun _=>none) 0 (some (.own (.sl 20 1 0 n)))) 3 (some (.val (tI k)))) (fun k=>hP n L (cM L mSn sn0 k 0)) (alP false (100+n)) (fun k=>n - k) 0 (Nat.zero_le _) (Sub.int rfl rfl (Sub.cons rfl Sub.nil)) (by show SubK (hP n L (cM L mSn sn0 0 0)) _;rw [show cM L mSn sn0 0 0=L from funext fun j=>cM_0];exact keysOf_pool) (SupG.val (SupG.own rfl SupG.nil)) (hP_sup (by omega)) (lkP (by omega)) ?_
  intro k hk
  refine A9 ?_
  refine x9 rfl (fun h1=> ?_) (fun h1=> ?_)
  ·
    have hk':k < n:=by omega
    refine A9 ?_
    refine C_block ?_
    refine C_loop (fun i:Nat=>i≤(L k).length) (fun i=>upd (upd (upd (fun _=>none) 0 (some (.own (.sl 20 1 0 n)))) 3 (some (.val (tI k)))) 4 (some (.val (tI i)))) (fun i=>hP n L (cM L mSn sn0 k i)) (alP false (100+n)) (fun i=>(L k).length - i) 0 (Nat.zero_le _) (Sub.int rfl rfl (Sub.cons rfl (Sub.cons rfl Sub.nil))) SubK.refl (SupG.val (SupG.val (SupG.own rfl SupG.nil))) (hP_sup (by omega)) (lkP (by omega)) ?_
    intro i hi
    have hLk:=hL k
    refine A6 ?_
    refine R2 (xa5 sl53 (by omega) (by omega) rfl) rfl rfl (RE (xb2 (k) ti45 (owns_get hk') (by omega)) ⟨rfl,trivial⟩ ⟨rfl,trivial⟩ trivial ?_)
    refine A3 ?_
    refine x9 rfl (fun h2=> ?_) (fun h2=> ?_)
    ·
      refine A7 ?_
      refine R2 (xa5 sl53 (by omega) (by omega) rfl) rfl rfl (RE (xb2 (k) ti45 (owns_get hk') (by omega)) ⟨rfl,trivial⟩ ⟨rfl,trivial⟩ trivial ?_)
      refine A3 ?_
      refine R2 (x3 (c_markSpan k i (by omega) (by omega)) fi162 rfl) rfl rfl (R2 (xa5 sl45 (by omega) (by omega) rfl) rfl rfl (RE (xc6 (e:= .val (tSn (mSn k i))) (i) ti62 (rV_lt (f:=tSn) (xs:=cM L mSn sn0 k i k) (by rw [cM_len];omega)) (by omega) (rV_set (f:=tSn) (m:=mSn k i) rfl)) ⟨rfl,rfl,trivial⟩ ⟨hP_get (L:=L) hk',trivial⟩ trivial ?_))
      refine A8 ?_
      exact K_fam (i+1) ⟨by omega,by omega⟩ (Sub.int rfl (by omega) (Sub.cons rfl (Sub.cons rfl Sub.nil))) (by rw [cM_set (by omega)];exact hP_upd fun j hj=>cM_oth hj) (SupG.val (SupG.val (SupG.own rfl SupG.nil))) (hP_sup (by omega)) (lkP (by omega))
    ·
      refine A7 ?_
      refine A4 ?_
      have hil:i=(L k).length:=by omega
      subst hil
      exact K_fam (k+1) ⟨by omega,by omega⟩ (Sub.int rfl (by omega) (Sub.cons rfl Sub.nil)) (hP_eq fun j _=>cM_next) (SupG.val (SupG.own rfl SupG.nil)) (hP_sup (by omega)) (lkP (by omega))
  ·
    have hkn:k=n:=by omega
    subst hkn
    refine A9 ?_
    refine RE (xg8 (k:=21) (t:=tL 2 true tSn ([]:List Sn)) (ts:=gsR k 2 (fun _=>0) (fun j=>(L j).length+64) tN0 0) k k Tryz.underlying53 el45 (fun _ _=>⟨none,0,rfl,Nat.le_refl _,by decide,.inl rfl⟩) rfl (by omega) (by omega) (Nat.le_refl _) (by omega) (by omega) gsR_rep) ⟨rfl,rfl,trivial⟩ trivial ⟨rfl,trivial⟩ ?_
    refine A9 ?_
    refine A1 ?_
    refine C_loopA (ι:=Nat×(Nat→Nat)) (fun x=>x.1≤k∧ ∀j,j < x.1→okN j (x.2 j)) (fun x=>upd (upd (upd (fun _=>none) 0 (some (.own (.sl 20 1 0 k)))) 5 (some (.own (.sl 21 1 0 k)))) 6 (some (.val (tI x.1)))) (fun x=>hQ k L x.2 x.1) (fun x=>alP true (2000+64*x.1)) (fun x=>k - x.1) (0,fun _=>0) ⟨Nat.zero_le _,fun j h=>by cases h⟩ (Sub.int rfl rfl (Sub.cons rfl (Sub.cons rfl Sub.nil))) SubK.refl (SupG.val (SupG.own rfl (SupG.own rfl SupG.nil))) (hQ_sup (fun j h=>by cases h) hn (Nat.zero_le _) (by omega)) (lkP (by omega)) ?_
    rintro ⟨q,κ⟩ ⟨hq,hκ⟩
    replace hq:q≤k:=hq
    replace hκ: ∀j,j < q→okN j (κ j):=hκ
    show wc _ _ _ _ (upd (upd (upd (fun _=>none) 0 (some (.own (.sl 20 1 0 k)))) 5 (some (.own (.sl 21 1 0 k)))) 6 (some (.val (tI q)))) (hQ k L κ q) (alP true (2000+64*q))
    refine A9 ?_
    refine x9 rfl (fun h3=> ?_) (fun h3=> ?_)
    ·
      have hq':q < k:=by omega
      have hLk:=hL q
      refine A8 ?_
      refine R2 (xa5 sl53 (by omega) (by omega) rfl) rfl rfl (RE (xb2 (q) ti45 (owns_get hq') (by omega)) ⟨rfl,trivial⟩ ⟨hQ_20 hκ,trivial⟩ trivial ?_)
      refine A9 ?_
      refine A1 ?_
      refine C_loopA (ι:=Nat×Nat) (fun x=>x.1≤64∧(x.2=q+100∨2000+64*q≤x.2∧x.2 < 2000+64*q+x.1)) (fun x=>upd (upd (upd (upd (upd (fun _=>none) 0 (some (.own (.sl 20 1 0 k)))) 5 (some (.own (.sl 21 1 0 k)))) 6 (some (.val (tI q)))) 7 (some (.own (.sl x.2 2 0 ((L q).length+x.1))))) 8 (some (.val (tI x.1)))) (fun x=>upd (hQ k L κ q) x.2 (some (rS (mkL mSn q ((L q).length+x.1))))) (fun x=>alP true (2000+64*q+x.1)) (fun x=>64 - x.1) (0,q+100) ⟨Nat.zero_le _,.inl rfl⟩ (Sub.int rfl rfl (Sub.cons rfl (Sub.cons rfl (Sub.cons rfl (Sub.cons rfl Sub.nil))))) (SubK.consI (hQ_own hn hκ hq') .refl SubK.refl) (SupG.val (SupG.own (by show (alP true (2000+64*q+0) (q+100) && true)=true;rw [alP_in (by omega) (by omega)];rfl) (SupG.val (SupG.own rfl (SupG.own rfl SupG.nil))))) (hI_sup hκ hn (by omega) (by omega) (by omega)) (lkP (by omega)) ?_
      rintro ⟨i,v⟩ ⟨hi,hv⟩
      replace hi:i≤64:=hi
      replace hv:v=q+100∨2000+64*q≤v∧v < 2000+64*q+i:=hv
      have h20:upd (hQ k L κ q) v (some (rS (mkL mSn q ((L q).length+i)))) 20=some ⟨45,1,false,owns k 2 fun j=>(L j).length⟩:=by
        rw [x5 _ _ _ (by omega)];exact hQ_20 hκ
      show wc _ _ _ _ (upd (upd (upd (upd (upd (fun _=>none) 0 (some (.own (.sl 20 1 0 k)))) 5 (some (.own (.sl 21 1 0 k)))) 6 (some (.val (tI q)))) 7 (some (.own (.sl v 2 0 ((L q).length+i))))) 8 (some (.val (tI i)))) (upd (hQ k L κ q) v (some (rS (mkL mSn q ((L q).length+i))))) (alP true (2000+64*q+i))
      refine A6 ?_
      refine x9 rfl (fun h4=> ?_) (fun h4=> ?_)
      ·
        have hi':i < 64:=by omega
        refine A3 ?_
        refine C_block ?_
        refine C_regY ?_
        refine wl_cut [_,_,_,_,_,_,_,_,_,_,_] ?_
        refine A4 ?_
        refine R2 (xa5 sl53 (by omega) (by omega) rfl) rfl rfl (RE (xb2 (q) ti45 (owns_get hq') (by omega)) ⟨rfl,trivial⟩ ⟨h20,trivial⟩ trivial ?_)
        refine A3 ?_
        refine R2 (x3 (c_markSpan q ((L q).length+i) (by omega) (by omega)) fi162 rfl) rfl rfl (R1 (xd6 (n:=1) (f:=tSn) [mSn q ((L q).length+i)] Tryz.underlying45 el62 zf62 rfl (fun _=>inferInstance) rfl rfl rfl) rfl (R_cut (by kernel_rfl) ?_))
        refine wl_app2 (k':=2000+64*q+i) (f:=tSn) (ys:=[mSn q ((L q).length+i)]) Tryz.underlying45 el62 zf62 rfl rfl (fun _=>inferInstance) rfl rfl (xa7 _ _ _) (alP_out (by omega)) (xf1.trans mkL_len) (by simp;omega) (by simp;omega) (by simp) rfl (fun b=> ?_)
        refine wl_op xb3 ⟨rfl,trivial⟩ trivial trivial rfl (wl_nil ?_)
        refine A7 ?_
        have hv':cond b v (2000+64*q+i)=v∨cond b v (2000+64*q+i)=2000+64*q+i:=by cases b;exact .inr rfl;exact .inl rfl
        generalize cond b v (2000+64*q+i)=v' at hv' ⊢
        exact fun _ _ hs=>K_famA (i+1,v') ⟨⟨by show i+1≤64;omega,by show v'=q+100∨2000+64*q≤v'∧v' < 2000+64*q+(i+1);omega⟩,by show 64 - (i+1) < 64 - i;omega⟩ (Sub.int rfl rfl (Sub.cons rfl (Sub.cons rfl (Sub.cons rfl (Sub.cons rfl Sub.nil))))) (by
          show SubK (upd (hQ k L κ q) v' (some (rS (mkL mSn q ((L q).length+i+1))))) _
          rw [←rS_app]
          exact SubK.over fun y hy=>by
            rcases hv with rfl | hv
            · rw [hQ_own hn hκ hq'] at hy;cases hy;exact ⟨rfl,rS_pre (by omega)⟩
            · rw [hQ_new hκ hn hv.1] at hy;cases hy) (SupG.val (SupG.own (by show (alP true (2000+64*q+(i+1)) v' && true)=true;rw [alP_in (by omega) (by omega)];rfl) (SupG.val (SupG.own rfl (SupG.own rfl SupG.nil))))) (hI_sup hκ hn (by omega) (by show 2000+64*q≤2000+64*q+(i+1);omega) (by show 100≤v'∧v' < 2000+64*q+(i+1);omega)) (lkP (by omega)) hs
      ·
        have hi64:i=64:=by omega
        subst hi64
        have h21:upd (hQ k L κ q) v (some (rS (mkL mSn q ((L q).length+64)))) 21=some ⟨45,1,false,gsR k 2 κ (fun j=>(L j).length+64) tN0 q⟩:=by
          rw [x5 _ _ _ (by omega)];exact hQ_21 hκ
        refine A9 ?_
        refine R2 (xa5 sl53 (by omega) (by omega) rfl) rfl rfl (RE (xc6 (e:= .own (.sl v 2 0 ((L q).length+64))) (q) ti45 (by rw [gsR_len];simpa using hq') (by omega) (gsR_set (len:=fun j=>(L j).length+64) (v:=v) hq')) ⟨rfl,rfl,trivial⟩ ⟨h21,trivial⟩ trivial ?_)
        refine A8 ?_
        exact fun _ _ hs=>K_famA (q+1,setN κ q v) ⟨⟨by show q+1≤k;omega,okN_set hκ hv⟩,by show k - (q+1) < k - q;omega⟩ (Sub.int rfl rfl (Sub.cons rfl (Sub.cons rfl Sub.nil))) (by exact hQ_next hκ (by omega)) (SupG.val (SupG.own rfl (SupG.own rfl SupG.nil))) (by exact hQ_sup (okN_set hκ hv) hn (by omega) (by omega)) (lkP (by omega)) hs
    ·
      have hqk:q=k:=by omega
      subst hqk
      refine A9 ?_
      refine A3 ?_
      refine C_loop (fun j:Nat=>j≤q) (fun j=>upd (upd (upd (fun _=>none) 0 (some (.own (.sl 20 1 0 q)))) 5 (some (.own (.sl 21 1 0 q)))) 9 (some (.val (tI j)))) (fun _=>hQ q L κ q) (alP true (2000+64*q)) (fun j=>q - j) 0 (Nat.zero_le _) (Sub.int rfl rfl (Sub.cons rfl (Sub.cons rfl Sub.nil))) SubK.refl (SupG.val (SupG.own rfl (SupG.own rfl SupG.nil))) (hQ_sup hκ hn (by omega) (by omega)) (lkP (by omega)) ?_
      intro j hj
      refine A9 ?_
      refine x9 rfl (fun h5=> ?_) (fun h5=> ?_)
      ·
        have hj':j < q:=by omega
        have hLj:=hL j
        refine A9 ?_
        refine C_block ?_
        refine C_loop (fun i:Nat=>i≤(L j).length+64) (fun i=>upd (upd (upd (upd (fun _=>none) 0 (some (.own (.sl 20 1 0 q)))) 5 (some (.own (.sl 21 1 0 q)))) 9 (some (.val (tI j)))) 10 (some (.val (tI i)))) (fun _=>hQ q L κ q) (alP true (2000+64*q)) (fun i=>(L j).length+64 - i) 0 (Nat.zero_le _) (Sub.int rfl rfl (Sub.cons rfl (Sub.cons rfl (Sub.cons rfl Sub.nil)))) SubK.refl (SupG.val (SupG.val (SupG.own rfl (SupG.own rfl SupG.nil)))) (hQ_sup hκ hn (by omega) (by omega)) (lkP (by omega)) ?_
        intro i hi
        obtain ⟨m,hm,hls⟩:=hQ_ls (L:=L) hn (Nat.le_refl q) hκ hj'
        refine A6 ?_
        refine R2 (xa5 sl53 (by omega) (by omega) rfl) rfl rfl (RE (xb2 (j) ti45 (gsR_get hj' hj') (by omega)) ⟨rfl,trivial⟩ ⟨hQ_21 hκ,trivial⟩ trivial ?_)
        refine A3 ?_
        refine x9 rfl (fun h6=> ?_) (fun h6=> ?_)
        ·
          refine A8 ?_
          refine R2 (xa5 sl53 (by omega) (by omega) rfl) rfl rfl (RE (xb2 (j) ti45 (gsR_get hj' hj') (by omega)) ⟨rfl,trivial⟩ ⟨hQ_21 hκ,trivial⟩ trivial ?_)
          refine A1 ?_
          refine R2 (xa5 sl45 (by omega) (by omega) rfl) rfl rfl (RE (xb2 (i) ti62 (rS_get (by omega)) (by omega)) ⟨rfl,trivial⟩ ⟨hQ_at hn (Nat.le_refl q) hκ hj',trivial⟩ trivial ?_)
          refine A2 ?_
          refine R2 (x3 (c_markSpan j i (by omega) (by omega)) fi162 rfl) rfl rfl (R2 (d_eqlSn eq_Sn (decide_eq_true rfl)) rfl rfl ?_)
          refine A5 ?_
          refine RGon rfl rfl (xa5 sl53 (by omega) (by omega) rfl) rfl ⟨rfl,rfl,trivial⟩ trivial trivial (RGon rfl rfl (xb2 (j) ti45 (owns_get hj') (by omega)) rfl ⟨rfl,trivial⟩ ⟨hQ_20 hκ,trivial⟩ trivial (RGon rfl rfl b_lenO rfl ⟨rfl,trivial⟩ trivial trivial ?_))
          refine A2 ?_
          refine RGcaseD (t:=108) rfl (fun h7=> ?_) (fun h7=> ?_)
          ·
            refine A2 ?_
            refine RGon (decide_eq_true h7) rfl (xa5 sl53 (by omega) (by omega) rfl) rfl ⟨rfl,rfl,trivial⟩ trivial trivial (RGon (decide_eq_true h7) rfl (xb2 (j) ti45 (owns_get hj') (by omega)) rfl ⟨rfl,trivial⟩ ⟨hQ_20 hκ,trivial⟩ trivial ?_)
            refine A1 ?_
            refine RGon (decide_eq_true h7) rfl (xa5 sl45 (by omega) (by omega) rfl) rfl ⟨rfl,rfl,trivial⟩ trivial trivial (RGon (decide_eq_true h7) rfl (xb2 (i) ti62 (rS_get (by omega)) (by omega)) rfl ⟨rfl,trivial⟩ ⟨hls,trivial⟩ trivial ?_)
            refine A2 ?_
            refine RGon (decide_eq_true h7) rfl (x3 (c_markSpan j i (by omega) (by omega)) fi162 rfl) rfl ⟨rfl,rfl,trivial⟩ trivial trivial (RGon (decide_eq_true h7) rfl (d_eqlSn eq_Sn (decide_eq_true rfl)) rfl ⟨rfl,rfl,trivial⟩ trivial trivial ?_)
            refine A1 ?_
            refine RGon rfl rfl (xg7 (decide_eq_true h7)) rfl ⟨rfl,rfl,trivial⟩ trivial trivial (R2 (xg3 rfl) rfl rfl ?_)
            refine A1 ?_
            refine xa8 rfl rfl ?_
            refine A8 ?_
            exact K_fam (i+1) ⟨by omega,by omega⟩ (Sub.int rfl (by omega) (Sub.cons rfl (Sub.cons rfl (Sub.cons rfl Sub.nil)))) SubK.refl (SupG.val (SupG.val (SupG.own rfl (SupG.own rfl SupG.nil)))) (hQ_sup hκ hn (by omega) (by omega)) (lkP (by omega))
          ·
            refine RGoff (decide_eq_false h7) rfl rfl (RGoff (decide_eq_false h7) rfl rfl (RGoff (decide_eq_false h7) rfl rfl (RGoff (decide_eq_false h7) rfl rfl (RGoff (decide_eq_false h7) rfl rfl (RGoff (decide_eq_false h7) rfl rfl (RGoff (decide_eq_false h7) rfl rfl (RGoff (decide_eq_false h7) rfl rfl ?_)))))))
            refine RGoff (decide_eq_false h7) rfl rfl (RGoff (decide_eq_false h7) rfl rfl (RGoff (decide_eq_false h7) rfl rfl (RGoff (decide_eq_false h7) rfl rfl (RGon rfl rfl (xg3 (decide_eq_false h7)) rfl ⟨rfl,rfl,trivial⟩ trivial trivial (R2 (xg3 rfl) rfl rfl ?_)))))
            refine A1 ?_
            refine xa8 rfl rfl ?_
            refine A8 ?_
            exact K_fam (i+1) ⟨by omega,by omega⟩ (Sub.int rfl (by omega) (Sub.cons rfl (Sub.cons rfl (Sub.cons rfl Sub.nil)))) SubK.refl (SupG.val (SupG.val (SupG.own rfl (SupG.own rfl SupG.nil)))) (hQ_sup hκ hn (by omega) (by omega)) (lkP (by omega))
        ·
          refine A7 ?_
          refine A4 ?_
          exact K_fam (j+1) ⟨by omega,by omega⟩ (Sub.int rfl (by omega) (Sub.cons rfl (Sub.cons rfl Sub.nil))) SubK.refl (SupG.val (SupG.own rfl (SupG.own rfl SupG.nil))) (hQ_sup hκ hn (by omega) (by omega)) (lkP (by omega))
      ·
        clear h5 hj
        refine A9 ?_
        refine A3 ?_
        refine C_loopA (ι:=Nat×(Nat→Nat)) (fun x=>x.1≤q∧ ∀j,j < x.1→okM q j (x.2 j)) (fun x=>upd (upd (upd (fun _=>none) 0 (some (.own (.sl 20 1 0 q)))) 5 (some (.own (.sl 21 1 0 q)))) 11 (some (.val (tI x.1)))) (fun x=>hR q L κ x.2 x.1) (fun x=>alP true (2000+64*q+x.1)) (fun x=>q - x.1) (0,fun _=>0) ⟨Nat.zero_le _,fun j h=>by cases h⟩ (Sub.int rfl rfl (Sub.cons rfl (Sub.cons rfl Sub.nil))) (hR_0 hn hκ) (SupG.val (SupG.own rfl (SupG.own rfl SupG.nil))) (hR_sup hκ (fun j h=>by cases h) hn (Nat.zero_le _) (by omega)) (lkP (by omega)) ?_
        rintro ⟨j,κ2⟩ ⟨hj,hκ2⟩
        replace hj:j≤q:=hj
        replace hκ2: ∀i,i < j→okM q i (κ2 i):=hκ2
        show wc _ _ _ _ (upd (upd (upd (fun _=>none) 0 (some (.own (.sl 20 1 0 q)))) 5 (some (.own (.sl 21 1 0 q)))) 11 (some (.val (tI j)))) (hR q L κ κ2 j) (alP true (2000+64*q+j))
        refine A9 ?_
        refine x9 rfl (fun h5=> ?_) (fun h5=> ?_)
        ·
          have hj':j < q:=by omega
          have hLj:=hL j
          refine A6 ?_
          refine RE (xg8 (k:=22) (t:=tSn sn0) (ts:=rV tSn (fS (j+q) 0)) 64 64 Tryz.underlying45 el62 (fun F w=>tSn_mk) rfl rfl rfl (Nat.le_refl _) (by decide) (by decide) fS_0) ⟨rfl,rfl,trivial⟩ trivial ⟨alM_no,trivial⟩ ?_
          refine A9 ?_
          refine A1 ?_
          refine C_loop (fun i:Nat=>i≤64) (fun i=>upd (upd (upd (upd (upd (fun _=>none) 0 (some (.own (.sl 20 1 0 q)))) 5 (some (.own (.sl 21 1 0 q)))) 11 (some (.val (tI j)))) 12 (some (.own (.sl 22 2 0 64)))) 13 (some (.val (tI i)))) (fun i=>upd (hR q L κ κ2 j) 22 (some (rS (fS (j+q) i)))) (alM (2000+64*q+j)) (fun i=>64 - i) 0 (Nat.zero_le _) (Sub.int rfl rfl (Sub.cons rfl (Sub.cons rfl (Sub.cons rfl (Sub.cons rfl Sub.nil))))) SubK.refl (SupG.val (SupG.own rfl (SupG.val (SupG.own rfl (SupG.own rfl SupG.nil))))) (alM_sup (hR_sup hκ hκ2 hn (by omega) (by omega))) (alM_lk (lkP (by omega))) ?_
          intro i hi
          refine A6 ?_
          refine x9 rfl (fun h6=> ?_) (fun h6=> ?_)
          ·
            refine A9 ?_
            refine A3 ?_
            refine R2 (x3 (c_markSpan (j+q) i (by omega) (by omega)) fi162 rfl) rfl rfl (R2 (xa5 sl45 (by omega) (by omega) rfl) rfl rfl (RE (xc6 (e:= .val (tSn (mSn (j+q) i))) (i) ti62 (rV_lt (f:=tSn) (xs:=fS (j+q) i) (by rw [fS_len];omega)) (by omega) (rV_set (f:=tSn) (m:=mSn (j+q) i) rfl)) ⟨rfl,rfl,trivial⟩ ⟨xa7 _ _ _,trivial⟩ trivial ?_))
            refine A8 ?_
            exact K_fam (i+1) ⟨by omega,by omega⟩ (Sub.int rfl (by omega) (Sub.cons rfl (Sub.cons rfl (Sub.cons rfl (Sub.cons rfl Sub.nil))))) (by rw [←fS_set (by omega)];exact SubK.twice) (SupG.val (SupG.own rfl (SupG.val (SupG.own rfl (SupG.own rfl SupG.nil))))) (alM_sup (hR_sup hκ hκ2 hn (by omega) (by omega))) (alM_lk (lkP (by omega)))
          ·
            have hi64:i=64:=by omega
            subst hi64
            refine A5 ?_
            have hown: ∀r,upd (upd (hR q L κ κ2 j) 22 r) 22 none (j+100)=some (rS (mkL mSn j (L j).length)):=fun r=>by
              rw [x5 _ _ _ (by omega),x5 _ _ _ (by omega)];exact hR_own hn hκ2 hj'
            have hgs: ∀r v r',100≤v→upd (upd (upd (hR q L κ κ2 j) 22 r) 22 none) v r' 21=some ⟨45,1,false,gsR q 2 κ2 (fun j=>(L j).length+64) (tK L κ) j⟩:=fun r v r' hv=>by
              rw [x5 _ _ _ (by omega),x5 _ _ _ (by omega),x5 _ _ _ (by omega)];exact hR_21 hκ2
            refine C_giveL (t:=12) (k:=22) (f:=tSn) (xs:=fS (j+q) 64) rfl (xa7 _ _ _) (fun b hb=>hR_lent hκ2 hj hb) (rV_all fS_len) fS_len ?_
            refine C_regY ?_
            refine wl_cut [_,_,_,_,_,_,_] ?_
            refine A4 ?_
            refine R2 (xa5 sl53 (by omega) (by omega) rfl) rfl rfl (RE (xb2 (j) ti45 (owns_get hj') (by omega)) ⟨rfl,trivial⟩ ⟨(x5 _ _ _ (by omega)).trans ((x5 _ _ _ (by omega)).trans (hR_20 hκ2)),trivial⟩ trivial ?_)
            refine A1 ?_
            refine R_cut (by kernel_rfl) ?_
            refine wl_app2 (k':=2000+64*q+j) (f:=tSn) (ys:=fS (j+q) 64) Tryz.underlying45 el62 zf62 rfl rfl (fun _=>inferInstance) rfl rfl (hown _) (alM_out (by omega)) (xf1.trans mkL_len) (by rw [fS_len];omega) (by rw [fS_len];omega) (by rw [fS_len];omega) rfl (fun b=> ?_)
            have hv':okM q j (cond b (j+100) (2000+64*q+j)):=by cases b;exact .inr rfl;exact .inl rfl
            generalize cond b (j+100) (2000+64*q+j)=v' at hv' ⊢
            rw [fS_len]
            have hvb:100≤v'∧v'≤2000+64*q+j:=by rcases hv' with h | h <;> omega
            refine wl_op (xa5 sl53 (by omega) (by omega) rfl) ⟨rfl,rfl,trivial⟩ trivial trivial rfl (wl_op (xc6 (e:= .own (.sl v' 2 0 ((L j).length+64))) (j) ti45 (by rw [gsR_len];simpa using hj') (by omega) (gsR_set (len:=fun j=>(L j).length+64) (v:=v') hj')) ⟨rfl,rfl,trivial⟩ ⟨hgs _ _ _ hvb.1,trivial⟩ trivial rfl (wl_nil ?_))
            refine A7 ?_
            exact fun _ _ hs=>K_famA (j+1,setN κ2 j v') ⟨⟨by show j+1≤q;omega,okM_set hκ2 hv'⟩,by show q - (j+1) < q - j;omega⟩ (Sub.int rfl rfl (Sub.cons rfl (Sub.cons rfl Sub.nil))) (by exact hR_next hκ2 hvb.1) (SupG.val (SupG.own rfl (SupG.own rfl SupG.nil))) (by exact hR_sup hκ (okM_set hκ2 hv') hn (by omega) (by omega)) (lkP (by omega)) hs
        ·
          have hjq:j=q:=by omega
          subst hjq
          clear h5 hj
          refine A9 ?_
          refine A3 ?_
          refine C_loop (fun t:Nat=>t≤j) (fun t=>upd (upd (upd (fun _=>none) 0 (some (.own (.sl 20 1 0 j)))) 5 (some (.own (.sl 21 1 0 j)))) 14 (some (.val (tI t)))) (fun _=>hR j L κ κ2 j) (alP true (2000+64*j+j)) (fun t=>j - t) 0 (Nat.zero_le _) (Sub.int rfl rfl (Sub.cons rfl (Sub.cons rfl Sub.nil))) SubK.refl (SupG.val (SupG.own rfl (SupG.own rfl SupG.nil))) (hR_sup hκ hκ2 hn (by omega) (by omega)) (lkP (by omega)) ?_
          intro t ht
          refine A9 ?_
          refine x9 rfl (fun h5=> ?_) (fun h5=> ?_)
          ·
            have ht':t < j:=by omega
            have hLt:=hL t
            obtain ⟨xs,hls,hxs⟩:=hR_ls (L:=L) (κ:=κ) hn hκ2 ht'
            refine A9 ?_
            refine C_block ?_
            refine C_loop (fun i:Nat=>i≤(L t).length) (fun i=>upd (upd (upd (upd (fun _=>none) 0 (some (.own (.sl 20 1 0 j)))) 5 (some (.own (.sl 21 1 0 j)))) 14 (some (.val (tI t)))) 15 (some (.val (tI i)))) (fun _=>hR j L κ κ2 j) (alP true (2000+64*j+j)) (fun i=>(L t).length - i) 0 (Nat.zero_le _) (Sub.int rfl rfl (Sub.cons rfl (Sub.cons rfl (Sub.cons rfl Sub.nil)))) SubK.refl (SupG.val (SupG.val (SupG.own rfl (SupG.own rfl SupG.nil)))) (hR_sup hκ hκ2 hn (by omega) (by omega)) (lkP (by omega)) ?_
            intro i hi
            refine A6 ?_
            refine R2 (xa5 sl53 (by omega) (by omega) rfl) rfl rfl (RE (xb2 (t) ti45 (owns_get ht') (by omega)) ⟨rfl,trivial⟩ ⟨hR_20 hκ2,trivial⟩ trivial ?_)
            refine A3 ?_
            refine x9 rfl (fun h6=> ?_) (fun h6=> ?_)
            ·
              have hi':i < (L t).length:=by omega
              refine A8 ?_
              refine R2 (xa5 sl53 (by omega) (by omega) rfl) rfl rfl (RE (xb2 (t) ti45 (owns_get ht') (by omega)) ⟨rfl,trivial⟩ ⟨hR_20 hκ2,trivial⟩ trivial ?_)
              refine A1 ?_
              refine R2 (xa5 sl45 (by omega) (by omega) rfl) rfl rfl (RE (xb2 (i) ti62 (hxs i hi') (by omega)) ⟨rfl,trivial⟩ ⟨hls,trivial⟩ trivial ?_)
              refine A2 ?_
              refine R2 (x3 (c_markSpan t i (by omega) (by omega)) fi162 rfl) rfl rfl (R2 (d_eqlSn eq_Sn (decide_eq_true rfl)) rfl rfl ?_)
              refine A4 ?_
              refine RGon rfl rfl (xa5 sl53 (by omega) (by omega) rfl) rfl ⟨rfl,rfl,trivial⟩ trivial trivial (RGon rfl rfl (xb2 (t) ti45 (gsR_get ht' ht') (by omega)) rfl ⟨rfl,trivial⟩ ⟨hR_21 hκ2,trivial⟩ trivial ?_)
              refine A1 ?_
              refine RGon rfl rfl (xa5 sl45 (by omega) (by omega) rfl) rfl ⟨rfl,rfl,trivial⟩ trivial trivial (RGon rfl rfl (xb2 (i) ti62 (rM_get hi') (by omega)) rfl ⟨rfl,trivial⟩ ⟨hR_at hn hκ2 ht',trivial⟩ trivial ?_)
              refine A2 ?_
              refine RGon rfl rfl (x3 (c_markSpan t i (by omega) (by omega)) fi162 rfl) rfl ⟨rfl,rfl,trivial⟩ trivial trivial (RGon rfl rfl (d_eqlSn eq_Sn (decide_eq_true rfl)) rfl ⟨rfl,rfl,trivial⟩ trivial trivial ?_)
              refine A1 ?_
              refine R2 (xg3 rfl) rfl rfl ?_
              refine A1 ?_
              refine xa8 rfl rfl ?_
              refine A8 ?_
              exact K_fam (i+1) ⟨by omega,by omega⟩ (Sub.int rfl (by omega) (Sub.cons rfl (Sub.cons rfl (Sub.cons rfl Sub.nil)))) SubK.refl (SupG.val (SupG.val (SupG.own rfl (SupG.own rfl SupG.nil)))) (hR_sup hκ hκ2 hn (by omega) (by omega)) (lkP (by omega))
            ·
              refine A7 ?_
              refine A4 ?_
              exact K_fam (t+1) ⟨by omega,by omega⟩ (Sub.int rfl (by omega) (Sub.cons rfl (Sub.cons rfl Sub.nil))) SubK.refl (SupG.val (SupG.own rfl (SupG.own rfl SupG.nil))) (hR_sup hκ hκ2 hn (by omega) (by omega)) (lkP (by omega))
          ·
            refine A9 ?_
            refine A2 ?_
            exact xe3 LentC.mk' rfl rfl Imp.refl trivial rfl trivial rfl
def sel3 {α:Type} (a b c:α):Nat→α
  | 0=>a
  | 1=>b
  | _=>c
theorem c_flatSpans3 (a b c:List Sn) (ha:a.length≤1000000) (hb:b.length≤1000000) (hc:c.length≤1000000):
    CtG Tryz.prog 99 [(20,⟨45,1,false,[.own (.sl 100 2 0 a.length),.own (.sl 101 2 0 b.length),.own (.sl 102 2 0 c.length)]⟩),(100,rS a),(101,rS b),(102,rS c)] [.own (.sl 20 1 0 3)] (.val (tB true)) [] []:=
  c_flatSpans 3 (sel3 a b c) (by decide) fun j=>match j with
    | 0=>ha
    | 1=>hb
    | _+2=>hc
end An.S

/- append of one element of one's own to a slice of one's own. For any program. -/
namespace An
open Go
section
variable {P:Program} {c:Base} {d ty:Nat} {pos:String} {af:Array Edge} {gd:Option (Nat×Bool)}
theorem d_appendOO {T E by_ k k2 k' n:Nat} {z:Value} {x y:Operand} {ts ts':List Ent} {e:Ent} {T0 T2:Nat} [he:ShapeE e 1 false] (sl:P.underlying T=some (.slice E)) (el:ElI P E 1 by_ false z) (hz:Flat 1 false z) (hT:T0=E)
    (hne:Nat.beq k k2=false) (hn:ts.length=n) (hb:(n+1)*by_≤140737488355328) (h63:n+1≤9223372036854775807) (hts:ts++[e]=ts'):
    Does P c ⟨some d,.call {callee:= .builtin .append,args:= #[x,y],argTypes:= #[T,T]},ty,pos,af,gd⟩ ⟨[(x,.own (.sl k 1 0 n)),(y,.own (.sl k2 1 0 1))],[(k,⟨T0,1,false,ts⟩),(k2,⟨T2,1,false,[e]⟩)],some (d,some (.own (.sl k' 1 0 (n+1)))),[(k,none),(k',some ⟨T0,1,false,ts'⟩)],[k']⟩:=by
  intro g h al a w hp ⟨η,s⟩
  subst hts hT hn
  obtain ⟨hx,hxs⟩:=xa3 s hp.rd.1
  obtain ⟨A,hA,hcap,hadr⟩:=hx
  simp only [Nat.sub_zero,Nat.zero_add,Nat.zero_mul] at hA hcap hadr
  obtain ⟨hy,hys⟩:=xa3 s hp.rd.2.1
  obtain ⟨A2,hA2,hcap2,hadr2⟩:=hy
  simp only [Nat.sub_zero,Nat.zero_add,Nat.zero_mul] at hA2 hcap2 hadr2
  have hA:a.eval x= .slice A ts.length (η.c k):=hA
  have hy:a.eval y= .slice A2 1 (η.c k2):=hA2
  obtain ⟨i,hi,hsz,hby,hz'⟩:=el.parts
  obtain ⟨k1,k2',⟨k3,k4,k5,k6,k7⟩,k8⟩:=s.key k _ hp.kr.1
  obtain ⟨j1,j2,⟨j3,j4,j5,j6,j7⟩,j8⟩:=s.key k2 _ hp.kr.2.1
  simp only at k3 k4 k5 k6 k7 j3 j4 j5 j6 j7
  obtain ⟨cs2,n1,n2,n3⟩:=j7 (by omega)
  have hev:=n3 0 e rfl
  have hone1:one (cs2.getD 0 undef)=true:=by
    have:=he.flat hev
    have h2:=(this.2.2.2 rfl).1
    simpa [pick] using h2
  have hcs2:0 < cs2.size:=by rw [n2];omega
  have hns:(cs2.extract 0 (0+1*1)).size=1*1:=by simp;omega
  have hsrc: ∀w':World,w'.heap=w.heap→(Builtin.firstCells 1 1 (.slice A2 1 (η.c k2))).run P w'= .ok (cs2.extract 0 (0+1*1)) w':=fun w' hw'=>by
    rw [hadr2 (by omega)]
    exact run_firstSome (by rw [hw'];exact n1) (by omega)
  have hone: ∀v∈(cs2.extract 0 (0+1*1)).toList,one v=true:=fun v hv=>by
    obtain ⟨j,hj⟩:=List.getElem?_of_mem hv
    rw [Array.getElem?_toList,Array.getElem?_extract] at hj
    split at hj
    · have hj0:j=0:=by omega
      subst hj0
      rw [Nat.zero_add] at hj
      simpa [Array.getD_eq_getD_getElem?,hj] using hone1
    · cases hj
  have hnp:pick false 1 (cs2.extract 0 (0+1*1)) 0=pick false 1 cs2 0:=by
    simp [pick,Array.getD_eq_getD_getElem?,Array.getElem?_extract,hcs2]
    rw [if_pos (by omega)];rfl
  have hexec: ∀v w',(Builtin.append_ #[T,T] ty #[.slice A ts.length (η.c k),.slice A2 1 (η.c k2)]).run P w= .ok v w'→
      (execOp a.eval ⟨some d,.call {callee:= .builtin .append,args:= #[x,y],argTypes:= #[T,T]},ty,pos,af,gd⟩).run P w= .ok (.value v) w':=fun v w' hr=>by
    simp only [execOp,resolve,invoke,builtin,List.map_toArray,List.map_cons,List.map_nil,hA,hy,Sem.run_bind,Sem.run_pure,Result.andThen_ok,hr]
  have hsupp: ∀j∈HEnt.supp ⟨T0,1,false,ts++[e]⟩,al j=true:=fun j hj=>by
    simp only [HEnt.supp,List.flatMap_append,List.mem_append] at hj
    rcases hj with hj | hj
    · exact k2' j hj
    · exact j2 j hj
  have hlk: ∀(i:Nat) (e':Ent),(ts++[e])[i]? =some e'→(ts[i]? =some e'∧i < ts.length)∨(i=ts.length∧e'=e):=fun i e' he'=>by
    rcases Nat.lt_or_ge i ts.length with hlt | hge
    · rw [List.getElem?_append_left hlt] at he';exact .inl ⟨he',hlt⟩
    · rw [List.getElem?_append_right hge] at he'
      have:=(List.getElem?_eq_some_iff.1 he').1
      simp at this
      have h0:i - ts.length=0:=by omega
      rw [h0] at he'
      cases he';exact .inr ⟨by omega,rfl⟩
  have hcs: ∃cs:Array Value,(0 < η.c k→A=some ⟨η.b k,0,none⟩∧w.heap[η.b k]? =some (.cells cs T0 (0,0))∧cs.size=η.c k*1)∧(0 < η.c k→ ∀(i:Nat) (e:Ent),ts[i]? =some e→e.sat (c.dom h η) w η (pick false 1 cs (i*1))):=by
    rcases Nat.eq_zero_or_pos (η.c k) with hc | hc
    · exact ⟨#[],fun h=>by omega,fun h=>by omega⟩
    · obtain ⟨cs,m1,m2,m3⟩:=k7 hc
      exact ⟨cs,fun _=>⟨hadr hc,m1,m2⟩,fun _=>m3⟩
  obtain ⟨cs,hrow,m3⟩:=hcs
  rcases run_appendG (P:=P) (ty:=ty) (A:=A) (n:=ts.length) (cap:=η.c k) (A2:=A2) (c2:=η.c k2) (w:=w) (b:=η.b k) sl hi hsz hby hz' hz.1 (by decide) k3 cs hrow (cs2.extract 0 (0+1*1)) hns hsrc hone h63 hb with ⟨hfit,w',hr,hw,_⟩ | ⟨hgt,w',cap',rest',hr,hle,hmax,hrest,hheap,hos,htape,hout,hold⟩
  · have hc:0 < η.c k:=by omega
    obtain ⟨hAv,m1,m2⟩:=hrow hc
    obtain ⟨q1,q2,q3,q4,q5,q6⟩:=hw hc
    refine xe8 (hexec _ _ hr) ?_
    have hnl:(cs2.extract 0 (0+1*1)).toList.length=1:=by simpa using hns
    have s1:=s.write (w':=w') k hp.kr.1 ⟨T0,1,false,ts++[e]⟩ (putAt cs (ts.length*1) (cs2.extract 0 (0+1*1)).toList) (by rw [xe1];exact m2) (by simpa using hfit) Nat.one_pos (fun _=>rfl) hsupp
      (fun j e' hj=>by
        rcases hlk j e' hj with ⟨he',hjl⟩ | ⟨hjt,he'⟩
        · simp only []
          rw [xg6 (by omega) (fun _=>rfl) (.inl (by omega))]
          exact m3 hc j e' he'
        · subst hjt he'
          have hpk:pick false 1 (putAt cs (ts.length*1) (cs2.extract 0 (0+1*1)).toList) (ts.length*1)=pick false 1 cs2 0:=by
            rw [←hnp]
            simp only [pick,cond_false]
            rw [Array.getD_eq_getD_getElem?,Array.getD_eq_getD_getElem?,xh8 _ _ _ _ (by omega),if_pos (by omega),Array.getElem?_toList,Nat.sub_self]
          simp only []
          rw [hpk]
          exact hev)
      hc q1 q2 q3 q4 q5 q6 rfl
    have s2:=s1.rename (xa7 _ _ _) hp.nk.1
    have hcomm:upd (upd (upd h k (some ⟨T0,1,false,ts++[e]⟩)) k none) k' (some ⟨T0,1,false,ts++[e]⟩)=upd (upd h k none) k' (some ⟨T0,1,false,ts++[e]⟩):=by
      funext j
      by_cases hj:j=k'
      · subst hj;simp [xa7]
      · rw [x5 _ _ _ hj,x5 _ _ _ hj]
        by_cases hj2:j=k
        · subst hj2;simp [xa7]
        · rw [x5 _ _ _ hj2,x5 _ _ _ hj2,x5 _ _ _ hj2]
    rw [hcomm] at s2
    refine ⟨_,s2.put (hp.d _ rfl) (e:= .own (.sl k' 1 0 (ts.length+1))) ⟨A,?_,?_,?_⟩ ?_⟩
    · simp [Env.set_c]
    · simpa [Env.set_c] using hfit
    · intro _;rw [hAv];simp [Env.set_b]
    · intro j hj
      simp only [Ent.supp,VP.supp,List.mem_singleton] at hj
      subst hj;simp
  · refine xe8 (hexec _ _ hr) ?_
    have hext:Ext w w':=⟨hos,htape,hout,by rw [hheap];simp,fun b hb=>by rw [hheap,Array.getElem?_push,if_neg (by omega)]⟩
    have hpos': ∀(j:Nat) (e:Ent),ts[j]? =some e→0 < η.c k:=fun j e he=>by
      have:=(List.getElem?_eq_some_iff.1 he).1;omega
    have hdk:Keep (c.dom h η) (c.dom (upd h k none) η) w w:=Keep.drop k
    have s2:=(s.drop k).new' k' hp.nk.1 ⟨T0,1,false,ts++[e]⟩ cap' w.heap.size (by simpa using hle) Nat.one_pos (fun _=>rfl) hmax hsupp hext (fun _=>⟨Nat.le_refl _,cs.extract 0 (ts.length*1)++cs2.extract 0 (0+1*1)++rest',by rw [hheap];simp,by
        simp only [Array.size_append,hns,hrest,hold];omega,fun j e' hj=>by
        rcases hlk j e' hj with ⟨he',hjl⟩ | ⟨hjt,he'⟩
        · simp only []
          rw [Array.append_assoc,xh1 (by rw [hold];omega) (fun _=>rfl),pick_extract0 (by omega) (by simp at hold;omega) (fun _=>rfl)]
          exact Ent.sat_go (m3 (hpos' j e' he') j e' he') hdk fun _ _=>⟨rfl,rfl⟩
        · subst hjt he'
          have e2: ∀(A0 B0 C0:Array Value),A0.size=ts.length*1→B0.size=1→pick false 1 (A0++(B0++C0)) (ts.length*1)=pick false 1 B0 0:=fun A0 B0 C0 h1 h2=>by
            rw [←h1,show A0.size=A0.size+0 from rfl,pick_append_right (by simp only [Array.size_append];omega) (fun _=>rfl),xh1 (by omega) (fun _=>rfl)]
          simp only []
          rw [Array.append_assoc,e2 _ _ _ hold hns,hnp]
          exact Ent.sat_go hev hdk fun _ _=>⟨rfl,rfl⟩⟩)
    refine ⟨_,s2.put (hp.d _ rfl) (e:= .own (.sl k' 1 0 (ts.length+1))) ⟨some ⟨w.heap.size,0,none⟩,?_,?_,?_⟩ ?_⟩
    · simp [Env.set_c]
    · simpa [Env.set_c] using hle
    · intro _;simp [Env.set_b]
    · intro j hj
      simp only [Ent.supp,VP.supp,List.mem_singleton] at hj
      subst hj;simp
end
end An

/- Rounds of a loop told apart; contracts that are lent memory, for arguments that are known better. For any program. -/
namespace An
open Go
/-- The k-th of these; behind them the other. -/
def selS {α:Type}:List α→α→Nat→α
  | [],z,_=>z
  | x::_,_,0=>x
  | _::r,z,k+1=>selS r z k
theorem CtG.le1 {P:Program} {f:FuncId} {H H':List (Nat×HEnt)} {t u:Ty} {ps:List Ent} {re:Ent} {nn:List Nat} (hu:Le u t) (h:CtG P f H (.val t::ps) re H' nn):CtG P f H (.val u::ps) re H' nn:=
  fun F w η vs hs hK hI hF=>match vs,hs with
    | [],hs=>hs.elim
    | v::r,hs=>h F w η (v::r) ⟨hu _ _ _ hs.1,hs.2⟩ hK hI hF
section
variable {P:Program} {c:Base} {d ty:Nat} {pos:String} {af:Array Edge} {gd:Option (Nat×Bool)}
/-- A new variable that holds a struct of known cells, as a row of its cells. -/
theorem d_boxC {T n k:Nat} {x:Operand} {cs:Array Value} (zs:List Value) (hc:cs.toList=zs) (hn:zs.length=n) (h63:Nat.ble n 9223372036854775807=true) {ts:List Ent} (hts:zs.map (fun v=>Ent.val (tE v))=ts):
    Does P c ⟨some d,.box T x,ty,pos,af,gd⟩ ⟨[(x,.val (tE (.agg cs)))],[],some (d,some (.own (.ptr k 0))),[(k,some ⟨T,1,false,ts⟩)],[k]⟩:=by
  intro g h al a w hp ⟨η,s⟩
  subst hts hc
  have hx:a.eval x= .agg cs:=(xa3 s hp.rd.1).1
  have hnew:=s.new k hp.nk.1 ⟨T,1,false,cs.toList.map (fun v=>Ent.val (tE v))⟩ cs n (by rw [←hn];simp) (by simp [←hn]) Nat.one_pos (fun _=>rfl) (Nat.le_of_ble_eq_true h63)
    (fun j hj=>by
      simp only [HEnt.supp,List.mem_flatMap,List.mem_map] at hj
      obtain ⟨e,⟨v,_,rfl⟩,hj⟩:=hj
      cases hj) (fun i e' hi=>by
      simp only [List.getElem?_map,Option.map_eq_some_iff] at hi
      obtain ⟨v,hv,rfl⟩:=hi
      show pick false 1 cs (i*1)=v
      have hv':cs[i]? =some v:=by simpa using hv
      simp [pick,hv'])
  have hcc:(a.eval x).cells=cs:=by rw [hx];rfl
  have hr:(execOp a.eval ⟨some d,.box T x,ty,pos,af,gd⟩).run P w= .ok (.value (.pointer (some ⟨w.heap.size,0,none⟩))) {w with heap:=w.heap.push (.cells (a.eval x).cells T)}:=by
    simp [execOp,Instr.box,newVar,newRow,newObj,Sem.run,go_sem]
  rw [hcc] at hr
  refine xe8 hr ?_
  refine ⟨_,hnew.put (hp.d _ rfl) ?_ ?_⟩
  · show _=_
    simp [Env.set_b]
  · intro j hj
    simp only [Ent.supp,VP.supp,List.mem_singleton] at hj
    subst hj;simp
end
section
variable {P:Program} {c:Base} {g:Slots} {h:Keys} {al:Names} {Q:Exit→Act→World→Prop}
end
end An
