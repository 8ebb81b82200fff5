/- Part 3 of a proof: W6, Diff, W7, Lehmer, W8, Wh, Wh2, W9, Wh3, W10, Fr, W11, W12, Split, Tl, LibZa, S1, Ref, Ref2, Ref3, S2, S3, S4, Tl2, S5, LibZ, S6, LibZb, S7, Tl3, S8, S9, S10, S11. -/
import Derived.Shelf.SlSortCmp.NoneTotal
import Derived.Test.YtjcoiplkcabipaaGreatDoorR2
set_option maxHeartbeats 4000000
set_option maxRecDepth 100000
namespace An.S
open Go Go.Proofs An
instance fi154:FnI Tryz.prog 154:=⟨_,Tryz.func154,by kernel_rfl,rfl⟩
instance fi203:FnI Tryz.prog 203:=⟨_,Tryz.func203,by kernel_rfl,rfl⟩
instance fi204:FnI Tryz.prog 204:=⟨_,Tryz.func204,by kernel_rfl,rfl⟩
instance fi205:FnI Tryz.prog 205:=⟨_,Tryz.func205,by kernel_rfl,rfl⟩
instance fi206:FnI Tryz.prog 206:=⟨_,Tryz.func206,by kernel_rfl,rfl⟩
theorem xr9 {a b:Nat}:cmpN a b < 0↔a < b:=by
 simp only [cmpN];constructor
 ·intro h;split at h
  ·assumption
  ·split at h <;> simp at h
 ·intro h;rw [if_pos h];decide
theorem trim1 {x:Nat} (hx:x < 4294967296):trimL [x]=dig 4294967296 x:=by
 rw [xe6 xa2 (Dig.cons hx (Dig.nil _)),xk4,val_nil];simp
theorem one_word {b:Nat} (h:(dig 4294967296 b).length=1):(dig 4294967296 b).getD 0 0=b:=by
 rw [xb7 xa2,Nat.pow_zero,Nat.div_one]
 have:=(xa9 xa2 b 1).1 (Nat.le_of_eq h)
 rw [Nat.pow_one] at this
 exact Nat.mod_eq_of_lt this
theorem c_divide (a b:Nat) (hb:0 < b) (ha:(dig 4294967296 a).length≤100000) (hbl:(dig 4294967296 b).length≤100000):
  Ct Tryz.prog 193 [tN a,tN b] (tT [tN (a / b),tN (a%b)]):=by
 refine Ct.intro Tryz.func193 rfl Tryz.ntmps193 rfl ?_
 intro w F
 refine A11 ?_
 refine RE (x3 (c_compare _ _) fi154 rfl) ⟨rfl,rfl,trivial⟩ trivial trivial ?_
 refine A3 ?_
 refine x9 rfl (fun h185=> ?_) (fun h185=> ?_)
 ·
  have hab:=xr9.1 h185
  refine A3 ?_
  refine RE (xf0 (fun _=>20) (c_clone32 _ (by omega)) fi202 rfl (krN (ρ:=fun _=>20)) (krC (ρ:=fun _=>20) (k:=2) xg6 (krN (ρ:=fun _=>20))) ⟨⟨rfl,xd6⟩,trivial⟩ rfl) ⟨rfl,trivial⟩ trivial ⟨rfl,trivial⟩ ?_
  refine A1 ?_
  refine RE (xt9 (fun _ h=>h) (xi7 rfl) rfl) ⟨rfl,trivial⟩ ⟨rfl,trivial⟩ trivial ?_
  refine A4 ?_
  exact xc5 Plain.mk' rfl rfl rfl (leNil (by rw [Nat.div_eq_of_lt hab,xd0])) (Le.of (by rw [Nat.mod_eq_of_lt hab]))
 ·
  have hab:b≤a:=by
   have:=mt xr9.2 h185
   omega
  have hlab:=xe0 xa2 hab
  have hlb:=len_pos xa2 hb
  refine A10 ?_
  refine x9 rfl (fun h188=> ?_) (fun h188=> ?_)
  ·
   have hb0:=one_word (b:=b) (by omega)
   have hbW:=(xb6 xa2 b).getD (by decide) 0
   refine A4 ?_
   refine R2 (x6 sl144 (0) (by omega) (gN (by omega))) rfl rfl ?_
   refine A1 ?_
   refine RE (x3 (c_divideShort _ _ (by omega) (by omega) (by omega)) fi203 rfl) ⟨rfl,rfl,trivial⟩ trivial trivial ?_
   refine A11 ?_
   refine R1 (xm9 (n:=1) [a%(dig 4294967296 b).getD 0 0] Tryz.underlying144 el157 zf157 rfl rfl rfl) rfl (RE (x3 (xp8 _) fi196 rfl) ⟨rfl,trivial⟩ trivial trivial ?_)
   refine A6 ?_
   exact xc5 Plain.mk' rfl rfl rfl (Le.of (by rw [hb0])) (Le.of (by rw [hb0,trim1 (Nat.lt_trans (Nat.mod_lt _ hb) (hb0▸hbW))]))
  ·
   obtain ⟨m,hm⟩: ∃m,(dig 4294967296 b).length=m+2:=⟨(dig 4294967296 b).length - 2,by omega⟩
   have ht:=(xb6 xa2 b).getD (by decide) (m+1)
   refine A14 ?_
   refine R2 (x6 sl144 (m+1) (by omega) (gN (by omega))) rfl rfl ?_
   refine A1 ?_
   refine RE (x3 (xv3 _ (by omega)) fi204 rfl) ⟨rfl,trivial⟩ trivial trivial ?_
   refine A7 ?_
   generalize hs:32 - Lib.bitLen ((dig 4294967296 b).getD (m+1) 0)=s
   obtain ⟨hs31,hBW,hBt,hb1,hB2⟩:=norm hm hs
   have hB0:0 < b*2 ^ s:=Nat.mul_pos hb (Nat.pow_pos (by decide))
   refine RE (xf0 (fun _=>46) (c_shifted _ _ (by omega) (by omega)) fi205 rfl (krN (ρ:=fun _=>46)) (krC (ρ:=fun _=>46) (k:=12) xg6 (krN (ρ:=fun _=>46))) ⟨⟨rfl,xd6⟩,trivial⟩ rfl) ⟨rfl,rfl,trivial⟩ trivial ⟨rfl,trivial⟩ ?_
   refine A1 ?_
   refine R2 (d_sliceOTo sl144 (m+2) (by omega) (by omega) rfl) rfl rfl (RE (xt9 (xs:=(dgs 4294967296 (m+2) (b*2 ^ s))) (fun _ h=>h) (by rw [rW_take,take_dgs (by omega)]) (xe1 _ _ _)) ⟨rfl,trivial⟩ ⟨rfl,trivial⟩ trivial ?_)
   refine A6 ?_
   refine RE (xf0 (fun _=>51) (c_shifted _ _ (by omega) (by omega)) fi205 rfl (krN (ρ:=fun _=>51)) (krC (ρ:=fun _=>51) (k:=12) xg6 (krN (ρ:=fun _=>51))) ⟨⟨rfl,xd6⟩,trivial⟩ rfl) ⟨rfl,rfl,trivial⟩ trivial ⟨rfl,trivial⟩ ?_
   refine A10 ?_
   refine RE (xh1 (k:=57) (t:=tE (.int .u32 0)) (ts:=rW .u32 (List.replicate (((dig 4294967296 a).length - (dig 4294967296 b).length+1)) 0)) (((dig 4294967296 a).length - (dig 4294967296 b).length+1)) (((dig 4294967296 a).length - (dig 4294967296 b).length+1)) Tryz.underlying144 el157 (fun _ _=>rfl) rfl (by omega) (by omega) (Nat.le_refl _) (by omega) (by omega) (xo6 _)) ⟨rfl,rfl,trivial⟩ trivial ⟨rfl,trivial⟩ ?_
   refine A13 ?_
   have hA0:=div_init (n:=(dig 4294967296 a).length) hs31 (xg7 xa2 a) (by omega) hB2
   rw [←hm] at hA0
   refine cL (fun (fm:(Nat)×(List Nat))=>(fun (k:Nat) (qs:List Nat)=>k≤((dig 4294967296 a).length - (dig 4294967296 b).length+1)∧qs.length=((dig 4294967296 a).length - (dig 4294967296 b).length+1)∧Dig 4294967296 qs∧val 4294967296 (qs.drop k)=(a*2 ^ s) / (4294967296 ^ k*(b*2 ^ s))) fm.1 fm.2) (fun (fm:(Nat)×(List Nat))=>(fun (k:Nat) (qs:List Nat)=>upd (upd (upd (upd (upd (upd (fun _=>none) 8 (some (.val (tI (dig 4294967296 b).length)))) 9 (some (.val (tI s)))) 10 (some (.val (tWs (dgs 4294967296 (m+2) (b*2 ^ s)))))) 11 (some (.own (.sl 51 1 0 ((dig 4294967296 a).length+1))))) 12 (some (.own (.sl 57 1 0 ((dig 4294967296 a).length - (dig 4294967296 b).length+1))))) 13 (some (.val (tI ((k:Int) - 1))))) fm.1 fm.2) (fun (fm:(Nat)×(List Nat))=>(fun (k:Nat) (qs:List Nat)=>upd (upd (fun _=>none) 51 (some (⟨157,1,false,rW .u32 (dgs 4294967296 ((dig 4294967296 a).length+1) ((a*2 ^ s)%(4294967296 ^ k*(b*2 ^ s))))⟩))) 57 (some (⟨157,1,false,rW .u32 qs⟩))) fm.1 fm.2) [51,57] (fun (fm:(Nat)×(List Nat))=>(fun (k:Nat) (qs:List Nat)=>k) fm.1 fm.2) ((((dig 4294967296 a).length - (dig 4294967296 b).length+1),List.replicate ((dig 4294967296 a).length - (dig 4294967296 b).length+1) 0)) (by dsimp only;exact ⟨Nat.le_refl _,by simp,Dig.rep (by decide) _,by rw [List.drop_replicate,xg1];exact (Nat.div_eq_of_lt hA0).symm⟩) (hh:=((SubK.consI rfl ImpK.refl) ((SubK.consI rfl (ImpK.ofTs (by dsimp only;rw [Nat.mod_eq_of_lt hA0]))) SubK.nil))) ?_
   intro fm hI
   obtain ⟨k,qs⟩:=fm
   replace hI:k≤((dig 4294967296 a).length - (dig 4294967296 b).length+1)∧qs.length=((dig 4294967296 a).length - (dig 4294967296 b).length+1)∧Dig 4294967296 qs∧val 4294967296 (qs.drop k)=(a*2 ^ s) / (4294967296 ^ k*(b*2 ^ s)):=hI
   show wc _ _ _ _ (upd (upd (upd (upd (upd (upd (fun _=>none) 8 (some (.val (tI (dig 4294967296 b).length)))) 9 (some (.val (tI s)))) 10 (some (.val (tWs (dgs 4294967296 (m+2) (b*2 ^ s)))))) 11 (some (.own (.sl 51 1 0 ((dig 4294967296 a).length+1))))) 12 (some (.own (.sl 57 1 0 ((dig 4294967296 a).length - (dig 4294967296 b).length+1))))) 13 (some (.val (tI ((k:Int) - 1))))) (upd (upd (fun _=>none) 51 (some (⟨157,1,false,rW .u32 (dgs 4294967296 ((dig 4294967296 a).length+1) ((a*2 ^ s)%(4294967296 ^ k*(b*2 ^ s))))⟩))) 57 (some (⟨157,1,false,rW .u32 qs⟩))) _
   obtain ⟨hk,hl,hD,hv⟩:=hI
   refine A7 ?_
   refine x9 rfl (fun h197=> ?_) (fun h197=> ?_)
   ·
    obtain ⟨j,rfl⟩: ∃j,k=j+1:=⟨k - 1,by omega⟩
    refine C_key (k:=51) rfl (congrArg (fun z=>HEnt.mk 157 1 false (rW .u32 z)) (row_cut (m:=m) (k:=j) (by omega))) ?_
    refine A13 ?_
    refine R3 (d_sliceOFT (off':=(dgs 4294967296 j ((a*2 ^ s)%(4294967296 ^ (j+1)*(b*2 ^ s)))).length) (len':=m+3) sl144 j (j+(m+3)) (by omega) (by omega) (by omega) (by omega) (by rw [xe1];omega) (by omega)) rfl rfl rfl ?_
    refine A1 ?_
    refine RE (xf0 (fun _=>51) (c_divideStep _ _ _ _ m (two_of hBW hBt hB0) (by omega)) fi206 rfl (krC (ρ:=fun _=>51) (k:=9) xg6 (krN (ρ:=fun _=>51))) (krC (ρ:=fun _=>51) (k:=9) xg6 (krN (ρ:=fun _=>51))) ⟨⟨rfl,xd6⟩,trivial⟩ rfl) ⟨rfl,rfl,trivial⟩ ⟨rfl,trivial⟩ trivial (R2 (xa5 sl144 (by omega) (by omega) rfl) rfl rfl (RE (xc3 (j) ti157 (xj5 (by omega)) (by omega) (xh3 (m:=_) rfl)) ⟨rfl,rfl,trivial⟩ ⟨rfl,trivial⟩ trivial ?_))
    refine A8 ?_
    obtain ⟨n1,n2,n3⟩:=q_in hBW hBt hB0 (by omega) hl hD hv rfl
    exact kF ((j,qs.set j (val 4294967296 (dgs 4294967296 (m+3) (((a*2 ^ s)%(4294967296 ^ (j+1)*(b*2 ^ s))) / 4294967296 ^ j)) / val 4294967296 (dgs 4294967296 (m+2) (b*2 ^ s))))) ⟨(by dsimp only;exact ⟨by omega,n1,n2,n3⟩),(by dsimp only;omega)⟩ (hh:=((SubK.consI rfl ImpK.refl) ((SubK.consI rfl (ImpK.ofTs (by dsimp only;exact congrArg (rW .u32) (row_join (by omega) hBW hB0)))) SubK.nil)))
   ·
    have hk0:k=0:=by omega
    subst hk0
    have hR:((a*2 ^ s)%(4294967296 ^ 0*(b*2 ^ s)))=a%b*2 ^ s:=by rw [Nat.pow_zero,Nat.one_mul,Nat.mul_mod_mul_right]
    have hQ:val 4294967296 qs=a / b:=by
     rw [List.drop_zero,Nat.pow_zero,Nat.one_mul,Nat.mul_div_mul_right _ _ (Nat.pow_pos (by decide))] at hv
     exact hv
    refine A13 ?_
    refine cL (fun (fm:(Nat)×(List Nat))=>(fun (i:Nat) (us:List Nat)=>i≤m+2∧us.length=(dig 4294967296 a).length+1∧Dig 4294967296 us∧us.drop i=(dgs 4294967296 ((dig 4294967296 a).length+1) (a%b*2 ^ s)).drop i∧us.take i=dgs 4294967296 i (a%b)) fm.1 fm.2) (fun (fm:(Nat)×(List Nat))=>(fun (i:Nat) (us:List Nat)=>upd (upd (upd (upd (upd (upd (fun _=>none) 8 (some (.val (tI (dig 4294967296 b).length)))) 9 (some (.val (tI s)))) 11 (some (.own (.sl 51 1 0 ((dig 4294967296 a).length+1))))) 12 (some (.own (.sl 57 1 0 ((dig 4294967296 a).length - (dig 4294967296 b).length+1))))) 77 (some (.val (tI (dig 4294967296 b).length)))) 78 (some (.val (tI i)))) fm.1 fm.2) (fun (fm:(Nat)×(List Nat))=>(fun (i:Nat) (us:List Nat)=>upd (upd (fun _=>none) 51 (some (⟨157,1,false,rW .u32 us⟩))) 57 (some (⟨157,1,false,rW .u32 qs⟩))) fm.1 fm.2) [51,57] (fun (fm:(Nat)×(List Nat))=>(fun (i:Nat) (us:List Nat)=>m+2 - i) fm.1 fm.2) ((0,dgs 4294967296 ((dig 4294967296 a).length+1) ((a*2 ^ s)%(4294967296 ^ 0*(b*2 ^ s))))) (by dsimp only;exact ⟨Nat.zero_le _,xe1 _ _ _,dgs_Dig (by decide) _ _,by rw [hR],rfl⟩) (hh:=((SubK.consI rfl ImpK.refl) ((SubK.consI rfl ImpK.refl) SubK.nil))) ?_
    intro fm hJ
    obtain ⟨i,us⟩:=fm
    replace hJ:i≤m+2∧us.length=(dig 4294967296 a).length+1∧Dig 4294967296 us∧us.drop i=(dgs 4294967296 ((dig 4294967296 a).length+1) (a%b*2 ^ s)).drop i∧us.take i=dgs 4294967296 i (a%b):=hJ
    show wc _ _ _ _ (upd (upd (upd (upd (upd (upd (fun _=>none) 8 (some (.val (tI (dig 4294967296 b).length)))) 9 (some (.val (tI s)))) 11 (some (.own (.sl 51 1 0 ((dig 4294967296 a).length+1))))) 12 (some (.own (.sl 57 1 0 ((dig 4294967296 a).length - (dig 4294967296 b).length+1))))) 77 (some (.val (tI (dig 4294967296 b).length)))) 78 (some (.val (tI i)))) (upd (upd (fun _=>none) 51 (some (⟨157,1,false,rW .u32 us⟩))) 57 (some (⟨157,1,false,rW .u32 qs⟩))) _
    obtain ⟨hi,ul,uD,udr,ut⟩:=hJ
    have hu0:=uD.getD (by decide) i
    have hu1:=uD.getD (by decide) (i+1)
    refine A6 ?_
    refine x9 rfl (fun h200=> ?_) (fun h200=> ?_)
    ·
     refine A16 ?_
     refine R2 (xa5 sl144 (by omega) (by omega) rfl) rfl rfl (RE (xd8 (i+1) ti157 (xn6 (by omega)) (by omega)) ⟨rfl,trivial⟩ ⟨rfl,trivial⟩ trivial (R1 (x7 Tryz.underlying82 (isS Tryz.underlying157) (by first | exact wu64 (by omega) (by omega) | exact mu64)) rfl (R2 (d_shl (by decide) (shl32 (by omega))) rfl rfl ?_)))
     refine A2 ?_
     refine R2 (xa5 sl144 (by omega) (by omega) rfl) rfl rfl (RE (xd8 (i) ti157 (xn6 (by omega)) (by omega)) ⟨rfl,trivial⟩ ⟨rfl,trivial⟩ trivial (R1 (x7 Tryz.underlying82 (isS Tryz.underlying157) (by first | exact wu64 (by omega) (by omega) | exact mu64)) rfl (R2 (d_or (or32 (by omega) (by omega))) rfl rfl ?_)))
     refine A1 ?_
     refine R2 (xh4 (by omega) (shrN (s:=s) rfl (by show s≤64;omega))) rfl rfl (R1 (x7 Tryz.underlying157 (isS Tryz.underlying82) cut32) rfl (R2 (xa5 sl144 (by omega) (by omega) rfl) rfl rfl (RE (xc3 (i) ti157 (xj5 (by omega)) (by omega) (xh3 (m:=_) rfl)) ⟨rfl,rfl,trivial⟩ ⟨rfl,trivial⟩ trivial ?_)))
     refine A7 ?_
     obtain ⟨n1,n2,n3,n4⟩:=back_in (m:=m+2) hs31 (by omega) (by omega) ul uD udr ut
     exact kF ((i+1,us.set i ((us.getD i 0+us.getD (i+1) 0*2 ^ 32) / 2 ^ s%4294967296))) ⟨(by dsimp only;exact ⟨by omega,n1,n2,n3,n4⟩),(by dsimp only;omega)⟩ (hh:=((SubK.consI rfl ImpK.refl) ((SubK.consI rfl ImpK.refl) SubK.nil)))
    ·
     refine A7 ?_
     refine RE (xf8 (fun _ h=>h) (xi7 hl) hl) ⟨rfl,trivial⟩ ⟨rfl,trivial⟩ trivial (RE (x3 (xp8 _) fi196 rfl) ⟨rfl,trivial⟩ trivial trivial ?_)
     refine A2 ?_
     refine RE (Does.giveL (k:=51) (es:=1) (off:=0) (len:=m+2) (xs:=us.take (m+2)) (f:=fun n:Nat=>tE (.int .u32 n)) (ts:=rW .u32 us) (d_sliceOTo sl144 (m+2) (by omega) (by omega) rfl) (fun _ h=>h) rW_take (by rw [List.length_take];omega)) ⟨rfl,rfl,trivial⟩ ⟨rfl,trivial⟩ trivial (RE (x3 (xp8 _) fi196 rfl) ⟨rfl,trivial⟩ trivial trivial ?_)
     refine A5 ?_
     exact xc5 Plain.mk' rfl rfl rfl (Le.of (by rw [xe6 xa2 hD,hQ])) (Le.of (by rw [show m+2=i by omega,ut,dgs_trim xa2 (Nat.lt_trans (Nat.mod_lt _ hb) (by rw [show i=(dig 4294967296 b).length by omega];exact xg7 xa2 b))]))
end An.S
namespace An
open Go
theorem head_eq (a k s:Nat) (hs:s≤31):a*2 ^ s / W ^ (k+1)=a / W ^ k%W / 2 ^ (32 - s)+a / W ^ (k+1)*2 ^ s:=by
 have hp:0 < 2 ^ s:=Nat.pow_pos (by omega)
 have hq:0 < 2 ^ (32 - s):=Nat.pow_pos (by omega)
 have e1:W ^ (k+1)=W ^ k*2 ^ (32 - s)*2 ^ s:=by
  rw [Nat.mul_assoc,←Nat.pow_add,show 32 - s+s=32 by omega,Nat.pow_succ]
 have e2:a / W ^ k=a / W ^ k%W+2 ^ (32 - s)*(a / W ^ (k+1)*2 ^ s):=by
  have h:=Nat.div_add_mod (a / W ^ k) W
  have e4:a / W ^ k / W=a / W ^ (k+1):=by rw [Nat.div_div_eq_div_mul,←Nat.pow_succ]
  rw [e4] at h
  have e5:W=2 ^ (32 - s)*2 ^ s:=by rw [←Nat.pow_add,show 32 - s+s=32 by omega]
  have e3:2 ^ (32 - s)*(a / W ^ (k+1)*2 ^ s)=W*(a / W ^ (k+1)):=by
   generalize a / W ^ (k+1)=z
   rw [e5];ac_rfl
  rw [e3,Nat.add_comm];exact h.symm
 conv=>lhs;rw [e1,Nat.mul_div_mul_right _ _ hp,←Nat.div_div_eq_div_mul,e2,Nat.add_mul_div_left _ _ hq]
theorem head_top {a k:Nat} (h:a < W ^ (k+3)):a / W ^ (k+1)=a / W ^ (k+1)%W+a / W ^ (k+2)%W*2 ^ 32:=by
 have h1:=Nat.div_add_mod (a / W ^ (k+1)) W
 have e:a / W ^ (k+1) / W=a / W ^ (k+2):=by rw [Nat.div_div_eq_div_mul,←Nat.pow_succ]
 rw [e] at h1
 have h2:a / W ^ (k+2) < W:=Nat.div_lt_of_lt_mul (by rwa [Nat.pow_succ] at h)
 rw [Nat.mod_eq_of_lt h2,Nat.mul_comm (a / W ^ (k+2))]
 show _=_+W*_
 omega
theorem head_lt {a n s:Nat} (hn:2≤n) (h:a*2 ^ s < W ^ n):a*2 ^ s / W ^ (n - 2) < 18446744073709551616:=by
 refine Nat.div_lt_of_lt_mul ?_
 have e:W ^ n=W ^ (n - 2)*18446744073709551616:=by
  rw [show (18446744073709551616:Nat)=W ^ 2 by decide,←Nat.pow_add];congr 1;omega
 rwa [e] at h
theorem diff_step {B u v a b T br x y i d X Y br':Nat} (_hB:0 < B) (h:T+v*(b%B ^ i)+x*B ^ i=u*(a%B ^ i)+y*B ^ i+br*B ^ i) (hX:X=x+u*(a / B ^ i%B)) (hY:Y=y+v*(b / B ^ i%B)) (hd:d+Y%B+br=X%B+B*br'):
  T+B ^ i*d+v*(b%B ^ (i+1))+X / B*B ^ (i+1)=u*(a%B ^ (i+1))+Y / B*B ^ (i+1)+br'*B ^ (i+1):=by
 have h1:=Nat.div_add_mod X B
 have h2:=Nat.div_add_mod Y B
 rw [xh7,xh7,Nat.pow_succ]
 generalize a / B ^ i%B=ai at*
 generalize b / B ^ i%B=bi at*
 generalize B ^ i=P at*
 generalize a%P=al at*
 generalize b%P=bl at*
 generalize X / B=xq at*
 generalize X%B=xr at*
 generalize Y / B=yq at*
 generalize Y%B=yr at*
 grind
theorem carry_step {B u a x i:Nat} (hB:0 < B) (hx:x=u*(a%B ^ i) / B ^ i):(x+u*(a / B ^ i%B)) / B=u*(a%B ^ (i+1)) / B ^ (i+1):=by
 have hp:0 < B ^ i:=Nat.pow_pos hB
 rw [Nat.pow_succ,←Nat.div_div_eq_div_mul,←Nat.pow_succ,xh7,Nat.mul_add,←Nat.mul_assoc,Nat.mul_comm u (B ^ i),Nat.mul_assoc,Nat.add_mul_div_left _ _ hp,←hx]
theorem carry_lt {u a x i:Nat} (hu:u < 4294967296) (hx:x=u*(a%W ^ i) / W ^ i):x < 4294967296:=by
 have hp:0 < W ^ i:=Nat.pow_pos (by decide)
 rw [hx]
 refine Nat.div_lt_of_lt_mul ?_
 have h1:a%W ^ i < W ^ i:=Nat.mod_lt _ hp
 have h2:u*(a%W ^ i)≤4294967295*(a%W ^ i):=Nat.mul_le_mul_right _ (by omega)
 omega
theorem diff_in {u v a b n i x y br:Nat} {ws:List Nat} (hi:i < n) (hl:ws.length=n) (hD:Dig W ws) (hx:x=u*(a%W ^ i) / W ^ i) (hy:y=v*(b%W ^ i) / W ^ i)
  (h:val W (ws.take i)+v*(b%W ^ i)+x*W ^ i=u*(a%W ^ i)+y*W ^ i+br*W ^ i) {X Y d br':Nat} (hX:X=x+u*(a / W ^ i%W)) (hY:Y=y+v*(b / W ^ i%W)) (hd:d+Y%W+br=X%W+W*br') (hdW:d < W):
  (ws.set i d).length=n∧Dig W (ws.set i d)∧X / W=u*(a%W ^ (i+1)) / W ^ (i+1)∧Y / W=v*(b%W ^ (i+1)) / W ^ (i+1)∧
   val W ((ws.set i d).take (i+1))+v*(b%W ^ (i+1))+X / W*W ^ (i+1)=u*(a%W ^ (i+1))+Y / W*W ^ (i+1)+br'*W ^ (i+1):=by
 refine ⟨by simpa using hl,hD.set hdW,by rw [hX];exact carry_step (by decide) hx,by rw [hY];exact carry_step (by decide) hy,?_⟩
 rw [xf3 (by omega)]
 exact diff_step (by decide) h hX hY hd
theorem diff_end {u v a b n x y br:Nat} {ws:List Nat} (hl:ws.length=n+1) (hD:Dig W ws) (ha:a < W ^ n) (hb:b < W ^ n) (hu:u < 4294967296) (hv:v < 4294967296) (hx:x=u*(a%W ^ (n+1)) / W ^ (n+1)) (hy:y=v*(b%W ^ (n+1)) / W ^ (n+1))
  (h:val W (ws.take (n+1))+v*(b%W ^ (n+1))+x*W ^ (n+1)=u*(a%W ^ (n+1))+y*W ^ (n+1)+br*W ^ (n+1)) (hle:v*b≤u*a):trimL ws=dig W (u*a - v*b):=by
 have hp:0 < W ^ n:=Nat.pow_pos (by decide)
 have e:W ^ (n+1)=W ^ n*4294967296:=Nat.pow_succ ..
 have l1: ∀c w:Nat,c < W ^ n→w < 4294967296→w*c < W ^ (n+1):=fun c w hc hw=>by
  rw [e,Nat.mul_comm]
  have h1:c*w≤c*4294967296:=Nat.mul_le_mul_left _ (by omega)
  have h2:c*4294967296 < W ^ n*4294967296:=Nat.mul_lt_mul_of_pos_right hc (by decide)
  omega
 have ha1:=l1 a u ha hu
 have hb1:=l1 b v hb hv
 have ha2:a < W ^ (n+1):=by rw [e];omega
 have hb2:b < W ^ (n+1):=by rw [e];omega
 rw [Nat.mod_eq_of_lt ha2,Nat.mod_eq_of_lt hb2,←hl,List.take_length,hl] at h
 rw [Nat.mod_eq_of_lt ha2,Nat.div_eq_of_lt ha1] at hx
 rw [Nat.mod_eq_of_lt hb2,Nat.div_eq_of_lt hb1] at hy
 subst hx;subst hy
 have hz:=xp9 hD
 rw [hl] at hz
 rw [xe6 xa2 hD]
 congr 1
 rcases Nat.eq_zero_or_pos br with h0 | h0
 ·subst h0;show val W ws=_;omega
 ·have:W ^ (n+1)≤br*W ^ (n+1):=Nat.le_mul_of_pos_left _ h0
  omega
end An
namespace An.S
open Go Go.Proofs An
instance fi210:FnI Tryz.prog 210:=⟨_,Tryz.func210,by kernel_rfl,rfl⟩
instance fi214:FnI Tryz.prog 214:=⟨_,Tryz.func214,by kernel_rfl,rfl⟩
instance fi215:FnI Tryz.prog 215:=⟨_,Tryz.func215,by kernel_rfl,rfl⟩
theorem c_down32 (xs:List Nat):
  CtG Tryz.prog 210 [] [.val (tL 1 false (fun n:Nat=>tE (.int .u32 n)) xs)] (.own (.fn 215 [.ptr 1 0])) [(1,⟨144,1,false,[.val (tL 1 false (fun n:Nat=>tE (.int .u32 n)) xs)]⟩)] [1]:=by
 refine CtG.intro [] Tryz.func210 rfl Tryz.ntmps210 rfl rfl trivial ?_
 intro w F η
 refine A8 ?_
 refine R1 (xh9 (ps:=[.ptr 1 0]) rfl) rfl ?_
 refine A4 ?_
 exact xf9 LentC.mk' rfl rfl Imp.refl ⟨rfl,trivial⟩ rfl ⟨⟨rfl,(SupX.lit rfl)⟩,trivial⟩ rfl
theorem i_down32 (xs:List Nat) (hx:xs.length≤1000000):
  ItC Tryz.prog 215 [(1,⟨144,1,false,[.val (tL 1 false (fun n:Nat=>tE (.int .u32 n)) xs)]⟩)] [.ptr 1 0] (xs.length) (fun k=>[tE (.int .u32 ((xs.getD (xs.length - 1 - k) 0:Nat):Int))]):=by
 refine ItC.intro (K:=99) [1] Tryz.func215 rfl Tryz.ntmps215 rfl rfl ⟨⟨rfl,(SupX.lit rfl)⟩,trivial⟩ rfl ?_
 intro w F η l V J Jc hB
 refine A9 ?_
 refine cL (fun (k:Nat)=>k≤xs.length) (fun (k:Nat)=>upd (upd (upd (fun _=>none) 0 (some (.val (tE (.func (.yield l) #[] #[]))))) 1 (some (.own (.ptr 1 0)))) 3 (some (.val (tI ((xs.length:Int) - 1 - k))))) (fun (k:Nat)=>upd (upd (fun _=>none) 1 (some (⟨144,1,false,[.val (tL 1 false (fun n:Nat=>tE (.int .u32 n)) xs)]⟩))) 99 (some (⟨2*k,1,false,[]⟩))) [1,99] (fun (k:Nat)=>xs.length - k) (0) (Nat.zero_le _) ?_
 intro k hI
 refine A7 ?_
 refine x9 rfl (fun h17=> ?_) (fun h17=> ?_)
 ·
  refine A5 ?_
  refine C_regY ?_
  refine xh6 xa0 ⟨rfl,trivial⟩ trivial trivial rfl (xh6 (xd8 (0) ti144 rfl rfl) ⟨rfl,trivial⟩ ⟨rfl,trivial⟩ trivial rfl (xh6 xa0 ⟨rfl,trivial⟩ trivial trivial rfl (xh6 (x6 sl144 (xs.length - 1 - k) (by omega) (gN (by omega))) ⟨rfl,rfl,trivial⟩ trivial trivial rfl (xh6 (xi3 ti157) ⟨rfl,trivial⟩ trivial trivial rfl ?_))))
  refine wl_yield (ts:=[tE (.int .u32 ((xs.getD (xs.length - 1 - k) 0:Nat):Int))]) hB (xw0 rfl) rfl rfl ⟨rfl,trivial⟩ rfl rfl (by omega) ⟨Le.refl,trivial⟩ ?_ ?_
  ·
   refine xh6 xj4 ⟨rfl,trivial⟩ trivial trivial rfl (wl_nil ?_)
   refine A10 ?_
   exact kF (k+1) ⟨(by omega),(by omega)⟩
  ·
   refine xh6 xj4 ⟨rfl,trivial⟩ trivial trivial rfl (wl_nil ?_)
   refine A7 ?_
   exact E_it hB rfl trivial rfl (.inl rfl) rfl (.inr ⟨k,by omega,rfl⟩)
 ·
  refine A4 ?_
  exact E_it hB rfl trivial rfl (.inr rfl) rfl (.inl (by omega))
theorem c_long (xs:List Nat) (hx:xs.length≤2) (hD:Dig 4294967296 xs):
  Ct Tryz.prog 200 [tWs xs] (tE (.int .u64 ((val 4294967296 xs:Nat):Int))):=by
 refine Ct.intro Tryz.func200 rfl Tryz.ntmps200 rfl ?_
 intro w F
 refine A7 ?_
 refine RE (x5 (k:=3) (n:=1) (agg:=false) zr82.1 zr82.2 rfl) trivial trivial ⟨rfl,trivial⟩ ?_
 refine A7 ?_
 refine RE (xf0 (fun _=>6) (c_down32 _) fi210 rfl (krN (ρ:=fun _=>6)) (krC (ρ:=fun _=>6) (k:=1) rfl (krN (ρ:=fun _=>6))) ⟨⟨rfl,(SupX.lit rfl)⟩,trivial⟩ rfl) ⟨rfl,trivial⟩ trivial ⟨rfl,trivial⟩ ?_
 refine A3 ?_
 refine C_range (caps:=[.ptr 1 0]) (κ:=Empty) (fun j=>cond (Nat.beq j 1) 6 (j)) rfl (fun _ h=>h) trivial (i_down32 xs (by omega)) fi215 rfl ⟨rfl,trivial⟩ rfl rfl (fun _ _=>rfl) (upd (fun _=>none) 3 (some (.own (.ptr 3 0)))) [3] [3] (Sub.cons rfl Sub.nil) (SupG.own rfl SupG.nil) rfl (lkOk rfl) (fun (k:Nat) (_:Unit)=>True) (fun (k:Nat) (_:Unit)=>upd (fun _=>none) 3 (some (⟨82,1,false,[.val (tE (.int .u64 ((val 4294967296 (xs.drop (xs.length - k)):Nat):Int)))]⟩))) (fun k x=>(SupH.cons rfl (supJL rfl) SupH.nil)) (fun k x y hy=>by simp at hy;subst hy;rfl) (fun _ _=>False) (fun i=>i.elim) (fun _ _ h=>h.elim) (()) trivial ((SubK.consI rfl (ImpK.one (Imp.int (by rw [Nat.sub_zero,List.drop_length];rfl)))) SubK.nil) ?_ ?_ ?_
 ·
  intro D lp o1 o2 O W lη lb V0 k x hk hI
  have hv:=xp9 (hD.drop (xs.length - k))
  rw [List.length_drop,show xs.length - (xs.length - k)=k by omega] at hv
  have hk1:4294967296 ^ k≤4294967296 ^ 1:=Nat.pow_le_pow_right (by decide) (by omega)
  rw [Nat.pow_one] at hk1
  have hw:=hD.getD (by decide) (xs.length - 1 - k)
  have hst:=xn5 4294967296 xs (xs.length - 1 - k) (by omega)
  rw [show xs.length - 1 - k+1=xs.length - k by omega,Nat.mul_comm] at hst
  apply rnd_mk
  ·
   refine A3 ?_
   exact K_thenF fun _ _ h=>h
  ·
   refine A3 ?_
   refine R2 (d_shl (by decide) (shl32 (by omega))) rfl rfl ?_
   refine A1 ?_
   refine R1 (x7 Tryz.underlying82 (isS Tryz.underlying157) (by first | exact wu64 (by omega) (by omega) | exact mu64)) rfl (R2 (d_or (or32 (by omega) (by omega))) rfl rfl ?_)
   refine A3 ?_
   exact K_rnd (()) trivial ((SubK.consI rfl (ImpK.one (Imp.int (by rw [show xs.length - (k+1)=xs.length - 1 - k by omega,hst])))) SubK.nil) (SupH.cons rfl (supJL rfl) SupH.nil) (lkOk rfl)
 ·
  intro D hD x hI
  refine A9 ?_
  exact x4 (Plain.loop Plain.mk' hD) rfl rfl (Le.int (by rw [Nat.sub_self];rfl))
 ·
  intro D hD e i;exact i.elim
theorem c_short (x:Nat) (hx:x < 18446744073709551616):
  Ct Tryz.prog 201 [tE (.int .u64 (x:Int))] (tN x):=by
 refine Ct.intro Tryz.func201 rfl Tryz.ntmps201 rfl ?_
 intro w F
 refine A8 ?_
 refine R1 (x7 Tryz.underlying157 (isS Tryz.underlying82) cut32) rfl ?_
 refine A1 ?_
 refine R2 (xh4 (by decide) shr32) rfl rfl (R1 (x7 Tryz.underlying157 (isS Tryz.underlying82) (wu32 (by omega) (by omega))) rfl (R2 (xm9 (n:=2) [x%4294967296,x / 4294967296] Tryz.underlying144 el157 zf157 rfl rfl rfl) rfl rfl (RE (x3 (xp8 _) fi196 rfl) ⟨rfl,trivial⟩ trivial trivial ?_)))
 refine A4 ?_
 exact x4 Plain.mk' rfl rfl (Le.of (by rw [xe6 xa2 (Dig.cons (Nat.mod_lt _ (by decide)) (Dig.cons (by omega) (Dig.nil _))),xk4,xk4,val_nil,Nat.mul_zero,Nat.add_zero,Nat.mod_add_div]))
theorem c_head1 (xs:List Nat) (j:Int) (i:Nat) (hj:j=(i:Int)) (hxi:xs.getD i 0 < 4294967296):
  CtG Tryz.prog 214 [(3,⟨144,1,false,[.val (tWs xs)]⟩)] [.val (tI j),.own (.ptr 3 0)] (.val (tE (.int .u64 ((xs.getD i 0:Nat):Int)))) [(3,⟨144,1,false,[.val (tWs xs)]⟩)] []:=by
 refine CtG.intro [3] Tryz.func214 rfl Tryz.ntmps214 rfl rfl ⟨⟨rfl,(SupX.lit rfl)⟩,trivial⟩ ?_
 intro w F η
 subst hj
 refine A14 ?_
 refine x9 rfl (fun h66=> ?_) (fun h66=> ?_)
 ·
  refine A7 ?_
  exact xf9 LentC.mk' rfl rfl (Imp.int (by rw [List.getD_eq_getElem?_getD,List.getElem?_eq_none (by omega)];rfl)) ⟨rfl,trivial⟩ rfl ⟨⟨rfl,(SupX.lit rfl)⟩,trivial⟩ rfl
 ·
  refine A6 ?_
  refine R2 (x6 sl144 (i) (by omega) (gN (by omega))) rfl rfl ?_
  refine A1 ?_
  refine R1 (x7 Tryz.underlying82 (isS Tryz.underlying157) (by first | exact wu64 (by omega) (by omega) | exact mu64)) rfl ?_
  refine A4 ?_
  exact xf9 LentC.mk' rfl rfl Imp.refl ⟨rfl,trivial⟩ rfl ⟨⟨rfl,(SupX.lit rfl)⟩,trivial⟩ rfl
theorem c_head (a n s k:Nat) (hn:n=k+3) (hs:s≤31) (h:a*2 ^ s < 4294967296 ^ n) (hk:k≤1000000):
  Ct Tryz.prog 209 [tN a,tI n,tI s] (tE (.int .u64 ((a*2 ^ s / 4294967296 ^ (k+1):Nat):Int))):=by
 subst hn
 have ha:a < 4294967296 ^ (k+3):=Nat.lt_of_le_of_lt (Nat.le_mul_of_pos_right a (Nat.pow_pos (by decide))) h
 have w1:=xb7 xa2 a (k+2)
 have w2:=xb7 xa2 a (k+1)
 have w3:=xb7 xa2 a k
 have l1:=(xb6 xa2 a).getD (by decide) (k+2)
 have l2:=(xb6 xa2 a).getD (by decide) (k+1)
 have l3:=(xb6 xa2 a).getD (by decide) k
 have htop:=head_top ha
 have heq:a*2 ^ s / 4294967296 ^ (k+1)=a / 4294967296 ^ k%4294967296 / 2 ^ (32 - s)+a / 4294967296 ^ (k+1)*2 ^ s:=head_eq a k s hs
 have hlt:a*2 ^ s / 4294967296 ^ (k+1) < 18446744073709551616:=head_lt (n:=k+3) (by omega) h
 have hm:((dig 4294967296 a).getD (k+1) 0)+((dig 4294967296 a).getD (k+2) 0)*2 ^ 32=a / 4294967296 ^ (k+1):=by rw [w1,w2];exact htop.symm
 rw [←w3] at heq
 rw [←hm] at heq
 have hlow:((dig 4294967296 a).getD (k) 0) / 2 ^ (32 - s) < 2 ^ s:=Nat.div_lt_of_lt_mul (by rw [←Nat.pow_add,show 32 - s+s=32 by omega];exact l3)
 have hp0:=Nat.zero_le (((dig 4294967296 a).getD (k) 0) / 2 ^ (32 - s))
 refine Ct.intro Tryz.func209 rfl Tryz.ntmps209 rfl ?_
 intro w F
 refine A8 ?_
 refine R1 (xh9 (ps:=[.ptr 3 0]) rfl) rfl ?_
 refine A8 ?_
 refine RE (xm0 (ps:=[.val (tI _)]) (caps:=[.ptr 3 0]) (fun _=>3) (c_head1 _ _ (k+2) (by omega) (by omega)) fi214 rfl (krC (ρ:=fun _=>3) (k:=3) rfl (krN (ρ:=fun _=>3))) (krC (ρ:=fun _=>3) (k:=3) rfl (krN (ρ:=fun _=>3))) ⟨⟨rfl,(SupX.lit rfl)⟩,trivial⟩ rfl) ⟨rfl,rfl,trivial⟩ ⟨rfl,trivial⟩ trivial (R2 (d_shl (by decide) (shl32 (by omega))) rfl rfl ?_)
 refine A3 ?_
 refine RE (xm0 (ps:=[.val (tI _)]) (caps:=[.ptr 3 0]) (fun _=>3) (c_head1 _ _ (k+1) (by omega) (by omega)) fi214 rfl (krC (ρ:=fun _=>3) (k:=3) rfl (krN (ρ:=fun _=>3))) (krC (ρ:=fun _=>3) (k:=3) rfl (krN (ρ:=fun _=>3))) ⟨⟨rfl,(SupX.lit rfl)⟩,trivial⟩ rfl) ⟨rfl,rfl,trivial⟩ ⟨rfl,trivial⟩ trivial (R2 (d_or (or32 (by omega) (by omega))) rfl rfl ?_)
 refine A1 ?_
 refine R2 (d_shl (by omega) (shlN64 (s:=s) rfl (by omega) (by omega))) rfl rfl ?_
 refine A3 ?_
 refine RE (xm0 (ps:=[.val (tI _)]) (caps:=[.ptr 3 0]) (fun _=>3) (c_head1 _ _ (k) (by omega) (by omega)) fi214 rfl (krC (ρ:=fun _=>3) (k:=3) rfl (krN (ρ:=fun _=>3))) (krC (ρ:=fun _=>3) (k:=3) rfl (krN (ρ:=fun _=>3))) ⟨⟨rfl,(SupX.lit rfl)⟩,trivial⟩ rfl) ⟨rfl,rfl,trivial⟩ ⟨rfl,trivial⟩ trivial ?_
 refine A1 ?_
 refine R2 (xe4 (r:=((32 - s:Nat):Int)) (by rw [wr64 (by omega) (by omega)];omega)) rfl rfl (R2 (xh4 (by omega) (shrN (s:=32 - s) rfl (by show 32 - s≤64;omega))) rfl rfl (R2 (d_or (or_sum' _ _ s rfl rfl hlow (wu64 (by omega) (by omega)) (by show _ < 18446744073709551616;omega))) rfl rfl ?_))
 refine A4 ?_
 exact x4 Plain.mk' rfl rfl (Le.int (congrArg _ heq.symm))
theorem xr5 (u a v b:Nat) (hu:u < 4294967296) (hvv:v < 4294967296) (hle:v*b≤u*a) (ha:(dig 4294967296 a).length≤100000) (hb:(dig 4294967296 b).length≤100000):
  Ct Tryz.prog 199 [tE (.int .u64 (u:Int)),tN a,tE (.int .u64 (v:Int)),tN b] (tN (u*a - v*b)):=by
 refine Ct.intro Tryz.func199 rfl Tryz.ntmps199 rfl ?_
 intro w F
 refine A11 ?_
 refine R2 d_max2 rfl rfl ?_
 refine A1 ?_
 refine RE (xh1 (k:=20) (t:=tE (.int .u32 0)) (ts:=rW .u32 (List.replicate ((max (dig 4294967296 a).length (dig 4294967296 b).length+1)) 0)) ((max (dig 4294967296 a).length (dig 4294967296 b).length+1)) ((max (dig 4294967296 a).length (dig 4294967296 b).length+1)) Tryz.underlying144 el157 (fun _ _=>rfl) rfl (by omega) (by omega) (Nat.le_refl _) (by omega) (by omega) (xo6 _)) ⟨rfl,rfl,trivial⟩ trivial ⟨rfl,trivial⟩ ?_
 refine A18 ?_
 refine A1 ?_
 refine cL (fun (fm:(Nat)×(List Nat)×(Nat)×(Nat)×(Nat))=>(fun (i:Nat) (ws:List Nat) (x:Nat) (y:Nat) (br:Nat)=>i≤(max (dig 4294967296 a).length (dig 4294967296 b).length+1)∧ws.length=(max (dig 4294967296 a).length (dig 4294967296 b).length+1)∧Dig 4294967296 ws∧x=u*(a%4294967296 ^ i) / 4294967296 ^ i∧y=v*(b%4294967296 ^ i) / 4294967296 ^ i∧br≤1∧val 4294967296 (ws.take i)+v*(b%4294967296 ^ i)+x*4294967296 ^ i=u*(a%4294967296 ^ i)+y*4294967296 ^ i+br*4294967296 ^ i) fm.1 fm.2.1 fm.2.2.1 fm.2.2.2.1 fm.2.2.2.2) (fun (fm:(Nat)×(List Nat)×(Nat)×(Nat)×(Nat))=>(fun (i:Nat) (ws:List Nat) (x:Nat) (y:Nat) (br:Nat)=>upd (upd (upd (upd (upd (upd (upd (upd (upd (upd (fun _=>none) 0 (some (.val (tE (.int .u64 ((u:Nat):Int)))))) 1 (some (.val (tN a)))) 2 (some (.val (tE (.int .u64 ((v:Nat):Int)))))) 3 (some (.val (tN b)))) 9 (some (.own (.sl 20 1 0 (max (dig 4294967296 a).length (dig 4294967296 b).length+1))))) 12 (some (.val (tE (.int .u32 (br:Int)))))) 22 (some (.val (tI (max (dig 4294967296 a).length (dig 4294967296 b).length+1))))) 23 (some (.val (tI i)))) 10 (some (.val (tE (.int .u64 ((x:Nat):Int)))))) 11 (some (.val (tE (.int .u64 ((y:Nat):Int)))))) fm.1 fm.2.1 fm.2.2.1 fm.2.2.2.1 fm.2.2.2.2) (fun (fm:(Nat)×(List Nat)×(Nat)×(Nat)×(Nat))=>(fun (i:Nat) (ws:List Nat) (x:Nat) (y:Nat) (br:Nat)=>upd (fun _=>none) 20 (some (⟨157,1,false,rW .u32 ws⟩))) fm.1 fm.2.1 fm.2.2.1 fm.2.2.2.1 fm.2.2.2.2) [20] (fun (fm:(Nat)×(List Nat)×(Nat)×(Nat)×(Nat))=>(fun (i:Nat) (ws:List Nat) (x:Nat) (y:Nat) (br:Nat)=>(max (dig 4294967296 a).length (dig 4294967296 b).length+1) - i) fm.1 fm.2.1 fm.2.2.1 fm.2.2.2.1 fm.2.2.2.2) ((0,List.replicate (max (dig 4294967296 a).length (dig 4294967296 b).length+1) 0,0,0,0)) (by dsimp only;exact ⟨Nat.zero_le _,by simp,Dig.rep (by decide) _,by simp [Nat.mod_one],by simp [Nat.mod_one],by omega,by simp [Nat.mod_one,val]⟩) (hh:=((SubK.consI rfl ImpK.refl) SubK.nil)) ?_
 intro fm hI
 obtain ⟨i,ws,x,y,br⟩:=fm
 replace hI:i≤(max (dig 4294967296 a).length (dig 4294967296 b).length+1)∧ws.length=(max (dig 4294967296 a).length (dig 4294967296 b).length+1)∧Dig 4294967296 ws∧x=u*(a%4294967296 ^ i) / 4294967296 ^ i∧y=v*(b%4294967296 ^ i) / 4294967296 ^ i∧br≤1∧val 4294967296 (ws.take i)+v*(b%4294967296 ^ i)+x*4294967296 ^ i=u*(a%4294967296 ^ i)+y*4294967296 ^ i+br*4294967296 ^ i:=hI
 show wc _ _ _ _ (upd (upd (upd (upd (upd (upd (upd (upd (upd (upd (fun _=>none) 0 (some (.val (tE (.int .u64 ((u:Nat):Int)))))) 1 (some (.val (tN a)))) 2 (some (.val (tE (.int .u64 ((v:Nat):Int)))))) 3 (some (.val (tN b)))) 9 (some (.own (.sl 20 1 0 (max (dig 4294967296 a).length (dig 4294967296 b).length+1))))) 12 (some (.val (tE (.int .u32 (br:Int)))))) 22 (some (.val (tI (max (dig 4294967296 a).length (dig 4294967296 b).length+1))))) 23 (some (.val (tI i)))) 10 (some (.val (tE (.int .u64 ((x:Nat):Int)))))) 11 (some (.val (tE (.int .u64 ((y:Nat):Int)))))) (upd (fun _=>none) 20 (some (⟨157,1,false,rW .u32 ws⟩))) _
 obtain ⟨hi,hl,hD,hx,hy,hbr,hv⟩:=hI
 refine A6 ?_
 refine x9 rfl (fun h78=> ?_) (fun h78=> ?_)
 ·
  have xW:x < 4294967296:=carry_lt hu hx
  have yW:y < 4294967296:=carry_lt hvv hy
  refine A10 ?_
  refine xg0 (fun (X:Nat)=>X=x+u*(a / 4294967296 ^ i%4294967296)∧X < 18446744073709551616) (fun (X:Nat)=>upd (upd (upd (upd (upd (upd (upd (upd (upd (upd (upd (fun _=>none) 0 (some (.val (tE (.int .u64 ((u:Nat):Int)))))) 1 (some (.val (tN a)))) 2 (some (.val (tE (.int .u64 ((v:Nat):Int)))))) 3 (some (.val (tN b)))) 9 (some (.own (.sl 20 1 0 (max (dig 4294967296 a).length (dig 4294967296 b).length+1))))) 12 (some (.val (tE (.int .u32 (br:Int)))))) 22 (some (.val (tI (max (dig 4294967296 a).length (dig 4294967296 b).length+1))))) 23 (some (.val (tI i)))) 10 (some (.val (tE (.int .u64 ((X:Nat):Int)))))) 11 (some (.val (tE (.int .u64 ((y:Nat):Int)))))) 13 (some (.val (tI i)))) (fun (X:Nat)=>upd (fun _=>none) 20 (some (⟨157,1,false,rW .u32 ws⟩))) (nm [20]) ?_ ?_
  ·
   refine A8 ?_
   refine x9 rfl (fun h79=> ?_) (fun h79=> ?_)
   ·
    have ai:=xb7 xa2 a i
    have ai1:=(xb6 xa2 a).getD (by decide) i
    have ua:=mul_lt32 hu ai1
    refine A5 ?_
    refine R2 (x6 sl144 (i) (by omega) (gN (by omega))) rfl rfl ?_
    refine A1 ?_
    refine R1 (x7 Tryz.underlying82 (isS Tryz.underlying157) (by first | exact wu64 (by omega) (by omega) | exact mu64)) rfl (R2 (xi5 (wmul64 (by omega))) rfl rfl (R2 (xc9 (wadd64 (by omega))) rfl rfl ?_))
    refine A2 ?_
    exact kF ((x+u*(dig 4294967296 a).getD i 0)) ⟨by rw [ai],by omega⟩ (hh:=((SubK.consI rfl ImpK.refl) SubK.nil))
   ·
    refine A1 ?_
    exact kF (x) ⟨by rw [xn0 xa2 (by omega),Nat.mul_zero,Nat.add_zero],by omega⟩ (hh:=((SubK.consI rfl ImpK.refl) SubK.nil))
  ·
   intro X hX
   refine xg0 (fun (Y:Nat)=>Y=y+v*(b / 4294967296 ^ i%4294967296)∧Y < 18446744073709551616) (fun (Y:Nat)=>upd (upd (upd (upd (upd (upd (upd (upd (upd (upd (upd (fun _=>none) 0 (some (.val (tE (.int .u64 ((u:Nat):Int)))))) 1 (some (.val (tN a)))) 2 (some (.val (tE (.int .u64 ((v:Nat):Int)))))) 3 (some (.val (tN b)))) 9 (some (.own (.sl 20 1 0 (max (dig 4294967296 a).length (dig 4294967296 b).length+1))))) 12 (some (.val (tE (.int .u32 (br:Int)))))) 22 (some (.val (tI (max (dig 4294967296 a).length (dig 4294967296 b).length+1))))) 23 (some (.val (tI i)))) 10 (some (.val (tE (.int .u64 ((X:Nat):Int)))))) 11 (some (.val (tE (.int .u64 ((Y:Nat):Int)))))) 13 (some (.val (tI i)))) (fun (Y:Nat)=>upd (fun _=>none) 20 (some (⟨157,1,false,rW .u32 ws⟩))) (nm [20]) ?_ ?_
   ·
    refine A8 ?_
    refine x9 rfl (fun h82=> ?_) (fun h82=> ?_)
    ·
     have bi:=xb7 xa2 b i
     have bi1:=(xb6 xa2 b).getD (by decide) i
     have vb:=mul_lt32 hvv bi1
     refine A5 ?_
     refine R2 (x6 sl144 (i) (by omega) (gN (by omega))) rfl rfl ?_
     refine A1 ?_
     refine R1 (x7 Tryz.underlying82 (isS Tryz.underlying157) (by first | exact wu64 (by omega) (by omega) | exact mu64)) rfl (R2 (xi5 (wmul64 (by omega))) rfl rfl (R2 (xc9 (wadd64 (by omega))) rfl rfl ?_))
     refine A2 ?_
     exact kF ((y+v*(dig 4294967296 b).getD i 0)) ⟨by rw [bi],by omega⟩ (hh:=((SubK.consI rfl ImpK.refl) SubK.nil))
    ·
     refine A1 ?_
     exact kF (y) ⟨by rw [xn0 xa2 (by omega),Nat.mul_zero,Nat.add_zero],by omega⟩ (hh:=((SubK.consI rfl ImpK.refl) SubK.nil))
   ·
    intro Y hY
    refine A5 ?_
    refine R1 (x7 Tryz.underlying157 (isS Tryz.underlying82) cut32) rfl ?_
    refine A1 ?_
    refine R1 (x7 Tryz.underlying157 (isS Tryz.underlying82) cut32) rfl ?_
    refine A1 ?_
    refine RE (x3 (c_Sub32 _ _ _ (Nat.mod_lt _ (by decide)) (Nat.mod_lt _ (by decide)) (by omega)) fi208 rfl) ⟨rfl,rfl,rfl,trivial⟩ trivial trivial ?_
    refine A3 ?_
    refine R2 (xa5 sl144 (by omega) (by omega) rfl) rfl rfl (RE (xc3 (i) ti157 (xj5 (by omega)) (by omega) (xh3 (m:=_) rfl)) ⟨rfl,rfl,trivial⟩ ⟨rfl,trivial⟩ trivial ?_)
    refine A6 ?_
    refine R2 (xh4 (by decide) shr32) rfl rfl ?_
    refine A5 ?_
    refine R2 (xh4 (by decide) shr32) rfl rfl ?_
    refine A8 ?_
    obtain ⟨n1,n2,n3,n4,n5⟩:=diff_in (X:=X) (Y:=Y) (br':=subB (X%4294967296) (Y%4294967296) br) (by omega) hl hD hx hy hv hX.1 hY.1 (subD_add (Nat.mod_lt _ (by decide)) (Nat.mod_lt _ (by decide)) hbr) (subD_lt _ _ _)
    have n6:=subB_le (X%4294967296) (Y%4294967296) br
    exact kF ((i+1,ws.set i (subD (X%4294967296) (Y%4294967296) br),X / 4294967296,Y / 4294967296,subB (X%4294967296) (Y%4294967296) br)) ⟨(by dsimp only;exact ⟨by omega,n1,n2,n3,n4,n6,n5⟩),(by dsimp only;omega)⟩ (hh:=((SubK.consI rfl ImpK.refl) SubK.nil))
 ·
  refine A7 ?_
  refine RE (xf8 (fun _ h=>h) (xi7 hl) hl) ⟨rfl,trivial⟩ ⟨rfl,trivial⟩ trivial (RE (x3 (xp8 _) fi196 rfl) ⟨rfl,trivial⟩ trivial trivial ?_)
  refine A4 ?_
  have him:i=(max (dig 4294967296 a).length (dig 4294967296 b).length+1):=by omega
  subst him
  have hfin:=diff_end hl hD ((xa9 xa2 a _).1 (Nat.le_max_left _ _)) ((xa9 xa2 b _).1 (Nat.le_max_right _ _)) hu hvv hx hy hv hle
  exact x4 Plain.mk' rfl rfl (Le.of (congrArg tWs hfin))
end An.S
namespace An
def Steps (a b u0 u1 v0 v1:Nat) (e:Bool):Prop:=
 u0 < 4294967296∧u1 < 4294967296∧v0 < 4294967296∧v1 < 4294967296∧
  ∃x y,(e=true→u0*a=v0*b+x∧v1*b=u1*a+y)∧(e=false→v0*b=u0*a+x∧u1*a=v1*b+y)∧y≤x∧x+y≤a∧Nat.gcd x y=Nat.gcd a b
def sg (e:Bool):Int:=if e then -1 else 1
structure Sim (α β a1 a2 u1 v1 u2 v2:Nat) (e:Bool):Prop where
  h1:(a1:Int)=sg e*(u1*α - v1*β)
  h2:(a2:Int)= - (sg e*(u2*α - v2*β))
  det:(u1:Int)*v2 - u2*v1=sg e
  le1:u2≤v2
  le2:u1+u2≤v1+v2
  pos:1≤v2
  ge:a2≤a1
theorem combA {σ u1 v1 u2 v2 A B:Int} (hσ:σ*σ=1) (hd:u1*v2 - u2*v1=σ):v2*(σ*(u1*A - v1*B))+v1*(-(σ*(u2*A - v2*B)))=A:=by grind
theorem combB {σ u1 v1 u2 v2 A B:Int} (hσ:σ*σ=1) (hd:u1*v2 - u2*v1=σ):u2*(σ*(u1*A - v1*B))+u1*(-(σ*(u2*A - v2*B)))=B:=by grind
theorem sg_sq (e:Bool):sg e*sg e=1:=by cases e <;> rfl
theorem sg_not (e:Bool):sg (!e)= - sg e:=by cases e <;> rfl
theorem Sim.sumA {α β a1 a2 u1 v1 u2 v2:Nat} {e:Bool} (s:Sim α β a1 a2 u1 v1 u2 v2 e):v2*a1+v1*a2=α:=by
 have h:=sg_sq e
 have h1:=s.h1;have h2:=s.h2;have hd:=s.det
 have:(v2:Int)*a1+v1*a2=α:=by rw [h1,h2];exact combA h hd
 exact_mod_cast this
theorem Sim.sumB {α β a1 a2 u1 v1 u2 v2:Nat} {e:Bool} (s:Sim α β a1 a2 u1 v1 u2 v2 e):u2*a1+u1*a2=β:=by
 have h:=sg_sq e
 have h1:=s.h1;have h2:=s.h2;have hd:=s.det
 have:(u2:Int)*a1+u1*a2=β:=by rw [h1,h2];exact combB h hd
 exact_mod_cast this
theorem Sim.init {α β:Nat} (h:β≤α):Sim α β α β 1 0 0 1 false:=⟨by simp [sg],by simp [sg],by simp [sg],by omega,by omega,by omega,h⟩
theorem Sim.step {α β a1 a2 u1 v1 u2 v2:Nat} {e:Bool} (s:Sim α β a1 a2 u1 v1 u2 v2 e) (hc:v2≤a2):Sim α β a2 (a1%a2) u2 v2 (u1+a1 / a2*u2) (v1+a1 / a2*v2) (!e):=by
 have h0:1≤a2:=by have:=s.pos;omega
 have hq:1≤a1 / a2:=(Nat.le_div_iff_mul_le h0).2 (by have:=s.ge;omega)
 have hdm:=Nat.div_add_mod a1 a2
 have hm:((a1%a2:Nat):Int)=a1 - a2*((a1 / a2:Nat):Int):=by
  have:((a2*(a1 / a2)+a1%a2:Nat):Int)=a1:=by rw [hdm]
  rw [Int.natCast_add,Int.natCast_mul] at this;omega
 have h1:=s.h1;have h2:=s.h2;have hd:=s.det
 refine ⟨?_,?_,?_,?_,?_,?_,Nat.le_of_lt (Nat.mod_lt _ h0)⟩
 ·rw [sg_not,h2];generalize sg e=σ at*;grind
 ·rw [hm,sg_not]
  simp only [Int.natCast_add,Int.natCast_mul]
  generalize sg e=σ at*
  generalize ((a1 / a2:Nat):Int)=q at*
  grind
 ·rw [sg_not,←hd]
  simp only [Int.natCast_add,Int.natCast_mul]
  generalize ((a1 / a2:Nat):Int)=q at*
  grind
 ·generalize a1 / a2=q at*
  obtain ⟨p,rfl⟩: ∃p,q=p+1:=⟨q - 1,by omega⟩
  rw [Nat.add_mul,Nat.add_mul]
  have:=Nat.mul_le_mul_left p s.le1
  have:=s.le2
  omega
 ·generalize a1 / a2=q at*
  obtain ⟨p,rfl⟩: ∃p,q=p+1:=⟨q - 1,by omega⟩
  rw [Nat.add_mul,Nat.add_mul]
  have:=Nat.mul_le_mul_left p s.le1
  have:=s.le2;have:=s.le1
  omega
 ·have:=Nat.mul_le_mul hq s.pos
  omega
theorem Sim.small {α β a1 a2 u1 v1 u2 v2:Nat} {e:Bool} (s:Sim α β a1 a2 u1 v1 u2 v2 e) (hc:v2≤a2) (hα:α < 18446744073709551616) (hβ:β≤α):
  v1+v2 < 18446744073709551616∧u1 < 18446744073709551616∧a1 / a2*u2 < 18446744073709551616∧u1+a1 / a2*u2 < 18446744073709551616∧a1 / a2*v2 < 18446744073709551616∧v1+a1 / a2*v2 < 18446744073709551616:=by
 have hA:=s.sumA
 have hB:=s.sumB
 have h0:=s.pos
 have hge:=s.ge
 have k1:v2≤v2*a1:=Nat.le_mul_of_pos_right _ (by omega)
 have k2:v1≤v1*a2:=Nat.le_mul_of_pos_right _ (by omega)
 have k3:u1≤u1*a2:=Nat.le_mul_of_pos_right _ (by omega)
 have k4:a1 / a2*u2≤a1*u2:=Nat.mul_le_mul_right _ (Nat.div_le_self _ _)
 have k5:a1 / a2*v2≤a1*v2:=Nat.mul_le_mul_right _ (Nat.div_le_self _ _)
 rw [Nat.mul_comm a1] at k4 k5
 omega
theorem Sim.small32 {α β a1 a2 u1 v1 u2 v2:Nat} {e:Bool} (s:Sim α β a1 a2 u1 v1 u2 v2 e) (hc:v2≤a2) (hα:α < 18446744073709551616):u2 < 4294967296∧v2 < 4294967296:=by
 have hA:=s.sumA
 have h0:=s.pos
 have hge:=s.ge
 have h1:v2*v2≤v2*a1:=Nat.mul_le_mul_left _ (by omega)
 have h2:v2 < 4294967296:=by
  rcases Nat.lt_or_ge v2 4294967296 with h | h
  ·exact h
  ·have:=Nat.mul_le_mul h h
   omega
 have:=s.le1
 omega
theorem Sim.whole {a b P:Nat} {α β a1 a2 u1 v1 u2 v2:Nat} {e:Bool} (s:Sim α β a1 a2 u1 v1 u2 v2 e) (hP:0 < P) (hα:a / P=α) (hβ:b / P=β) (hc:v2≤a2) (hd:v1+v2≤a1 - a2):
  ∃x y:Nat,(x:Int)=sg e*(u1*a - v1*b)∧(y:Int)= -(sg e*(u2*a - v2*b))∧y≤x∧v2*x+v1*y=a∧Nat.gcd x y=Nat.gcd a b:=by
 have hσ:=sg_sq e
 have h1:=s.h1;have h2:=s.h2;have hdet:=s.det
 have ha:=Nat.div_add_mod a P
 have hb:=Nat.div_add_mod b P
 have ra:=Nat.mod_lt a hP
 have rb:=Nat.mod_lt b hP
 rw [hα] at ha;rw [hβ] at hb
 generalize a%P=ρ at*
 generalize b%P=τ at*
 have ha':(a:Int)=P*α+ρ:=by rw [←ha];simp
 have hb':(b:Int)=P*β+τ:=by rw [←hb];simp
 have l1:=s.le1;have l2:=s.le2;have hge:=s.ge
 have b1:u2*ρ≤v2*(P - 1):=Nat.mul_le_mul l1 (by omega)
 have b2:v2*τ≤v2*(P - 1):=Nat.mul_le_mul_left _ (by omega)
 have b3:(u1+u2)*ρ≤(v1+v2)*(P - 1):=Nat.mul_le_mul l2 (by omega)
 have b4:(v1+v2)*τ≤(v1+v2)*(P - 1):=Nat.mul_le_mul_left _ (by omega)
 have b5:v2*P≤a2*P:=Nat.mul_le_mul_right _ hc
 have b6:(v1+v2)*P≤(a1 - a2)*P:=Nat.mul_le_mul_right _ hd
 have b7:v2*(P - 1)≤v2*P:=Nat.mul_le_mul_left _ (by omega)
 have b8:(v1+v2)*(P - 1)≤(v1+v2)*P:=Nat.mul_le_mul_left _ (by omega)
 have c1:((u2*ρ:Nat):Int)≤((a2*P:Nat):Int):=by omega
 have c2:((v2*τ:Nat):Int)≤((a2*P:Nat):Int):=by omega
 have c3:(((u1+u2)*ρ:Nat):Int)≤(((a1 - a2)*P:Nat):Int):=by omega
 have c4:(((v1+v2)*τ:Nat):Int)≤(((a1 - a2)*P:Nat):Int):=by omega
 have p1:(0:Int)≤((u2*ρ:Nat):Int):=by omega
 have p2:(0:Int)≤((v2*τ:Nat):Int):=by omega
 have p3:(0:Int)≤(((u1+u2)*ρ:Nat):Int):=by omega
 have p4:(0:Int)≤(((v1+v2)*τ:Nat):Int):=by omega
 rw [Int.natCast_mul,Int.natCast_mul,] at c1 c2
 rw [Int.natCast_mul,Int.natCast_mul,Int.natCast_add,Int.natCast_sub hge] at c3 c4
 rw [Int.natCast_mul] at p1 p2
 rw [Int.natCast_mul,Int.natCast_add] at p3 p4
 have hy:(0:Int)≤ -(sg e*(u2*a - v2*b)):=by
  rw [ha',hb']
  have e1: -(sg e*((u2:Int)*(P*α+ρ) - v2*(P*β+τ)))=a2*P - sg e*(u2*ρ - v2*τ):=by
   rw [h2];generalize sg e=σ;grind
  rw [e1]
  cases e with
  | false=>simp only [sg,Bool.false_eq_true,↓reduceIte];omega
  | true=>simp only [sg,↓reduceIte];omega
 have hxy:(0:Int)≤sg e*(u1*a - v1*b) - -(sg e*(u2*a - v2*b)):=by
  rw [ha',hb']
  have e1:sg e*((u1:Int)*(P*α+ρ) - v1*(P*β+τ)) - -(sg e*((u2:Int)*(P*α+ρ) - v2*(P*β+τ)))=(a1 - a2)*P+sg e*((u1+u2)*ρ - (v1+v2)*τ):=by
   rw [h1,h2];generalize sg e=σ;grind
  rw [e1]
  cases e with
  | false=>simp only [sg,Bool.false_eq_true,↓reduceIte];omega
  | true=>simp only [sg,↓reduceIte];omega
 obtain ⟨y,hy'⟩:=Int.eq_ofNat_of_zero_le hy
 obtain ⟨x,hx'⟩:=Int.eq_ofNat_of_zero_le (show (0:Int)≤sg e*(u1*a - v1*b) by omega)
 have hle:y≤x:=by omega
 have eA:(v2:Int)*x+v1*y=a:=by
  rw [←hx',←hy'];exact combA hσ hdet
 have eB:(u2:Int)*x+u1*y=b:=by
  rw [←hx',←hy'];exact combB hσ hdet
 have eA':v2*x+v1*y=a:=by exact_mod_cast eA
 have eB':u2*x+u1*y=b:=by exact_mod_cast eB
 refine ⟨x,y,hx'.symm,hy'.symm,hle,eA',?_⟩
 apply Nat.dvd_antisymm
 ·refine Nat.dvd_gcd ?_ ?_
  ·rw [←eA'];exact Nat.dvd_add (Nat.dvd_mul_left_of_dvd (Nat.gcd_dvd_left x y) _) (Nat.dvd_mul_left_of_dvd (Nat.gcd_dvd_right x y) _)
  ·rw [←eB'];exact Nat.dvd_add (Nat.dvd_mul_left_of_dvd (Nat.gcd_dvd_left x y) _) (Nat.dvd_mul_left_of_dvd (Nat.gcd_dvd_right x y) _)
 ·have ga:((Nat.gcd a b:Nat):Int) ∣ (a:Int):=Int.natCast_dvd_natCast.2 (Nat.gcd_dvd_left a b)
  have gb:((Nat.gcd a b:Nat):Int) ∣ (b:Int):=Int.natCast_dvd_natCast.2 (Nat.gcd_dvd_right a b)
  refine Nat.dvd_gcd ?_ ?_
  ·apply Int.natCast_dvd_natCast.1
   have hx2:(x:Int)=sg e*(u1*a - v1*b):=hx'.symm
   rw [hx2]
   exact Int.dvd_mul_of_dvd_right (Int.dvd_sub (Int.dvd_mul_of_dvd_right ga) (Int.dvd_mul_of_dvd_right gb))
  ·apply Int.natCast_dvd_natCast.1
   have hy2:(y:Int)= -(sg e*(u2*a - v2*b)):=hy'.symm
   rw [hy2]
   exact Int.dvd_neg.2 (Int.dvd_mul_of_dvd_right (Int.dvd_sub (Int.dvd_mul_of_dvd_right ga) (Int.dvd_mul_of_dvd_right gb)))
theorem Sim.steps {a b P s:Nat} {α β a1 a2 u1 v1 u2 v2:Nat} {e:Bool} (t:Sim α β a1 a2 u1 v1 u2 v2 e) (hP:0 < P) (hα:a*2 ^ s / P=α) (hβ:b*2 ^ s / P=β) (hc:v2≤a2) (hd:v1+v2≤a1 - a2) (hW:α < 18446744073709551616) (hu1:u1 < 4294967296) (hv1:v1 < 4294967296):
  v1=0∨Steps a b u1 u2 v1 v2 (!e):=by
 rcases Nat.eq_zero_or_pos v1 with h | h
 ·exact .inl h
 ·refine .inr ?_
  obtain ⟨k1,k2⟩:=t.small32 hc hW
  obtain ⟨X,Y,hX,hY,hle,hA,hg⟩:=t.whole hP hα hβ hc hd
  have h2s:0 < 2 ^ s:=Nat.pow_pos (by omega)
  have hc2:((2 ^ s:Nat):Int)≠0:=by omega
  have fac: ∀(Z:Nat) (w:Int),(Z:Int)=((2 ^ s:Nat):Int)*w→ ∃z:Nat,(z:Int)=w∧Z=2 ^ s*z:=fun Z w hZ=>by
   have hw:0≤w:=by
    rcases Int.lt_or_le w 0 with h' | h'
    ·have h1:((2 ^ s:Nat):Int)*w < 0:=Int.mul_neg_of_pos_of_neg (by omega) h'
     omega
    ·exact h'
   obtain ⟨z,hz⟩:=Int.eq_ofNat_of_zero_le hw
   refine ⟨z,hz.symm,?_⟩
   have:(Z:Int)=((2 ^ s*z:Nat):Int):=by rw [hZ,hz,Int.natCast_mul]
   exact_mod_cast this
  have ea:((a*2 ^ s:Nat):Int)=a*((2 ^ s:Nat):Int):=Int.natCast_mul _ _
  have eb:((b*2 ^ s:Nat):Int)=b*((2 ^ s:Nat):Int):=Int.natCast_mul _ _
  rw [ea,eb] at hX hY
  obtain ⟨x,hx,rfl⟩:=fac X (sg e*(u1*a - v1*b)) (by rw [hX];generalize sg e=σ;generalize ((2 ^ s:Nat):Int)=p;grind)
  obtain ⟨y,hy,rfl⟩:=fac Y (-(sg e*(u2*a - v2*b))) (by rw [hY];generalize sg e=σ;generalize ((2 ^ s:Nat):Int)=p;grind)
  refine ⟨hu1,k1,hv1,k2,x,y,fun he=> ?_,fun he=> ?_,Nat.le_of_mul_le_mul_left hle h2s,?_,?_⟩
  ·have he':e=false:=by cases e <;> simp_all
   subst he'
   simp only [sg,Bool.false_eq_true,↓reduceIte] at hx hy
   have h1:((u1*a:Nat):Int)=((v1*b+x:Nat):Int):=by push_cast;omega
   have h2:((v2*b:Nat):Int)=((u2*a+y:Nat):Int):=by push_cast;omega
   exact ⟨by exact_mod_cast h1,by exact_mod_cast h2⟩
  ·have he':e=true:=by cases e <;> simp_all
   subst he'
   simp only [sg,↓reduceIte] at hx hy
   have h1:((v1*b:Nat):Int)=((u1*a+x:Nat):Int):=by push_cast;omega
   have h2:((u2*a:Nat):Int)=((v2*b+y:Nat):Int):=by push_cast;omega
   exact ⟨by exact_mod_cast h1,by exact_mod_cast h2⟩
  ·have h3:2 ^ s*(v2*x+v1*y)=2 ^ s*a:=by
    rw [Nat.mul_comm (2 ^ s) a,←hA,Nat.mul_add];ac_rfl
   have h4:=Nat.eq_of_mul_eq_mul_left h2s h3
   have h5:x≤v2*x:=Nat.le_mul_of_pos_left _ t.pos
   have h6:y≤v1*y:=Nat.le_mul_of_pos_left _ h
   omega
  ·rw [Nat.gcd_mul_left,Nat.mul_comm a,Nat.mul_comm b,Nat.gcd_mul_left] at hg
   exact Nat.eq_of_mul_eq_mul_left h2s hg
end An
namespace An.S
open Go Go.Proofs An
instance ti4:TyI Tryz.prog 4 1 false:=⟨by kernel_rfl,by kernel_rfl⟩
instance ti180:TyI Tryz.prog 180 5 true:=⟨by kernel_rfl,by kernel_rfl⟩
instance fo180_0:FoI Tryz.prog 180 0 0:=⟨by kernel_rfl⟩
instance fo180_1:FoI Tryz.prog 180 1 1:=⟨by kernel_rfl⟩
instance fo180_2:FoI Tryz.prog 180 2 2:=⟨by kernel_rfl⟩
instance fo180_3:FoI Tryz.prog 180 3 3:=⟨by kernel_rfl⟩
instance fo180_4:FoI Tryz.prog 180 4 4:=⟨by kernel_rfl⟩
instance fi193:FnI Tryz.prog 193:=⟨_,Tryz.func193,by kernel_rfl,rfl⟩
instance fi198:FnI Tryz.prog 198:=⟨_,Tryz.func198,by kernel_rfl,rfl⟩
instance fi199:FnI Tryz.prog 199:=⟨_,Tryz.func199,by kernel_rfl,rfl⟩
instance fi200:FnI Tryz.prog 200:=⟨_,Tryz.func200,by kernel_rfl,rfl⟩
instance fi201:FnI Tryz.prog 201:=⟨_,Tryz.func201,by kernel_rfl,rfl⟩
instance fi209:FnI Tryz.prog 209:=⟨_,Tryz.func209,by kernel_rfl,rfl⟩
theorem zr180:(Tryz.prog.info? 180).bind (·.zero)=some (.agg #[.int .u64 0,.int .u64 0,.int .u64 0,.int .u64 0,.bool false])∧ ∀F w,(tS [⟨1,false,(tE (.int .u64 0))⟩,⟨1,false,(tE (.int .u64 0))⟩,⟨1,false,(tE (.int .u64 0))⟩,⟨1,false,(tE (.int .u64 0))⟩,⟨1,false,(tE (.bool false))⟩]).p F w (.agg #[.int .u64 0,.int .u64 0,.int .u64 0,.int .u64 0,.bool false]):=⟨by kernel_rfl,fun _ _=>⟨_,rfl,rfl,⟨fun _=>rfl,rfl⟩,⟨fun _=>rfl,rfl⟩,⟨fun _=>rfl,rfl⟩,⟨fun _=>rfl,rfl⟩,⟨fun _=>rfl,rfl⟩,trivial⟩⟩
theorem bu180:BuI Tryz.prog 180 (fun i=>[(0,1),(1,1),(2,1),(3,1),(4,1)][i]?) (.agg #[.int .u64 0,.int .u64 0,.int .u64 0,.int .u64 0,.bool false]):=BuI.struct Tryz.underlying180 (by kernel_rfl) (by kernel_rfl)
theorem c_simulate (a b:Nat) (hab:b≤a) (hla:3≤(dig 4294967296 a).length) (ha:(dig 4294967296 a).length≤100000):
  Ct Tryz.prog 198 [tN a,tN b] (tX (fun y:Nat×Nat×Nat×Nat×Bool=>y.2.2.1=0∨Steps a b y.1 y.2.1 y.2.2.1 y.2.2.2.1 y.2.2.2.2) (fun y=>tS [⟨1,false,tE (.int .u64 ((y.1:Nat):Int))⟩,⟨1,false,tE (.int .u64 ((y.2.1:Nat):Int))⟩,⟨1,false,tE (.int .u64 ((y.2.2.1:Nat):Int))⟩,⟨1,false,tE (.int .u64 ((y.2.2.2.1:Nat):Int))⟩,⟨1,false,tB y.2.2.2.2⟩])):=by
 refine Ct.intro Tryz.func198 rfl Tryz.ntmps198 rfl ?_
 intro w F
 obtain ⟨k,hk⟩: ∃k,(dig 4294967296 a).length=k+3:=⟨(dig 4294967296 a).length - 3,by omega⟩
 have ht:=(xb6 xa2 a).getD (by decide) (k+2)
 refine A2 ?_
 refine RE (x5 (k:=4) (n:=5) (agg:=true) zr180.1 zr180.2 rfl) trivial trivial ⟨rfl,trivial⟩ ?_
 refine A14 ?_
 refine R2 (x6 sl144 (k+2) (by omega) (gN (by omega))) rfl rfl ?_
 refine A1 ?_
 refine RE (x3 (xv3 _ (by omega)) fi204 rfl) ⟨rfl,trivial⟩ trivial trivial ?_
 refine A8 ?_
 generalize hs:32 - Lib.bitLen ((dig 4294967296 a).getD (k+2) 0)=s
 obtain ⟨hs31,hAW,_h1,_h2,_h3⟩:=norm (m:=k+1) hk hs
 have hBA0:b*2 ^ s≤a*2 ^ s:=Nat.mul_le_mul_right _ hab
 have hBA:(b*2 ^ s / 4294967296 ^ (k+1))≤(a*2 ^ s / 4294967296 ^ (k+1)):=Nat.div_le_div_right hBA0
 have hAL:(a*2 ^ s / 4294967296 ^ (k+1)) < 18446744073709551616:=head_lt (n:=k+3) (by omega) hAW
 refine RE (x3 (c_head a _ s k hk hs31 (by rw [hk];exact hAW) (by omega)) fi209 rfl) ⟨rfl,rfl,rfl,trivial⟩ trivial trivial ?_
 refine A3 ?_
 refine RE (x3 (c_head b _ s k hk hs31 (by rw [hk];exact Nat.lt_of_le_of_lt hBA0 hAW) (by omega)) fi209 rfl) ⟨rfl,rfl,rfl,trivial⟩ trivial trivial ?_
 refine A6 ?_
 refine R1 (xa7 (r:=tS [⟨1,false,(tE (.int .u64 0))⟩,⟨1,false,tE (.int .u64 ((1:Nat):Int))⟩,⟨1,false,(tE (.int .u64 0))⟩,⟨1,false,(tE (.int .u64 0))⟩,⟨1,false,(tE (.bool false))⟩]) (ts:=[(1,tE (.int .u64 ((1:Nat):Int)))]) bu180 zr180.2 (Bc 1 rfl rfl rfl Le.refl)) rfl (RE (x5 (k:=9) (n:=5) (agg:=true) zr180.1 zr180.2 rfl) trivial trivial ⟨rfl,trivial⟩ ?_)
 refine A11 ?_
 refine cL (fun (fm:(Nat)×(Nat)×(Nat)×(Nat)×(Nat)×(Nat)×(Nat)×(Nat)×(Bool))=>(fun (a1:Nat) (a2:Nat) (u0:Nat) (u1:Nat) (v0:Nat) (v1:Nat) (u2:Nat) (v2:Nat) (e:Bool)=>Sim (a*2 ^ s / 4294967296 ^ (k+1)) (b*2 ^ s / 4294967296 ^ (k+1)) a1 a2 u1 v1 u2 v2 e∧(v0=0∨Steps a b u0 u1 v0 v1 e)∧u1 < 4294967296∧v1 < 4294967296) fm.1 fm.2.1 fm.2.2.1 fm.2.2.2.1 fm.2.2.2.2.1 fm.2.2.2.2.2.1 fm.2.2.2.2.2.2.1 fm.2.2.2.2.2.2.2.1 fm.2.2.2.2.2.2.2.2) (fun (fm:(Nat)×(Nat)×(Nat)×(Nat)×(Nat)×(Nat)×(Nat)×(Nat)×(Bool))=>(fun (a1:Nat) (a2:Nat) (u0:Nat) (u1:Nat) (v0:Nat) (v1:Nat) (u2:Nat) (v2:Nat) (e:Bool)=>upd (upd (upd (upd (upd (upd (fun _=>none) 4 (some (.own (.ptr 4 0)))) 7 (some (.val (tE (.int .u64 ((a1:Nat):Int)))))) 8 (some (.val (tE (.int .u64 ((a2:Nat):Int)))))) 9 (some (.own (.ptr 9 0)))) 10 (some (.val (tE (.int .u64 ((u2:Nat):Int)))))) 11 (some (.val (tE (.int .u64 ((v2:Nat):Int)))))) fm.1 fm.2.1 fm.2.2.1 fm.2.2.2.1 fm.2.2.2.2.1 fm.2.2.2.2.2.1 fm.2.2.2.2.2.2.1 fm.2.2.2.2.2.2.2.1 fm.2.2.2.2.2.2.2.2) (fun (fm:(Nat)×(Nat)×(Nat)×(Nat)×(Nat)×(Nat)×(Nat)×(Nat)×(Bool))=>(fun (a1:Nat) (a2:Nat) (u0:Nat) (u1:Nat) (v0:Nat) (v1:Nat) (u2:Nat) (v2:Nat) (e:Bool)=>upd (upd (fun _=>none) 4 (some (⟨180,5,true,[.val (tS [⟨1,false,tE (.int .u64 ((0:Nat):Int))⟩,⟨1,false,tE (.int .u64 ((0:Nat):Int))⟩,⟨1,false,tE (.int .u64 ((0:Nat):Int))⟩,⟨1,false,tE (.int .u64 ((0:Nat):Int))⟩,⟨1,false,tB false⟩])]⟩))) 9 (some (⟨180,5,true,[.val (tS [⟨1,false,tE (.int .u64 ((u0:Nat):Int))⟩,⟨1,false,tE (.int .u64 ((u1:Nat):Int))⟩,⟨1,false,tE (.int .u64 ((v0:Nat):Int))⟩,⟨1,false,tE (.int .u64 ((v1:Nat):Int))⟩,⟨1,false,tB e⟩])]⟩))) fm.1 fm.2.1 fm.2.2.1 fm.2.2.2.1 fm.2.2.2.2.1 fm.2.2.2.2.2.1 fm.2.2.2.2.2.2.1 fm.2.2.2.2.2.2.2.1 fm.2.2.2.2.2.2.2.2) [4,9] (fun (fm:(Nat)×(Nat)×(Nat)×(Nat)×(Nat)×(Nat)×(Nat)×(Nat)×(Bool))=>(fun (a1:Nat) (a2:Nat) (u0:Nat) (u1:Nat) (v0:Nat) (v1:Nat) (u2:Nat) (v2:Nat) (e:Bool)=>a2) fm.1 fm.2.1 fm.2.2.1 fm.2.2.2.1 fm.2.2.2.2.1 fm.2.2.2.2.2.1 fm.2.2.2.2.2.2.1 fm.2.2.2.2.2.2.2.1 fm.2.2.2.2.2.2.2.2) (((a*2 ^ s / 4294967296 ^ (k+1)),(b*2 ^ s / 4294967296 ^ (k+1)),0,1,0,0,0,1,false)) (by dsimp only;exact ⟨Sim.init hBA,.inl rfl,by omega,by omega⟩) (hh:=((SubK.consI rfl ImpK.refl) ((SubK.consI rfl ImpK.refl) SubK.nil))) ?_
 intro fm hI
 obtain ⟨a1,a2,u0,u1,v0,v1,u2,v2,e⟩:=fm
 replace hI:Sim (a*2 ^ s / 4294967296 ^ (k+1)) (b*2 ^ s / 4294967296 ^ (k+1)) a1 a2 u1 v1 u2 v2 e∧(v0=0∨Steps a b u0 u1 v0 v1 e)∧u1 < 4294967296∧v1 < 4294967296:=hI
 show wc _ _ _ _ (upd (upd (upd (upd (upd (upd (fun _=>none) 4 (some (.own (.ptr 4 0)))) 7 (some (.val (tE (.int .u64 ((a1:Nat):Int)))))) 8 (some (.val (tE (.int .u64 ((a2:Nat):Int)))))) 9 (some (.own (.ptr 9 0)))) 10 (some (.val (tE (.int .u64 ((u2:Nat):Int)))))) 11 (some (.val (tE (.int .u64 ((v2:Nat):Int)))))) (upd (upd (fun _=>none) 4 (some (⟨180,5,true,[.val (tS [⟨1,false,tE (.int .u64 ((0:Nat):Int))⟩,⟨1,false,tE (.int .u64 ((0:Nat):Int))⟩,⟨1,false,tE (.int .u64 ((0:Nat):Int))⟩,⟨1,false,tE (.int .u64 ((0:Nat):Int))⟩,⟨1,false,tB false⟩])]⟩))) 9 (some (⟨180,5,true,[.val (tS [⟨1,false,tE (.int .u64 ((u0:Nat):Int))⟩,⟨1,false,tE (.int .u64 ((u1:Nat):Int))⟩,⟨1,false,tE (.int .u64 ((v0:Nat):Int))⟩,⟨1,false,tE (.int .u64 ((v1:Nat):Int))⟩,⟨1,false,tB e⟩])]⟩))) _
 obtain ⟨hS,hR,hu1,hv1⟩:=hI
 have hge:=hS.ge
 have hpos:=hS.pos
 have ha1:a1≤(a*2 ^ s / 4294967296 ^ (k+1)):=by have h:=hS.sumA;have h2:a1≤v2*a1:=Nat.le_mul_of_pos_left _ hpos;omega
 refine A7 ?_
 refine RGcaseD (t:=34) rfl (fun h53=> ?_) (fun h53=> ?_)
 ·
  have hc:v2≤a2:=by omega
  refine A2 ?_
  refine RGon (decide_eq_true h53) rfl (xe4 (wsub64 (by omega) (by omega))) rfl ⟨rfl,rfl,trivial⟩ trivial trivial ?_
  refine A3 ?_
  obtain ⟨s1,s2,s3,s4,s5,s6⟩:=hS.small (by omega) hAL hBA
  refine RGon (decide_eq_true h53) rfl (xc9 (wadd64 (by omega))) rfl ⟨rfl,rfl,trivial⟩ trivial trivial ?_
  refine A4 ?_
  refine x9 rfl (fun h53_2=> ?_) (fun h53_2=> ?_)
  ·
   have hcd:v1+v2≤a1 - a2:=by omega
   refine A7 ?_
   refine R2 (d_quo (r:=((a1 / a2:Nat):Int)) (by omega) (wquo64 (by omega))) rfl rfl ?_
   refine A2 ?_
   refine R2 (d_rem (by omega) wrem64) rfl rfl ?_
   refine A18 ?_
   refine A3 ?_
   refine R2 (xi5 (wmul64 (by omega))) rfl rfl (R2 (xc9 (wadd64 (by omega))) rfl rfl ?_)
   refine A1 ?_
   refine xj8 (0) ti82 rfl rfl rfl rfl (Up.g 0 rfl rfl rfl) rfl rfl ?_
   refine A1 ?_
   refine xj8 (0) ti82 rfl rfl rfl rfl (Up.g 1 rfl rfl rfl) rfl rfl ?_
   refine A12 ?_
   refine R2 (xi5 (wmul64 (by omega))) rfl rfl (R2 (xc9 (wadd64 (by omega))) rfl rfl ?_)
   refine A1 ?_
   refine xj8 (0) ti82 rfl rfl rfl rfl (Up.g 2 rfl rfl rfl) rfl rfl ?_
   refine A1 ?_
   refine xj8 (0) ti82 rfl rfl rfl rfl (Up.g 3 rfl rfl rfl) rfl rfl ?_
   refine A8 ?_
   refine xj8 (0) ti4 rfl rfl rfl rfl (Up.g 4 rfl rfl rfl) rfl rfl ?_
   refine A2 ?_
   have hst:=hS.step hc
   have hnx:=hS.steps (s:=s) (Nat.pow_pos (by decide)) rfl rfl hc hcd hAL hu1 hv1
   obtain ⟨m1,m2⟩:=hS.small32 hc hAL
   have hlt:a1%a2 < a2:=Nat.mod_lt _ (by omega)
   exact kF ((a2,a1%a2,u1,u2,v1,v2,u1+(a1 / a2)*u2,v1+(a1 / a2)*v2,!e)) ⟨(by dsimp only;exact ⟨hst,hnx,m1,m2⟩),(by dsimp only;omega)⟩ (hh:=((SubK.consI rfl ImpK.refl) ((SubK.consI rfl ImpK.refl) SubK.nil)))
  ·
   refine A12 ?_
   exact xc1 Plain.mk' rfl ⟨_,_,_,_,_,rfl,rfl,ti180,(fun F w v h=>⟨(u0,u1,v0,v1,e),hR,h⟩)⟩
 ·
  refine A18 ?_
  refine A6 ?_
  exact xc1 Plain.mk' rfl ⟨_,_,_,_,_,rfl,rfl,ti180,(fun F w v h=>⟨(u0,u1,v0,v1,e),hR,h⟩)⟩
theorem c_commonDivisor (a b:Nat) (ha:(dig 4294967296 a).length≤100000) (hb:(dig 4294967296 b).length≤100000):
  Ct Tryz.prog 192 [tN a,tN b] (tN (Nat.gcd a b)):=by
 refine Ct.intro Tryz.func192 rfl Tryz.ntmps192 rfl ?_
 intro w F
 refine A5 ?_
 refine xg0 (fun (fm:(Nat)×(Nat))=>(fun (p:Nat) (q:Nat)=>q≤p∧Nat.gcd p q=Nat.gcd a b∧(dig 4294967296 p).length≤100000) fm.1 fm.2) (fun (fm:(Nat)×(Nat))=>(fun (p:Nat) (q:Nat)=>upd (upd (fun _=>none) 0 (some (.val (tN p)))) 1 (some (.val (tN q)))) fm.1 fm.2) (fun (fm:(Nat)×(Nat))=>(fun (p:Nat) (q:Nat)=>fun _=>none) fm.1 fm.2) (nm []) ?_ ?_
 ·
  refine A4 ?_
  refine RE (x3 (c_compare _ _) fi154 rfl) ⟨rfl,rfl,trivial⟩ trivial trivial ?_
  refine A3 ?_
  refine x9 rfl (fun h10=> ?_) (fun h10=> ?_)
  ·
   refine A6 ?_
   exact kF ((b,a)) (by dsimp only;exact ⟨Nat.le_of_lt (xr9.1 h10),Nat.gcd_comm _ _,hb⟩)
  ·
   refine A1 ?_
   exact kF ((a,b)) (by dsimp only;exact ⟨by have:=mt xr9.2 h10;omega,rfl,ha⟩)
 ·
  intro fm hj
  obtain ⟨p,q⟩:=fm
  replace hj:q≤p∧Nat.gcd p q=Nat.gcd a b∧(dig 4294967296 p).length≤100000:=hj
  show wc _ _ _ _ (upd (upd (fun _=>none) 0 (some (.val (tN p)))) 1 (some (.val (tN q)))) (fun _=>none) _
  obtain ⟨j1,j2,j3⟩:=hj
  refine A2 ?_
  refine cL (fun (fm:(Nat)×(Nat))=>(fun (x:Nat) (y:Nat)=>y≤x∧Nat.gcd x y=Nat.gcd a b∧(dig 4294967296 x).length≤100000) fm.1 fm.2) (fun (fm:(Nat)×(Nat))=>(fun (x:Nat) (y:Nat)=>upd (upd (fun _=>none) 0 (some (.val (tN x)))) 1 (some (.val (tN y)))) fm.1 fm.2) (fun (fm:(Nat)×(Nat))=>(fun (x:Nat) (y:Nat)=>fun _=>none) fm.1 fm.2) [] (fun (fm:(Nat)×(Nat))=>(fun (x:Nat) (y:Nat)=>x+y) fm.1 fm.2) ((p,q)) (by dsimp only;exact ⟨j1,j2,j3⟩) ?_
  intro fm hI
  obtain ⟨x,y⟩:=fm
  replace hI:y≤x∧Nat.gcd x y=Nat.gcd a b∧(dig 4294967296 x).length≤100000:=hI
  show wc _ _ _ _ (upd (upd (fun _=>none) 0 (some (.val (tN x)))) 1 (some (.val (tN y)))) (fun _=>none) _
  obtain ⟨hle,hg,hl⟩:=hI
  have hyx:=xe0 xa2 hle
  refine A8 ?_
  refine x9 rfl (fun h13=> ?_) (fun h13=> ?_)
  ·
   have hy0:0 < y:=by
    rcases Nat.eq_zero_or_pos y with h | h
    ·subst h;rw [xd0] at h13;simp at h13
    ·exact h
   refine A7 ?_
   refine R2 (x3 (c_simulate x y (by omega) (by omega) (by omega)) fi198 rfl) rfl rfl (RE (x5 (k:=5) (n:=5) (agg:=true) zr180.1 zr180.2 rfl) trivial trivial ⟨rfl,trivial⟩ (RE (xc3 (agg:=true) (es:=5) (0) ti180 rfl rfl rfl) ⟨rfl,rfl,trivial⟩ ⟨rfl,trivial⟩ trivial ?_))
   refine A3 ?_
   refine C_caseK (k:=5) rfl ?_
   rintro ⟨u0,u1,v0,v1,e⟩ hst
   refine C_key (k:=5) (e':=⟨180,5,true,[.val (tS [⟨1,false,tE (.int .u64 ((u0:Nat):Int))⟩,⟨1,false,tE (.int .u64 ((u1:Nat):Int))⟩,⟨1,false,tE (.int .u64 ((v0:Nat):Int))⟩,⟨1,false,tE (.int .u64 ((v1:Nat):Int))⟩,⟨1,false,tB e⟩])]⟩) rfl rfl ?_
   refine A6 ?_
   refine x9 rfl (fun h15=> ?_) (fun h15=> ?_)
   ·
    refine A4 ?_
    refine RE (x3 (c_divide _ _ (by omega) (by omega) (by omega)) fi193 rfl) ⟨rfl,rfl,trivial⟩ trivial trivial ?_
    refine A14 ?_
    have hlt:x%y < y:=Nat.mod_lt _ hy0
    exact kF ((y,x%y)) ⟨(by dsimp only;exact ⟨by omega,by rw [Nat.gcd_comm,←Nat.gcd_rec,Nat.gcd_comm];exact hg,by omega⟩),(by dsimp only;omega)⟩
   ·
    have hst:=hst.resolve_left (by show ¬v0=0;omega)
    obtain ⟨k1,k2,k3,k4,X,Y,hE,hO,hYX,hsum,hgg⟩:=hst
    replace k1:u0 < 4294967296:=k1
    replace k2:u1 < 4294967296:=k2
    replace k3:v0 < 4294967296:=k3
    replace k4:v1 < 4294967296:=k4
    refine A6 ?_
    refine xc0 rfl (fun h18=> ?_) (fun h18=> ?_)
    ·
     obtain ⟨e1,e2⟩:=hE h18
     replace e1:u0*x=v0*y+X:=e1
     replace e2:v1*y=u1*x+Y:=e2
     refine A7 ?_
     refine RE (x3 (xr5 _ _ _ _ (by omega) (by omega) (by omega) (by omega) (by omega)) fi199 rfl) ⟨rfl,rfl,rfl,rfl,trivial⟩ trivial trivial ?_
     refine A6 ?_
     refine RE (x3 (xr5 _ _ _ _ (by omega) (by omega) (by omega) (by omega) (by omega)) fi199 rfl) ⟨rfl,rfl,rfl,rfl,trivial⟩ trivial trivial ?_
     refine A4 ?_
     have hXl:=xe0 xa2 (show X≤x by omega)
     exact kF ((X,Y)) ⟨(by dsimp only;exact ⟨hYX,by rw [hgg];exact hg,by omega⟩),(by dsimp only;omega)⟩ (hg:=(Sub.le rfl (Le.of (by dsimp only;rw [show v1*y - u1*x=Y by omega])) (Sub.le rfl (Le.of (by dsimp only;rw [show u0*x - v0*y=X by omega])) Sub.nil)))
    ·
     obtain ⟨e1,e2⟩:=hO h18
     replace e1:v0*y=u0*x+X:=e1
     replace e2:u1*x=v1*y+Y:=e2
     refine A7 ?_
     refine RE (x3 (xr5 _ _ _ _ (by omega) (by omega) (by omega) (by omega) (by omega)) fi199 rfl) ⟨rfl,rfl,rfl,rfl,trivial⟩ trivial trivial ?_
     refine A6 ?_
     refine RE (x3 (xr5 _ _ _ _ (by omega) (by omega) (by omega) (by omega) (by omega)) fi199 rfl) ⟨rfl,rfl,rfl,rfl,trivial⟩ trivial trivial ?_
     refine A4 ?_
     have hXl:=xe0 xa2 (show X≤x by omega)
     exact kF ((X,Y)) ⟨(by dsimp only;exact ⟨hYX,by rw [hgg];exact hg,by omega⟩),(by dsimp only;omega)⟩ (hg:=(Sub.le rfl (Le.of (by dsimp only;rw [show u1*x - v1*y=Y by omega])) (Sub.le rfl (Le.of (by dsimp only;rw [show v0*y - u0*x=X by omega])) Sub.nil)))
  ·
   refine A13 ?_
   refine x9 rfl (fun h24=> ?_) (fun h24=> ?_)
   ·
    refine A8 ?_
    have hy0:y=0:=(xi0 xa2).1 (List.length_eq_zero_iff.1 (by omega))
    subst hy0
    exact x4 Plain.mk' rfl rfl (Le.of (by rw [←hg,Nat.gcd_zero_right]))
   ·
    have hy0:0 < y:=by
     rcases Nat.eq_zero_or_pos y with h | h
     ·subst h;rw [xd0] at h24;simp at h24
     ·exact h
    refine A2 ?_
    refine xg0 (fun (fm:(Nat)×(Nat))=>(fun (p2:Nat) (q2:Nat)=>Nat.gcd p2 q2=Nat.gcd a b∧(dig 4294967296 p2).length≤2∧(dig 4294967296 q2).length≤2) fm.1 fm.2) (fun (fm:(Nat)×(Nat))=>(fun (p2:Nat) (q2:Nat)=>upd (upd (fun _=>none) 0 (some (.val (tN p2)))) 1 (some (.val (tN q2)))) fm.1 fm.2) (fun (fm:(Nat)×(Nat))=>(fun (p2:Nat) (q2:Nat)=>fun _=>none) fm.1 fm.2) (nm []) ?_ ?_
    ·
     refine A7 ?_
     refine x9 rfl (fun h27=> ?_) (fun h27=> ?_)
     ·
      refine A4 ?_
      refine RE (x3 (c_divide _ _ (by omega) (by omega) (by omega)) fi193 rfl) ⟨rfl,rfl,trivial⟩ trivial trivial ?_
      refine A13 ?_
      have hlt:x%y < y:=Nat.mod_lt _ hy0
      have hml:=xe0 xa2 (Nat.le_of_lt hlt)
      exact kF ((y,x%y)) (by dsimp only;exact ⟨by rw [Nat.gcd_comm,←Nat.gcd_rec,Nat.gcd_comm];exact hg,by omega,by omega⟩)
     ·
      refine A1 ?_
      exact kF ((x,y)) (by dsimp only;exact ⟨hg,by omega,by omega⟩)
    ·
     intro fm hm
     obtain ⟨p2,q2⟩:=fm
     replace hm:Nat.gcd p2 q2=Nat.gcd a b∧(dig 4294967296 p2).length≤2∧(dig 4294967296 q2).length≤2:=hm
     show wc _ _ _ _ (upd (upd (fun _=>none) 0 (some (.val (tN p2)))) 1 (some (.val (tN q2)))) (fun _=>none) _
     obtain ⟨m1,m2,m3⟩:=hm
     refine A3 ?_
     refine R1 (x3 (c_long (dig 4294967296 p2) (by omega) (xb6 xa2 _)) fi200 rfl) rfl ?_
     refine A1 ?_
     refine R1 (x3 (c_long (dig 4294967296 q2) (by omega) (xb6 xa2 _)) fi200 rfl) rfl ?_
     refine A6 ?_
     have hp2:=(xa9 xa2 p2 2).1 m2
     have hq2:=(xa9 xa2 q2 2).1 m3
     refine cL (fun (fm:(Nat)×(Nat))=>(fun (r:Nat) (t:Nat)=>Nat.gcd r t=Nat.gcd a b∧r < 18446744073709551616∧t < 18446744073709551616) fm.1 fm.2) (fun (fm:(Nat)×(Nat))=>(fun (r:Nat) (t:Nat)=>upd (upd (fun _=>none) 10 (some (.val (tE (.int .u64 ((r:Nat):Int)))))) 11 (some (.val (tE (.int .u64 ((t:Nat):Int)))))) fm.1 fm.2) (fun (fm:(Nat)×(Nat))=>(fun (r:Nat) (t:Nat)=>fun _=>none) fm.1 fm.2) [] (fun (fm:(Nat)×(Nat))=>(fun (r:Nat) (t:Nat)=>t) fm.1 fm.2) ((p2,q2)) (by dsimp only;exact ⟨m1,hp2,hq2⟩) (hg:=(Sub.le rfl (Le.int (by dsimp only;rw [xm7 xa2])) (Sub.le rfl (Le.int (by dsimp only;rw [xm7 xa2])) Sub.nil))) ?_
     intro fm hT
     obtain ⟨r,t⟩:=fm
     replace hT:Nat.gcd r t=Nat.gcd a b∧r < 18446744073709551616∧t < 18446744073709551616:=hT
     show wc _ _ _ _ (upd (upd (fun _=>none) 10 (some (.val (tE (.int .u64 ((r:Nat):Int)))))) 11 (some (.val (tE (.int .u64 ((t:Nat):Int)))))) (fun _=>none) _
     obtain ⟨t1,t2,t3⟩:=hT
     refine A7 ?_
     refine x9 rfl (fun h32=> ?_) (fun h32=> ?_)
     ·
      refine A7 ?_
      refine R2 (d_rem (by omega) wrem64) rfl rfl ?_
      refine A4 ?_
      have hlt:r%t < t:=Nat.mod_lt _ (by omega)
      exact kF ((t,r%t)) ⟨(by dsimp only;exact ⟨by rw [Nat.gcd_comm,←Nat.gcd_rec,Nat.gcd_comm];exact t1,by omega,by omega⟩),(by dsimp only;omega)⟩
     ·
      refine A8 ?_
      refine RE (x3 (c_short _ (by omega)) fi201 rfl) ⟨rfl,trivial⟩ trivial trivial ?_
      refine A4 ?_
      exact x4 Plain.mk' rfl rfl (Le.of (by rw [←t1,show t=0 by omega,Nat.gcd_zero_right]))
end An.S
namespace An
open Go
structure Wh where
  neg:Bool
  l:List Nat
deriving DecidableEq
abbrev tWh (x:Wh):Ty:=tS [⟨1,false,tB x.neg⟩,⟨1,false,tLm x.l⟩]
def wh (z:Int):Wh:=⟨decide (z < 0),dig 65536 z.natAbs⟩
def len16 (z:Int):Nat:=(dig 65536 z.natAbs).length
def Wh.valid (x:Wh):Bool:=if x.l.length=0 then !x.neg else decide (x.l.length≤1024) && decide (x.l.getD (x.l.length - 1) 0≠0)
theorem x8:2≤65536:=by decide
theorem val_zero_of_dig {l:List Nat} (hD:Dig 65536 l) (ht:Top l) (h:val 65536 l=0):l=[]:=by
 have:=dig_unique x8 hD ht
 rw [h,xd0] at this;exact this.symm
theorem Wh.of_valid {x:Wh} (hD:Dig 65536 x.l) (h:x.valid=true): ∃z:Int,x=wh z∧len16 z≤1024:=by
 obtain ⟨neg,l⟩:=x
 simp only [Wh.valid] at h
 split at h
 ·rename_i h0
  have hl:l=[]:=List.length_eq_zero_iff.1 h0
  subst hl
  refine ⟨0,?_,by simp [len16,xd0]⟩
  have:neg=false:=by simpa using h
  subst this
  simp [wh,xd0]
 ·rename_i h0
  simp only [Bool.and_eq_true,decide_eq_true_eq] at h
  have ht:Top l:=by
   intro x hx
   have h1:l.getD (l.length - 1) 0=x:=by
    rw [List.getD_eq_getElem?_getD,←List.getLast?_eq_getElem?,hx];rfl
   rw [←h1];exact h.2
  have hu:=dig_unique x8 hD ht
  have hv:val 65536 l≠0:=fun h'=>h0 (by have hl0:l=[]:=val_zero_of_dig hD ht h';rw [hl0];rfl)
  refine ⟨if neg then -(val 65536 l:Int) else (val 65536 l:Int),?_,?_⟩
  ·cases neg with
   | true=>
    simp only [wh,↓reduceIte,Int.natAbs_neg,Int.natAbs_natCast]
    rw [hu];congr 1;simp;omega
   | false=>
    simp only [wh,Bool.false_eq_true,↓reduceIte,Int.natAbs_natCast]
    rw [hu];simp
  ·have e:(if neg then -(val 65536 l:Int) else (val 65536 l:Int)).natAbs=val 65536 l:=by cases neg <;> simp
   rw [len16,e,hu];exact h.1
theorem valid_wh {z:Int} (h:len16 z≤1024):(wh z).valid=true:=by
 unfold Wh.valid
 by_cases h0:(wh z).l.length=0
 ·rw [if_pos h0]
  have:z.natAbs=0:=(xi0 x8).1 (List.length_eq_zero_iff.1 h0)
  show (!decide (z < 0))=true
  simp;omega
 ·rw [if_neg h0]
  have h1:(wh z).l.length≤1024:=h
  simp only [Bool.and_eq_true,decide_eq_true_eq]
  refine ⟨h1,?_⟩
  have ht:Top (wh z).l:=dig_Top x8 z.natAbs
  refine ht _ ?_
  rw [List.getLast?_eq_getElem?,List.getD_eq_getElem?_getD]
  rw [List.getElem?_eq_getElem (by omega)];rfl
def sgn (p:Bool) (v:Nat):Int:=if p then -(v:Int) else v
theorem natAbs_sgn (p:Bool) (v:Nat):(sgn p v).natAbs=v:=by cases p <;> simp [sgn]
theorem wh_sgn (p:Bool) (v:Nat):wh (sgn p v)=⟨p && decide (v≠0),dig 65536 v⟩:=by
 simp only [wh,natAbs_sgn]
 congr 1
 cases p
 ·simp [sgn]
 ·simp only [sgn,↓reduceIte,Bool.true_and]
  by_cases h:v=0 <;> simp [h];omega
theorem sgn_wh (z:Int):sgn (wh z).neg z.natAbs=z:=by
 simp only [sgn,wh]
 by_cases h:z < 0 <;> simp [h] <;> omega
theorem wh_inj {x y:Int} (h:wh x=wh y):x=y:=by
 have h1:dig 65536 x.natAbs=dig 65536 y.natAbs:=congrArg Wh.l h
 have h2:(wh x).neg=(wh y).neg:=congrArg Wh.neg h
 have h3:x.natAbs=y.natAbs:=by rw [←xm7 x8 x.natAbs,h1,xm7 x8]
 rw [←sgn_wh x,←sgn_wh y,h2,h3]
theorem pow2k (k:Nat):4294967296 ^ k=65536 ^ (2*k):=by rw [Nat.pow_mul]
theorem len32 (v:Nat):(dig 4294967296 v).length=((dig 65536 v).length+1) / 2:=by
 have h: ∀k,(dig 4294967296 v).length≤k↔(dig 65536 v).length≤2*k:=fun k=>by
  rw [xa9 xa2,xa9 x8,pow2k]
 have h1:=(h (dig 4294967296 v).length).1 (Nat.le_refl _)
 have h2:=(h (((dig 65536 v).length+1) / 2)).2 (by omega)
 omega
theorem pack_dig (v:Nat):dgs 4294967296 (((dig 65536 v).length+1) / 2) (val 65536 (dig 65536 v))=dig 4294967296 v:=by
 rw [xm7 x8,←len32,xp4 xa2]
theorem unpack_in {v i n:Nat} {ls:List Nat} (hi:i < n) (hl:ls.length=2*n) (ht:ls.take (2*i)=dgs 65536 (2*i) v):
  ((ls.set (2*i) (v / 4294967296 ^ i%4294967296%65536)).set (2*i+1) (v / 4294967296 ^ i%4294967296 / 2 ^ 16)).length=2*n∧
   ((ls.set (2*i) (v / 4294967296 ^ i%4294967296%65536)).set (2*i+1) (v / 4294967296 ^ i%4294967296 / 2 ^ 16)).take (2*(i+1))=dgs 65536 (2*(i+1)) v:=by
 refine ⟨by simpa using hl,?_⟩
 rw [show 2*(i+1)=2*i+1+1 by omega,xk5 (by simpa using (by omega:2*i+1 < ls.length)),xk5 (by omega),ht,xm2,xm2,pow2k]
 congr 1
 ·congr 2
  exact Nat.mod_mod_of_dvd _ (by decide)
 ·congr 1
  show v / 65536 ^ (2*i)%4294967296 / 65536=_
  rw [Nat.pow_succ 65536 (2*i),←Nat.div_div_eq_div_mul]
  have: ∀x:Nat,x%4294967296 / 65536=x / 65536%65536:=fun x=>by omega
  exact this _
theorem unpack_end {v n:Nat} {ls:List Nat} (hn:(dig 4294967296 v).length=n) (hv:0 < v) (hl:ls.length=2*n) (ht:ls.take (2*n)=dgs 65536 (2*n) v):
  (ls.getD (2*n - 1) 0=0→ls.take (2*n - 1)=dig 65536 v)∧(ls.getD (2*n - 1) 0≠0→ls=dig 65536 v)∧1≤n:=by
 have h32:=len32 v
 rw [hn] at h32
 have h16:=len_pos x8 hv
 rw [←hl,List.take_length,hl] at ht
 subst ht
 have hg:(dgs 65536 (2*n) v).getD (2*n - 1) 0=v / 65536 ^ (2*n - 1)%65536:=xq3 (by omega)
 refine ⟨fun h=> ?_,fun h=> ?_,by omega⟩
 ·rw [hg] at h
  rw [take_dgs (by omega)]
  have h1:v < 65536 ^ (2*n - 1):=by
   have h2:=(xa9 x8 v (2*n)).1 (by omega)
   have e:65536 ^ (2*n)=65536 ^ (2*n - 1)*65536:=by rw [←Nat.pow_succ];congr 1;omega
   rw [e] at h2
   have h3:v / 65536 ^ (2*n - 1) < 65536:=Nat.div_lt_of_lt_mul h2
   rw [Nat.mod_eq_of_lt h3] at h
   exact (Nat.div_eq_zero_iff_lt (Nat.pow_pos (by decide))).1 h
  have h4:=(xa9 x8 v (2*n - 1)).2 h1
  have h5:(dig 65536 v).length=2*n - 1:=by omega
  rw [←h5,xp4 x8]
 ·rw [hg] at h
  have h4: ¬(dig 65536 v).length≤2*n - 1:=fun h'=>h (by rw [Nat.div_eq_of_lt ((xa9 x8 v _).1 h')])
  have h5:(dig 65536 v).length=2*n:=by omega
  rw [←h5,xp4 x8]
theorem cut16 {m:Nat}:IntKind.u16.wrap (m:Int)=((m%65536:Nat):Int):=by rw [mu16];omega
end An
namespace An
def resW (z:Int):Wh:=if len16 z≤1024 then wh z else ⟨false,[]⟩
def resE (z:Int):Int:=if len16 z≤1024 then 0 else 3
theorem len32_le {z:Int} {n:Nat} (h:len16 z≤n):(dig 4294967296 z.natAbs).length≤n:=by
 have h1:(dig 65536 z.natAbs).length≤n:=h
 rw [len32];omega
theorem len_add {m n k:Nat} (hm:(dig 4294967296 m).length≤k) (hn:(dig 4294967296 n).length≤k):(dig 4294967296 (m+n)).length≤k+1:=by
 rw [xa9 xa2] at*
 rw [Nat.pow_succ];generalize (4294967296:Nat) ^ k=P at*;omega
theorem len_mul {m n k:Nat} (hm:(dig 4294967296 m).length≤k) (hn:(dig 4294967296 n).length≤k):(dig 4294967296 (m*n)).length≤k+k:=by
 rw [xa9 xa2] at*
 rw [Nat.pow_add]
 exact Nat.mul_lt_mul'' hm hn
theorem len_gcd {m n k:Nat} (hm:(dig 4294967296 m).length≤k) (hn:(dig 4294967296 n).length≤k):(dig 4294967296 (Nat.gcd m n)).length≤k:=by
 rcases Nat.eq_zero_or_pos m with h | h
 ·subst h;rw [Nat.gcd_zero_left];exact hn
 ·exact Nat.le_trans (xe0 xa2 (Nat.gcd_le_left n h)) hm
theorem sgn_add {p:Bool} {m n:Nat}:sgn p (m+n)=sgn p m+sgn p n:=by
 cases p <;> simp only [sgn,Bool.false_eq_true,↓reduceIte] <;> omega
theorem sgn_sub {p:Bool} {m n:Nat} (h:n≤m):sgn p (m - n)=sgn p m+sgn (!p) n:=by
 cases p <;> simp only [sgn,Bool.false_eq_true,↓reduceIte,Bool.not_true,Bool.not_false] <;> omega
theorem sgn_sub' {p:Bool} {m n:Nat} (h:m≤n):sgn (!p) (n - m)=sgn p m+sgn (!p) n:=by
 cases p <;> simp only [sgn,Bool.false_eq_true,↓reduceIte,Bool.not_true,Bool.not_false] <;> omega
theorem sgn_mul {x y:Int}:sgn (!((wh x).neg==(wh y).neg)) (x.natAbs*y.natAbs)=x*y:=by
 have hx:=sgn_wh x
 have hy:=sgn_wh y
 conv=>rhs;rw [←hx,←hy]
 generalize (wh x).neg=p
 generalize (wh y).neg=q
 cases p <;> cases q <;> simp [sgn,Int.mul_neg,Int.neg_mul]
def cmpZ (x y:Int):Int:=if x < y then -1 else if x=y then 0 else 1
theorem cmpN_bd (a b:Nat): -1≤cmpN a b∧cmpN a b≤1:=by
 simp only [cmpN];split
 ·omega
 ·split <;> omega
theorem cmpZ_a {x y:Int} (h:(decide (x < 0)==decide (y < 0))=false) (hx:x < 0):cmpZ x y= -1:=by
 have: ¬y < 0:=by intro hy;simp [hx,hy] at h
 rw [cmpZ,if_pos (by omega)]
theorem cmpZ_b {x y:Int} (h:(decide (x < 0)==decide (y < 0))=false) (hx: ¬x < 0):cmpZ x y=1:=by
 have:y < 0:=by
  rcases Int.lt_or_le y 0 with hy | hy
  ·exact hy
  ·simp [hx,show ¬y < 0 by omega] at h
 rw [cmpZ,if_neg (by omega),if_neg (by omega)]
theorem cmpZ_c {x y:Int} (h:decide (x < 0)=decide (y < 0)) (hx:x < 0):cmpZ x y= - cmpN x.natAbs y.natAbs:=by
 have hy:y < 0:=by rw [decide_eq_true hx] at h;exact of_decide_eq_true h.symm
 simp only [cmpZ,cmpN]
 split
 ·rw [if_neg (by omega),if_neg (by omega)]
 ·split
  ·rw [if_neg (by omega),if_pos (by omega)];rfl
  ·rw [if_pos (by omega)];rfl
theorem cmpZ_d {x y:Int} (h:decide (x < 0)=decide (y < 0)) (hx: ¬x < 0):cmpZ x y=cmpN x.natAbs y.natAbs:=by
 have hy: ¬y < 0:=by rw [decide_eq_false hx] at h;exact of_decide_eq_false h.symm
 simp only [cmpZ,cmpN]
 split
 ·rw [if_pos (by omega)]
 ·split
  ·rw [if_neg (by omega),if_pos (by omega)]
  ·rw [if_neg (by omega),if_neg (by omega)]
end An
namespace An.S
open Go Go.Proofs An
instance ti29:TyI Tryz.prog 29 1 false:=⟨by kernel_rfl,by kernel_rfl⟩
instance ti31:TyI Tryz.prog 31 2 true:=⟨by kernel_rfl,by kernel_rfl⟩
instance sl164:SlI Tryz.prog 164 31 2 true:=⟨Tryz.underlying164,ti31⟩
instance fo31_0:FoI Tryz.prog 31 0 0:=⟨by kernel_rfl⟩
instance fo31_1:FoI Tryz.prog 31 1 1:=⟨by kernel_rfl⟩
instance fi153:FnI Tryz.prog 153:=⟨_,Tryz.func153,by kernel_rfl,rfl⟩
instance fi155:FnI Tryz.prog 155:=⟨_,Tryz.func155,by kernel_rfl,rfl⟩
instance fi179:FnI Tryz.prog 179:=⟨_,Tryz.func179,by kernel_rfl,rfl⟩
instance fi180:FnI Tryz.prog 180:=⟨_,Tryz.func180,by kernel_rfl,rfl⟩
instance fi182:FnI Tryz.prog 182:=⟨_,Tryz.func182,by kernel_rfl,rfl⟩
instance fi190:FnI Tryz.prog 190:=⟨_,Tryz.func190,by kernel_rfl,rfl⟩
instance fi191:FnI Tryz.prog 191:=⟨_,Tryz.func191,by kernel_rfl,rfl⟩
instance fi192:FnI Tryz.prog 192:=⟨_,Tryz.func192,by kernel_rfl,rfl⟩
instance fi194:FnI Tryz.prog 194:=⟨_,Tryz.func194,by kernel_rfl,rfl⟩
instance fi195:FnI Tryz.prog 195:=⟨_,Tryz.func195,by kernel_rfl,rfl⟩
theorem el31:ElI Tryz.prog 31 2 32 true (.agg #[.bool false,.slice none 0 0]):=⟨ti31,by kernel_rfl,by kernel_rfl⟩
theorem zr31:(Tryz.prog.info? 31).bind (·.zero)=some (.agg #[.bool false,.slice none 0 0])∧ ∀F w,(tS [⟨1,false,(tE (.bool false))⟩,⟨1,false,(tLm [])⟩]).p F w (.agg #[.bool false,.slice none 0 0]):=⟨by kernel_rfl,fun _ _=>⟨_,rfl,rfl,⟨fun _=>rfl,rfl⟩,⟨fun _=>rfl,⟨none,0,rfl,Nat.le_refl _,by decide,.inl rfl⟩⟩,trivial⟩⟩
theorem bu31:BuI Tryz.prog 31 (fun i=>[(0,1),(1,1)][i]?) (.agg #[.bool false,.slice none 0 0]):=BuI.struct Tryz.underlying31 (by kernel_rfl) (by kernel_rfl)
theorem zf31:Flat 2 true (.agg #[.bool false,.slice none 0 0]):=xs9 (by intro u hu;simp at hu;rcases hu with rfl | rfl <;> rfl)
instance un4:UnI Tryz.prog 4 (.bool):=⟨Tryz.underlying4⟩
instance un164:UnI Tryz.prog 164 (.slice 31):=⟨Tryz.underlying164⟩
theorem all_take_succ {α:Type} {p:α→Bool} {l:List α} {i:Nat} {d:α} (hi:i < l.length):(l.take (i+1)).all p=((l.take i).all p && p (l.getD i d)):=by
 rw [List.take_succ_eq_append_getElem hi,List.all_append]
 simp [hi]
theorem all_stop {α:Type} {p:α→Bool} {l:List α} {i:Nat} {d:α} (hi:i < l.length) (h:p (l.getD i d)=false):l.all p=false:=by
 rw [List.all_eq_false]
 refine ⟨l[i],List.getElem_mem hi,?_⟩
 rw [List.getD_eq_getElem?_getD,List.getElem?_eq_getElem hi] at h
 simpa using h
theorem c_WValid (x:Wh):
  Ct Tryz.prog 182 [tWh x] (tB x.valid):=by
 refine Ct.intro Tryz.func182 rfl Tryz.ntmps182 rfl ?_
 intro w F
 refine A16 ?_
 refine xk1 (s:=5) rfl (fun hl5=> ?_)
 refine A5 ?_
 refine x9 rfl (fun h24=> ?_) (fun h24=> ?_)
 ·
  refine A10 ?_
  exact x4 Plain.mk' rfl rfl (Le.bool (by simp only [Wh.valid];rw [if_pos (by omega)]))
 ·
  refine A7 ?_
  refine RGcaseD (t:=14) rfl (fun h27=> ?_) (fun h27=> ?_)
  ·
   refine A3 ?_
   refine RGon (decide_eq_true h27) rfl (xe4 (wr64 (by omega) (by omega))) rfl ⟨rfl,rfl,trivial⟩ trivial trivial (RGon (decide_eq_true h27) rfl (x6 sl29 (x.l.length - 1) (by omega) (gN (by omega))) rfl ⟨rfl,rfl,trivial⟩ trivial trivial ?_)
   refine A7 ?_
   exact x4 Plain.mk' rfl rfl (Le.bool (by simp only [Wh.valid];rw [if_neg (by omega),decide_eq_true (show x.l.length≤1024 by omega),Bool.true_and];exact decide_eq_decide.2 (by omega)))
  ·
   refine A12 ?_
   exact x4 Plain.mk' rfl rfl (Le.bool (by simp only [Wh.valid];rw [if_neg (by omega),decide_eq_false (show ¬x.l.length≤1024 by omega),Bool.false_and]))
theorem c_WallValid (ws:List Wh):
  Ct Tryz.prog 153 [tL 2 true tWh ws] (tB (ws.all Wh.valid)):=by
 refine Ct.intro Tryz.func153 rfl Tryz.ntmps153 rfl ?_
 intro w F
 refine xk1 (s:=0) rfl (fun hl0=> ?_)
 refine A14 ?_
 refine cL (fun (i:Nat)=>i≤ws.length∧(ws.take i).all Wh.valid=true) (fun (i:Nat)=>upd (upd (upd (fun _=>none) 5 (some (.val (tL 2 true tWh ws)))) 6 (some (.val (tI ws.length)))) 7 (some (.val (tI i)))) (fun (i:Nat)=>fun _=>none) [] (fun (i:Nat)=>ws.length - i) (0) ⟨Nat.zero_le _,rfl⟩ ?_
 intro i hI
 obtain ⟨hi,ha⟩:=hI
 refine A6 ?_
 refine x9 rfl (fun h32=> ?_) (fun h32=> ?_)
 ·
  refine A6 ?_
  refine R2 (x6 sl164 i (by omega) (gD (l:=ws) (n:=i) (d:=⟨false,[]⟩) (by omega))) rfl rfl ?_
  refine A1 ?_
  refine RE (x5 (k:=4) (n:=2) (agg:=true) zr31.1 zr31.2 rfl) trivial trivial ⟨rfl,trivial⟩ ?_
  refine A6 ?_
  refine R1 (x3 (c_WValid _) fi182 rfl) rfl ?_
  refine A3 ?_
  refine xc0 rfl (fun h33=> ?_) (fun h33=> ?_)
  ·
   refine A11 ?_
   exact x4 Plain.mk' rfl rfl (Le.bool (all_stop (l:=ws) (i:=i) (d:=⟨false,[]⟩) (by omega) (by simpa using h33)).symm)
  ·
   refine A7 ?_
   exact kF (i+1) ⟨⟨by omega,by rw [all_take_succ (l:=ws) (i:=i) (d:=⟨false,[]⟩) (by omega),ha];simpa using h33⟩,(by omega)⟩
 ·
  refine A11 ?_
  exact x4 Plain.mk' rfl rfl (Le.bool (by rw [←ha,show i=ws.length by omega,List.take_length]))
theorem xm4 (x y:Int) (hx:len16 x≤1024) (hy:len16 y≤1024):Ct Tryz.prog 153 [tL 2 true tWh [wh x,wh y]] (tB true):=by
 have:=c_WallValid [wh x,wh y]
 simp only [List.all_cons,List.all_nil,valid_wh hx,valid_wh hy,Bool.and_true] at this
 exact this
theorem xn9 (v:Nat) (h:(dig 65536 v).length≤1000000):Ct Tryz.prog 155 [tLm (dig 65536 v)] (tN v):=by
 have:=c_pack (dig 65536 v) (xb6 x8 v) h
 rw [pack_dig] at this;exact this
theorem c_trimN (v:Nat):Ct Tryz.prog 196 [tN v] (tN v):=by
 have:=xp8 (dig 4294967296 v)
 rw [trimL_Top (dig_Top xa2 v)] at this;exact this
theorem xr7 (xs:List Nat) (h:xs.length≤1000000):Ct Tryz.prog 148 [tLm xs] (tLm xs):=Ct.ofG (c_clone16 xs h) rfl
theorem c_unpack (p:Bool) (v:Nat) (h:(dig 4294967296 v).length≤100000):
  Ct Tryz.prog 191 [tB p,tN v] (tWh (wh (sgn p v))):=by
 refine Ct.intro Tryz.func191 rfl Tryz.ntmps191 rfl ?_
 intro w F
 refine A2 ?_
 refine RE (x5 (k:=4) (n:=2) (agg:=true) zr31.1 zr31.2 rfl) trivial trivial ⟨rfl,trivial⟩ ?_
 refine A5 ?_
 refine R1 (x3 (c_trimN _) fi196 rfl) rfl ?_
 refine A11 ?_
 refine x9 rfl (fun h37=> ?_) (fun h37=> ?_)
 ·
  have hv0:v=0:=(xi0 xa2).1 (List.length_eq_zero_iff.1 (by omega))
  subst hv0
  refine A2 ?_
  refine R0 (xa7 (r:=tS [⟨1,false,(tE (.bool false))⟩,⟨1,false,(tLm [])⟩]) (ts:=[]) bu31 zr31.2 Le.refl) ?_
  refine A5 ?_
  exact xc1 Plain.mk' rfl ⟨_,_,_,_,_,rfl,rfl,ti31,(Le.of (by rw [wh_sgn,xd0];simp))⟩
 ·
  have hv0:0 < v:=by
   rcases Nat.eq_zero_or_pos v with h' | h'
   ·subst h';rw [xd0] at h37;simp at h37
   ·exact h'
  refine A6 ?_
  refine R2 (xi5 (wr64 (by omega) (by omega))) rfl rfl (RE (xh1 (k:=17) (t:=tE (.int .u16 0)) (ts:=rW .u16 (List.replicate (2*(dig 4294967296 v).length) 0)) (2*(dig 4294967296 v).length) (2*(dig 4294967296 v).length) Tryz.underlying29 el42 (fun _ _=>rfl) rfl (by omega) (by omega) (Nat.le_refl _) (by omega) (by omega) (xo6 _)) ⟨rfl,rfl,trivial⟩ trivial ⟨rfl,trivial⟩ ?_)
  refine A12 ?_
  refine cL (fun (fm:(Nat)×(List Nat))=>(fun (i:Nat) (ls:List Nat)=>i≤(dig 4294967296 v).length∧ls.length=2*(dig 4294967296 v).length∧ls.take (2*i)=dgs 65536 (2*i) v) fm.1 fm.2) (fun (fm:(Nat)×(List Nat))=>(fun (i:Nat) (ls:List Nat)=>upd (upd (upd (upd (upd (upd (fun _=>none) 0 (some (.val (tB p)))) 4 (some (.own (.ptr 4 0)))) 5 (some (.own (.sl 17 1 0 (2*(dig 4294967296 v).length))))) 18 (some (.val (tN v)))) 19 (some (.val (tI (dig 4294967296 v).length)))) 20 (some (.val (tI i)))) fm.1 fm.2) (fun (fm:(Nat)×(List Nat))=>(fun (i:Nat) (ls:List Nat)=>upd (upd (fun _=>none) 4 (some (⟨31,2,true,[.val (tWh ⟨false,[]⟩)]⟩))) 17 (some (⟨42,1,false,rW .u16 ls⟩))) fm.1 fm.2) [4,17] (fun (fm:(Nat)×(List Nat))=>(fun (i:Nat) (ls:List Nat)=>(dig 4294967296 v).length - i) fm.1 fm.2) ((0,List.replicate (2*(dig 4294967296 v).length) 0)) (by dsimp only;exact ⟨Nat.zero_le _,by simp,rfl⟩) (hh:=((SubK.consI rfl ImpK.refl) ((SubK.consI rfl ImpK.refl) SubK.nil))) ?_
  intro fm hI
  obtain ⟨i,ls⟩:=fm
  replace hI:i≤(dig 4294967296 v).length∧ls.length=2*(dig 4294967296 v).length∧ls.take (2*i)=dgs 65536 (2*i) v:=hI
  show wc _ _ _ _ (upd (upd (upd (upd (upd (upd (fun _=>none) 0 (some (.val (tB p)))) 4 (some (.own (.ptr 4 0)))) 5 (some (.own (.sl 17 1 0 (2*(dig 4294967296 v).length))))) 18 (some (.val (tN v)))) 19 (some (.val (tI (dig 4294967296 v).length)))) 20 (some (.val (tI i)))) (upd (upd (fun _=>none) 4 (some (⟨31,2,true,[.val (tWh ⟨false,[]⟩)]⟩))) 17 (some (⟨42,1,false,rW .u16 ls⟩))) _
  obtain ⟨hi,hl,ht⟩:=hI
  have hx:=xb7 xa2 v i
  have hxW:=(xb6 xa2 v).getD (by decide) i
  refine A6 ?_
  refine x9 rfl (fun h41=> ?_) (fun h41=> ?_)
  ·
   refine A7 ?_
   refine R2 (x6 sl144 (i) (by omega) (gN (by omega))) rfl rfl ?_
   refine A9 ?_
   refine R2 (xi5 (wr64 (by omega) (by omega))) rfl rfl ?_
   refine A1 ?_
   refine R1 (x7 Tryz.underlying42 (isS Tryz.underlying157) cut16) rfl (R2 (xa5 sl29 (by omega) (by omega) rfl) rfl rfl (RE (xc3 (2*i) ti42 (xj5 (by omega)) (by omega) (xh3 (m:=_) rfl)) ⟨rfl,rfl,trivial⟩ ⟨rfl,trivial⟩ trivial ?_))
   refine A5 ?_
   refine R2 (xi5 (wr64 (by omega) (by omega))) rfl rfl ?_
   refine A2 ?_
   refine R2 (xh4 (by decide) (shrN (s:=16) rfl (by decide))) rfl rfl (R1 (x7 Tryz.underlying42 (isS Tryz.underlying157) (wu16 (by omega) (by omega))) rfl (R2 (xa5 sl29 (by omega) (by omega) rfl) rfl rfl (RE (xc3 (2*i+1) ti42 (xj5 (by rw [List.length_set];omega)) (by omega) (xh3 (m:=_) rfl)) ⟨rfl,rfl,trivial⟩ ⟨rfl,trivial⟩ trivial ?_)))
   refine A7 ?_
   obtain ⟨n1,n2⟩:=unpack_in (by omega) hl ht
   rw [←hx] at n1 n2
   exact kF ((i+1,(ls.set (2*i) ((dig 4294967296 v).getD i 0%65536)).set (2*i+1) ((dig 4294967296 v).getD i 0 / 2 ^ 16))) ⟨(by dsimp only;exact ⟨by omega,n1,n2⟩),(by dsimp only;omega)⟩ (hh:=((SubK.consI rfl ImpK.refl) ((SubK.consI rfl ImpK.refl) SubK.nil)))
  ·
   have him:i=(dig 4294967296 v).length:=by omega
   subst him
   obtain ⟨e1,e2,e3⟩:=unpack_end rfl hv0 hl ht
   refine A12 ?_
   refine R2 (xa5 sl29 (by omega) (by omega) rfl) rfl rfl (RE (xd8 (2*(dig 4294967296 v).length - 1) ti42 (xn6 (by omega)) (by omega)) ⟨rfl,trivial⟩ ⟨rfl,trivial⟩ trivial ?_)
   refine A3 ?_
   refine x9 rfl (fun h45=> ?_) (fun h45=> ?_)
   ·
    refine A5 ?_
    refine R2 (d_sliceOTo sl29 (2*(dig 4294967296 v).length - 1) (by omega) (by omega) rfl) rfl rfl ?_
    refine A6 ?_
    refine RE (xf8 (f:=fun n:Nat=>tE (.int .u16 n)) (xs:=ls.take (2*(dig 4294967296 v).length - 1)) (fun _ h=>h) rW_take (by rw [List.length_take];omega)) ⟨rfl,trivial⟩ ⟨rfl,trivial⟩ trivial (R2 (xa7 (r:=tS [⟨1,false,tB p⟩,⟨1,false,tLm (ls.take (2*(dig 4294967296 v).length - 1))⟩]) (ts:=[(0,tB p),(1,tLm (ls.take (2*(dig 4294967296 v).length - 1)))]) bu31 zr31.2 (Bc 0 rfl rfl rfl (Bc 1 rfl rfl rfl Le.refl))) rfl rfl ?_)
    refine A4 ?_
    exact xc1 Plain.mk' rfl ⟨_,_,_,_,_,rfl,rfl,ti31,(Le.of (by rw [wh_sgn,e1 (by omega),decide_eq_true (show v≠0 by omega),Bool.and_true]))⟩
   ·
    refine A5 ?_
    refine RE (xf8 (f:=fun n:Nat=>tE (.int .u16 n)) (xs:=ls) (fun _ h=>h) (xi7 hl) hl) ⟨rfl,trivial⟩ ⟨rfl,trivial⟩ trivial (R2 (xa7 (r:=tS [⟨1,false,tB p⟩,⟨1,false,tLm ls⟩]) (ts:=[(0,tB p),(1,tLm ls)]) bu31 zr31.2 (Bc 0 rfl rfl rfl (Bc 1 rfl rfl rfl Le.refl))) rfl rfl ?_)
    refine A4 ?_
    exact xc1 Plain.mk' rfl ⟨_,_,_,_,_,rfl,rfl,ti31,(Le.of (by rw [wh_sgn,e2 (by omega),decide_eq_true (show v≠0 by omega),Bool.and_true]))⟩
theorem c_result (p:Bool) (v:Nat) (h:(dig 4294967296 v).length≤100000):
  Ct Tryz.prog 179 [tB p,tN v] (tT [tWh (resW (sgn p v)),tI (resE (sgn p v))]):=by
 refine Ct.intro Tryz.func179 rfl Tryz.ntmps179 rfl ?_
 intro w F
 refine A2 ?_
 refine RE (x5 (k:=4) (n:=2) (agg:=true) zr31.1 zr31.2 rfl) trivial trivial ⟨rfl,trivial⟩ ?_
 refine A7 ?_
 refine R2 (x3 (c_unpack _ _ h) fi191 rfl) rfl rfl (RE (x5 (k:=6) (n:=2) (agg:=true) zr31.1 zr31.2 rfl) trivial trivial ⟨rfl,trivial⟩ ?_)
 refine A12 ?_
 refine x9 rfl (fun h89=> ?_) (fun h89=> ?_)
 ·
  have hn: ¬len16 (sgn p v)≤1024:=by show ¬(wh (sgn p v)).l.length≤1024;omega
  refine A2 ?_
  refine R0 (xa7 (r:=tS [⟨1,false,(tE (.bool false))⟩,⟨1,false,(tLm [])⟩]) (ts:=[]) bu31 zr31.2 Le.refl) ?_
  refine A6 ?_
  exact xa8 Plain.mk' (rs:=[.cell 4 31,.tmp 5]) rfl rfl ⟨⟨_,_,_,_,_,rfl,rfl,ti31,(Le.of (by rw [resW,if_neg hn]))⟩,⟨_,rfl,(Le.int (by rw [resE,if_neg hn]))⟩,trivial⟩
 ·
  have hn:len16 (sgn p v)≤1024:=by show (wh (sgn p v)).l.length≤1024;omega
  refine A10 ?_
  exact xa8 Plain.mk' (rs:=[.cell 4 31,.tmp 5]) rfl rfl ⟨⟨_,_,_,_,_,rfl,rfl,ti31,(Le.of (by rw [resW,if_pos hn]))⟩,⟨_,rfl,(Le.int (by rw [resE,if_pos hn]))⟩,trivial⟩
theorem c_sum (p:Bool) (m:Nat) (q:Bool) (n:Nat) (hm:(dig 4294967296 m).length≤10000) (hn:(dig 4294967296 n).length≤10000):
  Ct Tryz.prog 190 [tB p,tN m,tB q,tN n] (tT [tWh (resW (sgn p m+sgn q n)),tI (resE (sgn p m+sgn q n))]):=by
 have hmn:=len_add (m:=m) (n:=n) hm hn
 refine Ct.intro Tryz.func190 rfl Tryz.ntmps190 rfl ?_
 intro w F
 refine A2 ?_
 refine RE (x5 (k:=8) (n:=2) (agg:=true) zr31.1 zr31.2 rfl) trivial trivial ⟨rfl,trivial⟩ ?_
 refine A11 ?_
 refine xc0 rfl (fun h97=> ?_) (fun h97=> ?_)
 ·
  have hpq:p=q:=by simpa using h97
  subst hpq
  refine A5 ?_
  refine R2 (x3 (c_plus m n (by omega) (by omega)) fi194 rfl) rfl rfl (R2 (x3 (c_result p (m+n) (by omega)) fi179 rfl) rfl rfl ?_)
  refine A8 ?_
  exact xa8 Plain.mk' (rs:=[.cell 8 31,.tmp 9]) rfl rfl ⟨⟨_,_,_,_,_,rfl,rfl,ti31,(Le.of (by rw [sgn_add]))⟩,⟨_,rfl,(Le.int (by rw [sgn_add]))⟩,trivial⟩
 ·
  have hpq:q= !p:=by cases p <;> cases q <;> simp_all
  subst hpq
  refine A7 ?_
  refine R2 (x3 (c_compare m n) fi154 rfl) rfl rfl ?_
  refine A3 ?_
  refine x9 rfl (fun h100=> ?_) (fun h100=> ?_)
  ·
   have hle:n≤m:=by
    have:=mt xr9.2 (by omega: ¬cmpN m n < 0)
    omega
   refine A5 ?_
   refine R2 (x3 (c_minus m n (by omega) (by omega)) fi195 rfl) rfl rfl (R2 (x3 (c_result p (m - n) (by have:=xe0 xa2 (Nat.sub_le m n);omega)) fi179 rfl) rfl rfl ?_)
   refine A8 ?_
   exact xa8 Plain.mk' (rs:=[.cell 8 31,.tmp 9]) rfl rfl ⟨⟨_,_,_,_,_,rfl,rfl,ti31,(Le.of (by rw [sgn_sub hle]))⟩,⟨_,rfl,(Le.int (by rw [sgn_sub hle]))⟩,trivial⟩
  ·
   have hle:m < n:=xr9.1 (by omega)
   refine A7 ?_
   refine R2 (x3 (c_minus n m (by omega) (by omega)) fi195 rfl) rfl rfl (R2 (x3 (c_result (!p) (n - m) (by have:=xe0 xa2 (Nat.sub_le n m);omega)) fi179 rfl) rfl rfl ?_)
   refine A7 ?_
   exact xa8 Plain.mk' (rs:=[.cell 8 31,.tmp 9]) rfl rfl ⟨⟨_,_,_,_,_,rfl,rfl,ti31,(Le.of (by rw [sgn_sub' (Nat.le_of_lt hle)]))⟩,⟨_,rfl,(Le.int (by rw [sgn_sub' (Nat.le_of_lt hle)]))⟩,trivial⟩
theorem c_Add (x y:Int) (hx:len16 x≤1024) (hy:len16 y≤1024):
  Ct Tryz.prog 175 [tWh (wh x),tWh (wh y)] (tT [tWh (resW (x+y)),tI (resE (x+y))]):=by
 have hx32:=len32_le hx
 have hy32:=len32_le hy
 refine Ct.intro Tryz.func175 rfl Tryz.ntmps175 rfl ?_
 intro w F
 refine A4 ?_
 refine RE (x5 (k:=4) (n:=2) (agg:=true) zr31.1 zr31.2 rfl) trivial trivial ⟨rfl,trivial⟩ ?_
 refine A8 ?_
 refine R2 (xc6 (n:=2) (f:=tWh) [wh x,wh y] Tryz.underlying164 el31 zf31 rfl (fun _=>inferInstance) rfl rfl rfl) rfl rfl (R1 (x3 (xm4 x y hx hy) fi153 rfl) rfl ?_)
 refine A12 ?_
 refine R1 (x3 (xn9 (Int.natAbs x) (by show len16 x≤1000000;omega)) fi155 rfl) rfl ?_
 refine A4 ?_
 refine R1 (x3 (xn9 (Int.natAbs y) (by show len16 y≤1000000;omega)) fi155 rfl) rfl (RE (x3 (c_sum (wh x).neg x.natAbs (wh y).neg y.natAbs (by omega) (by omega)) fi190 rfl) ⟨rfl,rfl,rfl,rfl,trivial⟩ trivial trivial ?_)
 refine A7 ?_
 exact xa8 Plain.mk' (rs:=[.cell 4 31,.tmp 5]) rfl rfl ⟨⟨_,_,_,_,_,rfl,rfl,ti31,(Le.of (by rw [sgn_wh,sgn_wh]))⟩,⟨_,rfl,(Le.int (by rw [sgn_wh,sgn_wh]))⟩,trivial⟩
theorem c_Mul (x y:Int) (hx:len16 x≤1024) (hy:len16 y≤1024):
  Ct Tryz.prog 146 [tWh (wh x),tWh (wh y)] (tT [tWh (resW (x*y)),tI (resE (x*y))]):=by
 have hx32:=len32_le hx
 have hy32:=len32_le hy
 have hmul:=len_mul (k:=1024) (m:=x.natAbs) (n:=y.natAbs) (by omega) (by omega)
 refine Ct.intro Tryz.func146 rfl Tryz.ntmps146 rfl ?_
 intro w F
 refine A4 ?_
 refine RE (x5 (k:=4) (n:=2) (agg:=true) zr31.1 zr31.2 rfl) trivial trivial ⟨rfl,trivial⟩ ?_
 refine A8 ?_
 refine R2 (xc6 (n:=2) (f:=tWh) [wh x,wh y] Tryz.underlying164 el31 zf31 rfl (fun _=>inferInstance) rfl rfl rfl) rfl rfl (R1 (x3 (xm4 x y hx hy) fi153 rfl) rfl ?_)
 refine A15 ?_
 refine R1 (x3 (xn9 (Int.natAbs x) (by show len16 x≤1000000;omega)) fi155 rfl) rfl ?_
 refine A2 ?_
 refine R1 (x3 (xn9 (Int.natAbs y) (by show len16 y≤1000000;omega)) fi155 rfl) rfl (R2 (x3 (c_times x.natAbs y.natAbs (by omega) (by omega)) fi180 rfl) rfl rfl (R2 (x3 (c_result (!((wh x).neg==(wh y).neg)) (x.natAbs*y.natAbs) (by omega)) fi179 rfl) rfl rfl ?_))
 refine A7 ?_
 exact xa8 Plain.mk' (rs:=[.cell 4 31,.tmp 5]) rfl rfl ⟨⟨_,_,_,_,_,rfl,rfl,ti31,(Le.of (by rw [sgn_mul]))⟩,⟨_,rfl,(Le.int (by rw [sgn_mul]))⟩,trivial⟩
theorem c_Gcd (x y:Int) (hx:len16 x≤1024) (hy:len16 y≤1024):
  Ct Tryz.prog 177 [tWh (wh x),tWh (wh y)] (tT [tWh (wh ((Int.gcd x y:Nat):Int)),tI 0]):=by
 have hx32:=len32_le hx
 have hy32:=len32_le hy
 have hg:=len_gcd (k:=1024) (m:=x.natAbs) (n:=y.natAbs) (by omega) (by omega)
 refine Ct.intro Tryz.func177 rfl Tryz.ntmps177 rfl ?_
 intro w F
 refine A4 ?_
 refine RE (x5 (k:=4) (n:=2) (agg:=true) zr31.1 zr31.2 rfl) trivial trivial ⟨rfl,trivial⟩ ?_
 refine A8 ?_
 refine R2 (xc6 (n:=2) (f:=tWh) [wh x,wh y] Tryz.underlying164 el31 zf31 rfl (fun _=>inferInstance) rfl rfl rfl) rfl rfl (R1 (x3 (xm4 x y hx hy) fi153 rfl) rfl ?_)
 refine A10 ?_
 refine R1 (x3 (xn9 (Int.natAbs x) (by show len16 x≤1000000;omega)) fi155 rfl) rfl ?_
 refine A2 ?_
 refine R1 (x3 (xn9 (Int.natAbs y) (by show len16 y≤1000000;omega)) fi155 rfl) rfl (R2 (x3 (c_commonDivisor x.natAbs y.natAbs (by omega) (by omega)) fi192 rfl) rfl rfl (R2 (x3 (c_unpack false (Nat.gcd x.natAbs y.natAbs) (by omega)) fi191 rfl) rfl rfl ?_))
 refine A5 ?_
 exact xa8 Plain.mk' (rs:=[.cell 4 31,.tmp 5]) rfl rfl ⟨⟨_,_,_,_,_,rfl,rfl,ti31,Le.refl⟩,⟨_,rfl,Le.refl⟩,trivial⟩
theorem c_Cmp (x y:Int) (hx:len16 x≤1024) (hy:len16 y≤1024):
  Ct Tryz.prog 122 [tWh (wh x),tWh (wh y)] (tI (cmpZ x y)):=by
 have hx32:=len32_le hx
 have hy32:=len32_le hy
 refine Ct.intro Tryz.func122 rfl Tryz.ntmps122 rfl ?_
 intro w F
 refine A12 ?_
 refine R2 (xc6 (n:=2) (f:=tWh) [wh x,wh y] Tryz.underlying164 el31 zf31 rfl (fun _=>inferInstance) rfl rfl rfl) rfl rfl (R1 (x3 (xm4 x y hx hy) fi153 rfl) rfl ?_)
 refine A16 ?_
 refine xc0 rfl (fun h160=> ?_) (fun h160=> ?_)
 ·
  have hs:(decide (x < 0)==decide (y < 0))=false:=by have h:=h160;rw [Bool.not_eq_true'] at h;exact h
  refine A7 ?_
  refine xc0 rfl (fun h161=> ?_) (fun h161=> ?_)
  ·
   have hx0:x < 0:=of_decide_eq_true h161
   refine A8 ?_
   exact x4 Plain.mk' rfl rfl (Le.int (cmpZ_a hs hx0).symm)
  ·
   have hx0: ¬x < 0:=of_decide_eq_false h161
   refine A9 ?_
   exact x4 Plain.mk' rfl rfl (Le.int (cmpZ_b hs hx0).symm)
 ·
  have hs:decide (x < 0)=decide (y < 0):=eq_of_beq (by have h:=h160;rw [Bool.not_eq_false'] at h;exact h)
  refine A6 ?_
  refine R1 (x3 (xn9 (Int.natAbs x) (by show len16 x≤1000000;omega)) fi155 rfl) rfl ?_
  refine A2 ?_
  refine R1 (x3 (xn9 (Int.natAbs y) (by show len16 y≤1000000;omega)) fi155 rfl) rfl (R2 (x3 (c_compare x.natAbs y.natAbs) fi154 rfl) rfl rfl ?_)
  refine A10 ?_
  refine xc0 rfl (fun h167=> ?_) (fun h167=> ?_)
  ·
   have hx0:x < 0:=of_decide_eq_true h167
   refine A3 ?_
   refine R1 (d_neg (wr64 (by have:=cmpN_bd x.natAbs y.natAbs;omega) (by have:=cmpN_bd x.natAbs y.natAbs;omega))) rfl ?_
   refine A5 ?_
   exact x4 Plain.mk' rfl rfl (Le.int (by rw [cmpZ_c hs hx0];omega))
  ·
   have hx0: ¬x < 0:=of_decide_eq_false h167
   refine A9 ?_
   exact x4 Plain.mk' rfl rfl (Le.int (cmpZ_d hs hx0).symm)
end An.S
namespace An
open Go
theorem div_neg {m y:Nat} (hy:0 < y):(-(m:Int)) / (y:Int)=(if m%y=0 then -((m / y:Nat):Int) else -((m / y+1:Nat):Int))∧(-(m:Int))%(y:Int)=(if m%y=0 then 0 else ((y - m%y:Nat):Int)):=by
 have h1:=Nat.div_add_mod m y
 have h2:=Nat.mod_lt m hy
 have hm:(m:Int)=y*((m / y:Nat):Int)+((m%y:Nat):Int):=by
  rw [←Int.natCast_mul,←Int.natCast_add,h1]
 generalize m / y=q at*
 generalize m%y=r at*
 have hu:= @Int.ediv_emod_unique (-(m:Int)) (y:Int)
 split
 ·rename_i h0
  refine (hu (by omega)).2 ⟨?_,by omega,by omega⟩
  rw [hm,h0];grind
 ·refine (hu (by omega)).2 ⟨?_,by omega,by omega⟩
  rw [hm,Int.natCast_sub (Nat.le_of_lt h2),Int.natCast_add];grind
theorem dm_quo {x y:Int} (hy:0 < y) {Q R:Nat} (h:(decide (x < 0)=true∧x.natAbs%y.natAbs≠0→Q=x.natAbs / y.natAbs+1∧R=y.natAbs - x.natAbs%y.natAbs)∧(¬(decide (x < 0)=true∧x.natAbs%y.natAbs≠0)→Q=x.natAbs / y.natAbs∧R=x.natAbs%y.natAbs)):
  sgn (!((wh x).neg==(wh y).neg)) Q=x / y∧sgn (wh y).neg R=x%y:=by
 have ey:(wh y).neg=false:=decide_eq_false (by omega)
 have ex:(wh x).neg=decide (x < 0):=rfl
 rw [ey,ex]
 obtain ⟨n,rfl⟩:=Int.eq_ofNat_of_zero_le (Int.le_of_lt hy)
 have hn:0 < n:=by omega
 simp only [Int.natAbs_natCast] at h
 by_cases hx:x < 0
 ·obtain ⟨m,hm⟩:=Int.eq_ofNat_of_zero_le (show 0≤ -x by omega)
  have hxm:x= -(m:Int):=by omega
  subst hxm
  obtain ⟨d1,d2⟩:=div_neg (m:=m) hn
  simp only [Int.natAbs_neg,Int.natAbs_natCast] at h
  rw [d1,d2,decide_eq_true hx]
  by_cases h0:m%n=0
  ·obtain ⟨e1,e2⟩:=h.2 (by simp [h0])
   rw [e1,e2,if_pos h0,if_pos h0,h0]
   simp [sgn]
  ·obtain ⟨e1,e2⟩:=h.1 ⟨decide_eq_true hx,h0⟩
   rw [e1,e2,if_neg h0,if_neg h0]
   simp [sgn]
 ·obtain ⟨m,rfl⟩:=Int.eq_ofNat_of_zero_le (show 0≤x by omega)
  simp only [Int.natAbs_natCast] at h
  obtain ⟨e1,e2⟩:=h.2 fun h'=>hx (of_decide_eq_true h'.1)
  rw [e1,e2,decide_eq_false hx]
  simp [sgn]
theorem len_one:(dig 4294967296 1).length≤1:=(xa9 xa2 1 1).2 (by decide)
theorem wh_len (v:Nat) (h:v < 18446744073709551616):(dig 65536 v).length≤4:=(xa9 x8 v 4).2 (by simpa using h)
theorem count_step {v i c:Nat} (h:c=(dig 65536 (v%65536 ^ i)).length):(v / 65536 ^ i%65536≠0→i+1=(dig 65536 (v%65536 ^ (i+1))).length)∧(v / 65536 ^ i%65536=0→c=(dig 65536 (v%65536 ^ (i+1))).length):=by
 have e:=xh7 65536 v i
 refine ⟨fun h0=> ?_,fun h0=>by rw [e,h0,Nat.mul_zero,Nat.add_zero];exact h⟩
 have hp:0 < 65536 ^ i:=Nat.pow_pos (by decide)
 have h1:(dig 65536 (v%65536 ^ (i+1))).length≤i+1:=(xa9 x8 _ _).2 (Nat.mod_lt _ (Nat.pow_pos (by decide)))
 have h2: ¬(dig 65536 (v%65536 ^ (i+1))).length≤i:=fun h'=>by
  have h3:=(xa9 x8 _ _).1 h'
  rw [e] at h3
  have h4:65536 ^ i*1≤65536 ^ i*(v / 65536 ^ i%65536):=Nat.mul_le_mul_left _ (by omega)
  omega
 omega
theorem shr16i (v i:Nat):v / 2 ^ (16*i)=v / 65536 ^ i:=by rw [Nat.pow_mul]
theorem toU64 {n:Int}:IntKind.u64.wrap n=(((n%18446744073709551616).toNat:Nat):Int):=by
 rw [mu64];omega
theorem negU64 {v:Nat} (hv:v < 18446744073709551616):IntKind.u64.wrap (0 - (v:Int))=(((18446744073709551616 - v)%18446744073709551616:Nat):Int):=by
 rw [mu64];omega
end An
namespace An.S
open Go Go.Proofs An
instance fi148:FnI Tryz.prog 148:=⟨_,Tryz.func148,by kernel_rfl,rfl⟩
instance fi181:FnI Tryz.prog 181:=⟨_,Tryz.func181,by kernel_rfl,rfl⟩
theorem ar139:ArI Tryz.prog 139 42 4 1 false:=⟨by kernel_rfl,ti42⟩
theorem c_plusOne (a:Nat) (ha:(dig 4294967296 a).length≤10000):Ct Tryz.prog 194 [tN a,tWs [1]] (tN (a+1)):=by
 have e:dig 4294967296 1=[1]:=by rw [xk6 xa2 (by decide),show (1:Nat) / 4294967296=0 by decide,xd0]
 have:=c_plus a 1 (by omega) (by rw [e];decide)
 rw [tN,tN,e] at this;exact this
theorem c_DivMod (x y:Int) (hx:len16 x≤1024) (hy:len16 y≤1024) (hy0:0 < y):
  Ct Tryz.prog 178 [tWh (wh x),tWh (wh y)] (tT [tWh (wh (x / y)),tWh (wh (x%y)),tI 0]):=by
 have hx32:=len32_le hx
 have hy32:=len32_le hy
 have hq32:(dig 4294967296 (x.natAbs / y.natAbs)).length≤1024:=Nat.le_trans (xe0 xa2 (Nat.div_le_self _ _)) hx32
 have hrl:x.natAbs%y.natAbs < y.natAbs:=Nat.mod_lt _ (by omega)
 have hr32:(dig 4294967296 (x.natAbs%y.natAbs)).length≤1024:=Nat.le_trans (xe0 xa2 (Nat.le_of_lt hrl)) hy32
 have hs32:(dig 4294967296 (y.natAbs - x.natAbs%y.natAbs)).length≤1024:=Nat.le_trans (xe0 xa2 (Nat.sub_le _ _)) hy32
 have hq1:=len_add (k:=1024) (m:=x.natAbs / y.natAbs) (n:=1) hq32 (Nat.le_trans len_one (by decide))
 have ey:(wh y).neg=false:=decide_eq_false (by omega)
 have ex:(wh x).neg=decide (x < 0):=rfl
 refine Ct.intro Tryz.func178 rfl Tryz.ntmps178 rfl ?_
 intro w F
 refine A4 ?_
 refine RE (x5 (k:=4) (n:=2) (agg:=true) zr31.1 zr31.2 rfl) trivial trivial ⟨rfl,trivial⟩ (RE (x5 (k:=5) (n:=2) (agg:=true) zr31.1 zr31.2 rfl) trivial trivial ⟨rfl,trivial⟩ ?_)
 refine A8 ?_
 refine R2 (xc6 (n:=2) (f:=tWh) [wh x,wh y] Tryz.underlying164 el31 zf31 rfl (fun _=>inferInstance) rfl rfl rfl) rfl rfl (R1 (x3 (xm4 x y hx hy) fi153 rfl) rfl ?_)
 refine A15 ?_
 refine C_bF rfl (decide_eq_false (by (intro h;have h2:(wh y).l.length=0:=(by omega);have h3:y.natAbs=0:=(xi0 x8).1 (List.length_eq_zero_iff.1 h2);omega))) ?_
 refine A6 ?_
 refine R1 (x3 (xn9 (Int.natAbs y) (by show len16 y≤1000000;omega)) fi155 rfl) rfl ?_
 refine A7 ?_
 refine R1 (x3 (xn9 (Int.natAbs x) (by show len16 x≤1000000;omega)) fi155 rfl) rfl ?_
 refine A1 ?_
 refine R2 (x3 (c_divide x.natAbs y.natAbs (by omega) (by omega) (by omega)) fi193 rfl) rfl rfl ?_
 refine A7 ?_
 refine xg0 (fun (fm:(Nat)×(Nat))=>(fun (Q:Nat) (R:Nat)=>(sgn (!((wh x).neg==(wh y).neg)) Q=x / y∧sgn (wh y).neg R=x%y)∧(dig 4294967296 Q).length≤1025∧(dig 4294967296 R).length≤1024) fm.1 fm.2) (fun (fm:(Nat)×(Nat))=>(fun (Q:Nat) (R:Nat)=>upd (upd (upd (upd (upd (upd (fun _=>none) 2 (some (.own (.ptr 2 0)))) 3 (some (.own (.ptr 3 0)))) 4 (some (.own (.ptr 4 0)))) 5 (some (.own (.ptr 5 0)))) 8 (some (.val (tN Q)))) 9 (some (.val (tN R)))) fm.1 fm.2) (fun (fm:(Nat)×(Nat))=>(fun (Q:Nat) (R:Nat)=>upd (upd (upd (upd (fun _=>none) 2 (some (⟨31,2,true,[.val (tWh (wh x))]⟩))) 3 (some (⟨31,2,true,[.val (tWh (wh y))]⟩))) 4 (some (⟨31,2,true,[.val (tWh ⟨false,[]⟩)]⟩))) 5 (some (⟨31,2,true,[.val (tWh ⟨false,[]⟩)]⟩))) fm.1 fm.2) (nm [2,3,4,5]) ?_ ?_
 ·
  refine A8 ?_
  refine RGcase (t:=39) rfl (fun h140=> ?_) (fun h140=> ?_)
  ·
   have hxn:decide (x < 0)=true:=by have h:=h140;rw [ey,ex] at h;simpa using h
   refine A6 ?_
   refine x9 rfl (fun h140_2=> ?_) (fun h140_2=> ?_)
   ·
    have hr0:x.natAbs%y.natAbs≠0:=fun h=>by rw [h,xd0] at h140_2;simp at h140_2
    refine A3 ?_
    refine R1 (xm9 (n:=1) [1] Tryz.underlying144 el157 zf157 rfl rfl rfl) rfl (R2 (x3 (c_plusOne _ (by omega)) fi194 rfl) rfl rfl ?_)
    refine A6 ?_
    refine R2 (x3 (c_minus y.natAbs (x.natAbs%y.natAbs) (by omega) (by omega)) fi195 rfl) rfl rfl ?_
    refine A2 ?_
    exact kF ((x.natAbs / y.natAbs+1,y.natAbs - x.natAbs%y.natAbs)) (by dsimp only;exact ⟨dm_quo hy0 ⟨fun _=>⟨rfl,rfl⟩,fun h=>(h ⟨hxn,hr0⟩).elim⟩,hq1,hs32⟩) (hh:=((SubK.consI rfl ImpK.refl) ((SubK.consI rfl ImpK.refl) (SubK.cons rfl (SubK.cons rfl SubK.nil)))))
   ·
    have hr0:x.natAbs%y.natAbs=0:=(xi0 xa2).1 (List.length_eq_zero_iff.1 (by omega))
    refine A1 ?_
    exact kF ((x.natAbs / y.natAbs,x.natAbs%y.natAbs)) (by dsimp only;exact ⟨dm_quo hy0 ⟨fun h=>(h.2 hr0).elim,fun _=>⟨rfl,rfl⟩⟩,by omega,hr32⟩) (hh:=((SubK.consI rfl ImpK.refl) ((SubK.consI rfl ImpK.refl) (SubK.cons rfl (SubK.cons rfl SubK.nil)))))
  ·
   have hxn: ¬decide (x < 0)=true:=by have h:=h140;rw [ey,ex] at h;simpa using h
   refine A8 ?_
   exact kF ((x.natAbs / y.natAbs,x.natAbs%y.natAbs)) (by dsimp only;exact ⟨dm_quo hy0 ⟨fun h=>(hxn h.1).elim,fun _=>⟨rfl,rfl⟩⟩,by omega,hr32⟩) (hh:=((SubK.consI rfl ImpK.refl) ((SubK.consI rfl ImpK.refl) (SubK.cons rfl (SubK.cons rfl SubK.nil)))))
 ·
  intro fm hj
  obtain ⟨Q,R⟩:=fm
  replace hj:(sgn (!((wh x).neg==(wh y).neg)) Q=x / y∧sgn (wh y).neg R=x%y)∧(dig 4294967296 Q).length≤1025∧(dig 4294967296 R).length≤1024:=hj
  show wc _ _ _ _ (upd (upd (upd (upd (upd (upd (fun _=>none) 2 (some (.own (.ptr 2 0)))) 3 (some (.own (.ptr 3 0)))) 4 (some (.own (.ptr 4 0)))) 5 (some (.own (.ptr 5 0)))) 8 (some (.val (tN Q)))) 9 (some (.val (tN R)))) (upd (upd (upd (upd (fun _=>none) 2 (some (⟨31,2,true,[.val (tWh (wh x))]⟩))) 3 (some (⟨31,2,true,[.val (tWh (wh y))]⟩))) 4 (some (⟨31,2,true,[.val (tWh ⟨false,[]⟩)]⟩))) 5 (some (⟨31,2,true,[.val (tWh ⟨false,[]⟩)]⟩))) _
  obtain ⟨⟨hQ,hR⟩,hQl,hRl⟩:=hj
  refine A8 ?_
  refine R2 (x3 (c_unpack (!((wh x).neg==(wh y).neg)) Q (by omega)) fi191 rfl) rfl rfl ?_
  refine A3 ?_
  refine R2 (x3 (c_unpack (wh y).neg R (by omega)) fi191 rfl) rfl rfl ?_
  refine A6 ?_
  exact xa8 Plain.mk' (rs:=[.cell 4 31,.cell 5 31,.tmp 6]) rfl rfl ⟨⟨_,_,_,_,_,rfl,rfl,ti31,(Le.of (by rw [hQ]))⟩,⟨_,_,_,_,_,rfl,rfl,ti31,(Le.of (by rw [hR]))⟩,⟨_,rfl,Le.refl⟩,trivial⟩
theorem rW_take0 {k:IntKind} {xs:List Nat} {n:Nat}:(rW k xs).take n=(xs.take n).map fun x:Nat=> .val (tE (.int k (x:Int))):=by
 rw [rW,List.map_take]
theorem c_FromInt (n:Int) (h1: -9223372036854775808≤n) (h2:n≤9223372036854775807):
  Ct Tryz.prog 114 [tI n] (tWh (wh n)):=by
 refine Ct.intro Tryz.func114 rfl Tryz.ntmps114 rfl ?_
 intro w F
 refine A2 ?_
 refine RE (x5 (k:=2) (n:=2) (agg:=true) zr31.1 zr31.2 rfl) trivial trivial ⟨rfl,trivial⟩ ?_
 refine A5 ?_
 refine R1 (x7 Tryz.underlying82 (isS Tryz.underlying3) toU64) rfl ?_
 refine A3 ?_
 refine xg0 (fun (v:Nat)=>v=n.natAbs) (fun (v:Nat)=>upd (upd (upd (fun _=>none) 0 (some (.val (tI n)))) 2 (some (.own (.ptr 2 0)))) 3 (some (.val (tE (.int .u64 ((v:Nat):Int)))))) (fun (v:Nat)=>upd (fun _=>none) 2 (some (⟨31,2,true,[.val (tWh ⟨false,[]⟩)]⟩))) (nm [2]) ?_ ?_
 ·
  refine A6 ?_
  refine x9 rfl (fun h48=> ?_) (fun h48=> ?_)
  ·
   refine A2 ?_
   refine R1 (d_neg (negU64 (by omega))) rfl ?_
   refine A2 ?_
   exact kF ((18446744073709551616 - (n%18446744073709551616).toNat)%18446744073709551616) (by omega) (hh:=((SubK.consI rfl ImpK.refl) SubK.nil))
  ·
   refine A1 ?_
   exact kF ((n%18446744073709551616).toNat) (by omega) (hh:=((SubK.consI rfl ImpK.refl) SubK.nil))
 ·
  intro v hv
  refine A2 ?_
  refine RE (d_allocA (k:=4) (len:=4) (u:= .int .u16 0) Tryz.underlying139 (z:= .agg #[.int .u16 0,.int .u16 0,.int .u16 0,.int .u16 0]) (by kernel_rfl) rfl rfl) trivial trivial ⟨rfl,trivial⟩ ?_
  refine A14 ?_
  refine cL (fun (fm:(Nat)×(List Nat)×(Nat))=>(fun (i:Nat) (ls:List Nat) (c:Nat)=>i≤4∧ls.length=4∧ls.take i=dgs 65536 i v∧c=(dig 65536 (v%65536 ^ i)).length) fm.1 fm.2.1 fm.2.2) (fun (fm:(Nat)×(List Nat)×(Nat))=>(fun (i:Nat) (ls:List Nat) (c:Nat)=>upd (upd (upd (upd (upd (upd (fun _=>none) 0 (some (.val (tI n)))) 2 (some (.own (.ptr 2 0)))) 3 (some (.val (tE (.int .u64 ((v:Nat):Int)))))) 4 (some (.own (.ptr 4 0)))) 5 (some (.val (tI c)))) 13 (some (.val (tI i)))) fm.1 fm.2.1 fm.2.2) (fun (fm:(Nat)×(List Nat)×(Nat))=>(fun (i:Nat) (ls:List Nat) (c:Nat)=>upd (upd (fun _=>none) 2 (some (⟨31,2,true,[.val (tWh ⟨false,[]⟩)]⟩))) 4 (some (⟨139,1,false,rW .u16 ls⟩))) fm.1 fm.2.1 fm.2.2) [2,4] (fun (fm:(Nat)×(List Nat)×(Nat))=>(fun (i:Nat) (ls:List Nat) (c:Nat)=>4 - i) fm.1 fm.2.1 fm.2.2) ((0,[0,0,0,0],0)) (by dsimp only;exact ⟨by omega,rfl,rfl,by rw [Nat.pow_zero,Nat.mod_one,xd0];rfl⟩) (hh:=((SubK.consI rfl ImpK.refl) ((SubK.consI rfl ImpK.refl) SubK.nil))) ?_
  intro fm hI
  obtain ⟨i,ls,c⟩:=fm
  replace hI:i≤4∧ls.length=4∧ls.take i=dgs 65536 i v∧c=(dig 65536 (v%65536 ^ i)).length:=hI
  show wc _ _ _ _ (upd (upd (upd (upd (upd (upd (fun _=>none) 0 (some (.val (tI n)))) 2 (some (.own (.ptr 2 0)))) 3 (some (.val (tE (.int .u64 ((v:Nat):Int)))))) 4 (some (.own (.ptr 4 0)))) 5 (some (.val (tI c)))) 13 (some (.val (tI i)))) (upd (upd (fun _=>none) 2 (some (⟨31,2,true,[.val (tWh ⟨false,[]⟩)]⟩))) 4 (some (⟨139,1,false,rW .u16 ls⟩))) _
  obtain ⟨hi,hl,ht,hc⟩:=hI
  obtain ⟨k1,k2⟩:=count_step hc
  have hcl:c≤i:=by rw [hc];exact (xa9 x8 _ _).2 (Nat.mod_lt _ (Nat.pow_pos (by decide)))
  refine A6 ?_
  refine x9 rfl (fun h53=> ?_) (fun h53=> ?_)
  ·
   refine A15 ?_
   refine R2 (xi5 (wr64 (by omega) (by omega))) rfl rfl (R2 (xh4 (by omega) (shrN (s:=16*i) (by omega) (by show 16*i≤64;omega))) rfl rfl (R1 (x7 Tryz.underlying42 (isS Tryz.underlying82) cut16) rfl (R2 (d_indexA ar139 (by omega) (by omega) rfl) rfl rfl (RE (xc3 (i) ti42 (xj5 (by omega)) (by omega) (xh3 (m:=_) rfl)) ⟨rfl,rfl,trivial⟩ ⟨rfl,trivial⟩ trivial ?_))))
   refine A5 ?_
   refine R2 (d_indexA ar139 (by omega) (by omega) rfl) rfl rfl (RE (xd8 (i) ti42 (xn6 (by rw [List.length_set];omega)) (by omega)) ⟨rfl,trivial⟩ ⟨rfl,trivial⟩ trivial ?_)
   refine A3 ?_
   refine x9 rfl (fun h55=> ?_) (fun h55=> ?_)
   ·
    have hd:(ls.set i (v / 2 ^ (16*i)%65536)).getD i 0=v / 65536 ^ i%65536:=by rw [xn7 (by omega),shr16i]
    refine A11 ?_
    rw [hd] at h55
    exact kF ((i+1,ls.set i (v / 2 ^ (16*i)%65536),i+1)) ⟨(by dsimp only;exact ⟨by omega,by simpa using hl,by rw [xk5 (by omega),ht,xm2,shr16i],k1 (by omega)⟩),(by dsimp only;omega)⟩ (hh:=((SubK.consI rfl ImpK.refl) ((SubK.consI rfl ImpK.refl) SubK.nil)))
   ·
    have hd:(ls.set i (v / 2 ^ (16*i)%65536)).getD i 0=v / 65536 ^ i%65536:=by rw [xn7 (by omega),shr16i]
    refine A7 ?_
    rw [hd] at h55
    exact kF ((i+1,ls.set i (v / 2 ^ (16*i)%65536),c)) ⟨(by dsimp only;exact ⟨by omega,by simpa using hl,by rw [xk5 (by omega),ht,xm2,shr16i],k2 (by omega)⟩),(by dsimp only;omega)⟩ (hh:=((SubK.consI rfl ImpK.refl) ((SubK.consI rfl ImpK.refl) SubK.nil)))
  ·
   refine A10 ?_
   refine RE (d_sliceAS (f:=fun n:Nat=>tE (.int .u16 n)) (ys:=ls.take c) (u:=c) ar139 (fun _ h=>h) (fun h=>by cases h) (by omega) rW_take0 (by rw [xk2];exact hl) (by rw [List.length_take];omega) rfl) ⟨rfl,rfl,trivial⟩ ⟨rfl,trivial⟩ trivial (R1 (x3 (xr7 (ls.take c) (by rw [List.length_take];omega)) fi148 rfl) rfl (R2 (xa7 (r:=tS [⟨1,false,tB (decide (n < 0))⟩,⟨1,false,tLm (ls.take c)⟩]) (ts:=[(0,tB (decide (n < 0))),(1,tLm (ls.take c))]) bu31 zr31.2 (Bc 0 rfl rfl rfl (Bc 1 rfl rfl rfl Le.refl))) rfl rfl ?_))
   refine A4 ?_
   have hi4:i=4:=by omega
   subst hi4
   have hfin:ls.take c=dig 65536 n.natAbs:=by
    rw [←hl,List.take_length,hl] at ht
    rw [ht,take_dgs (by omega),←hv]
    rw [Nat.mod_eq_of_lt (by show v < 18446744073709551616;omega)] at hc
    rw [hc,xp4 x8]
   exact xc1 Plain.mk' rfl ⟨_,_,_,_,_,rfl,rfl,ti31,(Le.of (by rw [hfin];rfl))⟩
theorem c_Equal16 (xs ys:List Nat):
  Ct Tryz.prog 181 [tLm xs,tLm ys] (tB (decide (xs=ys))):=by
 refine Ct.intro Tryz.func181 rfl Tryz.ntmps181 rfl ?_
 intro w F
 refine xk1 (s:=0) rfl (fun hl0=> ?_)
 refine A15 ?_
 refine x9 rfl (fun h21=> ?_) (fun h21=> ?_)
 ·
  refine A7 ?_
  exact x4 Plain.mk' rfl rfl (Le.bool (decide_eq_false (fun h=>by rw [h] at h21;omega)).symm)
 ·
  have hll:xs.length=ys.length:=by omega
  refine A11 ?_
  refine cL (fun (i:Nat)=>i≤xs.length∧xs.take i=ys.take i) (fun (i:Nat)=>upd (upd (upd (upd (fun _=>none) 0 (some (.val (tLm xs)))) 1 (some (.val (tLm ys)))) 12 (some (.val (tI xs.length)))) 13 (some (.val (tI i)))) (fun (i:Nat)=>fun _=>none) [] (fun (i:Nat)=>xs.length - i) (0) ⟨Nat.zero_le _,rfl⟩ ?_
  intro i hI
  obtain ⟨hi,ht⟩:=hI
  refine A6 ?_
  refine x9 rfl (fun h24=> ?_) (fun h24=> ?_)
  ·
   refine A14 ?_
   refine R2 (x6 sl29 (i) (by omega) (gN (by omega))) rfl rfl ?_
   refine A3 ?_
   refine R2 (x6 sl29 (i) (by omega) (gN (by omega))) rfl rfl ?_
   refine A4 ?_
   refine x9 rfl (fun h25=> ?_) (fun h25=> ?_)
   ·
    refine A11 ?_
    exact x4 Plain.mk' rfl rfl (Le.bool (decide_eq_false (fun h=>by rw [h] at h25;omega)).symm)
   ·
    refine A7 ?_
    exact kF (i+1) ⟨⟨by omega,by rw [xf6 xs i (by omega),xf6 ys i (by omega),ht,show xs.getD i 0=ys.getD i 0 by omega]⟩,(by omega)⟩
  ·
   refine A11 ?_
   exact x4 Plain.mk' rfl rfl (Le.bool (decide_eq_true (by rw [show i=xs.length by omega,List.take_length,hll,List.take_length] at ht;exact ht)).symm)
theorem c_WSame (x y:Wh):
  Ct Tryz.prog 149 [tWh x,tWh y] (tB (decide (x=y))):=by
 refine Ct.intro Tryz.func149 rfl Tryz.ntmps149 rfl ?_
 intro w F
 refine A15 ?_
 refine RGcase (t:=10) rfl (fun h42=> ?_) (fun h42=> ?_)
 ·
  have hn:x.neg=y.neg:=eq_of_beq h42
  refine A4 ?_
  refine RGon h42 rfl (x3 (c_Equal16 _ _) fi181 rfl) rfl ⟨rfl,rfl,trivial⟩ trivial trivial ?_
  refine A5 ?_
  exact x4 Plain.mk' rfl rfl (Le.bool (by obtain ⟨a,b⟩:=x;obtain ⟨c,d⟩:=y;simp only at hn;subst hn;simp))
 ·
  have hn:x.neg≠y.neg:=fun h=>by rw [h] at h42;simp at h42
  refine A10 ?_
  exact x4 Plain.mk' rfl rfl (Le.bool (decide_eq_false (fun h=>hn (by rw [h]))).symm)
end An.S
namespace An
open Go
structure Fr where
  n:Wh
  d:Wh
deriving DecidableEq
abbrev tFr (f:Fr):Ty:=tS [⟨2,true,tWh f.n⟩,⟨2,true,tWh f.d⟩]
abbrev tTm (f:Fr):Ty:=tS [⟨4,true,tFr f⟩]
def fr (q:Rat):Fr:=⟨wh q.num,wh q.den⟩
def fr0:Fr:=⟨⟨false,[]⟩,⟨false,[]⟩⟩
def Fr.sh (f:Fr):Bool:=decide (f.n.l.length≤256) && decide (f.d.l.length≤256)
def short (q:Rat):Prop:=len16 q.num≤256∧len16 q.den≤256
instance (q:Rat):Decidable (short q):=inferInstanceAs (Decidable (_∧_))
def resF (q:Rat):Fr:=if short q then fr q else fr0
def resFE (q:Rat):Int:=if short q then 0 else 3
theorem sh_fr (q:Rat):(fr q).sh=decide (short q):=by
 show (decide (len16 q.num≤256) && decide (len16 q.den≤256))=_
 exact (Bool.decide_and _ _).symm
def Wh.int (x:Wh):Int:=sgn x.neg (val 65536 x.l)
theorem xo7 (z:Int):(wh z).int=z:=by
 show sgn (wh z).neg (val 65536 (dig 65536 z.natAbs))=z
 rw [xm7 x8];exact sgn_wh z
def Fr.valid (f:Fr):Bool:=f.sh && f.n.valid && f.d.valid && decide (0 < f.d.int) && decide (Int.gcd f.n.int f.d.int=1)
theorem Fr.of_valid {f:Fr} (hn:Dig 65536 f.n.l) (hd:Dig 65536 f.d.l) (h:f.valid=true): ∃q:Rat,f=fr q∧short q:=by
 obtain ⟨n,d⟩:=f
 simp only [Fr.valid,Bool.and_eq_true,decide_eq_true_eq] at h
 obtain ⟨⟨⟨⟨h1,h2⟩,h3⟩,h4⟩,h5⟩:=h
 obtain ⟨x,hx,hxl⟩:=Wh.of_valid hn h2
 obtain ⟨y,hy,hyl⟩:=Wh.of_valid hd h3
 simp only at hx hy
 subst hx;subst hy
 rw [xo7] at h4;rw [xo7,xo7] at h5
 obtain ⟨m,rfl⟩:=Int.eq_ofNat_of_zero_le (Int.le_of_lt h4)
 have hm:m≠0:=by omega
 have hq: ∃q:Rat,q.num=x∧q.den=m:=⟨⟨x,m,hm,by simpa [Int.gcd] using h5⟩,rfl,rfl⟩
 obtain ⟨q,q1,q2⟩:=hq
 have e:(⟨wh x,wh m⟩:Fr)=fr q:=by rw [fr,q1,q2]
 refine ⟨q,e,?_⟩
 rw [e,sh_fr] at h1
 exact of_decide_eq_true h1
theorem valid_fr {q:Rat} (h:short q):(fr q).valid=true:=by
 have h1:(wh q.num).valid=true:=valid_wh (Nat.le_trans h.1 (by decide))
 have h2:(wh (q.den:Int)).valid=true:=valid_wh (Nat.le_trans h.2 (by decide))
 have hd:=q.den_nz
 have hg:Int.gcd q.num (q.den:Int)=1:=by simpa [Int.gcd] using q.reduced
 have e1:(fr q).n.int=q.num:=xo7 _
 have e2:(fr q).d.int=(q.den:Int):=xo7 _
 simp only [Fr.valid,Bool.and_eq_true,decide_eq_true_eq]
 rw [e1,e2]
 exact ⟨⟨⟨⟨by rw [sh_fr];exact decide_eq_true h,h1⟩,h2⟩,by omega⟩,hg⟩
theorem wh_one:wh 1=⟨false,[1]⟩:=by
 have e:dig 65536 1=[1]:=by rw [xk6 x8 (by decide),show (1:Nat) / 65536=0 by decide,xd0]
 show (⟨decide ((1:Int) < 0),dig 65536 1⟩:Wh)=_
 rw [e];rfl
theorem wh_zero:wh 0=⟨false,[]⟩:=by
 show (⟨decide ((0:Int) < 0),dig 65536 0⟩:Wh)=_
 rw [xd0];rfl
theorem len16_mul {x y:Int} {k l:Nat} (hx:len16 x≤k) (hy:len16 y≤l):len16 (x*y)≤k+l:=by
 have h1:=(xa9 x8 x.natAbs k).1 hx
 have h2:=(xa9 x8 y.natAbs l).1 hy
 refine (xa9 x8 _ _).2 ?_
 rw [Int.natAbs_mul,Nat.pow_add]
 exact Nat.mul_lt_mul'' h1 h2
theorem len16_add {x y:Int} {k:Nat} (hx:len16 x≤k) (hy:len16 y≤k):len16 (x+y)≤k+1:=by
 have h1:=(xa9 x8 x.natAbs k).1 hx
 have h2:=(xa9 x8 y.natAbs k).1 hy
 refine (xa9 x8 _ _).2 ?_
 rw [Nat.pow_succ]
 generalize 65536 ^ k=P at*
 omega
theorem len16_neg (x:Int):len16 (-x)=len16 x:=by rw [len16,len16,Int.natAbs_neg]
theorem len16_le {x y:Int} (h:x.natAbs≤y.natAbs):len16 x≤len16 y:=xe0 x8 h
theorem len16_div {x y:Int} {k:Nat} (hx:len16 x≤k):len16 (x / y)≤k:=by
 refine Nat.le_trans (len16_le ?_) hx
 exact Int.natAbs_ediv_le_natAbs x y
theorem xt7 {n d:Int} (hd:0 < d):fr (Rat.divInt n d)=⟨wh (n / (Int.gcd n d:Int)),wh (d / (Int.gcd n d:Int))⟩:=by
 obtain ⟨m,rfl⟩:=Int.eq_ofNat_of_zero_le (Int.le_of_lt hd)
 have hm:m≠0:=by omega
 rw [Rat.divInt_ofNat,←Rat.normalize_eq_mkRat hm,Rat.normalize_eq]
 simp only [fr]
 have e:Int.gcd n (m:Int)=n.natAbs.gcd m:=by simp [Int.gcd]
 rw [e,←Int.natCast_ediv]
def cmpQ (a b:Rat):Int:=if a < b then -1 else if a=b then 0 else 1
theorem cmpQ_eq (a b:Rat):cmpZ (a.num*b.den) (b.num*a.den)=cmpQ a b:=by
 simp only [cmpZ,cmpQ,Rat.lt_iff]
 split
 ·rfl
 ·rename_i h
  by_cases hab:a=b
  ·subst hab;rw [if_pos rfl,if_pos rfl]
  ·rw [if_neg hab,if_neg]
   intro he
   apply hab
   have h1:a≤b:=(Rat.le_iff a b).2 (by omega)
   have h2:b≤a:=(Rat.le_iff b a).2 (by omega)
   exact Rat.le_antisymm h1 h2
end An
namespace An.S
open Go Go.Proofs An
instance ti33:TyI Tryz.prog 33 4 true:=⟨by kernel_rfl,by kernel_rfl⟩
instance ti119:TyI Tryz.prog 119 4 true:=⟨by kernel_rfl,by kernel_rfl⟩
instance fo33_0:FoI Tryz.prog 33 0 0:=⟨by kernel_rfl⟩
instance fo33_1:FoI Tryz.prog 33 1 2:=⟨by kernel_rfl⟩
instance fo119_0:FoI Tryz.prog 119 0 0:=⟨by kernel_rfl⟩
instance fi143:FnI Tryz.prog 143:=⟨_,Tryz.func143,by kernel_rfl,rfl⟩
instance fi144:FnI Tryz.prog 144:=⟨_,Tryz.func144,by kernel_rfl,rfl⟩
instance fi145:FnI Tryz.prog 145:=⟨_,Tryz.func145,by kernel_rfl,rfl⟩
instance fi146:FnI Tryz.prog 146:=⟨_,Tryz.func146,by kernel_rfl,rfl⟩
instance fi147:FnI Tryz.prog 147:=⟨_,Tryz.func147,by kernel_rfl,rfl⟩
instance fi175:FnI Tryz.prog 175:=⟨_,Tryz.func175,by kernel_rfl,rfl⟩
instance fi177:FnI Tryz.prog 177:=⟨_,Tryz.func177,by kernel_rfl,rfl⟩
instance fi178:FnI Tryz.prog 178:=⟨_,Tryz.func178,by kernel_rfl,rfl⟩
instance fi184:FnI Tryz.prog 184:=⟨_,Tryz.func184,by kernel_rfl,rfl⟩
theorem zr33:(Tryz.prog.info? 33).bind (·.zero)=some (.agg #[.bool false,.slice none 0 0,.bool false,.slice none 0 0])∧ ∀F w,(tS [⟨2,true,(tS [⟨1,false,(tE (.bool false))⟩,⟨1,false,(tLm [])⟩])⟩,⟨2,true,(tS [⟨1,false,(tE (.bool false))⟩,⟨1,false,(tLm [])⟩])⟩]).p F w (.agg #[.bool false,.slice none 0 0,.bool false,.slice none 0 0]):=⟨by kernel_rfl,fun _ _=>⟨_,rfl,rfl,⟨fun h=>Bool.noConfusion h,⟨_,rfl,rfl,⟨fun _=>rfl,rfl⟩,⟨fun _=>rfl,⟨none,0,rfl,Nat.le_refl _,by decide,.inl rfl⟩⟩,trivial⟩⟩,⟨fun h=>Bool.noConfusion h,⟨_,rfl,rfl,⟨fun _=>rfl,rfl⟩,⟨fun _=>rfl,⟨none,0,rfl,Nat.le_refl _,by decide,.inl rfl⟩⟩,trivial⟩⟩,trivial⟩⟩
theorem zr119:(Tryz.prog.info? 119).bind (·.zero)=some (.agg #[.bool false,.slice none 0 0,.bool false,.slice none 0 0])∧ ∀F w,(tS [⟨4,true,(tS [⟨2,true,(tS [⟨1,false,(tE (.bool false))⟩,⟨1,false,(tLm [])⟩])⟩,⟨2,true,(tS [⟨1,false,(tE (.bool false))⟩,⟨1,false,(tLm [])⟩])⟩])⟩]).p F w (.agg #[.bool false,.slice none 0 0,.bool false,.slice none 0 0]):=⟨by kernel_rfl,fun _ _=>⟨_,rfl,rfl,⟨fun h=>Bool.noConfusion h,⟨_,rfl,rfl,⟨fun h=>Bool.noConfusion h,⟨_,rfl,rfl,⟨fun _=>rfl,rfl⟩,⟨fun _=>rfl,⟨none,0,rfl,Nat.le_refl _,by decide,.inl rfl⟩⟩,trivial⟩⟩,⟨fun h=>Bool.noConfusion h,⟨_,rfl,rfl,⟨fun _=>rfl,rfl⟩,⟨fun _=>rfl,⟨none,0,rfl,Nat.le_refl _,by decide,.inl rfl⟩⟩,trivial⟩⟩,trivial⟩⟩,trivial⟩⟩
theorem bu33:BuI Tryz.prog 33 (fun i=>[(0,2),(2,2)][i]?) (.agg #[.bool false,.slice none 0 0,.bool false,.slice none 0 0]):=BuI.struct Tryz.underlying33 (by kernel_rfl) (by kernel_rfl)
theorem bu119:BuI Tryz.prog 119 (fun i=>[(0,4)][i]?) (.agg #[.bool false,.slice none 0 0,.bool false,.slice none 0 0]):=BuI.struct Tryz.underlying119 (by kernel_rfl) (by kernel_rfl)
theorem isOne_iff {x:Wh} (hn:x.neg=false) (hl:x.l.length=1):decide (((x.l.getD 0 0:Nat):Int)=1)=decide (x=⟨false,[1]⟩):=by
 obtain ⟨n,l⟩:=x
 simp only at hn hl
 subst hn
 obtain ⟨a,rfl⟩:=List.length_eq_one_iff.1 hl
 simp
 omega
theorem neg_wh (z:Int):wh (-z)=⟨!(wh z).neg && decide (0 < (wh z).l.length),(wh z).l⟩:=by
 have h:(wh z).l.length=0↔z=0:=by
  show (dig 65536 z.natAbs).length=0↔z=0
  rw [List.length_eq_zero_iff,xi0 x8];omega
 have e1:(wh (-z)).l=(wh z).l:=by show dig 65536 (-z).natAbs=dig 65536 z.natAbs;rw [Int.natAbs_neg]
 have e2:(wh (-z)).neg=(!(wh z).neg && decide (0 < (wh z).l.length)):=by
  show decide (-z < 0)=(!decide (z < 0) && decide (0 < (wh z).l.length))
  by_cases h0:z=0
  ·subst h0;simp [wh_zero]
  ·have:0 < (wh z).l.length:=by omega
   rw [decide_eq_true this,Bool.and_true,←decide_not]
   exact decide_eq_decide.2 (by omega)
 have e3: ∀a:Wh,a=⟨a.neg,a.l⟩:=fun _=>rfl
 rw [e3 (wh (-z)),e1,e2]
theorem c_isOne (x:Wh):
  Ct Tryz.prog 184 [tWh x] (tB (decide (x=⟨false,[1]⟩))):=by
 refine Ct.intro Tryz.func184 rfl Tryz.ntmps184 rfl ?_
 intro w F
 refine A12 ?_
 refine RGcase (t:=6) rfl (fun h54=> ?_) (fun h54=> ?_)
 ·
  refine A6 ?_
  refine RGcaseD (t:=12) rfl (fun h54_2=> ?_) (fun h54_2=> ?_)
  ·
   refine A2 ?_
   refine RGon (decide_eq_true h54_2) rfl (x6 sl29 (0) (by omega) (gN (by omega))) rfl ⟨rfl,rfl,trivial⟩ trivial trivial ?_
   refine A7 ?_
   exact x4 Plain.mk' rfl rfl (Le.bool (isOne_iff (by simpa using h54) (by omega)))
  ·
   refine A10 ?_
   exact x4 Plain.mk' rfl rfl (Le.bool (decide_eq_false (fun h=>h54_2 (by rw [h];rfl))).symm)
 ·
  refine A16 ?_
  exact x4 Plain.mk' rfl rfl (Le.bool (decide_eq_false (fun h=>by rw [h] at h54;simp at h54)).symm)
theorem c_Tlong (f:Fr):
  Ct Tryz.prog 147 [tTm f] (tB (!f.sh)):=by
 refine Ct.intro Tryz.func147 rfl Tryz.ntmps147 rfl ?_
 intro w F
 refine A11 ?_
 refine xj6 (0) ti29 rfl rfl rfl (At.t (At.g 0 rfl rfl) (At.t (At.g 0 rfl rfl) (At.g 1 rfl rfl))) rfl ?_
 refine A3 ?_
 refine RGcaseD (t:=9) rfl (fun h33=> ?_) (fun h33=> ?_)
 ·
  refine A11 ?_
  exact x4 Plain.mk' rfl rfl (Le.bool (by rw [Fr.sh,decide_eq_false (show ¬f.n.l.length≤256 by omega)];rfl))
 ·
  refine A3 ?_
  refine xc7 (decide_eq_false h33) rfl rfl (0) ti29 rfl rfl rfl (At.t (At.g 0 rfl rfl) (At.t (At.g 1 rfl rfl) (At.g 1 rfl rfl))) rfl ?_
  refine A7 ?_
  exact x4 Plain.mk' rfl rfl (Le.bool (by rw [Fr.sh,decide_eq_true (show f.n.l.length≤256 by omega),Bool.true_and,←decide_not];exact decide_eq_decide.2 (by omega)))
theorem xt8 (f:Fr):
  Ct Tryz.prog 113 [tTm f] (tT [tFr (if f.sh then f else fr0),tI (if f.sh then 0 else 3)]):=by
 refine Ct.intro Tryz.func113 rfl Tryz.ntmps113 rfl ?_
 intro w F
 refine A3 ?_
 refine RE (x5 (k:=2) (n:=4) (agg:=true) zr33.1 zr33.2 rfl) trivial trivial ⟨rfl,trivial⟩ ?_
 refine A7 ?_
 refine R1 (x3 (c_Tlong f) fi147 rfl) rfl ?_
 refine A2 ?_
 refine xc0 rfl (fun h46=> ?_) (fun h46=> ?_)
 ·
  have hs:f.sh=false:=by simpa using h46
  refine A2 ?_
  refine R0 (xa7 (r:=tS [⟨2,true,(tS [⟨1,false,(tE (.bool false))⟩,⟨1,false,(tLm [])⟩])⟩,⟨2,true,(tS [⟨1,false,(tE (.bool false))⟩,⟨1,false,(tLm [])⟩])⟩]) (ts:=[]) bu33 zr33.2 Le.refl) ?_
  refine A6 ?_
  exact xa8 Plain.mk' (rs:=[.cell 2 33,.tmp 3]) rfl rfl ⟨⟨_,_,_,_,_,rfl,rfl,ti33,(Le.of (by rw [hs];rfl))⟩,⟨_,rfl,(Le.int (by rw [hs];rfl))⟩,trivial⟩
 ·
  have hs:f.sh=true:=by simpa using h46
  refine A5 ?_
  refine xj6 (0) ti33 rfl rfl rfl (At.g 0 rfl (rfl)) rfl ?_
  refine A5 ?_
  exact xa8 Plain.mk' (rs:=[.cell 2 33,.tmp 3]) rfl rfl ⟨⟨_,_,_,_,_,rfl,rfl,ti33,(Le.of (by rw [hs];rfl))⟩,⟨_,rfl,(Le.int (by rw [hs];rfl))⟩,trivial⟩
theorem c_Tintegral (f:Fr):
  Ct Tryz.prog 183 [tTm f] (tB (decide (f.d=⟨false,[1]⟩))):=by
 refine Ct.intro Tryz.func183 rfl Tryz.ntmps183 rfl ?_
 intro w F
 refine A10 ?_
 refine xj6 (0) ti31 rfl rfl rfl (At.t (At.g 0 rfl rfl) (At.g 1 rfl rfl)) rfl (R1 (x3 (c_isOne _) fi184 rfl) rfl ?_)
 refine A4 ?_
 exact x4 Plain.mk' rfl rfl Le.refl
theorem c_Tzero (f:Fr):
  Ct Tryz.prog 110 [tTm f] (tB (decide (f.n.l.length=0))):=by
 refine Ct.intro Tryz.func110 rfl Tryz.ntmps110 rfl ?_
 intro w F
 refine A11 ?_
 refine xj6 (0) ti29 rfl rfl rfl (At.t (At.g 0 rfl rfl) (At.t (At.g 0 rfl rfl) (At.g 1 rfl rfl))) rfl ?_
 refine A6 ?_
 exact x4 Plain.mk' rfl rfl (Le.bool (decide_eq_decide.2 (by omega)))
theorem c_divisor (x y:Int) (hx:len16 x≤1024) (hy:len16 y≤1024):
  Ct Tryz.prog 144 [tWh (wh x),tWh (wh y)] (tWh (wh ((Int.gcd x y:Nat):Int))):=by
 refine Ct.intro Tryz.func144 rfl Tryz.ntmps144 rfl ?_
 intro w F
 refine A4 ?_
 refine RE (x5 (k:=4) (n:=2) (agg:=true) zr31.1 zr31.2 rfl) trivial trivial ⟨rfl,trivial⟩ ?_
 refine A6 ?_
 refine R2 (x3 (c_Gcd x y hx hy) fi177 rfl) rfl rfl ?_
 refine A3 ?_
 refine RE (x5 (k:=5) (n:=2) (agg:=true) zr31.1 zr31.2 rfl) trivial trivial ⟨rfl,trivial⟩ ?_
 refine A11 ?_
 exact xc1 Plain.mk' rfl ⟨_,_,_,_,_,rfl,rfl,ti31,Le.refl⟩
theorem c_fplus (x y:Int) (hx:len16 x≤1024) (hy:len16 y≤1024) (hz:len16 (x+y)≤1024):
  Ct Tryz.prog 140 [tWh (wh x),tWh (wh y)] (tWh (wh (x+y))):=by
 refine Ct.intro Tryz.func140 rfl Tryz.ntmps140 rfl ?_
 intro w F
 refine A4 ?_
 refine RE (x5 (k:=4) (n:=2) (agg:=true) zr31.1 zr31.2 rfl) trivial trivial ⟨rfl,trivial⟩ ?_
 refine A6 ?_
 refine R2 (x3 (c_Add x y hx hy) fi175 rfl) rfl rfl ?_
 refine A3 ?_
 refine RE (x5 (k:=5) (n:=2) (agg:=true) zr31.1 zr31.2 rfl) trivial trivial ⟨rfl,trivial⟩ ?_
 refine A11 ?_
 exact xc1 Plain.mk' rfl ⟨_,_,_,_,_,rfl,rfl,ti31,(Le.of (by rw [resW,if_pos hz]))⟩
theorem xn3 (x y:Int) (hx:len16 x≤1024) (hy:len16 y≤1024) (hz:len16 (x*y)≤1024):
  Ct Tryz.prog 112 [tWh (wh x),tWh (wh y)] (tWh (wh (x*y))):=by
 refine Ct.intro Tryz.func112 rfl Tryz.ntmps112 rfl ?_
 intro w F
 refine A4 ?_
 refine RE (x5 (k:=4) (n:=2) (agg:=true) zr31.1 zr31.2 rfl) trivial trivial ⟨rfl,trivial⟩ ?_
 refine A6 ?_
 refine R2 (x3 (c_Mul x y hx hy) fi146 rfl) rfl rfl ?_
 refine A3 ?_
 refine RE (x5 (k:=5) (n:=2) (agg:=true) zr31.1 zr31.2 rfl) trivial trivial ⟨rfl,trivial⟩ ?_
 refine A11 ?_
 exact xc1 Plain.mk' rfl ⟨_,_,_,_,_,rfl,rfl,ti31,(Le.of (by rw [resW,if_pos hz]))⟩
theorem c_fdivide (x y:Int) (hx:len16 x≤1024) (hy:len16 y≤1024) (hy0:0 < y):
  Ct Tryz.prog 145 [tWh (wh x),tWh (wh y)] (tT [tWh (wh (x / y)),tWh (wh (x%y))]):=by
 refine Ct.intro Tryz.func145 rfl Tryz.ntmps145 rfl ?_
 intro w F
 refine A4 ?_
 refine RE (x5 (k:=4) (n:=2) (agg:=true) zr31.1 zr31.2 rfl) trivial trivial ⟨rfl,trivial⟩ (RE (x5 (k:=5) (n:=2) (agg:=true) zr31.1 zr31.2 rfl) trivial trivial ⟨rfl,trivial⟩ ?_)
 refine A6 ?_
 refine R2 (x3 (c_DivMod x y hx hy hy0) fi178 rfl) rfl rfl ?_
 refine A17 ?_
 exact xa8 Plain.mk' (rs:=[.cell 4 31,.cell 5 31]) rfl rfl ⟨⟨_,_,_,_,_,rfl,rfl,ti31,Le.refl⟩,⟨_,_,_,_,_,rfl,rfl,ti31,Le.refl⟩,trivial⟩
theorem c_opposite (z:Int) (hz:len16 z≤10000):
  Ct Tryz.prog 143 [tWh (wh z)] (tWh (wh (-z))):=by
 have hzl:(wh z).l.length≤10000:=hz
 refine Ct.intro Tryz.func143 rfl Tryz.ntmps143 rfl ?_
 intro w F
 refine A3 ?_
 refine RE (x5 (k:=2) (n:=2) (agg:=true) zr31.1 zr31.2 rfl) trivial trivial ⟨rfl,trivial⟩ ?_
 refine A8 ?_
 refine RGcase (t:=6) rfl (fun h81=> ?_) (fun h81=> ?_)
 ·
  refine A7 ?_
  refine R1 (x3 (xr7 _ (by omega)) fi148 rfl) rfl (R2 (xa7 (r:=tS [⟨1,false,tB (decide ((0:Int) < ((wh z).l.length:Nat)))⟩,⟨1,false,tLm (wh z).l⟩]) (ts:=[(0,tB (decide ((0:Int) < ((wh z).l.length:Nat)))),(1,tLm (wh z).l)]) bu31 zr31.2 (Bc 0 rfl rfl rfl (Bc 1 rfl rfl rfl Le.refl))) rfl rfl ?_)
  refine A4 ?_
  exact xc1 Plain.mk' rfl ⟨_,_,_,_,_,rfl,rfl,ti31,(Le.of (by rw [neg_wh,h81,Bool.true_and,decide_eq_decide.2 (show (0:Int) < ((wh z).l.length:Nat)↔0 < (wh z).l.length by omega)]))⟩
 ·
  refine A7 ?_
  refine R1 (x3 (xr7 _ (by omega)) fi148 rfl) rfl (R2 (xa7 (r:=tS [⟨1,false,tB false⟩,⟨1,false,tLm (wh z).l⟩]) (ts:=[(0,tB false),(1,tLm (wh z).l)]) bu31 zr31.2 (Bc 0 rfl rfl rfl (Bc 1 rfl rfl rfl Le.refl))) rfl rfl ?_)
  refine A4 ?_
  exact xc1 Plain.mk' rfl ⟨_,_,_,_,_,rfl,rfl,ti31,(Le.of (by rw [neg_wh,h81,Bool.false_and]))⟩
theorem c_lowest (n d:Int) (hn:len16 n≤1024) (hd:len16 d≤1024) (hd0:d≠0):
  Ct Tryz.prog 111 [tWh (wh n),tWh (wh d)] (tTm (fr (Rat.divInt n d))):=by
 refine Ct.intro Tryz.func111 rfl Tryz.ntmps111 rfl ?_
 intro w F
 refine A4 ?_
 refine RE (x5 (k:=4) (n:=4) (agg:=true) zr119.1 zr119.2 rfl) trivial trivial ⟨rfl,trivial⟩ ?_
 refine A2 ?_
 refine xg0 (fun (fm:(Int)×(Int))=>(fun (m:Int) (e:Int)=>(0 < e∧Rat.divInt m e=Rat.divInt n d)∧len16 m≤1024∧len16 e≤1024) fm.1 fm.2) (fun (fm:(Int)×(Int))=>(fun (m:Int) (e:Int)=>upd (upd (upd (fun _=>none) 2 (some (.own (.ptr 2 0)))) 3 (some (.own (.ptr 3 0)))) 4 (some (.own (.ptr 4 0)))) fm.1 fm.2) (fun (fm:(Int)×(Int))=>(fun (m:Int) (e:Int)=>upd (upd (upd (fun _=>none) 2 (some (⟨31,2,true,[.val (tWh (wh m))]⟩))) 3 (some (⟨31,2,true,[.val (tWh (wh e))]⟩))) 4 (some (⟨119,4,true,[.val (tTm fr0)]⟩))) fm.1 fm.2) (nm [2,3,4]) ?_ ?_
 ·
  refine A6 ?_
  refine xc0 rfl (fun h86=> ?_) (fun h86=> ?_)
  ·
   refine A2 ?_
   refine R1 (x3 (c_opposite n (by omega)) fi143 rfl) rfl ?_
   refine A1 ?_
   refine R1 (x3 (c_opposite d (by omega)) fi143 rfl) rfl ?_
   refine A3 ?_
   exact kF ((-n, -d)) (by dsimp only;exact ⟨⟨by have:=of_decide_eq_true h86;omega,Rat.neg_divInt_neg _ _⟩,by rw [len16_neg];exact hn,by rw [len16_neg];exact hd⟩) (hh:=((SubK.consI rfl ImpK.refl) ((SubK.consI rfl ImpK.refl) ((SubK.consI rfl ImpK.refl) SubK.nil))))
  ·
   refine A1 ?_
   exact kF ((n,d)) (by dsimp only;exact ⟨⟨by have:=of_decide_eq_false h86;omega,rfl⟩,hn,hd⟩) (hh:=((SubK.consI rfl ImpK.refl) ((SubK.consI rfl ImpK.refl) ((SubK.consI rfl ImpK.refl) SubK.nil))))
 ·
  intro fm hj
  obtain ⟨m,e⟩:=fm
  replace hj:(0 < e∧Rat.divInt m e=Rat.divInt n d)∧len16 m≤1024∧len16 e≤1024:=hj
  show wc _ _ _ _ (upd (upd (upd (fun _=>none) 2 (some (.own (.ptr 2 0)))) 3 (some (.own (.ptr 3 0)))) 4 (some (.own (.ptr 4 0)))) (upd (upd (upd (fun _=>none) 2 (some (⟨31,2,true,[.val (tWh (wh m))]⟩))) 3 (some (⟨31,2,true,[.val (tWh (wh e))]⟩))) 4 (some (⟨119,4,true,[.val (tTm fr0)]⟩))) _
  obtain ⟨⟨he,hq⟩,hm,hel⟩:=hj
  have hg0:0 < Int.gcd m e:=Int.gcd_pos_of_ne_zero_right m (by omega)
  have hgl:len16 ((Int.gcd m e:Nat):Int)≤1024:=Nat.le_trans (len16_le (by simpa using Nat.le_of_dvd (by omega) (Int.gcd_dvd_natAbs_right m e))) hel
  refine A4 ?_
  refine R2 (x3 (c_divisor m e hm hel) fi144 rfl) rfl rfl (RE (x5 (k:=5) (n:=2) (agg:=true) zr31.1 zr31.2 rfl) trivial trivial ⟨rfl,trivial⟩ ?_)
  refine A7 ?_
  refine R2 (x3 (c_fdivide m _ hm hgl (by omega)) fi145 rfl) rfl rfl ?_
  refine A10 ?_
  refine R2 (x3 (c_fdivide e _ hel hgl (by omega)) fi145 rfl) rfl rfl ?_
  refine A10 ?_
  refine R2 (xa7 (r:=tS [⟨2,true,tWh (wh (m / ((Int.gcd m e:Nat):Int)))⟩,⟨2,true,tWh (wh (e / ((Int.gcd m e:Nat):Int)))⟩]) (ts:=[(0,tWh (wh (m / ((Int.gcd m e:Nat):Int)))),(1,tWh (wh (e / ((Int.gcd m e:Nat):Int))))]) bu33 zr33.2 (Bc 0 rfl rfl rfl (Bc 1 rfl rfl rfl Le.refl))) rfl rfl (R1 (xa7 (r:=tS [⟨4,true,tFr ⟨wh (m / ((Int.gcd m e:Nat):Int)),wh (e / ((Int.gcd m e:Nat):Int))⟩⟩]) (ts:=[(0,tFr ⟨wh (m / ((Int.gcd m e:Nat):Int)),wh (e / ((Int.gcd m e:Nat):Int))⟩)]) bu119 zr119.2 (Bc 0 rfl rfl rfl Le.refl)) rfl ?_)
  refine A4 ?_
  exact xc1 Plain.mk' rfl ⟨_,_,_,_,_,rfl,rfl,ti119,(Le.of (by rw [←hq,xt7 he]))⟩
instance sl133:SlI Tryz.prog 133 33 4 true:=⟨Tryz.underlying133,ti33⟩
instance fi109:FnI Tryz.prog 109:=⟨_,Tryz.func109,by kernel_rfl,rfl⟩
instance fi111:FnI Tryz.prog 111:=⟨_,Tryz.func111,by kernel_rfl,rfl⟩
instance fi112:FnI Tryz.prog 112:=⟨_,Tryz.func112,by kernel_rfl,rfl⟩
instance fi113:FnI Tryz.prog 113:=⟨_,Tryz.func113,by kernel_rfl,rfl⟩
instance fi114:FnI Tryz.prog 114:=⟨_,Tryz.func114,by kernel_rfl,rfl⟩
instance fi117:FnI Tryz.prog 117:=⟨_,Tryz.func117,by kernel_rfl,rfl⟩
instance fi122:FnI Tryz.prog 122:=⟨_,Tryz.func122,by kernel_rfl,rfl⟩
instance fi140:FnI Tryz.prog 140:=⟨_,Tryz.func140,by kernel_rfl,rfl⟩
instance fi141:FnI Tryz.prog 141:=⟨_,Tryz.func141,by kernel_rfl,rfl⟩
instance fi142:FnI Tryz.prog 142:=⟨_,Tryz.func142,by kernel_rfl,rfl⟩
instance fi149:FnI Tryz.prog 149:=⟨_,Tryz.func149,by kernel_rfl,rfl⟩
instance fi150:FnI Tryz.prog 150:=⟨_,Tryz.func150,by kernel_rfl,rfl⟩
instance fi176:FnI Tryz.prog 176:=⟨_,Tryz.func176,by kernel_rfl,rfl⟩
instance fi183:FnI Tryz.prog 183:=⟨_,Tryz.func183,by kernel_rfl,rfl⟩
theorem el33:ElI Tryz.prog 33 4 64 true (.agg #[.bool false,.slice none 0 0,.bool false,.slice none 0 0]):=⟨ti33,by kernel_rfl,by kernel_rfl⟩
theorem zf33:Flat 4 true (.agg #[.bool false,.slice none 0 0,.bool false,.slice none 0 0]):=xs9 (by intro u hu;simp at hu;rcases hu with rfl | rfl | rfl | rfl <;> rfl)
instance un133:UnI Tryz.prog 133 (.slice 33):=⟨Tryz.underlying133⟩
theorem gcd_one_dec {x y:Int}:decide (wh ((Int.gcd x y:Nat):Int)=⟨false,[1]⟩)=decide (Int.gcd x y=1):=by
 rw [←wh_one]
 refine decide_eq_decide.2 ⟨fun h'=> ?_,fun h'=>by rw [h'];rfl⟩
 have:=wh_inj h';omega
theorem pos_of_wh {y:Int} (h1:(wh y).neg=false) (h2: ¬(wh y).l.length=0):0 < y:=by
 have h3: ¬y < 0:=of_decide_eq_false h1
 have h4:y≠0:=fun h=>h2 (by rw [h,wh_zero];rfl)
 omega
theorem c_Tvalid (f:Fr) (hn:Dig 65536 f.n.l) (hd:Dig 65536 f.d.l):
  Ct Tryz.prog 150 [tTm f] (tB f.valid):=by
 obtain ⟨n,d⟩:=f
 replace hn:Dig 65536 n.l:=hn
 replace hd:Dig 65536 d.l:=hd
 refine Ct.intro Tryz.func150 rfl Tryz.ntmps150 rfl ?_
 intro w F
 refine A10 ?_
 refine R1 (x3 (c_Tlong _) fi147 rfl) rfl ?_
 refine A1 ?_
 refine RGcase (t:=5) rfl (fun h38=> ?_) (fun h38=> ?_)
 ·
  have hs:(⟨n,d⟩:Fr).sh=false:=by simpa using h38
  refine A18 ?_
  refine A18 ?_
  refine A1 ?_
  exact x4 Plain.mk' rfl rfl (Le.bool (by simp only [Fr.valid,hs,Bool.false_and]))
 ·
  have hs:(⟨n,d⟩:Fr).sh=true:=by simpa using h38
  refine A2 ?_
  refine xc7 h38 rfl rfl (0) ti31 rfl rfl rfl (At.t (At.g 0 rfl rfl) (At.g 0 rfl rfl)) rfl (RGon h38 rfl (x3 (c_WValid n) fi182 rfl) rfl ⟨rfl,trivial⟩ trivial trivial ?_)
  refine A3 ?_
  refine RGcase (t:=12) rfl (fun h38_2=> ?_) (fun h38_2=> ?_)
  ·
   have hv1:n.valid=false:=by simpa using h38_2
   refine A18 ?_
   refine A12 ?_
   exact x4 Plain.mk' rfl rfl (Le.bool (by simp only [Fr.valid,hv1,Bool.and_false,Bool.false_and]))
  ·
   have hv1:n.valid=true:=by simpa using h38_2
   refine A2 ?_
   refine xc7 h38_2 rfl rfl (0) ti31 rfl rfl rfl (At.t (At.g 0 rfl rfl) (At.g 1 rfl rfl)) rfl (RGon h38_2 rfl (x3 (c_WValid d) fi182 rfl) rfl ⟨rfl,trivial⟩ trivial trivial ?_)
   refine A3 ?_
   refine RGcase (t:=19) rfl (fun h38_3=> ?_) (fun h38_3=> ?_)
   ·
    have hv2:d.valid=false:=by simpa using h38_3
    refine A18 ?_
    refine A5 ?_
    exact x4 Plain.mk' rfl rfl (Le.bool (by simp only [Fr.valid,hv2,Bool.and_false,Bool.false_and]))
   ·
    have hv2:d.valid=true:=by simpa using h38_3
    obtain ⟨x,rfl,hxl⟩:=Wh.of_valid hn hv1
    obtain ⟨y,rfl,hyl⟩:=Wh.of_valid hd hv2
    have ix:=xo7 x
    have iy:=xo7 y
    refine A3 ?_
    refine xc7 h38_3 rfl rfl (0) ti4 rfl rfl rfl (At.t (At.g 0 rfl rfl) (At.t (At.g 1 rfl rfl) (At.g 0 rfl rfl))) rfl ?_
    refine A2 ?_
    refine RGcase (t:=25) rfl (fun h38_4=> ?_) (fun h38_4=> ?_)
    ·
     have hy0: ¬0 < y:=by have:y < 0:=of_decide_eq_true h38_4;omega
     refine A17 ?_
     exact x4 Plain.mk' rfl rfl (Le.bool (by simp only [Fr.valid,ix,iy,decide_eq_false hy0,Bool.and_false,Bool.false_and]))
    ·
     refine A3 ?_
     refine xc7 h38_4 rfl rfl (0) ti29 rfl rfl rfl (At.t (At.g 0 rfl rfl) (At.t (At.g 1 rfl rfl) (At.g 1 rfl rfl))) rfl ?_
     refine A5 ?_
     refine x9 rfl (fun h38_5=> ?_) (fun h38_5=> ?_)
     ·
      have hy0: ¬0 < y:=fun h=>by
       have h5:(((wh y).l.length:Nat):Int)=0:=h38_5
       have h2:(wh y).l.length=0:=by omega
       have h3:y.natAbs=0:=(xi0 x8).1 (List.length_eq_zero_iff.1 h2)
       omega
      refine A7 ?_
      exact x4 Plain.mk' rfl rfl (Le.bool (by simp only [Fr.valid,ix,iy,decide_eq_false hy0,Bool.and_false,Bool.false_and]))
     ·
      have h5: ¬(((wh y).l.length:Nat):Int)=0:=h38_5
      have hy0:0 < y:=pos_of_wh h38_4 (by omega)
      refine A3 ?_
      refine C_key (k:=1) (e':=⟨119,4,true,[.val (tTm ⟨wh x,wh y⟩)]⟩) rfl rfl ?_
      refine A2 ?_
      refine R1 (x3 (c_Tintegral _) fi183 rfl) rfl ?_
      refine A1 ?_
      refine RGcase (t:=35) rfl (fun h41=> ?_) (fun h41=> ?_)
      ·
       have hy1:y=1:=by have h:=of_decide_eq_true h41;exact wh_inj (h.trans wh_one.symm)
       refine A13 ?_
       exact x4 Plain.mk' rfl rfl (Le.bool (by simp only [Fr.valid,ix,iy,hs,hv1,hv2,Bool.true_and];rw [hy1];simp))
      ·
       have hy1: ¬y=1:=fun h=>of_decide_eq_false h41 (by show wh y=_;rw [h,wh_one])
       refine A2 ?_
       refine xc7 h41 rfl rfl (0) ti31 rfl rfl rfl (At.t (At.g 0 rfl rfl) (At.g 0 rfl rfl)) rfl ?_
       refine A2 ?_
       refine xc7 h41 rfl rfl (0) ti31 rfl rfl rfl (At.t (At.g 0 rfl rfl) (At.g 1 rfl rfl)) rfl (RGon h41 rfl (x3 (c_divisor x y hxl hyl) fi144 rfl) rfl ⟨rfl,rfl,trivial⟩ trivial trivial (RGon h41 rfl (x3 (c_isOne _) fi184 rfl) rfl ⟨rfl,trivial⟩ trivial trivial ?_))
       refine A5 ?_
       exact x4 Plain.mk' rfl rfl (Le.bool (by simp only [Fr.valid,ix,iy,hs,hv1,hv2,decide_eq_true hy0,Bool.true_and];exact gcd_one_dec))
theorem c_FValid (f:Fr) (hn:Dig 65536 f.n.l) (hd:Dig 65536 f.d.l):
  Ct Tryz.prog 117 [tFr f] (tB f.valid):=by
 refine Ct.intro Tryz.func117 rfl Tryz.ntmps117 rfl ?_
 intro w F
 refine A9 ?_
 refine R1 (xa7 (r:=tS [⟨4,true,tFr f⟩]) (ts:=[(0,tFr f)]) bu119 zr119.2 (Bc 0 rfl rfl rfl Le.refl)) rfl (R1 (x3 (c_Tvalid f hn hd) fi150 rfl) rfl ?_)
 refine A4 ?_
 exact x4 Plain.mk' rfl rfl Le.refl
theorem c_FValidQ (q:Rat) (h:short q):Ct Tryz.prog 117 [tFr (fr q)] (tB true):=by
 have:=c_FValid (fr q) (xb6 x8 _) (xb6 x8 _)
 rw [valid_fr h] at this;exact this
theorem c_FallValid1 (q:Rat) (h:short q):
  Ct Tryz.prog 142 [tFr (fr q)] (tB false):=by
 refine Ct.intro Tryz.func142 rfl Tryz.ntmps142 rfl ?_
 intro w F
 refine A9 ?_
 refine R1 (x3 (c_FValidQ q h) fi117 rfl) rfl ?_
 refine A5 ?_
 exact x4 Plain.mk' rfl rfl Le.refl
theorem getD_mem {α:Type} {l:List α} {i:Nat} {d:α} (h:i < l.length):l.getD i d∈l:=by
 rw [List.getD_eq_getElem?_getD,List.getElem?_eq_getElem h];exact List.getElem_mem h
theorem c_FIndex (qs:List Rat) (h: ∀q∈qs,short q):
  Ct Tryz.prog 176 [tL 4 true (fun q:Rat=>tFr (fr q)) qs,tE (.func (.func 142) #[] #[])] (tI (-1)):=by
 refine Ct.intro Tryz.func176 rfl Tryz.ntmps176 rfl ?_
 intro w F
 refine xk1 (s:=0) rfl (fun hl0=> ?_)
 refine A14 ?_
 refine cL (fun (i:Nat)=>i≤qs.length) (fun (i:Nat)=>upd (upd (upd (upd (fun _=>none) 0 (some (.val (tL 4 true (fun q:Rat=>tFr (fr q)) qs)))) 1 (some (.val (tE (.func (.func 142) #[] #[]))))) 7 (some (.val (tI qs.length)))) 8 (some (.val (tI i)))) (fun (i:Nat)=>fun _=>none) [] (fun (i:Nat)=>qs.length - i) (0) (Nat.zero_le _) ?_
 intro i hI
 refine A6 ?_
 refine x9 rfl (fun h108=> ?_) (fun h108=> ?_)
 ·
  refine A15 ?_
  refine R2 (x6 sl133 i (by omega) (gD (l:=qs) (n:=i) (d:=0) (by omega))) rfl rfl ?_
  refine A1 ?_
  refine R2 (d_callF (c_FallValid1 (qs.getD i 0) (h _ (getD_mem (by omega)))) fi142 rfl) rfl rfl ?_
  refine A10 ?_
  exact kF (i+1) ⟨(by omega),(by omega)⟩
 ·
  refine A11 ?_
  exact x4 Plain.mk' rfl rfl Le.refl
theorem c_FContains (qs:List Rat) (h: ∀q∈qs,short q):
  Ct Tryz.prog 141 [tL 4 true (fun q:Rat=>tFr (fr q)) qs,tE (.func (.func 142) #[] #[])] (tB false):=by
 refine Ct.intro Tryz.func141 rfl Tryz.ntmps141 rfl ?_
 intro w F
 refine A9 ?_
 refine R2 (x3 (c_FIndex qs h) fi176 rfl) rfl rfl ?_
 refine A5 ?_
 exact x4 Plain.mk' rfl rfl (Le.bool rfl)
theorem xo2 (qs:List Rat) (h: ∀q∈qs,short q):
  Ct Tryz.prog 109 [tL 4 true (fun q:Rat=>tFr (fr q)) qs] (tB true):=by
 refine Ct.intro Tryz.func109 rfl Tryz.ntmps109 rfl ?_
 intro w F
 refine A8 ?_
 refine R2 (x3 (c_FContains qs h) fi141 rfl) rfl rfl ?_
 refine A5 ?_
 exact x4 Plain.mk' rfl rfl Le.refl
theorem xu5 (a b:Rat):Rat.divInt (a.num*b.num) ((a.den:Int)*(b.den:Int))=a*b:=by
 rw [Rat.mul_def,←Int.natCast_mul,Rat.divInt_ofNat,Rat.normalize_eq_mkRat]
theorem add_divInt (a b:Rat):Rat.divInt (a.num*(b.den:Int)+b.num*(a.den:Int)) ((a.den:Int)*(b.den:Int))=a+b:=by
 rw [Rat.add_def,←Int.natCast_mul,Rat.divInt_ofNat,Rat.normalize_eq_mkRat]
theorem den_mul_ne {a b:Rat}:((a.den:Int)*(b.den:Int))≠0:=by
 have h1:=a.den_nz;have h2:=b.den_nz
 exact Int.mul_ne_zero (by omega) (by omega)
theorem c_FMul (a b:Rat) (ha:short a) (hb:short b):
  Ct Tryz.prog 107 [tFr (fr a),tFr (fr b)] (tT [tFr (resF (a*b)),tI (resFE (a*b))]):=by
 obtain ⟨an,ad⟩:=ha
 obtain ⟨bn,bd⟩:=hb
 have hbd:=b.den_nz
 have had:=a.den_nz
 have m1:len16 (a.num*b.num)≤256+256:=len16_mul an bn
 have m2:len16 ((a.den:Int)*(b.den:Int))≤256+256:=len16_mul ad bd
 have ha:short a:=⟨an,ad⟩
 have hb:short b:=⟨bn,bd⟩
 refine Ct.intro Tryz.func107 rfl Tryz.ntmps107 rfl ?_
 intro w F
 refine A4 ?_
 refine RE (x5 (k:=4) (n:=4) (agg:=true) zr33.1 zr33.2 rfl) trivial trivial ⟨rfl,trivial⟩ ?_
 refine A8 ?_
 refine R2 (xc6 (n:=2) (f:=fun q:Rat=>tFr (fr q)) [a,b] Tryz.underlying133 el33 zf33 rfl (fun _=>inferInstance) rfl rfl rfl) rfl rfl (R1 (x3 (xo2 [a,b] (by simp;exact ⟨ha,hb⟩)) fi109 rfl) rfl ?_)
 refine A12 ?_
 refine R2 (x3 (xn3 (a.num) (b.num) (by omega) (by omega) (by omega)) fi112 rfl) rfl rfl ?_
 refine A4 ?_
 refine R2 (x3 (xn3 ((a.den:Int)) ((b.den:Int)) (by omega) (by omega) (by omega)) fi112 rfl) rfl rfl (R2 (x3 (c_lowest _ _ (by omega) (by omega) den_mul_ne) fi111 rfl) rfl rfl (R1 (x3 (xt8 _) fi113 rfl) rfl ?_))
 refine A7 ?_
 exact xa8 Plain.mk' (rs:=[.cell 4 33,.tmp 5]) rfl rfl ⟨⟨_,_,_,_,_,rfl,rfl,ti33,(Le.of (by rw [sh_fr,xu5];by_cases hs:short (a*b) <;> simp [resF,hs]))⟩,⟨_,rfl,(Le.int (by rw [sh_fr,xu5];by_cases hs:short (a*b) <;> simp [resFE,hs]))⟩,trivial⟩
theorem c_FAdd (a b:Rat) (ha:short a) (hb:short b):
  Ct Tryz.prog 108 [tFr (fr a),tFr (fr b)] (tT [tFr (resF (a+b)),tI (resFE (a+b))]):=by
 obtain ⟨an,ad⟩:=ha
 obtain ⟨bn,bd⟩:=hb
 have hbd:=b.den_nz
 have had:=a.den_nz
 have m1:len16 (a.num*(b.den:Int))≤256+256:=len16_mul an bd
 have m2:len16 (b.num*(a.den:Int))≤256+256:=len16_mul bn ad
 have m3:len16 ((a.den:Int)*(b.den:Int))≤256+256:=len16_mul ad bd
 have m4:=len16_add m1 m2
 have ha:short a:=⟨an,ad⟩
 have hb:short b:=⟨bn,bd⟩
 refine Ct.intro Tryz.func108 rfl Tryz.ntmps108 rfl ?_
 intro w F
 refine A4 ?_
 refine RE (x5 (k:=4) (n:=4) (agg:=true) zr33.1 zr33.2 rfl) trivial trivial ⟨rfl,trivial⟩ ?_
 refine A8 ?_
 refine R2 (xc6 (n:=2) (f:=fun q:Rat=>tFr (fr q)) [a,b] Tryz.underlying133 el33 zf33 rfl (fun _=>inferInstance) rfl rfl rfl) rfl rfl (R1 (x3 (xo2 [a,b] (by simp;exact ⟨ha,hb⟩)) fi109 rfl) rfl ?_)
 refine A12 ?_
 refine R2 (x3 (xn3 (a.num) ((b.den:Int)) (by omega) (by omega) (by omega)) fi112 rfl) rfl rfl ?_
 refine A4 ?_
 refine R2 (x3 (xn3 (b.num) ((a.den:Int)) (by omega) (by omega) (by omega)) fi112 rfl) rfl rfl (R2 (x3 (c_fplus (a.num*(b.den:Int)) (b.num*(a.den:Int)) (by omega) (by omega) (by omega)) fi140 rfl) rfl rfl ?_)
 refine A4 ?_
 refine R2 (x3 (xn3 ((a.den:Int)) ((b.den:Int)) (by omega) (by omega) (by omega)) fi112 rfl) rfl rfl (R2 (x3 (c_lowest _ _ (by omega) (by omega) den_mul_ne) fi111 rfl) rfl rfl (R1 (x3 (xt8 _) fi113 rfl) rfl ?_))
 refine A7 ?_
 exact xa8 Plain.mk' (rs:=[.cell 4 33,.tmp 5]) rfl rfl ⟨⟨_,_,_,_,_,rfl,rfl,ti33,(Le.of (by rw [sh_fr,add_divInt];by_cases hs:short (a+b) <;> simp [resF,hs]))⟩,⟨_,rfl,(Le.int (by rw [sh_fr,add_divInt];by_cases hs:short (a+b) <;> simp [resFE,hs]))⟩,trivial⟩
theorem c_FCmp (a b:Rat) (ha:short a) (hb:short b):
  Ct Tryz.prog 84 [tFr (fr a),tFr (fr b)] (tI (cmpQ a b)):=by
 obtain ⟨an,ad⟩:=ha
 obtain ⟨bn,bd⟩:=hb
 have hbd:=b.den_nz
 have had:=a.den_nz
 have m1:len16 (a.num*(b.den:Int))≤256+256:=len16_mul an bd
 have m2:len16 (b.num*(a.den:Int))≤256+256:=len16_mul bn ad
 have ha:short a:=⟨an,ad⟩
 have hb:short b:=⟨bn,bd⟩
 refine Ct.intro Tryz.func84 rfl Tryz.ntmps84 rfl ?_
 intro w F
 refine A12 ?_
 refine R2 (xc6 (n:=2) (f:=fun q:Rat=>tFr (fr q)) [a,b] Tryz.underlying133 el33 zf33 rfl (fun _=>inferInstance) rfl rfl rfl) rfl rfl (R1 (x3 (xo2 [a,b] (by simp;exact ⟨ha,hb⟩)) fi109 rfl) rfl ?_)
 refine A12 ?_
 refine R2 (x3 (xn3 (a.num) ((b.den:Int)) (by omega) (by omega) (by omega)) fi112 rfl) rfl rfl ?_
 refine A4 ?_
 refine R2 (x3 (xn3 (b.num) ((a.den:Int)) (by omega) (by omega) (by omega)) fi112 rfl) rfl rfl (R2 (x3 (c_Cmp (a.num*(b.den:Int)) (b.num*(a.den:Int)) (by omega) (by omega)) fi122 rfl) rfl rfl ?_)
 refine A4 ?_
 exact x4 Plain.mk' rfl rfl (Le.int (cmpQ_eq a b))
theorem xp5 (f g:Fr):
  Ct Tryz.prog 115 [tFr f,tFr g] (tB (decide (f=g))):=by
 refine Ct.intro Tryz.func115 rfl Tryz.ntmps115 rfl ?_
 intro w F
 refine A13 ?_
 refine R2 (x3 (c_WSame _ _) fi149 rfl) rfl rfl ?_
 refine A1 ?_
 refine RGcase (t:=10) rfl (fun h107=> ?_) (fun h107=> ?_)
 ·
  have hn:f.n=g.n:=of_decide_eq_true h107
  refine A4 ?_
  refine RGon h107 rfl (x3 (c_WSame _ _) fi149 rfl) rfl ⟨rfl,rfl,trivial⟩ trivial trivial ?_
  refine A5 ?_
  exact x4 Plain.mk' rfl rfl (Le.bool (by obtain ⟨a,b⟩:=f;obtain ⟨c,d⟩:=g;simp only at hn;subst hn;simp))
 ·
  have hn:f.n≠g.n:=of_decide_eq_false h107
  refine A10 ?_
  exact x4 Plain.mk' rfl rfl (Le.bool (decide_eq_false (fun h=>hn (by rw [h]))).symm)
theorem xp1 (n:Int) (h1: -9223372036854775808≤n) (h2:n≤9223372036854775807):
  Ct Tryz.prog 75 [tI n] (tFr (fr (n:Rat))):=by
 refine Ct.intro Tryz.func75 rfl Tryz.ntmps75 rfl ?_
 intro w F
 refine A2 ?_
 refine RE (x5 (k:=2) (n:=4) (agg:=true) zr33.1 zr33.2 rfl) trivial trivial ⟨rfl,trivial⟩ ?_
 refine A5 ?_
 refine R1 (x3 (c_FromInt n h1 h2) fi114 rfl) rfl (R1 (x3 (c_FromInt 1 (by decide) (by decide)) fi114 rfl) rfl (R2 (xa7 (r:=tS [⟨2,true,tWh (wh n)⟩,⟨2,true,tWh (wh 1)⟩]) (ts:=[(0,tWh (wh n)),(1,tWh (wh 1))]) bu33 zr33.2 (Bc 0 rfl rfl rfl (Bc 1 rfl rfl rfl Le.refl))) rfl rfl ?_))
 refine A4 ?_
 exact xc1 Plain.mk' rfl ⟨_,_,_,_,_,rfl,rfl,ti33,(Le.of (by rw [fr,Rat.num_intCast,Rat.den_intCast];rfl))⟩
end An.S
namespace An
open Go
def Fr.dig (f:Fr):Prop:=Dig 65536 f.n.l∧Dig 65536 f.d.l
def Fr.rat (f:Fr):Rat:=Rat.divInt f.n.int f.d.int
theorem rat_fr (q:Rat):(fr q).rat=q:=by
 have e1:(fr q).n.int=q.num:=xo7 _
 have e2:(fr q).d.int=(q.den:Int):=xo7 _
 rw [Fr.rat,e1,e2,Rat.divInt_ofNat,Rat.mkRat_self]
theorem Fr.of_valid' {f:Fr} (hD:f.dig) (h:f.valid=true):f=fr f.rat∧short f.rat:=by
 obtain ⟨q,hq,hs⟩:=Fr.of_valid hD.1 hD.2 h
 subst hq
 rw [rat_fr];exact ⟨rfl,hs⟩
def take (q:Rat) (n:Int):Int:=(q*(n:Rat)).floor
theorem xn2 {n:Int} (h:len16 n≤256):short (n:Rat):=by
 refine ⟨by rw [Rat.num_intCast];exact h,?_⟩
 rw [Rat.den_intCast]
 show (wh 1).l.length≤256
 rw [wh_one];decide
theorem len16_64 {n:Int} (h1: -9223372036854775808≤n) (h2:n≤9223372036854775807):len16 n≤4:=wh_len _ (by omega)
structure Va where
  kind:Nat
  f:Fr
  i:Int
deriving DecidableEq
structure Sn where
  lo:Int
  hi:Int
deriving DecidableEq
structure Tst where
  lo:Int
  hi:Int
  v:Va
deriving DecidableEq
instance:Inhabited Sn:=⟨⟨0,0⟩⟩
def va0:Va:=⟨0,fr0,0⟩
def sn0:Sn:=⟨0,0⟩
def tst0:Tst:=⟨0,0,va0⟩
abbrev tVa (v:Va):Ty:=tS [⟨1,false,tE (.int .u8 (v.kind:Int))⟩,⟨4,true,tFr v.f⟩,⟨1,false,tI v.i⟩]
abbrev tSn (s:Sn):Ty:=tS [⟨1,false,tI s.lo⟩,⟨1,false,tI s.hi⟩]
abbrev tTs (s:Tst):Ty:=tS [⟨1,false,tI s.lo⟩,⟨1,false,tI s.hi⟩,⟨6,true,tVa s.v⟩]
def Va.valid (v:Va):Bool:=
 if v.kind=2∨v.kind=3 then decide (v.i=0) && v.f.valid
 else if v.kind=1 then decide (v.f=fr0) && decide (0≤v.i) && decide (v.i≤1)
 else if v.kind=4 then decide (v.f=fr0) && decide (0≤v.i) && decide (v.i < 65536)
 else if v.kind=5∨v.kind=6 then decide (v.f=fr0) && decide (-1048576≤v.i) && decide (v.i≤1048576)
 else false
def tOk (l:List Tst) (i:Nat):Bool:=
 decide (0≤(l.getD i tst0).lo) && decide ((l.getD i tst0).lo < (l.getD i tst0).hi) && decide ((l.getD i tst0).hi≤65536) &&
  (decide (i=0) || decide ((l.getD (i - 1) tst0).hi≤(l.getD i tst0).lo) && decide ((l.getD (i - 1) tst0).v.kind=(l.getD i tst0).v.kind) && !(decide ((l.getD (i - 1) tst0).hi=(l.getD i tst0).lo) && decide ((l.getD (i - 1) tst0).v=(l.getD i tst0).v)))
def tRight (l:List Tst):Bool:=(List.range l.length).all (tOk l) && l.all fun s=>s.v.valid
def sOk (s:Tst):Bool:=decide (s.v.kind=2) && !s.v.f.n.neg && decide (s.v.f.rat≤1)
def sRight (l:List Tst):Bool:=tRight l && l.all sOk
def Sn.ok (s:Sn):Bool:=decide (0≤s.lo) && decide (s.lo≤s.hi) && decide (s.hi≤65536)
def mrg1 (acc:List Sn) (s:Sn):List Sn:=
 if 0 < acc.length∧s.lo≤(acc.getD (acc.length - 1) sn0).hi then acc.set (acc.length - 1) ⟨(acc.getD (acc.length - 1) sn0).lo,max (acc.getD (acc.length - 1) sn0).hi s.hi⟩ else acc++[s]
def mrg (xs:List Sn):List Sn:=xs.foldl mrg1 []
theorem tSn_val {F:Dom} {w:World} {s:Sn} {v:Value} (h:(tSn s).p F w v):v= .agg #[.int .i64 s.lo,.int .i64 s.hi]:=by
 obtain ⟨cs,rfl,h2,h3,h4,_⟩:=h
 have h2:cs.size=2:=h2
 obtain ⟨l⟩:=cs
 match l,h2 with
 | [x,y],_=>
  have e1:x= .int .i64 s.lo:=h3.2
  have e2:y= .int .i64 s.hi:=h4.2
  subst e1;subst e2;rfl
theorem tSn_mk {F:Dom} {w:World} {s:Sn}:(tSn s).p F w (.agg #[.int .i64 s.lo,.int .i64 s.hi]):=⟨_,rfl,rfl,⟨fun _=>rfl,rfl⟩,⟨fun _=>rfl,rfl⟩,trivial⟩
theorem St.recast {c:Base} {g:Slots} {h:Keys} {al:Names} {a:Act} {w:World} {t:Nat} {e e':Ent} (hs:St c g h al a w) (hg:g t=some e) (hi: ∀F η v,e.sat F w η v→e'.sat F w η v) (hsup:e'.supp=[]):St c (upd g t (some e')) h al a w:=by
 obtain ⟨η,s⟩:=hs
 have s2:=s.put (s.slot t _ hg).1 (e:=e') (hi _ _ _ (s.slot t _ hg).2.2) fun j hj=>by rw [hsup] at hj;cases hj
 refine ⟨η,?_⟩
 have ea:a.put (some t) (a.tmps.getD t undef)=a:=by
  have hlt:t < a.tmps.size:=by rw [s.tn];exact (s.slot t _ hg).1
  have:a.tmps.setIfInBounds t (a.tmps.getD t undef)=a.tmps:=by
   apply Array.ext_getElem?
   intro i
   rw [Array.getElem?_setIfInBounds]
   by_cases hi:t=i
   ·subst hi;simp [hlt]
   ·simp [hi]
  simp only [Act.put,this]
 rw [←ea];exact s2
theorem fdOne_row {F:Dom} {w:World} {η:Env} {cs:Array Value}: ∀(ts:List Ty) (o:Nat),Fd.all F w cs o (fdOne ts)→RowOk F w η cs o (ts.map Ent.val)
 | [],_,_=>fun i e hi=>by simp at hi
 | t::r,o,h=>fun i e hi=>by
  cases i with
  | zero=>
   simp only [List.map_cons,List.getElem?_cons_zero,Option.some.injEq] at hi
   subst hi
   exact h.1.2
  | succ i=>
   have:=fdOne_row (η:=η) r (o+1) h.2 i e (by simpa using hi)
   rwa [show o+1+i=o+(i+1) by omega] at this
theorem Does.rowV {P:Program} {c:Base} {o:Oper} {rd:List (Operand×Ent)} {kr:List (Nat×HEnt)} {d:Nat} {ts:List Ty} {kw:List (Nat×Option HEnt)} {nk:List Nat} {es:List Ent} (he:ts.map Ent.val=es) (hd:Does P c o ⟨rd,kr,some (d,some (.val (tS (fdOne ts)))),kw,nk⟩):
  Does P c o ⟨rd,kr,some (d,some (.own (An.rowV es))),kw,nk⟩:=by
 subst he
 intro g h al a w hp hs
 refine Oper.wpIn_mono (fun a' w' hs'=> ?_) (hd g h al a w ⟨hp.rd,hp.kr,hp.nk,fun x hx=>by cases hx;exact hp.d (d,some (.own (An.rowV (ts.map Ent.val)))) rfl⟩ hs)
 have:=hs'.recast (t:=d) (e':= .own (An.rowV (ts.map Ent.val))) (xb0 _ _ _) (fun F η v hv=> ?_) (by rw [rowV_supp];simp [List.flatMap_map,Ent.supp])
 ·simp only [Eff.g,upd_twice] at this ⊢
  exact this
 ·obtain ⟨cs,h1,h2,h3⟩:=hv
  exact rowV_sat.2 ⟨cs,h1,by rw [h2,fdOne_sum];simp,fdOne_row ts 0 h3⟩
theorem C_nilC {P:Program} {c:Base} {g:Slots} {h:Keys} {al:Names} {Q:Exit→Act→World→Prop} {x:Code} {q Tq:Nat} {us us':List Ent} (k T es:Nat) (agg:Bool) (i:Nat) (hq:h q=some ⟨Tq,1,false,us⟩) (hi:us[i]? =some (.val (tE (.slice none 0 0)))) (hk:al k=false) (hes:Nat.blt 0 es=true) (hagg:agg=false→es=1) (hne:Nat.beq q k=false)
  (hus:us.set i (.own (.sl k es 0 0))=us') (H:wc P c x Q g (upd (upd h k (some ⟨T,es,agg,[]⟩)) q (some ⟨Tq,1,false,us'⟩)) (fun j=>Nat.beq j k || al j)):wc P c x Q g h al:=fun a w hs=>by
 obtain ⟨η,s⟩:=hs
 subst hus
 obtain ⟨η',s',hc,hoth⟩:=s.ghost k hk T es agg (by simpa using hes) hagg
 have hqk:q≠k:=fun e=>by rw [e] at hne;simp at hne
 have hq':upd h k (some ⟨T,es,agg,[]⟩) q=some ⟨Tq,1,false,us⟩:=by rw [xa4 _ _ _ hqk];exact hq
 refine H a w ⟨η',s'.same hq' rfl ?_ ?_⟩
 ·intro j hj
  simp only [HEnt.supp,List.mem_flatMap] at hj
  obtain ⟨e,he,hj⟩:=hj
  obtain ⟨n,hn⟩:=List.getElem?_of_mem he
  rcases List.getElem?_set_cases hn with ⟨_,rfl,_⟩ | ⟨_,hn'⟩
  ·simp only [Ent.supp,VP.supp,List.mem_singleton] at hj
   subst hj;simp
  ·exact (s'.key q _ hq').2.1 j (HEnt.mem_supp hn' hj)
 ·obtain ⟨k1,k2,k3,k4,k5⟩:=(s'.key q _ hq').2.2.1
  refine ⟨by simpa using k1,k2,k3,k4,fun hc0=> ?_⟩
  obtain ⟨cs,c1,c2,c3⟩:=k5 hc0
  refine ⟨cs,c1,c2,fun n e hn=> ?_⟩
  rcases List.getElem?_set_cases hn with ⟨rfl,rfl,_⟩ | ⟨_,hn'⟩
  ·have h6:_=_:=c3 n _ hi
   refine ⟨none,?_,by simp [hc],fun hlt=>by rw [hc] at hlt;omega⟩
   rw [hc]
   exact h6
  ·exact c3 n e hn'
end An
namespace An.S
open Go Go.Proofs An
instance ti3:TyI Tryz.prog 3 1 false:=⟨by kernel_rfl,by kernel_rfl⟩
instance ti5:TyI Tryz.prog 5 1 false:=⟨by kernel_rfl,by kernel_rfl⟩
instance ti35:TyI Tryz.prog 35 6 true:=⟨by kernel_rfl,by kernel_rfl⟩
instance fo35_0:FoI Tryz.prog 35 0 0:=⟨by kernel_rfl⟩
instance fo35_1:FoI Tryz.prog 35 1 1:=⟨by kernel_rfl⟩
instance fo35_2:FoI Tryz.prog 35 2 5:=⟨by kernel_rfl⟩
instance fi24:FnI Tryz.prog 24:=⟨_,Tryz.func24,by kernel_rfl,rfl⟩
instance fi46:FnI Tryz.prog 46:=⟨_,Tryz.func46,by kernel_rfl,rfl⟩
instance fi67:FnI Tryz.prog 67:=⟨_,Tryz.func67,by kernel_rfl,rfl⟩
theorem xw3 (l:List Nat) (k:Nat) (hk:k < l.length):l.take (k+1)=l.take k++[l.getD k 0]:=by
 rw [List.take_succ_eq_append_getElem hk,List.getD_eq_getElem?_getD,List.getElem?_eq_getElem hk];rfl
theorem c_SameLimbs (xs ys:List Nat):
  Ct Tryz.prog 67 [tLm xs,tLm ys] (tB (decide (xs=ys))):=by
 refine Ct.intro Tryz.func67 rfl Tryz.ntmps67 rfl ?_
 intro w F
 refine xk1 (s:=0) rfl (fun hl0=> ?_)
 refine A15 ?_
 refine x9 rfl (fun h9=> ?_) (fun h9=> ?_)
 ·
  refine A7 ?_
  exact x4 Plain.mk' rfl rfl (Le.bool (decide_eq_false (fun h=>by rw [h] at h9;omega)).symm)
 ·
  have hll:xs.length=ys.length:=by omega
  refine A9 ?_
  refine cL (fun (i:Nat)=>i≤xs.length∧xs.take i=ys.take i) (fun (i:Nat)=>upd (upd (upd (fun _=>none) 0 (some (.val (tLm xs)))) 1 (some (.val (tLm ys)))) 5 (some (.val (tI i)))) (fun (i:Nat)=>fun _=>none) [] (fun (i:Nat)=>xs.length - i) (0) ⟨Nat.zero_le _,rfl⟩ ?_
  intro i hI
  obtain ⟨hi,ht⟩:=hI
  refine A9 ?_
  refine x9 rfl (fun h12=> ?_) (fun h12=> ?_)
  ·
   refine A8 ?_
   refine R2 (x6 sl29 (i) (by omega) (gN (by omega))) rfl rfl ?_
   refine A3 ?_
   refine R2 (x6 sl29 (i) (by omega) (gN (by omega))) rfl rfl ?_
   refine A4 ?_
   refine x9 rfl (fun h13=> ?_) (fun h13=> ?_)
   ·
    refine A11 ?_
    exact x4 Plain.mk' rfl rfl (Le.bool (decide_eq_false (fun h=>by rw [h] at h13;exact (h13 rfl))).symm)
   ·
    refine A8 ?_
    exact kF (i+1) ⟨⟨by omega,by rw [xw3 xs i (by omega),xw3 ys i (by omega),ht,show xs.getD i 0=ys.getD i 0 from (by omega)]⟩,(by omega)⟩
  ·
   refine A11 ?_
   exact x4 Plain.mk' rfl rfl (Le.bool (decide_eq_true (by rw [show i=xs.length by omega,List.take_length,hll,List.take_length] at ht;exact ht)).symm)
theorem xv5 (x y:Wh):
  Ct Tryz.prog 46 [tWh x,tWh y] (tB (decide (x=y))):=by
 refine Ct.intro Tryz.func46 rfl Tryz.ntmps46 rfl ?_
 intro w F
 refine A15 ?_
 refine RGcase (t:=10) rfl (fun h81=> ?_) (fun h81=> ?_)
 ·
  refine A4 ?_
  refine RGon h81 rfl (x3 (c_SameLimbs _ _) fi67 rfl) rfl ⟨rfl,rfl,trivial⟩ trivial trivial ?_
  refine A5 ?_
  exact x4 Plain.mk' rfl rfl (Le.bool (by obtain ⟨a,b⟩:=x;obtain ⟨c,d⟩:=y;simp_all))
 ·
  refine A10 ?_
  exact x4 Plain.mk' rfl rfl (Le.bool (by obtain ⟨a,b⟩:=x;obtain ⟨c,d⟩:=y;simp_all))
theorem xu8 (x y:Fr):
  Ct Tryz.prog 24 [tFr x,tFr y] (tB (decide (x=y))):=by
 refine Ct.intro Tryz.func24 rfl Tryz.ntmps24 rfl ?_
 intro w F
 refine A13 ?_
 refine R2 (x3 (xv5 _ _) fi46 rfl) rfl rfl ?_
 refine A1 ?_
 refine RGcaseD (t:=10) rfl (fun h113=> ?_) (fun h113=> ?_)
 ·
  refine A4 ?_
  refine RGon (decide_eq_true h113) rfl (x3 (xv5 _ _) fi46 rfl) rfl ⟨rfl,rfl,trivial⟩ trivial trivial ?_
  refine A5 ?_
  exact x4 Plain.mk' rfl rfl (Le.bool (by obtain ⟨a,b⟩:=x;obtain ⟨c,d⟩:=y;simp_all))
 ·
  refine A10 ?_
  exact x4 Plain.mk' rfl rfl (Le.bool (by obtain ⟨a,b⟩:=x;obtain ⟨c,d⟩:=y;simp_all))
theorem xw1 (x y:Va):
  Ct Tryz.prog 9 [tVa x,tVa y] (tB (decide (x=y))):=by
 refine Ct.intro Tryz.func9 rfl Tryz.ntmps9 rfl ?_
 intro w F
 refine A15 ?_
 refine RGcaseD (t:=10) rfl (fun h146=> ?_) (fun h146=> ?_)
 ·
  refine A4 ?_
  refine RGon (decide_eq_true h146) rfl (x3 (xu8 _ _) fi24 rfl) rfl ⟨rfl,rfl,trivial⟩ trivial trivial ?_
  refine A2 ?_
  refine RGcaseD (t:=17) rfl (fun h146_2=> ?_) (fun h146_2=> ?_)
  ·
   refine A10 ?_
   exact x4 Plain.mk' rfl rfl (Le.bool (by obtain ⟨a,b,e⟩:=x;obtain ⟨c,d,f⟩:=y;simp only [Va.mk.injEq] at*;simp_all <;> omega))
  ·
   refine A10 ?_
   exact x4 Plain.mk' rfl rfl (Le.bool (by obtain ⟨a,b,e⟩:=x;obtain ⟨c,d,f⟩:=y;simp only [Va.mk.injEq] at*;simp_all <;> omega))
 ·
  refine A17 ?_
  exact x4 Plain.mk' rfl rfl (Le.bool (by obtain ⟨a,b,e⟩:=x;obtain ⟨c,d,f⟩:=y;simp only [Va.mk.injEq] at*;simp_all <;> omega))
end An.S
namespace An
open Go
abbrev tM (v:Nat):Ty:=tLm (dig 65536 v)
theorem trim_step' {a:List Nat} {k:Nat} (hk:k≤a.length) (h0:0 < k) (hz:a.getD (k - 1) 0=0):trimL (a.take (k - 1))=trimL (a.take k):=by
 have h1:=xf6 a (k - 1) (by omega)
 rw [show k - 1+1=k from by omega] at h1
 rw [h1,hz,xr4]
theorem trim_stop' {a:List Nat} {k:Nat} (hk:k≤a.length) (h0:0 < k) (hz: ¬a.getD (k - 1) 0=0):trimL (a.take k)=a.take k:=by
 refine trimL_Top fun x hx=> ?_
 have h1:=xf6 a (k - 1) (by omega)
 rw [show k - 1+1=k from by omega] at h1
 rw [h1,List.getLast?_append] at hx
 simp at hx
 rw [←hx]
 simpa [List.getD_eq_getElem?_getD] using hz
theorem short_in {a d r k q n:Nat} {qs:List Nat} (hk:k < n) (hl:qs.length=n) (hD:Dig 65536 qs) (hd:0 < d) (hr:r=a / 65536 ^ (k+1)%d) (hv:val 65536 (qs.drop (k+1))=a / 65536 ^ (k+1) / d) (hq:(r*65536+a / 65536 ^ k%65536) / d=q):
  (qs.set k q).length=n∧Dig 65536 (qs.set k q)∧(r*65536+a / 65536 ^ k%65536)%d=a / 65536 ^ k%d∧val 65536 ((qs.set k q).drop k)=a / 65536 ^ k / d∧q < 65536:=by
 have e0:a / 65536 ^ k=65536*(a / 65536 ^ (k+1))+a / 65536 ^ k%65536:=xs1 65536 a k (by decide)
 have hrd:r < d:=by rw [hr];exact Nat.mod_lt _ hd
 have e1:a / 65536 ^ k=(r*65536+a / 65536 ^ k%65536)+d*(65536*(a / 65536 ^ (k+1) / d)):=by
  have h1:=Nat.div_add_mod (a / 65536 ^ (k+1)) d
  rw [←hr] at h1
  have h2:65536*(a / 65536 ^ (k+1))=d*(65536*(a / 65536 ^ (k+1) / d))+65536*r:=by
   conv=>lhs;rw [←h1]
   rw [Nat.mul_add,Nat.mul_left_comm]
  omega
 have hqW:q < 65536:=by
  rw [←hq];refine Nat.div_lt_of_lt_mul ?_
  have h4:a / 65536 ^ k%65536 < 65536:=Nat.mod_lt _ (by decide)
  have h5:(r+1)*65536≤d*65536:=Nat.mul_le_mul_right _ hrd
  omega
 refine ⟨by simpa using hl,hD.set hqW,?_,?_,hqW⟩
 ·conv=>rhs;rw [e1,Nat.add_mul_mod_self_left]
 ·rw [xn5 _ _ _ (by simpa using (by omega:k < qs.length)),xn7 (by omega),xe8,hv]
  conv=>rhs;rw [e1,Nat.add_mul_div_left _ _ hd,hq]
theorem one_limb {b:Nat} (h:(dig 65536 b).length=1):(dig 65536 b).getD 0 0=b:=by
 rw [xb7 x8,Nat.pow_zero,Nat.div_one]
 have:=(xa9 x8 b 1).1 (Nat.le_of_eq h)
 rw [Nat.pow_one] at this
 exact Nat.mod_eq_of_lt this
theorem trim1L {x:Nat} (hx:x < 65536):trimL [x]=dig 65536 x:=by
 rw [xe6 x8 (Dig.cons hx (Dig.nil _)),xk4,val_nil];simp
theorem dig_lt_of {B a b k:Nat} (hB:2≤B) (h:a / B ^ (k+1)=b / B ^ (k+1)) (hd:(dig B a).getD k 0 < (dig B b).getD k 0):a < b:=cmp_lt (by omega) h (by rw [←xb7 hB,←xb7 hB];exact hd)
theorem xv2 {a i:Nat} (h:i < (dig 65536 a).length):65536 ^ i≤a:=by
 rcases Nat.lt_or_ge a (65536 ^ i) with h' | h'
 ·have:=(xa9 x8 a i).2 h';omega
 ·exact h'
theorem rplus_in {a b i n s:Nat} (hn:n=(a%65536 ^ i+b%65536 ^ i) / 65536 ^ i) (hs:s=n+a / 65536 ^ i%65536+b / 65536 ^ i%65536):
  dgs 65536 i (a+b)++[s%65536]=dgs 65536 (i+1) (a+b)∧s / 65536=(a%65536 ^ (i+1)+b%65536 ^ (i+1)) / 65536 ^ (i+1):=by
 have hp:0 < 65536 ^ i:=Nat.pow_pos (by decide)
 have ea:=Nat.div_add_mod a (65536 ^ i)
 have eb:=Nat.div_add_mod b (65536 ^ i)
 have e1:(a+b) / 65536 ^ i=n+a / 65536 ^ i+b / 65536 ^ i:=by
  have:a+b=(a%65536 ^ i+b%65536 ^ i)+65536 ^ i*(a / 65536 ^ i+b / 65536 ^ i):=by rw [Nat.mul_add];omega
  rw [this,Nat.add_mul_div_left _ _ hp,←hn];omega
 refine ⟨?_,?_⟩
 ·rw [xm2,e1,hs]
  congr 2
  omega
 ·rw [Nat.pow_succ,←Nat.div_div_eq_div_mul,←Nat.pow_succ,xh7,xh7]
  have e2:a%65536 ^ i+65536 ^ i*(a / 65536 ^ i%65536)+(b%65536 ^ i+65536 ^ i*(b / 65536 ^ i%65536))=(a%65536 ^ i+b%65536 ^ i)+65536 ^ i*(a / 65536 ^ i%65536+b / 65536 ^ i%65536):=by rw [Nat.mul_add];omega
  rw [e2,Nat.add_mul_div_left _ _ hp,←hn,hs]
  congr 1;omega
theorem rplus_more {a b i n:Nat} (hn:n=(a%65536 ^ i+b%65536 ^ i) / 65536 ^ i) (h:i < (dig 65536 a).length∨i < (dig 65536 b).length∨0 < n):i+1≤(dig 65536 (a+b)).length:=by
 have hp:0 < 65536 ^ i:=Nat.pow_pos (by decide)
 have h1:65536 ^ i≤a+b:=by
  rcases h with h | h | h
  ·have:=xv2 h;omega
  ·have:=xv2 h;omega
  ·have h2:65536 ^ i≤a%65536 ^ i+b%65536 ^ i:=by
    rcases Nat.lt_or_ge (a%65536 ^ i+b%65536 ^ i) (65536 ^ i) with h' | h'
    ·rw [Nat.div_eq_of_lt h'] at hn;omega
    ·exact h'
   have:=Nat.mod_le a (65536 ^ i);have:=Nat.mod_le b (65536 ^ i)
   omega
 rcases Nat.lt_or_ge i (dig 65536 (a+b)).length with h' | h'
 ·exact h'
 ·have:=(xa9 x8 (a+b) i).1 h';omega
theorem rplus_end {a b i n:Nat} (hn:n=(a%65536 ^ i+b%65536 ^ i) / 65536 ^ i) (h0:n=0) (ha:(dig 65536 a).length≤i) (hb:(dig 65536 b).length≤i) (hi:i≤(dig 65536 (a+b)).length):dgs 65536 i (a+b)=dig 65536 (a+b):=by
 have hp:0 < 65536 ^ i:=Nat.pow_pos (by decide)
 rw [mod_all x8 ha,mod_all x8 hb,h0] at hn
 have h1:a+b < 65536 ^ i:=(Nat.div_eq_zero_iff_lt hp).1 hn.symm
 have h2:=(xa9 x8 (a+b) i).2 h1
 rw [show i=(dig 65536 (a+b)).length by omega,xp4 x8]
theorem rplus_small {a b i n:Nat} (hn:n=(a%65536 ^ i+b%65536 ^ i) / 65536 ^ i):n≤1:=by
 have hp:0 < 65536 ^ i:=Nat.pow_pos (by decide)
 have h1:=Nat.mod_lt a hp;have h2:=Nat.mod_lt b hp
 rw [hn]
 exact Nat.le_of_lt_succ (Nat.div_lt_of_lt_mul (by omega))
theorem rminus_in {a b i br n:Nat} {cs:List Nat} (hl:cs.length=i) (hv:val 65536 cs+b%65536 ^ i=a%65536 ^ i+br*65536 ^ i) (hbr:br≤1) (hn:n+br+b / 65536 ^ i%65536=65536+a / 65536 ^ i%65536):
  val 65536 (cs++[n%65536])+b%65536 ^ (i+1)=a%65536 ^ (i+1)+(1 - n / 65536)*65536 ^ (i+1)∧n / 65536≤1∧1 - n / 65536≤1:=by
 have h1:a / 65536 ^ i%65536 < 65536:=Nat.mod_lt _ (by decide)
 have h2:b / 65536 ^ i%65536 < 65536:=Nat.mod_lt _ (by decide)
 refine ⟨?_,by omega,by omega⟩
 rw [xq5,hl]
 exact sub_step hv rfl rfl (by omega)
theorem rminus_end {n a b br:Nat} {ws:List Nat} (hl:ws.length=n) (hD:Dig 65536 ws) (ha:a < 65536 ^ n) (hba:b≤a) (h:val 65536 ws+b%65536 ^ n=a%65536 ^ n+br*65536 ^ n):trimL ws=dig 65536 (a - b):=by
 rw [Nat.mod_eq_of_lt ha,Nat.mod_eq_of_lt (by omega)] at h
 have h1:=xp9 hD
 rw [hl] at h1
 rw [xe6 x8 hD]
 congr 1
 rcases Nat.eq_zero_or_pos br with h0 | h0
 ·subst h0;omega
 ·have:65536 ^ n≤br*65536 ^ n:=Nat.le_mul_of_pos_left _ h0
  omega
theorem len_dbl {a b k:Nat} (ha:(dig 65536 a).length≤k) (hb:(dig 65536 b).length≤k):(dig 65536 (a+b)).length≤k+1:=by
 rw [xa9 x8] at*
 rw [Nat.pow_succ];generalize 65536 ^ k=P at*;omega
theorem half_in {a k n q m:Nat} {qs:List Nat} (hk:k < m) (hl:qs.length=m) (hD:Dig 65536 qs) (hn:n%2=a / 65536 ^ (k+1)%2) (hv:val 65536 (qs.drop (k+1))=a / 65536 ^ (k+1) / 2) (hq:(n%2*65536+a / 65536 ^ k%65536) / 2=q):
  (qs.set k q).length=m∧Dig 65536 (qs.set k q)∧(n%2*65536+a / 65536 ^ k%65536)%2=a / 65536 ^ k%2∧val 65536 ((qs.set k q).drop k)=a / 65536 ^ k / 2∧q < 65536:=short_in hk hl hD (by decide) hn hv hq
theorem from_more {v i u:Nat} (hu:u=v / 65536 ^ i) (h0:0 < u):i+1≤(dig 65536 v).length∧u / 65536=v / 65536 ^ (i+1)∧dgs 65536 i v++[u%65536]=dgs 65536 (i+1) v:=by
 refine ⟨?_,by rw [hu,Nat.div_div_eq_div_mul,←Nat.pow_succ],by rw [xm2,hu]⟩
 rcases Nat.lt_or_ge i (dig 65536 v).length with h' | h'
 ·exact h'
 ·have:=(xa9 x8 v i).1 h'
  rw [Nat.div_eq_of_lt this] at hu;omega
theorem from_end {v i:Nat} (h:v / 65536 ^ i=0) (hi:i≤(dig 65536 v).length):dgs 65536 i v=dig 65536 v:=by
 have h1:v < 65536 ^ i:=(Nat.div_eq_zero_iff_lt (Nat.pow_pos (by decide))).1 h
 have h2:=(xa9 x8 v i).2 h1
 rw [show i=(dig 65536 v).length by omega,xp4 x8]
theorem bits_le {a n k:Nat} (h:2 ^ n≤a) (hk:(dig 65536 a).length≤k):n < 16*k:=by
 have h1:=(xa9 x8 a k).1 hk
 have e:65536 ^ k=2 ^ (16*k):=by rw [Nat.pow_mul]
 rw [e] at h1
 exact (Nat.pow_lt_pow_iff_right (by decide)).1 (Nat.lt_of_le_of_lt h h1)
theorem div_bit {a b n i q r d:Nat} (hi:i < n) (hd:d=b*2 ^ (n - i)) (ha:a=q*d+r) (hr:r < d):
  d / 2=b*2 ^ (n - (i+1))∧(r < d / 2→a=(q+q)*(d / 2)+r)∧(¬r < d / 2→a=(q+q+1)*(d / 2)+(r - d / 2)∧r - d / 2 < d / 2∧d / 2≤r):=by
 have e:d=2*(b*2 ^ (n - (i+1))):=by rw [hd,show n - i=n - (i+1)+1 by omega,Nat.pow_succ];grind
 have h1:d / 2=b*2 ^ (n - (i+1)):=by omega
 refine ⟨h1,fun h=> ?_,fun h=>⟨?_,by omega,by omega⟩⟩
 ·rw [h1,ha,e];grind
 ·rw [h1] at h ⊢
  generalize b*2 ^ (n - (i+1))=c at*
  rw [ha,e]
  have:(q+q+1)*c=q*(2*c)+c:=by grind
  rw [this];omega
theorem div_done {a b q r:Nat} (ha:a=q*b+r) (hr:r < b):q=a / b∧r=a%b:=by
 have hb:0 < b:=by omega
 constructor
 ·rw [ha,Nat.mul_comm,Nat.mul_add_div hb,Nat.div_eq_of_lt hr,Nat.add_zero]
 ·rw [ha,Nat.mul_comm,Nat.mul_add_mod,Nat.mod_eq_of_lt hr]
end An
namespace An.S
open Go Go.Proofs An
theorem shr16 {u:Nat} (_h:u < 18446744073709551616):((u:Int)).fdiv (2 ^ (min (16:Int).toNat (IntKind.bits .u64)))=((u / 65536:Nat):Int):=by
 show ((u:Int)).fdiv 65536=_
 rw [Int.fdiv_eq_ediv_of_nonneg _ (by decide)];omega
theorem wh_of {n:Int}:(⟨decide (n < 0),dig 65536 n.natAbs⟩:Wh)=wh n:=rfl
theorem c_KWhole (n:Int) (h1: -9223372036854775808≤n) (h2:n≤9223372036854775807):
  Ct Tryz.prog 50 [tI n] (tWh (wh n)):=by
 refine Ct.intro Tryz.func50 rfl Tryz.ntmps50 rfl ?_
 intro w F
 refine A2 ?_
 refine RE (x5 (k:=2) (n:=2) (agg:=true) zr31.1 zr31.2 rfl) trivial trivial ⟨rfl,trivial⟩ ?_
 refine A6 ?_
 refine R1 (Does.rowV (ts:=[tB (decide (n < 0)),tE (.slice none 0 0)]) (es:=[.val (tB (decide (n < 0))),.val (tE (.slice none 0 0))]) rfl (d_build (r:=tS [⟨1,false,tB (decide (n < 0))⟩,⟨1,false,tE (.slice none 0 0)⟩]) (ts:=[(0,tB (decide (n < 0)))]) bu31 (z:= .agg #[.bool false,.slice none 0 0]) (t:=tS [⟨1,false,tE (.bool false)⟩,⟨1,false,tE (.slice none 0 0)⟩]) (fun _ _=>⟨_,rfl,rfl,⟨fun _=>rfl,rfl⟩,⟨fun _=>rfl,rfl⟩,trivial⟩) ⟨_,rfl⟩ rfl ⟨_,_,_,_,rfl,Up.f (fs:=[⟨1,false,tE (.bool false)⟩,⟨1,false,tE (.slice none 0 0)⟩]) (f:=⟨1,false,tE (.bool false)⟩) (fs':=[⟨1,false,tB (decide (n < 0))⟩,⟨1,false,tE (.slice none 0 0)⟩]) 0 rfl rfl rfl,inferInstance,Le.refl⟩)) rfl (RE (d_allocC (k:=3) (n:=2) [.bool false,.slice none 0 0] zr31.1 rfl rfl rfl rfl) trivial trivial ⟨rfl,trivial⟩ (RE (d_storeM ti31 rfl rfl rfl) ⟨rfl,rfl,trivial⟩ ⟨rfl,trivial⟩ trivial ?_))
 refine A3 ?_
 refine C_nilC (q:=3) 103 42 1 false 1 rfl rfl rfl rfl (fun _=>rfl) rfl rfl ?_
 refine A2 ?_
 refine R1 (x7 Tryz.underlying82 (isS Tryz.underlying3) toU64) rfl ?_
 refine A3 ?_
 refine xg0 (fun (v:Nat)=>v=n.natAbs) (fun (v:Nat)=>upd (upd (upd (fun _=>none) 2 (some (.own (.ptr 2 0)))) 3 (some (.own (.ptr 3 0)))) 4 (some (.val (tE (.int .u64 ((v:Nat):Int)))))) (fun (v:Nat)=>upd (upd (upd (fun _=>none) 2 (some (⟨31,2,true,[.val (tWh ⟨false,[]⟩)]⟩))) 3 (some (⟨31,1,false,[.val (tB (decide (n < 0))),.own (.sl 103 1 0 0)]⟩))) 103 (some (⟨42,1,false,rW .u16 []⟩))) (nm [2,3,103]) ?_ ?_
 ·
  refine A6 ?_
  refine x9 rfl (fun h11=> ?_) (fun h11=> ?_)
  ·
   refine A2 ?_
   refine R1 (d_neg (negU64 (by omega))) rfl ?_
   refine A2 ?_
   exact kF ((18446744073709551616 - (n%18446744073709551616).toNat)%18446744073709551616) (by omega) (hh:=((SubK.consI rfl ImpK.refl) ((SubK.consI rfl ImpK.refl) ((SubK.consI rfl ImpK.refl) SubK.nil))))
  ·
   refine A1 ?_
   exact kF ((n%18446744073709551616).toNat) (by omega) (hh:=((SubK.consI rfl ImpK.refl) ((SubK.consI rfl ImpK.refl) ((SubK.consI rfl ImpK.refl) SubK.nil))))
 ·
  intro v hv
  have hvl:=wh_len v (by omega)
  refine A2 ?_
  refine cL (fun (fm:(Nat)×(Nat)×(List Nat))=>(fun (i:Nat) (u:Nat) (cs:List Nat)=>i≤(dig 65536 v).length∧u=v / 65536 ^ i∧cs=dgs 65536 i v∧u < 18446744073709551616) fm.1 fm.2.1 fm.2.2) (fun (fm:(Nat)×(Nat)×(List Nat))=>(fun (i:Nat) (u:Nat) (cs:List Nat)=>upd (upd (upd (fun _=>none) 2 (some (.own (.ptr 2 0)))) 3 (some (.own (.ptr 3 0)))) 4 (some (.val (tE (.int .u64 ((u:Nat):Int)))))) fm.1 fm.2.1 fm.2.2) (fun (fm:(Nat)×(Nat)×(List Nat))=>(fun (i:Nat) (u:Nat) (cs:List Nat)=>upd (upd (upd (fun _=>none) 2 (some (⟨31,2,true,[.val (tWh ⟨false,[]⟩)]⟩))) 3 (some (⟨31,1,false,[.val (tB (decide (n < 0))),.own (.sl 103 1 0 cs.length)]⟩))) 103 (some (⟨42,1,false,rW .u16 cs⟩))) fm.1 fm.2.1 fm.2.2) [2,3,103] (fun (fm:(Nat)×(Nat)×(List Nat))=>(fun (i:Nat) (u:Nat) (cs:List Nat)=>u) fm.1 fm.2.1 fm.2.2) ((0,v,[])) (by dsimp only;exact ⟨Nat.zero_le _,by simp,rfl,by omega⟩) (hh:=((SubK.consI rfl ImpK.refl) ((SubK.consI rfl ImpK.refl) ((SubK.consI rfl ImpK.refl) SubK.nil)))) ?_
  intro fm hI
  obtain ⟨i,u,cs⟩:=fm
  replace hI:i≤(dig 65536 v).length∧u=v / 65536 ^ i∧cs=dgs 65536 i v∧u < 18446744073709551616:=hI
  show wc _ _ _ _ (upd (upd (upd (fun _=>none) 2 (some (.own (.ptr 2 0)))) 3 (some (.own (.ptr 3 0)))) 4 (some (.val (tE (.int .u64 ((u:Nat):Int)))))) (upd (upd (upd (fun _=>none) 2 (some (⟨31,2,true,[.val (tWh ⟨false,[]⟩)]⟩))) 3 (some (⟨31,1,false,[.val (tB (decide (n < 0))),.own (.sl 103 1 0 cs.length)]⟩))) 103 (some (⟨42,1,false,rW .u16 cs⟩))) _
  obtain ⟨hi,hu,hcs,hu64⟩:=hI
  have hcl:cs.length=i:=by rw [hcs,xe1]
  refine A7 ?_
  refine x9 rfl (fun h14=> ?_) (fun h14=> ?_)
  ·
   refine A6 ?_
   refine RE (xd8 (1) ti29 rfl rfl) ⟨rfl,trivial⟩ ⟨rfl,trivial⟩ trivial ?_
   refine A1 ?_
   refine R1 (x7 (r:=((u%65536:Nat):Int)) Tryz.underlying42 (isS Tryz.underlying82) (by rw [mu16];omega)) rfl (R1 (xm9 (n:=1) [u%65536] Tryz.underlying29 el42 zf42 rfl rfl rfl) rfl (RE (xc2 (k:=103) (k':=23) (ts':=rW .u16 (cs++[u%65536])) Tryz.underlying29 el42 zf42 rfl rfl (fun _=>inferInstance) xk2 (by simp;omega) (by simp;omega) (by simp [rW]) (n':=cs.length+1) rfl) ⟨rfl,rfl,trivial⟩ ⟨rfl,trivial⟩ ⟨rfl,trivial⟩ ?_))
   refine A1 ?_
   refine RE (xc3 (es:=1) (agg:=false) (1) ti29 rfl rfl rfl) ⟨rfl,rfl,trivial⟩ ⟨rfl,trivial⟩ trivial ?_
   refine A5 ?_
   refine R2 (xh4 (by decide) (shr16 hu64)) rfl rfl ?_
   refine A2 ?_
   obtain ⟨n1,n2,n3⟩:=from_more hu (by omega)
   exact xf7 (l:=[2,3,103]) (fun j=>cond (Nat.beq j 103) 23 (j)) ((i+1,u / 65536,cs++[u%65536])) ⟨(by dsimp only;exact ⟨n1,n2,by rw [hcs];exact n3,by omega⟩),(by dsimp only;omega)⟩ (SubR.int rfl (by first | omega | rfl | (dsimp only;omega)) (SubR.cons rfl (SubR.cons rfl SubR.nil))) ((SubKR.consI rfl (ImpK.of xg6.symm)) ((SubKR.consI rfl (ImpK.of (by dsimp only;rw [List.length_append];rfl))) ((SubKR.consI rfl ImpK.refl) SubKR.nil))) (SupG.val (SupG.own rfl (SupG.own rfl SupG.nil))) (SupH.cons rfl (supJ xd6) (SupH.cons rfl (supJL rfl) (SupH.cons rfl (supJL rfl) SupH.nil))) (lkOk rfl) rfl rfl (fun _ h=>by cases h)
  ·
   refine A6 ?_
   refine C_giveC (q:=3) (j:=103) (f:=fun n:Nat=>tE (.int .u16 n)) (xs:=cs) 1 rfl rfl rfl rfl (NoLbK.of fun _ h=>h) (xi7 rfl) rfl rfl ?_
   refine A1 ?_
   refine RE (d_loadM (us:=[tB (decide (n < 0)),tLm cs]) (t:=tWh ⟨(decide (n < 0)),cs⟩) ti31 rfl rfl rfl rfl) ⟨rfl,trivial⟩ ⟨rfl,trivial⟩ trivial ?_
   refine A4 ?_
   exact xc1 Plain.mk' rfl ⟨_,_,_,_,_,rfl,rfl,ti31,(Le.of (by rw [←wh_of,hcs,from_end (by rw [←hu];omega) hi,hv]))⟩
instance fi50:FnI Tryz.prog 50:=⟨_,Tryz.func50,by kernel_rfl,rfl⟩
def kfr (n d:Int):Rat:=if d < 1 then 0 else Rat.divInt n d
theorem kfr_small {n d:Int} (h:d < 1∨n=0):kfr n d=0:=by
 rw [kfr]
 rcases h with h | h
 ·rw [if_pos h]
 ·subst h;split
  ·rfl
  ·exact Rat.zero_divInt d
theorem kfr_big {n d:Int} (h: ¬d < 1):kfr n d=Rat.divInt n d:=if_neg h
theorem fr_zero:fr 0=⟨⟨false,[]⟩,wh 1⟩:=by
 have e1:(0:Rat).num=0:=rfl
 have e2:(((0:Rat).den:Nat):Int)=1:=rfl
 rw [fr,e1,e2,wh_zero]
theorem gcd_facts {n d:Int} {a:Nat} (hd: ¬d < 1) (ha:a=Nat.gcd n.natAbs d.natAbs):0 < a∧(a:Int)≤d∧n.tdiv a=n / (a:Int)∧d.tdiv a=d / (a:Int)∧fr (Rat.divInt n d)=⟨wh (n / (a:Int)),wh (d / (a:Int))⟩∧(n / (a:Int)).natAbs≤n.natAbs∧(d / (a:Int)).natAbs≤d.natAbs∧(n≤0→n / (a:Int)≤0)∧(0≤n→0≤n / (a:Int))∧0≤d / (a:Int):=by
 have h0:0 < a:=by rw [ha];exact Nat.gcd_pos_of_pos_right _ (by omega)
 have h1:a≤d.natAbs:=by rw [ha];exact Nat.le_of_dvd (by omega) (Nat.gcd_dvd_right _ _)
 have h2:(a:Int) ∣ n:=Int.dvd_natAbs.1 (Int.natCast_dvd_natCast.2 (ha▸Nat.gcd_dvd_left _ _))
 have h3:(a:Int) ∣ d:=Int.dvd_natAbs.1 (Int.natCast_dvd_natCast.2 (ha▸Nat.gcd_dvd_right _ _))
 refine ⟨h0,by omega,Int.tdiv_eq_ediv_of_dvd h2,Int.tdiv_eq_ediv_of_dvd h3,?_,Int.natAbs_ediv_le_natAbs _ _,Int.natAbs_ediv_le_natAbs _ _,fun h=> ?_,fun h=>Int.ediv_nonneg h (by omega),Int.ediv_nonneg (by omega) (by omega)⟩
 ·have h4:=xt7 (n:=n) (d:=d) (by omega)
  have h5:(Int.gcd n d)=a:=by rw [ha];rfl
  rw [h5] at h4;exact h4
 ·have:=Int.ediv_le_ediv (show 0 < (a:Int) by omega) h
  simpa using this
theorem c_KFrac (n d:Int) (h1: -9223372036854775808≤n) (h2:n≤9223372036854775807) (h3: -9223372036854775808≤d) (h4:d≤9223372036854775807):
  Ct Tryz.prog 27 [tI n,tI d] (tFr (fr (kfr n d))):=by
 refine Ct.intro Tryz.func27 rfl Tryz.ntmps27 rfl ?_
 intro w F
 refine A2 ?_
 refine RE (x5 (k:=4) (n:=4) (agg:=true) zr33.1 zr33.2 rfl) trivial trivial ⟨rfl,trivial⟩ ?_
 refine A8 ?_
 refine RGcaseD (t:=9) rfl (fun h22=> ?_) (fun h22=> ?_)
 ·
  have hK:=kfr_small (n:=n) (d:=d) (.inl h22)
  refine A8 ?_
  refine R1 (x3 (c_KWhole 1 (by decide) (by decide)) fi50 rfl) rfl (R1 (xa7 (r:=tS [⟨2,true,(tS [⟨1,false,(tE (.bool false))⟩,⟨1,false,(tLm [])⟩])⟩,⟨2,true,tWh (wh 1)⟩]) (ts:=[(1,tWh (wh 1))]) bu33 zr33.2 (Bc 1 rfl rfl rfl Le.refl)) rfl ?_)
  refine A5 ?_
  exact xc1 Plain.mk' rfl ⟨_,_,_,_,_,rfl,rfl,ti33,(Le.of (by rw [hK,fr_zero]))⟩
 ·
  have hd: ¬d < 1:=h22
  refine A5 ?_
  refine x9 rfl (fun h22_2=> ?_) (fun h22_2=> ?_)
  ·
   have hK:=kfr_small (n:=n) (d:=d) (.inr h22_2)
   refine A2 ?_
   refine R1 (x3 (c_KWhole 1 (by decide) (by decide)) fi50 rfl) rfl (R1 (xa7 (r:=tS [⟨2,true,(tS [⟨1,false,(tE (.bool false))⟩,⟨1,false,(tLm [])⟩])⟩,⟨2,true,tWh (wh 1)⟩]) (ts:=[(1,tWh (wh 1))]) bu33 zr33.2 (Bc 1 rfl rfl rfl Le.refl)) rfl ?_)
   refine A5 ?_
   exact xc1 Plain.mk' rfl ⟨_,_,_,_,_,rfl,rfl,ti33,(Le.of (by rw [hK,fr_zero]))⟩
  ·
   refine A5 ?_
   refine R1 (x7 Tryz.underlying82 (isS Tryz.underlying3) toU64) rfl ?_
   refine A1 ?_
   refine R1 (x7 (r:=((d.natAbs:Nat):Int)) Tryz.underlying82 (isS Tryz.underlying3) (by rw [mu64];omega)) rfl ?_
   refine A4 ?_
   refine xg0 (fun (v:Nat)=>v=n.natAbs) (fun (v:Nat)=>upd (upd (upd (upd (upd (fun _=>none) 0 (some (.val (tI n)))) 1 (some (.val (tI d)))) 4 (some (.own (.ptr 4 0)))) 5 (some (.val (tE (.int .u64 ((v:Nat):Int)))))) 6 (some (.val (tE (.int .u64 ((d.natAbs:Nat):Int)))))) (fun (v:Nat)=>upd (fun _=>none) 4 (some (⟨33,4,true,[.val (tFr fr0)]⟩))) (nm [4]) ?_ ?_
   ·
    refine A6 ?_
    refine x9 rfl (fun h26=> ?_) (fun h26=> ?_)
    ·
     refine A2 ?_
     refine R1 (d_neg (negU64 (by omega))) rfl ?_
     refine A2 ?_
     exact kF ((18446744073709551616 - (n%18446744073709551616).toNat)%18446744073709551616) (by omega) (hh:=((SubK.consI rfl ImpK.refl) SubK.nil))
    ·
     refine A1 ?_
     exact kF ((n%18446744073709551616).toNat) (by omega) (hh:=((SubK.consI rfl ImpK.refl) SubK.nil))
   ·
    intro v hv
    refine A2 ?_
    refine cL (fun (fm:(Nat)×(Nat))=>(fun (a:Nat) (b:Nat)=>Nat.gcd a b=Nat.gcd v d.natAbs∧a < 18446744073709551616∧b < 18446744073709551616) fm.1 fm.2) (fun (fm:(Nat)×(Nat))=>(fun (a:Nat) (b:Nat)=>upd (upd (upd (upd (upd (fun _=>none) 0 (some (.val (tI n)))) 1 (some (.val (tI d)))) 4 (some (.own (.ptr 4 0)))) 5 (some (.val (tE (.int .u64 ((a:Nat):Int)))))) 6 (some (.val (tE (.int .u64 ((b:Nat):Int)))))) fm.1 fm.2) (fun (fm:(Nat)×(Nat))=>(fun (a:Nat) (b:Nat)=>upd (fun _=>none) 4 (some (⟨33,4,true,[.val (tFr fr0)]⟩))) fm.1 fm.2) [4] (fun (fm:(Nat)×(Nat))=>(fun (a:Nat) (b:Nat)=>b) fm.1 fm.2) ((v,d.natAbs)) (by dsimp only;exact ⟨rfl,by omega,by omega⟩) (hh:=((SubK.consI rfl ImpK.refl) SubK.nil)) ?_
    intro fm hI
    obtain ⟨a,b⟩:=fm
    replace hI:Nat.gcd a b=Nat.gcd v d.natAbs∧a < 18446744073709551616∧b < 18446744073709551616:=hI
    show wc _ _ _ _ (upd (upd (upd (upd (upd (fun _=>none) 0 (some (.val (tI n)))) 1 (some (.val (tI d)))) 4 (some (.own (.ptr 4 0)))) 5 (some (.val (tE (.int .u64 ((a:Nat):Int)))))) 6 (some (.val (tE (.int .u64 ((b:Nat):Int)))))) (upd (fun _=>none) 4 (some (⟨33,4,true,[.val (tFr fr0)]⟩))) _
    obtain ⟨hg,ha64,hb64⟩:=hI
    refine A7 ?_
    refine x9 rfl (fun h29=> ?_) (fun h29=> ?_)
    ·
     refine A7 ?_
     refine R2 (d_rem (r:=((a%b:Nat):Int)) (by omega) wrem64) rfl rfl ?_
     refine A4 ?_
     have hbp:0 < b:=by omega
     have hlt:=Nat.mod_lt a hbp
     exact kF ((b,a%b)) ⟨(by dsimp only;exact ⟨by rw [Nat.gcd_comm b,←Nat.gcd_rec,Nat.gcd_comm];exact hg,hb64,by omega⟩),(by dsimp only;omega)⟩ (hh:=((SubK.consI rfl ImpK.refl) SubK.nil))
    ·
     refine A6 ?_
     have hb0:b=0:=by omega
     subst hb0
     rw [Nat.gcd_zero_right,hv] at hg
     obtain ⟨g1,g2,g3,g4,g5,g6,g7,g8,g9,g10⟩:=gcd_facts (n:=n) hd hg
     refine A3 ?_
     refine R1 (x7 (r:=(a:Int)) Tryz.underlying3 (isS Tryz.underlying82) (wr64 (by omega) (by omega))) rfl (R2 (d_quo (r:=n / (a:Int)) (by omega) (by rw [g3];exact wr64 (by omega) (by omega))) rfl rfl (R1 (x3 (c_KWhole _ (by omega) (by omega)) fi50 rfl) rfl ?_))
     refine A2 ?_
     refine R1 (x7 (r:=(a:Int)) Tryz.underlying3 (isS Tryz.underlying82) (wr64 (by omega) (by omega))) rfl (R2 (d_quo (r:=d / (a:Int)) (by omega) (by rw [g4];exact wr64 (by omega) (by omega))) rfl rfl (R1 (x3 (c_KWhole _ (by omega) (by omega)) fi50 rfl) rfl (R2 (xa7 (r:=tS [⟨2,true,tWh (wh (n / (a:Int)))⟩,⟨2,true,tWh (wh (d / (a:Int)))⟩]) (ts:=[(0,tWh (wh (n / (a:Int)))),(1,tWh (wh (d / (a:Int))))]) bu33 zr33.2 (Bc 0 rfl rfl rfl (Bc 1 rfl rfl rfl Le.refl))) rfl rfl ?_)))
     refine A4 ?_
     exact xc1 Plain.mk' rfl ⟨_,_,_,_,_,rfl,rfl,ti33,(Le.of (by rw [kfr_big hd,g5]))⟩
instance fi27:FnI Tryz.prog 27:=⟨_,Tryz.func27,by kernel_rfl,rfl⟩
instance fi115:FnI Tryz.prog 115:=⟨_,Tryz.func115,by kernel_rfl,rfl⟩
theorem zr35:(Tryz.prog.info? 35).bind (·.zero)=some (.agg #[.int .u8 0,.bool false,.slice none 0 0,.bool false,.slice none 0 0,.int .i64 0])∧ ∀F w,(tS [⟨1,false,(tE (.int .u8 0))⟩,⟨4,true,(tS [⟨2,true,(tS [⟨1,false,(tE (.bool false))⟩,⟨1,false,(tLm [])⟩])⟩,⟨2,true,(tS [⟨1,false,(tE (.bool false))⟩,⟨1,false,(tLm [])⟩])⟩])⟩,⟨1,false,(tE (.int .i64 0))⟩]).p F w (.agg #[.int .u8 0,.bool false,.slice none 0 0,.bool false,.slice none 0 0,.int .i64 0]):=⟨by kernel_rfl,fun _ _=>⟨_,rfl,rfl,⟨fun _=>rfl,rfl⟩,⟨fun h=>Bool.noConfusion h,⟨_,rfl,rfl,⟨fun h=>Bool.noConfusion h,⟨_,rfl,rfl,⟨fun _=>rfl,rfl⟩,⟨fun _=>rfl,⟨none,0,rfl,Nat.le_refl _,by decide,.inl rfl⟩⟩,trivial⟩⟩,⟨fun h=>Bool.noConfusion h,⟨_,rfl,rfl,⟨fun _=>rfl,rfl⟩,⟨fun _=>rfl,⟨none,0,rfl,Nat.le_refl _,by decide,.inl rfl⟩⟩,trivial⟩⟩,trivial⟩⟩,⟨fun _=>rfl,rfl⟩,trivial⟩⟩
theorem bu35:BuI Tryz.prog 35 (fun i=>[(0,1),(1,4),(5,1)][i]?) (.agg #[.int .u8 0,.bool false,.slice none 0 0,.bool false,.slice none 0 0,.int .i64 0]):=BuI.struct Tryz.underlying35 (by kernel_rfl) (by kernel_rfl)
theorem c_Num (n d:Int) (h1: -9223372036854775808≤n) (h2:n≤9223372036854775807) (h3: -9223372036854775808≤d) (h4:d≤9223372036854775807):
  Ct Tryz.prog 13 [tI n,tI d] (tVa ⟨2,fr (kfr n d),0⟩):=by
 refine Ct.intro Tryz.func13 rfl Tryz.ntmps13 rfl ?_
 intro w F
 refine A2 ?_
 refine RE (x5 (k:=4) (n:=6) (agg:=true) zr35.1 zr35.2 rfl) trivial trivial ⟨rfl,trivial⟩ ?_
 refine A6 ?_
 refine R2 (x3 (c_KFrac n d h1 h2 h3 h4) fi27 rfl) rfl rfl (R2 (xa7 (r:=tS [⟨1,false,tE (.int .u8 2)⟩,⟨4,true,tFr (fr (kfr n d))⟩,⟨1,false,(tE (.int .i64 0))⟩]) (ts:=[(0,tE (.int .u8 2)),(1,tFr (fr (kfr n d)))]) bu35 zr35.2 (Bc 0 rfl rfl rfl (Bc 1 rfl rfl rfl Le.refl))) rfl rfl ?_)
 refine A4 ?_
 exact xc1 Plain.mk' rfl ⟨_,_,_,_,_,rfl,rfl,ti35,(Le.of rfl)⟩
theorem c_Cash (n d:Int) (h1: -9223372036854775808≤n) (h2:n≤9223372036854775807) (h3: -9223372036854775808≤d) (h4:d≤9223372036854775807):
  Ct Tryz.prog 10 [tI n,tI d] (tVa ⟨3,fr (kfr n d),0⟩):=by
 refine Ct.intro Tryz.func10 rfl Tryz.ntmps10 rfl ?_
 intro w F
 refine A2 ?_
 refine RE (x5 (k:=4) (n:=6) (agg:=true) zr35.1 zr35.2 rfl) trivial trivial ⟨rfl,trivial⟩ ?_
 refine A6 ?_
 refine R2 (x3 (c_KFrac n d h1 h2 h3 h4) fi27 rfl) rfl rfl (R2 (xa7 (r:=tS [⟨1,false,tE (.int .u8 3)⟩,⟨4,true,tFr (fr (kfr n d))⟩,⟨1,false,(tE (.int .i64 0))⟩]) (ts:=[(0,tE (.int .u8 3)),(1,tFr (fr (kfr n d)))]) bu35 zr35.2 (Bc 0 rfl rfl rfl (Bc 1 rfl rfl rfl Le.refl))) rfl rfl ?_)
 refine A4 ?_
 exact xc1 Plain.mk' rfl ⟨_,_,_,_,_,rfl,rfl,ti35,(Le.of rfl)⟩
theorem c_TSame (x y:Va):
  Ct Tryz.prog 76 [tVa x,tVa y] (tB (decide (x=y))):=by
 refine Ct.intro Tryz.func76 rfl Tryz.ntmps76 rfl ?_
 intro w F
 refine A15 ?_
 refine RGcaseD (t:=10) rfl (fun h34=> ?_) (fun h34=> ?_)
 ·
  refine A7 ?_
  refine RGcaseD (t:=17) rfl (fun h34_2=> ?_) (fun h34_2=> ?_)
  ·
   refine A4 ?_
   refine RGon (decide_eq_true h34_2) rfl (x3 (xp5 _ _) fi115 rfl) rfl ⟨rfl,rfl,trivial⟩ trivial trivial ?_
   refine A5 ?_
   exact x4 Plain.mk' rfl rfl (Le.bool (by obtain ⟨a,b,e⟩:=x;obtain ⟨c,d,f⟩:=y;simp only [Va.mk.injEq] at*;simp_all <;> omega))
  ·
   refine A10 ?_
   exact x4 Plain.mk' rfl rfl (Le.bool (by obtain ⟨a,b,e⟩:=x;obtain ⟨c,d,f⟩:=y;simp only [Va.mk.injEq] at*;simp_all <;> omega))
 ·
  refine A17 ?_
  exact x4 Plain.mk' rfl rfl (Le.bool (by obtain ⟨a,b,e⟩:=x;obtain ⟨c,d,f⟩:=y;simp only [Va.mk.injEq] at*;simp_all <;> omega))
theorem c_isPart (a b:Int):
  Ct Tryz.prog 138 [tI a,tI b] (tB (Sn.ok ⟨a,b⟩)):=by
 refine Ct.intro Tryz.func138 rfl Tryz.ntmps138 rfl ?_
 intro w F
 refine A10 ?_
 refine RGcaseD (t:=7) rfl (fun h56=> ?_) (fun h56=> ?_)
 ·
  refine A5 ?_
  refine RGcaseD (t:=12) rfl (fun h56_2=> ?_) (fun h56_2=> ?_)
  ·
   refine A7 ?_
   exact x4 Plain.mk' rfl rfl (Le.bool (by simp [Sn.ok, *]))
  ·
   refine A7 ?_
   exact x4 Plain.mk' rfl rfl (Le.bool (by simp [Sn.ok, *]))
 ·
  refine A12 ?_
  exact x4 Plain.mk' rfl rfl (Le.bool (by simp [Sn.ok, *]))
theorem upN (v:Va):Up (tVa v) (1+(0+1)) 1 false (tLm v.f.n.l) (tVa v):=
 Up.t (t1:=tFr v.f) (t1':=tFr v.f) (At.g 1 rfl rfl) (Up.f (f:=⟨4,true,tFr v.f⟩) 1 rfl rfl rfl) (Up.t (t1:=tWh v.f.n) (t1':=tWh v.f.n) (At.g 0 rfl rfl) (Up.f (f:=⟨2,true,tWh v.f.n⟩) 0 rfl rfl rfl) (Up.f (f:=⟨1,false,tLm v.f.n.l⟩) 1 rfl rfl rfl))
theorem upD (v:Va):Up (tVa v) (1+(2+1)) 1 false (tLm v.f.d.l) (tVa v):=
 Up.t (t1:=tFr v.f) (t1':=tFr v.f) (At.g 1 rfl rfl) (Up.f (f:=⟨4,true,tFr v.f⟩) 1 rfl rfl rfl) (Up.t (t1:=tWh v.f.d) (t1':=tWh v.f.d) (At.g 1 rfl rfl) (Up.f (f:=⟨2,true,tWh v.f.d⟩) 1 rfl rfl rfl) (Up.f (f:=⟨1,false,tLm v.f.d.l⟩) 1 rfl rfl rfl))
theorem c_copied (v:Va) (h1:v.f.n.l.length≤1000000) (h2:v.f.d.l.length≤1000000):
  Ct Tryz.prog 174 [tVa v] (tVa v):=by
 refine Ct.intro Tryz.func174 rfl Tryz.ntmps174 rfl ?_
 intro w F
 refine A3 ?_
 refine RE (x5 (k:=2) (n:=6) (agg:=true) zr35.1 zr35.2 rfl) trivial trivial ⟨rfl,trivial⟩ ?_
 refine A7 ?_
 refine xj6 (0) ti29 rfl rfl rfl (At.t (At.g 1 rfl rfl) (At.t (At.g 0 rfl rfl) (At.g 1 rfl rfl))) rfl (R1 (x3 (xr7 _ h1) fi148 rfl) rfl ?_)
 refine A3 ?_
 refine RE (xs8 (k:=1) (T0:=35) (es:=6) (ts:=[.val (tVa v)]) (0) ti29 rfl (upN v) rfl rfl) ⟨rfl,rfl,trivial⟩ ⟨rfl,trivial⟩ trivial ?_
 refine A7 ?_
 refine xj6 (0) ti29 rfl rfl rfl (At.t (At.g 1 rfl rfl) (At.t (At.g 1 rfl rfl) (At.g 1 rfl rfl))) rfl (R1 (x3 (xr7 _ h2) fi148 rfl) rfl ?_)
 refine A3 ?_
 refine RE (xs8 (k:=1) (T0:=35) (es:=6) (ts:=[.val (tVa v)]) (0) ti29 rfl (upD v) rfl rfl) ⟨rfl,rfl,trivial⟩ ⟨rfl,trivial⟩ trivial ?_
 refine A9 ?_
 exact xc1 Plain.mk' rfl ⟨_,_,_,_,_,rfl,rfl,ti35,Le.refl⟩
theorem va23 {v:Va} {b:Bool} (h:(v.kind:Int)=2∨(v.kind:Int)=3) (hb:b=(decide (v.i=0) && v.f.valid)):b=v.valid:=by
 rw [Va.valid,if_pos (by omega)];exact hb
theorem va1 {v:Va} {b:Bool} (h:(v.kind:Int)=1) (hb:b=(decide (v.f=fr0) && decide (0≤v.i) && decide (v.i≤1))):b=v.valid:=by
 rw [Va.valid,if_neg (by omega),if_pos (by omega)];exact hb
theorem va4 {v:Va} {b:Bool} (h:(v.kind:Int)=4) (hb:b=(decide (v.f=fr0) && decide (0≤v.i) && decide (v.i < 65536))):b=v.valid:=by
 rw [Va.valid,if_neg (by omega),if_neg (by omega),if_pos (by omega)];exact hb
theorem va56 {v:Va} {b:Bool} (h:(v.kind:Int)=5∨(v.kind:Int)=6) (hb:b=(decide (v.f=fr0) && decide (-1048576≤v.i) && decide (v.i≤1048576))):b=v.valid:=by
 rw [Va.valid,if_neg (by omega),if_neg (by omega),if_neg (by omega),if_pos (by omega)];exact hb
theorem va0 {v:Va} (h1: ¬((v.kind:Int)=2∨(v.kind:Int)=3)) (h2: ¬(v.kind:Int)=1) (h3: ¬(v.kind:Int)=4) (h4: ¬((v.kind:Int)=5∨(v.kind:Int)=6)):false=v.valid:=by
 rw [Va.valid,if_neg (by omega),if_neg (by omega),if_neg (by omega),if_neg (by omega)]
theorem c_TValid (v:Va) (hD:v.f.dig):
  Ct Tryz.prog 79 [tVa v] (tB v.valid):=by
 refine Ct.intro Tryz.func79 rfl Tryz.ntmps79 rfl ?_
 intro w F
 refine A18 ?_
 refine A3 ?_
 refine x9 rfl (fun h20=> ?_) (fun h20=> ?_)
 ·
  refine A2 ?_
  refine x9 rfl (fun h20_2=> ?_) (fun h20_2=> ?_)
  ·
   refine A6 ?_
   refine RGcaseD (t:=11) rfl (fun h21=> ?_) (fun h21=> ?_)
   ·
    refine A2 ?_
    refine RGon (decide_eq_true h21) rfl (x3 (c_FValid _ hD.1 hD.2) fi117 rfl) rfl ⟨rfl,trivial⟩ trivial trivial ?_
    refine A7 ?_
    exact x4 Plain.mk' rfl rfl (Le.bool (va23 (by omega) (by first | (simp [*];done) | simp [*])))
   ·
    refine A10 ?_
    exact x4 Plain.mk' rfl rfl (Le.bool (va23 (by omega) (by first | (simp [*];done) | simp [*])))
  ·
   refine A6 ?_
   refine x9 rfl (fun h22=> ?_) (fun h22=> ?_)
   ·
    refine A4 ?_
    refine R0 (xa7 (r:=tS [⟨2,true,(tS [⟨1,false,(tE (.bool false))⟩,⟨1,false,(tLm [])⟩])⟩,⟨2,true,(tS [⟨1,false,(tE (.bool false))⟩,⟨1,false,(tLm [])⟩])⟩]) (ts:=[]) bu33 zr33.2 Le.refl) (R2 (x3 (xp5 _ fr0) fi115 rfl) rfl rfl ?_)
    refine A1 ?_
    refine RGcaseD (t:=22) rfl (fun h23=> ?_) (fun h23=> ?_)
    ·
     refine A5 ?_
     refine RGcaseD (t:=27) rfl (fun h23_2=> ?_) (fun h23_2=> ?_)
     ·
      refine A10 ?_
      exact x4 Plain.mk' rfl rfl (Le.bool (va1 (by omega) (by simp [*])))
     ·
      refine A10 ?_
      exact x4 Plain.mk' rfl rfl (Le.bool (va1 (by omega) (by simp [*])))
    ·
     refine A15 ?_
     exact x4 Plain.mk' rfl rfl (Le.bool (va1 (by omega) (by simp [*])))
   ·
    refine A6 ?_
    refine x9 rfl (fun h24=> ?_) (fun h24=> ?_)
    ·
     refine A4 ?_
     refine R0 (xa7 (r:=tS [⟨2,true,(tS [⟨1,false,(tE (.bool false))⟩,⟨1,false,(tLm [])⟩])⟩,⟨2,true,(tS [⟨1,false,(tE (.bool false))⟩,⟨1,false,(tLm [])⟩])⟩]) (ts:=[]) bu33 zr33.2 Le.refl) (R2 (x3 (xp5 _ fr0) fi115 rfl) rfl rfl ?_)
     refine A1 ?_
     refine RGcaseD (t:=38) rfl (fun h25=> ?_) (fun h25=> ?_)
     ·
      refine A5 ?_
      refine RGcaseD (t:=43) rfl (fun h25_2=> ?_) (fun h25_2=> ?_)
      ·
       refine A10 ?_
       exact x4 Plain.mk' rfl rfl (Le.bool (va4 (by omega) (by simp [*])))
      ·
       refine A10 ?_
       exact x4 Plain.mk' rfl rfl (Le.bool (va4 (by omega) (by simp [*])))
     ·
      refine A15 ?_
      exact x4 Plain.mk' rfl rfl (Le.bool (va4 (by omega) (by simp [*])))
    ·
     refine A7 ?_
     refine x9 rfl (fun h26=> ?_) (fun h26=> ?_)
     ·
      refine A2 ?_
      refine x9 rfl (fun h26_2=> ?_) (fun h26_2=> ?_)
      ·
       refine A4 ?_
       refine R0 (xa7 (r:=tS [⟨2,true,(tS [⟨1,false,(tE (.bool false))⟩,⟨1,false,(tLm [])⟩])⟩,⟨2,true,(tS [⟨1,false,(tE (.bool false))⟩,⟨1,false,(tLm [])⟩])⟩]) (ts:=[]) bu33 zr33.2 Le.refl) (R2 (x3 (xp5 _ fr0) fi115 rfl) rfl rfl ?_)
       refine A1 ?_
       refine RGcaseD (t:=55) rfl (fun h27=> ?_) (fun h27=> ?_)
       ·
        refine A5 ?_
        refine RGcaseD (t:=60) rfl (fun h27_2=> ?_) (fun h27_2=> ?_)
        ·
         refine A10 ?_
         exact x4 Plain.mk' rfl rfl (Le.bool (va56 (by omega) (by simp [*])))
        ·
         refine A10 ?_
         exact x4 Plain.mk' rfl rfl (Le.bool (va56 (by omega) (by simp [*])))
       ·
        refine A15 ?_
        exact x4 Plain.mk' rfl rfl (Le.bool (va56 (by omega) (by simp [*])))
      ·
       refine A9 ?_
       exact x4 Plain.mk' rfl rfl (Le.bool (va0 (by omega) (by omega) (by omega) (by omega)))
     ·
      refine A5 ?_
      refine x9 rfl (fun h26_2=> ?_) (fun h26_2=> ?_)
      ·
       refine A4 ?_
       refine R0 (xa7 (r:=tS [⟨2,true,(tS [⟨1,false,(tE (.bool false))⟩,⟨1,false,(tLm [])⟩])⟩,⟨2,true,(tS [⟨1,false,(tE (.bool false))⟩,⟨1,false,(tLm [])⟩])⟩]) (ts:=[]) bu33 zr33.2 Le.refl) (R2 (x3 (xp5 _ fr0) fi115 rfl) rfl rfl ?_)
       refine A1 ?_
       refine RGcaseD (t:=55) rfl (fun h27=> ?_) (fun h27=> ?_)
       ·
        refine A5 ?_
        refine RGcaseD (t:=60) rfl (fun h27_2=> ?_) (fun h27_2=> ?_)
        ·
         refine A10 ?_
         exact x4 Plain.mk' rfl rfl (Le.bool (va56 (by omega) (by simp [*])))
        ·
         refine A10 ?_
         exact x4 Plain.mk' rfl rfl (Le.bool (va56 (by omega) (by simp [*])))
       ·
        refine A15 ?_
        exact x4 Plain.mk' rfl rfl (Le.bool (va56 (by omega) (by simp [*])))
      ·
       refine A9 ?_
       exact x4 Plain.mk' rfl rfl (Le.bool (va0 (by omega) (by omega) (by omega) (by omega)))
 ·
  refine A5 ?_
  refine x9 rfl (fun h20_2=> ?_) (fun h20_2=> ?_)
  ·
   refine A6 ?_
   refine RGcaseD (t:=11) rfl (fun h21=> ?_) (fun h21=> ?_)
   ·
    refine A2 ?_
    refine RGon (decide_eq_true h21) rfl (x3 (c_FValid _ hD.1 hD.2) fi117 rfl) rfl ⟨rfl,trivial⟩ trivial trivial ?_
    refine A7 ?_
    exact x4 Plain.mk' rfl rfl (Le.bool (va23 (by omega) (by first | (simp [*];done) | simp [*])))
   ·
    refine A10 ?_
    exact x4 Plain.mk' rfl rfl (Le.bool (va23 (by omega) (by first | (simp [*];done) | simp [*])))
  ·
   refine A6 ?_
   refine x9 rfl (fun h22=> ?_) (fun h22=> ?_)
   ·
    refine A4 ?_
    refine R0 (xa7 (r:=tS [⟨2,true,(tS [⟨1,false,(tE (.bool false))⟩,⟨1,false,(tLm [])⟩])⟩,⟨2,true,(tS [⟨1,false,(tE (.bool false))⟩,⟨1,false,(tLm [])⟩])⟩]) (ts:=[]) bu33 zr33.2 Le.refl) (R2 (x3 (xp5 _ fr0) fi115 rfl) rfl rfl ?_)
    refine A1 ?_
    refine RGcaseD (t:=22) rfl (fun h23=> ?_) (fun h23=> ?_)
    ·
     refine A5 ?_
     refine RGcaseD (t:=27) rfl (fun h23_2=> ?_) (fun h23_2=> ?_)
     ·
      refine A10 ?_
      exact x4 Plain.mk' rfl rfl (Le.bool (va1 (by omega) (by simp [*])))
     ·
      refine A10 ?_
      exact x4 Plain.mk' rfl rfl (Le.bool (va1 (by omega) (by simp [*])))
    ·
     refine A15 ?_
     exact x4 Plain.mk' rfl rfl (Le.bool (va1 (by omega) (by simp [*])))
   ·
    refine A6 ?_
    refine x9 rfl (fun h24=> ?_) (fun h24=> ?_)
    ·
     refine A4 ?_
     refine R0 (xa7 (r:=tS [⟨2,true,(tS [⟨1,false,(tE (.bool false))⟩,⟨1,false,(tLm [])⟩])⟩,⟨2,true,(tS [⟨1,false,(tE (.bool false))⟩,⟨1,false,(tLm [])⟩])⟩]) (ts:=[]) bu33 zr33.2 Le.refl) (R2 (x3 (xp5 _ fr0) fi115 rfl) rfl rfl ?_)
     refine A1 ?_
     refine RGcaseD (t:=38) rfl (fun h25=> ?_) (fun h25=> ?_)
     ·
      refine A5 ?_
      refine RGcaseD (t:=43) rfl (fun h25_2=> ?_) (fun h25_2=> ?_)
      ·
       refine A10 ?_
       exact x4 Plain.mk' rfl rfl (Le.bool (va4 (by omega) (by simp [*])))
      ·
       refine A10 ?_
       exact x4 Plain.mk' rfl rfl (Le.bool (va4 (by omega) (by simp [*])))
     ·
      refine A15 ?_
      exact x4 Plain.mk' rfl rfl (Le.bool (va4 (by omega) (by simp [*])))
    ·
     refine A7 ?_
     refine x9 rfl (fun h26=> ?_) (fun h26=> ?_)
     ·
      refine A2 ?_
      refine x9 rfl (fun h26_2=> ?_) (fun h26_2=> ?_)
      ·
       refine A4 ?_
       refine R0 (xa7 (r:=tS [⟨2,true,(tS [⟨1,false,(tE (.bool false))⟩,⟨1,false,(tLm [])⟩])⟩,⟨2,true,(tS [⟨1,false,(tE (.bool false))⟩,⟨1,false,(tLm [])⟩])⟩]) (ts:=[]) bu33 zr33.2 Le.refl) (R2 (x3 (xp5 _ fr0) fi115 rfl) rfl rfl ?_)
       refine A1 ?_
       refine RGcaseD (t:=55) rfl (fun h27=> ?_) (fun h27=> ?_)
       ·
        refine A5 ?_
        refine RGcaseD (t:=60) rfl (fun h27_2=> ?_) (fun h27_2=> ?_)
        ·
         refine A10 ?_
         exact x4 Plain.mk' rfl rfl (Le.bool (va56 (by omega) (by simp [*])))
        ·
         refine A10 ?_
         exact x4 Plain.mk' rfl rfl (Le.bool (va56 (by omega) (by simp [*])))
       ·
        refine A15 ?_
        exact x4 Plain.mk' rfl rfl (Le.bool (va56 (by omega) (by simp [*])))
      ·
       refine A9 ?_
       exact x4 Plain.mk' rfl rfl (Le.bool (va0 (by omega) (by omega) (by omega) (by omega)))
     ·
      refine A5 ?_
      refine x9 rfl (fun h26_2=> ?_) (fun h26_2=> ?_)
      ·
       refine A4 ?_
       refine R0 (xa7 (r:=tS [⟨2,true,(tS [⟨1,false,(tE (.bool false))⟩,⟨1,false,(tLm [])⟩])⟩,⟨2,true,(tS [⟨1,false,(tE (.bool false))⟩,⟨1,false,(tLm [])⟩])⟩]) (ts:=[]) bu33 zr33.2 Le.refl) (R2 (x3 (xp5 _ fr0) fi115 rfl) rfl rfl ?_)
       refine A1 ?_
       refine RGcaseD (t:=55) rfl (fun h27=> ?_) (fun h27=> ?_)
       ·
        refine A5 ?_
        refine RGcaseD (t:=60) rfl (fun h27_2=> ?_) (fun h27_2=> ?_)
        ·
         refine A10 ?_
         exact x4 Plain.mk' rfl rfl (Le.bool (va56 (by omega) (by simp [*])))
        ·
         refine A10 ?_
         exact x4 Plain.mk' rfl rfl (Le.bool (va56 (by omega) (by simp [*])))
       ·
        refine A15 ?_
        exact x4 Plain.mk' rfl rfl (Le.bool (va56 (by omega) (by simp [*])))
      ·
       refine A9 ?_
       exact x4 Plain.mk' rfl rfl (Le.bool (va0 (by omega) (by omega) (by omega) (by omega)))
end An.S
namespace An
open Go
theorem ranges_stop {n i:Nat} {f:Nat→Bool} (hi:i < n) (h:f i=false):(List.range n).all f=false:=by
 rw [List.all_eq_false]
 exact ⟨i,List.mem_range.2 hi,by simp [h]⟩
theorem xv6 {i:Nat} {f:Nat→Bool}:(List.range (i+1)).all f=((List.range i).all f && f i):=by
 rw [List.range_succ,List.all_append];simp
theorem xt2 {l:List Tst} {i:Nat}:tOk l i=true↔0≤(l.getD i tst0).lo∧(l.getD i tst0).lo < (l.getD i tst0).hi∧(l.getD i tst0).hi≤65536∧(i=0∨(l.getD (i - 1) tst0).hi≤(l.getD i tst0).lo∧(l.getD (i - 1) tst0).v.kind=(l.getD i tst0).v.kind∧ ¬((l.getD (i - 1) tst0).hi=(l.getD i tst0).lo∧(l.getD (i - 1) tst0).v=(l.getD i tst0).v)):=by
 simp only [tOk,Bool.and_eq_true,Bool.or_eq_true,Bool.not_eq_true',Bool.and_eq_false_iff,decide_eq_true_eq,decide_eq_false_iff_not,and_assoc,Decidable.not_and_iff_not_or_not]
theorem xp0 {l:List Tst} {i:Nat} (hi:i < l.length) (h: ¬(0≤(l.getD i tst0).lo∧(l.getD i tst0).lo < (l.getD i tst0).hi∧(l.getD i tst0).hi≤65536∧(i=0∨(l.getD (i - 1) tst0).hi≤(l.getD i tst0).lo∧(l.getD (i - 1) tst0).v.kind=(l.getD i tst0).v.kind∧ ¬((l.getD (i - 1) tst0).hi=(l.getD i tst0).lo∧(l.getD (i - 1) tst0).v=(l.getD i tst0).v)))):false=tRight l:=by
 rw [tRight,ranges_stop hi (Bool.eq_false_iff.2 fun h'=>h (xt2.1 h'))];rfl
def ixF (p:Tst→Bool) (l:List Tst):Int:=if l.any p then ((l.takeWhile fun s=> !p s).length:Int) else -1
theorem ixF_at {p:Tst→Bool}: ∀{l:List Tst} {i:Nat},i < l.length→(l.take i).any p=false→p (l.getD i tst0)=true→(i:Int)=ixF p l
 | [],i,hi,_,_=>by simp at hi
 | x::xs,0,_,_,h=>by
  have h:p x=true:=h
  simp [ixF,h]
 | x::xs,i+1,hi,ha,h=>by
  simp only [List.take_succ_cons,List.any_cons,Bool.or_eq_false_iff] at ha
  have h2:p (xs.getD i tst0)=true:=by simpa using h
  have hi2:i < xs.length:=by simpa using hi
  have ih:=ixF_at hi2 ha.2 h2
  have hany:xs.any p=true:=List.any_eq_true.2 ⟨xs.getD i tst0,by rw [List.getD_eq_getElem?_getD,List.getElem?_eq_getElem hi2];exact List.getElem_mem hi2,h2⟩
  rw [ixF,if_pos hany] at ih
  simp only [ixF,List.any_cons,ha.1,hany,Bool.or_true,if_true,Bool.not_false,List.takeWhile_cons,List.length_cons]
  omega
theorem ixF_end {p:Tst→Bool} {l:List Tst} (h:l.any p=false): -1=ixF p l:=by simp [ixF,h]
theorem ixF_any {p:Tst→Bool} {l:List Tst}:decide (ixF p l≥0)=l.any p:=by
 rw [ixF]
 cases l.any p with
 | true=>simp
 | false=>simp
theorem any_next {p:Tst→Bool} {l:List Tst} {i:Nat} (hi:i < l.length):(l.take (i+1)).any p=((l.take i).any p || p (l.getD i tst0)):=by
 rw [List.take_succ_eq_append_getElem hi,List.any_append,List.getD_eq_getElem?_getD,List.getElem?_eq_getElem hi];simp
theorem all_any {l:List Tst}:(!l.any fun s=> !s.v.valid)=l.all fun s=>s.v.valid:=by
 rw [List.not_any_eq_all_not];simp
theorem xb9 {l:List Tst} {i:Nat} (hi:i < l.length):l.getD i tst0∈l:=by
 rw [List.getD_eq_getElem?_getD,List.getElem?_eq_getElem hi];exact List.getElem_mem hi
theorem xv4 {l:List Tst} (h:tRight l=true): ∀s∈l,s.v.valid=true:=by
 simp only [tRight,Bool.and_eq_true,List.all_eq_true] at h;exact h.2
theorem va_len {v:Va} (h:v.valid=true):v.f.n.l.length≤256∧v.f.d.l.length≤256:=by
 have z:fr0.n.l.length≤256∧fr0.d.l.length≤256:=by decide
 rw [Va.valid] at h
 split at h
 ·simp only [Bool.and_eq_true,Fr.valid,Fr.sh,decide_eq_true_eq] at h
  exact h.2.1.1.1.1
 ·split at h
  ·simp only [Bool.and_eq_true,decide_eq_true_eq] at h;rw [h.1.1];exact z
  ·split at h
   ·simp only [Bool.and_eq_true,decide_eq_true_eq] at h;rw [h.1.1];exact z
   ·split at h
    ·simp only [Bool.and_eq_true,decide_eq_true_eq] at h;rw [h.1.1];exact z
    ·cases h
def pst1 (acc:List Tst) (s:Tst):List Tst:=
 if s.hi≤s.lo then acc
 else if 0 < acc.length∧(acc.getD (acc.length - 1) tst0).hi=s.lo∧(acc.getD (acc.length - 1) tst0).v=s.v then acc.set (acc.length - 1) ⟨(acc.getD (acc.length - 1) tst0).lo,s.hi,(acc.getD (acc.length - 1) tst0).v⟩
 else acc++[s]
def pst (acc ps:List Tst):List Tst:=ps.foldl pst1 acc
def clip (a b:Int) (s:Tst):Tst:=⟨max s.lo a,min s.hi b,s.v⟩
def cutT (l:List Tst) (a b:Int):List Tst:=pst [] (l.map (clip a b))
theorem pst1_len (acc:List Tst) (s:Tst):(pst1 acc s).length≤acc.length+1:=by
 rw [pst1];split
 ·omega
 ·split
  ·simp
  ·simp
theorem pst_len: ∀(ps acc:List Tst),(pst acc ps).length≤acc.length+ps.length
 | [],acc=>by simp [pst]
 | s::r,acc=>by
  have h1:=pst_len r (pst1 acc s)
  have h2:=pst1_len acc s
  simp only [pst,List.foldl_cons,List.length_cons] at*
  omega
theorem xs0 {l:List Tst} {i:Nat} (acc:List Tst) (hi:i < l.length):pst acc (l.take (i+1))=pst1 (pst acc (l.take i)) (l.getD i tst0):=by
 rw [List.take_succ_eq_append_getElem hi,pst,List.foldl_append,List.getD_eq_getElem?_getD,List.getElem?_eq_getElem hi];rfl
end An
namespace An.S
open Go Go.Proofs An
instance ti37:TyI Tryz.prog 37 8 true:=⟨by kernel_rfl,by kernel_rfl⟩
instance sl22:SlI Tryz.prog 22 37 8 true:=⟨Tryz.underlying22,ti37⟩
instance fo37_0:FoI Tryz.prog 37 0 0:=⟨by kernel_rfl⟩
instance fo37_1:FoI Tryz.prog 37 1 1:=⟨by kernel_rfl⟩
instance fo37_2:FoI Tryz.prog 37 2 2:=⟨by kernel_rfl⟩
instance fi76:FnI Tryz.prog 76:=⟨_,Tryz.func76,by kernel_rfl,rfl⟩
instance fi77:FnI Tryz.prog 77:=⟨_,Tryz.func77,by kernel_rfl,rfl⟩
instance fi78:FnI Tryz.prog 78:=⟨_,Tryz.func78,by kernel_rfl,rfl⟩
instance fi79:FnI Tryz.prog 79:=⟨_,Tryz.func79,by kernel_rfl,rfl⟩
instance fi116:FnI Tryz.prog 116:=⟨_,Tryz.func116,by kernel_rfl,rfl⟩
theorem zr37:(Tryz.prog.info? 37).bind (·.zero)=some (.agg #[.int .i64 0,.int .i64 0,.int .u8 0,.bool false,.slice none 0 0,.bool false,.slice none 0 0,.int .i64 0])∧ ∀F w,(tS [⟨1,false,(tE (.int .i64 0))⟩,⟨1,false,(tE (.int .i64 0))⟩,⟨6,true,(tS [⟨1,false,(tE (.int .u8 0))⟩,⟨4,true,(tS [⟨2,true,(tS [⟨1,false,(tE (.bool false))⟩,⟨1,false,(tLm [])⟩])⟩,⟨2,true,(tS [⟨1,false,(tE (.bool false))⟩,⟨1,false,(tLm [])⟩])⟩])⟩,⟨1,false,(tE (.int .i64 0))⟩])⟩]).p F w (.agg #[.int .i64 0,.int .i64 0,.int .u8 0,.bool false,.slice none 0 0,.bool false,.slice none 0 0,.int .i64 0]):=⟨by kernel_rfl,fun _ _=>⟨_,rfl,rfl,⟨fun _=>rfl,rfl⟩,⟨fun _=>rfl,rfl⟩,⟨fun h=>Bool.noConfusion h,⟨_,rfl,rfl,⟨fun _=>rfl,rfl⟩,⟨fun h=>Bool.noConfusion h,⟨_,rfl,rfl,⟨fun h=>Bool.noConfusion h,⟨_,rfl,rfl,⟨fun _=>rfl,rfl⟩,⟨fun _=>rfl,⟨none,0,rfl,Nat.le_refl _,by decide,.inl rfl⟩⟩,trivial⟩⟩,⟨fun h=>Bool.noConfusion h,⟨_,rfl,rfl,⟨fun _=>rfl,rfl⟩,⟨fun _=>rfl,⟨none,0,rfl,Nat.le_refl _,by decide,.inl rfl⟩⟩,trivial⟩⟩,trivial⟩⟩,⟨fun _=>rfl,rfl⟩,trivial⟩⟩,trivial⟩⟩
instance un22:UnI Tryz.prog 22 (.slice 37):=⟨Tryz.underlying22⟩
theorem c_TRight1 (s:Tst) (hD:s.v.f.dig):
  Ct Tryz.prog 78 [tTs s] (tB (!s.v.valid)):=by
 refine Ct.intro Tryz.func78 rfl Tryz.ntmps78 rfl ?_
 intro w F
 refine A10 ?_
 refine R1 (x3 (c_TValid s.v hD) fi79 rfl) rfl ?_
 refine A5 ?_
 exact x4 Plain.mk' rfl rfl Le.refl
theorem c_TIndex (l:List Tst) (hD: ∀s∈l,s.v.f.dig):
  Ct Tryz.prog 116 [tL 8 true tTs l,tE (.func (.func 78) #[] #[])] (tI (ixF (fun s:Tst=> !s.v.valid) l)):=by
 refine Ct.intro Tryz.func116 rfl Tryz.ntmps116 rfl ?_
 intro w F
 refine xk1 (s:=0) rfl (fun hl0=> ?_)
 refine A14 ?_
 refine cL (fun (i:Nat)=>i≤l.length∧(l.take i).any (fun s:Tst=> !s.v.valid)=false) (fun (i:Nat)=>upd (upd (upd (upd (fun _=>none) 0 (some (.val (tL 8 true tTs l)))) 1 (some (.val (tE (.func (.func 78) #[] #[]))))) 7 (some (.val (tI l.length)))) 8 (some (.val (tI i)))) (fun (i:Nat)=>fun _=>none) [] (fun (i:Nat)=>l.length - i) (0) ⟨Nat.zero_le _,rfl⟩ ?_
 intro i hI
 obtain ⟨hi,ha⟩:=hI
 refine A6 ?_
 refine x9 rfl (fun h108=> ?_) (fun h108=> ?_)
 ·
  refine A15 ?_
  refine R2 (x6 sl22 (i) (by omega) (gD (l:=l) (n:=i) (d:=tst0) (by omega))) rfl rfl ?_
  refine A1 ?_
  refine R2 (d_callF (c_TRight1 (l.getD i tst0) (hD _ (xb9 (by omega)))) fi78 rfl) rfl rfl ?_
  refine A2 ?_
  refine xc0 rfl (fun h109=> ?_) (fun h109=> ?_)
  ·
   refine A12 ?_
   exact x4 Plain.mk' rfl rfl (Le.int (ixF_at (by omega) ha h109))
  ·
   refine A7 ?_
   exact kF (i+1) ⟨⟨by omega,by rw [any_next (by omega),ha,h109];rfl⟩,(by omega)⟩
 ·
  refine A11 ?_
  exact x4 Plain.mk' rfl rfl (Le.int (ixF_end (by rw [←ha,show i=l.length by omega,List.take_length])))
theorem c_TContains (l:List Tst) (hD: ∀s∈l,s.v.f.dig):
  Ct Tryz.prog 77 [tL 8 true tTs l,tE (.func (.func 78) #[] #[])] (tB (l.any (fun s:Tst=> !s.v.valid))):=by
 refine Ct.intro Tryz.func77 rfl Tryz.ntmps77 rfl ?_
 intro w F
 refine A9 ?_
 refine R2 (x3 (c_TIndex l hD) fi116 rfl) rfl rfl ?_
 refine A5 ?_
 exact x4 Plain.mk' rfl rfl (Le.bool ixF_any)
theorem c_TRight (l:List Tst) (hD: ∀s∈l,s.v.f.dig):
  Ct Tryz.prog 51 [tL 8 true tTs l] (tB (tRight l)):=by
 refine Ct.intro Tryz.func51 rfl Tryz.ntmps51 rfl ?_
 intro w F
 refine xk1 (s:=0) rfl (fun hl0=> ?_)
 refine A14 ?_
 refine cL (fun (i:Nat)=>i≤l.length∧(List.range i).all (tOk l)=true) (fun (i:Nat)=>upd (upd (upd (upd (fun _=>none) 0 (some (.val (tL 8 true tTs l)))) 6 (some (.val (tL 8 true tTs l)))) 7 (some (.val (tI l.length)))) 8 (some (.val (tI i)))) (fun (i:Nat)=>fun _=>none) [] (fun (i:Nat)=>l.length - i) (0) ⟨Nat.zero_le _,rfl⟩ ?_
 intro i hI
 obtain ⟨hi,ha⟩:=hI
 refine A6 ?_
 refine x9 rfl (fun h39=> ?_) (fun h39=> ?_)
 ·
  refine A7 ?_
  refine R2 (x6 sl22 (i) (by omega) (gD (l:=l) (n:=i) (d:=tst0) (by omega))) rfl rfl ?_
  refine A1 ?_
  refine RE (x5 (k:=4) (n:=8) (agg:=true) zr37.1 zr37.2 rfl) trivial trivial ⟨rfl,trivial⟩ ?_
  refine A11 ?_
  refine RGcaseD (t:=16) rfl (fun h40=> ?_) (fun h40=> ?_)
  ·
   refine A18 ?_
   refine A8 ?_
   exact x4 Plain.mk' rfl rfl (Le.bool (xp0 (i:=i) (by omega) (by omega)))
  ·
   refine A7 ?_
   refine RGcaseD (t:=23) rfl (fun h40_2=> ?_) (fun h40_2=> ?_)
   ·
    refine A18 ?_
    refine A1 ?_
    exact x4 Plain.mk' rfl rfl (Le.bool (xp0 (i:=i) (by omega) (by omega)))
   ·
    refine A6 ?_
    refine x9 rfl (fun h40_3=> ?_) (fun h40_3=> ?_)
    ·
     refine A12 ?_
     exact x4 Plain.mk' rfl rfl (Le.bool (xp0 (i:=i) (by omega) (by omega)))
    ·
     refine A9 ?_
     refine x9 rfl (fun h43=> ?_) (fun h43=> ?_)
     ·
      refine A8 ?_
      have hok:tOk l i=true:=xt2.2 ⟨by omega,by omega,by omega,.inl (by omega)⟩
      exact kF (i+1) ⟨⟨by omega,by rw [xv6,ha,Bool.true_and];exact hok⟩,(by omega)⟩
     ·
      refine A7 ?_
      refine R2 (x6 sl22 (i - 1) (by omega) (gD (l:=l) (n:=i - 1) (d:=tst0) (by omega))) rfl rfl ?_
      refine A1 ?_
      refine RE (x5 (k:=5) (n:=8) (agg:=true) zr37.1 zr37.2 rfl) trivial trivial ⟨rfl,trivial⟩ ?_
      refine A11 ?_
      refine RGcaseD (t:=40) rfl (fun h47=> ?_) (fun h47=> ?_)
      ·
       refine A18 ?_
       refine A18 ?_
       exact x4 Plain.mk' rfl rfl (Le.bool (xp0 (i:=i) (by omega) (by omega)))
      ·
       refine A2 ?_
       refine xc7 (decide_eq_false h47) rfl rfl (0) ti5 rfl rfl rfl (At.t (At.g 2 rfl rfl) (At.g 0 rfl rfl)) rfl ?_
       refine A2 ?_
       refine xc7 (decide_eq_false h47) rfl rfl (0) ti5 rfl rfl rfl (At.t (At.g 2 rfl rfl) (At.g 0 rfl rfl)) rfl ?_
       refine A3 ?_
       refine RGcaseD (t:=49) rfl (fun h47_2=> ?_) (fun h47_2=> ?_)
       ·
        refine A18 ?_
        refine A9 ?_
        exact x4 Plain.mk' rfl rfl (Le.bool (xp0 (i:=i) (by omega) (by omega)))
       ·
        refine A6 ?_
        refine RGcaseD (t:=55) rfl (fun h47_3=> ?_) (fun h47_3=> ?_)
        ·
         refine A4 ?_
         refine RGon (decide_eq_true h47_3) rfl (x3 (c_TSame _ _) fi76 rfl) rfl ⟨rfl,rfl,trivial⟩ trivial trivial (RGon (decide_eq_false h47_2) rfl (xe3 (decide_eq_true h47_3)) rfl ⟨rfl,rfl,trivial⟩ trivial trivial ?_)
         refine A3 ?_
         refine x9 rfl (fun h47_4=> ?_) (fun h47_4=> ?_)
         ·
          refine A11 ?_
          exact x4 Plain.mk' rfl rfl (Le.bool (xp0 (i:=i) (by omega) (by rintro ⟨_,_,_,h | ⟨_,_,h⟩⟩;omega;exact h ⟨by omega,h47_4⟩)))
         ·
          refine A7 ?_
          have hok:tOk l i=true:=xt2.2 ⟨by omega,by omega,by omega,.inr ⟨by omega,by omega,fun h=>h47_4 h.2⟩⟩
          exact kF (i+1) ⟨⟨by omega,by rw [xv6,ha,Bool.true_and];exact hok⟩,(by omega)⟩
        ·
         refine A5 ?_
         refine RGon (decide_eq_false h47_2) rfl (xc4 (decide_eq_false h47_3)) rfl ⟨rfl,rfl,trivial⟩ trivial trivial ?_
         refine A11 ?_
         have hok:tOk l i=true:=xt2.2 ⟨by omega,by omega,by omega,.inr ⟨by omega,by omega,fun h=>h47_3 h.1⟩⟩
         exact kF (i+1) ⟨⟨by omega,by rw [xv6,ha,Bool.true_and];exact hok⟩,(by omega)⟩
 ·
  refine A8 ?_
  refine R2 (x3 (c_TContains l hD) fi77 rfl) rfl rfl ?_
  refine A5 ?_
  exact x4 Plain.mk' rfl rfl (Le.bool (by rw [tRight,←all_any,←show i=l.length by omega,ha,Bool.true_and]))
end An.S
namespace An
open Go Go.Proofs Go.Shelf Go.Sort
section
variable {α:Type} [Inhabited α]
def srt (cf:α→α→Int) (xs:List α):List α:=(pdq (ltOf cf) xs.toArray 0 xs.toArray.size (Go.Lib.bitLen xs.toArray.size) true true).toList
theorem srt_spec {cf:α→α→Int} (hO:SWO (ltOf cf)) (xs:List α):(srt cf xs).length=xs.length∧(srt cf xs).Perm xs∧(srt cf xs).Pairwise fun a b=>ltOf cf b a=false:=by
 obtain ⟨⟨h1,_,h2⟩,h3⟩:=pdq_sorts (ltOf cf) hO xs.toArray 0 xs.toArray.size (Go.Lib.bitLen xs.toArray.size) true true (Nat.zero_le _) (Nat.le_refl _) (Or.inl rfl)
 rw [srt]
 generalize pdq (ltOf cf) xs.toArray 0 xs.toArray.size (Go.Lib.bitLen xs.toArray.size) true true=D at*
 have e1:D.size=xs.length:=by simpa using h1
 have x1:D.extract 0 xs.toArray.size=D:=by rw [←h1];simp
 have x2:xs.toArray.extract 0 xs.toArray.size=xs.toArray:=by simp
 rw [x1,x2] at h2
 refine ⟨by simpa using e1,by simpa using h2,?_⟩
 rw [List.pairwise_iff_getElem]
 intro i j hi hj hij
 have hi':i < D.size:=by simpa using hi
 have hj':j < D.size:=by simpa using hj
 have h6:=h3 i j (Nat.zero_le _) hij (by rw [←h1];exact hj')
 rw [getElem!_pos _ i hi',getElem!_pos _ j hj'] at h6
 simpa using h6
theorem srt_asc {cf:α→α→Int} (hO:SWO (ltOf cf)) {xs:List α} (h:xs.Pairwise fun a b=>ltOf cf a b=true):srt cf xs=xs:=by
 have hp:=(srt_spec hO xs).2.1
 have hs:=(srt_spec hO xs).2.2
 generalize srt cf xs=ys at*
 induction xs generalizing ys with
 | nil=>exact hp.eq_nil
 | cons x xs ih=>
  cases ys with
  | nil=>exact absurd hp.symm.eq_nil (by simp)
  | cons y ys=>
   obtain ⟨h1,h2⟩:=List.pairwise_cons.1 h
   obtain ⟨s1,s2⟩:=List.pairwise_cons.1 hs
   have hxy:y=x:=by
    have hy:y∈x::xs:=hp.mem_iff.1 (by simp)
    rcases List.mem_cons.1 hy with e | hy
    ·exact e
    ·have hx:x∈y::ys:=hp.mem_iff.2 (by simp)
     rcases List.mem_cons.1 hx with e | hx
     ·exact e.symm
     ·have a1:=s1 x hx
      have a2:=h1 y hy
      rw [a2] at a1;cases a1
   subst hxy
   rw [ih h2 ys (List.perm_cons y |>.1 hp) s2]
end
theorem flat_at {α:Type} [Inhabited α] {enc:α→List Value} {k:Nat} (_hk: ∀x,(enc x).length=k) (d:Array α) {i j:Nat} (hi:i < d.size) (hj:j < k):(flatK enc k d)[i*k+j]! =(enc d[i]!)[j]! :=by
 have lt:i*k+j < d.size*k:=by
  have:=Nat.mul_le_mul_right k (show i+1≤d.size from hi);rw [Nat.add_mul,Nat.one_mul] at this;omega
 rw [get_flatK _ _ _ _ lt]
 have e1:(i*k+j) / k=i:=by rw [Nat.mul_comm,Nat.mul_add_div (by omega),Nat.div_eq_of_lt hj];omega
 have e2:(i*k+j)%k=j:=by rw [Nat.mul_comm,Nat.mul_add_mod,Nat.mod_eq_of_lt hj]
 rw [e1,e2]
theorem sortG {P:Program} {ρ:Ren} {α:Type} [Inhabited α] (L:SlLaysF0.n6 P ρ) {T k:Nat} {f:α→Ty} {enc:α→List Value} {cf:α→α→Int} {g:Nat} (aE: ∀w,(isAgg (ρ.t 24)).run P w= .ok true w) (zE: ∀w,(Go.sizeOf (ρ.t 24)).run P w= .ok k w)
  (hk: ∀x,(enc x).length=k) (h1: ∀x,∀v∈enc x,v.oneCell'=true) (hf1: ∀F w x v,(f x).p F w v→v= .agg (enc x).toArray) (hf2: ∀F w x,(f x).p F w (.agg (enc x).toArray)) (hO:SWO (ltOf cf))
  (eg: ∀args w,(callFunc g args).run P w= .ok (.enter g args) w) (hcmp: ∀(x y:α) (W:World),Calls P g #[.agg (enc x).toArray,.agg (enc y).toArray] W fun e w'=>e= .returned (.int .i64 (cf x y))∧ ∃q os',w'=grow (W.drewN q) os') (xs:List α) (hn:xs.length < 4611686018427387904):
  CtG P (ρ.f 6) [(1,⟨T,k,true,rV f xs⟩)] [.own (.sl 1 k 0 xs.length),.val (tE (.func (.func g) #[] #[]))] (.val (tE (.tuple #[]))) [(1,⟨T,k,true,rV f (srt cf xs)⟩)] []:=by
 intro F w η vs hS hA hI hF
 match vs,hS with
 | [v0,v1],hS=>
 obtain ⟨⟨A,rfl,hle,hadr⟩,h2,_⟩:=hS
 have h2:v1= .func (.func g) #[] #[]:=h2
 subst h2
 obtain ⟨k1,k2,k3,k4,k5⟩:=hA (1,⟨T,k,true,rV f xs⟩) (by simp)
 have k1:(rV f xs).length≤η.c 1:=k1
 have k2:0 < k:=k2
 have k4:η.c 1≤9223372036854775807:=k4
 rw [xg3] at k1
 obtain ⟨s1,s2,_⟩:=srt_spec hO xs
 by_cases h0:xs.length=0
 ·have hx:xs=[]:=List.length_eq_zero_iff.1 h0
  subst hx
  have e0:srt cf ([]:List α)=[]:=List.length_eq_zero_iff.1 s1
  rw [e0]
  refine (AnyF.slices_SortFunc_none L A (η.c 1 - 0) (.func (.func g) #[] #[]) w).mono ?_
  rintro e w' ⟨rfl,rfl⟩
  refine ⟨_,η,rfl,⟨Stp.refl _ _,fun _ _=>⟨rfl,rfl⟩,rfl,fun x hx=> ?_,hI,fun b hb=> .inl hb⟩⟩
  simp only [List.mem_singleton] at hx
  subst hx
  refine ⟨by simp [rV],k2,k3,k4,fun hc=> ?_⟩
  obtain ⟨cs,c1,c2,_⟩:=k5 hc
  exact ⟨cs,c1,c2,fun i e hi=>by simp [rV] at hi⟩
 ·have hc0:0 < η.c 1:=by omega
  obtain ⟨cs,c1,c2,c3⟩:=k5 hc0
  have c1:w.heap[η.b 1]? =some (.cells cs T (0,0)):=c1
  have c2:cs.size=η.c 1*k:=c2
  have hA':=hadr hc0
  rw [Nat.zero_mul] at hA'
  subst hA'
  have hblk:η.b 1 < w.heap.size:=xa6 c1
  have hmul: ∀i,i < xs.length→i*k+k≤cs.size:=fun i hi=>by
   rw [c2,←Nat.succ_mul];exact Nat.mul_le_mul_right _ (by omega)
  have hget: ∀i (hi:i < xs.length) j,j < k→cs[i*k+j]? =(enc xs[i])[j]? :=fun i hi j hj=>by
   have h3:=c3 i (.val (f xs[i])) (by rw [rV,List.getElem?_map,List.getElem?_eq_getElem hi];rfl)
   have h4:=hf1 _ _ _ _ h3
   simp only [pick,cond_true,Value.agg.injEq] at h4
   have h5:=congrArg (fun a:Array Value=>a[j]?) h4
   simp only [Array.getElem?_extract,List.getElem?_toArray] at h5
   have:=hmul i hi
   rw [if_pos (by omega)] at h5
   exact h5
  have hsize:xs.toArray.size=xs.length:=by simp
  have hH:HoldsK enc k w (η.b 1) 0 xs.toArray:=by
   intro j hj
   rw [size_flatK,hsize] at hj
   have hj1:j / k < xs.length:=by rw [Nat.div_lt_iff_lt_mul k2];exact hj
   have hj2:j%k < k:=Nat.mod_lt _ k2
   have hje:j / k*k+j%k=j:=by rw [Nat.mul_comm];exact Nat.div_add_mod j k
   have h6:=hget (j / k) hj1 (j%k) hj2
   rw [hje] at h6
   have h7:=flat_at hk xs.toArray (i:=j / k) (j:=j%k) (by rw [hsize];exact hj1) hj2
   rw [hje] at h7
   have hlen:j%k < (enc xs[j / k]).length:=by rw [hk];exact hj2
   have h8:xs.toArray[j / k]! =xs[j / k]:=by rw [getElem!_pos _ _ (by rw [hsize];exact hj1)];simp
   refine ⟨?_,?_⟩
   ·show w.cell? ⟨η.b 1,0+j,none⟩=some (flatK enc k xs.toArray)[j]!
    rw [h7,h8,getElem!_pos (enc xs[j / k]) (j%k) hlen]
    simp only [World.cell?,c1,Nat.zero_add,Option.isSome_none,Bool.false_eq_true,if_false]
    rw [h6,List.getElem?_eq_getElem hlen]
   ·simp [World.frozen?,c1]
  have hcon:=AnyQ.slices_SortFunc_eq L k aE zE enc hk h1 cf hO g #[] (η.b 1) 0 (η.c 1 - 0) xs.toArray w eg (fun m os dk _ x y=>hcmp x y _) hH hblk (by rw [hsize];exact hn)
  rw [hsize] at hcon
  refine hcon.mono ?_
  rintro e w' ⟨rfl,m,os,rfl⟩
  have hd:(pdq (ltOf cf) xs.toArray 0 xs.length (Go.Lib.bitLen xs.length) true true).size=xs.length:=by
   have:(srt cf xs).length=xs.length:=s1
   simpa [srt] using this
  have hl:(pdq (ltOf cf) xs.toArray 0 xs.length (Go.Lib.bitLen xs.length) true true).toList=srt cf xs:=by simp [srt]
  generalize pdq (ltOf cf) xs.toArray 0 xs.length (Go.Lib.bitLen xs.length) true true=d at hd hl
  have hheap: ∀b',b' < w.heap.size→(sortWorldK enc k w (η.b 1) 0 m d os).heap[b']? =if b'=η.b 1 then some (.cells (putCells id 0 (flatK enc k d) cs) T (0,0)) else w.heap[b']? :=fun b' hb'=>by
   show (grow (putRowK enc k (Sort.ahead w m) (η.b 1) 0 d) os).heap[b']? =_
   rw [heap_grow_old _ _ (by simp [putRowK];exact hb')]
   simp only [putRowK,putRow,mapBlock,Array.getElem?_modify]
   by_cases hb:b'=η.b 1
   ·subst hb
    rw [if_pos rfl,if_pos rfl]
    show Option.map _ (w.heap[η.b 1]?)=_
    rw [c1];rfl
   ·rw [if_neg (fun h=>hb h.symm),if_neg hb];rfl
  have hsz:w.heap.size≤(sortWorldK enc k w (η.b 1) 0 m d os).heap.size:=by
   show w.heap.size≤(grow (putRowK enc k (Sort.ahead w m) (η.b 1) 0 d) os).heap.size
   simp [grow,putRowK,putRow,mapBlock,Sort.ahead]
  refine ⟨_,η,rfl,⟨⟨rfl,rfl,rfl,hsz,fun b' hb' hn'=> ?_⟩,fun _ _=>⟨rfl,rfl⟩,rfl,fun x hx=> ?_,fun x hx y hy hne=> ?_,fun b' hb'=> .inl ?_⟩⟩
  ·rw [hheap b' hb',if_neg]
   intro hb;exact hn' ⟨(1,⟨T,k,true,rV f xs⟩),by simp,hc0,hb⟩
  ·simp only [List.mem_singleton] at hx
   subst hx
   refine ⟨by rw [xg3,s1];exact k1,k2,k3,k4,fun _=>⟨putCells id 0 (flatK enc k d) cs,?_,?_,fun i e hi=> ?_⟩⟩
   ·rw [hheap _ hblk,if_pos rfl]
   ·simp only [putCells,Array.size_mapIdx];exact c2
   ·have hil:i < (srt cf xs).length:=by
     have:=(List.getElem?_eq_some_iff.1 hi).1;rwa [xg3] at this
    have hi2:i < xs.length:=by rw [←s1];exact hil
    rw [rV,List.getElem?_map,List.getElem?_eq_getElem hil] at hi
    simp only [Option.map_some,Option.some.injEq] at hi
    subst hi
    have hdi:d[i]! =(srt cf xs)[i]:=by
     rw [getElem!_pos d i (by rw [hd];exact hi2)]
     simp only [←hl,Array.getElem_toList]
    have:pick true k (putCells id 0 (flatK enc k d) cs) (i*k)= .agg (enc (srt cf xs)[i]).toArray:=by
     simp only [pick,cond_true,Value.agg.injEq]
     apply Array.ext_getElem?
     intro j
     rw [Array.getElem?_extract]
     have hm:=hmul i hi2
     simp only [List.getElem?_toArray]
     by_cases hj:j < k
     ·rw [if_pos (by simp only [putCells,Array.size_mapIdx];omega)]
      have hlt:i*k+j < d.size*k:=by
       rw [hd]
       have:=Nat.mul_le_mul_right k (show i+1≤xs.length from hi2);rw [Nat.add_mul,Nat.one_mul] at this;omega
      simp only [putCells,Array.getElem?_mapIdx,size_flatK]
      have hcs:cs[i*k+j]? =some (cs[i*k+j]'(by omega)):=by rw [Array.getElem?_eq_getElem]
      rw [hcs]
      simp only [Option.map_some]
      rw [if_pos ⟨Nat.zero_le _,by omega⟩,Nat.sub_zero,flat_at hk d (by rw [hd];exact hi2) hj,hdi]
      have hjl:j < (enc (srt cf xs)[i]).length:=by rw [hk];exact hj
      rw [getElem!_pos (enc (srt cf xs)[i]) j hjl,List.getElem?_eq_getElem hjl];rfl
     ·rw [if_neg (by simp only [putCells,Array.size_mapIdx];omega),List.getElem?_eq_none (by rw [hk];omega)]
    simp only []
    rw [this]
    exact hf2 _ _ _
  ·simp only [List.mem_singleton] at hx hy
   subst hx;subst hy
   exact absurd rfl hne
  ·obtain ⟨x,hx,hc,rfl⟩:=hb'
   simp only [List.mem_singleton] at hx
   subst hx
   exact ⟨(1,⟨T,k,true,rV f xs⟩),by simp,hc,rfl⟩
end An
namespace An.S
open Go Go.Proofs An
open Go.RowKit Go.Sort
instance ti96:TyI Tryz.prog 96 2 true:=⟨by kernel_rfl,by kernel_rfl⟩
instance sl79:SlI Tryz.prog 79 96 2 true:=⟨Tryz.underlying79,ti96⟩
instance fo96_0:FoI Tryz.prog 96 0 0:=⟨by kernel_rfl⟩
instance fo96_1:FoI Tryz.prog 96 1 1:=⟨by kernel_rfl⟩
instance fi102:FnI Tryz.prog 102:=⟨_,Tryz.func102,by kernel_rfl,rfl⟩
instance fi103:FnI Tryz.prog 103:=⟨_,Tryz.func103,by kernel_rfl,rfl⟩
theorem el96:ElI Tryz.prog 96 2 16 true (.agg #[.int .i64 0,.int .i64 0]):=⟨ti96,by kernel_rfl,by kernel_rfl⟩
theorem zr96:(Tryz.prog.info? 96).bind (·.zero)=some (.agg #[.int .i64 0,.int .i64 0])∧ ∀F w,(tS [⟨1,false,(tE (.int .i64 0))⟩,⟨1,false,(tE (.int .i64 0))⟩]).p F w (.agg #[.int .i64 0,.int .i64 0]):=⟨by kernel_rfl,fun _ _=>⟨_,rfl,rfl,⟨fun _=>rfl,rfl⟩,⟨fun _=>rfl,rfl⟩,trivial⟩⟩
theorem zf96:Flat 2 true (.agg #[.int .i64 0,.int .i64 0]):=xs9 (by intro u hu;simp at hu;rcases hu with rfl | rfl <;> rfl)
instance un79:UnI Tryz.prog 79 (.slice 96):=⟨Tryz.underlying79⟩
def cmpI (a b:Int):Int:=if a < b then -1 else if b < a then 1 else 0
theorem cmpInt (a b:Int) (W:World):Calls Tryz.prog 105 #[.int .i64 a,.int .i64 b] W fun e w'=>e= .returned (.int .i64 (cmpI a b))∧w'=W:=by
 have hn: ∀(x:Int) (W:World),Calls Tryz.prog 137 #[.int .i64 x] W fun e w'=>e= .returned (.bool false)∧w'=W:=fun x W=>by
  have h1:(x==x)=true:=by simp
  go_enter Tryz.func137,Tryz.ntmps137
  go_wp2
  go_ret
  exact ⟨by simp,rfl⟩
 by_cases h1:a < b
 ·rw [show cmpI a b= -1 by simp [cmpI,h1]]
  go_enter Tryz.func105,Tryz.ntmps105
  go_wp2_with (go_at_call 137;refine (hn _ _).mono ?_;rintro e w' ⟨rfl,rfl⟩)
  go_ret
  exact ⟨rfl,rfl⟩
 ·by_cases h2:b < a
  ·rw [show cmpI a b=1 by simp [cmpI,h1,h2]]
   go_enter Tryz.func105,Tryz.ntmps105
   go_wp2_with (go_at_call 137;refine (hn _ _).mono ?_;rintro e w' ⟨rfl,rfl⟩)
   go_ret
   exact ⟨rfl,rfl⟩
  ·rw [show cmpI a b=0 by simp [cmpI,h1,h2]]
   go_enter Tryz.func105,Tryz.ntmps105
   go_wp2_with (go_at_call 137;refine (hn _ _).mono ?_;rintro e w' ⟨rfl,rfl⟩)
   go_ret
   exact ⟨rfl,rfl⟩
def sortSpanR:Go.Shelf.Ren:=⟨fun n=>match n with | 6=>103 | 14=>135 | 15=>136 | 20=>164 | 21=>165 | 22=>166 | 23=>167 | 24=>168 | 25=>169 | 26=>170 | 27=>171 | 28=>172 | 29=>173 | 46=>185 | 47=>186 | 48=>187 | 49=>188 | 50=>189 | 57=>197 | n=>n,fun n=>match n with | 0=>0 | 3=>3 | 4=>4 | 5=>5 | 9=>9 | 22=>79 | 24=>96 | 25=>116 | 39=>28 | 45=>149 | 46=>150 | 50=>154 | 53=>157 | 55=>82 | 66=>165 | 70=>169 | 76=>176 | 77=>177 | n=>n,fun n=>n⟩
theorem sortSpan:Go.Proofs.SlLaysF0.n6 Tryz.prog sortSpanR where
 mixed:=by kernel_rfl
 f6:=⟨Tryz.f103.name,by kernel_rfl,by kernel_rfl⟩
 f14:=⟨Tryz.f135.name,by kernel_rfl,by kernel_rfl⟩
 f15:=by kernel_rfl
 f20:=⟨Tryz.f164.name,by kernel_rfl,by kernel_rfl⟩
 f21:=⟨Tryz.f165.name,by kernel_rfl,by kernel_rfl⟩
 f22:=⟨Tryz.f166.name,by kernel_rfl,by kernel_rfl⟩
 f23:=⟨Tryz.f167.name,by kernel_rfl,by kernel_rfl⟩
 f24:=⟨Tryz.f168.name,by kernel_rfl,by kernel_rfl⟩
 f25:=⟨Tryz.f169.name,by kernel_rfl,by kernel_rfl⟩
 f26:=⟨Tryz.f170.name,by kernel_rfl,by kernel_rfl⟩
 f27:=⟨Tryz.f171.name,by kernel_rfl,by kernel_rfl⟩
 f28:=by kernel_rfl
 f29:=by kernel_rfl
 f46:=⟨Tryz.f185.name,by kernel_rfl,by kernel_rfl⟩
 f47:=by kernel_rfl
 f48:=by kernel_rfl
 f49:=⟨Tryz.f188.name,by kernel_rfl,by kernel_rfl⟩
 f50:=⟨Tryz.f189.name,by kernel_rfl,by kernel_rfl⟩
 f57:=⟨Tryz.f197.name,by kernel_rfl,by kernel_rfl⟩
 t0:=by kernel_rfl
 a0:=fun w=>by kernel_rfl
 z0:=fun w=>by kernel_rfl
 v0:=fun w=>by kernel_rfl
 t3:=by kernel_rfl
 a3:=fun w=>by kernel_rfl
 z3:=fun w=>by kernel_rfl
 v3:=fun w=>by kernel_rfl
 t4:=by kernel_rfl
 a4:=fun w=>by kernel_rfl
 z4:=fun w=>by kernel_rfl
 v4:=fun w=>by kernel_rfl
 t5:=by kernel_rfl
 a5:=fun w=>by kernel_rfl
 z5:=fun w=>by kernel_rfl
 v5:=fun w=>by kernel_rfl
 t9:=by kernel_rfl
 a9:=fun w=>by kernel_rfl
 z9:=fun w=>by kernel_rfl
 v9:=fun w=>by kernel_rfl
 t22:=by kernel_rfl
 a22:=fun w=>by kernel_rfl
 z22:=fun w=>by kernel_rfl
 v22:=fun w=>by kernel_rfl
 t25:=by kernel_rfl
 a25:=fun w=>by kernel_rfl
 z25:=fun w=>by kernel_rfl
 v25:=fun w=>by kernel_rfl
 t39:=by kernel_rfl
 a39:=fun w=>by kernel_rfl
 z39:=fun w=>by kernel_rfl
 v39:=fun w=>by kernel_rfl
 t45:=by kernel_rfl
 a45:=fun w=>by kernel_rfl
 z45:=fun w=>by kernel_rfl
 v45:=fun w=>by kernel_rfl
 t46:=by kernel_rfl
 a46:=fun w=>by kernel_rfl
 z46:=fun w=>by kernel_rfl
 v46:=fun w=>by kernel_rfl
 t50:=by kernel_rfl
 a50:=fun w=>by kernel_rfl
 z50:=fun w=>by kernel_rfl
 v50:=fun w=>by kernel_rfl
 t53:=by kernel_rfl
 a53:=fun w=>by kernel_rfl
 z53:=fun w=>by kernel_rfl
 v53:=fun w=>by kernel_rfl
 t55:=by kernel_rfl
 a55:=fun w=>by kernel_rfl
 z55:=fun w=>by kernel_rfl
 v55:=fun w=>by kernel_rfl
 t66:=by kernel_rfl
 a66:=fun w=>by kernel_rfl
 z66:=fun w=>by kernel_rfl
 v66:=fun w=>by kernel_rfl
 t70:=by kernel_rfl
 a70:=fun w=>by kernel_rfl
 z70:=fun w=>by kernel_rfl
 v70:=fun w=>by kernel_rfl
 t76:=by kernel_rfl
 a76:=fun w=>by kernel_rfl
 z76:=fun w=>by kernel_rfl
 v76:=fun w=>by kernel_rfl
 t77:=by kernel_rfl
 a77:=fun w=>by kernel_rfl
 z77:=fun w=>by kernel_rfl
 v77:=fun w=>by kernel_rfl
def cfSn (x y:Sn):Int:=cmpI x.lo y.lo
def encSn (x:Sn):List Value:=[.int .i64 x.lo,.int .i64 x.hi]
theorem ltSn (x y:Sn):Go.Proofs.ltOf cfSn x y=decide (x.lo < y.lo):=by
 unfold Go.Proofs.ltOf cfSn cmpI
 by_cases h1:x.lo < y.lo
 ·simp [h1]
 ·by_cases h2:y.lo < x.lo <;> simp [h1,h2]
theorem swoSn:SWO (Go.Proofs.ltOf cfSn) where
 irrefl x:=by rw [ltSn];simp
 trans x y z h1 h2:=by rw [ltSn] at*;simp at*;omega
 ntrans x y z h1 h2:=by rw [ltSn] at*;simp at*;omega
theorem closSn (x y:Sn) (W:World):Calls Tryz.prog 104 #[.agg (encSn x).toArray,.agg (encSn y).toArray] W fun e w'=>e= .returned (.int .i64 (cfSn x y))∧ ∃q os',w'=grow (W.drewN q) os':=by
 have hcon:=fun W'=>cmpInt x.lo y.lo W'
 show Calls Tryz.prog 104 #[.agg #[.int .i64 x.lo,.int .i64 x.hi],.agg #[.int .i64 y.lo,.int .i64 y.hi]] W fun e w'=>e= .returned (.int .i64 (cmpI x.lo y.lo))∧ ∃q os',w'=grow (W.drewN q) os'
 generalize cmpI x.lo y.lo=r at hcon ⊢
 go_enter Tryz.func104,Tryz.ntmps104
 go_wp2_with (go_at_call 105;refine (hcon _).mono ?_;rintro e w' ⟨rfl,rfl⟩)
 go_ret
 exact ⟨rfl,0,_,by rw [alloc_eq_grow,alloc_eq_grow,grow_grow];rfl⟩
theorem c_sortSn (xs:List Sn) (hn:xs.length < 4611686018427387904):CtG Tryz.prog 103 [(1,⟨96,2,true,rV tSn xs⟩)] [.own (.sl 1 2 0 xs.length),.val (tE (.func (.func 104) #[] #[]))] (.val (tE (.tuple #[]))) [(1,⟨96,2,true,rV tSn (srt cfSn xs)⟩)] []:=
 sortG sortSpan (enc:=encSn) (cf:=cfSn) (fun w=>by kernel_rfl) (fun w=>by kernel_rfl) (fun _=>rfl) (fun x v hv=>by simp [encSn] at hv;rcases hv with rfl | rfl <;> rfl) (fun F w x v h=>tSn_val h) (fun F w x=>tSn_mk) swoSn (enters_of Tryz.func104 (by kernel_rfl) rfl) closSn xs hn
theorem srtSn_len {xs:List Sn}:(srt cfSn xs).length=xs.length:=(srt_spec swoSn xs).1
def pos (s:Sn):Bool:=decide (s.lo < s.hi)
def mkS (l:List Sn):List Sn:=mrg (srt cfSn (l.filter pos))
theorem filter_next {l:List Sn} {i:Nat} (hi:i < l.length):(l.take (i+1)).filter pos=(l.take i).filter pos++(if pos (l.getD i sn0) then [l.getD i sn0] else []):=by
 rw [List.take_succ_eq_append_getElem hi,List.filter_append,List.getD_eq_getElem?_getD,List.getElem?_eq_getElem hi]
 by_cases h:pos l[i]=true <;> simp [h]
theorem mrg_next {l:List Sn} {i:Nat} (hi:i < l.length):mrg (l.take (i+1))=mrg1 (mrg (l.take i)) (l.getD i sn0):=by
 rw [List.take_succ_eq_append_getElem hi,mrg,List.foldl_append,List.getD_eq_getElem?_getD,List.getElem?_eq_getElem hi];rfl
theorem allS_next {p:Sn→Bool} {l:List Sn} {i:Nat} (hi:i < l.length):(l.take (i+1)).all p=((l.take i).all p && p (l.getD i sn0)):=by
 rw [List.take_succ_eq_append_getElem hi,List.all_append,List.getD_eq_getElem?_getD,List.getElem?_eq_getElem hi];simp
theorem allS_stop {p:Sn→Bool} {l:List Sn} {i:Nat} (hi:i < l.length) (h:p (l.getD i sn0)=false):l.all p=false:=by
 rw [List.all_eq_false]
 exact ⟨l.getD i sn0,by rw [List.getD_eq_getElem?_getD,List.getElem?_eq_getElem hi];exact List.getElem_mem hi,by rw [h];exact Bool.false_ne_true⟩
theorem mrg1_len (acc:List Sn) (s:Sn):(mrg1 acc s).length≤acc.length+1:=by
 rw [mrg1];split <;> simp
theorem mrg_len: ∀(xs acc:List Sn),(xs.foldl mrg1 acc).length≤acc.length+xs.length
 | [],acc=>by simp
 | s::r,acc=>by
  have h1:=mrg_len r (mrg1 acc s)
  have h2:=mrg1_len acc s
  simp only [List.foldl_cons,List.length_cons]
  omega
theorem filter_le {l:List Sn} {i:Nat}:((l.take i).filter pos).length≤i:=by
 have h1:=List.length_filter_le pos (l.take i)
 rw [List.length_take] at h1;omega
theorem c_isSpan (s:Sn):
  Ct Tryz.prog 102 [tSn s] (tB s.ok):=by
 refine Ct.intro Tryz.func102 rfl Tryz.ntmps102 rfl ?_
 intro w F
 refine A12 ?_
 refine RGcaseD (t:=6) rfl (fun h15=> ?_) (fun h15=> ?_)
 ·
  refine A7 ?_
  refine RGcaseD (t:=13) rfl (fun h15_2=> ?_) (fun h15_2=> ?_)
  ·
   refine A8 ?_
   exact x4 Plain.mk' rfl rfl (Le.bool (by simp [Sn.ok, *]))
  ·
   refine A8 ?_
   exact x4 Plain.mk' rfl rfl (Le.bool (by simp [Sn.ok, *]))
 ·
  refine A15 ?_
  exact x4 Plain.mk' rfl rfl (Le.bool (by simp [Sn.ok, *]))
theorem c_SnMake (l:List Sn) (hl:l.length≤1000000):
  Ct Tryz.prog 70 [tL 2 true tSn l] (tT [tL 2 true tSn (if l.all Sn.ok=true then mkS l else []),tI (if l.all Sn.ok=true then 0 else 2)]):=by
 refine Ct.intro Tryz.func70 rfl Tryz.ntmps70 rfl ?_
 intro w F
 refine A8 ?_
 refine RE (xj2 (k:=4) 96 2 true rfl (fun h=>by cases h)) trivial trivial ⟨rfl,trivial⟩ ?_
 refine A11 ?_
 refine cL (fun (fm:(Nat)×(List Sn))=>(fun (i:Nat) (xs:List Sn)=>i≤l.length∧(l.take i).all Sn.ok=true∧xs=(l.take i).filter pos) fm.1 fm.2) (fun (fm:(Nat)×(List Sn))=>(fun (i:Nat) (xs:List Sn)=>upd (upd (upd (upd (upd (fun _=>none) 0 (some (.val (tL 2 true tSn l)))) 4 (some (.own (.sl 4 2 0 xs.length)))) 11 (some (.val (tL 2 true tSn l)))) 12 (some (.val (tI l.length)))) 13 (some (.val (tI i)))) fm.1 fm.2) (fun (fm:(Nat)×(List Sn))=>(fun (i:Nat) (xs:List Sn)=>upd (fun _=>none) 4 (some (⟨96,2,true,rV tSn xs⟩))) fm.1 fm.2) [4] (fun (fm:(Nat)×(List Sn))=>(fun (i:Nat) (xs:List Sn)=>l.length - i) fm.1 fm.2) ((0,[])) (by dsimp only;exact ⟨Nat.zero_le _,rfl,rfl⟩) (hh:=((SubK.consI rfl ImpK.refl) SubK.nil)) ?_
 intro fm hI
 obtain ⟨i,xs⟩:=fm
 replace hI:i≤l.length∧(l.take i).all Sn.ok=true∧xs=(l.take i).filter pos:=hI
 show wc _ _ _ _ (upd (upd (upd (upd (upd (fun _=>none) 0 (some (.val (tL 2 true tSn l)))) 4 (some (.own (.sl 4 2 0 xs.length)))) 11 (some (.val (tL 2 true tSn l)))) 12 (some (.val (tI l.length)))) 13 (some (.val (tI i)))) (upd (fun _=>none) 4 (some (⟨96,2,true,rV tSn xs⟩))) _
 obtain ⟨hi,ha,hx⟩:=hI
 have hxl:xs.length≤i:=hx▸filter_le
 refine A6 ?_
 refine x9 rfl (fun h31=> ?_) (fun h31=> ?_)
 ·
  refine A6 ?_
  refine R2 (x6 sl79 (i) (by omega) (gD (l:=l) (n:=i) (d:=sn0) (by omega))) rfl rfl ?_
  refine A1 ?_
  refine RE (x5 (k:=6) (n:=2) (agg:=true) zr96.1 zr96.2 rfl) trivial trivial ⟨rfl,trivial⟩ ?_
  refine A7 ?_
  refine R1 (x3 (c_isSpan _) fi102 rfl) rfl ?_
  refine A3 ?_
  refine xc0 rfl (fun h32=> ?_) (fun h32=> ?_)
  ·
   have hbad:l.all Sn.ok=false:=allS_stop (i:=i) (by omega) (by rw [Bool.not_eq_true'] at h32;exact h32)
   refine A13 ?_
   exact xc5 Plain.mk' rfl rfl rfl (leNil (by rw [if_neg (by rw [hbad];exact Bool.false_ne_true)])) (Le.int (by rw [if_neg (by rw [hbad];exact Bool.false_ne_true)]))
  ·
   rw [Bool.not_eq_false'] at h32
   refine A11 ?_
   refine x9 rfl (fun h35=> ?_) (fun h35=> ?_)
   ·
    refine A3 ?_
    refine R1 (xc6 (n:=1) (f:=tSn) [(l.getD i sn0)] Tryz.underlying79 el96 zf96 rfl (fun _=>inferInstance) rfl rfl rfl) rfl (RE (xc2 (k:=4) (k':=28) (f:=tSn) (ys:=[(l.getD i sn0)]) (ts':=rV tSn (xs++[(l.getD i sn0)])) Tryz.underlying79 el96 zf96 rfl rfl (fun _=>inferInstance) xg3 (by simp;omega) (by simp;omega) (by simp [rV]) (n':=xs.length+1) rfl) ⟨rfl,rfl,trivial⟩ ⟨rfl,trivial⟩ ⟨rfl,trivial⟩ ?_)
    refine A8 ?_
    exact xf7 (l:=[4]) (fun j=>cond (Nat.beq j 4) 28 (j)) ((i+1,xs++[(l.getD i sn0)])) ⟨(by dsimp only;exact ⟨by omega,by rw [allS_next (by omega),ha,h32];rfl,by rw [filter_next (by omega),←hx,if_pos (show pos _=true from decide_eq_true h35)]⟩),(by dsimp only;omega)⟩ (SubR.int rfl (by first | omega | rfl | (dsimp only;omega)) (SubR.int rfl (by first | omega | rfl | (dsimp only;omega)) (SubR.cons rfl ((SubR.consI rfl (Imp.of (by dsimp only;rw [List.length_append];rfl))) (SubR.cons rfl SubR.nil))))) ((SubKR.consI rfl (ImpK.of xf4.symm)) SubKR.nil) (SupG.val (SupG.val (SupG.val (SupG.own rfl (SupG.val SupG.nil))))) (SupH.cons rfl (supJ xd3) SupH.nil) (lkOk rfl) rfl rfl (fun _ h=>by cases h)
   ·
    refine A7 ?_
    exact kF ((i+1,xs)) ⟨(by dsimp only;exact ⟨by omega,by rw [allS_next (by omega),ha,h32];rfl,by rw [filter_next (by omega),←hx,if_neg (by rw [pos,decide_eq_false h35];exact Bool.false_ne_true),List.append_nil]⟩),(by dsimp only;omega)⟩ (hh:=((SubK.consI rfl ImpK.refl) SubK.nil))
 ·
  refine A6 ?_
  have hil:i=l.length:=by omega
  subst hil
  rw [List.take_length] at ha hx
  have hall:=ha
  have hmk:mkS l=mrg (srt cfSn xs):=by rw [mkS,hx]
  refine A2 ?_
  refine RE (xf0 (fun _=>4) (c_sortSn xs (by omega)) fi103 rfl (krC (ρ:=fun _=>4) (k:=1) xf4 (krN (ρ:=fun _=>4))) (krC (ρ:=fun _=>4) (k:=1) xf4 (krN (ρ:=fun _=>4))) ⟨⟨rfl,xd3⟩,trivial⟩ rfl) ⟨rfl,rfl,trivial⟩ ⟨rfl,trivial⟩ trivial ?_
  refine A4 ?_
  refine RE (xj2 (k:=7) 96 2 true rfl (fun h=>by cases h)) trivial trivial ⟨rfl,trivial⟩ ?_
  refine A11 ?_
  refine cL (fun (fm:(Nat)×(List Sn))=>(fun (i:Nat) (zs:List Sn)=>i≤xs.length∧zs=mrg ((srt cfSn xs).take i)) fm.1 fm.2) (fun (fm:(Nat)×(List Sn))=>(fun (i:Nat) (zs:List Sn)=>upd (upd (upd (upd (upd (fun _=>none) 4 (some (.own (.sl 4 2 0 xs.length)))) 7 (some (.own (.sl 7 2 0 zs.length)))) 32 (some (.own (.sl 4 2 0 xs.length)))) 33 (some (.val (tI xs.length)))) 34 (some (.val (tI i)))) fm.1 fm.2) (fun (fm:(Nat)×(List Sn))=>(fun (i:Nat) (zs:List Sn)=>upd (upd (fun _=>none) 4 (some (⟨96,2,true,rV tSn (srt cfSn xs)⟩))) 7 (some (⟨96,2,true,rV tSn zs⟩))) fm.1 fm.2) [4,7] (fun (fm:(Nat)×(List Sn))=>(fun (i:Nat) (zs:List Sn)=>xs.length - i) fm.1 fm.2) ((0,[])) (by dsimp only;exact ⟨Nat.zero_le _,rfl⟩) (hh:=((SubK.consI rfl ImpK.refl) ((SubK.consI rfl ImpK.refl) SubK.nil))) ?_
  intro fm hI
  obtain ⟨i,zs⟩:=fm
  replace hI:i≤xs.length∧zs=mrg ((srt cfSn xs).take i):=hI
  show wc _ _ _ _ (upd (upd (upd (upd (upd (fun _=>none) 4 (some (.own (.sl 4 2 0 xs.length)))) 7 (some (.own (.sl 7 2 0 zs.length)))) 32 (some (.own (.sl 4 2 0 xs.length)))) 33 (some (.val (tI xs.length)))) 34 (some (.val (tI i)))) (upd (upd (fun _=>none) 4 (some (⟨96,2,true,rV tSn (srt cfSn xs)⟩))) 7 (some (⟨96,2,true,rV tSn zs⟩))) _
  obtain ⟨hi',hz⟩:=hI
  have hsl:=srtSn_len (xs:=xs)
  have hzl:zs.length≤i:=by
   have h:=mrg_len ((srt cfSn xs).take i) []
   rw [List.length_take] at h
   have h2:zs.length≤([]:List Sn).length+min i (srt cfSn xs).length:=by rw [hz];exact h
   simp at h2;omega
  refine A6 ?_
  refine x9 rfl (fun h41=> ?_) (fun h41=> ?_)
  ·
   refine A6 ?_
   refine R2 (xa5 sl79 (by omega) (by omega) rfl) rfl rfl (RE (xd8 (i) ti96 (xn1 (d:=sn0) (by omega)) (by omega)) ⟨rfl,trivial⟩ ⟨rfl,trivial⟩ trivial (RE (x5 (k:=9) (n:=2) (agg:=true) zr96.1 zr96.2 rfl) trivial trivial ⟨rfl,trivial⟩ ?_))
   refine A15 ?_
   refine RGcaseD (t:=42) rfl (fun h42=> ?_) (fun h42=> ?_)
   ·
    refine A2 ?_
    refine RGon (decide_eq_true h42) rfl (xe4 (wr64 (by omega) (by omega))) rfl ⟨rfl,rfl,trivial⟩ trivial trivial (RGon (decide_eq_true h42) rfl (xa5 sl79 (by omega) (by omega) rfl) rfl ⟨rfl,rfl,trivial⟩ trivial trivial ?_)
    refine A1 ?_
    refine RGon (decide_eq_true h42) rfl (xr0 (es:=2) (o:=1) (zs.length - 1) ti3 (xn1 (d:=sn0) (by omega)) (At.g 1 rfl rfl) (by omega)) rfl ⟨rfl,trivial⟩ ⟨rfl,trivial⟩ trivial ?_
    refine A6 ?_
    refine x9 rfl (fun h42_2=> ?_) (fun h42_2=> ?_)
    ·
     refine A7 ?_
     refine R2 (xa5 sl79 (by omega) (by omega) rfl) rfl rfl ?_
     refine A1 ?_
     refine RE (xr0 (es:=2) (o:=1) (zs.length - 1) ti3 (xn1 (d:=sn0) (by omega)) (At.g 1 rfl rfl) (by omega)) ⟨rfl,trivial⟩ ⟨rfl,trivial⟩ trivial ?_
     refine A2 ?_
     refine R2 d_max2 rfl rfl (R2 (xa5 sl79 (by omega) (by omega) rfl) rfl rfl ?_)
     refine A1 ?_
     refine RE (xs8 (es:=2) (o:=1) (t2:=tSn ⟨(zs.getD (zs.length - 1) sn0).lo,max (zs.getD (zs.length - 1) sn0).hi ((srt cfSn xs).getD i sn0).hi⟩) (zs.length - 1) ti3 (xn1 (d:=sn0) (by omega)) (Up.f (f:=⟨1,false,tI (zs.getD (zs.length - 1) sn0).hi⟩) 1 rfl rfl rfl) (by omega) (rV_set rfl)) ⟨rfl,rfl,trivial⟩ ⟨rfl,trivial⟩ trivial ?_
     refine A7 ?_
     exact kF ((i+1,(zs.set (zs.length - 1) ⟨(zs.getD (zs.length - 1) sn0).lo,max (zs.getD (zs.length - 1) sn0).hi ((srt cfSn xs).getD i sn0).hi⟩))) ⟨(by dsimp only;exact ⟨by omega,by rw [mrg_next (by omega),←hz,mrg1,if_pos ⟨by omega,by omega⟩]⟩),(by dsimp only;omega)⟩ (hg:=(sI (sI (sC ((Sub.consI rfl (Imp.of (by dsimp only;rw [List.length_set]))) (sC Sub.nil)))))) (hh:=((SubK.consI rfl ImpK.refl) ((SubK.consI rfl ImpK.refl) SubK.nil)))
    ·
     refine A3 ?_
     refine R1 (xc6 (n:=1) (f:=tSn) [((srt cfSn xs).getD i sn0)] Tryz.underlying79 el96 zf96 rfl (fun _=>inferInstance) rfl rfl rfl) rfl (RE (xc2 (k:=7) (k':=70) (f:=tSn) (ys:=[((srt cfSn xs).getD i sn0)]) (ts':=rV tSn (zs++[((srt cfSn xs).getD i sn0)])) Tryz.underlying79 el96 zf96 rfl rfl (fun _=>inferInstance) xg3 (by simp;omega) (by simp;omega) (by simp [rV]) (n':=zs.length+1) rfl) ⟨rfl,rfl,trivial⟩ ⟨rfl,trivial⟩ ⟨rfl,trivial⟩ ?_)
     refine A8 ?_
     exact xf7 (l:=[4,7]) (fun j=>cond (Nat.beq j 7) 70 (j)) ((i+1,zs++[((srt cfSn xs).getD i sn0)])) ⟨(by dsimp only;exact ⟨by omega,by rw [mrg_next (by omega),←hz,mrg1,if_neg (by omega)]⟩),(by dsimp only;omega)⟩ (SubR.int rfl (by first | omega | rfl | (dsimp only;omega)) (SubR.int rfl (by first | omega | rfl | (dsimp only;omega)) (SubR.cons rfl ((SubR.consI rfl (Imp.of (by dsimp only;rw [List.length_append];rfl))) (SubR.cons rfl SubR.nil))))) ((SubKR.consI rfl (ImpK.of xf4.symm)) ((SubKR.consI rfl (ImpK.of xf4.symm)) SubKR.nil)) (SupG.val (SupG.val (SupG.own rfl (SupG.own rfl (SupG.own rfl SupG.nil))))) (SupH.cons rfl (supJ xd3) (SupH.cons rfl (supJ xd3) SupH.nil)) (lkOk rfl) rfl rfl (fun _ h=>by cases h)
   ·
    refine A16 ?_
    refine R1 (xc6 (n:=1) (f:=tSn) [((srt cfSn xs).getD i sn0)] Tryz.underlying79 el96 zf96 rfl (fun _=>inferInstance) rfl rfl rfl) rfl (RE (xc2 (k:=7) (k':=70) (f:=tSn) (ys:=[((srt cfSn xs).getD i sn0)]) (ts':=rV tSn (zs++[((srt cfSn xs).getD i sn0)])) Tryz.underlying79 el96 zf96 rfl rfl (fun _=>inferInstance) xg3 (by simp;omega) (by simp;omega) (by simp [rV]) (n':=zs.length+1) rfl) ⟨rfl,rfl,trivial⟩ ⟨rfl,trivial⟩ ⟨rfl,trivial⟩ ?_)
    refine A8 ?_
    exact xf7 (l:=[4,7]) (fun j=>cond (Nat.beq j 7) 70 (j)) ((i+1,zs++[((srt cfSn xs).getD i sn0)])) ⟨(by dsimp only;exact ⟨by omega,by rw [mrg_next (by omega),←hz,mrg1,if_neg (by omega)]⟩),(by dsimp only;omega)⟩ (SubR.int rfl (by first | omega | rfl | (dsimp only;omega)) (SubR.int rfl (by first | omega | rfl | (dsimp only;omega)) (SubR.cons rfl ((SubR.consI rfl (Imp.of (by dsimp only;rw [List.length_append];rfl))) (SubR.cons rfl SubR.nil))))) ((SubKR.consI rfl (ImpK.of xf4.symm)) ((SubKR.consI rfl (ImpK.of xf4.symm)) SubKR.nil)) (SupG.val (SupG.val (SupG.own rfl (SupG.own rfl (SupG.own rfl SupG.nil))))) (SupH.cons rfl (supJ xd3) (SupH.cons rfl (supJ xd3) SupH.nil)) (lkOk rfl) rfl rfl (fun _ h=>by cases h)
  ·
   refine A8 ?_
   refine RE (xt9 (f:=tSn) (xs:=zs) (fun _ h=>h) (xn8 rfl) rfl) ⟨rfl,trivial⟩ ⟨rfl,trivial⟩ trivial ?_
   refine A4 ?_
   exact xc5 Plain.mk' rfl rfl rfl (Le.of (by rw [if_pos hall,hmk,hz,show i=(srt cfSn xs).length by omega,List.take_length])) (Le.int (by rw [if_pos hall]))
end An.S
namespace An
open Go
theorem C_renS {P:Program} {c:Base} {g:Slots} {h:Keys} {al:Names} {Q:Exit→Act→World→Prop} {x:Code} {t k es off len:Nat} {y:HEnt} (k':Nat) (hs:g t=some (.own (.sl k es off len))) (hk:h k=some y) (hk':al k'=false)
  (H:wc P c x Q (upd g t (some (.own (.sl k' es off len)))) (upd (upd h k none) k' (some y)) (fun j=>Nat.beq j k' || al j)):wc P c x Q g h al:=fun a w hst=>by
 obtain ⟨η,s⟩:=hst
 have s2:=s.rename hk hk'
 have h1:=(s2.slot t _ hs).2.2
 have hk1:k≠k':=fun e=>by have:=(s.key k _ hk).1;rw [e,hk'] at this;cases this
 obtain ⟨hb,hc⟩:=η.set_other (k:=k') (j:=k) (η.b k) (η.c k) hk1
 have h2:Ent.sat (c.dom (upd (upd h k none) k' (some y)) (η.set k' (η.b k) (η.c k))) w (η.set k' (η.b k) (η.c k)) (.own (.sl k' es off len)) (a.tmps.getD t undef):=by
  obtain ⟨A,e1,e2,e3⟩:=h1
  rw [hc] at e1 e2 e3;rw [hb] at e3
  exact ⟨A,by rw [Env.set_c];exact e1,by rw [Env.set_c];exact e2,by rw [Env.set_c,Env.set_b];exact e3⟩
 have s3:=s2.put (s2.slot t _ hs).1 h2 fun j hj=>by
  simp only [Ent.supp,VP.supp,List.mem_singleton] at hj
  subst hj;simp
 have ea:a.put (some t) (a.tmps.getD t undef)=a:=by
  have hlt:t < a.tmps.size:=by rw [s.tn];exact (s.slot t _ hs).1
  have:a.tmps.setIfInBounds t (a.tmps.getD t undef)=a.tmps:=by
   apply Array.ext_getElem?
   intro i
   rw [Array.getElem?_setIfInBounds]
   by_cases hi:t=i
   ·subst hi;simp [hlt]
   ·simp [hi]
  simp only [Act.put,this]
 rw [ea] at s3
 exact H a w ⟨_,s3⟩
end An
namespace An.S
open Go Go.Proofs An
instance fi51:FnI Tryz.prog 51:=⟨_,Tryz.func51,by kernel_rfl,rfl⟩
instance fi138:FnI Tryz.prog 138:=⟨_,Tryz.func138,by kernel_rfl,rfl⟩
instance fi139:FnI Tryz.prog 139:=⟨_,Tryz.func139,by kernel_rfl,rfl⟩
instance fi174:FnI Tryz.prog 174:=⟨_,Tryz.func174,by kernel_rfl,rfl⟩
theorem el37:ElI Tryz.prog 37 8 96 true (.agg #[.int .i64 0,.int .i64 0,.int .u8 0,.bool false,.slice none 0 0,.bool false,.slice none 0 0,.int .i64 0]):=⟨ti37,by kernel_rfl,by kernel_rfl⟩
theorem bu37:BuI Tryz.prog 37 (fun i=>[(0,1),(1,1),(2,6)][i]?) (.agg #[.int .i64 0,.int .i64 0,.int .u8 0,.bool false,.slice none 0 0,.bool false,.slice none 0 0,.int .i64 0]):=BuI.struct Tryz.underlying37 (by kernel_rfl) (by kernel_rfl)
theorem zf37:Flat 8 true (.agg #[.int .i64 0,.int .i64 0,.int .u8 0,.bool false,.slice none 0 0,.bool false,.slice none 0 0,.int .i64 0]):=xs9 (by intro u hu;simp at hu;rcases hu with rfl | rfl | rfl | rfl | rfl | rfl | rfl | rfl <;> rfl)
def sOkA (l:List Sn) (i:Nat):Bool:=(l.getD i sn0).ok && decide ((l.getD i sn0).lo≠(l.getD i sn0).hi) && (decide (i=0) || decide ((l.getD (i - 1) sn0).hi < (l.getD i sn0).lo))
def sVal (l:List Sn):Bool:=(List.range l.length).all (sOkA l)
theorem xt0 {l:List Sn} {i:Nat}:sOkA l i=true↔(l.getD i sn0).ok=true∧(l.getD i sn0).lo≠(l.getD i sn0).hi∧(i=0∨(l.getD (i - 1) sn0).hi < (l.getD i sn0).lo):=by
 simp only [sOkA,Bool.and_eq_true,Bool.or_eq_true,decide_eq_true_eq,and_assoc]
theorem sVal_at {l:List Sn} {i:Nat} (h:sVal l=true) (hi:i < l.length):0≤(l.getD i sn0).lo∧(l.getD i sn0).lo < (l.getD i sn0).hi∧(l.getD i sn0).hi≤65536:=by
 have h1:=xt0.1 (List.all_eq_true.1 h i (List.mem_range.2 hi))
 simp only [Sn.ok,Bool.and_eq_true,decide_eq_true_eq] at h1
 omega
theorem c_paste (zs ps:List Tst) (hz:zs.length≤1000000) (hp:ps.length≤1000000) (hD: ∀s∈ps,s.v.f.n.l.length≤1000000∧s.v.f.d.l.length≤1000000):
  CtG Tryz.prog 139 [(1,⟨37,8,true,rV tTs zs⟩)] [.own (.sl 1 8 0 zs.length),.val (tL 8 true tTs ps)] (.own (.sl 90 8 0 (pst zs ps).length)) [(90,⟨37,8,true,rV tTs (pst zs ps)⟩)] [90]:=by
 refine CtG.intro [1] Tryz.func139 rfl Tryz.ntmps139 rfl rfl ⟨⟨rfl,xd3⟩,trivial⟩ ?_
 intro w F η
 refine C_renS (t:=0) (k:=1) 90 rfl rfl rfl ?_
 refine A14 ?_
 refine cL (fun (fm:(Nat)×(List Tst))=>(fun (i:Nat) (xs:List Tst)=>i≤ps.length∧xs=pst zs (ps.take i)) fm.1 fm.2) (fun (fm:(Nat)×(List Tst))=>(fun (i:Nat) (xs:List Tst)=>upd (upd (upd (upd (fun _=>none) 0 (some (.own (.sl 90 8 0 xs.length)))) 8 (some (.val (tL 8 true tTs ps)))) 9 (some (.val (tI ps.length)))) 10 (some (.val (tI i)))) fm.1 fm.2) (fun (fm:(Nat)×(List Tst))=>(fun (i:Nat) (xs:List Tst)=>upd (fun _=>none) 90 (some (⟨37,8,true,rV tTs xs⟩))) fm.1 fm.2) [90,1] (fun (fm:(Nat)×(List Tst))=>(fun (i:Nat) (xs:List Tst)=>ps.length - i) fm.1 fm.2) ((0,zs)) (by dsimp only;exact ⟨Nat.zero_le _,rfl⟩) (hh:=((SubK.consI rfl ImpK.refl) SubK.nil)) ?_
 intro fm hI
 obtain ⟨i,xs⟩:=fm
 replace hI:i≤ps.length∧xs=pst zs (ps.take i):=hI
 show wc _ _ _ _ (upd (upd (upd (upd (fun _=>none) 0 (some (.own (.sl 90 8 0 xs.length)))) 8 (some (.val (tL 8 true tTs ps)))) 9 (some (.val (tI ps.length)))) 10 (some (.val (tI i)))) (upd (fun _=>none) 90 (some (⟨37,8,true,rV tTs xs⟩))) _
 obtain ⟨hi,hx⟩:=hI
 have hxl:xs.length≤zs.length+i:=by
  have h:=pst_len (ps.take i) zs
  rw [←hx,List.length_take] at h;omega
 refine A6 ?_
 refine x9 rfl (fun h68=> ?_) (fun h68=> ?_)
 ·
  refine A6 ?_
  refine R2 (x6 sl22 (i) (by omega) (gD (l:=ps) (n:=i) (d:=tst0) (by omega))) rfl rfl ?_
  refine A1 ?_
  refine RE (x5 (k:=6) (n:=8) (agg:=true) zr37.1 zr37.2 rfl) trivial trivial ⟨rfl,trivial⟩ ?_
  refine A13 ?_
  refine x9 rfl (fun h69=> ?_) (fun h69=> ?_)
  ·
   refine A8 ?_
   exact kF ((i+1,xs)) ⟨(by dsimp only;exact ⟨by omega,by rw [xs0 _ (by omega),←hx,pst1,if_pos (by omega)]⟩),(by dsimp only;omega)⟩ (hh:=((SubK.consI rfl ImpK.refl) SubK.nil))
  ·
   refine A14 ?_
   refine RGcaseD (t:=23) rfl (fun h72=> ?_) (fun h72=> ?_)
   ·
    refine A2 ?_
    refine RGon (decide_eq_true h72) rfl (xe4 (wr64 (by omega) (by omega))) rfl ⟨rfl,rfl,trivial⟩ trivial trivial (RGon (decide_eq_true h72) rfl (xa5 sl22 (by omega) (by omega) rfl) rfl ⟨rfl,rfl,trivial⟩ trivial trivial ?_)
    refine A1 ?_
    refine RGon (decide_eq_true h72) rfl (xr0 (es:=8) (o:=1) (xs.length - 1) ti3 (xn1 (d:=tst0) (by omega)) (At.g 1 rfl rfl) (by omega)) rfl ⟨rfl,trivial⟩ ⟨rfl,trivial⟩ trivial ?_
    refine A5 ?_
    refine RGcaseD (t:=34) rfl (fun h72_2=> ?_) (fun h72_2=> ?_)
    ·
     refine A2 ?_
     refine RGon (decide_eq_true h72_2) rfl (xe4 (wr64 (by omega) (by omega))) rfl ⟨rfl,rfl,trivial⟩ trivial trivial (RGon (decide_eq_true h72_2) rfl (xa5 sl22 (by omega) (by omega) rfl) rfl ⟨rfl,rfl,trivial⟩ trivial trivial ?_)
     refine A1 ?_
     refine RGon (decide_eq_true h72_2) rfl (xr0 (es:=8) (o:=2) (xs.length - 1) ti35 (xn1 (d:=tst0) (by omega)) (At.g 2 rfl rfl) (by omega)) rfl ⟨rfl,trivial⟩ ⟨rfl,trivial⟩ trivial ?_
     refine A2 ?_
     refine RGon (decide_eq_true h72_2) rfl (x3 (c_TSame _ _) fi76 rfl) rfl ⟨rfl,rfl,trivial⟩ trivial trivial ?_
     refine A3 ?_
     refine x9 rfl (fun h72_3=> ?_) (fun h72_3=> ?_)
     ·
      refine A6 ?_
      refine R2 (xa5 sl22 (by omega) (by omega) rfl) rfl rfl ?_
      refine A1 ?_
      refine RE (xs8 (es:=8) (o:=1) (t2:=tTs ⟨(xs.getD (xs.length - 1) tst0).lo,(ps.getD i tst0).hi,(xs.getD (xs.length - 1) tst0).v⟩) (xs.length - 1) ti3 (xn1 (d:=tst0) (by omega)) (Up.g 1 rfl rfl rfl) (by omega) (rV_set rfl)) ⟨rfl,rfl,trivial⟩ ⟨rfl,trivial⟩ trivial ?_
      refine A7 ?_
      exact kF ((i+1,(xs.set (xs.length - 1) ⟨(xs.getD (xs.length - 1) tst0).lo,(ps.getD i tst0).hi,(xs.getD (xs.length - 1) tst0).v⟩))) ⟨(by dsimp only;exact ⟨by omega,by rw [xs0 _ (by omega),←hx,pst1,if_neg (by omega),if_pos ⟨by omega,by omega,h72_3⟩]⟩),(by dsimp only;omega)⟩ (hg:=(sI (sI (sC ((Sub.consI rfl (Imp.of (by dsimp only;rw [List.length_set]))) Sub.nil))))) (hh:=((SubK.consI rfl ImpK.refl) SubK.nil))
     ·
      refine A8 ?_
      refine R1 (x3 (c_copied _ (hD _ (xb9 (l:=ps) (by omega))).1 (hD _ (xb9 (l:=ps) (by omega))).2) fi174 rfl) rfl (R3 (xa7 (r:=tS [⟨1,false,tI (ps.getD i tst0).lo⟩,⟨1,false,tI (ps.getD i tst0).hi⟩,⟨6,true,tVa (ps.getD i tst0).v⟩]) (ts:=[(0,tI (ps.getD i tst0).lo),(1,tI (ps.getD i tst0).hi),(2,tVa (ps.getD i tst0).v)]) bu37 zr37.2 (Bc 0 rfl rfl rfl (Bc 1 rfl rfl rfl (Bc 2 rfl rfl rfl Le.refl)))) rfl rfl rfl (R1 (xc6 (n:=1) (f:=tTs) [(ps.getD i tst0)] Tryz.underlying22 el37 zf37 rfl (fun _=>inferInstance) rfl rfl rfl) rfl (RE (xc2 (k:=90) (k':=62) (f:=tTs) (ys:=[(ps.getD i tst0)]) (ts':=rV tTs (xs++[(ps.getD i tst0)])) Tryz.underlying22 el37 zf37 rfl rfl (fun _=>inferInstance) xg3 (by simp;omega) (by simp;omega) (by simp [rV]) (n':=xs.length+1) rfl) ⟨rfl,rfl,trivial⟩ ⟨rfl,trivial⟩ ⟨rfl,trivial⟩ ?_)))
      refine A8 ?_
      exact xf7 (l:=[90,1]) (fun j=>cond (Nat.beq j 90) 62 (j)) ((i+1,xs++[(ps.getD i tst0)])) ⟨(by dsimp only;exact ⟨by omega,by rw [xs0 _ (by omega),←hx,pst1,if_neg (by omega),if_neg fun h=>h72_3 h.2.2]⟩),(by dsimp only;omega)⟩ (SubR.int rfl (by first | omega | rfl | (dsimp only;omega)) (SubR.int rfl (by first | omega | rfl | (dsimp only;omega)) (SubR.cons rfl ((SubR.consI rfl (Imp.of (by dsimp only;rw [List.length_append];rfl))) SubR.nil)))) ((SubKR.consI rfl (ImpK.of xf4.symm)) SubKR.nil) (SupG.val (SupG.val (SupG.val (SupG.own rfl SupG.nil)))) (SupH.cons rfl (supJ xd3) SupH.nil) (lkOk rfl) rfl rfl (fun _ h=>by cases h)
    ·
     refine A18 ?_
     refine A3 ?_
     refine R1 (x3 (c_copied _ (hD _ (xb9 (l:=ps) (by omega))).1 (hD _ (xb9 (l:=ps) (by omega))).2) fi174 rfl) rfl (R3 (xa7 (r:=tS [⟨1,false,tI (ps.getD i tst0).lo⟩,⟨1,false,tI (ps.getD i tst0).hi⟩,⟨6,true,tVa (ps.getD i tst0).v⟩]) (ts:=[(0,tI (ps.getD i tst0).lo),(1,tI (ps.getD i tst0).hi),(2,tVa (ps.getD i tst0).v)]) bu37 zr37.2 (Bc 0 rfl rfl rfl (Bc 1 rfl rfl rfl (Bc 2 rfl rfl rfl Le.refl)))) rfl rfl rfl (R1 (xc6 (n:=1) (f:=tTs) [(ps.getD i tst0)] Tryz.underlying22 el37 zf37 rfl (fun _=>inferInstance) rfl rfl rfl) rfl (RE (xc2 (k:=90) (k':=62) (f:=tTs) (ys:=[(ps.getD i tst0)]) (ts':=rV tTs (xs++[(ps.getD i tst0)])) Tryz.underlying22 el37 zf37 rfl rfl (fun _=>inferInstance) xg3 (by simp;omega) (by simp;omega) (by simp [rV]) (n':=xs.length+1) rfl) ⟨rfl,rfl,trivial⟩ ⟨rfl,trivial⟩ ⟨rfl,trivial⟩ ?_)))
     refine A8 ?_
     exact xf7 (l:=[90,1]) (fun j=>cond (Nat.beq j 90) 62 (j)) ((i+1,xs++[(ps.getD i tst0)])) ⟨(by dsimp only;exact ⟨by omega,by rw [xs0 _ (by omega),←hx,pst1,if_neg (by omega),if_neg (by omega)]⟩),(by dsimp only;omega)⟩ (SubR.int rfl (by first | omega | rfl | (dsimp only;omega)) (SubR.int rfl (by first | omega | rfl | (dsimp only;omega)) (SubR.cons rfl ((SubR.consI rfl (Imp.of (by dsimp only;rw [List.length_append];rfl))) SubR.nil)))) ((SubKR.consI rfl (ImpK.of xf4.symm)) SubKR.nil) (SupG.val (SupG.val (SupG.val (SupG.own rfl SupG.nil)))) (SupH.cons rfl (supJ xd3) SupH.nil) (lkOk rfl) rfl rfl (fun _ h=>by cases h)
   ·
    refine A18 ?_
    refine A14 ?_
    refine R1 (x3 (c_copied _ (hD _ (xb9 (l:=ps) (by omega))).1 (hD _ (xb9 (l:=ps) (by omega))).2) fi174 rfl) rfl (R3 (xa7 (r:=tS [⟨1,false,tI (ps.getD i tst0).lo⟩,⟨1,false,tI (ps.getD i tst0).hi⟩,⟨6,true,tVa (ps.getD i tst0).v⟩]) (ts:=[(0,tI (ps.getD i tst0).lo),(1,tI (ps.getD i tst0).hi),(2,tVa (ps.getD i tst0).v)]) bu37 zr37.2 (Bc 0 rfl rfl rfl (Bc 1 rfl rfl rfl (Bc 2 rfl rfl rfl Le.refl)))) rfl rfl rfl (R1 (xc6 (n:=1) (f:=tTs) [(ps.getD i tst0)] Tryz.underlying22 el37 zf37 rfl (fun _=>inferInstance) rfl rfl rfl) rfl (RE (xc2 (k:=90) (k':=62) (f:=tTs) (ys:=[(ps.getD i tst0)]) (ts':=rV tTs (xs++[(ps.getD i tst0)])) Tryz.underlying22 el37 zf37 rfl rfl (fun _=>inferInstance) xg3 (by simp;omega) (by simp;omega) (by simp [rV]) (n':=xs.length+1) rfl) ⟨rfl,rfl,trivial⟩ ⟨rfl,trivial⟩ ⟨rfl,trivial⟩ ?_)))
    refine A8 ?_
    exact xf7 (l:=[90,1]) (fun j=>cond (Nat.beq j 90) 62 (j)) ((i+1,xs++[(ps.getD i tst0)])) ⟨(by dsimp only;exact ⟨by omega,by rw [xs0 _ (by omega),←hx,pst1,if_neg (by omega),if_neg (by omega)]⟩),(by dsimp only;omega)⟩ (SubR.int rfl (by first | omega | rfl | (dsimp only;omega)) (SubR.int rfl (by first | omega | rfl | (dsimp only;omega)) (SubR.cons rfl ((SubR.consI rfl (Imp.of (by dsimp only;rw [List.length_append];rfl))) SubR.nil)))) ((SubKR.consI rfl (ImpK.of xf4.symm)) SubKR.nil) (SupG.val (SupG.val (SupG.val (SupG.own rfl SupG.nil)))) (SupH.cons rfl (supJ xd3) SupH.nil) (lkOk rfl) rfl rfl (fun _ h=>by cases h)
 ·
  refine A6 ?_
  have hil:i=ps.length:=by omega
  subst hil
  rw [List.take_length] at hx
  subst hx
  refine A6 ?_
  exact xf9 LentC.mk' rfl rfl Imp.refl ⟨rfl,trivial⟩ rfl ⟨⟨rfl,xd3⟩,trivial⟩ rfl
theorem getD_map {f:Tst→Tst} {l:List Tst} {i:Nat} (hi:i < l.length):(l.map f).getD i tst0=f (l.getD i tst0):=by
 rw [List.getD_eq_getElem?_getD,List.getD_eq_getElem?_getD,List.getElem?_map,List.getElem?_eq_getElem hi];rfl
theorem cut_next {a b:Int} {l:List Tst} {i:Nat} (hi:i < l.length):pst [] ((l.map (clip a b)).take (i+1))=pst (pst [] ((l.map (clip a b)).take i)) [clip a b (l.getD i tst0)]:=by
 rw [xs0 _ (by simpa using hi),getD_map hi];rfl
theorem c_Cut (l:List Tst) (a b:Int) (hl:l.length≤500000) (hD: ∀s∈l,s.v.f.dig):
  Ct Tryz.prog 106 [tL 8 true tTs l,tI a,tI b] (tT [tL 8 true tTs (if tRight l=true∧Sn.ok ⟨a,b⟩=true then cutT l a b else []),tI (if tRight l=true∧Sn.ok ⟨a,b⟩=true then 0 else 2)]):=by
 refine Ct.intro Tryz.func106 rfl Tryz.ntmps106 rfl ?_
 intro w F
 refine A10 ?_
 refine R1 (x3 (c_TRight l hD) fi51 rfl) rfl ?_
 refine A2 ?_
 refine RGcase (t:=14) rfl (fun h95=> ?_) (fun h95=> ?_)
 ·
  refine A16 ?_
  exact xc5 Plain.mk' rfl rfl rfl (leNil (by rw [if_neg fun h=>by rw [h.1] at h95;cases h95])) (Le.int (by rw [if_neg fun h=>by rw [h.1] at h95;cases h95]))
 ·
  refine A2 ?_
  refine RGon h95 rfl (x3 (c_isPart _ _) fi138 rfl) rfl ⟨rfl,rfl,trivial⟩ trivial trivial ?_
  refine A4 ?_
  refine xc0 rfl (fun h95_2=> ?_) (fun h95_2=> ?_)
  ·
   refine A8 ?_
   exact xc5 Plain.mk' rfl rfl rfl (leNil (by rw [if_neg fun h=>by rw [h.2] at h95_2;cases h95_2])) (Le.int (by rw [if_neg fun h=>by rw [h.2] at h95_2;cases h95_2]))
  ·
   refine A4 ?_
   refine RE (xj2 (k:=8) 37 8 true rfl (fun h=>by cases h)) trivial trivial ⟨rfl,trivial⟩ ?_
   refine A11 ?_
   have hok:tRight l=true∧Sn.ok ⟨a,b⟩=true:=⟨by simpa using h95,by simpa using h95_2⟩
   have hlen:=fun s hs=>va_len (xv4 hok.1 s hs)
   refine cL (fun (fm:(Nat)×(List Tst))=>(fun (i:Nat) (zs:List Tst)=>i≤l.length∧zs=pst [] ((l.map (clip a b)).take i)) fm.1 fm.2) (fun (fm:(Nat)×(List Tst))=>(fun (i:Nat) (zs:List Tst)=>upd (upd (upd (upd (upd (upd (fun _=>none) 1 (some (.val (tI a)))) 2 (some (.val (tI b)))) 8 (some (.own (.sl 8 8 0 zs.length)))) 20 (some (.val (tL 8 true tTs l)))) 21 (some (.val (tI l.length)))) 22 (some (.val (tI i)))) fm.1 fm.2) (fun (fm:(Nat)×(List Tst))=>(fun (i:Nat) (zs:List Tst)=>upd (fun _=>none) 8 (some (⟨37,8,true,rV tTs zs⟩))) fm.1 fm.2) [8] (fun (fm:(Nat)×(List Tst))=>(fun (i:Nat) (zs:List Tst)=>l.length - i) fm.1 fm.2) ((0,[])) (by dsimp only;exact ⟨Nat.zero_le _,rfl⟩) (hh:=((SubK.consI rfl ImpK.refl) SubK.nil)) ?_
   intro fm hI
   obtain ⟨i,zs⟩:=fm
   replace hI:i≤l.length∧zs=pst [] ((l.map (clip a b)).take i):=hI
   show wc _ _ _ _ (upd (upd (upd (upd (upd (upd (fun _=>none) 1 (some (.val (tI a)))) 2 (some (.val (tI b)))) 8 (some (.own (.sl 8 8 0 zs.length)))) 20 (some (.val (tL 8 true tTs l)))) 21 (some (.val (tI l.length)))) 22 (some (.val (tI i)))) (upd (fun _=>none) 8 (some (⟨37,8,true,rV tTs zs⟩))) _
   obtain ⟨hi,hz⟩:=hI
   have hzl:zs.length≤i:=by
    have h:=pst_len ((l.map (clip a b)).take i) []
    rw [←hz,List.length_take] at h;simp at h;omega
   refine A6 ?_
   refine x9 rfl (fun h99=> ?_) (fun h99=> ?_)
   ·
    refine A6 ?_
    refine R2 (x6 sl22 (i) (by omega) (gD (l:=l) (n:=i) (d:=tst0) (by omega))) rfl rfl ?_
    refine A1 ?_
    refine RE (x5 (k:=10) (n:=8) (agg:=true) zr37.1 zr37.2 rfl) trivial trivial ⟨rfl,trivial⟩ ?_
    refine A8 ?_
    refine R2 d_max2 rfl rfl ?_
    refine A3 ?_
    refine R2 d_min2 rfl rfl ?_
    refine A2 ?_
    refine R3 (xa7 (r:=tS [⟨1,false,tI (max (l.getD i tst0).lo a)⟩,⟨1,false,tI (min (l.getD i tst0).hi b)⟩,⟨6,true,tVa (l.getD i tst0).v⟩]) (ts:=[(0,tI (max (l.getD i tst0).lo a)),(1,tI (min (l.getD i tst0).hi b)),(2,tVa (l.getD i tst0).v)]) bu37 zr37.2 (Bc 0 rfl rfl rfl (Bc 1 rfl rfl rfl (Bc 2 rfl rfl rfl Le.refl)))) rfl rfl rfl (R1 (xc6 (n:=1) (f:=tTs) [(clip a b (l.getD i tst0))] Tryz.underlying22 el37 zf37 rfl (fun _=>inferInstance) rfl rfl rfl) rfl ?_)
    have hcl: ∀s∈[(clip a b (l.getD i tst0))],s.v.f.n.l.length≤1000000∧s.v.f.d.l.length≤1000000:=by
     intro s hs
     rw [List.mem_singleton.1 hs]
     have h:=hlen _ (xb9 (l:=l) (i:=i) (by omega))
     exact ⟨by show (l.getD i tst0).v.f.n.l.length≤_;omega,by show (l.getD i tst0).v.f.d.l.length≤_;omega⟩
    refine RE (xf0 (fun j=>cond (Nat.beq j 1) 8 (39)) (c_paste zs [(clip a b (l.getD i tst0))] (by omega) (by simp) hcl) fi139 rfl (krC (ρ:=fun j=>cond (Nat.beq j 1) 8 (39)) (k:=1) xf4 (krN (ρ:=fun j=>cond (Nat.beq j 1) 8 (39)))) (krC (ρ:=fun j=>cond (Nat.beq j 1) 8 (39)) (k:=90) xf4 (krN (ρ:=fun j=>cond (Nat.beq j 1) 8 (39)))) ⟨⟨rfl,xd3⟩,trivial⟩ rfl) ⟨rfl,rfl,trivial⟩ ⟨rfl,trivial⟩ ⟨rfl,trivial⟩ ?_
    refine A8 ?_
    exact xf7 (l:=[8]) (fun j=>cond (Nat.beq j 8) 39 (j)) ((i+1,pst zs [(clip a b (l.getD i tst0))])) ⟨(by dsimp only;exact ⟨by omega,by rw [cut_next (by omega),←hz]⟩),(by dsimp only;omega)⟩ (SubR.int rfl (by first | omega | rfl | (dsimp only;omega)) (SubR.int rfl (by first | omega | rfl | (dsimp only;omega)) (SubR.cons rfl (SubR.cons rfl (SubR.int rfl (by first | omega | rfl | (dsimp only;omega)) (SubR.int rfl (by first | omega | rfl | (dsimp only;omega)) SubR.nil)))))) ((SubKR.consI rfl (ImpK.of xf4.symm)) SubKR.nil) (SupG.val (SupG.val (SupG.val (SupG.own rfl (SupG.val (SupG.val SupG.nil)))))) (SupH.cons rfl (supJ xd3) SupH.nil) (lkOk rfl) rfl rfl (fun _ h=>by cases h)
   ·
    refine A8 ?_
    refine RE (xt9 (f:=tTs) (xs:=zs) (fun _ h=>h) (xn8 rfl) rfl) ⟨rfl,trivial⟩ ⟨rfl,trivial⟩ trivial ?_
    refine A4 ?_
    exact xc5 Plain.mk' rfl rfl rfl (Le.of (by rw [if_pos hok,hz,cutT,show i=(l.map (clip a b)).length by simp;omega,List.take_length])) (Le.int (by rw [if_pos hok]))
end An.S
namespace An
open Go
theorem pst_all {P:Tst→Prop} (hset: ∀a s,P a→P s→a.hi=s.lo→P ⟨a.lo,s.hi,a.v⟩): ∀(ps acc:List Tst),(∀s∈acc,P s)→(∀s∈ps,s.lo < s.hi→P s)→ ∀s∈pst acc ps,P s
 | [],acc,ha,_=>ha
 | s::r,acc,ha,hp=>by
  refine pst_all hset r (pst1 acc s) ?_ fun x hx=>hp x (List.mem_cons_of_mem _ hx)
  intro x hx
  rw [pst1] at hx
  split at hx
  ·exact ha x hx
  ·rename_i h1
   split at hx
   ·rename_i h2
    rcases List.mem_or_eq_of_mem_set hx with h | h
    ·exact ha x h
    ·subst h
     exact hset _ s (ha _ (xb9 (by omega))) (hp s (List.mem_cons_self ..) (by omega)) h2.2.1
   ·rcases List.mem_append.1 hx with h | h
    ·exact ha x h
    ·rw [List.mem_singleton.1 h];exact hp s (List.mem_cons_self ..) (by omega)
theorem xi4 {l:List Tst} (h:tRight l=true) {i:Nat} (hi:i < l.length):0≤(l.getD i tst0).lo∧(l.getD i tst0).lo < (l.getD i tst0).hi∧(l.getD i tst0).hi≤65536∧(i=0∨(l.getD (i - 1) tst0).hi≤(l.getD i tst0).lo∧(l.getD (i - 1) tst0).v.kind=(l.getD i tst0).v.kind∧ ¬((l.getD (i - 1) tst0).hi=(l.getD i tst0).lo∧(l.getD (i - 1) tst0).v=(l.getD i tst0).v)):=by
 simp only [tRight,Bool.and_eq_true,List.all_eq_true] at h
 exact xt2.1 (h.1 i (List.mem_range.2 hi))
theorem kind_at {l:List Tst} (h:tRight l=true): ∀{i:Nat},i < l.length→(l.getD i tst0).v.kind=(l.getD 0 tst0).v.kind
 | 0,_=>rfl
 | i+1,hi=>by
  rcases (xi4 h hi).2.2.2 with h0 | h0
  ·omega
  ·rw [←h0.2.1];exact kind_at h (by omega)
theorem xp7 {l:List Tst} {s:Tst} (hs:s∈l): ∃i,i < l.length∧s=l.getD i tst0:=by
 obtain ⟨i,hi,e⟩:=List.getElem_of_mem hs
 exact ⟨i,hi,by rw [List.getD_eq_getElem?_getD,List.getElem?_eq_getElem hi];exact e.symm⟩
def sNum (s:Tst):Prop:=0≤s.lo∧s.lo < s.hi∧s.hi≤65536∧s.v.f=fr s.v.f.rat∧short s.v.f.rat
def numK (l:List Tst):Prop:=l.length=0∨(l.getD 0 tst0).v.kind=2∨(l.getD 0 tst0).v.kind=3
instance (l:List Tst):Decidable (numK l):=inferInstanceAs (Decidable (_∨_))
theorem num_fr {v:Va} (hv:v.valid=true) (hD:v.f.dig) (hk:v.kind=2∨v.kind=3):v.f=fr v.f.rat∧short v.f.rat:=by
 rw [Va.valid,if_pos hk,Bool.and_eq_true] at hv
 exact Fr.of_valid' hD hv.2
theorem num_mem {l:List Tst} (h:tRight l=true) (hD: ∀s∈l,s.v.f.dig) (hk:numK l) {s:Tst} (hs:s∈l):sNum s:=by
 obtain ⟨i,hi,rfl⟩:=xp7 hs
 have h1:=xi4 h hi
 have h2:=kind_at h hi
 have h3:=num_fr (xv4 h _ hs) (hD _ hs) (by rw [h2];rcases hk with h0 | h0;omega;exact h0)
 exact ⟨h1.1,h1.2.1,h1.2.2.1,h3⟩
theorem cut_num {l:List Tst} {a b:Int} (h:tRight l=true) (hD: ∀s∈l,s.v.f.dig) (hk:numK l): ∀s∈cutT l a b,sNum s:=by
 refine pst_all (P:=sNum) (fun x s hx hs e=>⟨hx.1,by have:=hx.2.1;have:=hs.2.1;dsimp only;omega,hs.2.2.1,hx.2.2.2⟩) _ _ (fun s hs=>by cases hs) fun s hs hlt=> ?_
 obtain ⟨x,hx,rfl⟩:=List.mem_map.1 hs
 have h1:=num_mem h hD hk hx
 simp only [clip] at hlt
 refine ⟨?_,hlt,?_,h1.2.2.2⟩
 ·have:=h1.1;simp only [clip];omega
 ·have:=h1.2.2.1;simp only [clip];omega
def sumStep:Option Rat→Tst→Option Rat
 | none,_=>none
 | some q,s=>if short (s.v.f.rat*((s.hi - s.lo:Int):Rat))∧short (q+s.v.f.rat*((s.hi - s.lo:Int):Rat)) then some (q+s.v.f.rat*((s.hi - s.lo:Int):Rat)) else none
def sumT (l:List Tst):Option Rat:=l.foldl sumStep (some ((0:Int):Rat))
theorem xg4 {l:List Tst} {i:Nat} (hi:i < l.length):sumT (l.take (i+1))=sumStep (sumT (l.take i)) (l.getD i tst0):=by
 rw [List.take_succ_eq_append_getElem hi,sumT,List.foldl_append,List.getD_eq_getElem?_getD,List.getElem?_eq_getElem hi];rfl
theorem xs3: ∀l:List Tst,l.foldl sumStep none=none
 | []=>rfl
 | _::r=>xs3 r
theorem xj7 {l:List Tst} {i:Nat} (h:sumT (l.take i)=none):sumT l=none:=by
 rw [sumT,←List.take_append_drop i l,List.foldl_append]
 rw [sumT] at h;rw [h];exact xs3 _
def sumF:Option Rat→Fr
 | some q=>fr q
 | none=>fr0
def sumE:Option Rat→Int
 | some _=>0
 | none=>3
def sumC (l:List Tst) (a b:Int):Prop:=(tRight l=true∧Sn.ok ⟨a,b⟩=true)∧numK l
instance (l:List Tst) (a b:Int):Decidable (sumC l a b):=inferInstanceAs (Decidable (_∧_))
theorem xg8 {q:Rat} (h:resFE q=0):short q:=by
 rw [resFE] at h;split at h
 ·assumption
 ·cases h
theorem xe7 {q:Rat} (h: ¬resFE q=0): ¬short q:=fun hs=>h (if_pos hs)
end An
namespace An.S
open Go Go.Proofs An
instance fi75:FnI Tryz.prog 75:=⟨_,Tryz.func75,by kernel_rfl,rfl⟩
instance fi106:FnI Tryz.prog 106:=⟨_,Tryz.func106,by kernel_rfl,rfl⟩
instance fi107:FnI Tryz.prog 107:=⟨_,Tryz.func107,by kernel_rfl,rfl⟩
instance fi108:FnI Tryz.prog 108:=⟨_,Tryz.func108,by kernel_rfl,rfl⟩
theorem c_FMulT (f:Fr) (n:Int) (hf:f=fr f.rat) (hs:short f.rat) (hn:short (n:Rat)):Ct Tryz.prog 107 [tFr f,tFr (fr (n:Rat))] (tT [tFr (resF (f.rat*(n:Rat))),tI (resFE (f.rat*(n:Rat)))]):=by
 have h:=c_FMul f.rat n hs hn
 rw [←hf] at h;exact h
theorem c_FAddR (q p:Rat) (hq:short q) (hp:short p):Ct Tryz.prog 108 [tFr (fr q),tFr (resF p)] (tT [tFr (resF (q+p)),tI (resFE (q+p))]):=by
 rw [show resF p=fr p from if_pos hp];exact c_FAdd q p hq hp
theorem c_TSum (l:List Tst) (a b:Int) (hl:l.length≤500000) (hD: ∀s∈l,s.v.f.dig):
  Ct Tryz.prog 73 [tL 8 true tTs l,tI a,tI b] (tT [tFr (if sumC l a b then sumF (sumT (cutT l a b)) else fr0),tI (if sumC l a b then sumE (sumT (cutT l a b)) else 2)]):=by
 have hcut:=c_Cut l a b hl hD
 obtain ⟨part,hpart⟩: ∃p:List Tst,p=(if (tRight l=true∧Sn.ok ⟨a,b⟩=true) then cutT l a b else []):=⟨_,rfl⟩
 obtain ⟨er,her⟩: ∃e:Int,e=(if (tRight l=true∧Sn.ok ⟨a,b⟩=true) then 0 else 2):=⟨_,rfl⟩
 rw [←hpart,←her] at hcut
 refine Ct.intro Tryz.func73 rfl Tryz.ntmps73 rfl ?_
 intro w F
 refine A2 ?_
 refine RE (x5 (k:=6) (n:=4) (agg:=true) zr33.1 zr33.2 rfl) trivial trivial ⟨rfl,trivial⟩ ?_
 refine A8 ?_
 refine R3 (x3 hcut fi106 rfl) rfl rfl rfl ?_
 refine A14 ?_
 refine x9 rfl (fun h181=> ?_) (fun h181=> ?_)
 ·
  have hb0: ¬(tRight l=true∧Sn.ok ⟨a,b⟩=true):=fun h=>h181 (by rw [her,if_pos h])
  have hb: ¬sumC l a b:=fun h=>hb0 h.1
  refine A2 ?_
  refine R0 (xa7 (r:=tS [⟨2,true,(tS [⟨1,false,(tE (.bool false))⟩,⟨1,false,(tLm [])⟩])⟩,⟨2,true,(tS [⟨1,false,(tE (.bool false))⟩,⟨1,false,(tLm [])⟩])⟩]) (ts:=[]) bu33 zr33.2 Le.refl) ?_
  refine A7 ?_
  exact xa8 Plain.mk' (rs:=[.cell 6 33,.tmp 7]) rfl rfl ⟨⟨_,_,_,_,_,rfl,rfl,ti33,(Le.of (by rw [if_neg hb];rfl))⟩,⟨_,rfl,(Le.int (by rw [if_neg hb,her,if_neg hb0]))⟩,trivial⟩
 ·
  have hok:(tRight l=true∧Sn.ok ⟨a,b⟩=true):=Classical.byContradiction fun h=>h181 (by rw [her,if_neg h];decide)
  refine A2 ?_
  refine xg0 (fun (_j:Unit)=>numK l) (fun (_j:Unit)=>upd (upd (fun _=>none) 6 (some (.own (.ptr 6 0)))) 8 (some (.val (tL 8 true tTs part)))) (fun (_j:Unit)=>upd (fun _=>none) 6 (some (⟨33,4,true,[.val (tFr fr0)]⟩))) (nm [6]) ?_ ?_
  ·
   refine A6 ?_
   refine RGcaseD (t:=29) rfl (fun h184=> ?_) (fun h184=> ?_)
   ·
    refine A1 ?_
    refine RGon (decide_eq_true h184) rfl (x6 sl22 (0) (by omega) (gD (l:=l) (n:=0) (d:=tst0) (by omega))) rfl ⟨rfl,rfl,trivial⟩ trivial trivial (RGon (decide_eq_true h184) rfl (xb4 fo37_2.h (At.f 2 rfl rfl) rfl) rfl ⟨rfl,trivial⟩ trivial trivial (RGon (decide_eq_true h184) rfl (xb4 fo35_0.h (At.f 0 rfl rfl) rfl) rfl ⟨rfl,trivial⟩ trivial trivial ?_))
    refine A4 ?_
    refine RGcaseD (t:=37) rfl (fun h184_2=> ?_) (fun h184_2=> ?_)
    ·
     refine A1 ?_
     refine RGon (decide_eq_true h184_2) rfl (x6 sl22 (0) (by omega) (gD (l:=l) (n:=0) (d:=tst0) (by omega))) rfl ⟨rfl,rfl,trivial⟩ trivial trivial (RGon (decide_eq_true h184_2) rfl (xb4 fo37_2.h (At.f 2 rfl rfl) rfl) rfl ⟨rfl,trivial⟩ trivial trivial (RGon (decide_eq_true h184_2) rfl (xb4 fo35_0.h (At.f 0 rfl rfl) rfl) rfl ⟨rfl,trivial⟩ trivial trivial ?_))
     refine A5 ?_
     refine x9 rfl (fun h184_3=> ?_) (fun h184_3=> ?_)
     ·
      refine A2 ?_
      refine R0 (xa7 (r:=tS [⟨2,true,(tS [⟨1,false,(tE (.bool false))⟩,⟨1,false,(tLm [])⟩])⟩,⟨2,true,(tS [⟨1,false,(tE (.bool false))⟩,⟨1,false,(tLm [])⟩])⟩]) (ts:=[]) bu33 zr33.2 Le.refl) ?_
      refine A6 ?_
      exact xa8 Plain.mk' (rs:=[.cell 6 33,.tmp 7]) rfl rfl ⟨⟨_,_,_,_,_,rfl,rfl,ti33,(Le.of (by rw [if_neg (fun h=>by have:=h.2;simp only [numK] at this;omega)];rfl))⟩,⟨_,rfl,(Le.int (by rw [if_neg (fun h=>by have:=h.2;simp only [numK] at this;omega)]))⟩,trivial⟩
     ·
      refine A1 ?_
      exact kF (()) (by simp only [numK];omega) (hh:=((SubK.consI rfl ImpK.refl) SubK.nil))
    ·
     refine A11 ?_
     exact kF (()) (by simp only [numK];omega) (hh:=((SubK.consI rfl ImpK.refl) SubK.nil))
   ·
    refine A18 ?_
    refine A1 ?_
    exact kF (()) (by simp only [numK];omega) (hh:=((SubK.consI rfl ImpK.refl) SubK.nil))
  ·
   intro _j hnk
   refine A2 ?_
   refine R1 (x3 (xp1 0 (by decide) (by decide)) fi75 rfl) rfl (RE (x5 (k:=10) (n:=4) (agg:=true) zr33.1 zr33.2 rfl) trivial trivial ⟨rfl,trivial⟩ ?_)
   refine A12 ?_
   have hc:sumC l a b:=⟨hok,hnk⟩
   have hnum:=cut_num (a:=a) (b:=b) hok.1 hD hc.2
   rw [if_pos hok] at hpart
   rw [←hpart] at hnum
   refine xk1 (s:=47) rfl (fun hl0=> ?_)
   refine cL (fun (fm:(Nat)×(Rat))=>(fun (i:Nat) (q:Rat)=>i≤part.length∧sumT (part.take i)=some q∧short q) fm.1 fm.2) (fun (fm:(Nat)×(Rat))=>(fun (i:Nat) (q:Rat)=>upd (upd (upd (upd (upd (fun _=>none) 6 (some (.own (.ptr 6 0)))) 10 (some (.own (.ptr 10 0)))) 47 (some (.val (tL 8 true tTs part)))) 48 (some (.val (tI part.length)))) 49 (some (.val (tI i)))) fm.1 fm.2) (fun (fm:(Nat)×(Rat))=>(fun (i:Nat) (q:Rat)=>upd (upd (fun _=>none) 6 (some (⟨33,4,true,[.val (tFr fr0)]⟩))) 10 (some (⟨33,4,true,[.val (tFr (fr q))]⟩))) fm.1 fm.2) [6,10] (fun (fm:(Nat)×(Rat))=>(fun (i:Nat) (q:Rat)=>part.length - i) fm.1 fm.2) ((0,((0:Int):Rat))) (by dsimp only;exact ⟨Nat.zero_le _,rfl,xn2 (Nat.le_trans (len16_64 (by decide) (by decide)) (by decide))⟩) (hh:=((SubK.consI rfl ImpK.refl) ((SubK.consI rfl ImpK.refl) SubK.nil))) ?_
   intro fm hI
   obtain ⟨i,q⟩:=fm
   replace hI:i≤part.length∧sumT (part.take i)=some q∧short q:=hI
   show wc _ _ _ _ (upd (upd (upd (upd (upd (fun _=>none) 6 (some (.own (.ptr 6 0)))) 10 (some (.own (.ptr 10 0)))) 47 (some (.val (tL 8 true tTs part)))) 48 (some (.val (tI part.length)))) 49 (some (.val (tI i)))) (upd (upd (fun _=>none) 6 (some (⟨33,4,true,[.val (tFr fr0)]⟩))) 10 (some (⟨33,4,true,[.val (tFr (fr q))]⟩))) _
   obtain ⟨hi,hq,hs⟩:=hI
   refine A6 ?_
   refine x9 rfl (fun h188=> ?_) (fun h188=> ?_)
   ·
    refine A6 ?_
    obtain ⟨n1,n2,n3,n4,n5⟩:=hnum _ (xb9 (l:=part) (i:=i) (by omega))
    refine R2 (x6 sl22 (i) (by omega) (gD (l:=part) (n:=i) (d:=tst0) (by omega))) rfl rfl ?_
    refine A1 ?_
    refine RE (x5 (k:=12) (n:=8) (agg:=true) zr37.1 zr37.2 rfl) trivial trivial ⟨rfl,trivial⟩ ?_
    refine A7 ?_
    refine xj6 (0) ti33 rfl rfl rfl (At.t (At.g 2 rfl rfl) (At.g 1 rfl rfl)) rfl ?_
    refine A5 ?_
    refine R1 (x3 (xp1 ((part.getD i tst0).hi - (part.getD i tst0).lo) (by omega) (by omega)) fi75 rfl) rfl (R2 (x3 (c_FMulT (part.getD i tst0).v.f ((part.getD i tst0).hi - (part.getD i tst0).lo) n4 n5 (xn2 (Nat.le_trans (len16_64 (by omega) (by omega)) (by decide)))) fi107 rfl) rfl rfl ?_)
    refine A3 ?_
    refine RE (x5 (k:=13) (n:=4) (agg:=true) zr33.1 zr33.2 rfl) trivial trivial ⟨rfl,trivial⟩ ?_
    refine A11 ?_
    refine x9 rfl (fun h190=> ?_) (fun h190=> ?_)
    ·
     have hp:=xg8 h190
     refine A3 ?_
     refine R2 (x3 (c_FAddR q ((part.getD i tst0).v.f.rat*(((part.getD i tst0).hi - (part.getD i tst0).lo:Int):Rat)) hs hp) fi108 rfl) rfl rfl ?_
     refine A13 ?_
     refine x9 rfl (fun h193=> ?_) (fun h193=> ?_)
     ·
      refine A2 ?_
      refine R0 (xa7 (r:=tS [⟨2,true,(tS [⟨1,false,(tE (.bool false))⟩,⟨1,false,(tLm [])⟩])⟩,⟨2,true,(tS [⟨1,false,(tE (.bool false))⟩,⟨1,false,(tLm [])⟩])⟩]) (ts:=[]) bu33 zr33.2 Le.refl) ?_
      refine A11 ?_
      exact xa8 Plain.mk' (rs:=[.cell 6 33,.tmp 7]) rfl rfl ⟨⟨_,_,_,_,_,rfl,rfl,ti33,(Le.of (by rw [if_pos hc,←hpart,xj7 (i:=i+1) (by rw [xg4 (by omega),hq,sumStep,if_neg (fun h=>xe7 h193 h.2)])];rfl))⟩,⟨_,rfl,(Le.int (by rw [if_pos hc,←hpart,xj7 (i:=i+1) (by rw [xg4 (by omega),hq,sumStep,if_neg (fun h=>xe7 h193 h.2)]),resFE,if_neg (xe7 h193)];rfl))⟩,trivial⟩
     ·
      have h193z:=Decidable.not_not.1 h193
      refine A7 ?_
      exact kF ((i+1,q+((part.getD i tst0).v.f.rat*(((part.getD i tst0).hi - (part.getD i tst0).lo:Int):Rat)))) ⟨(by dsimp only;exact ⟨by omega,by rw [xg4 (by omega),hq,sumStep,if_pos ⟨hp,xg8 h193z⟩],xg8 h193z⟩),(by dsimp only;omega)⟩ (hh:=((SubK.consI rfl (ImpK.of (by dsimp only;rw [resF,if_pos (xg8 h193z)];rfl))) ((SubK.consI rfl ImpK.refl) SubK.nil)))
    ·
     refine A8 ?_
     refine x9 rfl (fun h193=> ?_) (fun h193=> ?_)
     ·
      refine A2 ?_
      refine R0 (xa7 (r:=tS [⟨2,true,(tS [⟨1,false,(tE (.bool false))⟩,⟨1,false,(tLm [])⟩])⟩,⟨2,true,(tS [⟨1,false,(tE (.bool false))⟩,⟨1,false,(tLm [])⟩])⟩]) (ts:=[]) bu33 zr33.2 Le.refl) ?_
      refine A11 ?_
      exact xa8 Plain.mk' (rs:=[.cell 6 33,.tmp 7]) rfl rfl ⟨⟨_,_,_,_,_,rfl,rfl,ti33,(Le.of (by rw [if_pos hc,←hpart,xj7 (i:=i+1) (by rw [xg4 (by omega),hq,sumStep,if_neg (fun h=>xe7 h193 h.1)])];rfl))⟩,⟨_,rfl,(Le.int (by rw [if_pos hc,←hpart,xj7 (i:=i+1) (by rw [xg4 (by omega),hq,sumStep,if_neg (fun h=>xe7 h193 h.1)]),resFE,if_neg (xe7 h193)];rfl))⟩,trivial⟩
     ·
      have h193z:=Decidable.not_not.1 h193
      refine A7 ?_
      exact kF ((i+1,q)) ⟨(by dsimp only;exact absurd h193z h190),(by dsimp only;omega)⟩ (hh:=((SubK.consI rfl ImpK.refl) ((SubK.consI rfl ImpK.refl) SubK.nil)))
   ·
    refine A13 ?_
    exact xa8 Plain.mk' (rs:=[.cell 6 33,.tmp 7]) rfl rfl ⟨⟨_,_,_,_,_,rfl,rfl,ti33,(Le.of (by rw [if_pos hc,←hpart,←List.take_length (l:=part),←show i=part.length by omega,hq];rfl))⟩,⟨_,rfl,(Le.int (by rw [if_pos hc,←hpart,←List.take_length (l:=part),←show i=part.length by omega,hq];rfl))⟩,trivial⟩
def askB (l:List Tst) (a b:Int):Bool:=sRight l && decide (0≤a) && decide (a≤65536) && decide (0≤b) && decide (b≤65536)
def q4:Rat:=4 / 1461
theorem len16_small {n:Int} (h1: -9223372036854775808≤n) (h2:n≤9223372036854775807):len16 n≤256:=Nat.le_trans (len16_64 h1 h2) (by decide)
theorem sum_short: ∀(l:List Tst) (o:Option Rat),(∀q,o=some q→short q)→ ∀q,l.foldl sumStep o=some q→short q
 | [],o,ho,q,h=>ho q h
 | s::r,o,ho,q,h=>sum_short r (sumStep o s) (fun p hp=>by
   cases o with
   | none=>cases hp
   | some x=>
    simp only [sumStep] at hp
    split at hp
    ·rename_i h2;cases hp;exact h2.2
    ·cases hp) q h
theorem sumT_short {l:List Tst} {q:Rat} (h:sumT l=some q):short q:=sum_short l _ (fun p hp=>by cases hp;exact xn2 (len16_small (by decide) (by decide))) q h
def mulO (q p:Rat):Option Rat:=if short (q*p) then some (q*p) else none
def yq (l:List Tst) (a b:Int):Option Rat:=if b≤a then some ((0:Int):Rat) else (sumT (cutT l a b)).bind fun q=>mulO q q4
theorem xu6 {o:Option Rat} (h: ∀q,o=some q→short q):sumE o=0→ ∃q,o=some q∧short q:=by
 cases o with
 | none=>intro h;cases h
 | some q=>intro _;exact ⟨q,rfl,h q rfl⟩
def capC (l:List Tst) (a b:Int) (f:Fr):Prop:=(f.valid=true∧f.n.neg=false)∧askB l a b=true
instance (l:List Tst) (a b:Int) (f:Fr):Decidable (capC l a b f):=inferInstanceAs (Decidable (_∧_))
end An.S
