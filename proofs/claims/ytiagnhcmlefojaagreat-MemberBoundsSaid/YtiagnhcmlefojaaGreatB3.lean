/- Part 3 of a proof: W8, Wh, Wh2, W9, Wh3, W10, Fr, W11, W12, Split, Tl, LibZa, S1, Ref, Ref2, Ref3, S2, S3, S4, Tl2, S5, LibZ, S6, LibZb, S7, Tl3, S8, Sv, Tv, Tv2, Tv3, LibZe, LibZd, Tw, LibZf. -/
import Derived.Shelf.SlSortCmp.NoneTotal
import Derived.Shelf.Sort.Plain
import Derived.Shelf.Slices.In.SortNone
import Derived.Shelf.Slices.CompactI
import Derived.Test.YtiagnhcmlefojaaGreatB2
set_option maxHeartbeats 4000000
set_option maxRecDepth 100000
namespace An.S
open Go Go.Proofs An
instance ti4:TyI Tryz.prog 4 1 false:=⟨by kernel_rfl,by kernel_rfl⟩
instance ti250:TyI Tryz.prog 250 5 true:=⟨by kernel_rfl,by kernel_rfl⟩
instance fo250_0:FoI Tryz.prog 250 0 0:=⟨by kernel_rfl⟩
instance fo250_1:FoI Tryz.prog 250 1 1:=⟨by kernel_rfl⟩
instance fo250_2:FoI Tryz.prog 250 2 2:=⟨by kernel_rfl⟩
instance fo250_3:FoI Tryz.prog 250 3 3:=⟨by kernel_rfl⟩
instance fo250_4:FoI Tryz.prog 250 4 4:=⟨by kernel_rfl⟩
instance fi178:FnI Tryz.prog 178:=⟨_,Tryz.func178,by kernel_rfl,rfl⟩
instance fi198:FnI Tryz.prog 198:=⟨_,Tryz.func198,by kernel_rfl,rfl⟩
instance fi199:FnI Tryz.prog 199:=⟨_,Tryz.func199,by kernel_rfl,rfl⟩
instance fi200:FnI Tryz.prog 200:=⟨_,Tryz.func200,by kernel_rfl,rfl⟩
instance fi201:FnI Tryz.prog 201:=⟨_,Tryz.func201,by kernel_rfl,rfl⟩
instance fi215:FnI Tryz.prog 215:=⟨_,Tryz.func215,by kernel_rfl,rfl⟩
theorem zr250:(Tryz.prog.info? 250).bind (·.zero)=some (.agg #[.int .u64 0,.int .u64 0,.int .u64 0,.int .u64 0,.bool false])∧ ∀F w,(tS [⟨1,false,(tE (.int .u64 0))⟩,⟨1,false,(tE (.int .u64 0))⟩,⟨1,false,(tE (.int .u64 0))⟩,⟨1,false,(tE (.int .u64 0))⟩,⟨1,false,(tE (.bool false))⟩]).p F w (.agg #[.int .u64 0,.int .u64 0,.int .u64 0,.int .u64 0,.bool false]):=⟨by kernel_rfl,fun _ _=>⟨_,rfl,rfl,⟨fun _=>rfl,rfl⟩,⟨fun _=>rfl,rfl⟩,⟨fun _=>rfl,rfl⟩,⟨fun _=>rfl,rfl⟩,⟨fun _=>rfl,rfl⟩,trivial⟩⟩
theorem bu250:BuI Tryz.prog 250 (fun i=>[(0,1),(1,1),(2,1),(3,1),(4,1)][i]?) (.agg #[.int .u64 0,.int .u64 0,.int .u64 0,.int .u64 0,.bool false]):=BuI.struct Tryz.underlying250 (by kernel_rfl) (by kernel_rfl)
theorem c_simulate (a b:Nat) (hab:b≤a) (hla:3≤(dig 4294967296 a).length) (ha:(dig 4294967296 a).length≤100000):
  Ct Tryz.prog 198 [tN a,tN b] (tX (fun y:Nat×Nat×Nat×Nat×Bool=>y.2.2.1=0∨Steps a b y.1 y.2.1 y.2.2.1 y.2.2.2.1 y.2.2.2.2) (fun y=>tS [⟨1,false,tE (.int .u64 ((y.1:Nat):Int))⟩,⟨1,false,tE (.int .u64 ((y.2.1:Nat):Int))⟩,⟨1,false,tE (.int .u64 ((y.2.2.1:Nat):Int))⟩,⟨1,false,tE (.int .u64 ((y.2.2.2.1:Nat):Int))⟩,⟨1,false,tB y.2.2.2.2⟩])):=by
 refine Ct.intro Tryz.func198 rfl Tryz.ntmps198 rfl ?_
 intro w F
 obtain ⟨k,hk⟩: ∃k,(dig 4294967296 a).length=k+3:=⟨(dig 4294967296 a).length - 3,by omega⟩
 have ht:=(xc7 x8 a).getD (by decide) (k+2)
 refine A2 ?_
 refine RE (x6 (k:=4) (n:=5) (agg:=true) zr250.1 zr250.2 rfl) trivial trivial ⟨rfl,trivial⟩ ?_
 refine A14 ?_
 refine R2 (x5 sl170 (k+2) (by omega) (gN (by omega))) rfl rfl ?_
 refine A1 ?_
 refine RE (x3 (xt6 _ (by omega)) fi204 rfl) ⟨rfl,trivial⟩ trivial trivial ?_
 refine A8 ?_
 generalize hs:32 - Lib.bitLen ((dig 4294967296 a).getD (k+2) 0)=s
 obtain ⟨hs31,hAW,_h1,_h2,_h3⟩:=norm (m:=k+1) hk hs
 have hBA0:b*2 ^ s≤a*2 ^ s:=Nat.mul_le_mul_right _ hab
 have hBA:(b*2 ^ s / 4294967296 ^ (k+1))≤(a*2 ^ s / 4294967296 ^ (k+1)):=Nat.div_le_div_right hBA0
 have hAL:(a*2 ^ s / 4294967296 ^ (k+1)) < 18446744073709551616:=head_lt (n:=k+3) (by omega) hAW
 refine RE (x3 (c_head a _ s k hk hs31 (by rw [hk];exact hAW) (by omega)) fi215 rfl) ⟨rfl,rfl,rfl,trivial⟩ trivial trivial ?_
 refine A3 ?_
 refine RE (x3 (c_head b _ s k hk hs31 (by rw [hk];exact Nat.lt_of_le_of_lt hBA0 hAW) (by omega)) fi215 rfl) ⟨rfl,rfl,rfl,trivial⟩ trivial trivial ?_
 refine A6 ?_
 refine R1 (xa6 (r:=tS [⟨1,false,(tE (.int .u64 0))⟩,⟨1,false,tE (.int .u64 ((1:Nat):Int))⟩,⟨1,false,(tE (.int .u64 0))⟩,⟨1,false,(tE (.int .u64 0))⟩,⟨1,false,(tE (.bool false))⟩]) (ts:=[(1,tE (.int .u64 ((1:Nat):Int)))]) bu250 zr250.2 (Bc 1 rfl rfl rfl Le.refl)) rfl (RE (x6 (k:=9) (n:=5) (agg:=true) zr250.1 zr250.2 rfl) trivial trivial ⟨rfl,trivial⟩ ?_)
 refine A11 ?_
 refine cL (fun (fm:(Nat)×(Nat)×(Nat)×(Nat)×(Nat)×(Nat)×(Nat)×(Nat)×(Bool))=>(fun (a1:Nat) (a2:Nat) (u0:Nat) (u1:Nat) (v0:Nat) (v1:Nat) (u2:Nat) (v2:Nat) (e:Bool)=>Sim (a*2 ^ s / 4294967296 ^ (k+1)) (b*2 ^ s / 4294967296 ^ (k+1)) a1 a2 u1 v1 u2 v2 e∧(v0=0∨Steps a b u0 u1 v0 v1 e)∧u1 < 4294967296∧v1 < 4294967296) fm.1 fm.2.1 fm.2.2.1 fm.2.2.2.1 fm.2.2.2.2.1 fm.2.2.2.2.2.1 fm.2.2.2.2.2.2.1 fm.2.2.2.2.2.2.2.1 fm.2.2.2.2.2.2.2.2) (fun (fm:(Nat)×(Nat)×(Nat)×(Nat)×(Nat)×(Nat)×(Nat)×(Nat)×(Bool))=>(fun (a1:Nat) (a2:Nat) (u0:Nat) (u1:Nat) (v0:Nat) (v1:Nat) (u2:Nat) (v2:Nat) (e:Bool)=>upd (upd (upd (upd (upd (upd (fun _=>none) 4 (some (.own (.ptr 4 0)))) 7 (some (.val (tE (.int .u64 ((a1:Nat):Int)))))) 8 (some (.val (tE (.int .u64 ((a2:Nat):Int)))))) 9 (some (.own (.ptr 9 0)))) 10 (some (.val (tE (.int .u64 ((u2:Nat):Int)))))) 11 (some (.val (tE (.int .u64 ((v2:Nat):Int)))))) fm.1 fm.2.1 fm.2.2.1 fm.2.2.2.1 fm.2.2.2.2.1 fm.2.2.2.2.2.1 fm.2.2.2.2.2.2.1 fm.2.2.2.2.2.2.2.1 fm.2.2.2.2.2.2.2.2) (fun (fm:(Nat)×(Nat)×(Nat)×(Nat)×(Nat)×(Nat)×(Nat)×(Nat)×(Bool))=>(fun (a1:Nat) (a2:Nat) (u0:Nat) (u1:Nat) (v0:Nat) (v1:Nat) (u2:Nat) (v2:Nat) (e:Bool)=>upd (upd (fun _=>none) 4 (some (⟨250,5,true,[.val (tS [⟨1,false,tE (.int .u64 ((0:Nat):Int))⟩,⟨1,false,tE (.int .u64 ((0:Nat):Int))⟩,⟨1,false,tE (.int .u64 ((0:Nat):Int))⟩,⟨1,false,tE (.int .u64 ((0:Nat):Int))⟩,⟨1,false,tB false⟩])]⟩))) 9 (some (⟨250,5,true,[.val (tS [⟨1,false,tE (.int .u64 ((u0:Nat):Int))⟩,⟨1,false,tE (.int .u64 ((u1:Nat):Int))⟩,⟨1,false,tE (.int .u64 ((v0:Nat):Int))⟩,⟨1,false,tE (.int .u64 ((v1:Nat):Int))⟩,⟨1,false,tB e⟩])]⟩))) fm.1 fm.2.1 fm.2.2.1 fm.2.2.2.1 fm.2.2.2.2.1 fm.2.2.2.2.2.1 fm.2.2.2.2.2.2.1 fm.2.2.2.2.2.2.2.1 fm.2.2.2.2.2.2.2.2) [4,9] (fun (fm:(Nat)×(Nat)×(Nat)×(Nat)×(Nat)×(Nat)×(Nat)×(Nat)×(Bool))=>(fun (a1:Nat) (a2:Nat) (u0:Nat) (u1:Nat) (v0:Nat) (v1:Nat) (u2:Nat) (v2:Nat) (e:Bool)=>a2) fm.1 fm.2.1 fm.2.2.1 fm.2.2.2.1 fm.2.2.2.2.1 fm.2.2.2.2.2.1 fm.2.2.2.2.2.2.1 fm.2.2.2.2.2.2.2.1 fm.2.2.2.2.2.2.2.2) (((a*2 ^ s / 4294967296 ^ (k+1)),(b*2 ^ s / 4294967296 ^ (k+1)),0,1,0,0,0,1,false)) (by dsimp only;exact ⟨Sim.init hBA,.inl rfl,by omega,by omega⟩) (hh:=((SubK.consI rfl ImpK.refl) ((SubK.consI rfl ImpK.refl) SubK.nil))) ?_
 intro fm hI
 obtain ⟨a1,a2,u0,u1,v0,v1,u2,v2,e⟩:=fm
 replace hI:Sim (a*2 ^ s / 4294967296 ^ (k+1)) (b*2 ^ s / 4294967296 ^ (k+1)) a1 a2 u1 v1 u2 v2 e∧(v0=0∨Steps a b u0 u1 v0 v1 e)∧u1 < 4294967296∧v1 < 4294967296:=hI
 show wc _ _ _ _ (upd (upd (upd (upd (upd (upd (fun _=>none) 4 (some (.own (.ptr 4 0)))) 7 (some (.val (tE (.int .u64 ((a1:Nat):Int)))))) 8 (some (.val (tE (.int .u64 ((a2:Nat):Int)))))) 9 (some (.own (.ptr 9 0)))) 10 (some (.val (tE (.int .u64 ((u2:Nat):Int)))))) 11 (some (.val (tE (.int .u64 ((v2:Nat):Int)))))) (upd (upd (fun _=>none) 4 (some (⟨250,5,true,[.val (tS [⟨1,false,tE (.int .u64 ((0:Nat):Int))⟩,⟨1,false,tE (.int .u64 ((0:Nat):Int))⟩,⟨1,false,tE (.int .u64 ((0:Nat):Int))⟩,⟨1,false,tE (.int .u64 ((0:Nat):Int))⟩,⟨1,false,tB false⟩])]⟩))) 9 (some (⟨250,5,true,[.val (tS [⟨1,false,tE (.int .u64 ((u0:Nat):Int))⟩,⟨1,false,tE (.int .u64 ((u1:Nat):Int))⟩,⟨1,false,tE (.int .u64 ((v0:Nat):Int))⟩,⟨1,false,tE (.int .u64 ((v1:Nat):Int))⟩,⟨1,false,tB e⟩])]⟩))) _
 obtain ⟨hS,hR,hu1,hv1⟩:=hI
 have hge:=hS.ge
 have hpos:=hS.pos
 have ha1:a1≤(a*2 ^ s / 4294967296 ^ (k+1)):=by have h:=hS.sumA;have h2:a1≤v2*a1:=Nat.le_mul_of_pos_left _ hpos;omega
 refine A7 ?_
 refine RGcaseD (t:=34) rfl (fun h53=> ?_) (fun h53=> ?_)
 ·
  have hc:v2≤a2:=by omega
  refine A2 ?_
  refine RGon (decide_eq_true h53) rfl (xe1 (wsub64 (by omega) (by omega))) rfl ⟨rfl,rfl,trivial⟩ trivial trivial ?_
  refine A3 ?_
  obtain ⟨s1,s2,s3,s4,s5,s6⟩:=hS.small (by omega) hAL hBA
  refine RGon (decide_eq_true h53) rfl (xg9 (wadd64 (by omega))) rfl ⟨rfl,rfl,trivial⟩ trivial trivial ?_
  refine A4 ?_
  refine x9 rfl (fun h53_2=> ?_) (fun h53_2=> ?_)
  ·
   have hcd:v1+v2≤a1 - a2:=by omega
   refine A7 ?_
   refine R2 (d_quo (r:=((a1 / a2:Nat):Int)) (by omega) (wquo64 (by omega))) rfl rfl ?_
   refine A2 ?_
   refine R2 (d_rem (by omega) wrem64) rfl rfl ?_
   refine A18 ?_
   refine A3 ?_
   refine R2 (xh9 (wmul64 (by omega))) rfl rfl (R2 (xg9 (wadd64 (by omega))) rfl rfl ?_)
   refine A1 ?_
   refine xo5 (0) ti116 rfl rfl rfl rfl (Up.g 0 rfl rfl rfl) rfl rfl ?_
   refine A1 ?_
   refine xo5 (0) ti116 rfl rfl rfl rfl (Up.g 1 rfl rfl rfl) rfl rfl ?_
   refine A12 ?_
   refine R2 (xh9 (wmul64 (by omega))) rfl rfl (R2 (xg9 (wadd64 (by omega))) rfl rfl ?_)
   refine A1 ?_
   refine xo5 (0) ti116 rfl rfl rfl rfl (Up.g 2 rfl rfl rfl) rfl rfl ?_
   refine A1 ?_
   refine xo5 (0) ti116 rfl rfl rfl rfl (Up.g 3 rfl rfl rfl) rfl rfl ?_
   refine A8 ?_
   refine xo5 (0) ti4 rfl rfl rfl rfl (Up.g 4 rfl rfl rfl) rfl rfl ?_
   refine A2 ?_
   have hst:=hS.step hc
   have hnx:=hS.steps (s:=s) (Nat.pow_pos (by decide)) rfl rfl hc hcd hAL hu1 hv1
   obtain ⟨m1,m2⟩:=hS.small32 hc hAL
   have hlt:a1%a2 < a2:=Nat.mod_lt _ (by omega)
   exact kF ((a2,a1%a2,u1,u2,v1,v2,u1+(a1 / a2)*u2,v1+(a1 / a2)*v2,!e)) ⟨(by dsimp only;exact ⟨hst,hnx,m1,m2⟩),(by dsimp only;omega)⟩ (hh:=((SubK.consI rfl ImpK.refl) ((SubK.consI rfl ImpK.refl) SubK.nil)))
  ·
   refine A12 ?_
   exact xc2 Plain.mk' rfl ⟨_,_,_,_,_,rfl,rfl,ti250,(fun F w v h=>⟨(u0,u1,v0,v1,e),hR,h⟩)⟩
 ·
  refine A18 ?_
  refine A6 ?_
  exact xc2 Plain.mk' rfl ⟨_,_,_,_,_,rfl,rfl,ti250,(fun F w v h=>⟨(u0,u1,v0,v1,e),hR,h⟩)⟩
theorem c_commonDivisor (a b:Nat) (ha:(dig 4294967296 a).length≤100000) (hb:(dig 4294967296 b).length≤100000):
  Ct Tryz.prog 177 [tN a,tN b] (tN (Nat.gcd a b)):=by
 refine Ct.intro Tryz.func177 rfl Tryz.ntmps177 rfl ?_
 intro w F
 refine A5 ?_
 refine xh1 (fun (fm:(Nat)×(Nat))=>(fun (p:Nat) (q:Nat)=>q≤p∧Nat.gcd p q=Nat.gcd a b∧(dig 4294967296 p).length≤100000) fm.1 fm.2) (fun (fm:(Nat)×(Nat))=>(fun (p:Nat) (q:Nat)=>upd (upd (fun _=>none) 0 (some (.val (tN p)))) 1 (some (.val (tN q)))) fm.1 fm.2) (fun (fm:(Nat)×(Nat))=>(fun (p:Nat) (q:Nat)=>fun _=>none) fm.1 fm.2) (nm []) ?_ ?_
 ·
  refine A4 ?_
  refine RE (x3 (c_compare _ _) fi107 rfl) ⟨rfl,rfl,trivial⟩ trivial trivial ?_
  refine A3 ?_
  refine x9 rfl (fun h10=> ?_) (fun h10=> ?_)
  ·
   refine A6 ?_
   exact kF ((b,a)) (by dsimp only;exact ⟨Nat.le_of_lt (xq4.1 h10),Nat.gcd_comm _ _,hb⟩)
  ·
   refine A1 ?_
   exact kF ((a,b)) (by dsimp only;exact ⟨by have:=mt xq4.2 h10;omega,rfl,ha⟩)
 ·
  intro fm hj
  obtain ⟨p,q⟩:=fm
  replace hj:q≤p∧Nat.gcd p q=Nat.gcd a b∧(dig 4294967296 p).length≤100000:=hj
  show wc _ _ _ _ (upd (upd (fun _=>none) 0 (some (.val (tN p)))) 1 (some (.val (tN q)))) (fun _=>none) _
  obtain ⟨j1,j2,j3⟩:=hj
  refine A2 ?_
  refine cL (fun (fm:(Nat)×(Nat))=>(fun (x:Nat) (y:Nat)=>y≤x∧Nat.gcd x y=Nat.gcd a b∧(dig 4294967296 x).length≤100000) fm.1 fm.2) (fun (fm:(Nat)×(Nat))=>(fun (x:Nat) (y:Nat)=>upd (upd (fun _=>none) 0 (some (.val (tN x)))) 1 (some (.val (tN y)))) fm.1 fm.2) (fun (fm:(Nat)×(Nat))=>(fun (x:Nat) (y:Nat)=>fun _=>none) fm.1 fm.2) [] (fun (fm:(Nat)×(Nat))=>(fun (x:Nat) (y:Nat)=>x+y) fm.1 fm.2) ((p,q)) (by dsimp only;exact ⟨j1,j2,j3⟩) ?_
  intro fm hI
  obtain ⟨x,y⟩:=fm
  replace hI:y≤x∧Nat.gcd x y=Nat.gcd a b∧(dig 4294967296 x).length≤100000:=hI
  show wc _ _ _ _ (upd (upd (fun _=>none) 0 (some (.val (tN x)))) 1 (some (.val (tN y)))) (fun _=>none) _
  obtain ⟨hle,hg,hl⟩:=hI
  have hyx:=xd8 x8 hle
  refine A8 ?_
  refine x9 rfl (fun h13=> ?_) (fun h13=> ?_)
  ·
   have hy0:0 < y:=by
    rcases Nat.eq_zero_or_pos y with h | h
    ·subst h;rw [xc6] at h13;simp at h13
    ·exact h
   refine A7 ?_
   refine R2 (x3 (c_simulate x y (by omega) (by omega) (by omega)) fi198 rfl) rfl rfl (RE (x6 (k:=5) (n:=5) (agg:=true) zr250.1 zr250.2 rfl) trivial trivial ⟨rfl,trivial⟩ (RE (xb4 (agg:=true) (es:=5) (0) ti250 rfl rfl rfl) ⟨rfl,rfl,trivial⟩ ⟨rfl,trivial⟩ trivial ?_))
   refine A3 ?_
   refine C_caseK (k:=5) rfl ?_
   rintro ⟨u0,u1,v0,v1,e⟩ hst
   refine C_key (k:=5) (e':=⟨250,5,true,[.val (tS [⟨1,false,tE (.int .u64 ((u0:Nat):Int))⟩,⟨1,false,tE (.int .u64 ((u1:Nat):Int))⟩,⟨1,false,tE (.int .u64 ((v0:Nat):Int))⟩,⟨1,false,tE (.int .u64 ((v1:Nat):Int))⟩,⟨1,false,tB e⟩])]⟩) rfl rfl ?_
   refine A6 ?_
   refine x9 rfl (fun h15=> ?_) (fun h15=> ?_)
   ·
    refine A4 ?_
    refine RE (x3 (c_divide _ _ (by omega) (by omega) (by omega)) fi178 rfl) ⟨rfl,rfl,trivial⟩ trivial trivial ?_
    refine A14 ?_
    have hlt:x%y < y:=Nat.mod_lt _ hy0
    exact kF ((y,x%y)) ⟨(by dsimp only;exact ⟨by omega,by rw [Nat.gcd_comm,←Nat.gcd_rec,Nat.gcd_comm];exact hg,by omega⟩),(by dsimp only;omega)⟩
   ·
    have hst:=hst.resolve_left (by show ¬v0=0;omega)
    obtain ⟨k1,k2,k3,k4,X,Y,hE,hO,hYX,hsum,hgg⟩:=hst
    replace k1:u0 < 4294967296:=k1
    replace k2:u1 < 4294967296:=k2
    replace k3:v0 < 4294967296:=k3
    replace k4:v1 < 4294967296:=k4
    refine A6 ?_
    refine xc1 rfl (fun h18=> ?_) (fun h18=> ?_)
    ·
     obtain ⟨e1,e2⟩:=hE h18
     replace e1:u0*x=v0*y+X:=e1
     replace e2:v1*y=u1*x+Y:=e2
     refine A7 ?_
     refine RE (x3 (xp8 _ _ _ _ (by omega) (by omega) (by omega) (by omega) (by omega)) fi199 rfl) ⟨rfl,rfl,rfl,rfl,trivial⟩ trivial trivial ?_
     refine A6 ?_
     refine RE (x3 (xp8 _ _ _ _ (by omega) (by omega) (by omega) (by omega) (by omega)) fi199 rfl) ⟨rfl,rfl,rfl,rfl,trivial⟩ trivial trivial ?_
     refine A4 ?_
     have hXl:=xd8 x8 (show X≤x by omega)
     exact kF ((X,Y)) ⟨(by dsimp only;exact ⟨hYX,by rw [hgg];exact hg,by omega⟩),(by dsimp only;omega)⟩ (hg:=(Sub.le rfl (Le.of (by dsimp only;rw [show v1*y - u1*x=Y by omega])) (Sub.le rfl (Le.of (by dsimp only;rw [show u0*x - v0*y=X by omega])) Sub.nil)))
    ·
     obtain ⟨e1,e2⟩:=hO h18
     replace e1:v0*y=u0*x+X:=e1
     replace e2:u1*x=v1*y+Y:=e2
     refine A7 ?_
     refine RE (x3 (xp8 _ _ _ _ (by omega) (by omega) (by omega) (by omega) (by omega)) fi199 rfl) ⟨rfl,rfl,rfl,rfl,trivial⟩ trivial trivial ?_
     refine A6 ?_
     refine RE (x3 (xp8 _ _ _ _ (by omega) (by omega) (by omega) (by omega) (by omega)) fi199 rfl) ⟨rfl,rfl,rfl,rfl,trivial⟩ trivial trivial ?_
     refine A4 ?_
     have hXl:=xd8 x8 (show X≤x by omega)
     exact kF ((X,Y)) ⟨(by dsimp only;exact ⟨hYX,by rw [hgg];exact hg,by omega⟩),(by dsimp only;omega)⟩ (hg:=(Sub.le rfl (Le.of (by dsimp only;rw [show u1*x - v1*y=Y by omega])) (Sub.le rfl (Le.of (by dsimp only;rw [show v0*y - u0*x=X by omega])) Sub.nil)))
  ·
   refine A13 ?_
   refine x9 rfl (fun h24=> ?_) (fun h24=> ?_)
   ·
    refine A8 ?_
    have hy0:y=0:=(xi7 x8).1 (List.length_eq_zero_iff.1 (by omega))
    subst hy0
    exact x4 Plain.mk' rfl rfl (Le.of (by rw [←hg,Nat.gcd_zero_right]))
   ·
    have hy0:0 < y:=by
     rcases Nat.eq_zero_or_pos y with h | h
     ·subst h;rw [xc6] at h24;simp at h24
     ·exact h
    refine A2 ?_
    refine xh1 (fun (fm:(Nat)×(Nat))=>(fun (p2:Nat) (q2:Nat)=>Nat.gcd p2 q2=Nat.gcd a b∧(dig 4294967296 p2).length≤2∧(dig 4294967296 q2).length≤2) fm.1 fm.2) (fun (fm:(Nat)×(Nat))=>(fun (p2:Nat) (q2:Nat)=>upd (upd (fun _=>none) 0 (some (.val (tN p2)))) 1 (some (.val (tN q2)))) fm.1 fm.2) (fun (fm:(Nat)×(Nat))=>(fun (p2:Nat) (q2:Nat)=>fun _=>none) fm.1 fm.2) (nm []) ?_ ?_
    ·
     refine A7 ?_
     refine x9 rfl (fun h27=> ?_) (fun h27=> ?_)
     ·
      refine A4 ?_
      refine RE (x3 (c_divide _ _ (by omega) (by omega) (by omega)) fi178 rfl) ⟨rfl,rfl,trivial⟩ trivial trivial ?_
      refine A13 ?_
      have hlt:x%y < y:=Nat.mod_lt _ hy0
      have hml:=xd8 x8 (Nat.le_of_lt hlt)
      exact kF ((y,x%y)) (by dsimp only;exact ⟨by rw [Nat.gcd_comm,←Nat.gcd_rec,Nat.gcd_comm];exact hg,by omega,by omega⟩)
     ·
      refine A1 ?_
      exact kF ((x,y)) (by dsimp only;exact ⟨hg,by omega,by omega⟩)
    ·
     intro fm hm
     obtain ⟨p2,q2⟩:=fm
     replace hm:Nat.gcd p2 q2=Nat.gcd a b∧(dig 4294967296 p2).length≤2∧(dig 4294967296 q2).length≤2:=hm
     show wc _ _ _ _ (upd (upd (fun _=>none) 0 (some (.val (tN p2)))) 1 (some (.val (tN q2)))) (fun _=>none) _
     obtain ⟨m1,m2,m3⟩:=hm
     refine A3 ?_
     refine R1 (x3 (c_long (dig 4294967296 p2) (by omega) (xc7 x8 _)) fi200 rfl) rfl ?_
     refine A1 ?_
     refine R1 (x3 (c_long (dig 4294967296 q2) (by omega) (xc7 x8 _)) fi200 rfl) rfl ?_
     refine A6 ?_
     have hp2:=(xb0 x8 p2 2).1 m2
     have hq2:=(xb0 x8 q2 2).1 m3
     refine cL (fun (fm:(Nat)×(Nat))=>(fun (r:Nat) (t:Nat)=>Nat.gcd r t=Nat.gcd a b∧r < 18446744073709551616∧t < 18446744073709551616) fm.1 fm.2) (fun (fm:(Nat)×(Nat))=>(fun (r:Nat) (t:Nat)=>upd (upd (fun _=>none) 10 (some (.val (tE (.int .u64 ((r:Nat):Int)))))) 11 (some (.val (tE (.int .u64 ((t:Nat):Int)))))) fm.1 fm.2) (fun (fm:(Nat)×(Nat))=>(fun (r:Nat) (t:Nat)=>fun _=>none) fm.1 fm.2) [] (fun (fm:(Nat)×(Nat))=>(fun (r:Nat) (t:Nat)=>t) fm.1 fm.2) ((p2,q2)) (by dsimp only;exact ⟨m1,hp2,hq2⟩) (hg:=(Sub.le rfl (Le.int (by dsimp only;rw [xp4 x8])) (Sub.le rfl (Le.int (by dsimp only;rw [xp4 x8])) Sub.nil))) ?_
     intro fm hT
     obtain ⟨r,t⟩:=fm
     replace hT:Nat.gcd r t=Nat.gcd a b∧r < 18446744073709551616∧t < 18446744073709551616:=hT
     show wc _ _ _ _ (upd (upd (fun _=>none) 10 (some (.val (tE (.int .u64 ((r:Nat):Int)))))) 11 (some (.val (tE (.int .u64 ((t:Nat):Int)))))) (fun _=>none) _
     obtain ⟨t1,t2,t3⟩:=hT
     refine A7 ?_
     refine x9 rfl (fun h32=> ?_) (fun h32=> ?_)
     ·
      refine A7 ?_
      refine R2 (d_rem (by omega) wrem64) rfl rfl ?_
      refine A4 ?_
      have hlt:r%t < t:=Nat.mod_lt _ (by omega)
      exact kF ((t,r%t)) ⟨(by dsimp only;exact ⟨by rw [Nat.gcd_comm,←Nat.gcd_rec,Nat.gcd_comm];exact t1,by omega,by omega⟩),(by dsimp only;omega)⟩
     ·
      refine A8 ?_
      refine RE (x3 (c_short _ (by omega)) fi201 rfl) ⟨rfl,trivial⟩ trivial trivial ?_
      refine A4 ?_
      exact x4 Plain.mk' rfl rfl (Le.of (by rw [←t1,show t=0 by omega,Nat.gcd_zero_right]))
end An.S
namespace An
open Go
structure Wh where
  neg:Bool
  l:List Nat
deriving DecidableEq
abbrev tWh (x:Wh):Ty:=tS [⟨1,false,tB x.neg⟩,⟨1,false,tLm x.l⟩]
def wh (z:Int):Wh:=⟨decide (z < 0),dig 65536 z.natAbs⟩
def len16 (z:Int):Nat:=(dig 65536 z.natAbs).length
def Wh.valid (x:Wh):Bool:=if x.l.length=0 then !x.neg else decide (x.l.length≤1024) && decide (x.l.getD (x.l.length - 1) 0≠0)
theorem xa9:2≤65536:=by decide
theorem val_zero_of_dig {l:List Nat} (hD:Dig 65536 l) (ht:Top l) (h:val 65536 l=0):l=[]:=by
 have:=dig_unique xa9 hD ht
 rw [h,xc6] at this;exact this.symm
theorem Wh.of_valid {x:Wh} (hD:Dig 65536 x.l) (h:x.valid=true): ∃z:Int,x=wh z∧len16 z≤1024:=by
 obtain ⟨neg,l⟩:=x
 simp only [Wh.valid] at h
 split at h
 ·rename_i h0
  have hl:l=[]:=List.length_eq_zero_iff.1 h0
  subst hl
  refine ⟨0,?_,by simp [len16,xc6]⟩
  have:neg=false:=by simpa using h
  subst this
  simp [wh,xc6]
 ·rename_i h0
  simp only [Bool.and_eq_true,decide_eq_true_eq] at h
  have ht:Top l:=by
   intro x hx
   have h1:l.getD (l.length - 1) 0=x:=by
    rw [List.getD_eq_getElem?_getD,←List.getLast?_eq_getElem?,hx];rfl
   rw [←h1];exact h.2
  have hu:=dig_unique xa9 hD ht
  have hv:val 65536 l≠0:=fun h'=>h0 (by have hl0:l=[]:=val_zero_of_dig hD ht h';rw [hl0];rfl)
  refine ⟨if neg then -(val 65536 l:Int) else (val 65536 l:Int),?_,?_⟩
  ·cases neg with
   | true=>
    simp only [wh,↓reduceIte,Int.natAbs_neg,Int.natAbs_natCast]
    rw [hu];congr 1;simp;omega
   | false=>
    simp only [wh,Bool.false_eq_true,↓reduceIte,Int.natAbs_natCast]
    rw [hu];simp
  ·have e:(if neg then -(val 65536 l:Int) else (val 65536 l:Int)).natAbs=val 65536 l:=by cases neg <;> simp
   rw [len16,e,hu];exact h.1
theorem valid_wh {z:Int} (h:len16 z≤1024):(wh z).valid=true:=by
 unfold Wh.valid
 by_cases h0:(wh z).l.length=0
 ·rw [if_pos h0]
  have:z.natAbs=0:=(xi7 xa9).1 (List.length_eq_zero_iff.1 h0)
  show (!decide (z < 0))=true
  simp;omega
 ·rw [if_neg h0]
  have h1:(wh z).l.length≤1024:=h
  simp only [Bool.and_eq_true,decide_eq_true_eq]
  refine ⟨h1,?_⟩
  have ht:Top (wh z).l:=dig_Top xa9 z.natAbs
  refine ht _ ?_
  rw [List.getLast?_eq_getElem?,List.getD_eq_getElem?_getD]
  rw [List.getElem?_eq_getElem (by omega)];rfl
def sgn (p:Bool) (v:Nat):Int:=if p then -(v:Int) else v
theorem natAbs_sgn (p:Bool) (v:Nat):(sgn p v).natAbs=v:=by cases p <;> simp [sgn]
theorem wh_sgn (p:Bool) (v:Nat):wh (sgn p v)=⟨p && decide (v≠0),dig 65536 v⟩:=by
 simp only [wh,natAbs_sgn]
 congr 1
 cases p
 ·simp [sgn]
 ·simp only [sgn,↓reduceIte,Bool.true_and]
  by_cases h:v=0 <;> simp [h];omega
theorem sgn_wh (z:Int):sgn (wh z).neg z.natAbs=z:=by
 simp only [sgn,wh]
 by_cases h:z < 0 <;> simp [h] <;> omega
theorem wh_inj {x y:Int} (h:wh x=wh y):x=y:=by
 have h1:dig 65536 x.natAbs=dig 65536 y.natAbs:=congrArg Wh.l h
 have h2:(wh x).neg=(wh y).neg:=congrArg Wh.neg h
 have h3:x.natAbs=y.natAbs:=by rw [←xp4 xa9 x.natAbs,h1,xp4 xa9]
 rw [←sgn_wh x,←sgn_wh y,h2,h3]
theorem pow2k (k:Nat):4294967296 ^ k=65536 ^ (2*k):=by rw [Nat.pow_mul]
theorem len32 (v:Nat):(dig 4294967296 v).length=((dig 65536 v).length+1) / 2:=by
 have h: ∀k,(dig 4294967296 v).length≤k↔(dig 65536 v).length≤2*k:=fun k=>by
  rw [xb0 x8,xb0 xa9,pow2k]
 have h1:=(h (dig 4294967296 v).length).1 (Nat.le_refl _)
 have h2:=(h (((dig 65536 v).length+1) / 2)).2 (by omega)
 omega
theorem pack_dig (v:Nat):dgs 4294967296 (((dig 65536 v).length+1) / 2) (val 65536 (dig 65536 v))=dig 4294967296 v:=by
 rw [xp4 xa9,←len32,xp7 x8]
theorem unpack_in {v i n:Nat} {ls:List Nat} (hi:i < n) (hl:ls.length=2*n) (ht:ls.take (2*i)=dgs 65536 (2*i) v):
  ((ls.set (2*i) (v / 4294967296 ^ i%4294967296%65536)).set (2*i+1) (v / 4294967296 ^ i%4294967296 / 2 ^ 16)).length=2*n∧
   ((ls.set (2*i) (v / 4294967296 ^ i%4294967296%65536)).set (2*i+1) (v / 4294967296 ^ i%4294967296 / 2 ^ 16)).take (2*(i+1))=dgs 65536 (2*(i+1)) v:=by
 refine ⟨by simpa using hl,?_⟩
 rw [show 2*(i+1)=2*i+1+1 by omega,xi2 (by simpa using (by omega:2*i+1 < ls.length)),xi2 (by omega),ht,xj9,xj9,pow2k]
 congr 1
 ·congr 2
  exact Nat.mod_mod_of_dvd _ (by decide)
 ·congr 1
  show v / 65536 ^ (2*i)%4294967296 / 65536=_
  rw [Nat.pow_succ 65536 (2*i),←Nat.div_div_eq_div_mul]
  have: ∀x:Nat,x%4294967296 / 65536=x / 65536%65536:=fun x=>by omega
  exact this _
theorem unpack_end {v n:Nat} {ls:List Nat} (hn:(dig 4294967296 v).length=n) (hv:0 < v) (hl:ls.length=2*n) (ht:ls.take (2*n)=dgs 65536 (2*n) v):
  (ls.getD (2*n - 1) 0=0→ls.take (2*n - 1)=dig 65536 v)∧(ls.getD (2*n - 1) 0≠0→ls=dig 65536 v)∧1≤n:=by
 have h32:=len32 v
 rw [hn] at h32
 have h16:=len_pos xa9 hv
 rw [←hl,List.take_length,hl] at ht
 subst ht
 have hg:(dgs 65536 (2*n) v).getD (2*n - 1) 0=v / 65536 ^ (2*n - 1)%65536:=xq5 (by omega)
 refine ⟨fun h=> ?_,fun h=> ?_,by omega⟩
 ·rw [hg] at h
  rw [take_dgs (by omega)]
  have h1:v < 65536 ^ (2*n - 1):=by
   have h2:=(xb0 xa9 v (2*n)).1 (by omega)
   have e:65536 ^ (2*n)=65536 ^ (2*n - 1)*65536:=by rw [←Nat.pow_succ];congr 1;omega
   rw [e] at h2
   have h3:v / 65536 ^ (2*n - 1) < 65536:=Nat.div_lt_of_lt_mul h2
   rw [Nat.mod_eq_of_lt h3] at h
   exact (Nat.div_eq_zero_iff_lt (Nat.pow_pos (by decide))).1 h
  have h4:=(xb0 xa9 v (2*n - 1)).2 h1
  have h5:(dig 65536 v).length=2*n - 1:=by omega
  rw [←h5,xp7 xa9]
 ·rw [hg] at h
  have h4: ¬(dig 65536 v).length≤2*n - 1:=fun h'=>h (by rw [Nat.div_eq_of_lt ((xb0 xa9 v _).1 h')])
  have h5:(dig 65536 v).length=2*n:=by omega
  rw [←h5,xp7 xa9]
theorem cut16 {m:Nat}:IntKind.u16.wrap (m:Int)=((m%65536:Nat):Int):=by rw [mu16];omega
end An
namespace An
def resW (z:Int):Wh:=if len16 z≤1024 then wh z else ⟨false,[]⟩
def resE (z:Int):Int:=if len16 z≤1024 then 0 else 3
theorem len32_le {z:Int} {n:Nat} (h:len16 z≤n):(dig 4294967296 z.natAbs).length≤n:=by
 have h1:(dig 65536 z.natAbs).length≤n:=h
 rw [len32];omega
theorem len_add {m n k:Nat} (hm:(dig 4294967296 m).length≤k) (hn:(dig 4294967296 n).length≤k):(dig 4294967296 (m+n)).length≤k+1:=by
 rw [xb0 x8] at*
 rw [Nat.pow_succ];generalize (4294967296:Nat) ^ k=P at*;omega
theorem len_mul {m n k:Nat} (hm:(dig 4294967296 m).length≤k) (hn:(dig 4294967296 n).length≤k):(dig 4294967296 (m*n)).length≤k+k:=by
 rw [xb0 x8] at*
 rw [Nat.pow_add]
 exact Nat.mul_lt_mul'' hm hn
theorem len_gcd {m n k:Nat} (hm:(dig 4294967296 m).length≤k) (hn:(dig 4294967296 n).length≤k):(dig 4294967296 (Nat.gcd m n)).length≤k:=by
 rcases Nat.eq_zero_or_pos m with h | h
 ·subst h;rw [Nat.gcd_zero_left];exact hn
 ·exact Nat.le_trans (xd8 x8 (Nat.gcd_le_left n h)) hm
theorem sgn_add {p:Bool} {m n:Nat}:sgn p (m+n)=sgn p m+sgn p n:=by
 cases p <;> simp only [sgn,Bool.false_eq_true,↓reduceIte] <;> omega
theorem sgn_sub {p:Bool} {m n:Nat} (h:n≤m):sgn p (m - n)=sgn p m+sgn (!p) n:=by
 cases p <;> simp only [sgn,Bool.false_eq_true,↓reduceIte,Bool.not_true,Bool.not_false] <;> omega
theorem sgn_sub' {p:Bool} {m n:Nat} (h:m≤n):sgn (!p) (n - m)=sgn p m+sgn (!p) n:=by
 cases p <;> simp only [sgn,Bool.false_eq_true,↓reduceIte,Bool.not_true,Bool.not_false] <;> omega
theorem sgn_mul {x y:Int}:sgn (!((wh x).neg==(wh y).neg)) (x.natAbs*y.natAbs)=x*y:=by
 have hx:=sgn_wh x
 have hy:=sgn_wh y
 conv=>rhs;rw [←hx,←hy]
 generalize (wh x).neg=p
 generalize (wh y).neg=q
 cases p <;> cases q <;> simp [sgn,Int.mul_neg,Int.neg_mul]
def cmpZ (x y:Int):Int:=if x < y then -1 else if x=y then 0 else 1
theorem cmpN_bd (a b:Nat): -1≤cmpN a b∧cmpN a b≤1:=by
 simp only [cmpN];split
 ·omega
 ·split <;> omega
theorem cmpZ_a {x y:Int} (h:(decide (x < 0)==decide (y < 0))=false) (hx:x < 0):cmpZ x y= -1:=by
 have: ¬y < 0:=by intro hy;simp [hx,hy] at h
 rw [cmpZ,if_pos (by omega)]
theorem cmpZ_b {x y:Int} (h:(decide (x < 0)==decide (y < 0))=false) (hx: ¬x < 0):cmpZ x y=1:=by
 have:y < 0:=by
  rcases Int.lt_or_le y 0 with hy | hy
  ·exact hy
  ·simp [hx,show ¬y < 0 by omega] at h
 rw [cmpZ,if_neg (by omega),if_neg (by omega)]
theorem cmpZ_c {x y:Int} (h:decide (x < 0)=decide (y < 0)) (hx:x < 0):cmpZ x y= - cmpN x.natAbs y.natAbs:=by
 have hy:y < 0:=by rw [decide_eq_true hx] at h;exact of_decide_eq_true h.symm
 simp only [cmpZ,cmpN]
 split
 ·rw [if_neg (by omega),if_neg (by omega)]
 ·split
  ·rw [if_neg (by omega),if_pos (by omega)];rfl
  ·rw [if_pos (by omega)];rfl
theorem cmpZ_d {x y:Int} (h:decide (x < 0)=decide (y < 0)) (hx: ¬x < 0):cmpZ x y=cmpN x.natAbs y.natAbs:=by
 have hy: ¬y < 0:=by rw [decide_eq_false hx] at h;exact of_decide_eq_false h.symm
 simp only [cmpZ,cmpN]
 split
 ·rw [if_pos (by omega)]
 ·split
  ·rw [if_neg (by omega),if_pos (by omega)]
  ·rw [if_neg (by omega),if_neg (by omega)]
end An
namespace An.S
open Go Go.Proofs An
instance ti26:TyI Tryz.prog 26 1 false:=⟨by kernel_rfl,by kernel_rfl⟩
instance ti28:TyI Tryz.prog 28 2 true:=⟨by kernel_rfl,by kernel_rfl⟩
instance sl217:SlI Tryz.prog 217 28 2 true:=⟨Tryz.underlying217,ti28⟩
instance fo28_0:FoI Tryz.prog 28 0 0:=⟨by kernel_rfl⟩
instance fo28_1:FoI Tryz.prog 28 1 1:=⟨by kernel_rfl⟩
instance fi106:FnI Tryz.prog 106:=⟨_,Tryz.func106,by kernel_rfl,rfl⟩
instance fi108:FnI Tryz.prog 108:=⟨_,Tryz.func108,by kernel_rfl,rfl⟩
instance fi151:FnI Tryz.prog 151:=⟨_,Tryz.func151,by kernel_rfl,rfl⟩
instance fi152:FnI Tryz.prog 152:=⟨_,Tryz.func152,by kernel_rfl,rfl⟩
instance fi153:FnI Tryz.prog 153:=⟨_,Tryz.func153,by kernel_rfl,rfl⟩
instance fi156:FnI Tryz.prog 156:=⟨_,Tryz.func156,by kernel_rfl,rfl⟩
instance fi176:FnI Tryz.prog 176:=⟨_,Tryz.func176,by kernel_rfl,rfl⟩
instance fi177:FnI Tryz.prog 177:=⟨_,Tryz.func177,by kernel_rfl,rfl⟩
instance fi179:FnI Tryz.prog 179:=⟨_,Tryz.func179,by kernel_rfl,rfl⟩
instance fi180:FnI Tryz.prog 180:=⟨_,Tryz.func180,by kernel_rfl,rfl⟩
theorem el28:ElI Tryz.prog 28 2 32 true (.agg #[.bool false,.slice none 0 0]):=⟨ti28,by kernel_rfl,by kernel_rfl⟩
theorem zr28:(Tryz.prog.info? 28).bind (·.zero)=some (.agg #[.bool false,.slice none 0 0])∧ ∀F w,(tS [⟨1,false,(tE (.bool false))⟩,⟨1,false,(tLm [])⟩]).p F w (.agg #[.bool false,.slice none 0 0]):=⟨by kernel_rfl,fun _ _=>⟨_,rfl,rfl,⟨fun _=>rfl,rfl⟩,⟨fun _=>rfl,⟨none,0,rfl,Nat.le_refl _,by decide,.inl rfl⟩⟩,trivial⟩⟩
theorem bu28:BuI Tryz.prog 28 (fun i=>[(0,1),(1,1)][i]?) (.agg #[.bool false,.slice none 0 0]):=BuI.struct Tryz.underlying28 (by kernel_rfl) (by kernel_rfl)
theorem zf28:Flat 2 true (.agg #[.bool false,.slice none 0 0]):=xm0 (by intro u hu;simp at hu;rcases hu with rfl | rfl <;> rfl)
instance un4:UnI Tryz.prog 4 (.bool):=⟨Tryz.underlying4⟩
instance un217:UnI Tryz.prog 217 (.slice 28):=⟨Tryz.underlying217⟩
theorem all_take_succ {α:Type} {p:α→Bool} {l:List α} {i:Nat} {d:α} (hi:i < l.length):(l.take (i+1)).all p=((l.take i).all p && p (l.getD i d)):=by
 rw [List.take_succ_eq_append_getElem hi,List.all_append]
 simp [hi]
theorem all_stop {α:Type} {p:α→Bool} {l:List α} {i:Nat} {d:α} (hi:i < l.length) (h:p (l.getD i d)=false):l.all p=false:=by
 rw [List.all_eq_false]
 refine ⟨l[i],List.getElem_mem hi,?_⟩
 rw [List.getD_eq_getElem?_getD,List.getElem?_eq_getElem hi] at h
 simpa using h
theorem c_WValid (x:Wh):
  Ct Tryz.prog 156 [tWh x] (tB x.valid):=by
 refine Ct.intro Tryz.func156 rfl Tryz.ntmps156 rfl ?_
 intro w F
 refine A16 ?_
 refine xi0 (s:=5) rfl (fun hl5=> ?_)
 refine A5 ?_
 refine x9 rfl (fun h24=> ?_) (fun h24=> ?_)
 ·
  refine A10 ?_
  exact x4 Plain.mk' rfl rfl (Le.bool (by simp only [Wh.valid];rw [if_pos (by omega)]))
 ·
  refine A7 ?_
  refine RGcaseD (t:=14) rfl (fun h27=> ?_) (fun h27=> ?_)
  ·
   refine A3 ?_
   refine RGon (decide_eq_true h27) rfl (xe1 (wr64 (by omega) (by omega))) rfl ⟨rfl,rfl,trivial⟩ trivial trivial (RGon (decide_eq_true h27) rfl (x5 sl26 (x.l.length - 1) (by omega) (gN (by omega))) rfl ⟨rfl,rfl,trivial⟩ trivial trivial ?_)
   refine A7 ?_
   exact x4 Plain.mk' rfl rfl (Le.bool (by simp only [Wh.valid];rw [if_neg (by omega),decide_eq_true (show x.l.length≤1024 by omega),Bool.true_and];exact decide_eq_decide.2 (by omega)))
  ·
   refine A12 ?_
   exact x4 Plain.mk' rfl rfl (Le.bool (by simp only [Wh.valid];rw [if_neg (by omega),decide_eq_false (show ¬x.l.length≤1024 by omega),Bool.false_and]))
theorem c_WallValid (ws:List Wh):
  Ct Tryz.prog 106 [tL 2 true tWh ws] (tB (ws.all Wh.valid)):=by
 refine Ct.intro Tryz.func106 rfl Tryz.ntmps106 rfl ?_
 intro w F
 refine xi0 (s:=0) rfl (fun hl0=> ?_)
 refine A14 ?_
 refine cL (fun (i:Nat)=>i≤ws.length∧(ws.take i).all Wh.valid=true) (fun (i:Nat)=>upd (upd (upd (fun _=>none) 5 (some (.val (tL 2 true tWh ws)))) 6 (some (.val (tI ws.length)))) 7 (some (.val (tI i)))) (fun (i:Nat)=>fun _=>none) [] (fun (i:Nat)=>ws.length - i) (0) ⟨Nat.zero_le _,rfl⟩ ?_
 intro i hI
 obtain ⟨hi,ha⟩:=hI
 refine A6 ?_
 refine x9 rfl (fun h32=> ?_) (fun h32=> ?_)
 ·
  refine A6 ?_
  refine R2 (x5 sl217 i (by omega) (gD (l:=ws) (n:=i) (d:=⟨false,[]⟩) (by omega))) rfl rfl ?_
  refine A1 ?_
  refine RE (x6 (k:=4) (n:=2) (agg:=true) zr28.1 zr28.2 rfl) trivial trivial ⟨rfl,trivial⟩ ?_
  refine A6 ?_
  refine R1 (x3 (c_WValid _) fi156 rfl) rfl ?_
  refine A3 ?_
  refine xc1 rfl (fun h33=> ?_) (fun h33=> ?_)
  ·
   refine A11 ?_
   exact x4 Plain.mk' rfl rfl (Le.bool (all_stop (l:=ws) (i:=i) (d:=⟨false,[]⟩) (by omega) (by simpa using h33)).symm)
  ·
   refine A7 ?_
   exact kF (i+1) ⟨⟨by omega,by rw [all_take_succ (l:=ws) (i:=i) (d:=⟨false,[]⟩) (by omega),ha];simpa using h33⟩,(by omega)⟩
 ·
  refine A11 ?_
  exact x4 Plain.mk' rfl rfl (Le.bool (by rw [←ha,show i=ws.length by omega,List.take_length]))
theorem xm7 (x y:Int) (hx:len16 x≤1024) (hy:len16 y≤1024):Ct Tryz.prog 106 [tL 2 true tWh [wh x,wh y]] (tB true):=by
 have:=c_WallValid [wh x,wh y]
 simp only [List.all_cons,List.all_nil,valid_wh hx,valid_wh hy,Bool.and_true] at this
 exact this
theorem xk5 (v:Nat) (h:(dig 65536 v).length≤1000000):Ct Tryz.prog 108 [tLm (dig 65536 v)] (tN v):=by
 have:=c_pack (dig 65536 v) (xc7 xa9 v) h
 rw [pack_dig] at this;exact this
theorem c_trimN (v:Nat):Ct Tryz.prog 181 [tN v] (tN v):=by
 have:=xn7 (dig 4294967296 v)
 rw [trimL_Top (dig_Top x8 v)] at this;exact this
theorem xp9 (xs:List Nat) (h:xs.length≤1000000):Ct Tryz.prog 87 [tLm xs] (tLm xs):=Ct.ofG (c_clone16 xs h) rfl
theorem c_unpack (p:Bool) (v:Nat) (h:(dig 4294967296 v).length≤100000):
  Ct Tryz.prog 176 [tB p,tN v] (tWh (wh (sgn p v))):=by
 refine Ct.intro Tryz.func176 rfl Tryz.ntmps176 rfl ?_
 intro w F
 refine A2 ?_
 refine RE (x6 (k:=4) (n:=2) (agg:=true) zr28.1 zr28.2 rfl) trivial trivial ⟨rfl,trivial⟩ ?_
 refine A5 ?_
 refine R1 (x3 (c_trimN _) fi181 rfl) rfl ?_
 refine A11 ?_
 refine x9 rfl (fun h37=> ?_) (fun h37=> ?_)
 ·
  have hv0:v=0:=(xi7 x8).1 (List.length_eq_zero_iff.1 (by omega))
  subst hv0
  refine A2 ?_
  refine R0 (xa6 (r:=tS [⟨1,false,(tE (.bool false))⟩,⟨1,false,(tLm [])⟩]) (ts:=[]) bu28 zr28.2 Le.refl) ?_
  refine A5 ?_
  exact xc2 Plain.mk' rfl ⟨_,_,_,_,_,rfl,rfl,ti28,(Le.of (by rw [wh_sgn,xc6];simp))⟩
 ·
  have hv0:0 < v:=by
   rcases Nat.eq_zero_or_pos v with h' | h'
   ·subst h';rw [xc6] at h37;simp at h37
   ·exact h'
  refine A6 ?_
  refine R2 (xh9 (wr64 (by omega) (by omega))) rfl rfl (RE (xi1 (k:=17) (t:=tE (.int .u16 0)) (ts:=rW .u16 (List.replicate (2*(dig 4294967296 v).length) 0)) (2*(dig 4294967296 v).length) (2*(dig 4294967296 v).length) Tryz.underlying26 el148 (fun _ _=>rfl) rfl (by omega) (by omega) (Nat.le_refl _) (by omega) (by omega) (rW_rep _)) ⟨rfl,rfl,trivial⟩ trivial ⟨rfl,trivial⟩ ?_)
  refine A12 ?_
  refine cL (fun (fm:(Nat)×(List Nat))=>(fun (i:Nat) (ls:List Nat)=>i≤(dig 4294967296 v).length∧ls.length=2*(dig 4294967296 v).length∧ls.take (2*i)=dgs 65536 (2*i) v) fm.1 fm.2) (fun (fm:(Nat)×(List Nat))=>(fun (i:Nat) (ls:List Nat)=>upd (upd (upd (upd (upd (upd (fun _=>none) 0 (some (.val (tB p)))) 4 (some (.own (.ptr 4 0)))) 5 (some (.own (.sl 17 1 0 (2*(dig 4294967296 v).length))))) 18 (some (.val (tN v)))) 19 (some (.val (tI (dig 4294967296 v).length)))) 20 (some (.val (tI i)))) fm.1 fm.2) (fun (fm:(Nat)×(List Nat))=>(fun (i:Nat) (ls:List Nat)=>upd (upd (fun _=>none) 4 (some (⟨28,2,true,[.val (tWh ⟨false,[]⟩)]⟩))) 17 (some (⟨148,1,false,rW .u16 ls⟩))) fm.1 fm.2) [4,17] (fun (fm:(Nat)×(List Nat))=>(fun (i:Nat) (ls:List Nat)=>(dig 4294967296 v).length - i) fm.1 fm.2) ((0,List.replicate (2*(dig 4294967296 v).length) 0)) (by dsimp only;exact ⟨Nat.zero_le _,by simp,rfl⟩) (hh:=((SubK.consI rfl ImpK.refl) ((SubK.consI rfl ImpK.refl) SubK.nil))) ?_
  intro fm hI
  obtain ⟨i,ls⟩:=fm
  replace hI:i≤(dig 4294967296 v).length∧ls.length=2*(dig 4294967296 v).length∧ls.take (2*i)=dgs 65536 (2*i) v:=hI
  show wc _ _ _ _ (upd (upd (upd (upd (upd (upd (fun _=>none) 0 (some (.val (tB p)))) 4 (some (.own (.ptr 4 0)))) 5 (some (.own (.sl 17 1 0 (2*(dig 4294967296 v).length))))) 18 (some (.val (tN v)))) 19 (some (.val (tI (dig 4294967296 v).length)))) 20 (some (.val (tI i)))) (upd (upd (fun _=>none) 4 (some (⟨28,2,true,[.val (tWh ⟨false,[]⟩)]⟩))) 17 (some (⟨148,1,false,rW .u16 ls⟩))) _
  obtain ⟨hi,hl,ht⟩:=hI
  have hx:=xd2 x8 v i
  have hxW:=(xc7 x8 v).getD (by decide) i
  refine A6 ?_
  refine x9 rfl (fun h41=> ?_) (fun h41=> ?_)
  ·
   refine A7 ?_
   refine R2 (x5 sl170 (i) (by omega) (gN (by omega))) rfl rfl ?_
   refine A9 ?_
   refine R2 (xh9 (wr64 (by omega) (by omega))) rfl rfl ?_
   refine A1 ?_
   refine R1 (x7 Tryz.underlying148 (isS Tryz.underlying202) cut16) rfl (R2 (xa1 sl26 (by omega) (by omega) rfl) rfl rfl (RE (xb4 (2*i) ti148 (rW_lt (by omega)) (by omega) (xi3 (m:=_) rfl)) ⟨rfl,rfl,trivial⟩ ⟨rfl,trivial⟩ trivial ?_))
   refine A5 ?_
   refine R2 (xh9 (wr64 (by omega) (by omega))) rfl rfl ?_
   refine A2 ?_
   refine R2 (xf9 (by decide) (shrN (s:=16) rfl (by decide))) rfl rfl (R1 (x7 Tryz.underlying148 (isS Tryz.underlying202) (wu16 (by omega) (by omega))) rfl (R2 (xa1 sl26 (by omega) (by omega) rfl) rfl rfl (RE (xb4 (2*i+1) ti148 (rW_lt (by rw [List.length_set];omega)) (by omega) (xi3 (m:=_) rfl)) ⟨rfl,rfl,trivial⟩ ⟨rfl,trivial⟩ trivial ?_)))
   refine A7 ?_
   obtain ⟨n1,n2⟩:=unpack_in (by omega) hl ht
   rw [←hx] at n1 n2
   exact kF ((i+1,(ls.set (2*i) ((dig 4294967296 v).getD i 0%65536)).set (2*i+1) ((dig 4294967296 v).getD i 0 / 2 ^ 16))) ⟨(by dsimp only;exact ⟨by omega,n1,n2⟩),(by dsimp only;omega)⟩ (hh:=((SubK.consI rfl ImpK.refl) ((SubK.consI rfl ImpK.refl) SubK.nil)))
  ·
   have him:i=(dig 4294967296 v).length:=by omega
   subst him
   obtain ⟨e1,e2,e3⟩:=unpack_end rfl hv0 hl ht
   refine A12 ?_
   refine R2 (xa1 sl26 (by omega) (by omega) rfl) rfl rfl (RE (xb2 (2*(dig 4294967296 v).length - 1) ti148 (rW_get (by omega)) (by omega)) ⟨rfl,trivial⟩ ⟨rfl,trivial⟩ trivial ?_)
   refine A3 ?_
   refine x9 rfl (fun h45=> ?_) (fun h45=> ?_)
   ·
    refine A5 ?_
    refine R2 (d_sliceOTo sl26 (2*(dig 4294967296 v).length - 1) (by omega) (by omega) rfl) rfl rfl ?_
    refine A6 ?_
    refine RE (xn3 (f:=fun n:Nat=>tE (.int .u16 n)) (xs:=ls.take (2*(dig 4294967296 v).length - 1)) (fun _ h=>h) rW_take (by rw [List.length_take];omega)) ⟨rfl,trivial⟩ ⟨rfl,trivial⟩ trivial (R2 (xa6 (r:=tS [⟨1,false,tB p⟩,⟨1,false,tLm (ls.take (2*(dig 4294967296 v).length - 1))⟩]) (ts:=[(0,tB p),(1,tLm (ls.take (2*(dig 4294967296 v).length - 1)))]) bu28 zr28.2 (Bc 0 rfl rfl rfl (Bc 1 rfl rfl rfl Le.refl))) rfl rfl ?_)
    refine A4 ?_
    exact xc2 Plain.mk' rfl ⟨_,_,_,_,_,rfl,rfl,ti28,(Le.of (by rw [wh_sgn,e1 (by omega),decide_eq_true (show v≠0 by omega),Bool.and_true]))⟩
   ·
    refine A5 ?_
    refine RE (xn3 (f:=fun n:Nat=>tE (.int .u16 n)) (xs:=ls) (fun _ h=>h) (xo1 hl) hl) ⟨rfl,trivial⟩ ⟨rfl,trivial⟩ trivial (R2 (xa6 (r:=tS [⟨1,false,tB p⟩,⟨1,false,tLm ls⟩]) (ts:=[(0,tB p),(1,tLm ls)]) bu28 zr28.2 (Bc 0 rfl rfl rfl (Bc 1 rfl rfl rfl Le.refl))) rfl rfl ?_)
    refine A4 ?_
    exact xc2 Plain.mk' rfl ⟨_,_,_,_,_,rfl,rfl,ti28,(Le.of (by rw [wh_sgn,e2 (by omega),decide_eq_true (show v≠0 by omega),Bool.and_true]))⟩
theorem c_result (p:Bool) (v:Nat) (h:(dig 4294967296 v).length≤100000):
  Ct Tryz.prog 152 [tB p,tN v] (tT [tWh (resW (sgn p v)),tI (resE (sgn p v))]):=by
 refine Ct.intro Tryz.func152 rfl Tryz.ntmps152 rfl ?_
 intro w F
 refine A2 ?_
 refine RE (x6 (k:=4) (n:=2) (agg:=true) zr28.1 zr28.2 rfl) trivial trivial ⟨rfl,trivial⟩ ?_
 refine A7 ?_
 refine R2 (x3 (c_unpack _ _ h) fi176 rfl) rfl rfl (RE (x6 (k:=6) (n:=2) (agg:=true) zr28.1 zr28.2 rfl) trivial trivial ⟨rfl,trivial⟩ ?_)
 refine A12 ?_
 refine x9 rfl (fun h89=> ?_) (fun h89=> ?_)
 ·
  have hn: ¬len16 (sgn p v)≤1024:=by show ¬(wh (sgn p v)).l.length≤1024;omega
  refine A2 ?_
  refine R0 (xa6 (r:=tS [⟨1,false,(tE (.bool false))⟩,⟨1,false,(tLm [])⟩]) (ts:=[]) bu28 zr28.2 Le.refl) ?_
  refine A6 ?_
  exact xc8 Plain.mk' (rs:=[.cell 4 28,.tmp 5]) rfl rfl ⟨⟨_,_,_,_,_,rfl,rfl,ti28,(Le.of (by rw [resW,if_neg hn]))⟩,⟨_,rfl,(Le.int (by rw [resE,if_neg hn]))⟩,trivial⟩
 ·
  have hn:len16 (sgn p v)≤1024:=by show (wh (sgn p v)).l.length≤1024;omega
  refine A10 ?_
  exact xc8 Plain.mk' (rs:=[.cell 4 28,.tmp 5]) rfl rfl ⟨⟨_,_,_,_,_,rfl,rfl,ti28,(Le.of (by rw [resW,if_pos hn]))⟩,⟨_,rfl,(Le.int (by rw [resE,if_pos hn]))⟩,trivial⟩
theorem c_sum (p:Bool) (m:Nat) (q:Bool) (n:Nat) (hm:(dig 4294967296 m).length≤10000) (hn:(dig 4294967296 n).length≤10000):
  Ct Tryz.prog 151 [tB p,tN m,tB q,tN n] (tT [tWh (resW (sgn p m+sgn q n)),tI (resE (sgn p m+sgn q n))]):=by
 have hmn:=len_add (m:=m) (n:=n) hm hn
 refine Ct.intro Tryz.func151 rfl Tryz.ntmps151 rfl ?_
 intro w F
 refine A2 ?_
 refine RE (x6 (k:=8) (n:=2) (agg:=true) zr28.1 zr28.2 rfl) trivial trivial ⟨rfl,trivial⟩ ?_
 refine A11 ?_
 refine xc1 rfl (fun h97=> ?_) (fun h97=> ?_)
 ·
  have hpq:p=q:=by simpa using h97
  subst hpq
  refine A5 ?_
  refine R2 (x3 (c_plus m n (by omega) (by omega)) fi179 rfl) rfl rfl (R2 (x3 (c_result p (m+n) (by omega)) fi152 rfl) rfl rfl ?_)
  refine A8 ?_
  exact xc8 Plain.mk' (rs:=[.cell 8 28,.tmp 9]) rfl rfl ⟨⟨_,_,_,_,_,rfl,rfl,ti28,(Le.of (by rw [sgn_add]))⟩,⟨_,rfl,(Le.int (by rw [sgn_add]))⟩,trivial⟩
 ·
  have hpq:q= !p:=by cases p <;> cases q <;> simp_all
  subst hpq
  refine A7 ?_
  refine R2 (x3 (c_compare m n) fi107 rfl) rfl rfl ?_
  refine A3 ?_
  refine x9 rfl (fun h100=> ?_) (fun h100=> ?_)
  ·
   have hle:n≤m:=by
    have:=mt xq4.2 (by omega: ¬cmpN m n < 0)
    omega
   refine A5 ?_
   refine R2 (x3 (c_minus m n (by omega) (by omega)) fi180 rfl) rfl rfl (R2 (x3 (c_result p (m - n) (by have:=xd8 x8 (Nat.sub_le m n);omega)) fi152 rfl) rfl rfl ?_)
   refine A8 ?_
   exact xc8 Plain.mk' (rs:=[.cell 8 28,.tmp 9]) rfl rfl ⟨⟨_,_,_,_,_,rfl,rfl,ti28,(Le.of (by rw [sgn_sub hle]))⟩,⟨_,rfl,(Le.int (by rw [sgn_sub hle]))⟩,trivial⟩
  ·
   have hle:m < n:=xq4.1 (by omega)
   refine A7 ?_
   refine R2 (x3 (c_minus n m (by omega) (by omega)) fi180 rfl) rfl rfl (R2 (x3 (c_result (!p) (n - m) (by have:=xd8 x8 (Nat.sub_le n m);omega)) fi152 rfl) rfl rfl ?_)
   refine A7 ?_
   exact xc8 Plain.mk' (rs:=[.cell 8 28,.tmp 9]) rfl rfl ⟨⟨_,_,_,_,_,rfl,rfl,ti28,(Le.of (by rw [sgn_sub' (Nat.le_of_lt hle)]))⟩,⟨_,rfl,(Le.int (by rw [sgn_sub' (Nat.le_of_lt hle)]))⟩,trivial⟩
theorem c_Add (x y:Int) (hx:len16 x≤1024) (hy:len16 y≤1024):
  Ct Tryz.prog 98 [tWh (wh x),tWh (wh y)] (tT [tWh (resW (x+y)),tI (resE (x+y))]):=by
 have hx32:=len32_le hx
 have hy32:=len32_le hy
 refine Ct.intro Tryz.func98 rfl Tryz.ntmps98 rfl ?_
 intro w F
 refine A4 ?_
 refine RE (x6 (k:=4) (n:=2) (agg:=true) zr28.1 zr28.2 rfl) trivial trivial ⟨rfl,trivial⟩ ?_
 refine A8 ?_
 refine R2 (xa8 (n:=2) (f:=tWh) [wh x,wh y] Tryz.underlying217 el28 zf28 rfl (fun _=>inferInstance) rfl rfl rfl) rfl rfl (R1 (x3 (xm7 x y hx hy) fi106 rfl) rfl ?_)
 refine A12 ?_
 refine R1 (x3 (xk5 (Int.natAbs x) (by show len16 x≤1000000;omega)) fi108 rfl) rfl ?_
 refine A4 ?_
 refine R1 (x3 (xk5 (Int.natAbs y) (by show len16 y≤1000000;omega)) fi108 rfl) rfl (RE (x3 (c_sum (wh x).neg x.natAbs (wh y).neg y.natAbs (by omega) (by omega)) fi151 rfl) ⟨rfl,rfl,rfl,rfl,trivial⟩ trivial trivial ?_)
 refine A7 ?_
 exact xc8 Plain.mk' (rs:=[.cell 4 28,.tmp 5]) rfl rfl ⟨⟨_,_,_,_,_,rfl,rfl,ti28,(Le.of (by rw [sgn_wh,sgn_wh]))⟩,⟨_,rfl,(Le.int (by rw [sgn_wh,sgn_wh]))⟩,trivial⟩
theorem c_Mul (x y:Int) (hx:len16 x≤1024) (hy:len16 y≤1024):
  Ct Tryz.prog 99 [tWh (wh x),tWh (wh y)] (tT [tWh (resW (x*y)),tI (resE (x*y))]):=by
 have hx32:=len32_le hx
 have hy32:=len32_le hy
 have hmul:=len_mul (k:=1024) (m:=x.natAbs) (n:=y.natAbs) (by omega) (by omega)
 refine Ct.intro Tryz.func99 rfl Tryz.ntmps99 rfl ?_
 intro w F
 refine A4 ?_
 refine RE (x6 (k:=4) (n:=2) (agg:=true) zr28.1 zr28.2 rfl) trivial trivial ⟨rfl,trivial⟩ ?_
 refine A8 ?_
 refine R2 (xa8 (n:=2) (f:=tWh) [wh x,wh y] Tryz.underlying217 el28 zf28 rfl (fun _=>inferInstance) rfl rfl rfl) rfl rfl (R1 (x3 (xm7 x y hx hy) fi106 rfl) rfl ?_)
 refine A15 ?_
 refine R1 (x3 (xk5 (Int.natAbs x) (by show len16 x≤1000000;omega)) fi108 rfl) rfl ?_
 refine A2 ?_
 refine R1 (x3 (xk5 (Int.natAbs y) (by show len16 y≤1000000;omega)) fi108 rfl) rfl (R2 (x3 (c_times x.natAbs y.natAbs (by omega) (by omega)) fi153 rfl) rfl rfl (R2 (x3 (c_result (!((wh x).neg==(wh y).neg)) (x.natAbs*y.natAbs) (by omega)) fi152 rfl) rfl rfl ?_))
 refine A7 ?_
 exact xc8 Plain.mk' (rs:=[.cell 4 28,.tmp 5]) rfl rfl ⟨⟨_,_,_,_,_,rfl,rfl,ti28,(Le.of (by rw [sgn_mul]))⟩,⟨_,rfl,(Le.int (by rw [sgn_mul]))⟩,trivial⟩
theorem c_Gcd (x y:Int) (hx:len16 x≤1024) (hy:len16 y≤1024):
  Ct Tryz.prog 149 [tWh (wh x),tWh (wh y)] (tT [tWh (wh ((Int.gcd x y:Nat):Int)),tI 0]):=by
 have hx32:=len32_le hx
 have hy32:=len32_le hy
 have hg:=len_gcd (k:=1024) (m:=x.natAbs) (n:=y.natAbs) (by omega) (by omega)
 refine Ct.intro Tryz.func149 rfl Tryz.ntmps149 rfl ?_
 intro w F
 refine A4 ?_
 refine RE (x6 (k:=4) (n:=2) (agg:=true) zr28.1 zr28.2 rfl) trivial trivial ⟨rfl,trivial⟩ ?_
 refine A8 ?_
 refine R2 (xa8 (n:=2) (f:=tWh) [wh x,wh y] Tryz.underlying217 el28 zf28 rfl (fun _=>inferInstance) rfl rfl rfl) rfl rfl (R1 (x3 (xm7 x y hx hy) fi106 rfl) rfl ?_)
 refine A10 ?_
 refine R1 (x3 (xk5 (Int.natAbs x) (by show len16 x≤1000000;omega)) fi108 rfl) rfl ?_
 refine A2 ?_
 refine R1 (x3 (xk5 (Int.natAbs y) (by show len16 y≤1000000;omega)) fi108 rfl) rfl (R2 (x3 (c_commonDivisor x.natAbs y.natAbs (by omega) (by omega)) fi177 rfl) rfl rfl (R2 (x3 (c_unpack false (Nat.gcd x.natAbs y.natAbs) (by omega)) fi176 rfl) rfl rfl ?_))
 refine A5 ?_
 exact xc8 Plain.mk' (rs:=[.cell 4 28,.tmp 5]) rfl rfl ⟨⟨_,_,_,_,_,rfl,rfl,ti28,Le.refl⟩,⟨_,rfl,Le.refl⟩,trivial⟩
theorem c_Cmp (x y:Int) (hx:len16 x≤1024) (hy:len16 y≤1024):
  Ct Tryz.prog 68 [tWh (wh x),tWh (wh y)] (tI (cmpZ x y)):=by
 have hx32:=len32_le hx
 have hy32:=len32_le hy
 refine Ct.intro Tryz.func68 rfl Tryz.ntmps68 rfl ?_
 intro w F
 refine A12 ?_
 refine R2 (xa8 (n:=2) (f:=tWh) [wh x,wh y] Tryz.underlying217 el28 zf28 rfl (fun _=>inferInstance) rfl rfl rfl) rfl rfl (R1 (x3 (xm7 x y hx hy) fi106 rfl) rfl ?_)
 refine A16 ?_
 refine xc1 rfl (fun h160=> ?_) (fun h160=> ?_)
 ·
  have hs:(decide (x < 0)==decide (y < 0))=false:=by have h:=h160;rw [Bool.not_eq_true'] at h;exact h
  refine A7 ?_
  refine xc1 rfl (fun h161=> ?_) (fun h161=> ?_)
  ·
   have hx0:x < 0:=of_decide_eq_true h161
   refine A8 ?_
   exact x4 Plain.mk' rfl rfl (Le.int (cmpZ_a hs hx0).symm)
  ·
   have hx0: ¬x < 0:=of_decide_eq_false h161
   refine A9 ?_
   exact x4 Plain.mk' rfl rfl (Le.int (cmpZ_b hs hx0).symm)
 ·
  have hs:decide (x < 0)=decide (y < 0):=eq_of_beq (by have h:=h160;rw [Bool.not_eq_false'] at h;exact h)
  refine A6 ?_
  refine R1 (x3 (xk5 (Int.natAbs x) (by show len16 x≤1000000;omega)) fi108 rfl) rfl ?_
  refine A2 ?_
  refine R1 (x3 (xk5 (Int.natAbs y) (by show len16 y≤1000000;omega)) fi108 rfl) rfl (R2 (x3 (c_compare x.natAbs y.natAbs) fi107 rfl) rfl rfl ?_)
  refine A10 ?_
  refine xc1 rfl (fun h167=> ?_) (fun h167=> ?_)
  ·
   have hx0:x < 0:=of_decide_eq_true h167
   refine A3 ?_
   refine R1 (d_neg (wr64 (by have:=cmpN_bd x.natAbs y.natAbs;omega) (by have:=cmpN_bd x.natAbs y.natAbs;omega))) rfl ?_
   refine A5 ?_
   exact x4 Plain.mk' rfl rfl (Le.int (by rw [cmpZ_c hs hx0];omega))
  ·
   have hx0: ¬x < 0:=of_decide_eq_false h167
   refine A9 ?_
   exact x4 Plain.mk' rfl rfl (Le.int (cmpZ_d hs hx0).symm)
end An.S
namespace An
open Go
theorem div_neg {m y:Nat} (hy:0 < y):(-(m:Int)) / (y:Int)=(if m%y=0 then -((m / y:Nat):Int) else -((m / y+1:Nat):Int))∧(-(m:Int))%(y:Int)=(if m%y=0 then 0 else ((y - m%y:Nat):Int)):=by
 have h1:=Nat.div_add_mod m y
 have h2:=Nat.mod_lt m hy
 have hm:(m:Int)=y*((m / y:Nat):Int)+((m%y:Nat):Int):=by
  rw [←Int.natCast_mul,←Int.natCast_add,h1]
 generalize m / y=q at*
 generalize m%y=r at*
 have hu:= @Int.ediv_emod_unique (-(m:Int)) (y:Int)
 split
 ·rename_i h0
  refine (hu (by omega)).2 ⟨?_,by omega,by omega⟩
  rw [hm,h0];grind
 ·refine (hu (by omega)).2 ⟨?_,by omega,by omega⟩
  rw [hm,Int.natCast_sub (Nat.le_of_lt h2),Int.natCast_add];grind
theorem dm_quo {x y:Int} (hy:0 < y) {Q R:Nat} (h:(decide (x < 0)=true∧x.natAbs%y.natAbs≠0→Q=x.natAbs / y.natAbs+1∧R=y.natAbs - x.natAbs%y.natAbs)∧(¬(decide (x < 0)=true∧x.natAbs%y.natAbs≠0)→Q=x.natAbs / y.natAbs∧R=x.natAbs%y.natAbs)):
  sgn (!((wh x).neg==(wh y).neg)) Q=x / y∧sgn (wh y).neg R=x%y:=by
 have ey:(wh y).neg=false:=decide_eq_false (by omega)
 have ex:(wh x).neg=decide (x < 0):=rfl
 rw [ey,ex]
 obtain ⟨n,rfl⟩:=Int.eq_ofNat_of_zero_le (Int.le_of_lt hy)
 have hn:0 < n:=by omega
 simp only [Int.natAbs_natCast] at h
 by_cases hx:x < 0
 ·obtain ⟨m,hm⟩:=Int.eq_ofNat_of_zero_le (show 0≤ -x by omega)
  have hxm:x= -(m:Int):=by omega
  subst hxm
  obtain ⟨d1,d2⟩:=div_neg (m:=m) hn
  simp only [Int.natAbs_neg,Int.natAbs_natCast] at h
  rw [d1,d2,decide_eq_true hx]
  by_cases h0:m%n=0
  ·obtain ⟨e1,e2⟩:=h.2 (by simp [h0])
   rw [e1,e2,if_pos h0,if_pos h0,h0]
   simp [sgn]
  ·obtain ⟨e1,e2⟩:=h.1 ⟨decide_eq_true hx,h0⟩
   rw [e1,e2,if_neg h0,if_neg h0]
   simp [sgn]
 ·obtain ⟨m,rfl⟩:=Int.eq_ofNat_of_zero_le (show 0≤x by omega)
  simp only [Int.natAbs_natCast] at h
  obtain ⟨e1,e2⟩:=h.2 fun h'=>hx (of_decide_eq_true h'.1)
  rw [e1,e2,decide_eq_false hx]
  simp [sgn]
theorem len_one:(dig 4294967296 1).length≤1:=(xb0 x8 1 1).2 (by decide)
theorem wh_len (v:Nat) (h:v < 18446744073709551616):(dig 65536 v).length≤4:=(xb0 xa9 v 4).2 (by simpa using h)
theorem count_step {v i c:Nat} (h:c=(dig 65536 (v%65536 ^ i)).length):(v / 65536 ^ i%65536≠0→i+1=(dig 65536 (v%65536 ^ (i+1))).length)∧(v / 65536 ^ i%65536=0→c=(dig 65536 (v%65536 ^ (i+1))).length):=by
 have e:=xh7 65536 v i
 refine ⟨fun h0=> ?_,fun h0=>by rw [e,h0,Nat.mul_zero,Nat.add_zero];exact h⟩
 have hp:0 < 65536 ^ i:=Nat.pow_pos (by decide)
 have h1:(dig 65536 (v%65536 ^ (i+1))).length≤i+1:=(xb0 xa9 _ _).2 (Nat.mod_lt _ (Nat.pow_pos (by decide)))
 have h2: ¬(dig 65536 (v%65536 ^ (i+1))).length≤i:=fun h'=>by
  have h3:=(xb0 xa9 _ _).1 h'
  rw [e] at h3
  have h4:65536 ^ i*1≤65536 ^ i*(v / 65536 ^ i%65536):=Nat.mul_le_mul_left _ (by omega)
  omega
 omega
theorem shr16i (v i:Nat):v / 2 ^ (16*i)=v / 65536 ^ i:=by rw [Nat.pow_mul]
theorem toU64 {n:Int}:IntKind.u64.wrap n=(((n%18446744073709551616).toNat:Nat):Int):=by
 rw [mu64];omega
theorem negU64 {v:Nat} (hv:v < 18446744073709551616):IntKind.u64.wrap (0 - (v:Int))=(((18446744073709551616 - v)%18446744073709551616:Nat):Int):=by
 rw [mu64];omega
end An
namespace An.S
open Go Go.Proofs An
instance fi87:FnI Tryz.prog 87:=⟨_,Tryz.func87,by kernel_rfl,rfl⟩
instance fi192:FnI Tryz.prog 192:=⟨_,Tryz.func192,by kernel_rfl,rfl⟩
theorem ar234:ArI Tryz.prog 234 148 4 1 false:=⟨by kernel_rfl,ti148⟩
theorem c_plusOne (a:Nat) (ha:(dig 4294967296 a).length≤10000):Ct Tryz.prog 179 [tN a,tWs [1]] (tN (a+1)):=by
 have e:dig 4294967296 1=[1]:=by rw [xk4 x8 (by decide),show (1:Nat) / 4294967296=0 by decide,xc6]
 have:=c_plus a 1 (by omega) (by rw [e];decide)
 rw [tN,tN,e] at this;exact this
theorem c_DivMod (x y:Int) (hx:len16 x≤1024) (hy:len16 y≤1024) (hy0:0 < y):
  Ct Tryz.prog 150 [tWh (wh x),tWh (wh y)] (tT [tWh (wh (x / y)),tWh (wh (x%y)),tI 0]):=by
 have hx32:=len32_le hx
 have hy32:=len32_le hy
 have hq32:(dig 4294967296 (x.natAbs / y.natAbs)).length≤1024:=Nat.le_trans (xd8 x8 (Nat.div_le_self _ _)) hx32
 have hrl:x.natAbs%y.natAbs < y.natAbs:=Nat.mod_lt _ (by omega)
 have hr32:(dig 4294967296 (x.natAbs%y.natAbs)).length≤1024:=Nat.le_trans (xd8 x8 (Nat.le_of_lt hrl)) hy32
 have hs32:(dig 4294967296 (y.natAbs - x.natAbs%y.natAbs)).length≤1024:=Nat.le_trans (xd8 x8 (Nat.sub_le _ _)) hy32
 have hq1:=len_add (k:=1024) (m:=x.natAbs / y.natAbs) (n:=1) hq32 (Nat.le_trans len_one (by decide))
 have ey:(wh y).neg=false:=decide_eq_false (by omega)
 have ex:(wh x).neg=decide (x < 0):=rfl
 refine Ct.intro Tryz.func150 rfl Tryz.ntmps150 rfl ?_
 intro w F
 refine A4 ?_
 refine RE (x6 (k:=4) (n:=2) (agg:=true) zr28.1 zr28.2 rfl) trivial trivial ⟨rfl,trivial⟩ (RE (x6 (k:=5) (n:=2) (agg:=true) zr28.1 zr28.2 rfl) trivial trivial ⟨rfl,trivial⟩ ?_)
 refine A8 ?_
 refine R2 (xa8 (n:=2) (f:=tWh) [wh x,wh y] Tryz.underlying217 el28 zf28 rfl (fun _=>inferInstance) rfl rfl rfl) rfl rfl (R1 (x3 (xm7 x y hx hy) fi106 rfl) rfl ?_)
 refine A15 ?_
 refine C_bF rfl (decide_eq_false (by (intro h;have h2:(wh y).l.length=0:=(by omega);have h3:y.natAbs=0:=(xi7 xa9).1 (List.length_eq_zero_iff.1 h2);omega))) ?_
 refine A6 ?_
 refine R1 (x3 (xk5 (Int.natAbs y) (by show len16 y≤1000000;omega)) fi108 rfl) rfl ?_
 refine A7 ?_
 refine R1 (x3 (xk5 (Int.natAbs x) (by show len16 x≤1000000;omega)) fi108 rfl) rfl ?_
 refine A1 ?_
 refine R2 (x3 (c_divide x.natAbs y.natAbs (by omega) (by omega) (by omega)) fi178 rfl) rfl rfl ?_
 refine A7 ?_
 refine xh1 (fun (fm:(Nat)×(Nat))=>(fun (Q:Nat) (R:Nat)=>(sgn (!((wh x).neg==(wh y).neg)) Q=x / y∧sgn (wh y).neg R=x%y)∧(dig 4294967296 Q).length≤1025∧(dig 4294967296 R).length≤1024) fm.1 fm.2) (fun (fm:(Nat)×(Nat))=>(fun (Q:Nat) (R:Nat)=>upd (upd (upd (upd (upd (upd (fun _=>none) 2 (some (.own (.ptr 2 0)))) 3 (some (.own (.ptr 3 0)))) 4 (some (.own (.ptr 4 0)))) 5 (some (.own (.ptr 5 0)))) 8 (some (.val (tN Q)))) 9 (some (.val (tN R)))) fm.1 fm.2) (fun (fm:(Nat)×(Nat))=>(fun (Q:Nat) (R:Nat)=>upd (upd (upd (upd (fun _=>none) 2 (some (⟨28,2,true,[.val (tWh (wh x))]⟩))) 3 (some (⟨28,2,true,[.val (tWh (wh y))]⟩))) 4 (some (⟨28,2,true,[.val (tWh ⟨false,[]⟩)]⟩))) 5 (some (⟨28,2,true,[.val (tWh ⟨false,[]⟩)]⟩))) fm.1 fm.2) (nm [2,3,4,5]) ?_ ?_
 ·
  refine A8 ?_
  refine RGcase (t:=39) rfl (fun h140=> ?_) (fun h140=> ?_)
  ·
   have hxn:decide (x < 0)=true:=by have h:=h140;rw [ey,ex] at h;simpa using h
   refine A6 ?_
   refine x9 rfl (fun h140_2=> ?_) (fun h140_2=> ?_)
   ·
    have hr0:x.natAbs%y.natAbs≠0:=fun h=>by rw [h,xc6] at h140_2;simp at h140_2
    refine A3 ?_
    refine R1 (d_nums (n:=1) [1] Tryz.underlying170 el202 zf202 rfl rfl rfl) rfl (R2 (x3 (c_plusOne _ (by omega)) fi179 rfl) rfl rfl ?_)
    refine A6 ?_
    refine R2 (x3 (c_minus y.natAbs (x.natAbs%y.natAbs) (by omega) (by omega)) fi180 rfl) rfl rfl ?_
    refine A2 ?_
    exact kF ((x.natAbs / y.natAbs+1,y.natAbs - x.natAbs%y.natAbs)) (by dsimp only;exact ⟨dm_quo hy0 ⟨fun _=>⟨rfl,rfl⟩,fun h=>(h ⟨hxn,hr0⟩).elim⟩,hq1,hs32⟩) (hh:=((SubK.consI rfl ImpK.refl) ((SubK.consI rfl ImpK.refl) (SubK.cons rfl (SubK.cons rfl SubK.nil)))))
   ·
    have hr0:x.natAbs%y.natAbs=0:=(xi7 x8).1 (List.length_eq_zero_iff.1 (by omega))
    refine A1 ?_
    exact kF ((x.natAbs / y.natAbs,x.natAbs%y.natAbs)) (by dsimp only;exact ⟨dm_quo hy0 ⟨fun h=>(h.2 hr0).elim,fun _=>⟨rfl,rfl⟩⟩,by omega,hr32⟩) (hh:=((SubK.consI rfl ImpK.refl) ((SubK.consI rfl ImpK.refl) (SubK.cons rfl (SubK.cons rfl SubK.nil)))))
  ·
   have hxn: ¬decide (x < 0)=true:=by have h:=h140;rw [ey,ex] at h;simpa using h
   refine A8 ?_
   exact kF ((x.natAbs / y.natAbs,x.natAbs%y.natAbs)) (by dsimp only;exact ⟨dm_quo hy0 ⟨fun h=>(hxn h.1).elim,fun _=>⟨rfl,rfl⟩⟩,by omega,hr32⟩) (hh:=((SubK.consI rfl ImpK.refl) ((SubK.consI rfl ImpK.refl) (SubK.cons rfl (SubK.cons rfl SubK.nil)))))
 ·
  intro fm hj
  obtain ⟨Q,R⟩:=fm
  replace hj:(sgn (!((wh x).neg==(wh y).neg)) Q=x / y∧sgn (wh y).neg R=x%y)∧(dig 4294967296 Q).length≤1025∧(dig 4294967296 R).length≤1024:=hj
  show wc _ _ _ _ (upd (upd (upd (upd (upd (upd (fun _=>none) 2 (some (.own (.ptr 2 0)))) 3 (some (.own (.ptr 3 0)))) 4 (some (.own (.ptr 4 0)))) 5 (some (.own (.ptr 5 0)))) 8 (some (.val (tN Q)))) 9 (some (.val (tN R)))) (upd (upd (upd (upd (fun _=>none) 2 (some (⟨28,2,true,[.val (tWh (wh x))]⟩))) 3 (some (⟨28,2,true,[.val (tWh (wh y))]⟩))) 4 (some (⟨28,2,true,[.val (tWh ⟨false,[]⟩)]⟩))) 5 (some (⟨28,2,true,[.val (tWh ⟨false,[]⟩)]⟩))) _
  obtain ⟨⟨hQ,hR⟩,hQl,hRl⟩:=hj
  refine A8 ?_
  refine R2 (x3 (c_unpack (!((wh x).neg==(wh y).neg)) Q (by omega)) fi176 rfl) rfl rfl ?_
  refine A3 ?_
  refine R2 (x3 (c_unpack (wh y).neg R (by omega)) fi176 rfl) rfl rfl ?_
  refine A6 ?_
  exact xc8 Plain.mk' (rs:=[.cell 4 28,.cell 5 28,.tmp 6]) rfl rfl ⟨⟨_,_,_,_,_,rfl,rfl,ti28,(Le.of (by rw [hQ]))⟩,⟨_,_,_,_,_,rfl,rfl,ti28,(Le.of (by rw [hR]))⟩,⟨_,rfl,Le.refl⟩,trivial⟩
theorem rW_take0 {k:IntKind} {xs:List Nat} {n:Nat}:(rW k xs).take n=(xs.take n).map fun x:Nat=> .val (tE (.int k (x:Int))):=by
 rw [rW,List.map_take]
theorem c_FromInt (n:Int) (h1: -9223372036854775808≤n) (h2:n≤9223372036854775807):
  Ct Tryz.prog 146 [tI n] (tWh (wh n)):=by
 refine Ct.intro Tryz.func146 rfl Tryz.ntmps146 rfl ?_
 intro w F
 refine A2 ?_
 refine RE (x6 (k:=2) (n:=2) (agg:=true) zr28.1 zr28.2 rfl) trivial trivial ⟨rfl,trivial⟩ ?_
 refine A5 ?_
 refine R1 (x7 Tryz.underlying116 (isS Tryz.underlying3) toU64) rfl ?_
 refine A3 ?_
 refine xh1 (fun (v:Nat)=>v=n.natAbs) (fun (v:Nat)=>upd (upd (upd (fun _=>none) 0 (some (.val (tI n)))) 2 (some (.own (.ptr 2 0)))) 3 (some (.val (tE (.int .u64 ((v:Nat):Int)))))) (fun (v:Nat)=>upd (fun _=>none) 2 (some (⟨28,2,true,[.val (tWh ⟨false,[]⟩)]⟩))) (nm [2]) ?_ ?_
 ·
  refine A6 ?_
  refine x9 rfl (fun h48=> ?_) (fun h48=> ?_)
  ·
   refine A2 ?_
   refine R1 (d_neg (negU64 (by omega))) rfl ?_
   refine A2 ?_
   exact kF ((18446744073709551616 - (n%18446744073709551616).toNat)%18446744073709551616) (by omega) (hh:=((SubK.consI rfl ImpK.refl) SubK.nil))
  ·
   refine A1 ?_
   exact kF ((n%18446744073709551616).toNat) (by omega) (hh:=((SubK.consI rfl ImpK.refl) SubK.nil))
 ·
  intro v hv
  refine A2 ?_
  refine RE (d_allocA (k:=4) (len:=4) (u:= .int .u16 0) Tryz.underlying234 (z:= .agg #[.int .u16 0,.int .u16 0,.int .u16 0,.int .u16 0]) (by kernel_rfl) rfl rfl) trivial trivial ⟨rfl,trivial⟩ ?_
  refine A14 ?_
  refine cL (fun (fm:(Nat)×(List Nat)×(Nat))=>(fun (i:Nat) (ls:List Nat) (c:Nat)=>i≤4∧ls.length=4∧ls.take i=dgs 65536 i v∧c=(dig 65536 (v%65536 ^ i)).length) fm.1 fm.2.1 fm.2.2) (fun (fm:(Nat)×(List Nat)×(Nat))=>(fun (i:Nat) (ls:List Nat) (c:Nat)=>upd (upd (upd (upd (upd (upd (fun _=>none) 0 (some (.val (tI n)))) 2 (some (.own (.ptr 2 0)))) 3 (some (.val (tE (.int .u64 ((v:Nat):Int)))))) 4 (some (.own (.ptr 4 0)))) 5 (some (.val (tI c)))) 13 (some (.val (tI i)))) fm.1 fm.2.1 fm.2.2) (fun (fm:(Nat)×(List Nat)×(Nat))=>(fun (i:Nat) (ls:List Nat) (c:Nat)=>upd (upd (fun _=>none) 2 (some (⟨28,2,true,[.val (tWh ⟨false,[]⟩)]⟩))) 4 (some (⟨234,1,false,rW .u16 ls⟩))) fm.1 fm.2.1 fm.2.2) [2,4] (fun (fm:(Nat)×(List Nat)×(Nat))=>(fun (i:Nat) (ls:List Nat) (c:Nat)=>4 - i) fm.1 fm.2.1 fm.2.2) ((0,[0,0,0,0],0)) (by dsimp only;exact ⟨by omega,rfl,rfl,by rw [Nat.pow_zero,Nat.mod_one,xc6];rfl⟩) (hh:=((SubK.consI rfl ImpK.refl) ((SubK.consI rfl ImpK.refl) SubK.nil))) ?_
  intro fm hI
  obtain ⟨i,ls,c⟩:=fm
  replace hI:i≤4∧ls.length=4∧ls.take i=dgs 65536 i v∧c=(dig 65536 (v%65536 ^ i)).length:=hI
  show wc _ _ _ _ (upd (upd (upd (upd (upd (upd (fun _=>none) 0 (some (.val (tI n)))) 2 (some (.own (.ptr 2 0)))) 3 (some (.val (tE (.int .u64 ((v:Nat):Int)))))) 4 (some (.own (.ptr 4 0)))) 5 (some (.val (tI c)))) 13 (some (.val (tI i)))) (upd (upd (fun _=>none) 2 (some (⟨28,2,true,[.val (tWh ⟨false,[]⟩)]⟩))) 4 (some (⟨234,1,false,rW .u16 ls⟩))) _
  obtain ⟨hi,hl,ht,hc⟩:=hI
  obtain ⟨k1,k2⟩:=count_step hc
  have hcl:c≤i:=by rw [hc];exact (xb0 xa9 _ _).2 (Nat.mod_lt _ (Nat.pow_pos (by decide)))
  refine A6 ?_
  refine x9 rfl (fun h53=> ?_) (fun h53=> ?_)
  ·
   refine A15 ?_
   refine R2 (xh9 (wr64 (by omega) (by omega))) rfl rfl (R2 (xf9 (by omega) (shrN (s:=16*i) (by omega) (by show 16*i≤64;omega))) rfl rfl (R1 (x7 Tryz.underlying148 (isS Tryz.underlying116) cut16) rfl (R2 (d_indexA ar234 (by omega) (by omega) rfl) rfl rfl (RE (xb4 (i) ti148 (rW_lt (by omega)) (by omega) (xi3 (m:=_) rfl)) ⟨rfl,rfl,trivial⟩ ⟨rfl,trivial⟩ trivial ?_))))
   refine A5 ?_
   refine R2 (d_indexA ar234 (by omega) (by omega) rfl) rfl rfl (RE (xb2 (i) ti148 (rW_get (by rw [List.length_set];omega)) (by omega)) ⟨rfl,trivial⟩ ⟨rfl,trivial⟩ trivial ?_)
   refine A3 ?_
   refine x9 rfl (fun h55=> ?_) (fun h55=> ?_)
   ·
    have hd:(ls.set i (v / 2 ^ (16*i)%65536)).getD i 0=v / 65536 ^ i%65536:=by rw [xo4 (by omega),shr16i]
    refine A11 ?_
    rw [hd] at h55
    exact kF ((i+1,ls.set i (v / 2 ^ (16*i)%65536),i+1)) ⟨(by dsimp only;exact ⟨by omega,by simpa using hl,by rw [xi2 (by omega),ht,xj9,shr16i],k1 (by omega)⟩),(by dsimp only;omega)⟩ (hh:=((SubK.consI rfl ImpK.refl) ((SubK.consI rfl ImpK.refl) SubK.nil)))
   ·
    have hd:(ls.set i (v / 2 ^ (16*i)%65536)).getD i 0=v / 65536 ^ i%65536:=by rw [xo4 (by omega),shr16i]
    refine A7 ?_
    rw [hd] at h55
    exact kF ((i+1,ls.set i (v / 2 ^ (16*i)%65536),c)) ⟨(by dsimp only;exact ⟨by omega,by simpa using hl,by rw [xi2 (by omega),ht,xj9,shr16i],k2 (by omega)⟩),(by dsimp only;omega)⟩ (hh:=((SubK.consI rfl ImpK.refl) ((SubK.consI rfl ImpK.refl) SubK.nil)))
  ·
   refine A10 ?_
   refine RE (d_sliceAS (f:=fun n:Nat=>tE (.int .u16 n)) (ys:=ls.take c) (u:=c) ar234 (fun _ h=>h) (fun h=>by cases h) (by omega) rW_take0 (by rw [rW_len];exact hl) (by rw [List.length_take];omega) rfl) ⟨rfl,rfl,trivial⟩ ⟨rfl,trivial⟩ trivial (R1 (x3 (xp9 (ls.take c) (by rw [List.length_take];omega)) fi87 rfl) rfl (R2 (xa6 (r:=tS [⟨1,false,tB (decide (n < 0))⟩,⟨1,false,tLm (ls.take c)⟩]) (ts:=[(0,tB (decide (n < 0))),(1,tLm (ls.take c))]) bu28 zr28.2 (Bc 0 rfl rfl rfl (Bc 1 rfl rfl rfl Le.refl))) rfl rfl ?_))
   refine A4 ?_
   have hi4:i=4:=by omega
   subst hi4
   have hfin:ls.take c=dig 65536 n.natAbs:=by
    rw [←hl,List.take_length,hl] at ht
    rw [ht,take_dgs (by omega),←hv]
    rw [Nat.mod_eq_of_lt (by show v < 18446744073709551616;omega)] at hc
    rw [hc,xp7 xa9]
   exact xc2 Plain.mk' rfl ⟨_,_,_,_,_,rfl,rfl,ti28,(Le.of (by rw [hfin];rfl))⟩
theorem c_Equal16 (xs ys:List Nat):
  Ct Tryz.prog 192 [tLm xs,tLm ys] (tB (decide (xs=ys))):=by
 refine Ct.intro Tryz.func192 rfl Tryz.ntmps192 rfl ?_
 intro w F
 refine xi0 (s:=0) rfl (fun hl0=> ?_)
 refine A15 ?_
 refine x9 rfl (fun h21=> ?_) (fun h21=> ?_)
 ·
  refine A7 ?_
  exact x4 Plain.mk' rfl rfl (Le.bool (decide_eq_false (fun h=>by rw [h] at h21;omega)).symm)
 ·
  have hll:xs.length=ys.length:=by omega
  refine A11 ?_
  refine cL (fun (i:Nat)=>i≤xs.length∧xs.take i=ys.take i) (fun (i:Nat)=>upd (upd (upd (upd (fun _=>none) 0 (some (.val (tLm xs)))) 1 (some (.val (tLm ys)))) 12 (some (.val (tI xs.length)))) 13 (some (.val (tI i)))) (fun (i:Nat)=>fun _=>none) [] (fun (i:Nat)=>xs.length - i) (0) ⟨Nat.zero_le _,rfl⟩ ?_
  intro i hI
  obtain ⟨hi,ht⟩:=hI
  refine A6 ?_
  refine x9 rfl (fun h24=> ?_) (fun h24=> ?_)
  ·
   refine A14 ?_
   refine R2 (x5 sl26 (i) (by omega) (gN (by omega))) rfl rfl ?_
   refine A3 ?_
   refine R2 (x5 sl26 (i) (by omega) (gN (by omega))) rfl rfl ?_
   refine A4 ?_
   refine x9 rfl (fun h25=> ?_) (fun h25=> ?_)
   ·
    refine A11 ?_
    exact x4 Plain.mk' rfl rfl (Le.bool (decide_eq_false (fun h=>by rw [h] at h25;omega)).symm)
   ·
    refine A7 ?_
    exact kF (i+1) ⟨⟨by omega,by rw [xh5 xs i (by omega),xh5 ys i (by omega),ht,show xs.getD i 0=ys.getD i 0 by omega]⟩,(by omega)⟩
  ·
   refine A11 ?_
   exact x4 Plain.mk' rfl rfl (Le.bool (decide_eq_true (by rw [show i=xs.length by omega,List.take_length,hll,List.take_length] at ht;exact ht)).symm)
theorem c_WSame (x y:Wh):
  Ct Tryz.prog 162 [tWh x,tWh y] (tB (decide (x=y))):=by
 refine Ct.intro Tryz.func162 rfl Tryz.ntmps162 rfl ?_
 intro w F
 refine A15 ?_
 refine RGcase (t:=10) rfl (fun h42=> ?_) (fun h42=> ?_)
 ·
  have hn:x.neg=y.neg:=eq_of_beq h42
  refine A4 ?_
  refine RGon h42 rfl (x3 (c_Equal16 _ _) fi192 rfl) rfl ⟨rfl,rfl,trivial⟩ trivial trivial ?_
  refine A5 ?_
  exact x4 Plain.mk' rfl rfl (Le.bool (by obtain ⟨a,b⟩:=x;obtain ⟨c,d⟩:=y;simp only at hn;subst hn;simp))
 ·
  have hn:x.neg≠y.neg:=fun h=>by rw [h] at h42;simp at h42
  refine A10 ?_
  exact x4 Plain.mk' rfl rfl (Le.bool (decide_eq_false (fun h=>hn (by rw [h]))).symm)
end An.S
namespace An
open Go
structure Fr where
  n:Wh
  d:Wh
deriving DecidableEq
abbrev tFr (f:Fr):Ty:=tS [⟨2,true,tWh f.n⟩,⟨2,true,tWh f.d⟩]
abbrev tTm (f:Fr):Ty:=tS [⟨4,true,tFr f⟩]
def fr (q:Rat):Fr:=⟨wh q.num,wh q.den⟩
def fr0:Fr:=⟨⟨false,[]⟩,⟨false,[]⟩⟩
def Fr.sh (f:Fr):Bool:=decide (f.n.l.length≤256) && decide (f.d.l.length≤256)
def short (q:Rat):Prop:=len16 q.num≤256∧len16 q.den≤256
instance (q:Rat):Decidable (short q):=inferInstanceAs (Decidable (_∧_))
def resF (q:Rat):Fr:=if short q then fr q else fr0
def resFE (q:Rat):Int:=if short q then 0 else 3
theorem sh_fr (q:Rat):(fr q).sh=decide (short q):=by
 show (decide (len16 q.num≤256) && decide (len16 q.den≤256))=_
 exact (Bool.decide_and _ _).symm
def Wh.int (x:Wh):Int:=sgn x.neg (val 65536 x.l)
theorem int_wh (z:Int):(wh z).int=z:=by
 show sgn (wh z).neg (val 65536 (dig 65536 z.natAbs))=z
 rw [xp4 xa9];exact sgn_wh z
def Fr.valid (f:Fr):Bool:=f.sh && f.n.valid && f.d.valid && decide (0 < f.d.int) && decide (Int.gcd f.n.int f.d.int=1)
theorem Fr.of_valid {f:Fr} (hn:Dig 65536 f.n.l) (hd:Dig 65536 f.d.l) (h:f.valid=true): ∃q:Rat,f=fr q∧short q:=by
 obtain ⟨n,d⟩:=f
 simp only [Fr.valid,Bool.and_eq_true,decide_eq_true_eq] at h
 obtain ⟨⟨⟨⟨h1,h2⟩,h3⟩,h4⟩,h5⟩:=h
 obtain ⟨x,hx,hxl⟩:=Wh.of_valid hn h2
 obtain ⟨y,hy,hyl⟩:=Wh.of_valid hd h3
 simp only at hx hy
 subst hx;subst hy
 rw [int_wh] at h4;rw [int_wh,int_wh] at h5
 obtain ⟨m,rfl⟩:=Int.eq_ofNat_of_zero_le (Int.le_of_lt h4)
 have hm:m≠0:=by omega
 have hq: ∃q:Rat,q.num=x∧q.den=m:=⟨⟨x,m,hm,by simpa [Int.gcd] using h5⟩,rfl,rfl⟩
 obtain ⟨q,q1,q2⟩:=hq
 have e:(⟨wh x,wh m⟩:Fr)=fr q:=by rw [fr,q1,q2]
 refine ⟨q,e,?_⟩
 rw [e,sh_fr] at h1
 exact of_decide_eq_true h1
theorem valid_fr {q:Rat} (h:short q):(fr q).valid=true:=by
 have h1:(wh q.num).valid=true:=valid_wh (Nat.le_trans h.1 (by decide))
 have h2:(wh (q.den:Int)).valid=true:=valid_wh (Nat.le_trans h.2 (by decide))
 have hd:=q.den_nz
 have hg:Int.gcd q.num (q.den:Int)=1:=by simpa [Int.gcd] using q.reduced
 have e1:(fr q).n.int=q.num:=int_wh _
 have e2:(fr q).d.int=(q.den:Int):=int_wh _
 simp only [Fr.valid,Bool.and_eq_true,decide_eq_true_eq]
 rw [e1,e2]
 exact ⟨⟨⟨⟨by rw [sh_fr];exact decide_eq_true h,h1⟩,h2⟩,by omega⟩,hg⟩
theorem wh_one:wh 1=⟨false,[1]⟩:=by
 have e:dig 65536 1=[1]:=by rw [xk4 xa9 (by decide),show (1:Nat) / 65536=0 by decide,xc6]
 show (⟨decide ((1:Int) < 0),dig 65536 1⟩:Wh)=_
 rw [e];rfl
theorem wh_zero:wh 0=⟨false,[]⟩:=by
 show (⟨decide ((0:Int) < 0),dig 65536 0⟩:Wh)=_
 rw [xc6];rfl
theorem len16_mul {x y:Int} {k l:Nat} (hx:len16 x≤k) (hy:len16 y≤l):len16 (x*y)≤k+l:=by
 have h1:=(xb0 xa9 x.natAbs k).1 hx
 have h2:=(xb0 xa9 y.natAbs l).1 hy
 refine (xb0 xa9 _ _).2 ?_
 rw [Int.natAbs_mul,Nat.pow_add]
 exact Nat.mul_lt_mul'' h1 h2
theorem len16_add {x y:Int} {k:Nat} (hx:len16 x≤k) (hy:len16 y≤k):len16 (x+y)≤k+1:=by
 have h1:=(xb0 xa9 x.natAbs k).1 hx
 have h2:=(xb0 xa9 y.natAbs k).1 hy
 refine (xb0 xa9 _ _).2 ?_
 rw [Nat.pow_succ]
 generalize 65536 ^ k=P at*
 omega
theorem len16_neg (x:Int):len16 (-x)=len16 x:=by rw [len16,len16,Int.natAbs_neg]
theorem len16_le {x y:Int} (h:x.natAbs≤y.natAbs):len16 x≤len16 y:=xd8 xa9 h
theorem len16_div {x y:Int} {k:Nat} (hx:len16 x≤k):len16 (x / y)≤k:=by
 refine Nat.le_trans (len16_le ?_) hx
 exact Int.natAbs_ediv_le_natAbs x y
theorem lowest_eq {n d:Int} (hd:0 < d):fr (Rat.divInt n d)=⟨wh (n / (Int.gcd n d:Int)),wh (d / (Int.gcd n d:Int))⟩:=by
 obtain ⟨m,rfl⟩:=Int.eq_ofNat_of_zero_le (Int.le_of_lt hd)
 have hm:m≠0:=by omega
 rw [Rat.divInt_ofNat,←Rat.normalize_eq_mkRat hm,Rat.normalize_eq]
 simp only [fr]
 have e:Int.gcd n (m:Int)=n.natAbs.gcd m:=by simp [Int.gcd]
 rw [e,←Int.natCast_ediv]
def cmpQ (a b:Rat):Int:=if a < b then -1 else if a=b then 0 else 1
theorem cmpQ_eq (a b:Rat):cmpZ (a.num*b.den) (b.num*a.den)=cmpQ a b:=by
 simp only [cmpZ,cmpQ,Rat.lt_iff]
 split
 ·rfl
 ·rename_i h
  by_cases hab:a=b
  ·subst hab;rw [if_pos rfl,if_pos rfl]
  ·rw [if_neg hab,if_neg]
   intro he
   apply hab
   have h1:a≤b:=(Rat.le_iff a b).2 (by omega)
   have h2:b≤a:=(Rat.le_iff b a).2 (by omega)
   exact Rat.le_antisymm h1 h2
end An
namespace An.S
open Go Go.Proofs An
instance ti30:TyI Tryz.prog 30 4 true:=⟨by kernel_rfl,by kernel_rfl⟩
instance ti119:TyI Tryz.prog 119 4 true:=⟨by kernel_rfl,by kernel_rfl⟩
instance fo30_0:FoI Tryz.prog 30 0 0:=⟨by kernel_rfl⟩
instance fo30_1:FoI Tryz.prog 30 1 2:=⟨by kernel_rfl⟩
instance fo119_0:FoI Tryz.prog 119 0 0:=⟨by kernel_rfl⟩
instance fi95:FnI Tryz.prog 95:=⟨_,Tryz.func95,by kernel_rfl,rfl⟩
instance fi96:FnI Tryz.prog 96:=⟨_,Tryz.func96,by kernel_rfl,rfl⟩
instance fi97:FnI Tryz.prog 97:=⟨_,Tryz.func97,by kernel_rfl,rfl⟩
instance fi98:FnI Tryz.prog 98:=⟨_,Tryz.func98,by kernel_rfl,rfl⟩
instance fi99:FnI Tryz.prog 99:=⟨_,Tryz.func99,by kernel_rfl,rfl⟩
instance fi100:FnI Tryz.prog 100:=⟨_,Tryz.func100,by kernel_rfl,rfl⟩
instance fi149:FnI Tryz.prog 149:=⟨_,Tryz.func149,by kernel_rfl,rfl⟩
instance fi150:FnI Tryz.prog 150:=⟨_,Tryz.func150,by kernel_rfl,rfl⟩
instance fi175:FnI Tryz.prog 175:=⟨_,Tryz.func175,by kernel_rfl,rfl⟩
theorem zr30:(Tryz.prog.info? 30).bind (·.zero)=some (.agg #[.bool false,.slice none 0 0,.bool false,.slice none 0 0])∧ ∀F w,(tS [⟨2,true,(tS [⟨1,false,(tE (.bool false))⟩,⟨1,false,(tLm [])⟩])⟩,⟨2,true,(tS [⟨1,false,(tE (.bool false))⟩,⟨1,false,(tLm [])⟩])⟩]).p F w (.agg #[.bool false,.slice none 0 0,.bool false,.slice none 0 0]):=⟨by kernel_rfl,fun _ _=>⟨_,rfl,rfl,⟨fun h=>Bool.noConfusion h,⟨_,rfl,rfl,⟨fun _=>rfl,rfl⟩,⟨fun _=>rfl,⟨none,0,rfl,Nat.le_refl _,by decide,.inl rfl⟩⟩,trivial⟩⟩,⟨fun h=>Bool.noConfusion h,⟨_,rfl,rfl,⟨fun _=>rfl,rfl⟩,⟨fun _=>rfl,⟨none,0,rfl,Nat.le_refl _,by decide,.inl rfl⟩⟩,trivial⟩⟩,trivial⟩⟩
theorem zr119:(Tryz.prog.info? 119).bind (·.zero)=some (.agg #[.bool false,.slice none 0 0,.bool false,.slice none 0 0])∧ ∀F w,(tS [⟨4,true,(tS [⟨2,true,(tS [⟨1,false,(tE (.bool false))⟩,⟨1,false,(tLm [])⟩])⟩,⟨2,true,(tS [⟨1,false,(tE (.bool false))⟩,⟨1,false,(tLm [])⟩])⟩])⟩]).p F w (.agg #[.bool false,.slice none 0 0,.bool false,.slice none 0 0]):=⟨by kernel_rfl,fun _ _=>⟨_,rfl,rfl,⟨fun h=>Bool.noConfusion h,⟨_,rfl,rfl,⟨fun h=>Bool.noConfusion h,⟨_,rfl,rfl,⟨fun _=>rfl,rfl⟩,⟨fun _=>rfl,⟨none,0,rfl,Nat.le_refl _,by decide,.inl rfl⟩⟩,trivial⟩⟩,⟨fun h=>Bool.noConfusion h,⟨_,rfl,rfl,⟨fun _=>rfl,rfl⟩,⟨fun _=>rfl,⟨none,0,rfl,Nat.le_refl _,by decide,.inl rfl⟩⟩,trivial⟩⟩,trivial⟩⟩,trivial⟩⟩
theorem bu30:BuI Tryz.prog 30 (fun i=>[(0,2),(2,2)][i]?) (.agg #[.bool false,.slice none 0 0,.bool false,.slice none 0 0]):=BuI.struct Tryz.underlying30 (by kernel_rfl) (by kernel_rfl)
theorem bu119:BuI Tryz.prog 119 (fun i=>[(0,4)][i]?) (.agg #[.bool false,.slice none 0 0,.bool false,.slice none 0 0]):=BuI.struct Tryz.underlying119 (by kernel_rfl) (by kernel_rfl)
theorem isOne_iff {x:Wh} (hn:x.neg=false) (hl:x.l.length=1):decide (((x.l.getD 0 0:Nat):Int)=1)=decide (x=⟨false,[1]⟩):=by
 obtain ⟨n,l⟩:=x
 simp only at hn hl
 subst hn
 obtain ⟨a,rfl⟩:=List.length_eq_one_iff.1 hl
 simp
 omega
theorem neg_wh (z:Int):wh (-z)=⟨!(wh z).neg && decide (0 < (wh z).l.length),(wh z).l⟩:=by
 have h:(wh z).l.length=0↔z=0:=by
  show (dig 65536 z.natAbs).length=0↔z=0
  rw [List.length_eq_zero_iff,xi7 xa9];omega
 have e1:(wh (-z)).l=(wh z).l:=by show dig 65536 (-z).natAbs=dig 65536 z.natAbs;rw [Int.natAbs_neg]
 have e2:(wh (-z)).neg=(!(wh z).neg && decide (0 < (wh z).l.length)):=by
  show decide (-z < 0)=(!decide (z < 0) && decide (0 < (wh z).l.length))
  by_cases h0:z=0
  ·subst h0;simp [wh_zero]
  ·have:0 < (wh z).l.length:=by omega
   rw [decide_eq_true this,Bool.and_true,←decide_not]
   exact decide_eq_decide.2 (by omega)
 have e3: ∀a:Wh,a=⟨a.neg,a.l⟩:=fun _=>rfl
 rw [e3 (wh (-z)),e1,e2]
theorem c_isOne (x:Wh):
  Ct Tryz.prog 175 [tWh x] (tB (decide (x=⟨false,[1]⟩))):=by
 refine Ct.intro Tryz.func175 rfl Tryz.ntmps175 rfl ?_
 intro w F
 refine A12 ?_
 refine RGcase (t:=6) rfl (fun h54=> ?_) (fun h54=> ?_)
 ·
  refine A6 ?_
  refine RGcaseD (t:=12) rfl (fun h54_2=> ?_) (fun h54_2=> ?_)
  ·
   refine A2 ?_
   refine RGon (decide_eq_true h54_2) rfl (x5 sl26 (0) (by omega) (gN (by omega))) rfl ⟨rfl,rfl,trivial⟩ trivial trivial ?_
   refine A7 ?_
   exact x4 Plain.mk' rfl rfl (Le.bool (isOne_iff (by simpa using h54) (by omega)))
  ·
   refine A10 ?_
   exact x4 Plain.mk' rfl rfl (Le.bool (decide_eq_false (fun h=>h54_2 (by rw [h];rfl))).symm)
 ·
  refine A16 ?_
  exact x4 Plain.mk' rfl rfl (Le.bool (decide_eq_false (fun h=>by rw [h] at h54;simp at h54)).symm)
theorem c_Tlong (f:Fr):
  Ct Tryz.prog 100 [tTm f] (tB (!f.sh)):=by
 refine Ct.intro Tryz.func100 rfl Tryz.ntmps100 rfl ?_
 intro w F
 refine A11 ?_
 refine xg5 (0) ti26 rfl rfl rfl (At.t (At.g 0 rfl rfl) (At.t (At.g 0 rfl rfl) (At.g 1 rfl rfl))) rfl ?_
 refine A3 ?_
 refine RGcaseD (t:=9) rfl (fun h33=> ?_) (fun h33=> ?_)
 ·
  refine A11 ?_
  exact x4 Plain.mk' rfl rfl (Le.bool (by rw [Fr.sh,decide_eq_false (show ¬f.n.l.length≤256 by omega)];rfl))
 ·
  refine A3 ?_
  refine xc9 (decide_eq_false h33) rfl rfl (0) ti26 rfl rfl rfl (At.t (At.g 0 rfl rfl) (At.t (At.g 1 rfl rfl) (At.g 1 rfl rfl))) rfl ?_
  refine A7 ?_
  exact x4 Plain.mk' rfl rfl (Le.bool (by rw [Fr.sh,decide_eq_true (show f.n.l.length≤256 by omega),Bool.true_and,←decide_not];exact decide_eq_decide.2 (by omega)))
theorem c_Tresult (f:Fr):
  Ct Tryz.prog 65 [tTm f] (tT [tFr (if f.sh then f else fr0),tI (if f.sh then 0 else 3)]):=by
 refine Ct.intro Tryz.func65 rfl Tryz.ntmps65 rfl ?_
 intro w F
 refine A3 ?_
 refine RE (x6 (k:=2) (n:=4) (agg:=true) zr30.1 zr30.2 rfl) trivial trivial ⟨rfl,trivial⟩ ?_
 refine A7 ?_
 refine R1 (x3 (c_Tlong f) fi100 rfl) rfl ?_
 refine A2 ?_
 refine xc1 rfl (fun h46=> ?_) (fun h46=> ?_)
 ·
  have hs:f.sh=false:=by simpa using h46
  refine A2 ?_
  refine R0 (xa6 (r:=tS [⟨2,true,(tS [⟨1,false,(tE (.bool false))⟩,⟨1,false,(tLm [])⟩])⟩,⟨2,true,(tS [⟨1,false,(tE (.bool false))⟩,⟨1,false,(tLm [])⟩])⟩]) (ts:=[]) bu30 zr30.2 Le.refl) ?_
  refine A6 ?_
  exact xc8 Plain.mk' (rs:=[.cell 2 30,.tmp 3]) rfl rfl ⟨⟨_,_,_,_,_,rfl,rfl,ti30,(Le.of (by rw [hs];rfl))⟩,⟨_,rfl,(Le.int (by rw [hs];rfl))⟩,trivial⟩
 ·
  have hs:f.sh=true:=by simpa using h46
  refine A5 ?_
  refine xg5 (0) ti30 rfl rfl rfl (At.g 0 rfl (rfl)) rfl ?_
  refine A5 ?_
  exact xc8 Plain.mk' (rs:=[.cell 2 30,.tmp 3]) rfl rfl ⟨⟨_,_,_,_,_,rfl,rfl,ti30,(Le.of (by rw [hs];rfl))⟩,⟨_,rfl,(Le.int (by rw [hs];rfl))⟩,trivial⟩
theorem c_Tintegral (f:Fr):
  Ct Tryz.prog 174 [tTm f] (tB (decide (f.d=⟨false,[1]⟩))):=by
 refine Ct.intro Tryz.func174 rfl Tryz.ntmps174 rfl ?_
 intro w F
 refine A10 ?_
 refine xg5 (0) ti28 rfl rfl rfl (At.t (At.g 0 rfl rfl) (At.g 1 rfl rfl)) rfl (R1 (x3 (c_isOne _) fi175 rfl) rfl ?_)
 refine A4 ?_
 exact x4 Plain.mk' rfl rfl Le.refl
theorem c_divisor (x y:Int) (hx:len16 x≤1024) (hy:len16 y≤1024):
  Ct Tryz.prog 96 [tWh (wh x),tWh (wh y)] (tWh (wh ((Int.gcd x y:Nat):Int))):=by
 refine Ct.intro Tryz.func96 rfl Tryz.ntmps96 rfl ?_
 intro w F
 refine A4 ?_
 refine RE (x6 (k:=4) (n:=2) (agg:=true) zr28.1 zr28.2 rfl) trivial trivial ⟨rfl,trivial⟩ ?_
 refine A6 ?_
 refine R2 (x3 (c_Gcd x y hx hy) fi149 rfl) rfl rfl ?_
 refine A3 ?_
 refine RE (x6 (k:=5) (n:=2) (agg:=true) zr28.1 zr28.2 rfl) trivial trivial ⟨rfl,trivial⟩ ?_
 refine A11 ?_
 exact xc2 Plain.mk' rfl ⟨_,_,_,_,_,rfl,rfl,ti28,Le.refl⟩
theorem c_fplus (x y:Int) (hx:len16 x≤1024) (hy:len16 y≤1024) (hz:len16 (x+y)≤1024):
  Ct Tryz.prog 63 [tWh (wh x),tWh (wh y)] (tWh (wh (x+y))):=by
 refine Ct.intro Tryz.func63 rfl Tryz.ntmps63 rfl ?_
 intro w F
 refine A4 ?_
 refine RE (x6 (k:=4) (n:=2) (agg:=true) zr28.1 zr28.2 rfl) trivial trivial ⟨rfl,trivial⟩ ?_
 refine A6 ?_
 refine R2 (x3 (c_Add x y hx hy) fi98 rfl) rfl rfl ?_
 refine A3 ?_
 refine RE (x6 (k:=5) (n:=2) (agg:=true) zr28.1 zr28.2 rfl) trivial trivial ⟨rfl,trivial⟩ ?_
 refine A11 ?_
 exact xc2 Plain.mk' rfl ⟨_,_,_,_,_,rfl,rfl,ti28,(Le.of (by rw [resW,if_pos hz]))⟩
theorem c_ftimes (x y:Int) (hx:len16 x≤1024) (hy:len16 y≤1024) (hz:len16 (x*y)≤1024):
  Ct Tryz.prog 64 [tWh (wh x),tWh (wh y)] (tWh (wh (x*y))):=by
 refine Ct.intro Tryz.func64 rfl Tryz.ntmps64 rfl ?_
 intro w F
 refine A4 ?_
 refine RE (x6 (k:=4) (n:=2) (agg:=true) zr28.1 zr28.2 rfl) trivial trivial ⟨rfl,trivial⟩ ?_
 refine A6 ?_
 refine R2 (x3 (c_Mul x y hx hy) fi99 rfl) rfl rfl ?_
 refine A3 ?_
 refine RE (x6 (k:=5) (n:=2) (agg:=true) zr28.1 zr28.2 rfl) trivial trivial ⟨rfl,trivial⟩ ?_
 refine A11 ?_
 exact xc2 Plain.mk' rfl ⟨_,_,_,_,_,rfl,rfl,ti28,(Le.of (by rw [resW,if_pos hz]))⟩
theorem c_fdivide (x y:Int) (hx:len16 x≤1024) (hy:len16 y≤1024) (hy0:0 < y):
  Ct Tryz.prog 97 [tWh (wh x),tWh (wh y)] (tT [tWh (wh (x / y)),tWh (wh (x%y))]):=by
 refine Ct.intro Tryz.func97 rfl Tryz.ntmps97 rfl ?_
 intro w F
 refine A4 ?_
 refine RE (x6 (k:=4) (n:=2) (agg:=true) zr28.1 zr28.2 rfl) trivial trivial ⟨rfl,trivial⟩ (RE (x6 (k:=5) (n:=2) (agg:=true) zr28.1 zr28.2 rfl) trivial trivial ⟨rfl,trivial⟩ ?_)
 refine A6 ?_
 refine R2 (x3 (c_DivMod x y hx hy hy0) fi150 rfl) rfl rfl ?_
 refine A17 ?_
 exact xc8 Plain.mk' (rs:=[.cell 4 28,.cell 5 28]) rfl rfl ⟨⟨_,_,_,_,_,rfl,rfl,ti28,Le.refl⟩,⟨_,_,_,_,_,rfl,rfl,ti28,Le.refl⟩,trivial⟩
theorem c_opposite (z:Int) (hz:len16 z≤10000):
  Ct Tryz.prog 95 [tWh (wh z)] (tWh (wh (-z))):=by
 have hzl:(wh z).l.length≤10000:=hz
 refine Ct.intro Tryz.func95 rfl Tryz.ntmps95 rfl ?_
 intro w F
 refine A3 ?_
 refine RE (x6 (k:=2) (n:=2) (agg:=true) zr28.1 zr28.2 rfl) trivial trivial ⟨rfl,trivial⟩ ?_
 refine A8 ?_
 refine RGcase (t:=6) rfl (fun h81=> ?_) (fun h81=> ?_)
 ·
  refine A7 ?_
  refine R1 (x3 (xp9 _ (by omega)) fi87 rfl) rfl (R2 (xa6 (r:=tS [⟨1,false,tB (decide ((0:Int) < ((wh z).l.length:Nat)))⟩,⟨1,false,tLm (wh z).l⟩]) (ts:=[(0,tB (decide ((0:Int) < ((wh z).l.length:Nat)))),(1,tLm (wh z).l)]) bu28 zr28.2 (Bc 0 rfl rfl rfl (Bc 1 rfl rfl rfl Le.refl))) rfl rfl ?_)
  refine A4 ?_
  exact xc2 Plain.mk' rfl ⟨_,_,_,_,_,rfl,rfl,ti28,(Le.of (by rw [neg_wh,h81,Bool.true_and,decide_eq_decide.2 (show (0:Int) < ((wh z).l.length:Nat)↔0 < (wh z).l.length by omega)]))⟩
 ·
  refine A7 ?_
  refine R1 (x3 (xp9 _ (by omega)) fi87 rfl) rfl (R2 (xa6 (r:=tS [⟨1,false,tB false⟩,⟨1,false,tLm (wh z).l⟩]) (ts:=[(0,tB false),(1,tLm (wh z).l)]) bu28 zr28.2 (Bc 0 rfl rfl rfl (Bc 1 rfl rfl rfl Le.refl))) rfl rfl ?_)
  refine A4 ?_
  exact xc2 Plain.mk' rfl ⟨_,_,_,_,_,rfl,rfl,ti28,(Le.of (by rw [neg_wh,h81,Bool.false_and]))⟩
theorem c_lowest (n d:Int) (hn:len16 n≤1024) (hd:len16 d≤1024) (hd0:d≠0):
  Ct Tryz.prog 62 [tWh (wh n),tWh (wh d)] (tTm (fr (Rat.divInt n d))):=by
 refine Ct.intro Tryz.func62 rfl Tryz.ntmps62 rfl ?_
 intro w F
 refine A4 ?_
 refine RE (x6 (k:=4) (n:=4) (agg:=true) zr119.1 zr119.2 rfl) trivial trivial ⟨rfl,trivial⟩ ?_
 refine A2 ?_
 refine xh1 (fun (fm:(Int)×(Int))=>(fun (m:Int) (e:Int)=>(0 < e∧Rat.divInt m e=Rat.divInt n d)∧len16 m≤1024∧len16 e≤1024) fm.1 fm.2) (fun (fm:(Int)×(Int))=>(fun (m:Int) (e:Int)=>upd (upd (upd (fun _=>none) 2 (some (.own (.ptr 2 0)))) 3 (some (.own (.ptr 3 0)))) 4 (some (.own (.ptr 4 0)))) fm.1 fm.2) (fun (fm:(Int)×(Int))=>(fun (m:Int) (e:Int)=>upd (upd (upd (fun _=>none) 2 (some (⟨28,2,true,[.val (tWh (wh m))]⟩))) 3 (some (⟨28,2,true,[.val (tWh (wh e))]⟩))) 4 (some (⟨119,4,true,[.val (tTm fr0)]⟩))) fm.1 fm.2) (nm [2,3,4]) ?_ ?_
 ·
  refine A6 ?_
  refine xc1 rfl (fun h86=> ?_) (fun h86=> ?_)
  ·
   refine A2 ?_
   refine R1 (x3 (c_opposite n (by omega)) fi95 rfl) rfl ?_
   refine A1 ?_
   refine R1 (x3 (c_opposite d (by omega)) fi95 rfl) rfl ?_
   refine A3 ?_
   exact kF ((-n, -d)) (by dsimp only;exact ⟨⟨by have:=of_decide_eq_true h86;omega,Rat.neg_divInt_neg _ _⟩,by rw [len16_neg];exact hn,by rw [len16_neg];exact hd⟩) (hh:=((SubK.consI rfl ImpK.refl) ((SubK.consI rfl ImpK.refl) ((SubK.consI rfl ImpK.refl) SubK.nil))))
  ·
   refine A1 ?_
   exact kF ((n,d)) (by dsimp only;exact ⟨⟨by have:=of_decide_eq_false h86;omega,rfl⟩,hn,hd⟩) (hh:=((SubK.consI rfl ImpK.refl) ((SubK.consI rfl ImpK.refl) ((SubK.consI rfl ImpK.refl) SubK.nil))))
 ·
  intro fm hj
  obtain ⟨m,e⟩:=fm
  replace hj:(0 < e∧Rat.divInt m e=Rat.divInt n d)∧len16 m≤1024∧len16 e≤1024:=hj
  show wc _ _ _ _ (upd (upd (upd (fun _=>none) 2 (some (.own (.ptr 2 0)))) 3 (some (.own (.ptr 3 0)))) 4 (some (.own (.ptr 4 0)))) (upd (upd (upd (fun _=>none) 2 (some (⟨28,2,true,[.val (tWh (wh m))]⟩))) 3 (some (⟨28,2,true,[.val (tWh (wh e))]⟩))) 4 (some (⟨119,4,true,[.val (tTm fr0)]⟩))) _
  obtain ⟨⟨he,hq⟩,hm,hel⟩:=hj
  have hg0:0 < Int.gcd m e:=Int.gcd_pos_of_ne_zero_right m (by omega)
  have hgl:len16 ((Int.gcd m e:Nat):Int)≤1024:=Nat.le_trans (len16_le (by simpa using Nat.le_of_dvd (by omega) (Int.gcd_dvd_natAbs_right m e))) hel
  refine A4 ?_
  refine R2 (x3 (c_divisor m e hm hel) fi96 rfl) rfl rfl (RE (x6 (k:=5) (n:=2) (agg:=true) zr28.1 zr28.2 rfl) trivial trivial ⟨rfl,trivial⟩ ?_)
  refine A7 ?_
  refine R2 (x3 (c_fdivide m _ hm hgl (by omega)) fi97 rfl) rfl rfl ?_
  refine A10 ?_
  refine R2 (x3 (c_fdivide e _ hel hgl (by omega)) fi97 rfl) rfl rfl ?_
  refine A10 ?_
  refine R2 (xa6 (r:=tS [⟨2,true,tWh (wh (m / ((Int.gcd m e:Nat):Int)))⟩,⟨2,true,tWh (wh (e / ((Int.gcd m e:Nat):Int)))⟩]) (ts:=[(0,tWh (wh (m / ((Int.gcd m e:Nat):Int)))),(1,tWh (wh (e / ((Int.gcd m e:Nat):Int))))]) bu30 zr30.2 (Bc 0 rfl rfl rfl (Bc 1 rfl rfl rfl Le.refl))) rfl rfl (R1 (xa6 (r:=tS [⟨4,true,tFr ⟨wh (m / ((Int.gcd m e:Nat):Int)),wh (e / ((Int.gcd m e:Nat):Int))⟩⟩]) (ts:=[(0,tFr ⟨wh (m / ((Int.gcd m e:Nat):Int)),wh (e / ((Int.gcd m e:Nat):Int))⟩)]) bu119 zr119.2 (Bc 0 rfl rfl rfl Le.refl)) rfl ?_)
  refine A4 ?_
  exact xc2 Plain.mk' rfl ⟨_,_,_,_,_,rfl,rfl,ti119,(Le.of (by rw [←hq,lowest_eq he]))⟩
instance sl156:SlI Tryz.prog 156 30 4 true:=⟨Tryz.underlying156,ti30⟩
instance fi61:FnI Tryz.prog 61:=⟨_,Tryz.func61,by kernel_rfl,rfl⟩
instance fi62:FnI Tryz.prog 62:=⟨_,Tryz.func62,by kernel_rfl,rfl⟩
instance fi63:FnI Tryz.prog 63:=⟨_,Tryz.func63,by kernel_rfl,rfl⟩
instance fi64:FnI Tryz.prog 64:=⟨_,Tryz.func64,by kernel_rfl,rfl⟩
instance fi65:FnI Tryz.prog 65:=⟨_,Tryz.func65,by kernel_rfl,rfl⟩
instance fi68:FnI Tryz.prog 68:=⟨_,Tryz.func68,by kernel_rfl,rfl⟩
instance fi92:FnI Tryz.prog 92:=⟨_,Tryz.func92,by kernel_rfl,rfl⟩
instance fi93:FnI Tryz.prog 93:=⟨_,Tryz.func93,by kernel_rfl,rfl⟩
instance fi94:FnI Tryz.prog 94:=⟨_,Tryz.func94,by kernel_rfl,rfl⟩
instance fi146:FnI Tryz.prog 146:=⟨_,Tryz.func146,by kernel_rfl,rfl⟩
instance fi147:FnI Tryz.prog 147:=⟨_,Tryz.func147,by kernel_rfl,rfl⟩
instance fi148:FnI Tryz.prog 148:=⟨_,Tryz.func148,by kernel_rfl,rfl⟩
instance fi162:FnI Tryz.prog 162:=⟨_,Tryz.func162,by kernel_rfl,rfl⟩
instance fi174:FnI Tryz.prog 174:=⟨_,Tryz.func174,by kernel_rfl,rfl⟩
theorem el30:ElI Tryz.prog 30 4 64 true (.agg #[.bool false,.slice none 0 0,.bool false,.slice none 0 0]):=⟨ti30,by kernel_rfl,by kernel_rfl⟩
theorem zf30:Flat 4 true (.agg #[.bool false,.slice none 0 0,.bool false,.slice none 0 0]):=xm0 (by intro u hu;simp at hu;rcases hu with rfl | rfl | rfl | rfl <;> rfl)
instance un156:UnI Tryz.prog 156 (.slice 30):=⟨Tryz.underlying156⟩
theorem gcd_one_dec {x y:Int}:decide (wh ((Int.gcd x y:Nat):Int)=⟨false,[1]⟩)=decide (Int.gcd x y=1):=by
 rw [←wh_one]
 refine decide_eq_decide.2 ⟨fun h'=> ?_,fun h'=>by rw [h'];rfl⟩
 have:=wh_inj h';omega
theorem pos_of_wh {y:Int} (h1:(wh y).neg=false) (h2: ¬(wh y).l.length=0):0 < y:=by
 have h3: ¬y < 0:=of_decide_eq_false h1
 have h4:y≠0:=fun h=>h2 (by rw [h,wh_zero];rfl)
 omega
theorem c_Tvalid (f:Fr) (hn:Dig 65536 f.n.l) (hd:Dig 65536 f.d.l):
  Ct Tryz.prog 148 [tTm f] (tB f.valid):=by
 obtain ⟨n,d⟩:=f
 replace hn:Dig 65536 n.l:=hn
 replace hd:Dig 65536 d.l:=hd
 refine Ct.intro Tryz.func148 rfl Tryz.ntmps148 rfl ?_
 intro w F
 refine A10 ?_
 refine R1 (x3 (c_Tlong _) fi100 rfl) rfl ?_
 refine A1 ?_
 refine RGcase (t:=5) rfl (fun h38=> ?_) (fun h38=> ?_)
 ·
  have hs:(⟨n,d⟩:Fr).sh=false:=by simpa using h38
  refine A18 ?_
  refine A18 ?_
  refine A1 ?_
  exact x4 Plain.mk' rfl rfl (Le.bool (by simp only [Fr.valid,hs,Bool.false_and]))
 ·
  have hs:(⟨n,d⟩:Fr).sh=true:=by simpa using h38
  refine A2 ?_
  refine xc9 h38 rfl rfl (0) ti28 rfl rfl rfl (At.t (At.g 0 rfl rfl) (At.g 0 rfl rfl)) rfl (RGon h38 rfl (x3 (c_WValid n) fi156 rfl) rfl ⟨rfl,trivial⟩ trivial trivial ?_)
  refine A3 ?_
  refine RGcase (t:=12) rfl (fun h38_2=> ?_) (fun h38_2=> ?_)
  ·
   have hv1:n.valid=false:=by simpa using h38_2
   refine A18 ?_
   refine A12 ?_
   exact x4 Plain.mk' rfl rfl (Le.bool (by simp only [Fr.valid,hv1,Bool.and_false,Bool.false_and]))
  ·
   have hv1:n.valid=true:=by simpa using h38_2
   refine A2 ?_
   refine xc9 h38_2 rfl rfl (0) ti28 rfl rfl rfl (At.t (At.g 0 rfl rfl) (At.g 1 rfl rfl)) rfl (RGon h38_2 rfl (x3 (c_WValid d) fi156 rfl) rfl ⟨rfl,trivial⟩ trivial trivial ?_)
   refine A3 ?_
   refine RGcase (t:=19) rfl (fun h38_3=> ?_) (fun h38_3=> ?_)
   ·
    have hv2:d.valid=false:=by simpa using h38_3
    refine A18 ?_
    refine A5 ?_
    exact x4 Plain.mk' rfl rfl (Le.bool (by simp only [Fr.valid,hv2,Bool.and_false,Bool.false_and]))
   ·
    have hv2:d.valid=true:=by simpa using h38_3
    obtain ⟨x,rfl,hxl⟩:=Wh.of_valid hn hv1
    obtain ⟨y,rfl,hyl⟩:=Wh.of_valid hd hv2
    have ix:=int_wh x
    have iy:=int_wh y
    refine A3 ?_
    refine xc9 h38_3 rfl rfl (0) ti4 rfl rfl rfl (At.t (At.g 0 rfl rfl) (At.t (At.g 1 rfl rfl) (At.g 0 rfl rfl))) rfl ?_
    refine A2 ?_
    refine RGcase (t:=25) rfl (fun h38_4=> ?_) (fun h38_4=> ?_)
    ·
     have hy0: ¬0 < y:=by have:y < 0:=of_decide_eq_true h38_4;omega
     refine A17 ?_
     exact x4 Plain.mk' rfl rfl (Le.bool (by simp only [Fr.valid,ix,iy,decide_eq_false hy0,Bool.and_false,Bool.false_and]))
    ·
     refine A3 ?_
     refine xc9 h38_4 rfl rfl (0) ti26 rfl rfl rfl (At.t (At.g 0 rfl rfl) (At.t (At.g 1 rfl rfl) (At.g 1 rfl rfl))) rfl ?_
     refine A5 ?_
     refine x9 rfl (fun h38_5=> ?_) (fun h38_5=> ?_)
     ·
      have hy0: ¬0 < y:=fun h=>by
       have h5:(((wh y).l.length:Nat):Int)=0:=h38_5
       have h2:(wh y).l.length=0:=by omega
       have h3:y.natAbs=0:=(xi7 xa9).1 (List.length_eq_zero_iff.1 h2)
       omega
      refine A7 ?_
      exact x4 Plain.mk' rfl rfl (Le.bool (by simp only [Fr.valid,ix,iy,decide_eq_false hy0,Bool.and_false,Bool.false_and]))
     ·
      have h5: ¬(((wh y).l.length:Nat):Int)=0:=h38_5
      have hy0:0 < y:=pos_of_wh h38_4 (by omega)
      refine A3 ?_
      refine C_key (k:=1) (e':=⟨119,4,true,[.val (tTm ⟨wh x,wh y⟩)]⟩) rfl rfl ?_
      refine A2 ?_
      refine R1 (x3 (c_Tintegral _) fi174 rfl) rfl ?_
      refine A1 ?_
      refine RGcase (t:=35) rfl (fun h41=> ?_) (fun h41=> ?_)
      ·
       have hy1:y=1:=by have h:=of_decide_eq_true h41;exact wh_inj (h.trans wh_one.symm)
       refine A13 ?_
       exact x4 Plain.mk' rfl rfl (Le.bool (by simp only [Fr.valid,ix,iy,hs,hv1,hv2,Bool.true_and];rw [hy1];simp))
      ·
       have hy1: ¬y=1:=fun h=>of_decide_eq_false h41 (by show wh y=_;rw [h,wh_one])
       refine A2 ?_
       refine xc9 h41 rfl rfl (0) ti28 rfl rfl rfl (At.t (At.g 0 rfl rfl) (At.g 0 rfl rfl)) rfl ?_
       refine A2 ?_
       refine xc9 h41 rfl rfl (0) ti28 rfl rfl rfl (At.t (At.g 0 rfl rfl) (At.g 1 rfl rfl)) rfl (RGon h41 rfl (x3 (c_divisor x y hxl hyl) fi96 rfl) rfl ⟨rfl,rfl,trivial⟩ trivial trivial (RGon h41 rfl (x3 (c_isOne _) fi175 rfl) rfl ⟨rfl,trivial⟩ trivial trivial ?_))
       refine A5 ?_
       exact x4 Plain.mk' rfl rfl (Le.bool (by simp only [Fr.valid,ix,iy,hs,hv1,hv2,decide_eq_true hy0,Bool.true_and];exact gcd_one_dec))
theorem c_FValid (f:Fr) (hn:Dig 65536 f.n.l) (hd:Dig 65536 f.d.l):
  Ct Tryz.prog 94 [tFr f] (tB f.valid):=by
 refine Ct.intro Tryz.func94 rfl Tryz.ntmps94 rfl ?_
 intro w F
 refine A9 ?_
 refine R1 (xa6 (r:=tS [⟨4,true,tFr f⟩]) (ts:=[(0,tFr f)]) bu119 zr119.2 (Bc 0 rfl rfl rfl Le.refl)) rfl (R1 (x3 (c_Tvalid f hn hd) fi148 rfl) rfl ?_)
 refine A4 ?_
 exact x4 Plain.mk' rfl rfl Le.refl
theorem c_FValidQ (q:Rat) (h:short q):Ct Tryz.prog 94 [tFr (fr q)] (tB true):=by
 have:=c_FValid (fr q) (xc7 xa9 _) (xc7 xa9 _)
 rw [valid_fr h] at this;exact this
theorem c_FallValid1 (q:Rat) (h:short q):
  Ct Tryz.prog 93 [tFr (fr q)] (tB false):=by
 refine Ct.intro Tryz.func93 rfl Tryz.ntmps93 rfl ?_
 intro w F
 refine A9 ?_
 refine R1 (x3 (c_FValidQ q h) fi94 rfl) rfl ?_
 refine A5 ?_
 exact x4 Plain.mk' rfl rfl Le.refl
theorem getD_mem {α:Type} {l:List α} {i:Nat} {d:α} (h:i < l.length):l.getD i d∈l:=by
 rw [List.getD_eq_getElem?_getD,List.getElem?_eq_getElem h];exact List.getElem_mem h
theorem c_FIndex (qs:List Rat) (h: ∀q∈qs,short q):
  Ct Tryz.prog 147 [tL 4 true (fun q:Rat=>tFr (fr q)) qs,tE (.func (.func 93) #[] #[])] (tI (-1)):=by
 refine Ct.intro Tryz.func147 rfl Tryz.ntmps147 rfl ?_
 intro w F
 refine xi0 (s:=0) rfl (fun hl0=> ?_)
 refine A14 ?_
 refine cL (fun (i:Nat)=>i≤qs.length) (fun (i:Nat)=>upd (upd (upd (upd (fun _=>none) 0 (some (.val (tL 4 true (fun q:Rat=>tFr (fr q)) qs)))) 1 (some (.val (tE (.func (.func 93) #[] #[]))))) 7 (some (.val (tI qs.length)))) 8 (some (.val (tI i)))) (fun (i:Nat)=>fun _=>none) [] (fun (i:Nat)=>qs.length - i) (0) (Nat.zero_le _) ?_
 intro i hI
 refine A6 ?_
 refine x9 rfl (fun h108=> ?_) (fun h108=> ?_)
 ·
  refine A15 ?_
  refine R2 (x5 sl156 i (by omega) (gD (l:=qs) (n:=i) (d:=0) (by omega))) rfl rfl ?_
  refine A1 ?_
  refine R2 (xg6 (c_FallValid1 (qs.getD i 0) (h _ (getD_mem (by omega)))) fi93 rfl) rfl rfl ?_
  refine A10 ?_
  exact kF (i+1) ⟨(by omega),(by omega)⟩
 ·
  refine A11 ?_
  exact x4 Plain.mk' rfl rfl Le.refl
theorem c_FContains (qs:List Rat) (h: ∀q∈qs,short q):
  Ct Tryz.prog 92 [tL 4 true (fun q:Rat=>tFr (fr q)) qs,tE (.func (.func 93) #[] #[])] (tB false):=by
 refine Ct.intro Tryz.func92 rfl Tryz.ntmps92 rfl ?_
 intro w F
 refine A9 ?_
 refine R2 (x3 (c_FIndex qs h) fi147 rfl) rfl rfl ?_
 refine A5 ?_
 exact x4 Plain.mk' rfl rfl (Le.bool rfl)
theorem c_FallValid (qs:List Rat) (h: ∀q∈qs,short q):
  Ct Tryz.prog 61 [tL 4 true (fun q:Rat=>tFr (fr q)) qs] (tB true):=by
 refine Ct.intro Tryz.func61 rfl Tryz.ntmps61 rfl ?_
 intro w F
 refine A8 ?_
 refine R2 (x3 (c_FContains qs h) fi92 rfl) rfl rfl ?_
 refine A5 ?_
 exact x4 Plain.mk' rfl rfl Le.refl
theorem add_divInt (a b:Rat):Rat.divInt (a.num*(b.den:Int)+b.num*(a.den:Int)) ((a.den:Int)*(b.den:Int))=a+b:=by
 rw [Rat.add_def,←Int.natCast_mul,Rat.divInt_ofNat,Rat.normalize_eq_mkRat]
theorem den_mul_ne {a b:Rat}:((a.den:Int)*(b.den:Int))≠0:=by
 have h1:=a.den_nz;have h2:=b.den_nz
 exact Int.mul_ne_zero (by omega) (by omega)
theorem c_FAdd (a b:Rat) (ha:short a) (hb:short b):
  Ct Tryz.prog 30 [tFr (fr a),tFr (fr b)] (tT [tFr (resF (a+b)),tI (resFE (a+b))]):=by
 obtain ⟨an,ad⟩:=ha
 obtain ⟨bn,bd⟩:=hb
 have hbd:=b.den_nz
 have had:=a.den_nz
 have m1:len16 (a.num*(b.den:Int))≤256+256:=len16_mul an bd
 have m2:len16 (b.num*(a.den:Int))≤256+256:=len16_mul bn ad
 have m3:len16 ((a.den:Int)*(b.den:Int))≤256+256:=len16_mul ad bd
 have m4:=len16_add m1 m2
 have ha:short a:=⟨an,ad⟩
 have hb:short b:=⟨bn,bd⟩
 refine Ct.intro Tryz.func30 rfl Tryz.ntmps30 rfl ?_
 intro w F
 refine A4 ?_
 refine RE (x6 (k:=4) (n:=4) (agg:=true) zr30.1 zr30.2 rfl) trivial trivial ⟨rfl,trivial⟩ ?_
 refine A8 ?_
 refine R2 (xa8 (n:=2) (f:=fun q:Rat=>tFr (fr q)) [a,b] Tryz.underlying156 el30 zf30 rfl (fun _=>inferInstance) rfl rfl rfl) rfl rfl (R1 (x3 (c_FallValid [a,b] (by simp;exact ⟨ha,hb⟩)) fi61 rfl) rfl ?_)
 refine A12 ?_
 refine R2 (x3 (c_ftimes (a.num) ((b.den:Int)) (by omega) (by omega) (by omega)) fi64 rfl) rfl rfl ?_
 refine A4 ?_
 refine R2 (x3 (c_ftimes (b.num) ((a.den:Int)) (by omega) (by omega) (by omega)) fi64 rfl) rfl rfl (R2 (x3 (c_fplus (a.num*(b.den:Int)) (b.num*(a.den:Int)) (by omega) (by omega) (by omega)) fi63 rfl) rfl rfl ?_)
 refine A4 ?_
 refine R2 (x3 (c_ftimes ((a.den:Int)) ((b.den:Int)) (by omega) (by omega) (by omega)) fi64 rfl) rfl rfl (R2 (x3 (c_lowest _ _ (by omega) (by omega) den_mul_ne) fi62 rfl) rfl rfl (R1 (x3 (c_Tresult _) fi65 rfl) rfl ?_))
 refine A7 ?_
 exact xc8 Plain.mk' (rs:=[.cell 4 30,.tmp 5]) rfl rfl ⟨⟨_,_,_,_,_,rfl,rfl,ti30,(Le.of (by rw [sh_fr,add_divInt];by_cases hs:short (a+b) <;> simp [resF,hs]))⟩,⟨_,rfl,(Le.int (by rw [sh_fr,add_divInt];by_cases hs:short (a+b) <;> simp [resFE,hs]))⟩,trivial⟩
theorem c_FCmp (a b:Rat) (ha:short a) (hb:short b):
  Ct Tryz.prog 34 [tFr (fr a),tFr (fr b)] (tI (cmpQ a b)):=by
 obtain ⟨an,ad⟩:=ha
 obtain ⟨bn,bd⟩:=hb
 have hbd:=b.den_nz
 have had:=a.den_nz
 have m1:len16 (a.num*(b.den:Int))≤256+256:=len16_mul an bd
 have m2:len16 (b.num*(a.den:Int))≤256+256:=len16_mul bn ad
 have ha:short a:=⟨an,ad⟩
 have hb:short b:=⟨bn,bd⟩
 refine Ct.intro Tryz.func34 rfl Tryz.ntmps34 rfl ?_
 intro w F
 refine A12 ?_
 refine R2 (xa8 (n:=2) (f:=fun q:Rat=>tFr (fr q)) [a,b] Tryz.underlying156 el30 zf30 rfl (fun _=>inferInstance) rfl rfl rfl) rfl rfl (R1 (x3 (c_FallValid [a,b] (by simp;exact ⟨ha,hb⟩)) fi61 rfl) rfl ?_)
 refine A12 ?_
 refine R2 (x3 (c_ftimes (a.num) ((b.den:Int)) (by omega) (by omega) (by omega)) fi64 rfl) rfl rfl ?_
 refine A4 ?_
 refine R2 (x3 (c_ftimes (b.num) ((a.den:Int)) (by omega) (by omega) (by omega)) fi64 rfl) rfl rfl (R2 (x3 (c_Cmp (a.num*(b.den:Int)) (b.num*(a.den:Int)) (by omega) (by omega)) fi68 rfl) rfl rfl ?_)
 refine A4 ?_
 exact x4 Plain.mk' rfl rfl (Le.int (cmpQ_eq a b))
theorem xj0 (f g:Fr):
  Ct Tryz.prog 116 [tFr f,tFr g] (tB (decide (f=g))):=by
 refine Ct.intro Tryz.func116 rfl Tryz.ntmps116 rfl ?_
 intro w F
 refine A13 ?_
 refine R2 (x3 (c_WSame _ _) fi162 rfl) rfl rfl ?_
 refine A1 ?_
 refine RGcase (t:=10) rfl (fun h107=> ?_) (fun h107=> ?_)
 ·
  have hn:f.n=g.n:=of_decide_eq_true h107
  refine A4 ?_
  refine RGon h107 rfl (x3 (c_WSame _ _) fi162 rfl) rfl ⟨rfl,rfl,trivial⟩ trivial trivial ?_
  refine A5 ?_
  exact x4 Plain.mk' rfl rfl (Le.bool (by obtain ⟨a,b⟩:=f;obtain ⟨c,d⟩:=g;simp only at hn;subst hn;simp))
 ·
  have hn:f.n≠g.n:=of_decide_eq_false h107
  refine A10 ?_
  exact x4 Plain.mk' rfl rfl (Le.bool (decide_eq_false (fun h=>hn (by rw [h]))).symm)
theorem xj6 (n:Int) (h1: -9223372036854775808≤n) (h2:n≤9223372036854775807):
  Ct Tryz.prog 91 [tI n] (tFr (fr (n:Rat))):=by
 refine Ct.intro Tryz.func91 rfl Tryz.ntmps91 rfl ?_
 intro w F
 refine A2 ?_
 refine RE (x6 (k:=2) (n:=4) (agg:=true) zr30.1 zr30.2 rfl) trivial trivial ⟨rfl,trivial⟩ ?_
 refine A5 ?_
 refine R1 (x3 (c_FromInt n h1 h2) fi146 rfl) rfl (R1 (x3 (c_FromInt 1 (by decide) (by decide)) fi146 rfl) rfl (R2 (xa6 (r:=tS [⟨2,true,tWh (wh n)⟩,⟨2,true,tWh (wh 1)⟩]) (ts:=[(0,tWh (wh n)),(1,tWh (wh 1))]) bu30 zr30.2 (Bc 0 rfl rfl rfl (Bc 1 rfl rfl rfl Le.refl))) rfl rfl ?_))
 refine A4 ?_
 exact xc2 Plain.mk' rfl ⟨_,_,_,_,_,rfl,rfl,ti30,(Le.of (by rw [fr,Rat.num_intCast,Rat.den_intCast];rfl))⟩
end An.S
namespace An
open Go
def Fr.dig (f:Fr):Prop:=Dig 65536 f.n.l∧Dig 65536 f.d.l
def Fr.rat (f:Fr):Rat:=Rat.divInt f.n.int f.d.int
theorem xh4 (q:Rat):(fr q).rat=q:=by
 have e1:(fr q).n.int=q.num:=int_wh _
 have e2:(fr q).d.int=(q.den:Int):=int_wh _
 rw [Fr.rat,e1,e2,Rat.divInt_ofNat,Rat.mkRat_self]
theorem Fr.of_valid' {f:Fr} (hD:f.dig) (h:f.valid=true):f=fr f.rat∧short f.rat:=by
 obtain ⟨q,hq,hs⟩:=Fr.of_valid hD.1 hD.2 h
 subst hq
 rw [xh4];exact ⟨rfl,hs⟩
def take (q:Rat) (n:Int):Int:=(q*(n:Rat)).floor
theorem len16_64 {n:Int} (h1: -9223372036854775808≤n) (h2:n≤9223372036854775807):len16 n≤4:=wh_len _ (by omega)
structure Va where
  kind:Nat
  f:Fr
  i:Int
deriving DecidableEq
structure Sn where
  lo:Int
  hi:Int
deriving DecidableEq
structure Tst where
  lo:Int
  hi:Int
  v:Va
deriving DecidableEq
instance:Inhabited Sn:=⟨⟨0,0⟩⟩
def va0:Va:=⟨0,fr0,0⟩
def sn0:Sn:=⟨0,0⟩
def tst0:Tst:=⟨0,0,va0⟩
abbrev tVa (v:Va):Ty:=tS [⟨1,false,tE (.int .u8 (v.kind:Int))⟩,⟨4,true,tFr v.f⟩,⟨1,false,tI v.i⟩]
abbrev tSn (s:Sn):Ty:=tS [⟨1,false,tI s.lo⟩,⟨1,false,tI s.hi⟩]
abbrev tTs (s:Tst):Ty:=tS [⟨1,false,tI s.lo⟩,⟨1,false,tI s.hi⟩,⟨6,true,tVa s.v⟩]
def Va.valid (v:Va):Bool:=
 if v.kind=2∨v.kind=3 then decide (v.i=0) && v.f.valid
 else if v.kind=1 then decide (v.f=fr0) && decide (0≤v.i) && decide (v.i≤1)
 else if v.kind=4 then decide (v.f=fr0) && decide (0≤v.i) && decide (v.i < 65536)
 else if v.kind=5∨v.kind=6 then decide (v.f=fr0) && decide (-1048576≤v.i) && decide (v.i≤1048576)
 else false
def tOk (l:List Tst) (i:Nat):Bool:=
 decide (0≤(l.getD i tst0).lo) && decide ((l.getD i tst0).lo < (l.getD i tst0).hi) && decide ((l.getD i tst0).hi≤65536) &&
  (decide (i=0) || decide ((l.getD (i - 1) tst0).hi≤(l.getD i tst0).lo) && decide ((l.getD (i - 1) tst0).v.kind=(l.getD i tst0).v.kind) && !(decide ((l.getD (i - 1) tst0).hi=(l.getD i tst0).lo) && decide ((l.getD (i - 1) tst0).v=(l.getD i tst0).v)))
def tRight (l:List Tst):Bool:=(List.range l.length).all (tOk l) && l.all fun s=>s.v.valid
def Sn.ok (s:Sn):Bool:=decide (0≤s.lo) && decide (s.lo≤s.hi) && decide (s.hi≤65536)
def mrg1 (acc:List Sn) (s:Sn):List Sn:=
 if 0 < acc.length∧s.lo≤(acc.getD (acc.length - 1) sn0).hi then acc.set (acc.length - 1) ⟨(acc.getD (acc.length - 1) sn0).lo,max (acc.getD (acc.length - 1) sn0).hi s.hi⟩ else acc++[s]
def mrg (xs:List Sn):List Sn:=xs.foldl mrg1 []
theorem run_equalI {P:Program} {T:TypeId} {k:IntKind} (hT:P.underlying T=some (.int k)) (d:Nat) (p q:Int) (w:World):(Op.equalIn (d+1) T (.int k p) (.int k q)).run P w= .ok (p==q) w:=by
 simp only [Op.equalIn,Sem.run_bind,run_underlying hT,Result.andThen_ok,Sem.run_pure,if_true]
theorem run_equalS2 {P : Program} {T E : TypeId} {k : IntKind} {f0 f1 : Field} (hT : P.underlying T = some (.struct #[f0, f1])) (hE : P.underlying E = some (.int k)) (h0 : f0.type = E) (h1 : f1.type = E) (n0 : f0.name ≠ "_") (n1 : f1.name ≠ "_") (o0 : f0.offset = 0) (o1 : f1.offset = 1)
  (hA: ∀w,(isAgg E).run P w= .ok false w) (hs:P.stoodInHeld T=false) (a b c d:Int) (w:World):(Op.equal T (.agg #[.int k a,.int k b]) (.agg #[.int k c,.int k d])).run P w= .ok (a==c && b==d) w:=by
 have key: ∀n,(Op.equalIn (n+2) T (.agg #[.int k a,.int k b]) (.agg #[.int k c,.int k d])).run P w= .ok (a==c && b==d) w:=fun n=>by
  have hp: ∀w,(program).run P w= .ok P w:=fun _=>rfl
  rw [Op.equalIn]
  simp only [Sem.run_bind,run_underlying hT,Result.andThen_ok,hp,hs,Bool.false_eq_true,if_false]
  simp [n0,n1,h0,h1,o0,o1,go_sem,hA,run_equalI hE]
  by_cases e1:a=c <;> by_cases e2:b=d <;> simp [e1,e2,go_sem]
 exact key 9998
structure EqS2 (P:Program) (T:TypeId):Prop where
  eq: ∀(a b c d:Int) (w:World),(Op.equal T (.agg #[.int .i64 a,.int .i64 b]) (.agg #[.int .i64 c,.int .i64 d])).run P w= .ok (a==c && b==d) w
  guard:P.eqGuardType P.depth T=false
theorem tSn_val {F:Dom} {w:World} {s:Sn} {v:Value} (h:(tSn s).p F w v):v= .agg #[.int .i64 s.lo,.int .i64 s.hi]:=by
 obtain ⟨cs,rfl,h2,h3,h4,_⟩:=h
 have h2:cs.size=2:=h2
 obtain ⟨l⟩:=cs
 match l,h2 with
 | [x,y],_=>
  have e1:x= .int .i64 s.lo:=h3.2
  have e2:y= .int .i64 s.hi:=h4.2
  subst e1;subst e2;rfl
theorem tSn_mk {F:Dom} {w:World} {s:Sn}:(tSn s).p F w (.agg #[.int .i64 s.lo,.int .i64 s.hi]):=⟨_,rfl,rfl,⟨fun _=>rfl,rfl⟩,⟨fun _=>rfl,rfl⟩,trivial⟩
theorem d_neqSn {P:Program} {c:Base} {d ty:Nat} {pos:String} {af:Array Edge} {gd:Option (Nat×Bool)} {T yT:TypeId} {x y:Operand} {s t:Sn} (h:EqS2 P T):
  Does P c ⟨some d,.binOp .neq T x y yT,ty,pos,af,gd⟩ ⟨[(x,.val (tSn s)),(y,.val (tSn t))],[],some (d,some (.val (tB (decide (s≠t))))),[],[]⟩:=
 Does.value rfl fun g hh al a w η hrd _ st=>by
  have h1:=tSn_val (xa0 st hrd.1).1
  have h2:=tSn_val (xa0 st hrd.2.1).1
  have hp: ∀w,(program).run P w= .ok P w:=fun _=>rfl
  have hg:(eqGuard .neq T x y (.agg #[.int .i64 s.lo,.int .i64 s.hi]) (.agg #[.int .i64 t.lo,.int .i64 t.hi])).run P w= .ok () w:=by
   simp [eqGuard,go_sem,h.guard]
  have hb:(binOp .neq T (.agg #[.int .i64 s.lo,.int .i64 s.hi]) (.agg #[.int .i64 t.lo,.int .i64 t.hi])).run P w= .ok (.bool (!(s.lo==t.lo && s.hi==t.hi))) w:=by
   simp only [binOp,Sem.run_bind,h.eq,Result.andThen_ok,Sem.run_pure]
  refine ⟨.bool (!(s.lo==t.lo && s.hi==t.hi)),w,?_,Ext.refl w,?_,fun k hk=>by cases hk⟩
  ·simp only [execOp,h1,h2,Sem.run_bind,hg,hb,Result.andThen_ok,Sem.run_pure]
  ·show _=Value.bool (decide (s≠t))
   congr 1
   obtain ⟨a,b⟩:=s;obtain ⟨a',b'⟩:=t
   by_cases e1:a=a' <;> by_cases e2:b=b' <;> simp [e1,e2]
theorem St.recast {c:Base} {g:Slots} {h:Keys} {al:Names} {a:Act} {w:World} {t:Nat} {e e':Ent} (hs:St c g h al a w) (hg:g t=some e) (hi: ∀F η v,e.sat F w η v→e'.sat F w η v) (hsup:e'.supp=[]):St c (upd g t (some e')) h al a w:=by
 obtain ⟨η,s⟩:=hs
 have s2:=s.put (s.slot t _ hg).1 (e:=e') (hi _ _ _ (s.slot t _ hg).2.2) fun j hj=>by rw [hsup] at hj;cases hj
 refine ⟨η,?_⟩
 have ea:a.put (some t) (a.tmps.getD t undef)=a:=by
  have hlt:t < a.tmps.size:=by rw [s.tn];exact (s.slot t _ hg).1
  have:a.tmps.setIfInBounds t (a.tmps.getD t undef)=a.tmps:=by
   apply Array.ext_getElem?
   intro i
   rw [Array.getElem?_setIfInBounds]
   by_cases hi:t=i
   ·subst hi;simp [hlt]
   ·simp [hi]
  simp only [Act.put,this]
 rw [←ea];exact s2
theorem fdOne_row {F:Dom} {w:World} {η:Env} {cs:Array Value}: ∀(ts:List Ty) (o:Nat),Fd.all F w cs o (fdOne ts)→RowOk F w η cs o (ts.map Ent.val)
 | [],_,_=>fun i e hi=>by simp at hi
 | t::r,o,h=>fun i e hi=>by
  cases i with
  | zero=>
   simp only [List.map_cons,List.getElem?_cons_zero,Option.some.injEq] at hi
   subst hi
   exact h.1.2
  | succ i=>
   have:=fdOne_row (η:=η) r (o+1) h.2 i e (by simpa using hi)
   rwa [show o+1+i=o+(i+1) by omega] at this
theorem Does.rowV {P:Program} {c:Base} {o:Oper} {rd:List (Operand×Ent)} {kr:List (Nat×HEnt)} {d:Nat} {ts:List Ty} {kw:List (Nat×Option HEnt)} {nk:List Nat} {es:List Ent} (he:ts.map Ent.val=es) (hd:Does P c o ⟨rd,kr,some (d,some (.val (tS (fdOne ts)))),kw,nk⟩):
  Does P c o ⟨rd,kr,some (d,some (.own (An.rowV es))),kw,nk⟩:=by
 subst he
 intro g h al a w hp hs
 refine Oper.wpIn_mono (fun a' w' hs'=> ?_) (hd g h al a w ⟨hp.rd,hp.kr,hp.nk,fun x hx=>by cases hx;exact hp.d (d,some (.own (An.rowV (ts.map Ent.val)))) rfl⟩ hs)
 have:=hs'.recast (t:=d) (e':= .own (An.rowV (ts.map Ent.val))) (xa7 _ _ _) (fun F η v hv=> ?_) (by rw [rowV_supp];simp [List.flatMap_map,Ent.supp])
 ·simp only [Eff.g,upd_twice] at this ⊢
  exact this
 ·obtain ⟨cs,h1,h2,h3⟩:=hv
  exact rowV_sat.2 ⟨cs,h1,by rw [h2,fdOne_sum];simp,fdOne_row ts 0 h3⟩
theorem C_nilC {P:Program} {c:Base} {g:Slots} {h:Keys} {al:Names} {Q:Exit→Act→World→Prop} {x:Code} {q Tq:Nat} {us us':List Ent} (k T es:Nat) (agg:Bool) (i:Nat) (hq:h q=some ⟨Tq,1,false,us⟩) (hi:us[i]? =some (.val (tE (.slice none 0 0)))) (hk:al k=false) (hes:Nat.blt 0 es=true) (hagg:agg=false→es=1) (hne:Nat.beq q k=false)
  (hus:us.set i (.own (.sl k es 0 0))=us') (H:wc P c x Q g (upd (upd h k (some ⟨T,es,agg,[]⟩)) q (some ⟨Tq,1,false,us'⟩)) (fun j=>Nat.beq j k || al j)):wc P c x Q g h al:=fun a w hs=>by
 obtain ⟨η,s⟩:=hs
 subst hus
 obtain ⟨η',s',hc,hoth⟩:=s.ghost k hk T es agg (by simpa using hes) hagg
 have hqk:q≠k:=fun e=>by rw [e] at hne;simp at hne
 have hq':upd h k (some ⟨T,es,agg,[]⟩) q=some ⟨Tq,1,false,us⟩:=by rw [xa4 _ _ _ hqk];exact hq
 refine H a w ⟨η',s'.same hq' rfl ?_ ?_⟩
 ·intro j hj
  simp only [HEnt.supp,List.mem_flatMap] at hj
  obtain ⟨e,he,hj⟩:=hj
  obtain ⟨n,hn⟩:=List.getElem?_of_mem he
  rcases List.getElem?_set_cases hn with ⟨_,rfl,_⟩ | ⟨_,hn'⟩
  ·simp only [Ent.supp,VP.supp,List.mem_singleton] at hj
   subst hj;simp
  ·exact (s'.key q _ hq').2.1 j (HEnt.mem_supp hn' hj)
 ·obtain ⟨k1,k2,k3,k4,k5⟩:=(s'.key q _ hq').2.2.1
  refine ⟨by simpa using k1,k2,k3,k4,fun hc0=> ?_⟩
  obtain ⟨cs,c1,c2,c3⟩:=k5 hc0
  refine ⟨cs,c1,c2,fun n e hn=> ?_⟩
  rcases List.getElem?_set_cases hn with ⟨rfl,rfl,_⟩ | ⟨_,hn'⟩
  ·have h6:_=_:=c3 n _ hi
   refine ⟨none,?_,by simp [hc],fun hlt=>by rw [hc] at hlt;omega⟩
   rw [hc]
   exact h6
  ·exact c3 n e hn'
end An
namespace An.S
open Go Go.Proofs An
instance ti3:TyI Tryz.prog 3 1 false:=⟨by kernel_rfl,by kernel_rfl⟩
instance ti5:TyI Tryz.prog 5 1 false:=⟨by kernel_rfl,by kernel_rfl⟩
instance ti57:TyI Tryz.prog 57 6 true:=⟨by kernel_rfl,by kernel_rfl⟩
instance ti106:TyI Tryz.prog 106 2 true:=⟨by kernel_rfl,by kernel_rfl⟩
instance sl74:SlI Tryz.prog 74 106 2 true:=⟨Tryz.underlying74,ti106⟩
instance fo57_0:FoI Tryz.prog 57 0 0:=⟨by kernel_rfl⟩
instance fo57_1:FoI Tryz.prog 57 1 1:=⟨by kernel_rfl⟩
instance fo57_2:FoI Tryz.prog 57 2 5:=⟨by kernel_rfl⟩
instance fi31:FnI Tryz.prog 31:=⟨_,Tryz.func31,by kernel_rfl,rfl⟩
instance fi66:FnI Tryz.prog 66:=⟨_,Tryz.func66,by kernel_rfl,rfl⟩
instance fi101:FnI Tryz.prog 101:=⟨_,Tryz.func101,by kernel_rfl,rfl⟩
instance un74:UnI Tryz.prog 74 (.slice 106):=⟨Tryz.underlying74⟩
theorem xu6 (l:List Nat) (k:Nat) (hk:k < l.length):l.take (k+1)=l.take k++[l.getD k 0]:=by
 rw [List.take_succ_eq_append_getElem hk,List.getD_eq_getElem?_getD,List.getElem?_eq_getElem hk];rfl
theorem xu5 (l:List Sn) (k:Nat) (hk:k < l.length):l.take (k+1)=l.take k++[l.getD k sn0]:=by
 rw [List.take_succ_eq_append_getElem hk,List.getD_eq_getElem?_getD,List.getElem?_eq_getElem hk];rfl
theorem eq_Sn:EqS2 Tryz.prog 106:=⟨run_equalS2 Tryz.underlying106 Tryz.underlying3 rfl rfl (by decide) (by decide) rfl rfl (fun w=>by kernel_rfl) (by kernel_rfl),by kernel_rfl⟩
theorem c_SameLimbs (xs ys:List Nat):
  Ct Tryz.prog 101 [tLm xs,tLm ys] (tB (decide (xs=ys))):=by
 refine Ct.intro Tryz.func101 rfl Tryz.ntmps101 rfl ?_
 intro w F
 refine xi0 (s:=0) rfl (fun hl0=> ?_)
 refine A15 ?_
 refine x9 rfl (fun h9=> ?_) (fun h9=> ?_)
 ·
  refine A7 ?_
  exact x4 Plain.mk' rfl rfl (Le.bool (decide_eq_false (fun h=>by rw [h] at h9;omega)).symm)
 ·
  have hll:xs.length=ys.length:=by omega
  refine A9 ?_
  refine cL (fun (i:Nat)=>i≤xs.length∧xs.take i=ys.take i) (fun (i:Nat)=>upd (upd (upd (fun _=>none) 0 (some (.val (tLm xs)))) 1 (some (.val (tLm ys)))) 5 (some (.val (tI i)))) (fun (i:Nat)=>fun _=>none) [] (fun (i:Nat)=>xs.length - i) (0) ⟨Nat.zero_le _,rfl⟩ ?_
  intro i hI
  obtain ⟨hi,ht⟩:=hI
  refine A9 ?_
  refine x9 rfl (fun h12=> ?_) (fun h12=> ?_)
  ·
   refine A8 ?_
   refine R2 (x5 sl26 (i) (by omega) (gN (by omega))) rfl rfl ?_
   refine A3 ?_
   refine R2 (x5 sl26 (i) (by omega) (gN (by omega))) rfl rfl ?_
   refine A4 ?_
   refine x9 rfl (fun h13=> ?_) (fun h13=> ?_)
   ·
    refine A11 ?_
    exact x4 Plain.mk' rfl rfl (Le.bool (decide_eq_false (fun h=>by rw [h] at h13;exact (h13 rfl))).symm)
   ·
    refine A8 ?_
    exact kF (i+1) ⟨⟨by omega,by rw [xu6 xs i (by omega),xu6 ys i (by omega),ht,show xs.getD i 0=ys.getD i 0 from (by omega)]⟩,(by omega)⟩
  ·
   refine A11 ?_
   exact x4 Plain.mk' rfl rfl (Le.bool (decide_eq_true (by rw [show i=xs.length by omega,List.take_length,hll,List.take_length] at ht;exact ht)).symm)
theorem c_SameSpans (xs ys:List Sn):
  Ct Tryz.prog 32 [tL 2 true tSn xs,tL 2 true tSn ys] (tB (decide (xs=ys))):=by
 refine Ct.intro Tryz.func32 rfl Tryz.ntmps32 rfl ?_
 intro w F
 refine xi0 (s:=0) rfl (fun hl0=> ?_)
 refine A15 ?_
 refine x9 rfl (fun h178=> ?_) (fun h178=> ?_)
 ·
  refine A7 ?_
  exact x4 Plain.mk' rfl rfl (Le.bool (decide_eq_false (fun h=>by rw [h] at h178;omega)).symm)
 ·
  have hll:xs.length=ys.length:=by omega
  refine A9 ?_
  refine cL (fun (i:Nat)=>i≤xs.length∧xs.take i=ys.take i) (fun (i:Nat)=>upd (upd (upd (fun _=>none) 0 (some (.val (tL 2 true tSn xs)))) 1 (some (.val (tL 2 true tSn ys)))) 5 (some (.val (tI i)))) (fun (i:Nat)=>fun _=>none) [] (fun (i:Nat)=>xs.length - i) (0) ⟨Nat.zero_le _,rfl⟩ ?_
  intro i hI
  obtain ⟨hi,ht⟩:=hI
  refine A9 ?_
  refine x9 rfl (fun h181=> ?_) (fun h181=> ?_)
  ·
   refine A8 ?_
   refine R2 (x5 sl74 i (by omega) (gD (d:=sn0) (by omega))) rfl rfl ?_
   refine A3 ?_
   refine R2 (x5 sl74 i (by omega) (gD (d:=sn0) (by omega))) rfl rfl ?_
   refine A1 ?_
   refine R2 (d_neqSn eq_Sn) rfl rfl ?_
   refine A2 ?_
   refine x9 rfl (fun h182=> ?_) (fun h182=> ?_)
   ·
    refine A11 ?_
    exact x4 Plain.mk' rfl rfl (Le.bool (decide_eq_false (fun h=>by rw [h] at h182;exact (h182 rfl))).symm)
   ·
    refine A8 ?_
    exact kF (i+1) ⟨⟨by omega,by rw [xu5 xs i (by omega),xu5 ys i (by omega),ht,show xs.getD i sn0=ys.getD i sn0 from (Decidable.of_not_not h182)]⟩,(by omega)⟩
  ·
   refine A11 ?_
   exact x4 Plain.mk' rfl rfl (Le.bool (decide_eq_true (by rw [show i=xs.length by omega,List.take_length,hll,List.take_length] at ht;exact ht)).symm)
theorem c_SameWhole (x y:Wh):
  Ct Tryz.prog 66 [tWh x,tWh y] (tB (decide (x=y))):=by
 refine Ct.intro Tryz.func66 rfl Tryz.ntmps66 rfl ?_
 intro w F
 refine A15 ?_
 refine RGcase (t:=10) rfl (fun h81=> ?_) (fun h81=> ?_)
 ·
  refine A4 ?_
  refine RGon h81 rfl (x3 (c_SameLimbs _ _) fi101 rfl) rfl ⟨rfl,rfl,trivial⟩ trivial trivial ?_
  refine A5 ?_
  exact x4 Plain.mk' rfl rfl (Le.bool (by obtain ⟨a,b⟩:=x;obtain ⟨c,d⟩:=y;simp_all))
 ·
  refine A10 ?_
  exact x4 Plain.mk' rfl rfl (Le.bool (by obtain ⟨a,b⟩:=x;obtain ⟨c,d⟩:=y;simp_all))
theorem c_SameFrac (x y:Fr):
  Ct Tryz.prog 31 [tFr x,tFr y] (tB (decide (x=y))):=by
 refine Ct.intro Tryz.func31 rfl Tryz.ntmps31 rfl ?_
 intro w F
 refine A13 ?_
 refine R2 (x3 (c_SameWhole _ _) fi66 rfl) rfl rfl ?_
 refine A1 ?_
 refine RGcaseD (t:=10) rfl (fun h113=> ?_) (fun h113=> ?_)
 ·
  refine A4 ?_
  refine RGon (decide_eq_true h113) rfl (x3 (c_SameWhole _ _) fi66 rfl) rfl ⟨rfl,rfl,trivial⟩ trivial trivial ?_
  refine A5 ?_
  exact x4 Plain.mk' rfl rfl (Le.bool (by obtain ⟨a,b⟩:=x;obtain ⟨c,d⟩:=y;simp_all))
 ·
  refine A10 ?_
  exact x4 Plain.mk' rfl rfl (Le.bool (by obtain ⟨a,b⟩:=x;obtain ⟨c,d⟩:=y;simp_all))
theorem c_SameValue (x y:Va):
  Ct Tryz.prog 82 [tVa x,tVa y] (tB (decide (x=y))):=by
 refine Ct.intro Tryz.func82 rfl Tryz.ntmps82 rfl ?_
 intro w F
 refine A15 ?_
 refine RGcaseD (t:=10) rfl (fun h146=> ?_) (fun h146=> ?_)
 ·
  refine A4 ?_
  refine RGon (decide_eq_true h146) rfl (x3 (c_SameFrac _ _) fi31 rfl) rfl ⟨rfl,rfl,trivial⟩ trivial trivial ?_
  refine A2 ?_
  refine RGcaseD (t:=17) rfl (fun h146_2=> ?_) (fun h146_2=> ?_)
  ·
   refine A10 ?_
   exact x4 Plain.mk' rfl rfl (Le.bool (by obtain ⟨a,b,e⟩:=x;obtain ⟨c,d,f⟩:=y;simp only [Va.mk.injEq] at*;simp_all <;> omega))
  ·
   refine A10 ?_
   exact x4 Plain.mk' rfl rfl (Le.bool (by obtain ⟨a,b,e⟩:=x;obtain ⟨c,d,f⟩:=y;simp only [Va.mk.injEq] at*;simp_all <;> omega))
 ·
  refine A17 ?_
  exact x4 Plain.mk' rfl rfl (Le.bool (by obtain ⟨a,b,e⟩:=x;obtain ⟨c,d,f⟩:=y;simp only [Va.mk.injEq] at*;simp_all <;> omega))
theorem tmod_lt {x n:Int} (hn:1≤n): -n < x.tmod n∧x.tmod n < n:=by
 have h1:=Int.tmod_lt_of_pos x (show 0 < n by omega)
 have h2:=Int.lt_tmod_of_pos x (show 0 < n by omega)
 omega
theorem emod_tmod {x n:Int} (hn:1≤n):(x.tmod n < 0→x%n=x.tmod n+n)∧(¬x.tmod n < 0→x%n=x.tmod n):=by
 have h:=Int.tmod_eq_emod (a:=x) (b:=n)
 have h3:=Int.emod_nonneg x (show n≠0 by omega)
 have h4:=Int.emod_lt_of_pos x (show 0 < n by omega)
 rw [h]
 split <;> constructor <;> intro _ <;> omega
theorem c_Pick (x n:Int) (hn:1≤n) (hn2:n≤9223372036854775807):
  Ct Tryz.prog 27 [tI x,tI n] (tI (x%n)):=by
 refine Ct.intro Tryz.func27 rfl Tryz.ntmps27 rfl ?_
 intro w F
 have hm:=tmod_lt (x:=x) hn
 have hm2:=emod_tmod (x:=x) hn
 refine A12 ?_
 refine C_bF rfl (decide_eq_false (by omega)) ?_
 refine A6 ?_
 refine R2 (d_rem (r:=x.tmod n) (by omega) rfl) rfl rfl ?_
 refine A3 ?_
 refine xh1 (fun (y:Int)=>y=x%n) (fun (y:Int)=>upd (fun _=>none) 0 (some (.val (tI y)))) (fun (y:Int)=>fun _=>none) (nm []) ?_ ?_
 ·
  refine A6 ?_
  refine x9 rfl (fun h10=> ?_) (fun h10=> ?_)
  ·
   refine A6 ?_
   exact kF (x.tmod n+n) (by omega)
  ·
   refine A1 ?_
   exact kF (x.tmod n) (by omega)
 ·
  intro y hj
  refine A7 ?_
  exact x4 Plain.mk' rfl rfl (Le.int hj)
end An.S
namespace An
open Go
theorem from_more {v i u:Nat} (hu:u=v / 65536 ^ i) (h0:0 < u):i+1≤(dig 65536 v).length∧u / 65536=v / 65536 ^ (i+1)∧dgs 65536 i v++[u%65536]=dgs 65536 (i+1) v:=by
 refine ⟨?_,by rw [hu,Nat.div_div_eq_div_mul,←Nat.pow_succ],by rw [xj9,hu]⟩
 rcases Nat.lt_or_ge i (dig 65536 v).length with h' | h'
 ·exact h'
 ·have:=(xb0 xa9 v i).1 h'
  rw [Nat.div_eq_of_lt this] at hu;omega
theorem from_end {v i:Nat} (h:v / 65536 ^ i=0) (hi:i≤(dig 65536 v).length):dgs 65536 i v=dig 65536 v:=by
 have h1:v < 65536 ^ i:=(Nat.div_eq_zero_iff_lt (Nat.pow_pos (by decide))).1 h
 have h2:=(xb0 xa9 v i).2 h1
 rw [show i=(dig 65536 v).length by omega,xp7 xa9]
end An
namespace An.S
open Go Go.Proofs An
theorem shr16 {u:Nat} (_h:u < 18446744073709551616):((u:Int)).fdiv (2 ^ (min (16:Int).toNat (IntKind.bits .u64)))=((u / 65536:Nat):Int):=by
 show ((u:Int)).fdiv 65536=_
 rw [Int.fdiv_eq_ediv_of_nonneg _ (by decide)];omega
theorem wh_of {n:Int}:(⟨decide (n < 0),dig 65536 n.natAbs⟩:Wh)=wh n:=rfl
theorem c_KWhole (n:Int) (h1: -9223372036854775808≤n) (h2:n≤9223372036854775807):
  Ct Tryz.prog 60 [tI n] (tWh (wh n)):=by
 refine Ct.intro Tryz.func60 rfl Tryz.ntmps60 rfl ?_
 intro w F
 refine A2 ?_
 refine RE (x6 (k:=2) (n:=2) (agg:=true) zr28.1 zr28.2 rfl) trivial trivial ⟨rfl,trivial⟩ ?_
 refine A6 ?_
 refine R1 (Does.rowV (ts:=[tB (decide (n < 0)),tE (.slice none 0 0)]) (es:=[.val (tB (decide (n < 0))),.val (tE (.slice none 0 0))]) rfl (d_build (r:=tS [⟨1,false,tB (decide (n < 0))⟩,⟨1,false,tE (.slice none 0 0)⟩]) (ts:=[(0,tB (decide (n < 0)))]) bu28 (z:= .agg #[.bool false,.slice none 0 0]) (t:=tS [⟨1,false,tE (.bool false)⟩,⟨1,false,tE (.slice none 0 0)⟩]) (fun _ _=>⟨_,rfl,rfl,⟨fun _=>rfl,rfl⟩,⟨fun _=>rfl,rfl⟩,trivial⟩) ⟨_,rfl⟩ rfl ⟨_,_,_,_,rfl,Up.f (fs:=[⟨1,false,tE (.bool false)⟩,⟨1,false,tE (.slice none 0 0)⟩]) (f:=⟨1,false,tE (.bool false)⟩) (fs':=[⟨1,false,tB (decide (n < 0))⟩,⟨1,false,tE (.slice none 0 0)⟩]) 0 rfl rfl rfl,inferInstance,Le.refl⟩)) rfl (RE (d_allocC (k:=3) (n:=2) [.bool false,.slice none 0 0] zr28.1 rfl rfl rfl rfl) trivial trivial ⟨rfl,trivial⟩ (RE (d_storeM ti28 rfl rfl rfl) ⟨rfl,rfl,trivial⟩ ⟨rfl,trivial⟩ trivial ?_))
 refine A3 ?_
 refine C_nilC (q:=3) 103 148 1 false 1 rfl rfl rfl rfl (fun _=>rfl) rfl rfl ?_
 refine A2 ?_
 refine R1 (x7 Tryz.underlying116 (isS Tryz.underlying3) toU64) rfl ?_
 refine A3 ?_
 refine xh1 (fun (v:Nat)=>v=n.natAbs) (fun (v:Nat)=>upd (upd (upd (fun _=>none) 2 (some (.own (.ptr 2 0)))) 3 (some (.own (.ptr 3 0)))) 4 (some (.val (tE (.int .u64 ((v:Nat):Int)))))) (fun (v:Nat)=>upd (upd (upd (fun _=>none) 2 (some (⟨28,2,true,[.val (tWh ⟨false,[]⟩)]⟩))) 3 (some (⟨28,1,false,[.val (tB (decide (n < 0))),.own (.sl 103 1 0 0)]⟩))) 103 (some (⟨148,1,false,rW .u16 []⟩))) (nm [2,3,103]) ?_ ?_
 ·
  refine A6 ?_
  refine x9 rfl (fun h11=> ?_) (fun h11=> ?_)
  ·
   refine A2 ?_
   refine R1 (d_neg (negU64 (by omega))) rfl ?_
   refine A2 ?_
   exact kF ((18446744073709551616 - (n%18446744073709551616).toNat)%18446744073709551616) (by omega) (hh:=((SubK.consI rfl ImpK.refl) ((SubK.consI rfl ImpK.refl) ((SubK.consI rfl ImpK.refl) SubK.nil))))
  ·
   refine A1 ?_
   exact kF ((n%18446744073709551616).toNat) (by omega) (hh:=((SubK.consI rfl ImpK.refl) ((SubK.consI rfl ImpK.refl) ((SubK.consI rfl ImpK.refl) SubK.nil))))
 ·
  intro v hv
  have hvl:=wh_len v (by omega)
  refine A2 ?_
  refine cL (fun (fm:(Nat)×(Nat)×(List Nat))=>(fun (i:Nat) (u:Nat) (cs:List Nat)=>i≤(dig 65536 v).length∧u=v / 65536 ^ i∧cs=dgs 65536 i v∧u < 18446744073709551616) fm.1 fm.2.1 fm.2.2) (fun (fm:(Nat)×(Nat)×(List Nat))=>(fun (i:Nat) (u:Nat) (cs:List Nat)=>upd (upd (upd (fun _=>none) 2 (some (.own (.ptr 2 0)))) 3 (some (.own (.ptr 3 0)))) 4 (some (.val (tE (.int .u64 ((u:Nat):Int)))))) fm.1 fm.2.1 fm.2.2) (fun (fm:(Nat)×(Nat)×(List Nat))=>(fun (i:Nat) (u:Nat) (cs:List Nat)=>upd (upd (upd (fun _=>none) 2 (some (⟨28,2,true,[.val (tWh ⟨false,[]⟩)]⟩))) 3 (some (⟨28,1,false,[.val (tB (decide (n < 0))),.own (.sl 103 1 0 cs.length)]⟩))) 103 (some (⟨148,1,false,rW .u16 cs⟩))) fm.1 fm.2.1 fm.2.2) [2,3,103] (fun (fm:(Nat)×(Nat)×(List Nat))=>(fun (i:Nat) (u:Nat) (cs:List Nat)=>u) fm.1 fm.2.1 fm.2.2) ((0,v,[])) (by dsimp only;exact ⟨Nat.zero_le _,by simp,rfl,by omega⟩) (hh:=((SubK.consI rfl ImpK.refl) ((SubK.consI rfl ImpK.refl) ((SubK.consI rfl ImpK.refl) SubK.nil)))) ?_
  intro fm hI
  obtain ⟨i,u,cs⟩:=fm
  replace hI:i≤(dig 65536 v).length∧u=v / 65536 ^ i∧cs=dgs 65536 i v∧u < 18446744073709551616:=hI
  show wc _ _ _ _ (upd (upd (upd (fun _=>none) 2 (some (.own (.ptr 2 0)))) 3 (some (.own (.ptr 3 0)))) 4 (some (.val (tE (.int .u64 ((u:Nat):Int)))))) (upd (upd (upd (fun _=>none) 2 (some (⟨28,2,true,[.val (tWh ⟨false,[]⟩)]⟩))) 3 (some (⟨28,1,false,[.val (tB (decide (n < 0))),.own (.sl 103 1 0 cs.length)]⟩))) 103 (some (⟨148,1,false,rW .u16 cs⟩))) _
  obtain ⟨hi,hu,hcs,hu64⟩:=hI
  have hcl:cs.length=i:=by rw [hcs,xf4]
  refine A7 ?_
  refine x9 rfl (fun h14=> ?_) (fun h14=> ?_)
  ·
   refine A6 ?_
   refine RE (xb2 (1) ti26 rfl rfl) ⟨rfl,trivial⟩ ⟨rfl,trivial⟩ trivial ?_
   refine A1 ?_
   refine R1 (x7 (r:=((u%65536:Nat):Int)) Tryz.underlying148 (isS Tryz.underlying116) (by rw [mu16];omega)) rfl (R1 (d_nums (n:=1) [u%65536] Tryz.underlying26 el148 zf148 rfl rfl rfl) rfl (RE (xc5 (k:=103) (k':=23) (ts':=rW .u16 (cs++[u%65536])) Tryz.underlying26 el148 zf148 rfl rfl (fun _=>inferInstance) rW_len (by simp;omega) (by simp;omega) (by simp [rW]) (n':=cs.length+1) rfl) ⟨rfl,rfl,trivial⟩ ⟨rfl,trivial⟩ ⟨rfl,trivial⟩ ?_))
   refine A1 ?_
   refine RE (xb4 (es:=1) (agg:=false) (1) ti26 rfl rfl rfl) ⟨rfl,rfl,trivial⟩ ⟨rfl,trivial⟩ trivial ?_
   refine A5 ?_
   refine R2 (xf9 (by decide) (shr16 hu64)) rfl rfl ?_
   refine A2 ?_
   obtain ⟨n1,n2,n3⟩:=from_more hu (by omega)
   exact xc0 (l:=[2,3,103]) (fun j=>cond (Nat.beq j 103) 23 (j)) ((i+1,u / 65536,cs++[u%65536])) ⟨(by dsimp only;exact ⟨n1,n2,by rw [hcs];exact n3,by omega⟩),(by dsimp only;omega)⟩ (SubR.int rfl (by first | omega | rfl | (dsimp only;omega)) (SubR.cons rfl (SubR.cons rfl SubR.nil))) ((SubKR.consI rfl (ImpK.of xh6.symm)) ((SubKR.consI rfl (ImpK.of (by dsimp only;rw [List.length_append];rfl))) ((SubKR.consI rfl ImpK.refl) SubKR.nil))) (SupG.val (SupG.own rfl (SupG.own rfl SupG.nil))) (SupH.cons rfl (supJ xe6) (SupH.cons rfl (supJL rfl) (SupH.cons rfl (supJL rfl) SupH.nil))) (lkOk rfl) rfl rfl (fun _ h=>by cases h)
  ·
   refine A6 ?_
   refine C_giveC (q:=3) (j:=103) (f:=fun n:Nat=>tE (.int .u16 n)) (xs:=cs) 1 rfl rfl rfl rfl (NoLbK.of fun _ h=>h) (xo1 rfl) rfl rfl ?_
   refine A1 ?_
   refine RE (d_loadM (us:=[tB (decide (n < 0)),tLm cs]) (t:=tWh ⟨(decide (n < 0)),cs⟩) ti28 rfl rfl rfl rfl) ⟨rfl,trivial⟩ ⟨rfl,trivial⟩ trivial ?_
   refine A4 ?_
   exact xc2 Plain.mk' rfl ⟨_,_,_,_,_,rfl,rfl,ti28,(Le.of (by rw [←wh_of,hcs,from_end (by rw [←hu];omega) hi,hv]))⟩
instance fi60:FnI Tryz.prog 60:=⟨_,Tryz.func60,by kernel_rfl,rfl⟩
def kfr (n d:Int):Rat:=if d < 1 then 0 else Rat.divInt n d
theorem kfr_small {n d:Int} (h:d < 1∨n=0):kfr n d=0:=by
 rw [kfr]
 rcases h with h | h
 ·rw [if_pos h]
 ·subst h;split
  ·rfl
  ·exact Rat.zero_divInt d
theorem kfr_big {n d:Int} (h: ¬d < 1):kfr n d=Rat.divInt n d:=if_neg h
theorem fr_zero:fr 0=⟨⟨false,[]⟩,wh 1⟩:=by
 have e1:(0:Rat).num=0:=rfl
 have e2:(((0:Rat).den:Nat):Int)=1:=rfl
 rw [fr,e1,e2,wh_zero]
theorem gcd_facts {n d:Int} {a:Nat} (hd: ¬d < 1) (ha:a=Nat.gcd n.natAbs d.natAbs):0 < a∧(a:Int)≤d∧n.tdiv a=n / (a:Int)∧d.tdiv a=d / (a:Int)∧fr (Rat.divInt n d)=⟨wh (n / (a:Int)),wh (d / (a:Int))⟩∧(n / (a:Int)).natAbs≤n.natAbs∧(d / (a:Int)).natAbs≤d.natAbs∧(n≤0→n / (a:Int)≤0)∧(0≤n→0≤n / (a:Int))∧0≤d / (a:Int):=by
 have h0:0 < a:=by rw [ha];exact Nat.gcd_pos_of_pos_right _ (by omega)
 have h1:a≤d.natAbs:=by rw [ha];exact Nat.le_of_dvd (by omega) (Nat.gcd_dvd_right _ _)
 have h2:(a:Int) ∣ n:=Int.dvd_natAbs.1 (Int.natCast_dvd_natCast.2 (ha▸Nat.gcd_dvd_left _ _))
 have h3:(a:Int) ∣ d:=Int.dvd_natAbs.1 (Int.natCast_dvd_natCast.2 (ha▸Nat.gcd_dvd_right _ _))
 refine ⟨h0,by omega,Int.tdiv_eq_ediv_of_dvd h2,Int.tdiv_eq_ediv_of_dvd h3,?_,Int.natAbs_ediv_le_natAbs _ _,Int.natAbs_ediv_le_natAbs _ _,fun h=> ?_,fun h=>Int.ediv_nonneg h (by omega),Int.ediv_nonneg (by omega) (by omega)⟩
 ·have h4:=lowest_eq (n:=n) (d:=d) (by omega)
  have h5:(Int.gcd n d)=a:=by rw [ha];rfl
  rw [h5] at h4;exact h4
 ·have:=Int.ediv_le_ediv (show 0 < (a:Int) by omega) h
  simpa using this
theorem xn5 (n d:Int) (h1: -9223372036854775808≤n) (h2:n≤9223372036854775807) (h3: -9223372036854775808≤d) (h4:d≤9223372036854775807):
  Ct Tryz.prog 29 [tI n,tI d] (tFr (fr (kfr n d))):=by
 refine Ct.intro Tryz.func29 rfl Tryz.ntmps29 rfl ?_
 intro w F
 refine A2 ?_
 refine RE (x6 (k:=4) (n:=4) (agg:=true) zr30.1 zr30.2 rfl) trivial trivial ⟨rfl,trivial⟩ ?_
 refine A8 ?_
 refine RGcaseD (t:=9) rfl (fun h22=> ?_) (fun h22=> ?_)
 ·
  have hK:=kfr_small (n:=n) (d:=d) (.inl h22)
  refine A8 ?_
  refine R1 (x3 (c_KWhole 1 (by decide) (by decide)) fi60 rfl) rfl (R1 (xa6 (r:=tS [⟨2,true,(tS [⟨1,false,(tE (.bool false))⟩,⟨1,false,(tLm [])⟩])⟩,⟨2,true,tWh (wh 1)⟩]) (ts:=[(1,tWh (wh 1))]) bu30 zr30.2 (Bc 1 rfl rfl rfl Le.refl)) rfl ?_)
  refine A5 ?_
  exact xc2 Plain.mk' rfl ⟨_,_,_,_,_,rfl,rfl,ti30,(Le.of (by rw [hK,fr_zero]))⟩
 ·
  have hd: ¬d < 1:=h22
  refine A5 ?_
  refine x9 rfl (fun h22_2=> ?_) (fun h22_2=> ?_)
  ·
   have hK:=kfr_small (n:=n) (d:=d) (.inr h22_2)
   refine A2 ?_
   refine R1 (x3 (c_KWhole 1 (by decide) (by decide)) fi60 rfl) rfl (R1 (xa6 (r:=tS [⟨2,true,(tS [⟨1,false,(tE (.bool false))⟩,⟨1,false,(tLm [])⟩])⟩,⟨2,true,tWh (wh 1)⟩]) (ts:=[(1,tWh (wh 1))]) bu30 zr30.2 (Bc 1 rfl rfl rfl Le.refl)) rfl ?_)
   refine A5 ?_
   exact xc2 Plain.mk' rfl ⟨_,_,_,_,_,rfl,rfl,ti30,(Le.of (by rw [hK,fr_zero]))⟩
  ·
   refine A5 ?_
   refine R1 (x7 Tryz.underlying116 (isS Tryz.underlying3) toU64) rfl ?_
   refine A1 ?_
   refine R1 (x7 (r:=((d.natAbs:Nat):Int)) Tryz.underlying116 (isS Tryz.underlying3) (by rw [mu64];omega)) rfl ?_
   refine A4 ?_
   refine xh1 (fun (v:Nat)=>v=n.natAbs) (fun (v:Nat)=>upd (upd (upd (upd (upd (fun _=>none) 0 (some (.val (tI n)))) 1 (some (.val (tI d)))) 4 (some (.own (.ptr 4 0)))) 5 (some (.val (tE (.int .u64 ((v:Nat):Int)))))) 6 (some (.val (tE (.int .u64 ((d.natAbs:Nat):Int)))))) (fun (v:Nat)=>upd (fun _=>none) 4 (some (⟨30,4,true,[.val (tFr fr0)]⟩))) (nm [4]) ?_ ?_
   ·
    refine A6 ?_
    refine x9 rfl (fun h26=> ?_) (fun h26=> ?_)
    ·
     refine A2 ?_
     refine R1 (d_neg (negU64 (by omega))) rfl ?_
     refine A2 ?_
     exact kF ((18446744073709551616 - (n%18446744073709551616).toNat)%18446744073709551616) (by omega) (hh:=((SubK.consI rfl ImpK.refl) SubK.nil))
    ·
     refine A1 ?_
     exact kF ((n%18446744073709551616).toNat) (by omega) (hh:=((SubK.consI rfl ImpK.refl) SubK.nil))
   ·
    intro v hv
    refine A2 ?_
    refine cL (fun (fm:(Nat)×(Nat))=>(fun (a:Nat) (b:Nat)=>Nat.gcd a b=Nat.gcd v d.natAbs∧a < 18446744073709551616∧b < 18446744073709551616) fm.1 fm.2) (fun (fm:(Nat)×(Nat))=>(fun (a:Nat) (b:Nat)=>upd (upd (upd (upd (upd (fun _=>none) 0 (some (.val (tI n)))) 1 (some (.val (tI d)))) 4 (some (.own (.ptr 4 0)))) 5 (some (.val (tE (.int .u64 ((a:Nat):Int)))))) 6 (some (.val (tE (.int .u64 ((b:Nat):Int)))))) fm.1 fm.2) (fun (fm:(Nat)×(Nat))=>(fun (a:Nat) (b:Nat)=>upd (fun _=>none) 4 (some (⟨30,4,true,[.val (tFr fr0)]⟩))) fm.1 fm.2) [4] (fun (fm:(Nat)×(Nat))=>(fun (a:Nat) (b:Nat)=>b) fm.1 fm.2) ((v,d.natAbs)) (by dsimp only;exact ⟨rfl,by omega,by omega⟩) (hh:=((SubK.consI rfl ImpK.refl) SubK.nil)) ?_
    intro fm hI
    obtain ⟨a,b⟩:=fm
    replace hI:Nat.gcd a b=Nat.gcd v d.natAbs∧a < 18446744073709551616∧b < 18446744073709551616:=hI
    show wc _ _ _ _ (upd (upd (upd (upd (upd (fun _=>none) 0 (some (.val (tI n)))) 1 (some (.val (tI d)))) 4 (some (.own (.ptr 4 0)))) 5 (some (.val (tE (.int .u64 ((a:Nat):Int)))))) 6 (some (.val (tE (.int .u64 ((b:Nat):Int)))))) (upd (fun _=>none) 4 (some (⟨30,4,true,[.val (tFr fr0)]⟩))) _
    obtain ⟨hg,ha64,hb64⟩:=hI
    refine A7 ?_
    refine x9 rfl (fun h29=> ?_) (fun h29=> ?_)
    ·
     refine A7 ?_
     refine R2 (d_rem (r:=((a%b:Nat):Int)) (by omega) wrem64) rfl rfl ?_
     refine A4 ?_
     have hbp:0 < b:=by omega
     have hlt:=Nat.mod_lt a hbp
     exact kF ((b,a%b)) ⟨(by dsimp only;exact ⟨by rw [Nat.gcd_comm b,←Nat.gcd_rec,Nat.gcd_comm];exact hg,hb64,by omega⟩),(by dsimp only;omega)⟩ (hh:=((SubK.consI rfl ImpK.refl) SubK.nil))
    ·
     refine A6 ?_
     have hb0:b=0:=by omega
     subst hb0
     rw [Nat.gcd_zero_right,hv] at hg
     obtain ⟨g1,g2,g3,g4,g5,g6,g7,g8,g9,g10⟩:=gcd_facts (n:=n) hd hg
     refine A3 ?_
     refine R1 (x7 (r:=(a:Int)) Tryz.underlying3 (isS Tryz.underlying116) (wr64 (by omega) (by omega))) rfl (R2 (d_quo (r:=n / (a:Int)) (by omega) (by rw [g3];exact wr64 (by omega) (by omega))) rfl rfl (R1 (x3 (c_KWhole _ (by omega) (by omega)) fi60 rfl) rfl ?_))
     refine A2 ?_
     refine R1 (x7 (r:=(a:Int)) Tryz.underlying3 (isS Tryz.underlying116) (wr64 (by omega) (by omega))) rfl (R2 (d_quo (r:=d / (a:Int)) (by omega) (by rw [g4];exact wr64 (by omega) (by omega))) rfl rfl (R1 (x3 (c_KWhole _ (by omega) (by omega)) fi60 rfl) rfl (R2 (xa6 (r:=tS [⟨2,true,tWh (wh (n / (a:Int)))⟩,⟨2,true,tWh (wh (d / (a:Int)))⟩]) (ts:=[(0,tWh (wh (n / (a:Int)))),(1,tWh (wh (d / (a:Int))))]) bu30 zr30.2 (Bc 0 rfl rfl rfl (Bc 1 rfl rfl rfl Le.refl))) rfl rfl ?_)))
     refine A4 ?_
     exact xc2 Plain.mk' rfl ⟨_,_,_,_,_,rfl,rfl,ti30,(Le.of (by rw [kfr_big hd,g5]))⟩
instance fi29:FnI Tryz.prog 29:=⟨_,Tryz.func29,by kernel_rfl,rfl⟩
instance fi116:FnI Tryz.prog 116:=⟨_,Tryz.func116,by kernel_rfl,rfl⟩
theorem zr57:(Tryz.prog.info? 57).bind (·.zero)=some (.agg #[.int .u8 0,.bool false,.slice none 0 0,.bool false,.slice none 0 0,.int .i64 0])∧ ∀F w,(tS [⟨1,false,(tE (.int .u8 0))⟩,⟨4,true,(tS [⟨2,true,(tS [⟨1,false,(tE (.bool false))⟩,⟨1,false,(tLm [])⟩])⟩,⟨2,true,(tS [⟨1,false,(tE (.bool false))⟩,⟨1,false,(tLm [])⟩])⟩])⟩,⟨1,false,(tE (.int .i64 0))⟩]).p F w (.agg #[.int .u8 0,.bool false,.slice none 0 0,.bool false,.slice none 0 0,.int .i64 0]):=⟨by kernel_rfl,fun _ _=>⟨_,rfl,rfl,⟨fun _=>rfl,rfl⟩,⟨fun h=>Bool.noConfusion h,⟨_,rfl,rfl,⟨fun h=>Bool.noConfusion h,⟨_,rfl,rfl,⟨fun _=>rfl,rfl⟩,⟨fun _=>rfl,⟨none,0,rfl,Nat.le_refl _,by decide,.inl rfl⟩⟩,trivial⟩⟩,⟨fun h=>Bool.noConfusion h,⟨_,rfl,rfl,⟨fun _=>rfl,rfl⟩,⟨fun _=>rfl,⟨none,0,rfl,Nat.le_refl _,by decide,.inl rfl⟩⟩,trivial⟩⟩,trivial⟩⟩,⟨fun _=>rfl,rfl⟩,trivial⟩⟩
theorem bu57:BuI Tryz.prog 57 (fun i=>[(0,1),(1,4),(5,1)][i]?) (.agg #[.int .u8 0,.bool false,.slice none 0 0,.bool false,.slice none 0 0,.int .i64 0]):=BuI.struct Tryz.underlying57 (by kernel_rfl) (by kernel_rfl)
theorem c_Num (n d:Int) (h1: -9223372036854775808≤n) (h2:n≤9223372036854775807) (h3: -9223372036854775808≤d) (h4:d≤9223372036854775807):
  Ct Tryz.prog 40 [tI n,tI d] (tVa ⟨2,fr (kfr n d),0⟩):=by
 refine Ct.intro Tryz.func40 rfl Tryz.ntmps40 rfl ?_
 intro w F
 refine A2 ?_
 refine RE (x6 (k:=4) (n:=6) (agg:=true) zr57.1 zr57.2 rfl) trivial trivial ⟨rfl,trivial⟩ ?_
 refine A6 ?_
 refine R2 (x3 (xn5 n d h1 h2 h3 h4) fi29 rfl) rfl rfl (R2 (xa6 (r:=tS [⟨1,false,tE (.int .u8 2)⟩,⟨4,true,tFr (fr (kfr n d))⟩,⟨1,false,(tE (.int .i64 0))⟩]) (ts:=[(0,tE (.int .u8 2)),(1,tFr (fr (kfr n d)))]) bu57 zr57.2 (Bc 0 rfl rfl rfl (Bc 1 rfl rfl rfl Le.refl))) rfl rfl ?_)
 refine A4 ?_
 exact xc2 Plain.mk' rfl ⟨_,_,_,_,_,rfl,rfl,ti57,(Le.of rfl)⟩
theorem c_Cash (n d:Int) (h1: -9223372036854775808≤n) (h2:n≤9223372036854775807) (h3: -9223372036854775808≤d) (h4:d≤9223372036854775807):
  Ct Tryz.prog 78 [tI n,tI d] (tVa ⟨3,fr (kfr n d),0⟩):=by
 refine Ct.intro Tryz.func78 rfl Tryz.ntmps78 rfl ?_
 intro w F
 refine A2 ?_
 refine RE (x6 (k:=4) (n:=6) (agg:=true) zr57.1 zr57.2 rfl) trivial trivial ⟨rfl,trivial⟩ ?_
 refine A6 ?_
 refine R2 (x3 (xn5 n d h1 h2 h3 h4) fi29 rfl) rfl rfl (R2 (xa6 (r:=tS [⟨1,false,tE (.int .u8 3)⟩,⟨4,true,tFr (fr (kfr n d))⟩,⟨1,false,(tE (.int .i64 0))⟩]) (ts:=[(0,tE (.int .u8 3)),(1,tFr (fr (kfr n d)))]) bu57 zr57.2 (Bc 0 rfl rfl rfl (Bc 1 rfl rfl rfl Le.refl))) rfl rfl ?_)
 refine A4 ?_
 exact xc2 Plain.mk' rfl ⟨_,_,_,_,_,rfl,rfl,ti57,(Le.of rfl)⟩
theorem c_TSame (x y:Va):
  Ct Tryz.prog 74 [tVa x,tVa y] (tB (decide (x=y))):=by
 refine Ct.intro Tryz.func74 rfl Tryz.ntmps74 rfl ?_
 intro w F
 refine A15 ?_
 refine RGcaseD (t:=10) rfl (fun h34=> ?_) (fun h34=> ?_)
 ·
  refine A7 ?_
  refine RGcaseD (t:=17) rfl (fun h34_2=> ?_) (fun h34_2=> ?_)
  ·
   refine A4 ?_
   refine RGon (decide_eq_true h34_2) rfl (x3 (xj0 _ _) fi116 rfl) rfl ⟨rfl,rfl,trivial⟩ trivial trivial ?_
   refine A5 ?_
   exact x4 Plain.mk' rfl rfl (Le.bool (by obtain ⟨a,b,e⟩:=x;obtain ⟨c,d,f⟩:=y;simp only [Va.mk.injEq] at*;simp_all <;> omega))
  ·
   refine A10 ?_
   exact x4 Plain.mk' rfl rfl (Le.bool (by obtain ⟨a,b,e⟩:=x;obtain ⟨c,d,f⟩:=y;simp only [Va.mk.injEq] at*;simp_all <;> omega))
 ·
  refine A17 ?_
  exact x4 Plain.mk' rfl rfl (Le.bool (by obtain ⟨a,b,e⟩:=x;obtain ⟨c,d,f⟩:=y;simp only [Va.mk.injEq] at*;simp_all <;> omega))
theorem c_isPart (a b:Int):
  Ct Tryz.prog 142 [tI a,tI b] (tB (Sn.ok ⟨a,b⟩)):=by
 refine Ct.intro Tryz.func142 rfl Tryz.ntmps142 rfl ?_
 intro w F
 refine A10 ?_
 refine RGcaseD (t:=7) rfl (fun h56=> ?_) (fun h56=> ?_)
 ·
  refine A5 ?_
  refine RGcaseD (t:=12) rfl (fun h56_2=> ?_) (fun h56_2=> ?_)
  ·
   refine A7 ?_
   exact x4 Plain.mk' rfl rfl (Le.bool (by simp [Sn.ok, *]))
  ·
   refine A7 ?_
   exact x4 Plain.mk' rfl rfl (Le.bool (by simp [Sn.ok, *]))
 ·
  refine A12 ?_
  exact x4 Plain.mk' rfl rfl (Le.bool (by simp [Sn.ok, *]))
theorem upN (v:Va):Up (tVa v) (1+(0+1)) 1 false (tLm v.f.n.l) (tVa v):=
 Up.t (t1:=tFr v.f) (t1':=tFr v.f) (At.g 1 rfl rfl) (Up.f (f:=⟨4,true,tFr v.f⟩) 1 rfl rfl rfl) (Up.t (t1:=tWh v.f.n) (t1':=tWh v.f.n) (At.g 0 rfl rfl) (Up.f (f:=⟨2,true,tWh v.f.n⟩) 0 rfl rfl rfl) (Up.f (f:=⟨1,false,tLm v.f.n.l⟩) 1 rfl rfl rfl))
theorem upD (v:Va):Up (tVa v) (1+(2+1)) 1 false (tLm v.f.d.l) (tVa v):=
 Up.t (t1:=tFr v.f) (t1':=tFr v.f) (At.g 1 rfl rfl) (Up.f (f:=⟨4,true,tFr v.f⟩) 1 rfl rfl rfl) (Up.t (t1:=tWh v.f.d) (t1':=tWh v.f.d) (At.g 1 rfl rfl) (Up.f (f:=⟨2,true,tWh v.f.d⟩) 1 rfl rfl rfl) (Up.f (f:=⟨1,false,tLm v.f.d.l⟩) 1 rfl rfl rfl))
theorem c_copied (v:Va) (h1:v.f.n.l.length≤1000000) (h2:v.f.d.l.length≤1000000):
  Ct Tryz.prog 59 [tVa v] (tVa v):=by
 refine Ct.intro Tryz.func59 rfl Tryz.ntmps59 rfl ?_
 intro w F
 refine A3 ?_
 refine RE (x6 (k:=2) (n:=6) (agg:=true) zr57.1 zr57.2 rfl) trivial trivial ⟨rfl,trivial⟩ ?_
 refine A7 ?_
 refine xg5 (0) ti26 rfl rfl rfl (At.t (At.g 1 rfl rfl) (At.t (At.g 0 rfl rfl) (At.g 1 rfl rfl))) rfl (R1 (x3 (xp9 _ h1) fi87 rfl) rfl ?_)
 refine A3 ?_
 refine RE (xo9 (k:=1) (T0:=57) (es:=6) (ts:=[.val (tVa v)]) (0) ti26 rfl (upN v) rfl rfl) ⟨rfl,rfl,trivial⟩ ⟨rfl,trivial⟩ trivial ?_
 refine A7 ?_
 refine xg5 (0) ti26 rfl rfl rfl (At.t (At.g 1 rfl rfl) (At.t (At.g 1 rfl rfl) (At.g 1 rfl rfl))) rfl (R1 (x3 (xp9 _ h2) fi87 rfl) rfl ?_)
 refine A3 ?_
 refine RE (xo9 (k:=1) (T0:=57) (es:=6) (ts:=[.val (tVa v)]) (0) ti26 rfl (upD v) rfl rfl) ⟨rfl,rfl,trivial⟩ ⟨rfl,trivial⟩ trivial ?_
 refine A9 ?_
 exact xc2 Plain.mk' rfl ⟨_,_,_,_,_,rfl,rfl,ti57,Le.refl⟩
theorem va23 {v:Va} {b:Bool} (h:(v.kind:Int)=2∨(v.kind:Int)=3) (hb:b=(decide (v.i=0) && v.f.valid)):b=v.valid:=by
 rw [Va.valid,if_pos (by omega)];exact hb
theorem va1 {v:Va} {b:Bool} (h:(v.kind:Int)=1) (hb:b=(decide (v.f=fr0) && decide (0≤v.i) && decide (v.i≤1))):b=v.valid:=by
 rw [Va.valid,if_neg (by omega),if_pos (by omega)];exact hb
theorem va4 {v:Va} {b:Bool} (h:(v.kind:Int)=4) (hb:b=(decide (v.f=fr0) && decide (0≤v.i) && decide (v.i < 65536))):b=v.valid:=by
 rw [Va.valid,if_neg (by omega),if_neg (by omega),if_pos (by omega)];exact hb
theorem va56 {v:Va} {b:Bool} (h:(v.kind:Int)=5∨(v.kind:Int)=6) (hb:b=(decide (v.f=fr0) && decide (-1048576≤v.i) && decide (v.i≤1048576))):b=v.valid:=by
 rw [Va.valid,if_neg (by omega),if_neg (by omega),if_neg (by omega),if_pos (by omega)];exact hb
theorem va0 {v:Va} (h1: ¬((v.kind:Int)=2∨(v.kind:Int)=3)) (h2: ¬(v.kind:Int)=1) (h3: ¬(v.kind:Int)=4) (h4: ¬((v.kind:Int)=5∨(v.kind:Int)=6)):false=v.valid:=by
 rw [Va.valid,if_neg (by omega),if_neg (by omega),if_neg (by omega),if_neg (by omega)]
theorem c_TValid (v:Va) (hD:v.f.dig):
  Ct Tryz.prog 77 [tVa v] (tB v.valid):=by
 refine Ct.intro Tryz.func77 rfl Tryz.ntmps77 rfl ?_
 intro w F
 refine A18 ?_
 refine A3 ?_
 refine x9 rfl (fun h20=> ?_) (fun h20=> ?_)
 ·
  refine A2 ?_
  refine x9 rfl (fun h20_2=> ?_) (fun h20_2=> ?_)
  ·
   refine A6 ?_
   refine RGcaseD (t:=11) rfl (fun h21=> ?_) (fun h21=> ?_)
   ·
    refine A2 ?_
    refine RGon (decide_eq_true h21) rfl (x3 (c_FValid _ hD.1 hD.2) fi94 rfl) rfl ⟨rfl,trivial⟩ trivial trivial ?_
    refine A7 ?_
    exact x4 Plain.mk' rfl rfl (Le.bool (va23 (by omega) (by first | (simp [*];done) | simp [*])))
   ·
    refine A10 ?_
    exact x4 Plain.mk' rfl rfl (Le.bool (va23 (by omega) (by first | (simp [*];done) | simp [*])))
  ·
   refine A6 ?_
   refine x9 rfl (fun h22=> ?_) (fun h22=> ?_)
   ·
    refine A4 ?_
    refine R0 (xa6 (r:=tS [⟨2,true,(tS [⟨1,false,(tE (.bool false))⟩,⟨1,false,(tLm [])⟩])⟩,⟨2,true,(tS [⟨1,false,(tE (.bool false))⟩,⟨1,false,(tLm [])⟩])⟩]) (ts:=[]) bu30 zr30.2 Le.refl) (R2 (x3 (xj0 _ fr0) fi116 rfl) rfl rfl ?_)
    refine A1 ?_
    refine RGcaseD (t:=22) rfl (fun h23=> ?_) (fun h23=> ?_)
    ·
     refine A5 ?_
     refine RGcaseD (t:=27) rfl (fun h23_2=> ?_) (fun h23_2=> ?_)
     ·
      refine A10 ?_
      exact x4 Plain.mk' rfl rfl (Le.bool (va1 (by omega) (by simp [*])))
     ·
      refine A10 ?_
      exact x4 Plain.mk' rfl rfl (Le.bool (va1 (by omega) (by simp [*])))
    ·
     refine A15 ?_
     exact x4 Plain.mk' rfl rfl (Le.bool (va1 (by omega) (by simp [*])))
   ·
    refine A6 ?_
    refine x9 rfl (fun h24=> ?_) (fun h24=> ?_)
    ·
     refine A4 ?_
     refine R0 (xa6 (r:=tS [⟨2,true,(tS [⟨1,false,(tE (.bool false))⟩,⟨1,false,(tLm [])⟩])⟩,⟨2,true,(tS [⟨1,false,(tE (.bool false))⟩,⟨1,false,(tLm [])⟩])⟩]) (ts:=[]) bu30 zr30.2 Le.refl) (R2 (x3 (xj0 _ fr0) fi116 rfl) rfl rfl ?_)
     refine A1 ?_
     refine RGcaseD (t:=38) rfl (fun h25=> ?_) (fun h25=> ?_)
     ·
      refine A5 ?_
      refine RGcaseD (t:=43) rfl (fun h25_2=> ?_) (fun h25_2=> ?_)
      ·
       refine A10 ?_
       exact x4 Plain.mk' rfl rfl (Le.bool (va4 (by omega) (by simp [*])))
      ·
       refine A10 ?_
       exact x4 Plain.mk' rfl rfl (Le.bool (va4 (by omega) (by simp [*])))
     ·
      refine A15 ?_
      exact x4 Plain.mk' rfl rfl (Le.bool (va4 (by omega) (by simp [*])))
    ·
     refine A7 ?_
     refine x9 rfl (fun h26=> ?_) (fun h26=> ?_)
     ·
      refine A2 ?_
      refine x9 rfl (fun h26_2=> ?_) (fun h26_2=> ?_)
      ·
       refine A4 ?_
       refine R0 (xa6 (r:=tS [⟨2,true,(tS [⟨1,false,(tE (.bool false))⟩,⟨1,false,(tLm [])⟩])⟩,⟨2,true,(tS [⟨1,false,(tE (.bool false))⟩,⟨1,false,(tLm [])⟩])⟩]) (ts:=[]) bu30 zr30.2 Le.refl) (R2 (x3 (xj0 _ fr0) fi116 rfl) rfl rfl ?_)
       refine A1 ?_
       refine RGcaseD (t:=55) rfl (fun h27=> ?_) (fun h27=> ?_)
       ·
        refine A5 ?_
        refine RGcaseD (t:=60) rfl (fun h27_2=> ?_) (fun h27_2=> ?_)
        ·
         refine A10 ?_
         exact x4 Plain.mk' rfl rfl (Le.bool (va56 (by omega) (by simp [*])))
        ·
         refine A10 ?_
         exact x4 Plain.mk' rfl rfl (Le.bool (va56 (by omega) (by simp [*])))
       ·
        refine A15 ?_
        exact x4 Plain.mk' rfl rfl (Le.bool (va56 (by omega) (by simp [*])))
      ·
       refine A9 ?_
       exact x4 Plain.mk' rfl rfl (Le.bool (va0 (by omega) (by omega) (by omega) (by omega)))
     ·
      refine A5 ?_
      refine x9 rfl (fun h26_2=> ?_) (fun h26_2=> ?_)
      ·
       refine A4 ?_
       refine R0 (xa6 (r:=tS [⟨2,true,(tS [⟨1,false,(tE (.bool false))⟩,⟨1,false,(tLm [])⟩])⟩,⟨2,true,(tS [⟨1,false,(tE (.bool false))⟩,⟨1,false,(tLm [])⟩])⟩]) (ts:=[]) bu30 zr30.2 Le.refl) (R2 (x3 (xj0 _ fr0) fi116 rfl) rfl rfl ?_)
       refine A1 ?_
       refine RGcaseD (t:=55) rfl (fun h27=> ?_) (fun h27=> ?_)
       ·
        refine A5 ?_
        refine RGcaseD (t:=60) rfl (fun h27_2=> ?_) (fun h27_2=> ?_)
        ·
         refine A10 ?_
         exact x4 Plain.mk' rfl rfl (Le.bool (va56 (by omega) (by simp [*])))
        ·
         refine A10 ?_
         exact x4 Plain.mk' rfl rfl (Le.bool (va56 (by omega) (by simp [*])))
       ·
        refine A15 ?_
        exact x4 Plain.mk' rfl rfl (Le.bool (va56 (by omega) (by simp [*])))
      ·
       refine A9 ?_
       exact x4 Plain.mk' rfl rfl (Le.bool (va0 (by omega) (by omega) (by omega) (by omega)))
 ·
  refine A5 ?_
  refine x9 rfl (fun h20_2=> ?_) (fun h20_2=> ?_)
  ·
   refine A6 ?_
   refine RGcaseD (t:=11) rfl (fun h21=> ?_) (fun h21=> ?_)
   ·
    refine A2 ?_
    refine RGon (decide_eq_true h21) rfl (x3 (c_FValid _ hD.1 hD.2) fi94 rfl) rfl ⟨rfl,trivial⟩ trivial trivial ?_
    refine A7 ?_
    exact x4 Plain.mk' rfl rfl (Le.bool (va23 (by omega) (by first | (simp [*];done) | simp [*])))
   ·
    refine A10 ?_
    exact x4 Plain.mk' rfl rfl (Le.bool (va23 (by omega) (by first | (simp [*];done) | simp [*])))
  ·
   refine A6 ?_
   refine x9 rfl (fun h22=> ?_) (fun h22=> ?_)
   ·
    refine A4 ?_
    refine R0 (xa6 (r:=tS [⟨2,true,(tS [⟨1,false,(tE (.bool false))⟩,⟨1,false,(tLm [])⟩])⟩,⟨2,true,(tS [⟨1,false,(tE (.bool false))⟩,⟨1,false,(tLm [])⟩])⟩]) (ts:=[]) bu30 zr30.2 Le.refl) (R2 (x3 (xj0 _ fr0) fi116 rfl) rfl rfl ?_)
    refine A1 ?_
    refine RGcaseD (t:=22) rfl (fun h23=> ?_) (fun h23=> ?_)
    ·
     refine A5 ?_
     refine RGcaseD (t:=27) rfl (fun h23_2=> ?_) (fun h23_2=> ?_)
     ·
      refine A10 ?_
      exact x4 Plain.mk' rfl rfl (Le.bool (va1 (by omega) (by simp [*])))
     ·
      refine A10 ?_
      exact x4 Plain.mk' rfl rfl (Le.bool (va1 (by omega) (by simp [*])))
    ·
     refine A15 ?_
     exact x4 Plain.mk' rfl rfl (Le.bool (va1 (by omega) (by simp [*])))
   ·
    refine A6 ?_
    refine x9 rfl (fun h24=> ?_) (fun h24=> ?_)
    ·
     refine A4 ?_
     refine R0 (xa6 (r:=tS [⟨2,true,(tS [⟨1,false,(tE (.bool false))⟩,⟨1,false,(tLm [])⟩])⟩,⟨2,true,(tS [⟨1,false,(tE (.bool false))⟩,⟨1,false,(tLm [])⟩])⟩]) (ts:=[]) bu30 zr30.2 Le.refl) (R2 (x3 (xj0 _ fr0) fi116 rfl) rfl rfl ?_)
     refine A1 ?_
     refine RGcaseD (t:=38) rfl (fun h25=> ?_) (fun h25=> ?_)
     ·
      refine A5 ?_
      refine RGcaseD (t:=43) rfl (fun h25_2=> ?_) (fun h25_2=> ?_)
      ·
       refine A10 ?_
       exact x4 Plain.mk' rfl rfl (Le.bool (va4 (by omega) (by simp [*])))
      ·
       refine A10 ?_
       exact x4 Plain.mk' rfl rfl (Le.bool (va4 (by omega) (by simp [*])))
     ·
      refine A15 ?_
      exact x4 Plain.mk' rfl rfl (Le.bool (va4 (by omega) (by simp [*])))
    ·
     refine A7 ?_
     refine x9 rfl (fun h26=> ?_) (fun h26=> ?_)
     ·
      refine A2 ?_
      refine x9 rfl (fun h26_2=> ?_) (fun h26_2=> ?_)
      ·
       refine A4 ?_
       refine R0 (xa6 (r:=tS [⟨2,true,(tS [⟨1,false,(tE (.bool false))⟩,⟨1,false,(tLm [])⟩])⟩,⟨2,true,(tS [⟨1,false,(tE (.bool false))⟩,⟨1,false,(tLm [])⟩])⟩]) (ts:=[]) bu30 zr30.2 Le.refl) (R2 (x3 (xj0 _ fr0) fi116 rfl) rfl rfl ?_)
       refine A1 ?_
       refine RGcaseD (t:=55) rfl (fun h27=> ?_) (fun h27=> ?_)
       ·
        refine A5 ?_
        refine RGcaseD (t:=60) rfl (fun h27_2=> ?_) (fun h27_2=> ?_)
        ·
         refine A10 ?_
         exact x4 Plain.mk' rfl rfl (Le.bool (va56 (by omega) (by simp [*])))
        ·
         refine A10 ?_
         exact x4 Plain.mk' rfl rfl (Le.bool (va56 (by omega) (by simp [*])))
       ·
        refine A15 ?_
        exact x4 Plain.mk' rfl rfl (Le.bool (va56 (by omega) (by simp [*])))
      ·
       refine A9 ?_
       exact x4 Plain.mk' rfl rfl (Le.bool (va0 (by omega) (by omega) (by omega) (by omega)))
     ·
      refine A5 ?_
      refine x9 rfl (fun h26_2=> ?_) (fun h26_2=> ?_)
      ·
       refine A4 ?_
       refine R0 (xa6 (r:=tS [⟨2,true,(tS [⟨1,false,(tE (.bool false))⟩,⟨1,false,(tLm [])⟩])⟩,⟨2,true,(tS [⟨1,false,(tE (.bool false))⟩,⟨1,false,(tLm [])⟩])⟩]) (ts:=[]) bu30 zr30.2 Le.refl) (R2 (x3 (xj0 _ fr0) fi116 rfl) rfl rfl ?_)
       refine A1 ?_
       refine RGcaseD (t:=55) rfl (fun h27=> ?_) (fun h27=> ?_)
       ·
        refine A5 ?_
        refine RGcaseD (t:=60) rfl (fun h27_2=> ?_) (fun h27_2=> ?_)
        ·
         refine A10 ?_
         exact x4 Plain.mk' rfl rfl (Le.bool (va56 (by omega) (by simp [*])))
        ·
         refine A10 ?_
         exact x4 Plain.mk' rfl rfl (Le.bool (va56 (by omega) (by simp [*])))
       ·
        refine A15 ?_
        exact x4 Plain.mk' rfl rfl (Le.bool (va56 (by omega) (by simp [*])))
      ·
       refine A9 ?_
       exact x4 Plain.mk' rfl rfl (Le.bool (va0 (by omega) (by omega) (by omega) (by omega)))
end An.S
namespace An
open Go
theorem ranges_stop {n i:Nat} {f:Nat→Bool} (hi:i < n) (h:f i=false):(List.range n).all f=false:=by
 rw [List.all_eq_false]
 exact ⟨i,List.mem_range.2 hi,by simp [h]⟩
theorem xr8 {i:Nat} {f:Nat→Bool}:(List.range (i+1)).all f=((List.range i).all f && f i):=by
 rw [List.range_succ,List.all_append];simp
theorem tOk_iff {l:List Tst} {i:Nat}:tOk l i=true↔0≤(l.getD i tst0).lo∧(l.getD i tst0).lo < (l.getD i tst0).hi∧(l.getD i tst0).hi≤65536∧(i=0∨(l.getD (i - 1) tst0).hi≤(l.getD i tst0).lo∧(l.getD (i - 1) tst0).v.kind=(l.getD i tst0).v.kind∧ ¬((l.getD (i - 1) tst0).hi=(l.getD i tst0).lo∧(l.getD (i - 1) tst0).v=(l.getD i tst0).v)):=by
 simp only [tOk,Bool.and_eq_true,Bool.or_eq_true,Bool.not_eq_true',Bool.and_eq_false_iff,decide_eq_true_eq,decide_eq_false_iff_not,and_assoc,Decidable.not_and_iff_not_or_not]
theorem xn4 {l:List Tst} {i:Nat} (hi:i < l.length) (h: ¬(0≤(l.getD i tst0).lo∧(l.getD i tst0).lo < (l.getD i tst0).hi∧(l.getD i tst0).hi≤65536∧(i=0∨(l.getD (i - 1) tst0).hi≤(l.getD i tst0).lo∧(l.getD (i - 1) tst0).v.kind=(l.getD i tst0).v.kind∧ ¬((l.getD (i - 1) tst0).hi=(l.getD i tst0).lo∧(l.getD (i - 1) tst0).v=(l.getD i tst0).v)))):false=tRight l:=by
 rw [tRight,ranges_stop hi (Bool.eq_false_iff.2 fun h'=>h (tOk_iff.1 h'))];rfl
def ixF (p:Tst→Bool) (l:List Tst):Int:=if l.any p then ((l.takeWhile fun s=> !p s).length:Int) else -1
theorem ixF_at {p:Tst→Bool}: ∀{l:List Tst} {i:Nat},i < l.length→(l.take i).any p=false→p (l.getD i tst0)=true→(i:Int)=ixF p l
 | [],i,hi,_,_=>by simp at hi
 | x::xs,0,_,_,h=>by
  have h:p x=true:=h
  simp [ixF,h]
 | x::xs,i+1,hi,ha,h=>by
  simp only [List.take_succ_cons,List.any_cons,Bool.or_eq_false_iff] at ha
  have h2:p (xs.getD i tst0)=true:=by simpa using h
  have hi2:i < xs.length:=by simpa using hi
  have ih:=ixF_at hi2 ha.2 h2
  have hany:xs.any p=true:=List.any_eq_true.2 ⟨xs.getD i tst0,by rw [List.getD_eq_getElem?_getD,List.getElem?_eq_getElem hi2];exact List.getElem_mem hi2,h2⟩
  rw [ixF,if_pos hany] at ih
  simp only [ixF,List.any_cons,ha.1,hany,Bool.or_true,if_true,Bool.not_false,List.takeWhile_cons,List.length_cons]
  omega
theorem ixF_end {p:Tst→Bool} {l:List Tst} (h:l.any p=false): -1=ixF p l:=by simp [ixF,h]
theorem ixF_any {p:Tst→Bool} {l:List Tst}:decide (ixF p l≥0)=l.any p:=by
 rw [ixF]
 cases l.any p with
 | true=>simp
 | false=>simp
theorem any_next {p:Tst→Bool} {l:List Tst} {i:Nat} (hi:i < l.length):(l.take (i+1)).any p=((l.take i).any p || p (l.getD i tst0)):=by
 rw [List.take_succ_eq_append_getElem hi,List.any_append,List.getD_eq_getElem?_getD,List.getElem?_eq_getElem hi];simp
theorem all_any {l:List Tst}:(!l.any fun s=> !s.v.valid)=l.all fun s=>s.v.valid:=by
 rw [List.not_any_eq_all_not];simp
theorem xd7 {l:List Tst} {i:Nat} (hi:i < l.length):l.getD i tst0∈l:=by
 rw [List.getD_eq_getElem?_getD,List.getElem?_eq_getElem hi];exact List.getElem_mem hi
theorem tRight_valid {l:List Tst} (h:tRight l=true): ∀s∈l,s.v.valid=true:=by
 simp only [tRight,Bool.and_eq_true,List.all_eq_true] at h;exact h.2
theorem va_len {v:Va} (h:v.valid=true):v.f.n.l.length≤256∧v.f.d.l.length≤256:=by
 have z:fr0.n.l.length≤256∧fr0.d.l.length≤256:=by decide
 rw [Va.valid] at h
 split at h
 ·simp only [Bool.and_eq_true,Fr.valid,Fr.sh,decide_eq_true_eq] at h
  exact h.2.1.1.1.1
 ·split at h
  ·simp only [Bool.and_eq_true,decide_eq_true_eq] at h;rw [h.1.1];exact z
  ·split at h
   ·simp only [Bool.and_eq_true,decide_eq_true_eq] at h;rw [h.1.1];exact z
   ·split at h
    ·simp only [Bool.and_eq_true,decide_eq_true_eq] at h;rw [h.1.1];exact z
    ·cases h
def pst1 (acc:List Tst) (s:Tst):List Tst:=
 if s.hi≤s.lo then acc
 else if 0 < acc.length∧(acc.getD (acc.length - 1) tst0).hi=s.lo∧(acc.getD (acc.length - 1) tst0).v=s.v then acc.set (acc.length - 1) ⟨(acc.getD (acc.length - 1) tst0).lo,s.hi,(acc.getD (acc.length - 1) tst0).v⟩
 else acc++[s]
def pst (acc ps:List Tst):List Tst:=ps.foldl pst1 acc
def clip (a b:Int) (s:Tst):Tst:=⟨max s.lo a,min s.hi b,s.v⟩
def cutT (l:List Tst) (a b:Int):List Tst:=pst [] (l.map (clip a b))
theorem pst1_len (acc:List Tst) (s:Tst):(pst1 acc s).length≤acc.length+1:=by
 rw [pst1];split
 ·omega
 ·split
  ·simp
  ·simp
theorem pst_len: ∀(ps acc:List Tst),(pst acc ps).length≤acc.length+ps.length
 | [],acc=>by simp [pst]
 | s::r,acc=>by
  have h1:=pst_len r (pst1 acc s)
  have h2:=pst1_len acc s
  simp only [pst,List.foldl_cons,List.length_cons] at*
  omega
theorem xq6 {l:List Tst} {i:Nat} (acc:List Tst) (hi:i < l.length):pst acc (l.take (i+1))=pst1 (pst acc (l.take i)) (l.getD i tst0):=by
 rw [List.take_succ_eq_append_getElem hi,pst,List.foldl_append,List.getD_eq_getElem?_getD,List.getElem?_eq_getElem hi];rfl
end An
namespace An.S
open Go Go.Proofs An
instance ti77:TyI Tryz.prog 77 8 true:=⟨by kernel_rfl,by kernel_rfl⟩
instance sl37:SlI Tryz.prog 37 77 8 true:=⟨Tryz.underlying37,ti77⟩
instance fo77_0:FoI Tryz.prog 77 0 0:=⟨by kernel_rfl⟩
instance fo77_1:FoI Tryz.prog 77 1 1:=⟨by kernel_rfl⟩
instance fo77_2:FoI Tryz.prog 77 2 2:=⟨by kernel_rfl⟩
instance fi74:FnI Tryz.prog 74:=⟨_,Tryz.func74,by kernel_rfl,rfl⟩
instance fi75:FnI Tryz.prog 75:=⟨_,Tryz.func75,by kernel_rfl,rfl⟩
instance fi76:FnI Tryz.prog 76:=⟨_,Tryz.func76,by kernel_rfl,rfl⟩
instance fi77:FnI Tryz.prog 77:=⟨_,Tryz.func77,by kernel_rfl,rfl⟩
instance fi117:FnI Tryz.prog 117:=⟨_,Tryz.func117,by kernel_rfl,rfl⟩
theorem zr77:(Tryz.prog.info? 77).bind (·.zero)=some (.agg #[.int .i64 0,.int .i64 0,.int .u8 0,.bool false,.slice none 0 0,.bool false,.slice none 0 0,.int .i64 0])∧ ∀F w,(tS [⟨1,false,(tE (.int .i64 0))⟩,⟨1,false,(tE (.int .i64 0))⟩,⟨6,true,(tS [⟨1,false,(tE (.int .u8 0))⟩,⟨4,true,(tS [⟨2,true,(tS [⟨1,false,(tE (.bool false))⟩,⟨1,false,(tLm [])⟩])⟩,⟨2,true,(tS [⟨1,false,(tE (.bool false))⟩,⟨1,false,(tLm [])⟩])⟩])⟩,⟨1,false,(tE (.int .i64 0))⟩])⟩]).p F w (.agg #[.int .i64 0,.int .i64 0,.int .u8 0,.bool false,.slice none 0 0,.bool false,.slice none 0 0,.int .i64 0]):=⟨by kernel_rfl,fun _ _=>⟨_,rfl,rfl,⟨fun _=>rfl,rfl⟩,⟨fun _=>rfl,rfl⟩,⟨fun h=>Bool.noConfusion h,⟨_,rfl,rfl,⟨fun _=>rfl,rfl⟩,⟨fun h=>Bool.noConfusion h,⟨_,rfl,rfl,⟨fun h=>Bool.noConfusion h,⟨_,rfl,rfl,⟨fun _=>rfl,rfl⟩,⟨fun _=>rfl,⟨none,0,rfl,Nat.le_refl _,by decide,.inl rfl⟩⟩,trivial⟩⟩,⟨fun h=>Bool.noConfusion h,⟨_,rfl,rfl,⟨fun _=>rfl,rfl⟩,⟨fun _=>rfl,⟨none,0,rfl,Nat.le_refl _,by decide,.inl rfl⟩⟩,trivial⟩⟩,trivial⟩⟩,⟨fun _=>rfl,rfl⟩,trivial⟩⟩,trivial⟩⟩
instance un37:UnI Tryz.prog 37 (.slice 77):=⟨Tryz.underlying37⟩
theorem c_TRight1 (s:Tst) (hD:s.v.f.dig):
  Ct Tryz.prog 76 [tTs s] (tB (!s.v.valid)):=by
 refine Ct.intro Tryz.func76 rfl Tryz.ntmps76 rfl ?_
 intro w F
 refine A10 ?_
 refine R1 (x3 (c_TValid s.v hD) fi77 rfl) rfl ?_
 refine A5 ?_
 exact x4 Plain.mk' rfl rfl Le.refl
theorem c_TIndex (l:List Tst) (hD: ∀s∈l,s.v.f.dig):
  Ct Tryz.prog 117 [tL 8 true tTs l,tE (.func (.func 76) #[] #[])] (tI (ixF (fun s:Tst=> !s.v.valid) l)):=by
 refine Ct.intro Tryz.func117 rfl Tryz.ntmps117 rfl ?_
 intro w F
 refine xi0 (s:=0) rfl (fun hl0=> ?_)
 refine A14 ?_
 refine cL (fun (i:Nat)=>i≤l.length∧(l.take i).any (fun s:Tst=> !s.v.valid)=false) (fun (i:Nat)=>upd (upd (upd (upd (fun _=>none) 0 (some (.val (tL 8 true tTs l)))) 1 (some (.val (tE (.func (.func 76) #[] #[]))))) 7 (some (.val (tI l.length)))) 8 (some (.val (tI i)))) (fun (i:Nat)=>fun _=>none) [] (fun (i:Nat)=>l.length - i) (0) ⟨Nat.zero_le _,rfl⟩ ?_
 intro i hI
 obtain ⟨hi,ha⟩:=hI
 refine A6 ?_
 refine x9 rfl (fun h108=> ?_) (fun h108=> ?_)
 ·
  refine A15 ?_
  refine R2 (x5 sl37 (i) (by omega) (gD (l:=l) (n:=i) (d:=tst0) (by omega))) rfl rfl ?_
  refine A1 ?_
  refine R2 (xg6 (c_TRight1 (l.getD i tst0) (hD _ (xd7 (by omega)))) fi76 rfl) rfl rfl ?_
  refine A2 ?_
  refine xc1 rfl (fun h109=> ?_) (fun h109=> ?_)
  ·
   refine A12 ?_
   exact x4 Plain.mk' rfl rfl (Le.int (ixF_at (by omega) ha h109))
  ·
   refine A7 ?_
   exact kF (i+1) ⟨⟨by omega,by rw [any_next (by omega),ha,h109];rfl⟩,(by omega)⟩
 ·
  refine A11 ?_
  exact x4 Plain.mk' rfl rfl (Le.int (ixF_end (by rw [←ha,show i=l.length by omega,List.take_length])))
theorem c_TContains (l:List Tst) (hD: ∀s∈l,s.v.f.dig):
  Ct Tryz.prog 75 [tL 8 true tTs l,tE (.func (.func 76) #[] #[])] (tB (l.any (fun s:Tst=> !s.v.valid))):=by
 refine Ct.intro Tryz.func75 rfl Tryz.ntmps75 rfl ?_
 intro w F
 refine A9 ?_
 refine R2 (x3 (c_TIndex l hD) fi117 rfl) rfl rfl ?_
 refine A5 ?_
 exact x4 Plain.mk' rfl rfl (Le.bool ixF_any)
theorem c_TRight (l:List Tst) (hD: ∀s∈l,s.v.f.dig):
  Ct Tryz.prog 37 [tL 8 true tTs l] (tB (tRight l)):=by
 refine Ct.intro Tryz.func37 rfl Tryz.ntmps37 rfl ?_
 intro w F
 refine xi0 (s:=0) rfl (fun hl0=> ?_)
 refine A14 ?_
 refine cL (fun (i:Nat)=>i≤l.length∧(List.range i).all (tOk l)=true) (fun (i:Nat)=>upd (upd (upd (upd (fun _=>none) 0 (some (.val (tL 8 true tTs l)))) 6 (some (.val (tL 8 true tTs l)))) 7 (some (.val (tI l.length)))) 8 (some (.val (tI i)))) (fun (i:Nat)=>fun _=>none) [] (fun (i:Nat)=>l.length - i) (0) ⟨Nat.zero_le _,rfl⟩ ?_
 intro i hI
 obtain ⟨hi,ha⟩:=hI
 refine A6 ?_
 refine x9 rfl (fun h39=> ?_) (fun h39=> ?_)
 ·
  refine A7 ?_
  refine R2 (x5 sl37 (i) (by omega) (gD (l:=l) (n:=i) (d:=tst0) (by omega))) rfl rfl ?_
  refine A1 ?_
  refine RE (x6 (k:=4) (n:=8) (agg:=true) zr77.1 zr77.2 rfl) trivial trivial ⟨rfl,trivial⟩ ?_
  refine A11 ?_
  refine RGcaseD (t:=16) rfl (fun h40=> ?_) (fun h40=> ?_)
  ·
   refine A18 ?_
   refine A8 ?_
   exact x4 Plain.mk' rfl rfl (Le.bool (xn4 (i:=i) (by omega) (by omega)))
  ·
   refine A7 ?_
   refine RGcaseD (t:=23) rfl (fun h40_2=> ?_) (fun h40_2=> ?_)
   ·
    refine A18 ?_
    refine A1 ?_
    exact x4 Plain.mk' rfl rfl (Le.bool (xn4 (i:=i) (by omega) (by omega)))
   ·
    refine A6 ?_
    refine x9 rfl (fun h40_3=> ?_) (fun h40_3=> ?_)
    ·
     refine A12 ?_
     exact x4 Plain.mk' rfl rfl (Le.bool (xn4 (i:=i) (by omega) (by omega)))
    ·
     refine A9 ?_
     refine x9 rfl (fun h43=> ?_) (fun h43=> ?_)
     ·
      refine A8 ?_
      have hok:tOk l i=true:=tOk_iff.2 ⟨by omega,by omega,by omega,.inl (by omega)⟩
      exact kF (i+1) ⟨⟨by omega,by rw [xr8,ha,Bool.true_and];exact hok⟩,(by omega)⟩
     ·
      refine A7 ?_
      refine R2 (x5 sl37 (i - 1) (by omega) (gD (l:=l) (n:=i - 1) (d:=tst0) (by omega))) rfl rfl ?_
      refine A1 ?_
      refine RE (x6 (k:=5) (n:=8) (agg:=true) zr77.1 zr77.2 rfl) trivial trivial ⟨rfl,trivial⟩ ?_
      refine A11 ?_
      refine RGcaseD (t:=40) rfl (fun h47=> ?_) (fun h47=> ?_)
      ·
       refine A18 ?_
       refine A18 ?_
       exact x4 Plain.mk' rfl rfl (Le.bool (xn4 (i:=i) (by omega) (by omega)))
      ·
       refine A2 ?_
       refine xc9 (decide_eq_false h47) rfl rfl (0) ti5 rfl rfl rfl (At.t (At.g 2 rfl rfl) (At.g 0 rfl rfl)) rfl ?_
       refine A2 ?_
       refine xc9 (decide_eq_false h47) rfl rfl (0) ti5 rfl rfl rfl (At.t (At.g 2 rfl rfl) (At.g 0 rfl rfl)) rfl ?_
       refine A3 ?_
       refine RGcaseD (t:=49) rfl (fun h47_2=> ?_) (fun h47_2=> ?_)
       ·
        refine A18 ?_
        refine A9 ?_
        exact x4 Plain.mk' rfl rfl (Le.bool (xn4 (i:=i) (by omega) (by omega)))
       ·
        refine A6 ?_
        refine RGcaseD (t:=55) rfl (fun h47_3=> ?_) (fun h47_3=> ?_)
        ·
         refine A4 ?_
         refine RGon (decide_eq_true h47_3) rfl (x3 (c_TSame _ _) fi74 rfl) rfl ⟨rfl,rfl,trivial⟩ trivial trivial (RGon (decide_eq_false h47_2) rfl (xe9 (decide_eq_true h47_3)) rfl ⟨rfl,rfl,trivial⟩ trivial trivial ?_)
         refine A3 ?_
         refine x9 rfl (fun h47_4=> ?_) (fun h47_4=> ?_)
         ·
          refine A11 ?_
          exact x4 Plain.mk' rfl rfl (Le.bool (xn4 (i:=i) (by omega) (by rintro ⟨_,_,_,h | ⟨_,_,h⟩⟩;omega;exact h ⟨by omega,h47_4⟩)))
         ·
          refine A7 ?_
          have hok:tOk l i=true:=tOk_iff.2 ⟨by omega,by omega,by omega,.inr ⟨by omega,by omega,fun h=>h47_4 h.2⟩⟩
          exact kF (i+1) ⟨⟨by omega,by rw [xr8,ha,Bool.true_and];exact hok⟩,(by omega)⟩
        ·
         refine A5 ?_
         refine RGon (decide_eq_false h47_2) rfl (xc4 (decide_eq_false h47_3)) rfl ⟨rfl,rfl,trivial⟩ trivial trivial ?_
         refine A11 ?_
         have hok:tOk l i=true:=tOk_iff.2 ⟨by omega,by omega,by omega,.inr ⟨by omega,by omega,fun h=>h47_3 h.1⟩⟩
         exact kF (i+1) ⟨⟨by omega,by rw [xr8,ha,Bool.true_and];exact hok⟩,(by omega)⟩
 ·
  refine A8 ?_
  refine R2 (x3 (c_TContains l hD) fi75 rfl) rfl rfl ?_
  refine A5 ?_
  exact x4 Plain.mk' rfl rfl (Le.bool (by rw [tRight,←all_any,←show i=l.length by omega,ha,Bool.true_and]))
end An.S
namespace An
open Go Go.Proofs Go.Shelf Go.Sort
section
variable {α:Type} [Inhabited α]
def srt (cf:α→α→Int) (xs:List α):List α:=(pdq (ltOf cf) xs.toArray 0 xs.toArray.size (Go.Lib.bitLen xs.toArray.size) true true).toList
theorem srt_spec {cf:α→α→Int} (hO:SWO (ltOf cf)) (xs:List α):(srt cf xs).length=xs.length∧(srt cf xs).Perm xs∧(srt cf xs).Pairwise fun a b=>ltOf cf b a=false:=by
 obtain ⟨⟨h1,_,h2⟩,h3⟩:=pdq_sorts (ltOf cf) hO xs.toArray 0 xs.toArray.size (Go.Lib.bitLen xs.toArray.size) true true (Nat.zero_le _) (Nat.le_refl _) (Or.inl rfl)
 rw [srt]
 generalize pdq (ltOf cf) xs.toArray 0 xs.toArray.size (Go.Lib.bitLen xs.toArray.size) true true=D at*
 have e1:D.size=xs.length:=by simpa using h1
 have x1:D.extract 0 xs.toArray.size=D:=by rw [←h1];simp
 have x2:xs.toArray.extract 0 xs.toArray.size=xs.toArray:=by simp
 rw [x1,x2] at h2
 refine ⟨by simpa using e1,by simpa using h2,?_⟩
 rw [List.pairwise_iff_getElem]
 intro i j hi hj hij
 have hi':i < D.size:=by simpa using hi
 have hj':j < D.size:=by simpa using hj
 have h6:=h3 i j (Nat.zero_le _) hij (by rw [←h1];exact hj')
 rw [getElem!_pos _ i hi',getElem!_pos _ j hj'] at h6
 simpa using h6
theorem srt_asc {cf:α→α→Int} (hO:SWO (ltOf cf)) {xs:List α} (h:xs.Pairwise fun a b=>ltOf cf a b=true):srt cf xs=xs:=by
 have hp:=(srt_spec hO xs).2.1
 have hs:=(srt_spec hO xs).2.2
 generalize srt cf xs=ys at*
 induction xs generalizing ys with
 | nil=>exact hp.eq_nil
 | cons x xs ih=>
  cases ys with
  | nil=>exact absurd hp.symm.eq_nil (by simp)
  | cons y ys=>
   obtain ⟨h1,h2⟩:=List.pairwise_cons.1 h
   obtain ⟨s1,s2⟩:=List.pairwise_cons.1 hs
   have hxy:y=x:=by
    have hy:y∈x::xs:=hp.mem_iff.1 (by simp)
    rcases List.mem_cons.1 hy with e | hy
    ·exact e
    ·have hx:x∈y::ys:=hp.mem_iff.2 (by simp)
     rcases List.mem_cons.1 hx with e | hx
     ·exact e.symm
     ·have a1:=s1 x hx
      have a2:=h1 y hy
      rw [a2] at a1;cases a1
   subst hxy
   rw [ih h2 ys (List.perm_cons y |>.1 hp) s2]
end
theorem flat_at {α:Type} [Inhabited α] {enc:α→List Value} {k:Nat} (_hk: ∀x,(enc x).length=k) (d:Array α) {i j:Nat} (hi:i < d.size) (hj:j < k):(flatK enc k d)[i*k+j]! =(enc d[i]!)[j]! :=by
 have lt:i*k+j < d.size*k:=by
  have:=Nat.mul_le_mul_right k (show i+1≤d.size from hi);rw [Nat.add_mul,Nat.one_mul] at this;omega
 rw [get_flatK _ _ _ _ lt]
 have e1:(i*k+j) / k=i:=by rw [Nat.mul_comm,Nat.mul_add_div (by omega),Nat.div_eq_of_lt hj];omega
 have e2:(i*k+j)%k=j:=by rw [Nat.mul_comm,Nat.mul_add_mod,Nat.mod_eq_of_lt hj]
 rw [e1,e2]
theorem sortG {P:Program} {ρ:Ren} {α:Type} [Inhabited α] (L:SlLaysF0.n6 P ρ) {T k:Nat} {f:α→Ty} {enc:α→List Value} {cf:α→α→Int} {g:Nat} (aE: ∀w,(isAgg (ρ.t 24)).run P w= .ok true w) (zE: ∀w,(Go.sizeOf (ρ.t 24)).run P w= .ok k w)
  (hk: ∀x,(enc x).length=k) (h1: ∀x,∀v∈enc x,v.oneCell'=true) (hf1: ∀F w x v,(f x).p F w v→v= .agg (enc x).toArray) (hf2: ∀F w x,(f x).p F w (.agg (enc x).toArray)) (hO:SWO (ltOf cf))
  (eg: ∀args w,(callFunc g args).run P w= .ok (.enter g args) w) (hcmp: ∀(x y:α) (W:World),Calls P g #[.agg (enc x).toArray,.agg (enc y).toArray] W fun e w'=>e= .returned (.int .i64 (cf x y))∧ ∃q os',w'=grow (W.drewN q) os') (xs:List α) (hn:xs.length < 4611686018427387904):
  CtG P (ρ.f 6) [(1,⟨T,k,true,rV f xs⟩)] [.own (.sl 1 k 0 xs.length),.val (tE (.func (.func g) #[] #[]))] (.val (tE (.tuple #[]))) [(1,⟨T,k,true,rV f (srt cf xs)⟩)] []:=by
 intro F w η vs hS hA hI hF
 match vs,hS with
 | [v0,v1],hS=>
 obtain ⟨⟨A,rfl,hle,hadr⟩,h2,_⟩:=hS
 have h2:v1= .func (.func g) #[] #[]:=h2
 subst h2
 obtain ⟨k1,k2,k3,k4,k5⟩:=hA (1,⟨T,k,true,rV f xs⟩) (by simp)
 have k1:(rV f xs).length≤η.c 1:=k1
 have k2:0 < k:=k2
 have k4:η.c 1≤9223372036854775807:=k4
 rw [xd9] at k1
 obtain ⟨s1,s2,_⟩:=srt_spec hO xs
 by_cases h0:xs.length=0
 ·have hx:xs=[]:=List.length_eq_zero_iff.1 h0
  subst hx
  have e0:srt cf ([]:List α)=[]:=List.length_eq_zero_iff.1 s1
  rw [e0]
  refine (AnyF.slices_SortFunc_none L A (η.c 1 - 0) (.func (.func g) #[] #[]) w).mono ?_
  rintro e w' ⟨rfl,rfl⟩
  refine ⟨_,η,rfl,⟨Stp.refl _ _,fun _ _=>⟨rfl,rfl⟩,rfl,fun x hx=> ?_,hI,fun b hb=> .inl hb⟩⟩
  simp only [List.mem_singleton] at hx
  subst hx
  refine ⟨by simp [rV],k2,k3,k4,fun hc=> ?_⟩
  obtain ⟨cs,c1,c2,_⟩:=k5 hc
  exact ⟨cs,c1,c2,fun i e hi=>by simp [rV] at hi⟩
 ·have hc0:0 < η.c 1:=by omega
  obtain ⟨cs,c1,c2,c3⟩:=k5 hc0
  have c1:w.heap[η.b 1]? =some (.cells cs T (0,0)):=c1
  have c2:cs.size=η.c 1*k:=c2
  have hA':=hadr hc0
  rw [Nat.zero_mul] at hA'
  subst hA'
  have hblk:η.b 1 < w.heap.size:=xa5 c1
  have hmul: ∀i,i < xs.length→i*k+k≤cs.size:=fun i hi=>by
   rw [c2,←Nat.succ_mul];exact Nat.mul_le_mul_right _ (by omega)
  have hget: ∀i (hi:i < xs.length) j,j < k→cs[i*k+j]? =(enc xs[i])[j]? :=fun i hi j hj=>by
   have h3:=c3 i (.val (f xs[i])) (by rw [rV,List.getElem?_map,List.getElem?_eq_getElem hi];rfl)
   have h4:=hf1 _ _ _ _ h3
   simp only [pick,cond_true,Value.agg.injEq] at h4
   have h5:=congrArg (fun a:Array Value=>a[j]?) h4
   simp only [Array.getElem?_extract,List.getElem?_toArray] at h5
   have:=hmul i hi
   rw [if_pos (by omega)] at h5
   exact h5
  have hsize:xs.toArray.size=xs.length:=by simp
  have hH:HoldsK enc k w (η.b 1) 0 xs.toArray:=by
   intro j hj
   rw [size_flatK,hsize] at hj
   have hj1:j / k < xs.length:=by rw [Nat.div_lt_iff_lt_mul k2];exact hj
   have hj2:j%k < k:=Nat.mod_lt _ k2
   have hje:j / k*k+j%k=j:=by rw [Nat.mul_comm];exact Nat.div_add_mod j k
   have h6:=hget (j / k) hj1 (j%k) hj2
   rw [hje] at h6
   have h7:=flat_at hk xs.toArray (i:=j / k) (j:=j%k) (by rw [hsize];exact hj1) hj2
   rw [hje] at h7
   have hlen:j%k < (enc xs[j / k]).length:=by rw [hk];exact hj2
   have h8:xs.toArray[j / k]! =xs[j / k]:=by rw [getElem!_pos _ _ (by rw [hsize];exact hj1)];simp
   refine ⟨?_,?_⟩
   ·show w.cell? ⟨η.b 1,0+j,none⟩=some (flatK enc k xs.toArray)[j]!
    rw [h7,h8,getElem!_pos (enc xs[j / k]) (j%k) hlen]
    simp only [World.cell?,c1,Nat.zero_add,Option.isSome_none,Bool.false_eq_true,if_false]
    rw [h6,List.getElem?_eq_getElem hlen]
   ·simp [World.frozen?,c1]
  have hcon:=AnyQ.slices_SortFunc_eq L k aE zE enc hk h1 cf hO g #[] (η.b 1) 0 (η.c 1 - 0) xs.toArray w eg (fun m os dk _ x y=>hcmp x y _) hH hblk (by rw [hsize];exact hn)
  rw [hsize] at hcon
  refine hcon.mono ?_
  rintro e w' ⟨rfl,m,os,rfl⟩
  have hd:(pdq (ltOf cf) xs.toArray 0 xs.length (Go.Lib.bitLen xs.length) true true).size=xs.length:=by
   have:(srt cf xs).length=xs.length:=s1
   simpa [srt] using this
  have hl:(pdq (ltOf cf) xs.toArray 0 xs.length (Go.Lib.bitLen xs.length) true true).toList=srt cf xs:=by simp [srt]
  generalize pdq (ltOf cf) xs.toArray 0 xs.length (Go.Lib.bitLen xs.length) true true=d at hd hl
  have hheap: ∀b',b' < w.heap.size→(sortWorldK enc k w (η.b 1) 0 m d os).heap[b']? =if b'=η.b 1 then some (.cells (putCells id 0 (flatK enc k d) cs) T (0,0)) else w.heap[b']? :=fun b' hb'=>by
   show (grow (putRowK enc k (Sort.ahead w m) (η.b 1) 0 d) os).heap[b']? =_
   rw [heap_grow_old _ _ (by simp [putRowK];exact hb')]
   simp only [putRowK,putRow,mapBlock,Array.getElem?_modify]
   by_cases hb:b'=η.b 1
   ·subst hb
    rw [if_pos rfl,if_pos rfl]
    show Option.map _ (w.heap[η.b 1]?)=_
    rw [c1];rfl
   ·rw [if_neg (fun h=>hb h.symm),if_neg hb];rfl
  have hsz:w.heap.size≤(sortWorldK enc k w (η.b 1) 0 m d os).heap.size:=by
   show w.heap.size≤(grow (putRowK enc k (Sort.ahead w m) (η.b 1) 0 d) os).heap.size
   simp [grow,putRowK,putRow,mapBlock,Sort.ahead]
  refine ⟨_,η,rfl,⟨⟨rfl,rfl,rfl,hsz,fun b' hb' hn'=> ?_⟩,fun _ _=>⟨rfl,rfl⟩,rfl,fun x hx=> ?_,fun x hx y hy hne=> ?_,fun b' hb'=> .inl ?_⟩⟩
  ·rw [hheap b' hb',if_neg]
   intro hb;exact hn' ⟨(1,⟨T,k,true,rV f xs⟩),by simp,hc0,hb⟩
  ·simp only [List.mem_singleton] at hx
   subst hx
   refine ⟨by rw [xd9,s1];exact k1,k2,k3,k4,fun _=>⟨putCells id 0 (flatK enc k d) cs,?_,?_,fun i e hi=> ?_⟩⟩
   ·rw [hheap _ hblk,if_pos rfl]
   ·simp only [putCells,Array.size_mapIdx];exact c2
   ·have hil:i < (srt cf xs).length:=by
     have:=(List.getElem?_eq_some_iff.1 hi).1;rwa [xd9] at this
    have hi2:i < xs.length:=by rw [←s1];exact hil
    rw [rV,List.getElem?_map,List.getElem?_eq_getElem hil] at hi
    simp only [Option.map_some,Option.some.injEq] at hi
    subst hi
    have hdi:d[i]! =(srt cf xs)[i]:=by
     rw [getElem!_pos d i (by rw [hd];exact hi2)]
     simp only [←hl,Array.getElem_toList]
    have:pick true k (putCells id 0 (flatK enc k d) cs) (i*k)= .agg (enc (srt cf xs)[i]).toArray:=by
     simp only [pick,cond_true,Value.agg.injEq]
     apply Array.ext_getElem?
     intro j
     rw [Array.getElem?_extract]
     have hm:=hmul i hi2
     simp only [List.getElem?_toArray]
     by_cases hj:j < k
     ·rw [if_pos (by simp only [putCells,Array.size_mapIdx];omega)]
      have hlt:i*k+j < d.size*k:=by
       rw [hd]
       have:=Nat.mul_le_mul_right k (show i+1≤xs.length from hi2);rw [Nat.add_mul,Nat.one_mul] at this;omega
      simp only [putCells,Array.getElem?_mapIdx,size_flatK]
      have hcs:cs[i*k+j]? =some (cs[i*k+j]'(by omega)):=by rw [Array.getElem?_eq_getElem]
      rw [hcs]
      simp only [Option.map_some]
      rw [if_pos ⟨Nat.zero_le _,by omega⟩,Nat.sub_zero,flat_at hk d (by rw [hd];exact hi2) hj,hdi]
      have hjl:j < (enc (srt cf xs)[i]).length:=by rw [hk];exact hj
      rw [getElem!_pos (enc (srt cf xs)[i]) j hjl,List.getElem?_eq_getElem hjl];rfl
     ·rw [if_neg (by simp only [putCells,Array.size_mapIdx];omega),List.getElem?_eq_none (by rw [hk];omega)]
    simp only []
    rw [this]
    exact hf2 _ _ _
  ·simp only [List.mem_singleton] at hx hy
   subst hx;subst hy
   exact absurd rfl hne
  ·obtain ⟨x,hx,hc,rfl⟩:=hb'
   simp only [List.mem_singleton] at hx
   subst hx
   exact ⟨(1,⟨T,k,true,rV f xs⟩),by simp,hc,rfl⟩
end An
namespace An.S
open Go Go.Proofs An
open Go.RowKit Go.Sort
instance fo106_0:FoI Tryz.prog 106 0 0:=⟨by kernel_rfl⟩
instance fo106_1:FoI Tryz.prog 106 1 1:=⟨by kernel_rfl⟩
instance fi102:FnI Tryz.prog 102:=⟨_,Tryz.func102,by kernel_rfl,rfl⟩
instance fi103:FnI Tryz.prog 103:=⟨_,Tryz.func103,by kernel_rfl,rfl⟩
theorem el106:ElI Tryz.prog 106 2 16 true (.agg #[.int .i64 0,.int .i64 0]):=⟨ti106,by kernel_rfl,by kernel_rfl⟩
theorem zr106:(Tryz.prog.info? 106).bind (·.zero)=some (.agg #[.int .i64 0,.int .i64 0])∧ ∀F w,(tS [⟨1,false,(tE (.int .i64 0))⟩,⟨1,false,(tE (.int .i64 0))⟩]).p F w (.agg #[.int .i64 0,.int .i64 0]):=⟨by kernel_rfl,fun _ _=>⟨_,rfl,rfl,⟨fun _=>rfl,rfl⟩,⟨fun _=>rfl,rfl⟩,trivial⟩⟩
theorem zf106:Flat 2 true (.agg #[.int .i64 0,.int .i64 0]):=xm0 (by intro u hu;simp at hu;rcases hu with rfl | rfl <;> rfl)
def cmpI (a b:Int):Int:=if a < b then -1 else if b < a then 1 else 0
theorem cmpInt (a b:Int) (W:World):Calls Tryz.prog 105 #[.int .i64 a,.int .i64 b] W fun e w'=>e= .returned (.int .i64 (cmpI a b))∧w'=W:=by
 have hn: ∀(x:Int) (W:World),Calls Tryz.prog 155 #[.int .i64 x] W fun e w'=>e= .returned (.bool false)∧w'=W:=fun x W=>by
  have h1:(x==x)=true:=by simp
  go_enter Tryz.func155,Tryz.ntmps155
  go_wp2
  go_ret
  exact ⟨by simp,rfl⟩
 by_cases h1:a < b
 ·rw [show cmpI a b= -1 by simp [cmpI,h1]]
  go_enter Tryz.func105,Tryz.ntmps105
  go_wp2_with (go_at_call 155;refine (hn _ _).mono ?_;rintro e w' ⟨rfl,rfl⟩)
  go_ret
  exact ⟨rfl,rfl⟩
 ·by_cases h2:b < a
  ·rw [show cmpI a b=1 by simp [cmpI,h1,h2]]
   go_enter Tryz.func105,Tryz.ntmps105
   go_wp2_with (go_at_call 155;refine (hn _ _).mono ?_;rintro e w' ⟨rfl,rfl⟩)
   go_ret
   exact ⟨rfl,rfl⟩
  ·rw [show cmpI a b=0 by simp [cmpI,h1,h2]]
   go_enter Tryz.func105,Tryz.ntmps105
   go_wp2_with (go_at_call 155;refine (hn _ _).mono ?_;rintro e w' ⟨rfl,rfl⟩)
   go_ret
   exact ⟨rfl,rfl⟩
def sortSpanR:Go.Shelf.Ren:=⟨fun n=>match n with | 6=>103 | 14=>154 | 15=>84 | 20=>182 | 21=>183 | 22=>184 | 23=>185 | 24=>186 | 25=>187 | 26=>188 | 27=>189 | 28=>137 | 29=>138 | 46=>209 | 47=>170 | 48=>171 | 49=>210 | 50=>211 | 57=>220 | n=>n,fun n=>match n with | 0=>0 | 3=>3 | 4=>4 | 5=>5 | 9=>9 | 22=>74 | 24=>106 | 25=>167 | 39=>139 | 45=>193 | 46=>194 | 50=>199 | 53=>202 | 55=>116 | 66=>227 | 70=>231 | 76=>247 | 77=>179 | n=>n,fun n=>n⟩
theorem sortSpan:Go.Proofs.SlLaysF0.n6 Tryz.prog sortSpanR where
 mixed:=by kernel_rfl
 f6:=⟨Tryz.f103.name,by kernel_rfl,by kernel_rfl⟩
 f14:=⟨Tryz.f154.name,by kernel_rfl,by kernel_rfl⟩
 f15:=by kernel_rfl
 f20:=⟨Tryz.f182.name,by kernel_rfl,by kernel_rfl⟩
 f21:=⟨Tryz.f183.name,by kernel_rfl,by kernel_rfl⟩
 f22:=⟨Tryz.f184.name,by kernel_rfl,by kernel_rfl⟩
 f23:=⟨Tryz.f185.name,by kernel_rfl,by kernel_rfl⟩
 f24:=⟨Tryz.f186.name,by kernel_rfl,by kernel_rfl⟩
 f25:=⟨Tryz.f187.name,by kernel_rfl,by kernel_rfl⟩
 f26:=⟨Tryz.f188.name,by kernel_rfl,by kernel_rfl⟩
 f27:=⟨Tryz.f189.name,by kernel_rfl,by kernel_rfl⟩
 f28:=by kernel_rfl
 f29:=by kernel_rfl
 f46:=⟨Tryz.f209.name,by kernel_rfl,by kernel_rfl⟩
 f47:=by kernel_rfl
 f48:=by kernel_rfl
 f49:=⟨Tryz.f210.name,by kernel_rfl,by kernel_rfl⟩
 f50:=⟨Tryz.f211.name,by kernel_rfl,by kernel_rfl⟩
 f57:=⟨Tryz.f220.name,by kernel_rfl,by kernel_rfl⟩
 t0:=by kernel_rfl
 a0:=fun w=>by kernel_rfl
 z0:=fun w=>by kernel_rfl
 v0:=fun w=>by kernel_rfl
 t3:=by kernel_rfl
 a3:=fun w=>by kernel_rfl
 z3:=fun w=>by kernel_rfl
 v3:=fun w=>by kernel_rfl
 t4:=by kernel_rfl
 a4:=fun w=>by kernel_rfl
 z4:=fun w=>by kernel_rfl
 v4:=fun w=>by kernel_rfl
 t5:=by kernel_rfl
 a5:=fun w=>by kernel_rfl
 z5:=fun w=>by kernel_rfl
 v5:=fun w=>by kernel_rfl
 t9:=by kernel_rfl
 a9:=fun w=>by kernel_rfl
 z9:=fun w=>by kernel_rfl
 v9:=fun w=>by kernel_rfl
 t22:=by kernel_rfl
 a22:=fun w=>by kernel_rfl
 z22:=fun w=>by kernel_rfl
 v22:=fun w=>by kernel_rfl
 t25:=by kernel_rfl
 a25:=fun w=>by kernel_rfl
 z25:=fun w=>by kernel_rfl
 v25:=fun w=>by kernel_rfl
 t39:=by kernel_rfl
 a39:=fun w=>by kernel_rfl
 z39:=fun w=>by kernel_rfl
 v39:=fun w=>by kernel_rfl
 t45:=by kernel_rfl
 a45:=fun w=>by kernel_rfl
 z45:=fun w=>by kernel_rfl
 v45:=fun w=>by kernel_rfl
 t46:=by kernel_rfl
 a46:=fun w=>by kernel_rfl
 z46:=fun w=>by kernel_rfl
 v46:=fun w=>by kernel_rfl
 t50:=by kernel_rfl
 a50:=fun w=>by kernel_rfl
 z50:=fun w=>by kernel_rfl
 v50:=fun w=>by kernel_rfl
 t53:=by kernel_rfl
 a53:=fun w=>by kernel_rfl
 z53:=fun w=>by kernel_rfl
 v53:=fun w=>by kernel_rfl
 t55:=by kernel_rfl
 a55:=fun w=>by kernel_rfl
 z55:=fun w=>by kernel_rfl
 v55:=fun w=>by kernel_rfl
 t66:=by kernel_rfl
 a66:=fun w=>by kernel_rfl
 z66:=fun w=>by kernel_rfl
 v66:=fun w=>by kernel_rfl
 t70:=by kernel_rfl
 a70:=fun w=>by kernel_rfl
 z70:=fun w=>by kernel_rfl
 v70:=fun w=>by kernel_rfl
 t76:=by kernel_rfl
 a76:=fun w=>by kernel_rfl
 z76:=fun w=>by kernel_rfl
 v76:=fun w=>by kernel_rfl
 t77:=by kernel_rfl
 a77:=fun w=>by kernel_rfl
 z77:=fun w=>by kernel_rfl
 v77:=fun w=>by kernel_rfl
def cfSn (x y:Sn):Int:=cmpI x.lo y.lo
def encSn (x:Sn):List Value:=[.int .i64 x.lo,.int .i64 x.hi]
theorem ltSn (x y:Sn):Go.Proofs.ltOf cfSn x y=decide (x.lo < y.lo):=by
 unfold Go.Proofs.ltOf cfSn cmpI
 by_cases h1:x.lo < y.lo
 ·simp [h1]
 ·by_cases h2:y.lo < x.lo <;> simp [h1,h2]
theorem swoSn:SWO (Go.Proofs.ltOf cfSn) where
 irrefl x:=by rw [ltSn];simp
 trans x y z h1 h2:=by rw [ltSn] at*;simp at*;omega
 ntrans x y z h1 h2:=by rw [ltSn] at*;simp at*;omega
theorem closSn (x y:Sn) (W:World):Calls Tryz.prog 104 #[.agg (encSn x).toArray,.agg (encSn y).toArray] W fun e w'=>e= .returned (.int .i64 (cfSn x y))∧ ∃q os',w'=grow (W.drewN q) os':=by
 have hcon:=fun W'=>cmpInt x.lo y.lo W'
 show Calls Tryz.prog 104 #[.agg #[.int .i64 x.lo,.int .i64 x.hi],.agg #[.int .i64 y.lo,.int .i64 y.hi]] W fun e w'=>e= .returned (.int .i64 (cmpI x.lo y.lo))∧ ∃q os',w'=grow (W.drewN q) os'
 generalize cmpI x.lo y.lo=r at hcon ⊢
 go_enter Tryz.func104,Tryz.ntmps104
 go_wp2_with (go_at_call 105;refine (hcon _).mono ?_;rintro e w' ⟨rfl,rfl⟩)
 go_ret
 exact ⟨rfl,0,_,by rw [alloc_eq_grow,alloc_eq_grow,grow_grow];rfl⟩
theorem c_sortSn (xs:List Sn) (hn:xs.length < 4611686018427387904):CtG Tryz.prog 103 [(1,⟨106,2,true,rV tSn xs⟩)] [.own (.sl 1 2 0 xs.length),.val (tE (.func (.func 104) #[] #[]))] (.val (tE (.tuple #[]))) [(1,⟨106,2,true,rV tSn (srt cfSn xs)⟩)] []:=
 sortG sortSpan (enc:=encSn) (cf:=cfSn) (fun w=>by kernel_rfl) (fun w=>by kernel_rfl) (fun _=>rfl) (fun x v hv=>by simp [encSn] at hv;rcases hv with rfl | rfl <;> rfl) (fun F w x v h=>tSn_val h) (fun F w x=>tSn_mk) swoSn (enters_of Tryz.func104 (by kernel_rfl) rfl) closSn xs hn
theorem srtSn_len {xs:List Sn}:(srt cfSn xs).length=xs.length:=(srt_spec swoSn xs).1
def pos (s:Sn):Bool:=decide (s.lo < s.hi)
def mkS (l:List Sn):List Sn:=mrg (srt cfSn (l.filter pos))
theorem filter_next {l:List Sn} {i:Nat} (hi:i < l.length):(l.take (i+1)).filter pos=(l.take i).filter pos++(if pos (l.getD i sn0) then [l.getD i sn0] else []):=by
 rw [List.take_succ_eq_append_getElem hi,List.filter_append,List.getD_eq_getElem?_getD,List.getElem?_eq_getElem hi]
 by_cases h:pos l[i]=true <;> simp [h]
theorem mrg_next {l:List Sn} {i:Nat} (hi:i < l.length):mrg (l.take (i+1))=mrg1 (mrg (l.take i)) (l.getD i sn0):=by
 rw [List.take_succ_eq_append_getElem hi,mrg,List.foldl_append,List.getD_eq_getElem?_getD,List.getElem?_eq_getElem hi];rfl
theorem allS_next {p:Sn→Bool} {l:List Sn} {i:Nat} (hi:i < l.length):(l.take (i+1)).all p=((l.take i).all p && p (l.getD i sn0)):=by
 rw [List.take_succ_eq_append_getElem hi,List.all_append,List.getD_eq_getElem?_getD,List.getElem?_eq_getElem hi];simp
theorem allS_stop {p:Sn→Bool} {l:List Sn} {i:Nat} (hi:i < l.length) (h:p (l.getD i sn0)=false):l.all p=false:=by
 rw [List.all_eq_false]
 exact ⟨l.getD i sn0,by rw [List.getD_eq_getElem?_getD,List.getElem?_eq_getElem hi];exact List.getElem_mem hi,by rw [h];exact Bool.false_ne_true⟩
theorem mrg1_len (acc:List Sn) (s:Sn):(mrg1 acc s).length≤acc.length+1:=by
 rw [mrg1];split <;> simp
theorem mrg_len: ∀(xs acc:List Sn),(xs.foldl mrg1 acc).length≤acc.length+xs.length
 | [],acc=>by simp
 | s::r,acc=>by
  have h1:=mrg_len r (mrg1 acc s)
  have h2:=mrg1_len acc s
  simp only [List.foldl_cons,List.length_cons]
  omega
theorem filter_le {l:List Sn} {i:Nat}:((l.take i).filter pos).length≤i:=by
 have h1:=List.length_filter_le pos (l.take i)
 rw [List.length_take] at h1;omega
theorem c_isSpan (s:Sn):
  Ct Tryz.prog 102 [tSn s] (tB s.ok):=by
 refine Ct.intro Tryz.func102 rfl Tryz.ntmps102 rfl ?_
 intro w F
 refine A12 ?_
 refine RGcaseD (t:=6) rfl (fun h15=> ?_) (fun h15=> ?_)
 ·
  refine A7 ?_
  refine RGcaseD (t:=13) rfl (fun h15_2=> ?_) (fun h15_2=> ?_)
  ·
   refine A8 ?_
   exact x4 Plain.mk' rfl rfl (Le.bool (by simp [Sn.ok, *]))
  ·
   refine A8 ?_
   exact x4 Plain.mk' rfl rfl (Le.bool (by simp [Sn.ok, *]))
 ·
  refine A15 ?_
  exact x4 Plain.mk' rfl rfl (Le.bool (by simp [Sn.ok, *]))
theorem c_SnMake (l:List Sn) (hl:l.length≤1000000):
  Ct Tryz.prog 67 [tL 2 true tSn l] (tT [tL 2 true tSn (if l.all Sn.ok=true then mkS l else []),tI (if l.all Sn.ok=true then 0 else 2)]):=by
 refine Ct.intro Tryz.func67 rfl Tryz.ntmps67 rfl ?_
 intro w F
 refine A8 ?_
 refine RE (xe4 (k:=4) 106 2 true rfl (fun h=>by cases h)) trivial trivial ⟨rfl,trivial⟩ ?_
 refine A11 ?_
 refine cL (fun (fm:(Nat)×(List Sn))=>(fun (i:Nat) (xs:List Sn)=>i≤l.length∧(l.take i).all Sn.ok=true∧xs=(l.take i).filter pos) fm.1 fm.2) (fun (fm:(Nat)×(List Sn))=>(fun (i:Nat) (xs:List Sn)=>upd (upd (upd (upd (upd (fun _=>none) 0 (some (.val (tL 2 true tSn l)))) 4 (some (.own (.sl 4 2 0 xs.length)))) 11 (some (.val (tL 2 true tSn l)))) 12 (some (.val (tI l.length)))) 13 (some (.val (tI i)))) fm.1 fm.2) (fun (fm:(Nat)×(List Sn))=>(fun (i:Nat) (xs:List Sn)=>upd (fun _=>none) 4 (some (⟨106,2,true,rV tSn xs⟩))) fm.1 fm.2) [4] (fun (fm:(Nat)×(List Sn))=>(fun (i:Nat) (xs:List Sn)=>l.length - i) fm.1 fm.2) ((0,[])) (by dsimp only;exact ⟨Nat.zero_le _,rfl,rfl⟩) (hh:=((SubK.consI rfl ImpK.refl) SubK.nil)) ?_
 intro fm hI
 obtain ⟨i,xs⟩:=fm
 replace hI:i≤l.length∧(l.take i).all Sn.ok=true∧xs=(l.take i).filter pos:=hI
 show wc _ _ _ _ (upd (upd (upd (upd (upd (fun _=>none) 0 (some (.val (tL 2 true tSn l)))) 4 (some (.own (.sl 4 2 0 xs.length)))) 11 (some (.val (tL 2 true tSn l)))) 12 (some (.val (tI l.length)))) 13 (some (.val (tI i)))) (upd (fun _=>none) 4 (some (⟨106,2,true,rV tSn xs⟩))) _
 obtain ⟨hi,ha,hx⟩:=hI
 have hxl:xs.length≤i:=hx▸filter_le
 refine A6 ?_
 refine x9 rfl (fun h31=> ?_) (fun h31=> ?_)
 ·
  refine A6 ?_
  refine R2 (x5 sl74 (i) (by omega) (gD (l:=l) (n:=i) (d:=sn0) (by omega))) rfl rfl ?_
  refine A1 ?_
  refine RE (x6 (k:=6) (n:=2) (agg:=true) zr106.1 zr106.2 rfl) trivial trivial ⟨rfl,trivial⟩ ?_
  refine A7 ?_
  refine R1 (x3 (c_isSpan _) fi102 rfl) rfl ?_
  refine A3 ?_
  refine xc1 rfl (fun h32=> ?_) (fun h32=> ?_)
  ·
   have hbad:l.all Sn.ok=false:=allS_stop (i:=i) (by omega) (by rw [Bool.not_eq_true'] at h32;exact h32)
   refine A13 ?_
   exact xe5 Plain.mk' rfl rfl rfl (leNil (by rw [if_neg (by rw [hbad];exact Bool.false_ne_true)])) (Le.int (by rw [if_neg (by rw [hbad];exact Bool.false_ne_true)]))
  ·
   rw [Bool.not_eq_false'] at h32
   refine A11 ?_
   refine x9 rfl (fun h35=> ?_) (fun h35=> ?_)
   ·
    refine A3 ?_
    refine R1 (xa8 (n:=1) (f:=tSn) [(l.getD i sn0)] Tryz.underlying74 el106 zf106 rfl (fun _=>inferInstance) rfl rfl rfl) rfl (RE (xc5 (k:=4) (k':=28) (f:=tSn) (ys:=[(l.getD i sn0)]) (ts':=rV tSn (xs++[(l.getD i sn0)])) Tryz.underlying74 el106 zf106 rfl rfl (fun _=>inferInstance) xd9 (by simp;omega) (by simp;omega) (by simp [rV]) (n':=xs.length+1) rfl) ⟨rfl,rfl,trivial⟩ ⟨rfl,trivial⟩ ⟨rfl,trivial⟩ ?_)
    refine A8 ?_
    exact xc0 (l:=[4]) (fun j=>cond (Nat.beq j 4) 28 (j)) ((i+1,xs++[(l.getD i sn0)])) ⟨(by dsimp only;exact ⟨by omega,by rw [allS_next (by omega),ha,h32];rfl,by rw [filter_next (by omega),←hx,if_pos (show pos _=true from decide_eq_true h35)]⟩),(by dsimp only;omega)⟩ (SubR.int rfl (by first | omega | rfl | (dsimp only;omega)) (SubR.int rfl (by first | omega | rfl | (dsimp only;omega)) (SubR.cons rfl ((SubR.consI rfl (Imp.of (by dsimp only;rw [List.length_append];rfl))) (SubR.cons rfl SubR.nil))))) ((SubKR.consI rfl (ImpK.of xa3.symm)) SubKR.nil) (SupG.val (SupG.val (SupG.val (SupG.own rfl (SupG.val SupG.nil))))) (SupH.cons rfl (supJ xa2) SupH.nil) (lkOk rfl) rfl rfl (fun _ h=>by cases h)
   ·
    refine A7 ?_
    exact kF ((i+1,xs)) ⟨(by dsimp only;exact ⟨by omega,by rw [allS_next (by omega),ha,h32];rfl,by rw [filter_next (by omega),←hx,if_neg (by rw [pos,decide_eq_false h35];exact Bool.false_ne_true),List.append_nil]⟩),(by dsimp only;omega)⟩ (hh:=((SubK.consI rfl ImpK.refl) SubK.nil))
 ·
  refine A6 ?_
  have hil:i=l.length:=by omega
  subst hil
  rw [List.take_length] at ha hx
  have hall:=ha
  have hmk:mkS l=mrg (srt cfSn xs):=by rw [mkS,hx]
  refine A2 ?_
  refine RE (xb1 (fun _=>4) (c_sortSn xs (by omega)) fi103 rfl (krC (ρ:=fun _=>4) (k:=1) xa3 (krN (ρ:=fun _=>4))) (krC (ρ:=fun _=>4) (k:=1) xa3 (krN (ρ:=fun _=>4))) ⟨⟨rfl,xa2⟩,trivial⟩ rfl) ⟨rfl,rfl,trivial⟩ ⟨rfl,trivial⟩ trivial ?_
  refine A4 ?_
  refine RE (xe4 (k:=7) 106 2 true rfl (fun h=>by cases h)) trivial trivial ⟨rfl,trivial⟩ ?_
  refine A11 ?_
  refine cL (fun (fm:(Nat)×(List Sn))=>(fun (i:Nat) (zs:List Sn)=>i≤xs.length∧zs=mrg ((srt cfSn xs).take i)) fm.1 fm.2) (fun (fm:(Nat)×(List Sn))=>(fun (i:Nat) (zs:List Sn)=>upd (upd (upd (upd (upd (fun _=>none) 4 (some (.own (.sl 4 2 0 xs.length)))) 7 (some (.own (.sl 7 2 0 zs.length)))) 32 (some (.own (.sl 4 2 0 xs.length)))) 33 (some (.val (tI xs.length)))) 34 (some (.val (tI i)))) fm.1 fm.2) (fun (fm:(Nat)×(List Sn))=>(fun (i:Nat) (zs:List Sn)=>upd (upd (fun _=>none) 4 (some (⟨106,2,true,rV tSn (srt cfSn xs)⟩))) 7 (some (⟨106,2,true,rV tSn zs⟩))) fm.1 fm.2) [4,7] (fun (fm:(Nat)×(List Sn))=>(fun (i:Nat) (zs:List Sn)=>xs.length - i) fm.1 fm.2) ((0,[])) (by dsimp only;exact ⟨Nat.zero_le _,rfl⟩) (hh:=((SubK.consI rfl ImpK.refl) ((SubK.consI rfl ImpK.refl) SubK.nil))) ?_
  intro fm hI
  obtain ⟨i,zs⟩:=fm
  replace hI:i≤xs.length∧zs=mrg ((srt cfSn xs).take i):=hI
  show wc _ _ _ _ (upd (upd (upd (upd (upd (fun _=>none) 4 (some (.own (.sl 4 2 0 xs.length)))) 7 (some (.own (.sl 7 2 0 zs.length)))) 32 (some (.own (.sl 4 2 0 xs.length)))) 33 (some (.val (tI xs.length)))) 34 (some (.val (tI i)))) (upd (upd (fun _=>none) 4 (some (⟨106,2,true,rV tSn (srt cfSn xs)⟩))) 7 (some (⟨106,2,true,rV tSn zs⟩))) _
  obtain ⟨hi',hz⟩:=hI
  have hsl:=srtSn_len (xs:=xs)
  have hzl:zs.length≤i:=by
   have h:=mrg_len ((srt cfSn xs).take i) []
   rw [List.length_take] at h
   have h2:zs.length≤([]:List Sn).length+min i (srt cfSn xs).length:=by rw [hz];exact h
   simp at h2;omega
  refine A6 ?_
  refine x9 rfl (fun h41=> ?_) (fun h41=> ?_)
  ·
   refine A6 ?_
   refine R2 (xa1 sl74 (by omega) (by omega) rfl) rfl rfl (RE (xb2 (i) ti106 (xb8 (d:=sn0) (by omega)) (by omega)) ⟨rfl,trivial⟩ ⟨rfl,trivial⟩ trivial (RE (x6 (k:=9) (n:=2) (agg:=true) zr106.1 zr106.2 rfl) trivial trivial ⟨rfl,trivial⟩ ?_))
   refine A15 ?_
   refine RGcaseD (t:=42) rfl (fun h42=> ?_) (fun h42=> ?_)
   ·
    refine A2 ?_
    refine RGon (decide_eq_true h42) rfl (xe1 (wr64 (by omega) (by omega))) rfl ⟨rfl,rfl,trivial⟩ trivial trivial (RGon (decide_eq_true h42) rfl (xa1 sl74 (by omega) (by omega) rfl) rfl ⟨rfl,rfl,trivial⟩ trivial trivial ?_)
    refine A1 ?_
    refine RGon (decide_eq_true h42) rfl (xj1 (es:=2) (o:=1) (zs.length - 1) ti3 (xb8 (d:=sn0) (by omega)) (At.g 1 rfl rfl) (by omega)) rfl ⟨rfl,trivial⟩ ⟨rfl,trivial⟩ trivial ?_
    refine A6 ?_
    refine x9 rfl (fun h42_2=> ?_) (fun h42_2=> ?_)
    ·
     refine A7 ?_
     refine R2 (xa1 sl74 (by omega) (by omega) rfl) rfl rfl ?_
     refine A1 ?_
     refine RE (xj1 (es:=2) (o:=1) (zs.length - 1) ti3 (xb8 (d:=sn0) (by omega)) (At.g 1 rfl rfl) (by omega)) ⟨rfl,trivial⟩ ⟨rfl,trivial⟩ trivial ?_
     refine A2 ?_
     refine R2 d_max2 rfl rfl (R2 (xa1 sl74 (by omega) (by omega) rfl) rfl rfl ?_)
     refine A1 ?_
     refine RE (xo9 (es:=2) (o:=1) (t2:=tSn ⟨(zs.getD (zs.length - 1) sn0).lo,max (zs.getD (zs.length - 1) sn0).hi ((srt cfSn xs).getD i sn0).hi⟩) (zs.length - 1) ti3 (xb8 (d:=sn0) (by omega)) (Up.f (f:=⟨1,false,tI (zs.getD (zs.length - 1) sn0).hi⟩) 1 rfl rfl rfl) (by omega) (xh3 rfl)) ⟨rfl,rfl,trivial⟩ ⟨rfl,trivial⟩ trivial ?_
     refine A7 ?_
     exact kF ((i+1,(zs.set (zs.length - 1) ⟨(zs.getD (zs.length - 1) sn0).lo,max (zs.getD (zs.length - 1) sn0).hi ((srt cfSn xs).getD i sn0).hi⟩))) ⟨(by dsimp only;exact ⟨by omega,by rw [mrg_next (by omega),←hz,mrg1,if_pos ⟨by omega,by omega⟩]⟩),(by dsimp only;omega)⟩ (hg:=(sI (sI (sC ((Sub.consI rfl (Imp.of (by dsimp only;rw [List.length_set]))) (sC Sub.nil)))))) (hh:=((SubK.consI rfl ImpK.refl) ((SubK.consI rfl ImpK.refl) SubK.nil)))
    ·
     refine A3 ?_
     refine R1 (xa8 (n:=1) (f:=tSn) [((srt cfSn xs).getD i sn0)] Tryz.underlying74 el106 zf106 rfl (fun _=>inferInstance) rfl rfl rfl) rfl (RE (xc5 (k:=7) (k':=70) (f:=tSn) (ys:=[((srt cfSn xs).getD i sn0)]) (ts':=rV tSn (zs++[((srt cfSn xs).getD i sn0)])) Tryz.underlying74 el106 zf106 rfl rfl (fun _=>inferInstance) xd9 (by simp;omega) (by simp;omega) (by simp [rV]) (n':=zs.length+1) rfl) ⟨rfl,rfl,trivial⟩ ⟨rfl,trivial⟩ ⟨rfl,trivial⟩ ?_)
     refine A8 ?_
     exact xc0 (l:=[4,7]) (fun j=>cond (Nat.beq j 7) 70 (j)) ((i+1,zs++[((srt cfSn xs).getD i sn0)])) ⟨(by dsimp only;exact ⟨by omega,by rw [mrg_next (by omega),←hz,mrg1,if_neg (by omega)]⟩),(by dsimp only;omega)⟩ (SubR.int rfl (by first | omega | rfl | (dsimp only;omega)) (SubR.int rfl (by first | omega | rfl | (dsimp only;omega)) (SubR.cons rfl ((SubR.consI rfl (Imp.of (by dsimp only;rw [List.length_append];rfl))) (SubR.cons rfl SubR.nil))))) ((SubKR.consI rfl (ImpK.of xa3.symm)) ((SubKR.consI rfl (ImpK.of xa3.symm)) SubKR.nil)) (SupG.val (SupG.val (SupG.own rfl (SupG.own rfl (SupG.own rfl SupG.nil))))) (SupH.cons rfl (supJ xa2) (SupH.cons rfl (supJ xa2) SupH.nil)) (lkOk rfl) rfl rfl (fun _ h=>by cases h)
   ·
    refine A16 ?_
    refine R1 (xa8 (n:=1) (f:=tSn) [((srt cfSn xs).getD i sn0)] Tryz.underlying74 el106 zf106 rfl (fun _=>inferInstance) rfl rfl rfl) rfl (RE (xc5 (k:=7) (k':=70) (f:=tSn) (ys:=[((srt cfSn xs).getD i sn0)]) (ts':=rV tSn (zs++[((srt cfSn xs).getD i sn0)])) Tryz.underlying74 el106 zf106 rfl rfl (fun _=>inferInstance) xd9 (by simp;omega) (by simp;omega) (by simp [rV]) (n':=zs.length+1) rfl) ⟨rfl,rfl,trivial⟩ ⟨rfl,trivial⟩ ⟨rfl,trivial⟩ ?_)
    refine A8 ?_
    exact xc0 (l:=[4,7]) (fun j=>cond (Nat.beq j 7) 70 (j)) ((i+1,zs++[((srt cfSn xs).getD i sn0)])) ⟨(by dsimp only;exact ⟨by omega,by rw [mrg_next (by omega),←hz,mrg1,if_neg (by omega)]⟩),(by dsimp only;omega)⟩ (SubR.int rfl (by first | omega | rfl | (dsimp only;omega)) (SubR.int rfl (by first | omega | rfl | (dsimp only;omega)) (SubR.cons rfl ((SubR.consI rfl (Imp.of (by dsimp only;rw [List.length_append];rfl))) (SubR.cons rfl SubR.nil))))) ((SubKR.consI rfl (ImpK.of xa3.symm)) ((SubKR.consI rfl (ImpK.of xa3.symm)) SubKR.nil)) (SupG.val (SupG.val (SupG.own rfl (SupG.own rfl (SupG.own rfl SupG.nil))))) (SupH.cons rfl (supJ xa2) (SupH.cons rfl (supJ xa2) SupH.nil)) (lkOk rfl) rfl rfl (fun _ h=>by cases h)
  ·
   refine A8 ?_
   refine RE (xj4 (f:=tSn) (xs:=zs) (fun _ h=>h) (xf7 rfl) rfl) ⟨rfl,trivial⟩ ⟨rfl,trivial⟩ trivial ?_
   refine A4 ?_
   exact xe5 Plain.mk' rfl rfl rfl (Le.of (by rw [if_pos hall,hmk,hz,show i=(srt cfSn xs).length by omega,List.take_length])) (Le.int (by rw [if_pos hall]))
end An.S
namespace An
open Go
theorem C_renS {P:Program} {c:Base} {g:Slots} {h:Keys} {al:Names} {Q:Exit→Act→World→Prop} {x:Code} {t k es off len:Nat} {y:HEnt} (k':Nat) (hs:g t=some (.own (.sl k es off len))) (hk:h k=some y) (hk':al k'=false)
  (H:wc P c x Q (upd g t (some (.own (.sl k' es off len)))) (upd (upd h k none) k' (some y)) (fun j=>Nat.beq j k' || al j)):wc P c x Q g h al:=fun a w hst=>by
 obtain ⟨η,s⟩:=hst
 have s2:=s.rename hk hk'
 have h1:=(s2.slot t _ hs).2.2
 have hk1:k≠k':=fun e=>by have:=(s.key k _ hk).1;rw [e,hk'] at this;cases this
 obtain ⟨hb,hc⟩:=η.set_other (k:=k') (j:=k) (η.b k) (η.c k) hk1
 have h2:Ent.sat (c.dom (upd (upd h k none) k' (some y)) (η.set k' (η.b k) (η.c k))) w (η.set k' (η.b k) (η.c k)) (.own (.sl k' es off len)) (a.tmps.getD t undef):=by
  obtain ⟨A,e1,e2,e3⟩:=h1
  rw [hc] at e1 e2 e3;rw [hb] at e3
  exact ⟨A,by rw [Env.set_c];exact e1,by rw [Env.set_c];exact e2,by rw [Env.set_c,Env.set_b];exact e3⟩
 have s3:=s2.put (s2.slot t _ hs).1 h2 fun j hj=>by
  simp only [Ent.supp,VP.supp,List.mem_singleton] at hj
  subst hj;simp
 have ea:a.put (some t) (a.tmps.getD t undef)=a:=by
  have hlt:t < a.tmps.size:=by rw [s.tn];exact (s.slot t _ hs).1
  have:a.tmps.setIfInBounds t (a.tmps.getD t undef)=a.tmps:=by
   apply Array.ext_getElem?
   intro i
   rw [Array.getElem?_setIfInBounds]
   by_cases hi:t=i
   ·subst hi;simp [hlt]
   ·simp [hi]
  simp only [Act.put,this]
 rw [ea] at s3
 exact H a w ⟨_,s3⟩
end An
namespace An.S
open Go Go.Proofs An
instance fi37:FnI Tryz.prog 37:=⟨_,Tryz.func37,by kernel_rfl,rfl⟩
instance fi59:FnI Tryz.prog 59:=⟨_,Tryz.func59,by kernel_rfl,rfl⟩
instance fi142:FnI Tryz.prog 142:=⟨_,Tryz.func142,by kernel_rfl,rfl⟩
instance fi143:FnI Tryz.prog 143:=⟨_,Tryz.func143,by kernel_rfl,rfl⟩
theorem el77:ElI Tryz.prog 77 8 96 true (.agg #[.int .i64 0,.int .i64 0,.int .u8 0,.bool false,.slice none 0 0,.bool false,.slice none 0 0,.int .i64 0]):=⟨ti77,by kernel_rfl,by kernel_rfl⟩
theorem bu77:BuI Tryz.prog 77 (fun i=>[(0,1),(1,1),(2,6)][i]?) (.agg #[.int .i64 0,.int .i64 0,.int .u8 0,.bool false,.slice none 0 0,.bool false,.slice none 0 0,.int .i64 0]):=BuI.struct Tryz.underlying77 (by kernel_rfl) (by kernel_rfl)
theorem zf77:Flat 8 true (.agg #[.int .i64 0,.int .i64 0,.int .u8 0,.bool false,.slice none 0 0,.bool false,.slice none 0 0,.int .i64 0]):=xm0 (by intro u hu;simp at hu;rcases hu with rfl | rfl | rfl | rfl | rfl | rfl | rfl | rfl <;> rfl)
def sOkA (l:List Sn) (i:Nat):Bool:=(l.getD i sn0).ok && decide ((l.getD i sn0).lo≠(l.getD i sn0).hi) && (decide (i=0) || decide ((l.getD (i - 1) sn0).hi < (l.getD i sn0).lo))
def sVal (l:List Sn):Bool:=(List.range l.length).all (sOkA l)
theorem xq8 {l:List Sn} {i:Nat}:sOkA l i=true↔(l.getD i sn0).ok=true∧(l.getD i sn0).lo≠(l.getD i sn0).hi∧(i=0∨(l.getD (i - 1) sn0).hi < (l.getD i sn0).lo):=by
 simp only [sOkA,Bool.and_eq_true,Bool.or_eq_true,decide_eq_true_eq,and_assoc]
theorem xr3 {l:List Sn} {i:Nat} (h:sVal l=true) (hi:i < l.length):0≤(l.getD i sn0).lo∧(l.getD i sn0).lo < (l.getD i sn0).hi∧(l.getD i sn0).hi≤65536:=by
 have h1:=xq8.1 (List.all_eq_true.1 h i (List.mem_range.2 hi))
 simp only [Sn.ok,Bool.and_eq_true,decide_eq_true_eq] at h1
 omega
theorem c_paste (zs ps:List Tst) (hz:zs.length≤1000000) (hp:ps.length≤1000000) (hD: ∀s∈ps,s.v.f.n.l.length≤1000000∧s.v.f.d.l.length≤1000000):
  CtG Tryz.prog 143 [(1,⟨77,8,true,rV tTs zs⟩)] [.own (.sl 1 8 0 zs.length),.val (tL 8 true tTs ps)] (.own (.sl 90 8 0 (pst zs ps).length)) [(90,⟨77,8,true,rV tTs (pst zs ps)⟩)] [90]:=by
 refine CtG.intro [1] Tryz.func143 rfl Tryz.ntmps143 rfl rfl ⟨⟨rfl,xa2⟩,trivial⟩ ?_
 intro w F η
 refine C_renS (t:=0) (k:=1) 90 rfl rfl rfl ?_
 refine A14 ?_
 refine cL (fun (fm:(Nat)×(List Tst))=>(fun (i:Nat) (xs:List Tst)=>i≤ps.length∧xs=pst zs (ps.take i)) fm.1 fm.2) (fun (fm:(Nat)×(List Tst))=>(fun (i:Nat) (xs:List Tst)=>upd (upd (upd (upd (fun _=>none) 0 (some (.own (.sl 90 8 0 xs.length)))) 8 (some (.val (tL 8 true tTs ps)))) 9 (some (.val (tI ps.length)))) 10 (some (.val (tI i)))) fm.1 fm.2) (fun (fm:(Nat)×(List Tst))=>(fun (i:Nat) (xs:List Tst)=>upd (fun _=>none) 90 (some (⟨77,8,true,rV tTs xs⟩))) fm.1 fm.2) [90,1] (fun (fm:(Nat)×(List Tst))=>(fun (i:Nat) (xs:List Tst)=>ps.length - i) fm.1 fm.2) ((0,zs)) (by dsimp only;exact ⟨Nat.zero_le _,rfl⟩) (hh:=((SubK.consI rfl ImpK.refl) SubK.nil)) ?_
 intro fm hI
 obtain ⟨i,xs⟩:=fm
 replace hI:i≤ps.length∧xs=pst zs (ps.take i):=hI
 show wc _ _ _ _ (upd (upd (upd (upd (fun _=>none) 0 (some (.own (.sl 90 8 0 xs.length)))) 8 (some (.val (tL 8 true tTs ps)))) 9 (some (.val (tI ps.length)))) 10 (some (.val (tI i)))) (upd (fun _=>none) 90 (some (⟨77,8,true,rV tTs xs⟩))) _
 obtain ⟨hi,hx⟩:=hI
 have hxl:xs.length≤zs.length+i:=by
  have h:=pst_len (ps.take i) zs
  rw [←hx,List.length_take] at h;omega
 refine A6 ?_
 refine x9 rfl (fun h68=> ?_) (fun h68=> ?_)
 ·
  refine A6 ?_
  refine R2 (x5 sl37 (i) (by omega) (gD (l:=ps) (n:=i) (d:=tst0) (by omega))) rfl rfl ?_
  refine A1 ?_
  refine RE (x6 (k:=6) (n:=8) (agg:=true) zr77.1 zr77.2 rfl) trivial trivial ⟨rfl,trivial⟩ ?_
  refine A13 ?_
  refine x9 rfl (fun h69=> ?_) (fun h69=> ?_)
  ·
   refine A8 ?_
   exact kF ((i+1,xs)) ⟨(by dsimp only;exact ⟨by omega,by rw [xq6 _ (by omega),←hx,pst1,if_pos (by omega)]⟩),(by dsimp only;omega)⟩ (hh:=((SubK.consI rfl ImpK.refl) SubK.nil))
  ·
   refine A14 ?_
   refine RGcaseD (t:=23) rfl (fun h72=> ?_) (fun h72=> ?_)
   ·
    refine A2 ?_
    refine RGon (decide_eq_true h72) rfl (xe1 (wr64 (by omega) (by omega))) rfl ⟨rfl,rfl,trivial⟩ trivial trivial (RGon (decide_eq_true h72) rfl (xa1 sl37 (by omega) (by omega) rfl) rfl ⟨rfl,rfl,trivial⟩ trivial trivial ?_)
    refine A1 ?_
    refine RGon (decide_eq_true h72) rfl (xj1 (es:=8) (o:=1) (xs.length - 1) ti3 (xb8 (d:=tst0) (by omega)) (At.g 1 rfl rfl) (by omega)) rfl ⟨rfl,trivial⟩ ⟨rfl,trivial⟩ trivial ?_
    refine A5 ?_
    refine RGcaseD (t:=34) rfl (fun h72_2=> ?_) (fun h72_2=> ?_)
    ·
     refine A2 ?_
     refine RGon (decide_eq_true h72_2) rfl (xe1 (wr64 (by omega) (by omega))) rfl ⟨rfl,rfl,trivial⟩ trivial trivial (RGon (decide_eq_true h72_2) rfl (xa1 sl37 (by omega) (by omega) rfl) rfl ⟨rfl,rfl,trivial⟩ trivial trivial ?_)
     refine A1 ?_
     refine RGon (decide_eq_true h72_2) rfl (xj1 (es:=8) (o:=2) (xs.length - 1) ti57 (xb8 (d:=tst0) (by omega)) (At.g 2 rfl rfl) (by omega)) rfl ⟨rfl,trivial⟩ ⟨rfl,trivial⟩ trivial ?_
     refine A2 ?_
     refine RGon (decide_eq_true h72_2) rfl (x3 (c_TSame _ _) fi74 rfl) rfl ⟨rfl,rfl,trivial⟩ trivial trivial ?_
     refine A3 ?_
     refine x9 rfl (fun h72_3=> ?_) (fun h72_3=> ?_)
     ·
      refine A6 ?_
      refine R2 (xa1 sl37 (by omega) (by omega) rfl) rfl rfl ?_
      refine A1 ?_
      refine RE (xo9 (es:=8) (o:=1) (t2:=tTs ⟨(xs.getD (xs.length - 1) tst0).lo,(ps.getD i tst0).hi,(xs.getD (xs.length - 1) tst0).v⟩) (xs.length - 1) ti3 (xb8 (d:=tst0) (by omega)) (Up.g 1 rfl rfl rfl) (by omega) (xh3 rfl)) ⟨rfl,rfl,trivial⟩ ⟨rfl,trivial⟩ trivial ?_
      refine A7 ?_
      exact kF ((i+1,(xs.set (xs.length - 1) ⟨(xs.getD (xs.length - 1) tst0).lo,(ps.getD i tst0).hi,(xs.getD (xs.length - 1) tst0).v⟩))) ⟨(by dsimp only;exact ⟨by omega,by rw [xq6 _ (by omega),←hx,pst1,if_neg (by omega),if_pos ⟨by omega,by omega,h72_3⟩]⟩),(by dsimp only;omega)⟩ (hg:=(sI (sI (sC ((Sub.consI rfl (Imp.of (by dsimp only;rw [List.length_set]))) Sub.nil))))) (hh:=((SubK.consI rfl ImpK.refl) SubK.nil))
     ·
      refine A8 ?_
      refine R1 (x3 (c_copied _ (hD _ (xd7 (l:=ps) (by omega))).1 (hD _ (xd7 (l:=ps) (by omega))).2) fi59 rfl) rfl (R3 (xa6 (r:=tS [⟨1,false,tI (ps.getD i tst0).lo⟩,⟨1,false,tI (ps.getD i tst0).hi⟩,⟨6,true,tVa (ps.getD i tst0).v⟩]) (ts:=[(0,tI (ps.getD i tst0).lo),(1,tI (ps.getD i tst0).hi),(2,tVa (ps.getD i tst0).v)]) bu77 zr77.2 (Bc 0 rfl rfl rfl (Bc 1 rfl rfl rfl (Bc 2 rfl rfl rfl Le.refl)))) rfl rfl rfl (R1 (xa8 (n:=1) (f:=tTs) [(ps.getD i tst0)] Tryz.underlying37 el77 zf77 rfl (fun _=>inferInstance) rfl rfl rfl) rfl (RE (xc5 (k:=90) (k':=62) (f:=tTs) (ys:=[(ps.getD i tst0)]) (ts':=rV tTs (xs++[(ps.getD i tst0)])) Tryz.underlying37 el77 zf77 rfl rfl (fun _=>inferInstance) xd9 (by simp;omega) (by simp;omega) (by simp [rV]) (n':=xs.length+1) rfl) ⟨rfl,rfl,trivial⟩ ⟨rfl,trivial⟩ ⟨rfl,trivial⟩ ?_)))
      refine A8 ?_
      exact xc0 (l:=[90,1]) (fun j=>cond (Nat.beq j 90) 62 (j)) ((i+1,xs++[(ps.getD i tst0)])) ⟨(by dsimp only;exact ⟨by omega,by rw [xq6 _ (by omega),←hx,pst1,if_neg (by omega),if_neg fun h=>h72_3 h.2.2]⟩),(by dsimp only;omega)⟩ (SubR.int rfl (by first | omega | rfl | (dsimp only;omega)) (SubR.int rfl (by first | omega | rfl | (dsimp only;omega)) (SubR.cons rfl ((SubR.consI rfl (Imp.of (by dsimp only;rw [List.length_append];rfl))) SubR.nil)))) ((SubKR.consI rfl (ImpK.of xa3.symm)) SubKR.nil) (SupG.val (SupG.val (SupG.val (SupG.own rfl SupG.nil)))) (SupH.cons rfl (supJ xa2) SupH.nil) (lkOk rfl) rfl rfl (fun _ h=>by cases h)
    ·
     refine A18 ?_
     refine A3 ?_
     refine R1 (x3 (c_copied _ (hD _ (xd7 (l:=ps) (by omega))).1 (hD _ (xd7 (l:=ps) (by omega))).2) fi59 rfl) rfl (R3 (xa6 (r:=tS [⟨1,false,tI (ps.getD i tst0).lo⟩,⟨1,false,tI (ps.getD i tst0).hi⟩,⟨6,true,tVa (ps.getD i tst0).v⟩]) (ts:=[(0,tI (ps.getD i tst0).lo),(1,tI (ps.getD i tst0).hi),(2,tVa (ps.getD i tst0).v)]) bu77 zr77.2 (Bc 0 rfl rfl rfl (Bc 1 rfl rfl rfl (Bc 2 rfl rfl rfl Le.refl)))) rfl rfl rfl (R1 (xa8 (n:=1) (f:=tTs) [(ps.getD i tst0)] Tryz.underlying37 el77 zf77 rfl (fun _=>inferInstance) rfl rfl rfl) rfl (RE (xc5 (k:=90) (k':=62) (f:=tTs) (ys:=[(ps.getD i tst0)]) (ts':=rV tTs (xs++[(ps.getD i tst0)])) Tryz.underlying37 el77 zf77 rfl rfl (fun _=>inferInstance) xd9 (by simp;omega) (by simp;omega) (by simp [rV]) (n':=xs.length+1) rfl) ⟨rfl,rfl,trivial⟩ ⟨rfl,trivial⟩ ⟨rfl,trivial⟩ ?_)))
     refine A8 ?_
     exact xc0 (l:=[90,1]) (fun j=>cond (Nat.beq j 90) 62 (j)) ((i+1,xs++[(ps.getD i tst0)])) ⟨(by dsimp only;exact ⟨by omega,by rw [xq6 _ (by omega),←hx,pst1,if_neg (by omega),if_neg (by omega)]⟩),(by dsimp only;omega)⟩ (SubR.int rfl (by first | omega | rfl | (dsimp only;omega)) (SubR.int rfl (by first | omega | rfl | (dsimp only;omega)) (SubR.cons rfl ((SubR.consI rfl (Imp.of (by dsimp only;rw [List.length_append];rfl))) SubR.nil)))) ((SubKR.consI rfl (ImpK.of xa3.symm)) SubKR.nil) (SupG.val (SupG.val (SupG.val (SupG.own rfl SupG.nil)))) (SupH.cons rfl (supJ xa2) SupH.nil) (lkOk rfl) rfl rfl (fun _ h=>by cases h)
   ·
    refine A18 ?_
    refine A14 ?_
    refine R1 (x3 (c_copied _ (hD _ (xd7 (l:=ps) (by omega))).1 (hD _ (xd7 (l:=ps) (by omega))).2) fi59 rfl) rfl (R3 (xa6 (r:=tS [⟨1,false,tI (ps.getD i tst0).lo⟩,⟨1,false,tI (ps.getD i tst0).hi⟩,⟨6,true,tVa (ps.getD i tst0).v⟩]) (ts:=[(0,tI (ps.getD i tst0).lo),(1,tI (ps.getD i tst0).hi),(2,tVa (ps.getD i tst0).v)]) bu77 zr77.2 (Bc 0 rfl rfl rfl (Bc 1 rfl rfl rfl (Bc 2 rfl rfl rfl Le.refl)))) rfl rfl rfl (R1 (xa8 (n:=1) (f:=tTs) [(ps.getD i tst0)] Tryz.underlying37 el77 zf77 rfl (fun _=>inferInstance) rfl rfl rfl) rfl (RE (xc5 (k:=90) (k':=62) (f:=tTs) (ys:=[(ps.getD i tst0)]) (ts':=rV tTs (xs++[(ps.getD i tst0)])) Tryz.underlying37 el77 zf77 rfl rfl (fun _=>inferInstance) xd9 (by simp;omega) (by simp;omega) (by simp [rV]) (n':=xs.length+1) rfl) ⟨rfl,rfl,trivial⟩ ⟨rfl,trivial⟩ ⟨rfl,trivial⟩ ?_)))
    refine A8 ?_
    exact xc0 (l:=[90,1]) (fun j=>cond (Nat.beq j 90) 62 (j)) ((i+1,xs++[(ps.getD i tst0)])) ⟨(by dsimp only;exact ⟨by omega,by rw [xq6 _ (by omega),←hx,pst1,if_neg (by omega),if_neg (by omega)]⟩),(by dsimp only;omega)⟩ (SubR.int rfl (by first | omega | rfl | (dsimp only;omega)) (SubR.int rfl (by first | omega | rfl | (dsimp only;omega)) (SubR.cons rfl ((SubR.consI rfl (Imp.of (by dsimp only;rw [List.length_append];rfl))) SubR.nil)))) ((SubKR.consI rfl (ImpK.of xa3.symm)) SubKR.nil) (SupG.val (SupG.val (SupG.val (SupG.own rfl SupG.nil)))) (SupH.cons rfl (supJ xa2) SupH.nil) (lkOk rfl) rfl rfl (fun _ h=>by cases h)
 ·
  refine A6 ?_
  have hil:i=ps.length:=by omega
  subst hil
  rw [List.take_length] at hx
  subst hx
  refine A6 ?_
  exact xb7 LentC.mk' rfl rfl Imp.refl ⟨rfl,trivial⟩ rfl ⟨⟨rfl,xa2⟩,trivial⟩ rfl
theorem getD_map {f:Tst→Tst} {l:List Tst} {i:Nat} (hi:i < l.length):(l.map f).getD i tst0=f (l.getD i tst0):=by
 rw [List.getD_eq_getElem?_getD,List.getD_eq_getElem?_getD,List.getElem?_map,List.getElem?_eq_getElem hi];rfl
theorem cut_next {a b:Int} {l:List Tst} {i:Nat} (hi:i < l.length):pst [] ((l.map (clip a b)).take (i+1))=pst (pst [] ((l.map (clip a b)).take i)) [clip a b (l.getD i tst0)]:=by
 rw [xq6 _ (by simpa using hi),getD_map hi];rfl
theorem c_Cut (l:List Tst) (a b:Int) (hl:l.length≤500000) (hD: ∀s∈l,s.v.f.dig):
  Ct Tryz.prog 86 [tL 8 true tTs l,tI a,tI b] (tT [tL 8 true tTs (if tRight l=true∧Sn.ok ⟨a,b⟩=true then cutT l a b else []),tI (if tRight l=true∧Sn.ok ⟨a,b⟩=true then 0 else 2)]):=by
 refine Ct.intro Tryz.func86 rfl Tryz.ntmps86 rfl ?_
 intro w F
 refine A10 ?_
 refine R1 (x3 (c_TRight l hD) fi37 rfl) rfl ?_
 refine A2 ?_
 refine RGcase (t:=14) rfl (fun h95=> ?_) (fun h95=> ?_)
 ·
  refine A16 ?_
  exact xe5 Plain.mk' rfl rfl rfl (leNil (by rw [if_neg fun h=>by rw [h.1] at h95;cases h95])) (Le.int (by rw [if_neg fun h=>by rw [h.1] at h95;cases h95]))
 ·
  refine A2 ?_
  refine RGon h95 rfl (x3 (c_isPart _ _) fi142 rfl) rfl ⟨rfl,rfl,trivial⟩ trivial trivial ?_
  refine A4 ?_
  refine xc1 rfl (fun h95_2=> ?_) (fun h95_2=> ?_)
  ·
   refine A8 ?_
   exact xe5 Plain.mk' rfl rfl rfl (leNil (by rw [if_neg fun h=>by rw [h.2] at h95_2;cases h95_2])) (Le.int (by rw [if_neg fun h=>by rw [h.2] at h95_2;cases h95_2]))
  ·
   refine A4 ?_
   refine RE (xe4 (k:=8) 77 8 true rfl (fun h=>by cases h)) trivial trivial ⟨rfl,trivial⟩ ?_
   refine A11 ?_
   have hok:tRight l=true∧Sn.ok ⟨a,b⟩=true:=⟨by simpa using h95,by simpa using h95_2⟩
   have hlen:=fun s hs=>va_len (tRight_valid hok.1 s hs)
   refine cL (fun (fm:(Nat)×(List Tst))=>(fun (i:Nat) (zs:List Tst)=>i≤l.length∧zs=pst [] ((l.map (clip a b)).take i)) fm.1 fm.2) (fun (fm:(Nat)×(List Tst))=>(fun (i:Nat) (zs:List Tst)=>upd (upd (upd (upd (upd (upd (fun _=>none) 1 (some (.val (tI a)))) 2 (some (.val (tI b)))) 8 (some (.own (.sl 8 8 0 zs.length)))) 20 (some (.val (tL 8 true tTs l)))) 21 (some (.val (tI l.length)))) 22 (some (.val (tI i)))) fm.1 fm.2) (fun (fm:(Nat)×(List Tst))=>(fun (i:Nat) (zs:List Tst)=>upd (fun _=>none) 8 (some (⟨77,8,true,rV tTs zs⟩))) fm.1 fm.2) [8] (fun (fm:(Nat)×(List Tst))=>(fun (i:Nat) (zs:List Tst)=>l.length - i) fm.1 fm.2) ((0,[])) (by dsimp only;exact ⟨Nat.zero_le _,rfl⟩) (hh:=((SubK.consI rfl ImpK.refl) SubK.nil)) ?_
   intro fm hI
   obtain ⟨i,zs⟩:=fm
   replace hI:i≤l.length∧zs=pst [] ((l.map (clip a b)).take i):=hI
   show wc _ _ _ _ (upd (upd (upd (upd (upd (upd (fun _=>none) 1 (some (.val (tI a)))) 2 (some (.val (tI b)))) 8 (some (.own (.sl 8 8 0 zs.length)))) 20 (some (.val (tL 8 true tTs l)))) 21 (some (.val (tI l.length)))) 22 (some (.val (tI i)))) (upd (fun _=>none) 8 (some (⟨77,8,true,rV tTs zs⟩))) _
   obtain ⟨hi,hz⟩:=hI
   have hzl:zs.length≤i:=by
    have h:=pst_len ((l.map (clip a b)).take i) []
    rw [←hz,List.length_take] at h;simp at h;omega
   refine A6 ?_
   refine x9 rfl (fun h99=> ?_) (fun h99=> ?_)
   ·
    refine A6 ?_
    refine R2 (x5 sl37 (i) (by omega) (gD (l:=l) (n:=i) (d:=tst0) (by omega))) rfl rfl ?_
    refine A1 ?_
    refine RE (x6 (k:=10) (n:=8) (agg:=true) zr77.1 zr77.2 rfl) trivial trivial ⟨rfl,trivial⟩ ?_
    refine A8 ?_
    refine R2 d_max2 rfl rfl ?_
    refine A3 ?_
    refine R2 d_min2 rfl rfl ?_
    refine A2 ?_
    refine R3 (xa6 (r:=tS [⟨1,false,tI (max (l.getD i tst0).lo a)⟩,⟨1,false,tI (min (l.getD i tst0).hi b)⟩,⟨6,true,tVa (l.getD i tst0).v⟩]) (ts:=[(0,tI (max (l.getD i tst0).lo a)),(1,tI (min (l.getD i tst0).hi b)),(2,tVa (l.getD i tst0).v)]) bu77 zr77.2 (Bc 0 rfl rfl rfl (Bc 1 rfl rfl rfl (Bc 2 rfl rfl rfl Le.refl)))) rfl rfl rfl (R1 (xa8 (n:=1) (f:=tTs) [(clip a b (l.getD i tst0))] Tryz.underlying37 el77 zf77 rfl (fun _=>inferInstance) rfl rfl rfl) rfl ?_)
    have hcl: ∀s∈[(clip a b (l.getD i tst0))],s.v.f.n.l.length≤1000000∧s.v.f.d.l.length≤1000000:=by
     intro s hs
     rw [List.mem_singleton.1 hs]
     have h:=hlen _ (xd7 (l:=l) (i:=i) (by omega))
     exact ⟨by show (l.getD i tst0).v.f.n.l.length≤_;omega,by show (l.getD i tst0).v.f.d.l.length≤_;omega⟩
    refine RE (xb1 (fun j=>cond (Nat.beq j 1) 8 (39)) (c_paste zs [(clip a b (l.getD i tst0))] (by omega) (by simp) hcl) fi143 rfl (krC (ρ:=fun j=>cond (Nat.beq j 1) 8 (39)) (k:=1) xa3 (krN (ρ:=fun j=>cond (Nat.beq j 1) 8 (39)))) (krC (ρ:=fun j=>cond (Nat.beq j 1) 8 (39)) (k:=90) xa3 (krN (ρ:=fun j=>cond (Nat.beq j 1) 8 (39)))) ⟨⟨rfl,xa2⟩,trivial⟩ rfl) ⟨rfl,rfl,trivial⟩ ⟨rfl,trivial⟩ ⟨rfl,trivial⟩ ?_
    refine A8 ?_
    exact xc0 (l:=[8]) (fun j=>cond (Nat.beq j 8) 39 (j)) ((i+1,pst zs [(clip a b (l.getD i tst0))])) ⟨(by dsimp only;exact ⟨by omega,by rw [cut_next (by omega),←hz]⟩),(by dsimp only;omega)⟩ (SubR.int rfl (by first | omega | rfl | (dsimp only;omega)) (SubR.int rfl (by first | omega | rfl | (dsimp only;omega)) (SubR.cons rfl (SubR.cons rfl (SubR.int rfl (by first | omega | rfl | (dsimp only;omega)) (SubR.int rfl (by first | omega | rfl | (dsimp only;omega)) SubR.nil)))))) ((SubKR.consI rfl (ImpK.of xa3.symm)) SubKR.nil) (SupG.val (SupG.val (SupG.val (SupG.own rfl (SupG.val (SupG.val SupG.nil)))))) (SupH.cons rfl (supJ xa2) SupH.nil) (lkOk rfl) rfl rfl (fun _ h=>by cases h)
   ·
    refine A8 ?_
    refine RE (xj4 (f:=tTs) (xs:=zs) (fun _ h=>h) (xf7 rfl) rfl) ⟨rfl,trivial⟩ ⟨rfl,trivial⟩ trivial ?_
    refine A4 ?_
    exact xe5 Plain.mk' rfl rfl rfl (Le.of (by rw [if_pos hok,hz,cutT,show i=(l.map (clip a b)).length by simp;omega,List.take_length])) (Le.int (by rw [if_pos hok]))
end An.S
namespace An
open Go
theorem pst_all {P:Tst→Prop} (hset: ∀a s,P a→P s→a.hi=s.lo→P ⟨a.lo,s.hi,a.v⟩): ∀(ps acc:List Tst),(∀s∈acc,P s)→(∀s∈ps,s.lo < s.hi→P s)→ ∀s∈pst acc ps,P s
 | [],acc,ha,_=>ha
 | s::r,acc,ha,hp=>by
  refine pst_all hset r (pst1 acc s) ?_ fun x hx=>hp x (List.mem_cons_of_mem _ hx)
  intro x hx
  rw [pst1] at hx
  split at hx
  ·exact ha x hx
  ·rename_i h1
   split at hx
   ·rename_i h2
    rcases List.mem_or_eq_of_mem_set hx with h | h
    ·exact ha x h
    ·subst h
     exact hset _ s (ha _ (xd7 (by omega))) (hp s (List.mem_cons_self ..) (by omega)) h2.2.1
   ·rcases List.mem_append.1 hx with h | h
    ·exact ha x h
    ·rw [List.mem_singleton.1 h];exact hp s (List.mem_cons_self ..) (by omega)
theorem xm6 {l:List Tst} (h:tRight l=true) {i:Nat} (hi:i < l.length):0≤(l.getD i tst0).lo∧(l.getD i tst0).lo < (l.getD i tst0).hi∧(l.getD i tst0).hi≤65536∧(i=0∨(l.getD (i - 1) tst0).hi≤(l.getD i tst0).lo∧(l.getD (i - 1) tst0).v.kind=(l.getD i tst0).v.kind∧ ¬((l.getD (i - 1) tst0).hi=(l.getD i tst0).lo∧(l.getD (i - 1) tst0).v=(l.getD i tst0).v)):=by
 simp only [tRight,Bool.and_eq_true,List.all_eq_true] at h
 exact tOk_iff.1 (h.1 i (List.mem_range.2 hi))
theorem xk7 {l:List Tst} {s:Tst} (hs:s∈l): ∃i,i < l.length∧s=l.getD i tst0:=by
 obtain ⟨i,hi,e⟩:=List.getElem_of_mem hs
 exact ⟨i,hi,by rw [List.getD_eq_getElem?_getD,List.getElem?_eq_getElem hi];exact e.symm⟩
def numK (l:List Tst):Prop:=l.length=0∨(l.getD 0 tst0).v.kind=2∨(l.getD 0 tst0).v.kind=3
instance (l:List Tst):Decidable (numK l):=inferInstanceAs (Decidable (_∨_))
def sumC (l:List Tst) (a b:Int):Prop:=(tRight l=true∧Sn.ok ⟨a,b⟩=true)∧numK l
instance (l:List Tst) (a b:Int):Decidable (sumC l a b):=inferInstanceAs (Decidable (_∧_))
end An
namespace An.S
open Go Go.Proofs An
end An.S
namespace An.S
open Go
theorem tRight_iff {l:List Tst}:tRight l=true↔(∀i,i < l.length→tOk l i=true)∧ ∀s∈l,s.v.valid=true:=by
 simp only [tRight,Bool.and_eq_true,List.all_eq_true,List.mem_range]
theorem tRight_lt {l:List Tst} (h:tRight l=true): ∀{j i:Nat},i < j→j < l.length→(l.getD i tst0).hi≤(l.getD j tst0).lo
 | j+1,i,hij,hj=>by
  have h1:=(xm6 h hj).2.2.2.resolve_left (by omega)
  have h1:(l.getD j tst0).hi≤(l.getD (j+1) tst0).lo:=h1.1
  rcases Nat.lt_or_ge i j with h2 | h2
  ·have h3:=tRight_lt h h2 (by omega)
   have h4:=(xm6 h (i:=j) (by omega)).2.1
   omega
  ·have:i=j:=by omega
   subst this;exact h1
theorem tRight_pair {l:List Tst} (h:tRight l=true):l.Pairwise fun s t=>s.hi≤t.lo:=by
 refine List.pairwise_iff_getElem.2 fun i j hi hj hij=> ?_
 have:=tRight_lt h hij hj
 rwa [List.getD_eq_getElem?_getD,List.getD_eq_getElem?_getD,List.getElem?_eq_getElem hi,List.getElem?_eq_getElem hj] at this
def okS (s:Sn):Prop:=0≤s.lo∧s.lo < s.hi∧s.hi≤65536
def ascS (l:List Sn):Prop:=(∀s∈l,okS s)∧l.Pairwise fun s t=>s.hi≤t.lo
theorem ascS_pos {l:List Sn} (h:ascS l):l.filter pos=l:=List.filter_eq_self.2 fun s hs=>by
 have:=h.1 s hs
 simp only [pos,decide_eq_true_eq];exact this.2.1
theorem ascS_srt {l:List Sn} (h:ascS l):srt cfSn l=l:=by
 refine srt_asc swoSn ?_
 refine List.pairwise_iff_forall_sublist.2 fun {s t} hst=> ?_
 have h1:=List.pairwise_iff_forall_sublist.1 h.2 hst
 have h2:=(h.1 s (hst.subset (List.mem_cons_self ..))).2.1
 rw [ltSn];simp;omega
theorem ascS_ok {l:List Sn} (h:ascS l):l.all Sn.ok=true:=List.all_eq_true.2 fun s hs=>by
 have:=h.1 s hs
 simp only [Sn.ok,Bool.and_eq_true,decide_eq_true_eq];simp only [okS] at this;omega
def lastS (l:List Sn):Sn:=l.getD (l.length - 1) sn0
theorem sVal_iff {l:List Sn}:sVal l=true↔ ∀i,i < l.length→sOkA l i=true:=by
 simp only [sVal,List.all_eq_true,List.mem_range]
theorem xt4 {l:List Sn} {s:Sn} {i:Nat}:(l++[s]).getD i sn0=if i < l.length then l.getD i sn0 else if i=l.length then s else sn0:=by
 simp only [List.getD_eq_getElem?_getD,List.getElem?_append]
 by_cases h:i < l.length
 ·simp [h]
 ·by_cases h2:i=l.length
  ·simp [h2]
  ·have:i - l.length≠0:=by omega
   simp only [h,h2,if_false]
   rw [List.getElem?_eq_none (by simp;omega)];rfl
theorem getD_setS {l:List Sn} {s:Sn} {i j:Nat} (hj:j < l.length):(l.set j s).getD i sn0=if i=j then s else l.getD i sn0:=by
 simp only [List.getD_eq_getElem?_getD]
 by_cases h:i=j
 ·subst h;rw [List.getElem?_set_self hj];simp
 ·rw [List.getElem?_set_ne (Ne.symm h)];simp [h]
theorem sVal_snoc {l:List Sn} {s:Sn} (h:sVal l=true) (hs:okS s) (hl:0 < l.length→(lastS l).hi < s.lo):sVal (l++[s])=true:=by
 refine sVal_iff.2 fun i hi=>xq8.2 ?_
 rw [List.length_append,List.length_singleton] at hi
 rw [xt4,xt4]
 by_cases e:i < l.length
 ·have ho:=xq8.1 (sVal_iff.1 h i e)
  rw [if_pos e,if_pos (by omega)];exact ho
 ·have e2:i=l.length:=by omega
  subst e2
  rw [if_neg (by omega),if_pos rfl]
  obtain ⟨h1,h2,h3⟩:=hs
  refine ⟨by simp [Sn.ok];omega,by omega,?_⟩
  by_cases e0:l.length=0
  ·exact .inl e0
  ·rw [if_pos (by omega)];exact .inr (hl (by omega))
theorem sVal_long {l:List Sn} {e:Int} (h:sVal l=true) (hl:0 < l.length) (h1:(lastS l).hi≤e) (h2:e≤65536):sVal (l.set (l.length - 1) ⟨(lastS l).lo,e⟩)=true:=by
 refine sVal_iff.2 fun i hi=>xq8.2 ?_
 rw [List.length_set] at hi
 have ho:=xq8.1 (sVal_iff.1 h i hi)
 rw [getD_setS (by omega),getD_setS (by omega)]
 by_cases e1:i=l.length - 1
 ·subst e1
  have ho1:(lastS l).ok=true∧(lastS l).lo≠(lastS l).hi∧(l.length - 1=0∨(l.getD (l.length - 1 - 1) sn0).hi < (lastS l).lo):=ho
  rw [if_pos rfl]
  have h3:=ho1.1
  simp only [Sn.ok,Bool.and_eq_true,decide_eq_true_eq] at h3
  refine ⟨by simp [Sn.ok];omega,by have:=ho1.2.1;dsimp only;omega,?_⟩
  by_cases e0:l.length - 1=0
  ·exact .inl e0
  ·rw [if_neg (by omega)];exact .inr (ho1.2.2.resolve_left e0)
 ·rw [if_neg e1]
  by_cases e0:i=0
  ·exact ⟨ho.1,ho.2.1,.inl e0⟩
  ·rw [if_neg (by omega)];exact ho
def dayS (l:List Sn):Int:=(l.map fun s=>s.hi - s.lo).sum
theorem dayS_snoc {l:List Sn} {s:Sn}:dayS (l++[s])=dayS l+(s.hi - s.lo):=by simp [dayS]
theorem split_last {l:List Sn} (h:0 < l.length):l=l.take (l.length - 1)++[lastS l]:=by
 have e:l.take (l.length - 1+1)=l.take (l.length - 1)++[l[l.length - 1]]:=List.take_succ_eq_append_getElem (by omega)
 rw [show l.length - 1+1=l.length by omega,List.take_length] at e
 rw [lastS,List.getD_eq_getElem?_getD,List.getElem?_eq_getElem (by omega)];exact e
theorem set_lastE {l:List Sn} {x:Sn} (h:0 < l.length):l.set (l.length - 1) x=l.take (l.length - 1)++[x]:=by
 have e:=List.set_eq_take_append_cons_drop (l:=l) (i:=l.length - 1) (a:=x)
 rw [if_pos (by omega),show l.length - 1+1=l.length by omega,List.drop_length] at e
 exact e
theorem dayS_long {l:List Sn} {e:Int} (h:0 < l.length):dayS (l.set (l.length - 1) ⟨(lastS l).lo,e⟩)=dayS l+(e - (lastS l).hi):=by
 have h1:dayS l=dayS (l.take (l.length - 1))+((lastS l).hi - (lastS l).lo):=by rw [←dayS_snoc,←split_last h]
 rw [h1,set_lastE h,dayS_snoc];dsimp only;omega
theorem mrg_asc: ∀(xs acc:List Sn),ascS xs→sVal acc=true→(0 < acc.length→ ∀s∈xs,(lastS acc).hi≤s.lo)→sVal (xs.foldl mrg1 acc)=true∧dayS (xs.foldl mrg1 acc)=dayS acc+dayS xs
 | [],acc,_,hv,_=>⟨hv,by simp [dayS]⟩
 | s::r,acc,hx,hv,hl=>by
  have hs:=hx.1 s (List.mem_cons_self ..)
  have hp:=List.pairwise_cons.1 hx.2
  have hr:ascS r:=⟨fun t ht=>hx.1 t (List.mem_cons_of_mem _ ht),hp.2⟩
  have key:sVal (mrg1 acc s)=true∧dayS (mrg1 acc s)=dayS acc+(s.hi - s.lo)∧0 < (mrg1 acc s).length∧(lastS (mrg1 acc s)).hi=s.hi:=by
   rw [mrg1]
   split
   ·rename_i hm
    have h1:(lastS acc).hi=s.lo:=by have:=hl hm.1 s (List.mem_cons_self ..);have h2:s.lo≤(lastS acc).hi:=hm.2;omega
    have hmax:max (acc.getD (acc.length - 1) sn0).hi s.hi=s.hi:=by
     have h2:(acc.getD (acc.length - 1) sn0).hi=s.lo:=h1
     have:=hs.2.1;omega
    rw [hmax]
    refine ⟨sVal_long hv hm.1 (by have:=hs.2.1;omega) hs.2.2,by rw [show (acc.getD (acc.length - 1) sn0).lo=(lastS acc).lo from rfl,dayS_long hm.1];omega,by rw [List.length_set];exact hm.1,?_⟩
    rw [lastS,List.length_set,getD_setS (by omega),if_pos rfl]
   ·rename_i hm
    refine ⟨sVal_snoc hv hs fun h0=> ?_,by rw [dayS_snoc],by simp,?_⟩
    ·have:=hl h0 s (List.mem_cons_self ..)
     have h2: ¬s.lo≤(lastS acc).hi:=fun h'=>hm ⟨h0,h'⟩
     omega
    ·rw [lastS,xt4,List.length_append,List.length_singleton,if_neg (by omega),if_pos (by omega)]
  have ih:=mrg_asc r (mrg1 acc s) hr key.1 fun _ t ht=>by rw [key.2.2.2];exact hp.1 t ht
  refine ⟨ih.1,?_⟩
  rw [List.foldl_cons,ih.2,key.2.1]
  have:dayS (s::r)=(s.hi - s.lo)+dayS r:=by simp [dayS]
  omega
def hasD (d:Int) (s:Tst):Bool:=decide (s.lo≤d) && decide (d < s.hi)
theorem hasD_iff {d:Int} {s:Tst}:hasD d s=true↔s.lo≤d∧d < s.hi:=by simp [hasD]
def valT (l:List Tst) (d:Int):Option Va:=(l.find? (hasD d)).map (·.v)
theorem xe7 {s:Tst} {r:List Tst} {d:Int}:valT (s::r) d=if s.lo≤d∧d < s.hi then some s.v else valT r d:=by
 by_cases h:s.lo≤d∧d < s.hi
 ·rw [if_pos h,valT,List.find?_cons_of_pos (hasD_iff.2 h)];rfl
 ·rw [if_neg h,valT,List.find?_cons_of_neg (fun h'=>h (hasD_iff.1 h'))];rfl
theorem xs6 {l:List Tst} {d:Int}:valT l d=none↔ ∀s∈l,¬(s.lo≤d∧d < s.hi):=by
 rw [valT,Option.map_eq_none_iff,List.find?_eq_none]
 simp only [hasD_iff]
theorem xr6 {a b:List Tst} {d:Int}:valT (a++b) d=(valT a d).or (valT b d):=by
 rw [valT,List.find?_append,valT,valT]
 cases a.find? (hasD d) <;> rfl
theorem valT_some {l:List Tst} {d:Int} {v:Va} (h:valT l d=some v): ∃s∈l,(s.lo≤d∧d < s.hi)∧s.v=v:=by
 obtain ⟨s,h1,h2⟩:=Option.map_eq_some_iff.1 h
 exact ⟨s,List.mem_of_find?_eq_some h1,hasD_iff.1 (List.find?_some h1),h2⟩
def ascT (l:List Tst):Prop:=(∀s∈l,s.lo < s.hi)∧l.Pairwise fun s t=>s.hi≤t.lo
def nbT:List Tst→Prop
 | []=>True
 | [_]=>True
 | s::t::r=> ¬(s.hi=t.lo∧s.v=t.v)∧nbT (t::r)
theorem nb_snoc {s:Tst}: ∀{l:List Tst} {x:Tst},nbT (l++[x])→ ¬(x.hi=s.lo∧x.v=s.v)→nbT (l++[x]++[s])
 | [],_,_,h=>⟨h,trivial⟩
 | [_],_,h1,h=>⟨h1.1,h,trivial⟩
 | _::z::r,_,h1,h=>⟨h1.1,nb_snoc (l:=z::r) h1.2 h⟩
theorem nb_set {x':Tst}: ∀{l:List Tst} {x:Tst},nbT (l++[x])→x'.lo=x.lo→x'.v=x.v→nbT (l++[x'])
 | [],_,_,_,_=>trivial
 | [_],_,h1,e1,e2=>⟨by rw [e1,e2];exact h1.1,trivial⟩
 | _::z::r,_,h1,e1,e2=>⟨h1.1,nb_set (l:=z::r) h1.2 e1 e2⟩
theorem asc_snoc {l:List Tst} {s:Tst} (h:ascT l) (hs:s.lo < s.hi) (hl: ∀x∈l,x.hi≤s.lo):ascT (l++[s]):=by
 refine ⟨fun x hx=> ?_,List.pairwise_append.2 ⟨h.2,List.pairwise_singleton ..,fun x hx y hy=>by rw [List.mem_singleton.1 hy];exact hl x hx⟩⟩
 rcases List.mem_append.1 hx with hx | hx
 ·exact h.1 x hx
 ·rw [List.mem_singleton.1 hx];exact hs
theorem split_lastT {l:List Tst} (h:0 < l.length):l=l.take (l.length - 1)++[l.getD (l.length - 1) tst0]:=by
 have e:l.take (l.length - 1+1)=l.take (l.length - 1)++[l[l.length - 1]]:=List.take_succ_eq_append_getElem (by omega)
 rw [show l.length - 1+1=l.length by omega,List.take_length] at e
 rw [List.getD_eq_getElem?_getD,List.getElem?_eq_getElem (by omega)];exact e
theorem set_lastT {l:List Tst} {x:Tst} (h:0 < l.length):l.set (l.length - 1) x=l.take (l.length - 1)++[x]:=by
 have e:=List.set_eq_take_append_cons_drop (l:=l) (i:=l.length - 1) (a:=x)
 rw [if_pos (by omega),show l.length - 1+1=l.length by omega,List.drop_length] at e
 exact e
theorem pst1_val {acc:List Tst} {s:Tst} (h:ascT acc) (hn:nbT acc) (hs:s.lo < s.hi) (hl: ∀x∈acc,x.hi≤s.lo):ascT (pst1 acc s)∧nbT (pst1 acc s)∧(∀x∈pst1 acc s,x.hi≤s.hi)∧ ∀d,valT (pst1 acc s) d=(valT acc d).or (if s.lo≤d∧d < s.hi then some s.v else none):=by
 have e1: ∀d,valT [s] d=if s.lo≤d∧d < s.hi then some s.v else none:=fun d=>by rw [xe7];rfl
 rw [pst1,if_neg (by omega)]
 split
 ·rename_i hm
  have ea:=split_lastT hm.1
  rw [set_lastT hm.1]
  generalize acc.getD (acc.length - 1) tst0=x at*
  generalize acc.take (acc.length - 1)=q at*
  subst ea
  have hp:=List.pairwise_append.1 h.2
  have hx:=h.1 x (List.mem_append_right _ (List.mem_singleton.2 rfl))
  have hq:ascT q:=⟨fun y hy=>h.1 y (List.mem_append_left _ hy),hp.1⟩
  have hqx: ∀y∈q,y.hi≤x.lo:=fun y hy=>hp.2.2 y hy x (List.mem_singleton.2 rfl)
  refine ⟨asc_snoc hq (by dsimp only;omega) hqx,nb_set hn rfl rfl,fun y hy=> ?_,fun d=> ?_⟩
  ·rcases List.mem_append.1 hy with hy | hy
   ·have:=hqx y hy;omega
   ·rw [List.mem_singleton.1 hy];exact Int.le_refl _
  ·rw [xr6,xr6,xe7,xe7]
   cases hv:valT q d with
   | some v=>rfl
   | none=>
    simp only [Option.none_or]
    have h1:=hm.2.1
    by_cases c1:x.lo≤d∧d < x.hi
    ·rw [if_pos (by omega),if_pos c1];rfl
    ·by_cases c2:s.lo≤d∧d < s.hi
     ·rw [if_pos (by omega),if_neg c1,if_pos c2,hm.2.2];rfl
     ·rw [if_neg (by omega),if_neg c1,if_neg c2];rfl
 ·rename_i hm
  refine ⟨asc_snoc h hs hl,?_,fun y hy=> ?_,fun d=>by rw [xr6,e1]⟩
  ·rcases Nat.eq_zero_or_pos acc.length with h0 | h0
   ·rw [List.eq_nil_of_length_eq_zero h0];trivial
   ·have ea:=split_lastT h0
    have h2: ¬((acc.getD (acc.length - 1) tst0).hi=s.lo∧(acc.getD (acc.length - 1) tst0).v=s.v):=fun h'=>hm ⟨h0,h'.1,h'.2⟩
    rw [ea] at hn ⊢
    exact nb_snoc hn h2
  ·rcases List.mem_append.1 hy with hy | hy
   ·have:=hl y hy;omega
   ·rw [List.mem_singleton.1 hy];exact Int.le_refl _
theorem pst_val: ∀(ps acc:List Tst),ascT acc→nbT acc→(ps.Pairwise fun s t=>s.lo < s.hi→s.hi≤t.lo)→(∀x∈acc,∀s∈ps,s.lo < s.hi→x.hi≤s.lo)→ascT (pst acc ps)∧nbT (pst acc ps)∧ ∀d,valT (pst acc ps) d=(valT acc d).or (valT ps d)
 | [],acc,h,hn,_,_=>⟨h,hn,fun d=>by show valT acc d=_;cases valT acc d <;> rfl⟩
 | s::r,acc,h,hn,hp,hl=>by
  have hp1:=List.pairwise_cons.1 hp
  have e:pst acc (s::r)=pst (pst1 acc s) r:=rfl
  rw [e]
  by_cases hs:s.lo < s.hi
  ·obtain ⟨k1,k2,k3,k4⟩:=pst1_val h hn hs fun x hx=>hl x hx s (List.mem_cons_self ..) hs
   have ih:=pst_val r (pst1 acc s) k1 k2 hp1.2 fun x hx t ht htl=>by
    have:=k3 x hx
    have:=hp1.1 t ht hs;omega
   refine ⟨ih.1,ih.2.1,fun d=> ?_⟩
   rw [ih.2.2,k4,xe7,Option.or_assoc]
   congr 1
   split <;> rfl
  ·have e1:pst1 acc s=acc:=by rw [pst1,if_pos (by omega)]
   rw [e1]
   have ih:=pst_val r acc h hn hp1.2 fun x hx t ht=>hl x hx t (List.mem_cons_of_mem _ ht)
   refine ⟨ih.1,ih.2.1,fun d=> ?_⟩
   rw [ih.2.2,xe7,if_neg (by omega)]
def segL (g:Int→Option Va):List Int→List Tst
 | x::y::r=>(match g x with | some v=>[⟨x,y,v⟩] | none=>[])++segL g (y::r)
 | _=>[]
def cOn (g:Int→Option Va):List Int→Prop
 | x::y::r=>(∀d,x≤d→d < y→g d=g x)∧cOn g (y::r)
 | _=>True
theorem segL_lo {g:Int→Option Va}: ∀{ds:List Int} {x:Int} {s:Tst},(x::ds).Pairwise (· < ·)→s∈segL g (x::ds)→x≤s.lo
 | [],x,s,_,h=>by cases h
 | y::r,x,s,hp,h=>by
  have hp1:=List.pairwise_cons.1 hp
  rw [segL] at h
  rcases List.mem_append.1 h with h | h
  ·cases hg:g x with
   | none=>rw [hg] at h;cases h
   | some v=>rw [hg] at h;rw [List.mem_singleton.1 h];exact Int.le_refl _
  ·have:=segL_lo hp1.2 h
   have:=hp1.1 y (List.mem_cons_self ..);omega
theorem segL_pw {g:Int→Option Va}: ∀{ds:List Int},ds.Pairwise (· < ·)→(∀s∈segL g ds,s.lo < s.hi)∧(segL g ds).Pairwise fun s t=>s.hi≤t.lo
 | [],_=>⟨fun s h=>(by cases h),.nil⟩
 | [x],_=>⟨fun s h=>(by cases h),.nil⟩
 | x::y::r,hp=>by
  have hp1:=List.pairwise_cons.1 hp
  have hxy:=hp1.1 y (List.mem_cons_self ..)
  have ih:=segL_pw (g:=g) hp1.2
  rw [segL]
  cases hg:g x with
  | none=>exact ih
  | some v=>
   refine ⟨fun s h=> ?_,List.pairwise_cons.2 ⟨fun t ht=>segL_lo hp1.2 ht,ih.2⟩⟩
   rcases List.mem_cons.1 h with rfl | h
   ·exact hxy
   ·exact ih.1 s h
theorem segL_val {g:Int→Option Va}: ∀{ds:List Int},ds.Pairwise (· < ·)→cOn g ds→(∀d,(∃x∈ds,x≤d)→(∃y∈ds,d < y)→valT (segL g ds) d=g d)∧ ∀d,((∀x∈ds,d < x)∨ ∀y∈ds,y≤d)→valT (segL g ds) d=none
 | [],_,_=>⟨fun d ⟨x,hx,_⟩=>(by cases hx),fun d _=>rfl⟩
 | [x],_,_=>⟨fun d ⟨a,ha,ha2⟩ ⟨b,hb,hb2⟩=>by rw [List.mem_singleton.1 ha] at ha2;rw [List.mem_singleton.1 hb] at hb2;omega,fun d _=>rfl⟩
 | x::y::r,hp,hc=>by
  have hp1:=List.pairwise_cons.1 hp
  have hp2:=List.pairwise_cons.1 hp1.2
  have hxy:=hp1.1 y (List.mem_cons_self ..)
  have ih:=segL_val (g:=g) hp1.2 hc.2
  have e: ∀d,valT (segL g (x::y::r)) d=if x≤d∧d < y then g x else valT (segL g (y::r)) d:=fun d=>by
   rw [segL]
   cases hg:g x with
   | none=>
    show valT (segL g (y::r)) d=_
    split
    ·rename_i h
     exact xs6.2 fun s hs h'=>by have:=segL_lo hp1.2 hs;omega
    ·rfl
   | some v=>
    show valT (⟨x,y,v⟩::segL g (y::r)) d=_
    rw [xe7]
  refine ⟨fun d h1 h2=> ?_,fun d h=> ?_⟩
  ·rw [e]
   split
   ·rename_i h;exact (hc.1 d h.1 h.2).symm
   ·rename_i h
    have hxd:x≤d:=by
     obtain ⟨z,hz,hz2⟩:=h1
     rcases List.mem_cons.1 hz with rfl | hz
     ·exact hz2
     ·have:=hp1.1 z hz;omega
    refine ih.1 d ⟨y,List.mem_cons_self ..,by omega⟩ ?_
    obtain ⟨z,hz,hz2⟩:=h2
    rcases List.mem_cons.1 hz with rfl | hz
    ·omega
    ·exact ⟨z,hz,hz2⟩
  ·rw [e,if_neg]
   ·rcases h with h | h
    ·exact ih.2 d (.inl fun z hz=>h z (List.mem_cons_of_mem _ hz))
    ·exact ih.2 d (.inr fun z hz=>h z (List.mem_cons_of_mem _ hz))
   ·rcases h with h | h
    ·have:=h x (List.mem_cons_self ..);omega
    ·have:=h y (List.mem_cons_of_mem _ (List.mem_cons_self ..));omega
theorem valT_const: ∀{l:List Tst} {x d:Int},(∀s∈l,¬(x < s.lo∧s.lo≤d)∧ ¬(x < s.hi∧s.hi≤d))→x≤d→valT l d=valT l x
 | [],_,_,_,_=>rfl
 | s::r,x,d,h,hxd=>by
  have h1:=h s (List.mem_cons_self ..)
  rw [xe7,xe7,valT_const (l:=r) (fun t ht=>h t (List.mem_cons_of_mem _ ht)) hxd]
  by_cases c:s.lo≤x∧x < s.hi
  ·rw [if_pos c,if_pos (by omega)]
  ·rw [if_neg c,if_neg (by omega)]
theorem xq9 {l:List Tst} {d:Int} (h:(∀s∈l,d < s.lo)∨ ∀s∈l,s.hi≤d):valT l d=none:=xs6.2 fun s hs h'=>by
 rcases h with h | h
 ·have:=h s hs;omega
 ·have:=h s hs;omega
def ends (ds:List Int) (l:List Tst):Prop:= ∀s∈l,s.lo∈ds∧s.hi∈ds
theorem cOn_ends {g:Int→Option Va} {a b:List Tst} (hg: ∀d x,valT a d=valT a x→valT b d=valT b x→g d=g x): ∀{pre ds:List Int},(pre++ds).Pairwise (· < ·)→ends (pre++ds) a→ends (pre++ds) b→cOn g ds
 | _,[],_,_,_=>trivial
 | _,[x],_,_,_=>trivial
 | pre,x::y::r,hp,ha,hb=>by
  have h1:=List.pairwise_append.1 hp
  have hq:=List.pairwise_cons.1 h1.2.1
  have hq2:=List.pairwise_cons.1 hq.2
  have key: ∀z∈pre++x::y::r,z≤x∨y≤z:=fun z hz=>by
   rcases List.mem_append.1 hz with hz | hz
   ·have:=h1.2.2 z hz x (List.mem_cons_self ..);omega
   ·rcases List.mem_cons.1 hz with rfl | hz
    ·omega
    ·rcases List.mem_cons.1 hz with rfl | hz
     ·omega
     ·have:=hq2.1 z hz;omega
  have hcon: ∀{l:List Tst},ends (pre++x::y::r) l→ ∀d,x≤d→d < y→valT l d=valT l x:=fun {l} hl d hx hy=>valT_const (fun s hs=>by
   have k1:=key _ (hl s hs).1
   have k2:=key _ (hl s hs).2
   omega) hx
  refine ⟨fun d hx hy=>hg d x (hcon ha d hx hy) (hcon hb d hx hy),?_⟩
  have e:pre++x::y::r=(pre++[x])++(y::r):=by simp
  rw [e] at hp ha hb
  exact cOn_ends hg hp ha hb
theorem seg_all {g:Int→Option Va} {a b:List Tst} {ds:List Int} (hg: ∀d x,valT a d=valT a x→valT b d=valT b x→g d=g x) (h0: ∀d,valT a d=none→valT b d=none→g d=none) (hp:ds.Pairwise (· < ·)) (ha:ends ds a) (hb:ends ds b): ∀d,valT (segL g ds) d=g d:=fun d=>by
 have hv:=segL_val hp (cOn_ends (pre:=[]) hg hp ha hb)
 by_cases h1: ∃x∈ds,x≤d
 ·by_cases h2: ∃y∈ds,d < y
  ·exact hv.1 d h1 h2
  ·have h3: ∀y∈ds,y≤d:=fun y hy=>Int.not_lt.1 fun h'=>h2 ⟨y,hy,h'⟩
   rw [hv.2 d (.inr h3),h0 d (xq9 (.inr fun s hs=>h3 _ (ha s hs).2)) (xq9 (.inr fun s hs=>h3 _ (hb s hs).2))]
 ·have h3: ∀x∈ds,d < x:=fun x hx=>Int.not_le.1 fun h'=>h1 ⟨x,hx,h'⟩
  rw [hv.2 d (.inl h3),h0 d (xq9 (.inl fun s hs=>h3 _ (ha s hs).1)) (xq9 (.inl fun s hs=>h3 _ (hb s hs).1))]
theorem seg_pst {g:Int→Option Va} {ds:List Int} (hp:ds.Pairwise (· < ·)):ascT (pst [] (segL g ds))∧nbT (pst [] (segL g ds))∧ ∀d,valT (pst [] (segL g ds)) d=valT (segL g ds) d:=by
 have h:=segL_pw (g:=g) hp
 have:=pst_val (segL g ds) [] ⟨fun s hs=>(by cases hs),.nil⟩ trivial (h.2.imp (S:=fun s t:Tst=>s.lo < s.hi→s.hi≤t.lo) fun h' _=>h') fun x hx=>by cases hx
 exact ⟨this.1,this.2.1,fun d=>by rw [this.2.2];rfl⟩
theorem cut_val {l:List Tst} {a b:Int} (h:ascT l):ascT (cutT l a b)∧nbT (cutT l a b)∧ ∀d,valT (cutT l a b) d=if a≤d∧d < b then valT l d else none:=by
 have hp:(l.map (clip a b)).Pairwise fun s t=>s.lo < s.hi→s.hi≤t.lo:=h.2.map (clip a b) fun s t hst _=>by simp only [clip];omega
 have:=pst_val (l.map (clip a b)) [] ⟨fun s hs=>(by cases hs),.nil⟩ trivial hp fun x hx=>by cases hx
 refine ⟨this.1,this.2.1,fun d=> ?_⟩
 rw [cutT,this.2.2]
 show valT (l.map (clip a b)) d=_
 clear this hp h
 induction l with
 | nil=>simp [valT]
 | cons s r ih=>
  rw [List.map_cons,xe7,xe7,ih]
  show (if max s.lo a≤d∧d < min s.hi b then some s.v else if a≤d∧d < b then valT r d else none)=if a≤d∧d < b then (if s.lo≤d∧d < s.hi then some s.v else valT r d) else none
  by_cases c1:a≤d∧d < b
  ·rw [if_pos c1,if_pos c1]
   by_cases c2:s.lo≤d∧d < s.hi
   ·rw [if_pos c2,if_pos ⟨by omega,by omega⟩]
   ·rw [if_neg c2,if_neg (fun h=>c2 ⟨by omega,by omega⟩)]
  ·rw [if_neg c1,if_neg c1,if_neg (fun h=>c1 ⟨by omega,by omega⟩)]
theorem nb_at: ∀{l:List Tst} {i:Nat},nbT l→i+1 < l.length→ ¬((l.getD i tst0).hi=(l.getD (i+1) tst0).lo∧(l.getD i tst0).v=(l.getD (i+1) tst0).v)
 | [],_,_,hi=>by simp at hi
 | [_],_,_,hi=>by simp at hi
 | s::t::r,0,h,_=>h.1
 | s::t::r,i+1,h,hi=>nb_at (l:=t::r) h.2 (by simpa using hi)
theorem xt2 {l:List Tst} (h:tRight l=true):ascT l:=⟨fun s hs=>by
 obtain ⟨i,hi,rfl⟩:=xk7 hs
 exact (xm6 h hi).2.1,tRight_pair h⟩
theorem asc_lt {l:List Tst} (h:ascT l) {i j:Nat} (hij:i < j) (hj:j < l.length):(l.getD i tst0).hi≤(l.getD j tst0).lo:=by
 have:=List.pairwise_iff_getElem.1 h.2 i j (by omega) hj hij
 rwa [List.getD_eq_getElem?_getD,List.getD_eq_getElem?_getD,List.getElem?_eq_getElem (show i < l.length by omega),List.getElem?_eq_getElem hj]
theorem right_of {l:List Tst} {K:Nat} (h:ascT l) (hn:nbT l) (hv: ∀s∈l,0≤s.lo∧s.hi≤65536∧s.v.valid=true∧s.v.kind=K):tRight l=true:=by
 refine tRight_iff.2 ⟨fun i hi=>tOk_iff.2 ?_,fun s hs=>(hv s hs).2.2.1⟩
 have h1:=hv _ (xd7 (l:=l) hi)
 refine ⟨h1.1,h.1 _ (xd7 hi),h1.2.1,?_⟩
 by_cases h0:i=0
 ·exact .inl h0
 ·have h2:=hv _ (xd7 (l:=l) (i:=i - 1) (by omega))
  have h3:=nb_at hn (i:=i - 1) (by omega)
  rw [show i - 1+1=i by omega] at h3
  exact .inr ⟨asc_lt h (by omega) hi,by rw [h2.2.2.2,h1.2.2.2],h3⟩
end An.S
namespace An
open Go
def tO {α:Type} (n:Nat) (agg:Bool) (f:α→Ty):Option α→Ty
 | none=>tE (.pointer none)
 | some x=>tP n agg (f x)
instance {α:Type} {n:Nat} {agg:Bool} {f:α→Ty} {o:Option α}:Shape (tO n agg f o) 1 false:=⟨fun h=>by
 cases o with
 | none=>have h:_=_:=h;rw [h];exact xd1 rfl
 | some x=>obtain ⟨_,_,_,h,_⟩:=h;rw [h];exact xd1 rfl⟩
section
variable {P:Program} {c:Base} {d ty:Nat} {pos:String} {af:Array Edge} {gd:Option (Nat×Bool)} {α:Type} {n:Nat} {agg:Bool} {f:α→Ty}
theorem run_equalP {T E:TypeId} (hT:P.underlying T=some (.pointer E)) (A:Option Addr) (w:World):(Op.equal T (.pointer A) (.pointer none)).run P w= .ok A.isNone w:=by
 have key: ∀d,(Op.equalIn (d+1) T (.pointer A) (.pointer none)).run P w= .ok A.isNone w:=fun d=>by
  cases A <;> simp only [Op.equalIn,Sem.run_bind,run_underlying hT,Result.andThen_ok,Sem.run_pure] <;> rfl
 exact key 9999
theorem tO_nil {F:Dom} {w:World} {o:Option α} {v:Value} (h:(tO n agg f o).p F w v): ∃A:Option Addr,v= .pointer A∧A.isNone=o.isNone:=by
 cases o with
 | none=>exact ⟨none,h,rfl⟩
 | some x=>obtain ⟨b,q,u,h1,_⟩:=h;exact ⟨_,h1,rfl⟩
theorem d_eqlNil {T E yT:TypeId} {x:Operand} {o:Option α} (hT:P.underlying T=some (.pointer E)):
  Does P c ⟨some d,.binOp .eql T x (.const (.pointer none)) yT,ty,pos,af,gd⟩ ⟨[(x,.val (tO n agg f o))],[],some (d,some (.val (tB o.isNone))),[],[]⟩:=
 Does.value rfl fun g h al a w η hrd _ s=>by
  obtain ⟨A,h1,h4⟩:=tO_nil (xa0 s hrd.1).1
  have h1:a.eval x= .pointer A:=h1
  have h2:a.eval (.const (.pointer none))= .pointer none:=rfl
  refine ⟨.bool A.isNone,w,?_,Ext.refl w,congrArg Value.bool h4,fun j hj=>by cases hj⟩
  have hg:(eqGuard .eql T x (.const (.pointer none)) (.pointer A) (.pointer none)).run P w= .ok () w:=by
   simp [eqGuard,go_sem]
  simp only [execOp,h1,h2,Sem.run_bind,hg,Result.andThen_ok,binOp,run_equalP hT,Sem.run_pure]
theorem d_neqNil {T E yT:TypeId} {x:Operand} {o:Option α} (hT:P.underlying T=some (.pointer E)):
  Does P c ⟨some d,.binOp .neq T x (.const (.pointer none)) yT,ty,pos,af,gd⟩ ⟨[(x,.val (tO n agg f o))],[],some (d,some (.val (tB (!o.isNone)))),[],[]⟩:=
 Does.value rfl fun g h al a w η hrd _ s=>by
  obtain ⟨A,h1,h4⟩:=tO_nil (xa0 s hrd.1).1
  have h1:a.eval x= .pointer A:=h1
  have h2:a.eval (.const (.pointer none))= .pointer none:=rfl
  refine ⟨.bool (!A.isNone),w,?_,Ext.refl w,congrArg (fun b=>Value.bool (!b)) h4,fun j hj=>by cases hj⟩
  have hg:(eqGuard .neq T x (.const (.pointer none)) (.pointer A) (.pointer none)).run P w= .ok () w:=by
   simp [eqGuard,go_sem]
  simp only [execOp,h1,h2,Sem.run_bind,hg,Result.andThen_ok,binOp,run_equalP hT,Sem.run_pure]
theorem d_checkO {x:Operand} {o:Option α} {y:α} (ho:o=some y):
  Does P c ⟨some d,.nilCheck x,ty,pos,af,gd⟩ ⟨[(x,.val (tO n agg f o))],[],some (d,some (.val (tP n agg (f y)))),[],[]⟩:=by
 subst ho;exact d_nilCheckP
theorem leO {o:Option α} {y:α} (ho:o=some y):Le (tP n agg (f y)) (tO n agg f o):=by subst ho;exact Le.refl
theorem leO0 {o:Option α} (ho:o=none):Le (tE (.pointer none)) (tO n agg f o):=by subst ho;exact Le.refl
end
end An
namespace An
open Go Go.Proofs Go.Shelf Go.Sort
theorem row_hold {w:World} {b T:Nat} {cs:Array Value} {xs:List Int} (c1:w.heap[b]? =some (.cells cs T (0,0))) (c3: ∀(i:Nat) (h:i < xs.length),cs[i]? =some (.int .i64 xs[i])):Holds (Value.int .i64) w b 0 xs.toArray:=by
 intro j hj
 have hj:j < xs.length:=by simpa using hj
 have e:xs.toArray[j]! =xs[j]:=by rw [getElem!_pos _ _ (by simpa using hj)];simp
 refine ⟨?_,by simp [World.frozen?,c1]⟩
 rw [e]
 simp only [World.cell?,c1,Nat.zero_add]
 exact c3 j hj
theorem row_out {F:Dom} {w w':World} {η:Env} {T:Nat} {xs ys:List Int} {zs:Array Int} {re:Ent} {v:Value} {cs:Array Value} (hc0:0 < η.c 1) (k4:η.c 1≤9223372036854775807) (c1:w.heap[η.b 1]? =some (.cells cs T (0,0))) (c2:cs.size=η.c 1) (_hz:zs.size≤η.c 1) (_hI:InjK η [(1,⟨T,1,false,rV tI xs⟩)])
  (ho:w'.os=w.os) (ht:w'.tape=w.tape) (hp:w'.output=w.output) (hsz:w.heap.size≤w'.heap.size) (hheap: ∀b',b' < w.heap.size→w'.heap[b']? =if b'=η.b 1 then some (.cells (putCells (Value.int .i64) 0 zs cs) T (0,0)) else w.heap[b']?)
  (hy:ys.length≤zs.size) (hyz: ∀(i:Nat) (h:i < ys.length),zs[i]! =ys[i]) (hre: ∀F,re.sat F w' η v):Out F w η [(1,⟨T,1,false,rV tI xs⟩)] re [(1,⟨T,1,false,rV tI ys⟩)] [] v w' η:=by
 have hblk:η.b 1 < w.heap.size:=xa5 c1
 refine ⟨⟨ho,ht,hp,hsz,fun b' hb' hn'=> ?_⟩,fun _ _=>⟨rfl,rfl⟩,hre _,fun x hx=> ?_,fun x hx y hy hne=> ?_,fun b' hb'=> .inl ?_⟩
 ·rw [hheap b' hb',if_neg]
  intro hb;exact hn' ⟨(1,⟨T,1,false,rV tI xs⟩),by simp,hc0,hb⟩
 ·simp only [List.mem_singleton] at hx
  subst hx
  refine ⟨by show (rV tI ys).length≤η.c 1;rw [xd9];omega,Nat.one_pos,fun _=>rfl,k4,fun _=>⟨putCells (Value.int .i64) 0 zs cs,?_,?_,fun i e hi=> ?_⟩⟩
  ·rw [hheap _ hblk,if_pos rfl]
  ·simp only [putCells,Array.size_mapIdx];rw [c2];simp
  ·have hil:i < ys.length:=by
    have:=(List.getElem?_eq_some_iff.1 hi).1;rwa [xd9] at this
   have hi:(rV tI ys)[i]? =some e:=hi
   rw [rV,List.getElem?_map,List.getElem?_eq_getElem hil] at hi
   simp only [Option.map_some,Option.some.injEq] at hi
   subst hi
   show pick false 1 (putCells (Value.int .i64) 0 zs cs) (i*1)= .int .i64 ys[i]
   rw [Nat.mul_one,pick,cond_false,Array.getD_eq_getD_getElem?]
   simp only [putCells,Array.getElem?_mapIdx]
   rw [Array.getElem?_eq_getElem (show i < cs.size by omega)]
   simp only [Option.map_some,Option.getD_some]
   rw [if_pos ⟨Nat.zero_le _,by omega⟩,Nat.sub_zero,hyz i hil]
 ·simp only [List.mem_singleton] at hx hy
  subst hx;subst hy
  exact absurd rfl hne
 ·obtain ⟨x,hx,hc,rfl⟩:=hb'
  simp only [List.mem_singleton] at hx
  subst hx
  exact ⟨(1,⟨T,1,false,rV tI xs⟩),by simp,hc,rfl⟩
theorem put_heap {w:World} {b:Nat} {T m:Nat} {cs:Array Value} {zs:Array Int} (c1:w.heap[b]? =some (.cells cs T (0,0))) (b':Nat):(putRow (Value.int .i64) (Sort.ahead w m) b 0 zs).heap[b']? =if b'=b then some (.cells (putCells (Value.int .i64) 0 zs cs) T (0,0)) else w.heap[b']? :=by
 simp only [putRow,mapBlock,Array.getElem?_modify]
 by_cases hb:b'=b
 ·subst hb
  rw [if_pos rfl,if_pos rfl]
  show Option.map _ (w.heap[b']?)=_
  rw [c1];rfl
 ·rw [if_neg (fun h=>hb h.symm),if_neg hb];rfl
def srtI (xs:List Int):List Int:=xs.mergeSort fun x y=>decide (x≤y)
theorem sortI {P:Program} {ρ:Ren} (L:Lays.n189 P ρ) (T:Nat) (xs:List Int) (hn:xs.length < 4611686018427387904):
  CtG P (ρ.f 189) [(1,⟨T,1,false,rV tI xs⟩)] [.own (.sl 1 1 0 xs.length)] (.val (tE (.tuple #[]))) [(1,⟨T,1,false,rV tI (srtI xs)⟩)] []:=by
 intro F w η vs hS hA hI hF
 match vs,hS with
 | [v0],hS=>
 obtain ⟨⟨A,rfl,hle,hadr⟩,_⟩:=hS
 obtain ⟨k1,k2,k3,k4,k5⟩:=hA (1,⟨T,1,false,rV tI xs⟩) (by simp)
 have k1:(rV tI xs).length≤η.c 1:=k1
 have k4:η.c 1≤9223372036854775807:=k4
 rw [xd9] at k1
 have hlen:(srtI xs).length=xs.length:=List.length_mergeSort ..
 by_cases h0:xs.length=0
 ·have hx:xs=[]:=List.length_eq_zero_iff.1 h0
  subst hx
  have e0:srtI ([]:List Int)=[]:=List.length_eq_zero_iff.1 hlen
  rw [e0]
  refine (Any.slices_Sort_int_none L A (η.c 1 - 0) w).mono ?_
  rintro e w' ⟨rfl,rfl⟩
  refine ⟨_,η,rfl,⟨Stp.refl _ _,fun _ _=>⟨rfl,rfl⟩,rfl,fun x hx=> ?_,hI,fun b hb=> .inl hb⟩⟩
  simp only [List.mem_singleton] at hx
  subst hx
  refine ⟨by simp [rV],k2,k3,k4,fun hc=> ?_⟩
  obtain ⟨cs,c1,c2,_⟩:=k5 hc
  exact ⟨cs,c1,c2,fun i e hi=>by simp [rV] at hi⟩
 ·have hc0:0 < η.c 1:=by omega
  obtain ⟨cs,c1,c2,c3⟩:=k5 hc0
  have c1:w.heap[η.b 1]? =some (.cells cs T (0,0)):=c1
  have c2:cs.size=η.c 1*1:=c2
  rw [Nat.mul_one] at c2
  have hA':=hadr hc0
  rw [Nat.zero_mul] at hA'
  subst hA'
  have hblk:η.b 1 < w.heap.size:=xa5 c1
  have c3': ∀(i:Nat) (h:i < xs.length),cs[i]? =some (.int .i64 xs[i]):=fun i hi=>by
   have h3:=c3 i (.val (tI xs[i])) (by show (rV tI xs)[i]? =_;rw [rV,List.getElem?_map,List.getElem?_eq_getElem hi];rfl)
   have h3:cs.getD (i*1) undef= .int .i64 xs[i]:=h3
   rw [Nat.mul_one,Array.getD_eq_getD_getElem?,Array.getElem?_eq_getElem (show i < cs.size by omega)] at h3
   rw [Array.getElem?_eq_getElem (show i < cs.size by omega)]
   exact congrArg some h3
  refine (Any.slices_Sort_int L (η.b 1) 0 (η.c 1 - 0) xs w (row_hold c1 c3') hblk hn).mono ?_
  rintro e w' ⟨rfl,m,os,rfl⟩
  refine ⟨_,η,rfl,?_⟩
  refine row_out (zs:=(srtI xs).toArray) hc0 k4 c1 c2 (by simp [hlen];omega) hI rfl rfl rfl ?_ (fun b' hb'=> ?_) (by simp) (fun i hi=> ?_) (fun F=>rfl)
  ·show w.heap.size≤(grow (putRow (Value.int .i64) (Sort.ahead w m) (η.b 1) 0 (srtI xs).toArray) os).heap.size
   simp [grow,putRow,mapBlock,Sort.ahead]
  ·show (grow (putRow (Value.int .i64) (Sort.ahead w m) (η.b 1) 0 (srtI xs).toArray) os).heap[b']? =_
   rw [heap_grow_old _ _ (by simp [putRow,mapBlock,Sort.ahead];exact hb')]
   exact put_heap c1 b'
  ·rw [getElem!_pos _ _ (by simpa using hi)];simp
theorem compUp_len (d:Array Int): ∀m,(Lib.compactUpTo d m).length≤m
 | 0=>Nat.le_refl _
 | m+1=>by
  rw [Lib.compactUpTo_succ,List.length_append]
  have:=compUp_len d m
  split <;> simp <;> omega
theorem comp_len (xs:List Int):(Lib.compact xs).length≤xs.length:=compUp_len _ _
theorem compactI {P:Program} {ρ:Ren} (L:Lays2.n20 P ρ) (T:Nat) (xs:List Int):
  CtG P (ρ.f 20) [(1,⟨T,1,false,rV tI xs⟩)] [.own (.sl 1 1 0 xs.length)] (.own (.sl 1 1 0 (Lib.compact xs).length)) [(1,⟨T,1,false,rV tI (Lib.compact xs)⟩)] []:=by
 intro F w η vs hS hA hI hF
 match vs,hS with
 | [v0],hS=>
 obtain ⟨⟨A,rfl,hle,hadr⟩,_⟩:=hS
 obtain ⟨k1,k2,k3,k4,k5⟩:=hA (1,⟨T,1,false,rV tI xs⟩) (by simp)
 have k1:(rV tI xs).length≤η.c 1:=k1
 have k4:η.c 1≤9223372036854775807:=k4
 rw [xd9] at k1
 have hlen:(Lib.compact xs).length≤xs.length:=comp_len xs
 by_cases h0:xs.length=0
 ·have hx:xs=[]:=List.length_eq_zero_iff.1 h0
  subst hx
  have e0:Lib.compact ([]:List Int)=[]:=rfl
  rw [e0]
  refine (Any.slices_Compact_int_empty L A (η.c 1 - 0) w).mono ?_
  rintro e w' ⟨rfl,rfl⟩
  refine ⟨_,η,rfl,⟨Stp.refl _ _,fun _ _=>⟨rfl,rfl⟩,⟨A,rfl,hle,hadr⟩,fun x hx=> ?_,hI,fun b hb=> .inl hb⟩⟩
  simp only [List.mem_singleton] at hx
  subst hx
  refine ⟨by simp [rV],k2,k3,k4,fun hc=> ?_⟩
  obtain ⟨cs,c1,c2,_⟩:=k5 hc
  exact ⟨cs,c1,c2,fun i e hi=>by simp [rV] at hi⟩
 ·have hc0:0 < η.c 1:=by omega
  obtain ⟨cs,c1,c2,c3⟩:=k5 hc0
  have c1:w.heap[η.b 1]? =some (.cells cs T (0,0)):=c1
  have c2:cs.size=η.c 1*1:=c2
  rw [Nat.mul_one] at c2
  have hA':=hadr hc0
  rw [Nat.zero_mul] at hA'
  subst hA'
  have c3': ∀(i:Nat) (h:i < xs.length),cs[i]? =some (.int .i64 xs[i]):=fun i hi=>by
   have h3:=c3 i (.val (tI xs[i])) (by show (rV tI xs)[i]? =_;rw [rV,List.getElem?_map,List.getElem?_eq_getElem hi];rfl)
   have h3:cs.getD (i*1) undef= .int .i64 xs[i]:=h3
   rw [Nat.mul_one,Array.getD_eq_getD_getElem?,Array.getElem?_eq_getElem (show i < cs.size by omega)] at h3
   rw [Array.getElem?_eq_getElem (show i < cs.size by omega)]
   exact congrArg some h3
  refine (Any.slices_Compact_int L (η.b 1) 0 (η.c 1 - 0) xs w (row_hold c1 c3') (by omega) (by omega)).mono ?_
  rintro e w' ⟨rfl,q,rfl⟩
  refine ⟨_,η,rfl,?_⟩
  refine row_out (zs:=(Lib.compact xs++List.replicate (xs.length - (Lib.compact xs).length) 0).toArray) hc0 k4 c1 c2 (by simp;omega) hI rfl rfl rfl ?_ (fun b' hb'=>put_heap c1 b') (by simp) (fun i hi=> ?_) (fun F=>⟨_,rfl,by omega,fun _=>by rw [Nat.zero_mul]⟩)
  ·simp [putRow,mapBlock,Sort.ahead]
  ·rw [getElem!_pos _ _ (by simp;omega)];simp [List.getElem_append_left hi]
def brd (xs:List Int):List Int:=Lib.compact (srtI xs)
theorem brd_aux {d:Array Int} (hd: ∀i j,i < j→j < d.size→d[i]! ≤d[j]!): ∀m,m≤d.size→(Lib.compactUpTo d m).Pairwise (· < ·)∧ ∀x,x∈Lib.compactUpTo d m↔ ∃i,i < m∧d[i]! =x
 | 0,_=>⟨List.Pairwise.nil,fun x=>⟨fun h=>(List.not_mem_nil h).elim,fun ⟨i,hi,_⟩=>absurd hi (Nat.not_lt_zero _)⟩⟩
 | m+1,hm=>by
  obtain ⟨h1,h2⟩:=brd_aux hd m (by omega)
  rw [Lib.compactUpTo_succ]
  by_cases hk:Lib.keeps d m=true
  ·rw [if_pos hk]
   have hk':m=0∨d[m]! ≠d[m - 1]! :=of_decide_eq_true hk
   refine ⟨List.pairwise_append.2 ⟨h1,List.pairwise_singleton _ _,fun x hx y hy=> ?_⟩,fun x=> ?_⟩
   ·rw [List.mem_singleton.1 hy]
    obtain ⟨i,hi,rfl⟩:=(h2 x).1 hx
    have hm0:m≠0:=by omega
    have h3:=hk'.resolve_left hm0
    have h4:=hd (m - 1) m (by omega) (by omega)
    have h5:d[i]! ≤d[m - 1]! :=by
     rcases Nat.lt_or_ge i (m - 1) with h | h
     ·exact hd i (m - 1) h (by omega)
     ·rw [show i=m - 1 by omega];exact Int.le_refl _
    omega
   ·rw [List.mem_append,List.mem_singleton,h2]
    constructor
    ·rintro (⟨i,hi,e⟩ | rfl)
     ·exact ⟨i,by omega,e⟩
     ·exact ⟨m,by omega,rfl⟩
    ·rintro ⟨i,hi,e⟩
     rcases Nat.lt_or_ge i m with h | h
     ·exact .inl ⟨i,h,e⟩
     ·exact .inr (by rw [←e,show i=m by omega])
  ·rw [if_neg hk,List.append_nil]
   have hk': ¬(m=0∨d[m]! ≠d[m - 1]!):=fun h=>hk (decide_eq_true h)
   refine ⟨h1,fun x=> ?_⟩
   rw [h2]
   constructor
   ·rintro ⟨i,hi,e⟩;exact ⟨i,by omega,e⟩
   ·rintro ⟨i,hi,e⟩
    rcases Nat.lt_or_ge i m with h | h
    ·exact ⟨i,h,e⟩
    ·have hm0:m≠0:=fun h=>hk' (.inl h)
     have he:d[m]! =d[m - 1]! :=Decidable.byContradiction fun h=>hk' (.inr h)
     exact ⟨m - 1,by omega,by rw [←he,←e,show i=m by omega]⟩
theorem xg1 (xs:List Int):(brd xs).Pairwise (· < ·)∧ ∀x,x∈brd xs↔x∈xs:=by
 have hs:(srtI xs).Pairwise fun x y=>decide (x≤y)=true:=List.pairwise_mergeSort (fun a b c h1 h2=>by simp at*;omega) (fun a b=>by simp;omega) xs
 have hp:(srtI xs).Perm xs:=List.mergeSort_perm ..
 have h:=brd_aux (d:=(srtI xs).toArray) (fun i j hij hj=>by
  have hj:j < (srtI xs).length:=by simpa using hj
  have:=List.pairwise_iff_getElem.1 hs i j (by omega) hj hij
  rw [getElem!_pos _ _ (by simp;omega),getElem!_pos _ _ (by simpa using hj)]
  simpa using this) (srtI xs).length (by simp)
 refine ⟨h.1,fun x=>(h.2 x).trans ⟨fun ⟨i,hi,e⟩=> ?_,fun hx=> ?_⟩⟩
 ·rw [getElem!_pos _ _ (by simpa using hi)] at e
  rw [←hp.mem_iff,←e];simp
 ·obtain ⟨i,hi,e⟩:=List.getElem_of_mem (hp.mem_iff.2 hx)
  exact ⟨i,hi,by rw [getElem!_pos _ _ (by simpa using hi)];simpa using e⟩
theorem brd_len (xs:List Int):(brd xs).length≤xs.length:=by
 have:=comp_len (srtI xs)
 rw [srtI,List.length_mergeSort] at this
 exact this
end An
namespace An.S
open Go
def onL (l:List Tst) (d:Int):List Tst:=l.dropWhile fun s=>decide (s.hi≤d)
def onV (l:List Tst) (d:Int):Option Va:=if 0 < (onL l d).length∧((onL l d).getD 0 tst0).lo≤d then some ((onL l d).getD 0 tst0).v else none
theorem on_next {xs:List Tst} {d:Int} (h:0 < xs.length) (h1:(xs.getD 0 tst0).hi≤d):onL (xs.drop 1) d=onL xs d:=by
 cases xs with
 | nil=>simp at h
 | cons s r=>
  have h1:s.hi≤d:=h1
  rw [onL,onL,List.dropWhile_cons_of_pos (by simpa using h1)];rfl
theorem on_stop {xs:List Tst} {d:Int} (h: ¬(0 < xs.length∧(xs.getD 0 tst0).hi≤d)):onL xs d=xs:=by
 cases xs with
 | nil=>rfl
 | cons s r=>
  have h1: ¬s.hi≤d:=fun h'=>h ⟨by simp,h'⟩
  rw [onL,List.dropWhile_cons_of_neg (by simpa using h1)]
theorem onL_len {l:List Tst} {d:Int}:(onL l d).length≤l.length:=(List.dropWhile_sublist _).length_le
theorem onL_asc {l:List Tst} {d:Int} (h:ascT l):ascT (onL l d):=⟨fun s hs=>h.1 s ((List.dropWhile_sublist _).subset hs),h.2.sublist (List.dropWhile_sublist _)⟩
theorem onL_val {d:Int}: ∀{l:List Tst},∀e,d≤e→valT (onL l d) e=valT l e
 | [],_,_=>rfl
 | s::r,e,h=>by
  by_cases h1:s.hi≤d
  ·have:onL (s::r) d=onL r d:=by rw [onL,List.dropWhile_cons_of_pos (by simpa using h1)];rfl
   rw [this,onL_val e h,xe7,if_neg (by omega)]
  ·have:onL (s::r) d=s::r:=by rw [onL,List.dropWhile_cons_of_neg (by simpa using h1)]
   rw [this]
theorem onV_val {l:List Tst} {d:Int} (h:ascT l):onV l d=valT l d:=by
 rw [←onL_val d (Int.le_refl _),onV]
 have hd:0 < (onL l d).length→d < ((onL l d).getD 0 tst0).hi:=fun h0=>by
  clear h
  induction l with
  | nil=>simp [onL] at h0
  | cons s r ih=>
   by_cases h1:s.hi≤d
   ·have:onL (s::r) d=onL r d:=by rw [onL,List.dropWhile_cons_of_pos (by simpa using h1)];rfl
    rw [this] at h0 ⊢;exact ih h0
   ·have:onL (s::r) d=s::r:=by rw [onL,List.dropWhile_cons_of_neg (by simpa using h1)]
    rw [this];show d < s.hi;omega
 have ha:=onL_asc (d:=d) h
 generalize onL l d=xs at*
 cases xs with
 | nil=>rfl
 | cons s r=>
  have h1:d < s.hi:=hd (by simp)
  rw [xe7]
  by_cases h2:s.lo≤d
  ·rw [if_pos ⟨by simp,h2⟩,if_pos ⟨h2,h1⟩];rfl
  ·rw [if_neg (fun h=>h2 h.2),if_neg (fun h=>h2 h.1)]
   symm
   refine xs6.2 fun t ht h=> ?_
   have:=(List.pairwise_cons.1 ha.2).1 t ht
   omega
def eds (l:List Tst):List Int:=l.flatMap fun s=>[s.lo,s.hi]
def bds (ls:List (List Tst)):List Int:=brd (ls.flatMap eds)
theorem eds_mem {l:List Tst} {x:Int}:x∈eds l↔ ∃s∈l,x=s.lo∨x=s.hi:=by
 simp [eds,List.mem_flatMap]
theorem eds_len {l:List Tst}:(eds l).length=2*l.length:=by
 induction l with
 | nil=>rfl
 | cons s r ih=>rw [eds,List.flatMap_cons,List.length_append,←eds,ih];simp;omega
theorem eds_snoc {l:List Tst} {i:Nat} (hi:i < l.length):eds (l.take (i+1))=eds (l.take i)++[(l.getD i tst0).lo,(l.getD i tst0).hi]:=by
 rw [List.take_succ_eq_append_getElem hi,eds,List.flatMap_append,List.getD_eq_getElem?_getD,List.getElem?_eq_getElem hi];simp [eds]
theorem flat_snoc {ls:List (List Tst)} {i:Nat} (hi:i < ls.length):(ls.take (i+1)).flatMap eds=(ls.take i).flatMap eds++eds (ls.getD i []):=by
 rw [List.take_succ_eq_append_getElem hi,List.flatMap_append,List.getD_eq_getElem?_getD,List.getElem?_eq_getElem hi];simp
def tlen (ls:List (List Tst)):Nat:=(ls.map List.length).sum
theorem flat_len: ∀{ls:List (List Tst)},(ls.flatMap eds).length=2*tlen ls
 | []=>rfl
 | l::r=>by rw [List.flatMap_cons,List.length_append,eds_len,flat_len (ls:=r)];simp [tlen];omega
theorem bds_len {ls:List (List Tst)}:(bds ls).length≤2*tlen ls:=by rw [←flat_len];exact brd_len _
theorem bds_pw {ls:List (List Tst)}:(bds ls).Pairwise (· < ·):=(xg1 _).1
theorem bds_mem {ls:List (List Tst)} {x:Int}:x∈bds ls↔ ∃l∈ls,∃s∈l,x=s.lo∨x=s.hi:=by
 rw [bds,(xg1 _).2,List.mem_flatMap]
 simp only [eds_mem]
theorem bds_ends {ls:List (List Tst)} {l:List Tst} (h:l∈ls):ends (bds ls) l:=fun s hs=>⟨bds_mem.2 ⟨l,h,s,hs,.inl rfl⟩,bds_mem.2 ⟨l,h,s,hs,.inr rfl⟩⟩
theorem pw_lt {ds:List Int} (h:ds.Pairwise (· < ·)) {i j:Nat} (hij:i < j) (hj:j < ds.length):ds.getD i 0 < ds.getD j 0:=by
 have:=List.pairwise_iff_getElem.1 h i j (by omega) hj hij
 rwa [List.getD_eq_getElem?_getD,List.getD_eq_getElem?_getD,List.getElem?_eq_getElem (show i < ds.length by omega),List.getElem?_eq_getElem hj]
theorem getD_memI {ds:List Int} {i:Nat} (h:i < ds.length):ds.getD i 0∈ds:=by
 rw [List.getD_eq_getElem?_getD,List.getElem?_eq_getElem h];exact List.getElem_mem h
def segI (g:Int→Option Va) (ds:List Int) (i:Nat):List Tst:=match g (ds.getD i 0) with
 | some v=>[⟨ds.getD i 0,ds.getD (i+1) 0,v⟩]
 | none=>[]
def segN (g:Int→Option Va) (ds:List Int) (k:Nat):List Tst:=(List.range k).flatMap (segI g ds)
theorem segN_next {g:Int→Option Va} {ds:List Int} {k:Nat}:segN g ds (k+1)=segN g ds k++segI g ds k:=by
 rw [segN,List.range_succ,List.flatMap_append];simp [segN]
theorem segL_N {g:Int→Option Va}: ∀ds:List Int,segL g ds=segN g ds (ds.length - 1)
 | []=>rfl
 | [x]=>rfl
 | x::y::r=>by
  have e: ∀i,segI g (x::y::r) (i+1)=segI g (y::r) i:=fun i=>rfl
  have e0:segI g (x::y::r) 0=(match g x with | some v=>[⟨x,y,v⟩] | none=>[]):=rfl
  have h:(x::y::r).length - 1=r.length+1:=by simp
  have e1:segN g (x::y::r) (r.length+1)=segI g (x::y::r) 0++segN g (y::r) r.length:=by
   rw [segN,List.range_succ_eq_map,List.flatMap_cons,List.flatMap_map];rfl
  rw [segL,segL_N (y::r),h,e1,e0];rfl
theorem pst_app (acc xs ys:List Tst):pst acc (xs++ys)=pst (pst acc xs) ys:=by rw [pst,pst,pst,List.foldl_append]
theorem segN_len {g:Int→Option Va} {ds:List Int}: ∀k,(segN g ds k).length≤k
 | 0=>Nat.le_refl _
 | k+1=>by
  rw [segN_next,List.length_append]
  have:=segN_len (g:=g) (ds:=ds) k
  have h:(segI g ds k).length≤1:=by rw [segI];split <;> simp
  omega
def dfB (a b:List Tst) (d:Int):Bool:=decide (valT a d≠valT b d)
def dfI (a b:List Tst) (i:Nat):List Sn:=if dfB a b ((bds [a,b]).getD i 0) then [⟨(bds [a,b]).getD i 0,(bds [a,b]).getD (i+1) 0⟩] else []
def dfK (a b:List Tst) (k:Nat):List Sn:=(List.range k).flatMap (dfI a b)
theorem dfK_next {a b:List Tst} {k:Nat}:dfK a b (k+1)=dfK a b k++dfI a b k:=by
 rw [dfK,List.range_succ,List.flatMap_append];simp [dfK]
def dfT (a b:List Tst):List Sn:=dfK a b ((bds [a,b]).length - 1)
def ogI (a b:List Tst) (xa xb:List Tst) (d:Int):Prop:=(ascT xa∧xa.length≤a.length∧ ∀e,d≤e→valT xa e=valT a e)∧ascT xb∧xb.length≤b.length∧ ∀e,d≤e→valT xb e=valT b e
theorem ogI.next {a b xa xb:List Tst} {d e:Int} (h:ogI a b xa xb d) (hde:d≤e):onV xa e=valT a e∧onV xb e=valT b e∧ogI a b (onL xa e) (onL xb e) e:=by
 obtain ⟨⟨h1,h2,h3⟩,h4,h5,h6⟩:=h
 refine ⟨(onV_val h1).trans (h3 e hde),(onV_val h4).trans (h6 e hde),⟨onL_asc h1,Nat.le_trans onL_len h2,fun x hx=>(onL_val x hx).trans (h3 x (Int.le_trans hde hx))⟩,onL_asc h4,Nat.le_trans onL_len h5,fun x hx=>(onL_val x hx).trans (h6 x (Int.le_trans hde hx))⟩
theorem ogI.zero {a b:List Tst} (ha:ascT a) (hb:ascT b) (d:Int):ogI a b a b d:=⟨⟨ha,Nat.le_refl _,fun _ _=>rfl⟩,hb,Nat.le_refl _,fun _ _=>rfl⟩
end An.S
namespace An
open Go
section
variable {P:Program} {c:Base}
theorem left_ge {D:Nat→Bool} {n:Nat} (h: ∀j,n≤j→D j=false): ∀m,m - n≤left D m
 | 0=>by simp [left]
 | m+1=>by
  have ih:=left_ge h m
  simp only [left]
  rcases Nat.lt_or_ge m n with h1 | h1
  ·omega
  ·rw [h m h1];simp only [cond_false];omega
theorem any_pre {ops:List Oper} {Es:List Eff} {n:Nat} {g0:Slots} {h0:Keys} {al0:Nat→Bool} {Q:Exit→Act→World→Prop} (hn:n≤ops.length) (hlen:n=Es.length)
  (hD: ∀(i:Nat) (o:Oper) (E:Eff),ops[i]? =some o→Es[i]? =some E→DoesR P c ops.toArray o E)
  (hpre: ∀(i:Nat) (E:Eff),Es[i]? =some E→E.PreL (runC (fun j=>decide (j < i)) 0 (Es.map Eff.cg) g0) (runC (fun j=>decide (j < i)) 0 (Es.map Eff.ch) h0) (runC (fun j=>decide (j < i)) 0 (Es.map Eff.ca) al0))
  (hgo:goAll (masks ops #[]) [] (Es.map Eff.sm)=true) (hd:dOk c.N (Es.map Eff.sm)=true) (hnk:nkOk (Es.map Eff.sm) []=true) (hed:edgesOk 0 ops=true)
  (hrest: ∀i,n≤i→i < ops.length→ ∀j,j < i→((masks ops #[]).getD i 0).testBit j=true)
  (hQ: ∀(fuel:Nat) (listed:Array Bool) (a:Act) (w:World),listed.size=ops.length→Closed ops (fun i=>listed.getD i false)→(∀j,listed.getD j false=decide (j < n))→ops.length - n≤fuel→
   St c (runC (fun _=>true) 0 (Es.map Eff.cg) g0) (runC (fun _=>true) 0 (Es.map Eff.ch) h0) (runC (fun _=>true) 0 (Es.map Eff.ca) al0) a w→wpAnyIn (fc c.ro) 0 P .any ops.toArray Q fuel listed a w):
  ∀(fuel:Nat) (listed:Array Bool) (a:Act) (w:World),listed.size=ops.length→Closed ops (fun i=>listed.getD i false)→(∀j,n≤j→listed.getD j false=false)→
   left (fun i=>listed.getD i false) ops.length≤fuel→
   St c (runC (fun i=>listed.getD i false) 0 (Es.map Eff.cg) g0) (runC (fun i=>listed.getD i false) 0 (Es.map Eff.ch) h0) (runC (fun i=>listed.getD i false) 0 (Es.map Eff.ca) al0) a w→
   wpAnyIn (fc c.ro) 0 P .any ops.toArray Q fuel listed a w:=by
 have hsm: ∀(i:Nat) (E:Eff),Es[i]? =some E→(Es.map Eff.sm)[i]? =some E.sm:=fun i E h=>by rw [List.getElem?_map,h];rfl
 have hpair: ∀(i j:Nat) (E E':Eff),i < j→Es[i]? =some E→Es[j]? =some E'→((masks ops #[]).getD j 0).testBit i=true∨Indep E.sm E'.sm:=fun i j E E' hij hi hj=>
  goAll_spec (Es.map Eff.sm) [] hgo i j _ _ hij (Nat.zero_le _) (by simpa using hsm i E hi) (by simpa using hsm j E' hj)
 have hmask: ∀D,Closed ops D→ ∀i j,((masks ops #[]).getD i 0).testBit j=true→(∀o,ops[i]? =some o→ ∀e∈o.after.toList,Region.binds .any e=true→D e.on=true)→D j=true:=by
  intro D hcl i j hj hi
  rw [Array.getD_eq_getD_getElem?] at hj
  cases hm:(masks ops #[])[i]? with
  | none=>rw [hm] at hj;simp at hj
  | some m=>rw [hm] at hj;exact xt1 (ops:=ops) ops #[] (by simp) (by simp) D hcl i m hm hi j hj
 have hmaskD: ∀D,Closed ops D→ ∀i j,((masks ops #[]).getD i 0).testBit j=true→D i=true→D j=true:=fun D hcl i j hj hi=>hmask D hcl i j hj fun o ho=>hcl i o ho hi
 have hall: ∀(fuel:Nat) (listed:Array Bool) (a:Act) (w:World),listed.size=ops.length→Closed ops (fun i=>listed.getD i false)→(∀j,n≤j→listed.getD j false=false)→left (fun i=>listed.getD i false) ops.length≤fuel→
   St c (runC (fun i=>listed.getD i false) 0 (Es.map Eff.cg) g0) (runC (fun i=>listed.getD i false) 0 (Es.map Eff.ch) h0) (runC (fun i=>listed.getD i false) 0 (Es.map Eff.ca) al0) a w→
   (∀j,j < n→listed.getD j false=true)→wpAnyIn (fc c.ro) 0 P .any ops.toArray Q fuel listed a w:=by
  intro fuel listed a w hsz hcl hno hleft hs hall
  have hcong: ∀{β:Type} (l:List (Chg β)) (f:Nat→β),l.length=n→runC (fun i=>listed.getD i false) 0 l f=runC (fun _=>true) 0 l f:=fun l f hl=>by
   funext s
   refine xg0 l 0 f f rfl fun j C hj _=> ?_
   rw [Nat.zero_add]
   exact hall j (by have:=(List.getElem?_eq_some_iff.1 hj).1;omega)
  rw [hcong _ _ (by simp [hlen]),hcong _ _ (by simp [hlen]),hcong _ _ (by simp [hlen])] at hs
  have hge:=left_ge (D:=fun i=>listed.getD i false) hno ops.length
  refine hQ fuel listed a w hsz hcl (fun j=> ?_) (by omega) hs
  rcases Nat.lt_or_ge j n with h1 | h1
  ·rw [hall j h1,decide_eq_true h1]
  ·rw [hno j h1,decide_eq_false (by omega)]
 have hsome: ∀(listed:Array Bool),listed.size=ops.length→ ¬(∀j,j < n→listed.getD j false=true)→Region.ready .any ops.toArray listed≠[]:=by
  intro listed hsz hnall hr
  refine hnall fun i=> ?_
  induction i using Nat.strongRecOn with
  | _ i ih=>
   intro hi
   cases hl:listed.getD i false with
   | true=>rfl
   | false=>
    exfalso
    have:i∈Region.ready .any ops.toArray listed:=by
     rw [mem_ready]
     refine ⟨?_,ops[i],by simp [show i < ops.length by omega],fun e he hb=> ?_⟩
     ·rw [Array.getD_eq_getD_getElem?] at hl ⊢
      rw [Array.getElem?_eq_getElem (by omega)] at hl ⊢
      simpa using hl
     ·have hon:=xp6 ops 0 hed i ops[i] (List.getElem?_eq_getElem (by omega)) e (by simpa using he) hb
      exact ih e.on (by omega) (by omega)
    rw [hr] at this
    cases this
 intro fuel
 induction fuel with
 | zero=>
  intro listed a w hsz hcl hno hleft hs
  refine hall 0 listed a w hsz hcl hno hleft hs fun j hj=> ?_
  exact left_zero (D:=fun i=>listed.getD i false) ops.length (by omega) j (by omega)
 | succ fuel ih=>
  intro listed a w hsz hcl hno hleft hs
  by_cases hal: ∀j,j < n→listed.getD j false=true
  ·exact hall _ listed a w hsz hcl hno hleft hs hal
  refine ⟨fun hr=>absurd hr (hsome listed hsz hal),fun i hi=> ?_⟩
  have hin:i < n:=by
   rw [mem_ready] at hi
   obtain ⟨h1,o,ho,hedge⟩:=hi
   have hlt:i < ops.length:=by
    have:=(Array.getElem?_eq_some_iff.1 ho).1
    simpa using this
   refine Decidable.byContradiction fun hge=>hal fun j hj=> ?_
   exact hmask _ hcl i j (hrest i (by omega) hlt j (by omega)) fun o' ho'' e he hbd=>by
    have ho3:ops[i]? =some o:=by simpa using ho
    rw [ho3] at ho''
    cases ho''
    exact hedge e (by simpa using he) hbd
  rw [mem_ready] at hi
  obtain ⟨h1,o,ho,hedge⟩:=hi
  have hlt:i < ops.length:=by
   have:=(Array.getElem?_eq_some_iff.1 ho).1
   simpa using this
  have ho':ops[i]? =some o:=by simpa using ho
  have hEi:Es[i]? =some (Es[i]'(by omega)):=List.getElem?_eq_getElem (by omega)
  generalize hE:Es[i]'(by omega)=E at hEi
  have hDi:listed.getD i false=false:=by
   rw [Array.getD_eq_getD_getElem?,Array.getElem?_eq_getElem (by omega)] at h1 ⊢
   simpa using h1
  have hahead: ∀j E',Es[j]? =some E'→j≠i→ ¬Indep E'.sm E.sm→ ¬Indep E.sm E'.sm→listed.getD j false=decide (j < i):=by
   intro j E' hj hji hn1 hn2
   rcases Nat.lt_or_ge j i with hlt' | hge
   ·rw [decide_eq_true hlt']
    rcases hpair j i E' E hlt' hj hEi with hb | hb
    ·exact hmask _ hcl i j hb fun o' ho'' e he hbd=>by
      rw [ho'] at ho''
      cases ho''
      exact hedge e (by simpa using he) hbd
    ·exact absurd hb hn1
   ·rw [decide_eq_false (by omega)]
    rcases hpair i j E E' (by omega) hEi hj with hb | hb
    ·cases hd':listed.getD j false with
     | false=>rfl
     | true=>
      have this:listed.getD i false=true:=hmaskD _ hcl j i hb hd'
      rw [hDi] at this
      cases this
    ·exact absurd hb hn2
  have hp0:=hpre i E hEi
  have hpD:E.Pre c (runC (fun i=>listed.getD i false) 0 (Es.map Eff.cg) g0) (runC (fun i=>listed.getD i false) 0 (Es.map Eff.ch) h0) (runC (fun i=>listed.getD i false) 0 (Es.map Eff.ca) al0):=by
   refine ⟨Rd.congr (fun s hs=> ?_) hp0.rd,Kr.congr (fun s hs=> ?_) hp0.kr,Nk.congr (fun s hs=> ?_) hp0.nk,fun x hx=> ?_⟩
   ·refine xg0 _ 0 _ _ rfl fun j C hj hsome=> ?_
    rw [List.getElem?_map] at hj
    cases hj':Es[j]? with
    | none=>rw [hj'] at hj;cases hj
    | some E'=>
     rw [hj'] at hj
     cases hj
     have hw:=Eff.cg_some.1 hsome
     rw [Nat.zero_add]
     by_cases hji:j=i
     ·subst hji;rw [decide_eq_false (by omega)];exact hDi.symm
     ·exact (hahead j E' hj' hji (fun hI=>hI.h1 s hw hs) (fun hI=>hI.h3 s hw hs)).symm
   ·refine xg0 _ 0 _ _ rfl fun j C hj hsome=> ?_
    rw [List.getElem?_map] at hj
    cases hj':Es[j]? with
    | none=>rw [hj'] at hj;cases hj
    | some E'=>
     rw [hj'] at hj
     cases hj
     have hw:=Eff.ch_some.1 hsome
     rw [Nat.zero_add]
     by_cases hji:j=i
     ·subst hji;rw [decide_eq_false (by omega)];exact hDi.symm
     ·exact (hahead j E' hj' hji (fun hI=>hI.h4 s hw hs) (fun hI=>hI.h6 s hw hs)).symm
   ·refine xg0 _ 0 _ _ rfl fun j C hj hsome=> ?_
    rw [List.getElem?_map] at hj
    cases hj':Es[j]? with
    | none=>rw [hj'] at hj;cases hj
    | some E'=>
     rw [hj'] at hj
     cases hj
     rw [Nat.zero_add]
     by_cases hji:j=i
     ·subst hji;rw [decide_eq_false (by omega)];exact hDi.symm
     ·exfalso
      have hm:s∈E'.nk:=Eff.ca_mem hsome
      have hs':s∈E.sm.nk:=hs
      rcases Nat.lt_or_ge j i with hlt' | hge
      ·exact (xn0 hnk).2 j i _ _ hlt' (hsm j E' hj') (hsm i E hEi) s hm hs'
      ·exact (xn0 hnk).2 i j _ _ (by omega) (hsm i E hEi) (hsm j E' hj') s hs' hm
   ·exact dOk_spec hd i _ (hsm i E hEi) x.1 (by simp [Eff.sm,hx])
  have hD': ∀j,j≠i→(listed.setIfInBounds i true).getD j false=listed.getD j false:=fun j hj=>Go.getD_set_ne false (fun h=>hj h.symm)
  have hi':(listed.setIfInBounds i true).getD i false=true:=by
   rw [Array.getD_eq_getD_getElem?];simp [hsz,hlt]
  have hg':E.g (runC (fun i=>listed.getD i false) 0 (Es.map Eff.cg) g0)=runC (fun j=>(listed.setIfInBounds i true).getD j false) 0 (Es.map Eff.cg) g0:=by
   rw [←Eff.cg_run]
   refine xr2 (D':=fun j=>(listed.setIfInBounds i true).getD j false) (i:=i) (by rw [List.getElem?_map,hEi];rfl) hD' hi' (fun j C' hj hij s h1 h2=> ?_) _
   rw [List.getElem?_map] at hj
   cases hj':Es[j]? with
   | none=>rw [hj'] at hj;cases hj
   | some E'=>
    rw [hj'] at hj
    cases hj
    have:=hahead j E' hj' (by omega) (fun hI=>hI.h2 s (Eff.cg_some.1 h2) (Eff.cg_some.1 h1)) (fun hI=>hI.h2 s (Eff.cg_some.1 h1) (Eff.cg_some.1 h2))
    rw [this,decide_eq_false (by omega)]
  have hh':E.h (runC (fun i=>listed.getD i false) 0 (Es.map Eff.ch) h0)=runC (fun j=>(listed.setIfInBounds i true).getD j false) 0 (Es.map Eff.ch) h0:=by
   rw [←Eff.ch_run]
   refine xr2 (D':=fun j=>(listed.setIfInBounds i true).getD j false) (i:=i) (by rw [List.getElem?_map,hEi];rfl) hD' hi' (fun j C' hj hij s h1 h2=> ?_) _
   rw [List.getElem?_map] at hj
   cases hj':Es[j]? with
   | none=>rw [hj'] at hj;cases hj
   | some E'=>
    rw [hj'] at hj
    cases hj
    have:=hahead j E' hj' (by omega) (fun hI=>hI.h5 s (Eff.ch_some.1 h2) (Eff.ch_some.1 h1)) (fun hI=>hI.h5 s (Eff.ch_some.1 h1) (Eff.ch_some.1 h2))
    rw [this,decide_eq_false (by omega)]
  have ha':E.al (runC (fun i=>listed.getD i false) 0 (Es.map Eff.ca) al0)=runC (fun j=>(listed.setIfInBounds i true).getD j false) 0 (Es.map Eff.ca) al0:=by
   rw [←Eff.ca_run]
   refine xr2 (D':=fun j=>(listed.setIfInBounds i true).getD j false) (i:=i) (by rw [List.getElem?_map,hEi];rfl) hD' hi' (fun j C' hj hij s h1 h2=> ?_) _
   rw [List.getElem?_map] at hj
   cases hj':Es[j]? with
   | none=>rw [hj'] at hj;cases hj
   | some E'=>
    rw [hj'] at hj
    cases hj
    exfalso
    exact (xn0 hnk).2 i j _ _ hij (hsm i E hEi) (hsm j E' hj') s (Eff.ca_mem h1) (Eff.ca_mem h2)
  have hcl':Closed ops (fun j=>(listed.setIfInBounds i true).getD j false):=by
   intro j o' hj hDj e he hb
   by_cases hji:j=i
   ·subst hji
    rw [ho'] at hj
    cases hj
    exact getD_set_true (hedge e (by simpa using he) hb)
   ·simp only [hD' j hji] at hDj
    exact getD_set_true (hcl j o' hj hDj e he hb)
  have hleft':left (fun j=>(listed.setIfInBounds i true).getD j false) ops.length≤fuel:=by
   have:=left_set (D:=fun j=>listed.getD j false) (D':=fun j=>(listed.setIfInBounds i true).getD j false) (i:=i) hD' hi' hDi ops.length hlt
   omega
  have hdo:=hD i o E ho' hEi _ _ _ a w hpD hs
  have hgo': ∀a' w',St c (E.g (runC (fun i=>listed.getD i false) 0 (Es.map Eff.cg) g0)) (E.h (runC (fun i=>listed.getD i false) 0 (Es.map Eff.ch) h0)) (E.al (runC (fun i=>listed.getD i false) 0 (Es.map Eff.ca) al0)) a' w'→
    wpAnyIn (fc c.ro) 0 P .any ops.toArray Q fuel (listed.setIfInBounds i true) a' w':=fun a' w' hs'=>by
   rw [hg',hh',ha'] at hs'
   exact ih _ a' w' (by simp [hsz]) hcl' (fun j hj=>by rw [hD' j (by omega)];exact hno j hj) hleft' hs'
  unfold wpOpIn
  rw [ho]
  simp only
  split
  ·rename_i hw
   rw [if_pos hw] at hdo
   exact Oper.wpIn_mono hgo' (noQ_imp hdo)
  ·rename_i hw
   rw [if_neg hw] at hdo
   exact ⟨fun _ _=>trivial,hgo' _ _ hdo⟩
theorem any_tail {ops:List Oper} {Q:Exit→Act→World→Prop} {n:Nat} (hed:edgesOk 0 ops=true) (hrest: ∀i,n≤i→i < ops.length→ ∀j,j < i→((masks ops #[]).getD i 0).testBit j=true):
  ∀(k m:Nat) (fuel:Nat) (listed:Array Bool) (a:Act) (w:World),n≤m→m+k=ops.length→listed.size=ops.length→Closed ops (fun i=>listed.getD i false)→(∀j,listed.getD j false=decide (j < m))→k≤fuel→
   wpListIn (fc c.ro) 0 P ops.toArray Q (ops.drop m) a w→wpAnyIn (fc c.ro) 0 P .any ops.toArray Q fuel listed a w:=by
 have hmask: ∀D,Closed ops D→ ∀i j,((masks ops #[]).getD i 0).testBit j=true→(∀o,ops[i]? =some o→ ∀e∈o.after.toList,Region.binds .any e=true→D e.on=true)→D j=true:=by
  intro D hcl i j hj hi
  rw [Array.getD_eq_getD_getElem?] at hj
  cases hm:(masks ops #[])[i]? with
  | none=>rw [hm] at hj;simp at hj
  | some m=>rw [hm] at hj;exact xt1 (ops:=ops) ops #[] (by simp) (by simp) D hcl i m hm hi j hj
 intro k
 induction k with
 | zero=>
  intro m fuel listed a w hnm hmk hsz hcl hli hfu hw
  have hnil:Region.ready .any ops.toArray listed=[]:=by
   cases hr:Region.ready .any ops.toArray listed with
   | nil=>rfl
   | cons i rs=>
    have hi:i∈Region.ready .any ops.toArray listed:=by rw [hr];simp
    rw [mem_ready] at hi
    obtain ⟨h1,o,ho,_⟩:=hi
    have hlt:i < ops.length:=by
     have:=(Array.getElem?_eq_some_iff.1 ho).1
     simpa using this
    have this:=hli i
    rw [decide_eq_true (by omega)] at this
    rw [Array.getD_eq_getD_getElem?,Array.getElem?_eq_getElem (by omega)] at h1 this
    simp at h1 this
    rw [h1] at this
    cases this
  rw [List.drop_of_length_le (by omega)] at hw
  cases fuel with
  | zero=>exact ⟨hnil,hw⟩
  | succ f=>
   refine ⟨fun _=>hw,fun i hi=> ?_⟩
   rw [hnil] at hi;cases hi
 | succ k ih=>
  intro m fuel listed a w hnm hmk hsz hcl hli hfu hw
  have hlt:m < ops.length:=by omega
  have hmr:m∈Region.ready .any ops.toArray listed:=by
   rw [mem_ready]
   have hl:=hli m
   rw [decide_eq_false (by omega)] at hl
   refine ⟨?_,ops[m],by simp [hlt],fun e he hb=> ?_⟩
   ·rw [Array.getD_eq_getD_getElem?] at hl ⊢
    rw [Array.getElem?_eq_getElem (by omega)] at hl ⊢
    simpa using hl
   ·have hon:=xp6 ops 0 hed m ops[m] (List.getElem?_eq_getElem (by omega)) e (by simpa using he) hb
    rw [hli,decide_eq_true (by omega)]
  cases fuel with
  | zero=>omega
  | succ f=>
   refine ⟨fun hr=>(by rw [hr] at hmr;cases hmr),fun i hi=> ?_⟩
   rw [mem_ready] at hi
   obtain ⟨h1,o,ho,hedge⟩:=hi
   have hlt2:i < ops.length:=by
    have:=(Array.getElem?_eq_some_iff.1 ho).1
    simpa using this
   have ho3:ops[i]? =some o:=by simpa using ho
   have him:i=m:=by
    have hge:m≤i:=Decidable.byContradiction fun hge=>by
     have this:=hli i
     rw [decide_eq_true (by omega)] at this
     rw [Array.getD_eq_getD_getElem?,Array.getElem?_eq_getElem (by omega)] at h1 this
     simp at h1 this
     rw [h1] at this
     cases this
    refine Decidable.byContradiction fun hne=> ?_
    have hb:=hrest i (by omega) hlt2 m (by omega)
    have:=hmask _ hcl i m hb fun o' ho'' e he hbd=>by
     rw [ho3] at ho''
     cases ho''
     exact hedge e (by simpa using he) hbd
    rw [hli,decide_eq_false (by omega)] at this
    cases this
   subst him
   have edr:ops.drop i=o::ops.drop (i+1):=by
    rw [List.drop_eq_getElem_cons hlt]
    rw [List.getElem?_eq_getElem hlt] at ho3
    cases ho3;rfl
   rw [edr] at hw
   unfold wpListIn at hw
   have hcl':Closed ops (fun j=>(listed.setIfInBounds i true).getD j false):=by
    intro j o' hj hDj e he hb
    by_cases hji:j=i
    ·subst hji
     rw [ho3] at hj
     cases hj
     exact getD_set_true (hedge e (by simpa using he) hb)
    ·simp only [Go.getD_set_ne false (fun h=>hji h.symm)] at hDj
     exact getD_set_true (hcl j o' hj hDj e he hb)
   have hli': ∀j,(listed.setIfInBounds i true).getD j false=decide (j < i+1):=fun j=>by
    by_cases hji:j=i
    ·subst hji
     rw [Array.getD_eq_getD_getElem?];simp [hsz,hlt]
    ·rw [Go.getD_set_ne false (fun h=>hji h.symm),hli]
     by_cases h2:j < i
     ·rw [decide_eq_true h2,decide_eq_true (by omega)]
     ·rw [decide_eq_false h2,decide_eq_false (by omega)]
   have key:=fun a w (hw2:wpListIn (fc c.ro) 0 P ops.toArray Q (ops.drop (i+1)) a w)=>ih (i+1) f (listed.setIfInBounds i true) a w (by omega) (by omega) (by simp [hsz]) hcl' hli' (by omega) hw2
   unfold wpOpIn
   rw [ho]
   simp only
   split
   ·rename_i hwa
    rw [if_pos hwa] at hw
    exact Oper.wpIn_mono key hw
   ·rename_i hwa
    rw [if_neg hwa] at hw
    exact ⟨hw.1,key _ _ hw.2⟩
end
def lastB (n:Nat) (ops:List Oper):Bool:=(List.range ops.length).all fun i=>Nat.blt i n || (List.range i).all fun j=>((masks ops #[]).getD i 0).testBit j
theorem lastB_spec {n:Nat} {ops:List Oper} (h:lastB n ops=true): ∀i,n≤i→i < ops.length→ ∀j,j < i→((masks ops #[]).getD i 0).testBit j=true:=fun i h1 h2 j hj=>by
 have h3:=List.all_eq_true.1 h i (List.mem_range.2 h2)
 rw [Bool.or_eq_true] at h3
 rcases h3 with h3 | h3
 ·have:i < n:=by simpa using h3
  omega
 ·exact List.all_eq_true.1 h3 j (List.mem_range.2 hj)
def chkY (ops:List Oper) (sms:List Sm) (n N:Nat):Bool:=goAll (masks ops #[]) [] sms && dOk N sms && nkOk sms [] && edgesOk 0 ops && lastB n ops && Nat.ble n ops.length
section
variable {P:Program} {c:Base} {Q:Exit→Act→World→Prop} {g:Slots} {h:Keys} {al:Names}
theorem C_drawY (hm:P.follows .mixedOrders=true) {id n:Nat} {ops:List Oper}
  (H:RSeq P c ops.toArray (fun sms g h al=>chkY ops sms n c.N=true∧wl P c ops.toArray Q (ops.drop n) g h al) (ops.take n) [] g h al):wc P c (.region id ops.toArray true) Q g h al:=by
 intro a w hs
 obtain ⟨Es,h1,h2,h3,h4⟩:=RSeq.split (g0:=g) (h0:=h) (al0:=al) (ops.take n) [] H
 simp only [chkY,Bool.and_eq_true,List.nil_append] at h3
 obtain ⟨⟨⟨⟨⟨c1,c2⟩,c3⟩,c4⟩,c5⟩,c6⟩:=h3
 have hn:n≤ops.length:=Nat.le_of_ble_eq_true c6
 have hle:n=Es.length:=by rw [h1,List.length_take];omega
 refine wpIn_region_any hm ?_
 have hsz:(Array.replicate ops.toArray.size false).size=ops.length:=by simp
 have hfl: ∀i,(Array.replicate ops.toArray.size false).getD i false=false:=fun i=>by
  rw [Array.getD_eq_getD_getElem?,Array.getElem?_replicate]
  split <;> rfl
 have hfalse:(fun i=>(Array.replicate ops.toArray.size false).getD i false)=fun _=>false:=funext hfl
 have h0: ∀{β:Type} (l:List (Chg β)) (i:Nat) (f:Nat→β),runC (fun _=>false) i l f=f:=by
  intro β l
  induction l with
  | nil=>intro i f;rfl
  | cons C l ih=>intro i f;simp only [runC,cond_false];exact ih _ _
 have htake: ∀(i:Nat) (o:Oper) (E:Eff),ops[i]? =some o→Es[i]? =some E→(ops.take n)[i]? =some o:=fun i o E ho hE=>by
  have hi:i < Es.length:=(List.getElem?_eq_some_iff.1 hE).1
  rw [List.getElem?_take,if_pos (by omega)];exact ho
 refine any_pre (g0:=g) (h0:=h) (al0:=al) hn hle (fun i o E ho hE=>(h2 i o E (htake i o E ho hE) hE).1) (fun i E hE=> ?_) c1 c2 c3 c4 (lastB_spec c5) (fun fuel listed a w hsz hcl hli hfu hs=> ?_) _ _ a _ hsz ?_ (fun j _=>hfl j) ?_ ?_
 ·have hi:i < Es.length:=(List.getElem?_eq_some_iff.1 hE).1
  have:=(h2 i ops[i] E (htake i _ E (List.getElem?_eq_getElem (by omega)) hE) hE).2
  rw [xp5,xp5,xp5]
  simpa [List.map_take] using this
 ·rw [xm5,xm5,xm5] at hs
  exact any_tail c4 (lastB_spec c5) (ops.length - n) n fuel listed a w (Nat.le_refl _) (by omega) hsz hcl hli hfu (h4 a w (by simpa using hs))
 ·rw [hfalse];intro i o _ hD;cases hD
 ·rw [hfalse]
  have: ∀n,left (fun _=>false) n=n:=by
   intro n
   induction n with
   | zero=>rfl
   | succ n ih=>simp only [left,ih];rfl
  rw [this];simp
 ·rw [hfalse,h0,h0,h0]
  obtain ⟨η,s⟩:=hs
  exact ⟨η,s.ext (Ext.drew w)⟩
end
theorem R_endY {P:Program} {c:Base} {Q:Exit→Act→World→Prop} {g:Slots} {h:Keys} {al:Names} {A:Array Oper} {sms:List Sm} {n N:Nat} {ops rest:List Oper} (h1:chkY ops sms n N=true) (h2:wl P c A Q rest g h al):RSeq P c A (fun sms g h al=>chkY ops sms n N=true∧wl P c A Q rest g h al) [] sms g h al:=⟨h1,h2⟩
end An
