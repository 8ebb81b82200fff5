/- Part 3 of a proof: Lehmer, W8, Wh, Wh2, W9, Wh3, W10, Fr, W11, W12, Split, Tl, LibZa, S1, Ref, Ref2, Ref3, S2, S3, S4, Tl2, S5, LibY, LibZ, S6, LibZb, S7, Tl3, S8, S9, S10, S11, N1, Sv, Tv, Tv2, Tv3, LibZe, LibZd, Tw, LibZf, P1, Gs, Tx, Chg, Chg2a, Ty, LibZc. -/
import Derived.ProofKit
import Derived.OpenShut
import Derived.Deep.Slices
import Derived.Shelf.SlSortCmp.NoneTotal
import Derived.Shelf.Sort.Plain
import Derived.Shelf.Slices.In.SortNone
import Derived.Shelf.Slices.CompactI
import Derived.Test.YtjkefpnidicimaaGreatM42
set_option maxHeartbeats 4000000
set_option maxRecDepth 100000
namespace An
def Steps (a b u0 u1 v0 v1:Nat) (e:Bool):Prop:=
 u0 < 4294967296/\u1 < 4294967296/\v0 < 4294967296/\v1 < 4294967296/\
  ∃x y,(e=true->u0*a=v0*b+x/\v1*b=u1*a+y)/\(e=false->v0*b=u0*a+x/\u1*a=v1*b+y)/\y<=x/\x+y<=a/\Nat.gcd x y=Nat.gcd a b
def sg (e:Bool):Int:=if e then -1 else 1
structure Sim (α β a1 a2 u1 v1 u2 v2:Nat) (e:Bool):Prop where
  h1:(a1:Int)=sg e*(u1*α - v1*β)
  h2:(a2:Int)= - (sg e*(u2*α - v2*β))
  det:(u1:Int)*v2 - u2*v1=sg e
  le1:u2<=v2
  le2:u1+u2<=v1+v2
  pos:1<=v2
  ge:a2<=a1
theorem combA {σ u1 v1 u2 v2 A B:Int} (hσ:σ*σ=1) (hd:u1*v2 - u2*v1=σ):v2*(σ*(u1*A - v1*B))+v1*(-(σ*(u2*A - v2*B)))=A:=by grind
theorem combB {σ u1 v1 u2 v2 A B:Int} (hσ:σ*σ=1) (hd:u1*v2 - u2*v1=σ):u2*(σ*(u1*A - v1*B))+u1*(-(σ*(u2*A - v2*B)))=B:=by grind
theorem qq8 (e:Bool):sg e*sg e=1:=by cases e <;> rfl
theorem qc4 (e:Bool):sg (!e)= - sg e:=by cases e <;> rfl
theorem Sim.sumA {α β a1 a2 u1 v1 u2 v2:Nat} {e:Bool} (s:Sim α β a1 a2 u1 v1 u2 v2 e):v2*a1+v1*a2=α:=by
 have h:=qq8 e;have h1:=s.h1;have h2:=s.h2;have hd:=s.det;have:(v2:Int)*a1+v1*a2=α:=by rw [h1,h2];exact combA h hd
 exact_mod_cast this
theorem Sim.sumB {α β a1 a2 u1 v1 u2 v2:Nat} {e:Bool} (s:Sim α β a1 a2 u1 v1 u2 v2 e):u2*a1+u1*a2=β:=by
 have h:=qq8 e;have h1:=s.h1;have h2:=s.h2;have hd:=s.det;have:(u2:Int)*a1+u1*a2=β:=by rw [h1,h2];exact combB h hd
 exact_mod_cast this
theorem Sim.init {α β:Nat} (h:β<=α):Sim α β α β 1 0 0 1 false:=⟨by simp [sg],by simp [sg],by simp [sg],by omega,by omega,by omega,h⟩
theorem Sim.step {α β a1 a2 u1 v1 u2 v2:Nat} {e:Bool} (s:Sim α β a1 a2 u1 v1 u2 v2 e) (hc:v2<=a2):Sim α β a2 (a1%a2) u2 v2 (u1+a1 / a2*u2) (v1+a1 / a2*v2) (!e):=by
 have h0:1<=a2:=by have:=s.pos;omega
 have hq:1<=a1 / a2:=(Nat.le_div_iff_mul_le h0).2 (by have:=s.ge;omega);have hdm:=zdg a1 a2;have hm:((a1%a2:Nat):Int)=a1 - a2*((a1 / a2:Nat):Int):=by
  have:((a2*(a1 / a2)+a1%a2:Nat):Int)=a1:=by rw [hdm]
  rw [Int.natCast_add,zed] at this;omega
 have h1:=s.h1;have h2:=s.h2;have hd:=s.det;refine ⟨?_,?_,?_,?_,?_,?_,zgj (zck _ h0)⟩
 ·rw [qc4,h2];generalize sg e=σ at*;grind
 ·rw [hm,qc4];simp only [Int.natCast_add,zed];generalize sg e=σ at*
  generalize ((a1 / a2:Nat):Int)=q at*
  grind
 ·rw [qc4,<-hd];simp only [Int.natCast_add,zed];generalize ((a1 / a2:Nat):Int)=q at*
  grind
 ·generalize a1 / a2=q at*
  obtain ⟨p,rfl⟩: ∃p,q=p+1:=⟨q - 1,by omega⟩
  rw [zcn,zcn];have:=zdi p s.le1;have:=s.le2;omega
 ·generalize a1 / a2=q at*
  obtain ⟨p,rfl⟩: ∃p,q=p+1:=⟨q - 1,by omega⟩
  rw [zcn,zcn];have:=zdi p s.le1;have:=s.le2;have:=s.le1;omega
 ·have:=Nat.mul_le_mul hq s.pos;omega
theorem Sim.small {α β a1 a2 u1 v1 u2 v2:Nat} {e:Bool} (s:Sim α β a1 a2 u1 v1 u2 v2 e) (hc:v2<=a2) (hα:α < 18446744073709551616) (hβ:β<=α):
  v1+v2 < 18446744073709551616/\u1 < 18446744073709551616/\a1 / a2*u2 < 18446744073709551616/\u1+a1 / a2*u2 < 18446744073709551616/\a1 / a2*v2 < 18446744073709551616/\v1+a1 / a2*v2 < 18446744073709551616:=by
 have hA:=s.sumA;have hB:=s.sumB;have h0:=s.pos;have hge:=s.ge;have k1:v2<=v2*a1:=zgd _ (by omega);have k2:v1<=v1*a2:=zgd _ (by omega);have k3:u1<=u1*a2:=zgd _ (by omega);have k4:a1 / a2*u2<=a1*u2:=zbt _ (Nat.div_le_self _ _);have k5:a1 / a2*v2<=a1*v2:=zbt _ (Nat.div_le_self _ _);rw [zce a1] at k4 k5;omega
theorem Sim.small32 {α β a1 a2 u1 v1 u2 v2:Nat} {e:Bool} (s:Sim α β a1 a2 u1 v1 u2 v2 e) (hc:v2<=a2) (hα:α < 18446744073709551616):u2 < 4294967296/\v2 < 4294967296:=by
 have hA:=s.sumA;have h0:=s.pos;have hge:=s.ge;have h1:v2*v2<=v2*a1:=zdi _ (by omega);have h2:v2 < 4294967296:=by
  rcases zcx v2 4294967296 with h | h
  ·exact h
  ·have:=Nat.mul_le_mul h h;omega
 have:=s.le1;omega
theorem Sim.whole {a b P:Nat} {α β a1 a2 u1 v1 u2 v2:Nat} {e:Bool} (s:Sim α β a1 a2 u1 v1 u2 v2 e) (hP:0 < P) (hα:a / P=α) (hβ:b / P=β) (hc:v2<=a2) (hd:v1+v2<=a1 - a2):
  ∃x y:Nat,(x:Int)=sg e*(u1*a - v1*b)/\(y:Int)= -(sg e*(u2*a - v2*b))/\y<=x/\v2*x+v1*y=a/\Nat.gcd x y=Nat.gcd a b:=by
 have hσ:=qq8 e;have h1:=s.h1;have h2:=s.h2;have hdet:=s.det;have ha:=zdg a P;have hb:=zdg b P;have ra:=zck a hP;have rb:=zck b hP;rw [hα] at ha;rw [hβ] at hb;generalize a%P=ρ at*
 generalize b%P=τ at*
 have ha':(a:Int)=P*α+ρ:=by rw [<-ha];simp
 have hb':(b:Int)=P*β+τ:=by rw [<-hb];simp
 have l1:=s.le1;have l2:=s.le2;have hge:=s.ge;have b1:u2*ρ<=v2*(P - 1):=Nat.mul_le_mul l1 (by omega);have b2:v2*τ<=v2*(P - 1):=zdi _ (by omega);have b3:(u1+u2)*ρ<=(v1+v2)*(P - 1):=Nat.mul_le_mul l2 (by omega);have b4:(v1+v2)*τ<=(v1+v2)*(P - 1):=zdi _ (by omega);have b5:v2*P<=a2*P:=zbt _ hc;have b6:(v1+v2)*P<=(a1 - a2)*P:=zbt _ hd;have b7:v2*(P - 1)<=v2*P:=zdi _ (by omega);have b8:(v1+v2)*(P - 1)<=(v1+v2)*P:=zdi _ (by omega);have c1:((u2*ρ:Nat):Int)<=((a2*P:Nat):Int):=by omega
 have c2:((v2*τ:Nat):Int)<=((a2*P:Nat):Int):=by omega
 have c3:(((u1+u2)*ρ:Nat):Int)<=(((a1 - a2)*P:Nat):Int):=by omega
 have c4:(((v1+v2)*τ:Nat):Int)<=(((a1 - a2)*P:Nat):Int):=by omega
 have p1:(0:Int)<=((u2*ρ:Nat):Int):=by omega
 have p2:(0:Int)<=((v2*τ:Nat):Int):=by omega
 have p3:(0:Int)<=(((u1+u2)*ρ:Nat):Int):=by omega
 have p4:(0:Int)<=(((v1+v2)*τ:Nat):Int):=by omega
 rw [zed,zed,] at c1 c2;rw [zed,zed,Int.natCast_add,Int.natCast_sub hge] at c3 c4;rw [zed] at p1 p2;rw [zed,Int.natCast_add] at p3 p4;have hy:(0:Int)<= -(sg e*(u2*a - v2*b)):=by
  rw [ha',hb'];have e1: -(sg e*((u2:Int)*(P*α+ρ) - v2*(P*β+τ)))=a2*P - sg e*(u2*ρ - v2*τ):=by
   rw [h2];generalize sg e=σ;grind
  rw [e1];cases e with
  | false=>simp only [sg,zet,↓reduceIte];omega
  | true=>simp only [sg,↓reduceIte];omega
 have hxy:(0:Int)<=sg e*(u1*a - v1*b) - -(sg e*(u2*a - v2*b)):=by
  rw [ha',hb'];have e1:sg e*((u1:Int)*(P*α+ρ) - v1*(P*β+τ)) - -(sg e*((u2:Int)*(P*α+ρ) - v2*(P*β+τ)))=(a1 - a2)*P+sg e*((u1+u2)*ρ - (v1+v2)*τ):=by
   rw [h1,h2];generalize sg e=σ;grind
  rw [e1];cases e with
  | false=>simp only [sg,zet,↓reduceIte];omega
  | true=>simp only [sg,↓reduceIte];omega
 obtain ⟨y,hy'⟩:=zfg hy;obtain ⟨x,hx'⟩:=zfg (show (0:Int)<=sg e*(u1*a - v1*b) by omega);have hle:y<=x:=by omega
 have eA:(v2:Int)*x+v1*y=a:=by
  rw [<-hx',<-hy'];exact combA hσ hdet
 have eB:(u2:Int)*x+u1*y=b:=by
  rw [<-hx',<-hy'];exact combB hσ hdet
 have eA':v2*x+v1*y=a:=by exact_mod_cast eA
 have eB':u2*x+u1*y=b:=by exact_mod_cast eB
 refine ⟨x,y,hx'.symm,hy'.symm,hle,eA',?_⟩;apply Nat.dvd_antisymm
 ·refine Nat.dvd_gcd ?_ ?_
  ·rw [<-eA'];exact Nat.dvd_add (Nat.dvd_mul_left_of_dvd (Nat.gcd_dvd_left x y) _) (Nat.dvd_mul_left_of_dvd (zgx x y) _)
  ·rw [<-eB'];exact Nat.dvd_add (Nat.dvd_mul_left_of_dvd (Nat.gcd_dvd_left x y) _) (Nat.dvd_mul_left_of_dvd (zgx x y) _)
 ·have ga:((Nat.gcd a b:Nat):Int) ∣ (a:Int):=zfq.2 (Nat.gcd_dvd_left a b);have gb:((Nat.gcd a b:Nat):Int) ∣ (b:Int):=zfq.2 (zgx a b);refine Nat.dvd_gcd ?_ ?_
  ·apply zfq.1;have hx2:(x:Int)=sg e*(u1*a - v1*b):=hx'.symm;rw [hx2];exact zfz (Int.dvd_sub (zfz ga) (zfz gb))
  ·apply zfq.1;have hy2:(y:Int)= -(sg e*(u2*a - v2*b)):=hy'.symm;rw [hy2];exact Int.dvd_neg.2 (zfz (Int.dvd_sub (zfz ga) (zfz gb)))
theorem Sim.steps {a b P s:Nat} {α β a1 a2 u1 v1 u2 v2:Nat} {e:Bool} (t:Sim α β a1 a2 u1 v1 u2 v2 e) (hP:0 < P) (hα:a*2 ^ s / P=α) (hβ:b*2 ^ s / P=β) (hc:v2<=a2) (hd:v1+v2<=a1 - a2) (hW:α < 18446744073709551616) (hu1:u1 < 4294967296) (hv1:v1 < 4294967296):
  v1=0∨Steps a b u1 u2 v1 v2 (!e):=by
 rcases zcf v1 with h | h
 ·exact .inl h
 ·refine .inr ?_;obtain ⟨k1,k2⟩:=t.small32 hc hW;obtain ⟨X,Y,hX,hY,hle,hA,hg⟩:=t.whole hP hα hβ hc hd;have h2s:0 < 2 ^ s:=zdb (by omega);have hc2:((2 ^ s:Nat):Int)≠0:=by omega
  have fac: ∀(Z:Nat) (w:Int),(Z:Int)=((2 ^ s:Nat):Int)*w-> ∃z:Nat,(z:Int)=w/\Z=2 ^ s*z:=fun Z w hZ=>by
   have hw:0<=w:=by
    rcases Int.lt_or_le w 0 with h' | h'
    ·have h1:((2 ^ s:Nat):Int)*w < 0:=Int.mul_neg_of_pos_of_neg (by omega) h';omega
    ·exact h'
   obtain ⟨z,hz⟩:=zfg hw;refine ⟨z,hz.symm,?_⟩;have:(Z:Int)=((2 ^ s*z:Nat):Int):=by rw [hZ,hz,zed]
   exact_mod_cast this
  have ea:((a*2 ^ s:Nat):Int)=a*((2 ^ s:Nat):Int):=zed _ _;have eb:((b*2 ^ s:Nat):Int)=b*((2 ^ s:Nat):Int):=zed _ _;rw [ea,eb] at hX hY;obtain ⟨x,hx,rfl⟩:=fac X (sg e*(u1*a - v1*b)) (by rw [hX];generalize sg e=σ;generalize ((2 ^ s:Nat):Int)=p;grind);obtain ⟨y,hy,rfl⟩:=fac Y (-(sg e*(u2*a - v2*b))) (by rw [hY];generalize sg e=σ;generalize ((2 ^ s:Nat):Int)=p;grind);refine ⟨hu1,k1,hv1,k2,x,y,fun he=> ?_,fun he=> ?_,Nat.le_of_mul_le_mul_left hle h2s,?_,?_⟩
  ·have he':e=false:=by cases e <;> simp_all
   subst he';simp only [sg,zet,↓reduceIte] at hx hy;have h1:((u1*a:Nat):Int)=((v1*b+x:Nat):Int):=by push_cast;omega
   have h2:((v2*b:Nat):Int)=((u2*a+y:Nat):Int):=by push_cast;omega
   exact ⟨by exact_mod_cast h1,by exact_mod_cast h2⟩
  ·have he':e=true:=by cases e <;> simp_all
   subst he';simp only [sg,↓reduceIte] at hx hy;have h1:((v1*b:Nat):Int)=((u1*a+x:Nat):Int):=by push_cast;omega
   have h2:((u2*a:Nat):Int)=((v2*b+y:Nat):Int):=by push_cast;omega
   exact ⟨by exact_mod_cast h1,by exact_mod_cast h2⟩
  ·have h3:2 ^ s*(v2*x+v1*y)=2 ^ s*a:=by
    rw [zce (2 ^ s) a,<-hA,zcy];ac_rfl
   have h4:=Nat.eq_of_mul_eq_mul_left h2s h3;have h5:x<=v2*x:=zfh _ t.pos;have h6:y<=v1*y:=zfh _ h;omega
  ·rw [Nat.gcd_mul_left,zce a,zce b,Nat.gcd_mul_left] at hg;exact Nat.eq_of_mul_eq_mul_left h2s hg
end An
namespace An.S
open Go Go.Proofs An Tryz
instance ti4:TyI Tryz.prog 4 1 false:=⟨by kernel_rfl,by kernel_rfl⟩
instance ti396:TyI Tryz.prog 396 5 true:=⟨by kernel_rfl,by kernel_rfl⟩
instance fo396_0:FoI Tryz.prog 396 0 0:=⟨by kernel_rfl⟩
instance fo396_1:FoI Tryz.prog 396 1 1:=⟨by kernel_rfl⟩
instance fo396_2:FoI Tryz.prog 396 2 2:=⟨by kernel_rfl⟩
instance fo396_3:FoI Tryz.prog 396 3 3:=⟨by kernel_rfl⟩
instance fo396_4:FoI Tryz.prog 396 4 4:=⟨by kernel_rfl⟩
instance fi336:FnI Tryz.prog 336:=⟨_,func336,by kernel_rfl,rfl⟩
instance fi372:FnI Tryz.prog 372:=⟨_,func372,by kernel_rfl,rfl⟩
instance fi373:FnI Tryz.prog 373:=⟨_,func373,by kernel_rfl,rfl⟩
instance fi374:FnI Tryz.prog 374:=⟨_,func374,by kernel_rfl,rfl⟩
instance fi375:FnI Tryz.prog 375:=⟨_,func375,by kernel_rfl,rfl⟩
instance fi394:FnI Tryz.prog 394:=⟨_,func394,by kernel_rfl,rfl⟩
theorem zr396:(Tryz.prog.info? 396).bind (·.zero)=some (.agg #[.int .u64 0,.int .u64 0,.int .u64 0,.int .u64 0,.bool false])/\ ∀F w,(tS [⟨1,false,(tE (.int .u64 0))⟩,⟨1,false,(tE (.int .u64 0))⟩,⟨1,false,(tE (.int .u64 0))⟩,⟨1,false,(tE (.int .u64 0))⟩,⟨1,false,(tE (.bool false))⟩]).p F w (.agg #[.int .u64 0,.int .u64 0,.int .u64 0,.int .u64 0,.bool false]):=⟨by kernel_rfl,fun _ _=>⟨_,rfl,rfl,⟨fun _=>rfl,rfl⟩,⟨fun _=>rfl,rfl⟩,⟨fun _=>rfl,rfl⟩,⟨fun _=>rfl,rfl⟩,⟨fun _=>rfl,rfl⟩,trivial⟩⟩
theorem bu396:BuI Tryz.prog 396 (fun i=>[(0,1),(1,1),(2,1),(3,1),(4,1)][i]?) (.agg #[.int .u64 0,.int .u64 0,.int .u64 0,.int .u64 0,.bool false]):=BuI.struct underlying396 (by kernel_rfl) (by kernel_rfl)
theorem qt7 (a b:Nat) (hab:b<=a) (hla:3<=(dig 4294967296 a).length) (ha:(dig 4294967296 a).length<=100000):
  Ct Tryz.prog 372 [tN a,tN b] (tX (fun y:Nat×Nat×Nat×Nat×Bool=>y.2.2.1=0∨Steps a b y.1 y.2.1 y.2.2.1 y.2.2.2.1 y.2.2.2.2) (fun y=>tS [⟨1,false,tE (.int .u64 ((y.1:Nat):Int))⟩,⟨1,false,tE (.int .u64 ((y.2.1:Nat):Int))⟩,⟨1,false,tE (.int .u64 ((y.2.2.1:Nat):Int))⟩,⟨1,false,tE (.int .u64 ((y.2.2.2.1:Nat):Int))⟩,⟨1,false,tB y.2.2.2.2⟩])):=by
 refine Ct.intro func372 rfl ntmps372 rfl ?_;intro w F;obtain ⟨k,hk⟩: ∃k,(dig 4294967296 a).length=k+3:=⟨(dig 4294967296 a).length - 3,by omega⟩
 have ht:=(xc3 x9 a).getD (by decide) (k+2);refine A2 ?_;refine RE (x7 (k:=4) (n:=5) (agg:=true) zr396.1 zr396.2 rfl) trivial trivial qA ?_;refine A14 ?_;refine R2 (x4 sl233 (k+2) (by omega) (gN (by omega))) rfl rfl ?_;refine A1 ?_;refine Rt (x3 (xu9 _ (by omega)) fi378 rfl) qA ?_;refine A8 ?_;generalize hs:32 - Lib.bitLen ((dig 4294967296 a).getD (k+2) 0)=s;obtain ⟨hs31,hAW,_h1,_h2,_h3⟩:=norm (m:=k+1) hk hs;have hBA0:b*2 ^ s<=a*2 ^ s:=zbt _ hab;have hBA:(b*2 ^ s / 4294967296 ^ (k+1))<=(a*2 ^ s / 4294967296 ^ (k+1)):=Nat.div_le_div_right hBA0;have hAL:(a*2 ^ s / 4294967296 ^ (k+1)) < 18446744073709551616:=qi0 (n:=k+3) (by omega) hAW;refine Rt (x3 (ja1 a _ s k hk hs31 (by rw [hk];exact hAW) (by omega)) fi394 rfl) qC ?_;refine A3 ?_;refine Rt (x3 (ja1 b _ s k hk hs31 (by rw [hk];exact zfy hBA0 hAW) (by omega)) fi394 rfl) qC ?_;refine A6 ?_;refine R1 (xb0 (r:=tS [⟨1,false,(tE (.int .u64 0))⟩,⟨1,false,tE (.int .u64 ((1:Nat):Int))⟩,⟨1,false,(tE (.int .u64 0))⟩,⟨1,false,(tE (.int .u64 0))⟩,⟨1,false,(tE (.bool false))⟩]) (ts:=[(1,tE (.int .u64 ((1:Nat):Int)))]) bu396 zr396.2 (Bc 1 rfl rfl rfl zao)) rfl (RE (x7 (k:=9) (n:=5) (agg:=true) zr396.1 zr396.2 rfl) trivial trivial qA ?_);refine A11 ?_;refine cL (fun (fm:(Nat)×(Nat)×(Nat)×(Nat)×(Nat)×(Nat)×(Nat)×(Nat)×(Bool))=>(fun (a1:Nat) (a2:Nat) (u0:Nat) (u1:Nat) (v0:Nat) (v1:Nat) (u2:Nat) (v2:Nat) (e:Bool)=>Sim (a*2 ^ s / 4294967296 ^ (k+1)) (b*2 ^ s / 4294967296 ^ (k+1)) a1 a2 u1 v1 u2 v2 e/\(v0=0∨Steps a b u0 u1 v0 v1 e)/\u1 < 4294967296/\v1 < 4294967296) fm.1 fm.2.1 fm.2.2.1 fm.2.2.2.1 fm.2.2.2.2.1 fm.2.2.2.2.2.1 fm.2.2.2.2.2.2.1 fm.2.2.2.2.2.2.2.1 fm.2.2.2.2.2.2.2.2) (wI fun (a1:Nat) (a2:Nat) (u0:Nat) (u1:Nat) (v0:Nat) (v1:Nat) (u2:Nat) (v2:Nat) (e:Bool)=>uV (uV (uO (uV (uV (uO uN 4 (.ptr 4 0)) 7 (tE (.int .u64 ((a1:Nat):Int)))) 8 (tE (.int .u64 ((a2:Nat):Int)))) 9 (.ptr 9 0)) 10 (tE (.int .u64 ((u2:Nat):Int)))) 11 (tE (.int .u64 ((v2:Nat):Int)))) (wI fun (a1:Nat) (a2:Nat) (u0:Nat) (u1:Nat) (v0:Nat) (v1:Nat) (u2:Nat) (v2:Nat) (e:Bool)=>uK (uK uN 4 396 5 true [.val (tS [⟨1,false,tE (.int .u64 ((0:Nat):Int))⟩,⟨1,false,tE (.int .u64 ((0:Nat):Int))⟩,⟨1,false,tE (.int .u64 ((0:Nat):Int))⟩,⟨1,false,tE (.int .u64 ((0:Nat):Int))⟩,⟨1,false,tB false⟩])]) 9 396 5 true [.val (tS [⟨1,false,tE (.int .u64 ((u0:Nat):Int))⟩,⟨1,false,tE (.int .u64 ((u1:Nat):Int))⟩,⟨1,false,tE (.int .u64 ((v0:Nat):Int))⟩,⟨1,false,tE (.int .u64 ((v1:Nat):Int))⟩,⟨1,false,tB e⟩])]) [4,9] (fun (fm:(Nat)×(Nat)×(Nat)×(Nat)×(Nat)×(Nat)×(Nat)×(Nat)×(Bool))=>(fun (a1:Nat) (a2:Nat) (u0:Nat) (u1:Nat) (v0:Nat) (v1:Nat) (u2:Nat) (v2:Nat) (e:Bool)=>a2) fm.1 fm.2.1 fm.2.2.1 fm.2.2.2.1 fm.2.2.2.2.1 fm.2.2.2.2.2.1 fm.2.2.2.2.2.2.1 fm.2.2.2.2.2.2.2.1 fm.2.2.2.2.2.2.2.2) (((a*2 ^ s / 4294967296 ^ (k+1)),(b*2 ^ s / 4294967296 ^ (k+1)),0,1,0,0,0,1,false)) (by dsimp only;exact ⟨Sim.init hBA,.inl rfl,by omega,by omega⟩) ?_;intro fm hI;obtain ⟨a1,a2,u0,u1,v0,v1,u2,v2,e⟩:=fm;replace hI:Sim (a*2 ^ s / 4294967296 ^ (k+1)) (b*2 ^ s / 4294967296 ^ (k+1)) a1 a2 u1 v1 u2 v2 e/\(v0=0∨Steps a b u0 u1 v0 v1 e)/\u1 < 4294967296/\v1 < 4294967296:=hI;show wc _ _ _ _ (uV (uV (uO (uV (uV (uO uN 4 (.ptr 4 0)) 7 (tE (.int .u64 ((a1:Nat):Int)))) 8 (tE (.int .u64 ((a2:Nat):Int)))) 9 (.ptr 9 0)) 10 (tE (.int .u64 ((u2:Nat):Int)))) 11 (tE (.int .u64 ((v2:Nat):Int)))) (uK (uK uN 4 396 5 true [.val (tS [⟨1,false,tE (.int .u64 ((0:Nat):Int))⟩,⟨1,false,tE (.int .u64 ((0:Nat):Int))⟩,⟨1,false,tE (.int .u64 ((0:Nat):Int))⟩,⟨1,false,tE (.int .u64 ((0:Nat):Int))⟩,⟨1,false,tB false⟩])]) 9 396 5 true [.val (tS [⟨1,false,tE (.int .u64 ((u0:Nat):Int))⟩,⟨1,false,tE (.int .u64 ((u1:Nat):Int))⟩,⟨1,false,tE (.int .u64 ((v0:Nat):Int))⟩,⟨1,false,tE (.int .u64 ((v1:Nat):Int))⟩,⟨1,false,tB e⟩])]) _;obtain ⟨hS,hR,hu1,hv1⟩:=hI;have hge:=hS.ge;have hpos:=hS.pos;have ha1:a1<=(a*2 ^ s / 4294967296 ^ (k+1)):=by have h:=hS.sumA;have h2:a1<=v2*a1:=zfh _ hpos;omega
 refine A7 ?_;refine RGcaseD (t:=34) rfl (fun h53=> ?_) (fun h53=> ?_)
 ·
  have hc:v2<=a2:=by omega
  refine A2 ?_;refine Rg (zbg h53) rfl (xd6 (wsub64 (by omega) (by omega))) rfl qB ?_;refine A3 ?_;obtain ⟨s1,s2,s3,s4,s5,s6⟩:=hS.small (by omega) hAL hBA;refine Rg (zbg h53) rfl (xd8 (wadd64 (by omega))) rfl qB ?_;refine A4 ?_;refine x6 rfl (fun h53_2=> ?_) (fun h53_2=> ?_)
  ·
   have hcd:v1+v2<=a1 - a2:=by omega
   refine A7 ?_;refine R2 (xe4 (r:=((a1 / a2:Nat):Int)) (by omega) (wquo64 (by omega))) rfl rfl ?_;refine A2 ?_;refine R2 (xd9 (by omega) wrem64) rfl rfl ?_;refine A18 ?_;refine A3 ?_;refine R2 (xi2 (wmul64 (by omega))) rfl rfl (R2 (xd8 (wadd64 (by omega))) rfl rfl ?_);refine A1 ?_;refine xi8 (0) ti123 rfl rfl rfl rfl (Up.g 0 rfl rfl rfl) rfl rfl ?_;refine A1 ?_;refine xi8 (0) ti123 rfl rfl rfl rfl (Up.g 1 rfl rfl rfl) rfl rfl ?_;refine A12 ?_;refine R2 (xi2 (wmul64 (by omega))) rfl rfl (R2 (xd8 (wadd64 (by omega))) rfl rfl ?_);refine A1 ?_;refine xi8 (0) ti123 rfl rfl rfl rfl (Up.g 2 rfl rfl rfl) rfl rfl ?_;refine A1 ?_;refine xi8 (0) ti123 rfl rfl rfl rfl (Up.g 3 rfl rfl rfl) rfl rfl ?_;refine A8 ?_;refine xi8 (0) ti4 rfl rfl rfl rfl (Up.g 4 rfl rfl rfl) rfl rfl ?_;refine A2 ?_;have hst:=hS.step hc;have hnx:=hS.steps (s:=s) (zdb (by decide)) rfl rfl hc hcd hAL hu1 hv1;obtain ⟨m1,m2⟩:=hS.small32 hc hAL;have hlt:a1%a2 < a2:=zck _ (by omega);exact kF ((a2,a1%a2,u1,u2,v1,v2,u1+(a1 / a2)*u2,v1+(a1 / a2)*v2,!e)) ⟨(by dsimp only;exact ⟨hst,hnx,m1,m2⟩),(by dsimp only;omega)⟩
  ·
   refine A12 ?_;exact EC rfl ⟨_,_,_,_,_,rfl,rfl,ti396,(fun F w v h=>⟨(u0,u1,v0,v1,e),hR,h⟩)⟩
 ·
  refine A18 ?_;refine A6 ?_;exact EC rfl ⟨_,_,_,_,_,rfl,rfl,ti396,(fun F w v h=>⟨(u0,u1,v0,v1,e),hR,h⟩)⟩
theorem zc5 (a b:Nat) (ha:(dig 4294967296 a).length<=100000) (hb:(dig 4294967296 b).length<=100000):
  Ct Tryz.prog 334 [tN a,tN b] (tN (Nat.gcd a b)):=by
 refine Ct.intro func334 rfl ntmps334 rfl ?_;intro w F;refine A5 ?_;refine xf0 (fun (fm:(Nat)×(Nat))=>(fun (p:Nat) (q:Nat)=>q<=p/\Nat.gcd p q=Nat.gcd a b/\(dig 4294967296 p).length<=100000) fm.1 fm.2) (wB fun (p:Nat) (q:Nat)=>uV (uV uN 0 (tN p)) 1 (tN q)) (wB fun (p:Nat) (q:Nat)=>fun _=>none) (nm []) ?_ ?_
 ·
  refine A4 ?_;refine Rt (x3 (yr1 _ _) fi213 rfl) qB ?_;refine A3 ?_;refine x6 rfl (fun h10=> ?_) (fun h10=> ?_)
  ·
   refine A6 ?_;exact kF ((b,a)) (by dsimp only;exact ⟨zgj (xs0.1 h10),zgk _ _,hb⟩)
  ·
   refine A1 ?_;exact kF ((a,b)) (by dsimp only;exact ⟨by have:=mt xs0.2 h10;omega,rfl,ha⟩)
 ·
  intro fm hj;obtain ⟨p,q⟩:=fm;replace hj:q<=p/\Nat.gcd p q=Nat.gcd a b/\(dig 4294967296 p).length<=100000:=hj;show wc _ _ _ _ (uV (uV uN 0 (tN p)) 1 (tN q)) (fun _=>none) _;obtain ⟨j1,j2,j3⟩:=hj;refine A2 ?_;refine cL (fun (fm:(Nat)×(Nat))=>(fun (x:Nat) (y:Nat)=>y<=x/\Nat.gcd x y=Nat.gcd a b/\(dig 4294967296 x).length<=100000) fm.1 fm.2) (wB fun (x:Nat) (y:Nat)=>uV (uV uN 0 (tN x)) 1 (tN y)) (wB fun (x:Nat) (y:Nat)=>fun _=>none) [] (fun (fm:(Nat)×(Nat))=>(fun (x:Nat) (y:Nat)=>x+y) fm.1 fm.2) ((p,q)) (by dsimp only;exact ⟨j1,j2,j3⟩) ?_;intro fm hI;obtain ⟨x,y⟩:=fm;replace hI:y<=x/\Nat.gcd x y=Nat.gcd a b/\(dig 4294967296 x).length<=100000:=hI;show wc _ _ _ _ (uV (uV uN 0 (tN x)) 1 (tN y)) (fun _=>none) _;obtain ⟨hle,hg,hl⟩:=hI;have hyx:=xd0 x9 hle;refine A8 ?_;refine x6 rfl (fun h13=> ?_) (fun h13=> ?_)
  ·
   have hy0:0 < y:=by
    rcases zcf y with h | h
    ·subst h;rw [xc8] at h13;simp at h13
    ·exact h
   refine A7 ?_;refine R2 (x3 (qt7 x y (by omega) (by omega) (by omega)) fi372 rfl) rfl rfl (RE (x7 (k:=5) (n:=5) (agg:=true) zr396.1 zr396.2 rfl) trivial trivial qA (RE (xb8 (agg:=true) (es:=5) (0) ti396 rfl rfl rfl) qB qA trivial ?_));refine A3 ?_;refine wb0 (k:=5) rfl ?_;rintro ⟨u0,u1,v0,v1,e⟩ hst;refine yb2 (k:=5) (e':=⟨396,5,true,[.val (tS [⟨1,false,tE (.int .u64 ((u0:Nat):Int))⟩,⟨1,false,tE (.int .u64 ((u1:Nat):Int))⟩,⟨1,false,tE (.int .u64 ((v0:Nat):Int))⟩,⟨1,false,tE (.int .u64 ((v1:Nat):Int))⟩,⟨1,false,tB e⟩])]⟩) rfl rfl ?_;refine A6 ?_;refine x6 rfl (fun h15=> ?_) (fun h15=> ?_)
   ·
    refine A4 ?_;refine Rt (x3 (z6 _ _ (by omega) (by omega) (by omega)) fi336 rfl) qB ?_;refine A14 ?_;have hlt:x%y < y:=zck _ hy0;exact kF ((y,x%y)) ⟨(by dsimp only;exact ⟨by omega,by rw [zgk,<-Nat.gcd_rec,zgk];exact hg,by omega⟩),(by dsimp only;omega)⟩
   ·
    have hst:=hst.resolve_left (by show ¬v0=0;omega);obtain ⟨k1,k2,k3,k4,X,Y,hE,hO,hYX,hsum,hgg⟩:=hst;replace k1:u0 < 4294967296:=k1;replace k2:u1 < 4294967296:=k2;replace k3:v0 < 4294967296:=k3;replace k4:v1 < 4294967296:=k4;refine A6 ?_;refine xc2 rfl (fun h18=> ?_) (fun h18=> ?_)
    ·
     obtain ⟨e1,e2⟩:=hE h18;replace e1:u0*x=v0*y+X:=e1;replace e2:v1*y=u1*x+Y:=e2;refine A7 ?_;refine Rt (x3 (xq9 _ _ _ _ (by omega) (by omega) (by omega) (by omega) (by omega)) fi373 rfl) qD ?_;refine A6 ?_;refine Rt (x3 (xq9 _ _ _ _ (by omega) (by omega) (by omega) (by omega) (by omega)) fi373 rfl) qD ?_;refine A4 ?_;have hXl:=xd0 x9 (show X<=x by omega);exact kF ((X,Y)) ⟨(by dsimp only;exact ⟨hYX,by rw [hgg];exact hg,by omega⟩),(by dsimp only;omega)⟩ (hg:=(Sub.le rfl (Le.of (by dsimp only;rw [show v1*y - u1*x=Y by omega])) (Sub.le rfl (Le.of (by dsimp only;rw [show u0*x - v0*y=X by omega])) zay)))
    ·
     obtain ⟨e1,e2⟩:=hO h18;replace e1:v0*y=u0*x+X:=e1;replace e2:u1*x=v1*y+Y:=e2;refine A7 ?_;refine Rt (x3 (xq9 _ _ _ _ (by omega) (by omega) (by omega) (by omega) (by omega)) fi373 rfl) qD ?_;refine A6 ?_;refine Rt (x3 (xq9 _ _ _ _ (by omega) (by omega) (by omega) (by omega) (by omega)) fi373 rfl) qD ?_;refine A4 ?_;have hXl:=xd0 x9 (show X<=x by omega);exact kF ((X,Y)) ⟨(by dsimp only;exact ⟨hYX,by rw [hgg];exact hg,by omega⟩),(by dsimp only;omega)⟩ (hg:=(Sub.le rfl (Le.of (by dsimp only;rw [show u1*x - v1*y=Y by omega])) (Sub.le rfl (Le.of (by dsimp only;rw [show v0*y - u0*x=X by omega])) zay)))
  ·
   refine A13 ?_;refine x6 rfl (fun h24=> ?_) (fun h24=> ?_)
   ·
    refine A8 ?_;have hy0:y=0:=(xi1 x9).1 (zcw.1 (by omega));subst hy0;exact E1 rfl rfl (Le.of (by rw [<-hg,Nat.gcd_zero_right]))
   ·
    have hy0:0 < y:=by
     rcases zcf y with h | h
     ·subst h;rw [xc8] at h24;simp at h24
     ·exact h
    refine A2 ?_;refine xf0 (fun (fm:(Nat)×(Nat))=>(fun (p2:Nat) (q2:Nat)=>Nat.gcd p2 q2=Nat.gcd a b/\(dig 4294967296 p2).length<=2/\(dig 4294967296 q2).length<=2) fm.1 fm.2) (wB fun (p2:Nat) (q2:Nat)=>uV (uV uN 0 (tN p2)) 1 (tN q2)) (wB fun (p2:Nat) (q2:Nat)=>fun _=>none) (nm []) ?_ ?_
    ·
     refine A7 ?_;refine x6 rfl (fun h27=> ?_) (fun h27=> ?_)
     ·
      refine A4 ?_;refine Rt (x3 (z6 _ _ (by omega) (by omega) (by omega)) fi336 rfl) qB ?_;refine A13 ?_;have hlt:x%y < y:=zck _ hy0;have hml:=xd0 x9 (zgj hlt);exact kF ((y,x%y)) (by dsimp only;exact ⟨by rw [zgk,<-Nat.gcd_rec,zgk];exact hg,by omega,by omega⟩)
     ·
      refine A1 ?_;exact kF ((x,y)) (by dsimp only;exact ⟨hg,by omega,by omega⟩)
    ·
     intro fm hm;obtain ⟨p2,q2⟩:=fm;replace hm:Nat.gcd p2 q2=Nat.gcd a b/\(dig 4294967296 p2).length<=2/\(dig 4294967296 q2).length<=2:=hm;show wc _ _ _ _ (uV (uV uN 0 (tN p2)) 1 (tN q2)) (fun _=>none) _;obtain ⟨m1,m2,m3⟩:=hm;refine A3 ?_;refine R1 (x3 (jg4 (dig 4294967296 p2) (by omega) (xc3 x9 _)) fi374 rfl) rfl ?_;refine A1 ?_;refine R1 (x3 (jg4 (dig 4294967296 q2) (by omega) (xc3 x9 _)) fi374 rfl) rfl ?_;refine A6 ?_;have hp2:=(xa8 x9 p2 2).1 m2;have hq2:=(xa8 x9 q2 2).1 m3;refine cL (fun (fm:(Nat)×(Nat))=>(fun (r:Nat) (t:Nat)=>Nat.gcd r t=Nat.gcd a b/\r < 18446744073709551616/\t < 18446744073709551616) fm.1 fm.2) (wB fun (r:Nat) (t:Nat)=>uV (uV uN 10 (tE (.int .u64 ((r:Nat):Int)))) 11 (tE (.int .u64 ((t:Nat):Int)))) (wB fun (r:Nat) (t:Nat)=>fun _=>none) [] (fun (fm:(Nat)×(Nat))=>(fun (r:Nat) (t:Nat)=>t) fm.1 fm.2) ((p2,q2)) (by dsimp only;exact ⟨m1,hp2,hq2⟩) (hg:=(Sub.le rfl (zba (by dsimp only;rw [xm9 x9])) (Sub.le rfl (zba (by dsimp only;rw [xm9 x9])) zay))) ?_;intro fm hT;obtain ⟨r,t⟩:=fm;replace hT:Nat.gcd r t=Nat.gcd a b/\r < 18446744073709551616/\t < 18446744073709551616:=hT;show wc _ _ _ _ (uV (uV uN 10 (tE (.int .u64 ((r:Nat):Int)))) 11 (tE (.int .u64 ((t:Nat):Int)))) (fun _=>none) _;obtain ⟨t1,t2,t3⟩:=hT;refine A7 ?_;refine x6 rfl (fun h32=> ?_) (fun h32=> ?_)
     ·
      refine A7 ?_;refine R2 (xd9 (by omega) wrem64) rfl rfl ?_;refine A4 ?_;have hlt:r%t < t:=zck _ (by omega);exact kF ((t,r%t)) ⟨(by dsimp only;exact ⟨by rw [zgk,<-Nat.gcd_rec,zgk];exact t1,by omega,by omega⟩),(by dsimp only;omega)⟩
     ·
      refine A8 ?_;refine Rt (x3 (jw8 _ (by omega)) fi375 rfl) qA ?_;refine A4 ?_;exact E1 rfl rfl (Le.of (by rw [<-t1,show t=0 by omega,Nat.gcd_zero_right]))
end An.S
namespace An
open Go
structure Wh where
  neg:Bool
  l:List Nat
deriving DecidableEq
abbrev tWh (x:Wh):Ty:=tS [⟨1,false,tB x.neg⟩,⟨1,false,tLm x.l⟩]
def wh (z:Int):Wh:=⟨decide (z < 0),dig 65536 z.natAbs⟩
def len16 (z:Int):Nat:=(dig 65536 z.natAbs).length
def Wh.valid (x:Wh):Bool:=if x.l.length=0 then !x.neg else decide (x.l.length<=1024) && decide (x.l.getD (x.l.length - 1) 0≠0)
theorem x8:2<=65536:=by decide
theorem zd5 {l:List Nat} (hD:Dig 65536 l) (ht:Top l) (h:val 65536 l=0):l=[]:=by
 have:=yn6 x8 hD ht;rw [h,xc8] at this;exact this.symm
theorem Wh.of_valid {x:Wh} (hD:Dig 65536 x.l) (h:x.valid=true): ∃z:Int,x=wh z/\len16 z<=1024:=by
 obtain ⟨neg,l⟩:=x;simp only [Wh.valid] at h;split at h
 ·rename_i h0;have hl:l=[]:=zcw.1 h0;subst hl;refine ⟨0,?_,by simp [len16,xc8]⟩;have:neg=false:=by simpa using h
  subst this;simp [wh,xc8]
 ·rename_i h0;simp only [zcg,zdj] at h;have ht:Top l:=by
   intro x hx;have h1:l.getD (l.length - 1) 0=x:=by
    rw [zbh,<-List.getLast?_eq_getElem?,hx];rfl
   rw [<-h1];exact h.2
  have hu:=yn6 x8 hD ht;have hv:val 65536 l≠0:=fun h'=>h0 (by have hl0:l=[]:=zd5 hD ht h';rw [hl0];rfl);refine ⟨if neg then -(val 65536 l:Int) else (val 65536 l:Int),?_,?_⟩
  ·cases neg with
   | true=>
    simp only [wh,↓reduceIte,Int.natAbs_neg,Int.natAbs_natCast];rw [hu];congr 1;simp;omega
   | false=>
    simp only [wh,zet,↓reduceIte,Int.natAbs_natCast];rw [hu];simp
  ·have e:(if neg then -(val 65536 l:Int) else (val 65536 l:Int)).natAbs=val 65536 l:=by cases neg <;> simp
   rw [len16,e,hu];exact h.1
theorem ym7 {z:Int} (h:len16 z<=1024):(wh z).valid=true:=by
 unfold Wh.valid;by_cases h0:(wh z).l.length=0
 ·rw [if_pos h0];have:z.natAbs=0:=(xi1 x8).1 (zcw.1 h0);show (!decide (z < 0))=true;simp;omega
 ·rw [if_neg h0];have h1:(wh z).l.length<=1024:=h;simp only [zcg,zdj];refine ⟨h1,?_⟩;have ht:Top (wh z).l:=qm7 x8 z.natAbs;refine ht _ ?_;rw [List.getLast?_eq_getElem?,zbh];rw [zbi (by omega)];rfl
def sgn (p:Bool) (v:Nat):Int:=if p then -(v:Int) else v
theorem qr6 (p:Bool) (v:Nat):(sgn p v).natAbs=v:=by cases p <;> simp [sgn]
theorem yj4 (p:Bool) (v:Nat):wh (sgn p v)=⟨p && decide (v≠0),dig 65536 v⟩:=by
 simp only [wh,qr6]
 congr 1
 cases p
 ·simp [sgn]
 ·simp only [sgn,↓reduceIte,zdr];by_cases h:v=0 <;> simp [h];omega
theorem xh5 (z:Int):sgn (wh z).neg z.natAbs=z:=by
 simp only [sgn,wh];by_cases h:z < 0 <;> simp [h] <;> omega
theorem jc1 {x y:Int} (h:wh x=wh y):x=y:=by
 have h1:dig 65536 x.natAbs=dig 65536 y.natAbs:=congrArg Wh.l h;have h2:(wh x).neg=(wh y).neg:=congrArg Wh.neg h;have h3:x.natAbs=y.natAbs:=by rw [<-xm9 x8 x.natAbs,h1,xm9 x8]
 rw [<-xh5 x,<-xh5 y,h2,h3]
theorem pow2k (k:Nat):4294967296 ^ k=65536 ^ (2*k):=by rw [Nat.pow_mul]
theorem len32 (v:Nat):(dig 4294967296 v).length=((dig 65536 v).length+1) / 2:=by
 have h: ∀k,(dig 4294967296 v).length<=k↔(dig 65536 v).length<=2*k:=fun k=>by
  rw [xa8 x9,xa8 x8,pow2k]
 have h1:=(h (dig 4294967296 v).length).1 (zbs _);have h2:=(h (((dig 65536 v).length+1) / 2)).2 (by omega);omega
theorem zz9 (v:Nat):dgs 4294967296 (((dig 65536 v).length+1) / 2) (val 65536 (dig 65536 v))=dig 4294967296 v:=by
 rw [xm9 x8,<-len32,xo8 x9]
theorem je7 {v i n:Nat} {ls:List Nat} (hi:i < n) (hl:ls.length=2*n) (ht:ls.take (2*i)=dgs 65536 (2*i) v):
  ((ls.set (2*i) (v / 4294967296 ^ i%4294967296%65536)).set (2*i+1) (v / 4294967296 ^ i%4294967296 / 2 ^ 16)).length=2*n/\
   ((ls.set (2*i) (v / 4294967296 ^ i%4294967296%65536)).set (2*i+1) (v / 4294967296 ^ i%4294967296 / 2 ^ 16)).take (2*(i+1))=dgs 65536 (2*(i+1)) v:=by
 refine ⟨by simpa using hl,?_⟩;rw [show 2*(i+1)=2*i+1+1 by omega,xj8 (by simpa using (by omega:2*i+1 < ls.length)),xj8 (by omega),ht,xk6,xk6,pow2k]
 congr 1
 ·congr 2
  exact Nat.mod_mod_of_dvd _ (by decide)
 ·congr 1
  show v / 65536 ^ (2*i)%4294967296 / 65536=_;rw [zch 65536 (2*i),<-zdk];have: ∀x:Nat,x%4294967296 / 65536=x / 65536%65536:=fun x=>by omega
  exact this _
theorem qr0 {v n:Nat} {ls:List Nat} (hn:(dig 4294967296 v).length=n) (hv:0 < v) (hl:ls.length=2*n) (ht:ls.take (2*n)=dgs 65536 (2*n) v):
  (ls.getD (2*n - 1) 0=0->ls.take (2*n - 1)=dig 65536 v)/\(ls.getD (2*n - 1) 0≠0->ls=dig 65536 v)/\1<=n:=by
 have h32:=len32 v;rw [hn] at h32;have h16:=zh8 x8 hv;rw [<-hl,zbx,hl] at ht;subst ht;have hg:(dgs 65536 (2*n) v).getD (2*n - 1) 0=v / 65536 ^ (2*n - 1)%65536:=xs3 (by omega);refine ⟨fun h=> ?_,fun h=> ?_,by omega⟩
 ·rw [hg] at h;rw [yz9 (by omega)];have h1:v < 65536 ^ (2*n - 1):=by
   have h2:=(xa8 x8 v (2*n)).1 (by omega);have e:65536 ^ (2*n)=65536 ^ (2*n - 1)*65536:=by rw [<-zch];congr 1;omega
   rw [e] at h2;have h3:v / 65536 ^ (2*n - 1) < 65536:=zdc h2;rw [zcc h3] at h;exact (Nat.div_eq_zero_iff_lt (zdb (by decide))).1 h
  have h4:=(xa8 x8 v (2*n - 1)).2 h1;have h5:(dig 65536 v).length=2*n - 1:=by omega
  rw [<-h5,xo8 x8]
 ·rw [hg] at h;have h4: ¬(dig 65536 v).length<=2*n - 1:=fun h'=>h (by rw [zcz ((xa8 x8 v _).1 h')]);have h5:(dig 65536 v).length=2*n:=by omega
  rw [<-h5,xo8 x8]
theorem cut16 {m:Nat}:IntKind.u16.wrap (m:Int)=((m%65536:Nat):Int):=by rw [mu16];omega
end An
namespace An
def resW (z:Int):Wh:=if len16 z<=1024 then wh z else ⟨false,[]⟩
def resE (z:Int):Int:=if len16 z<=1024 then 0 else 3
theorem len32_le {z:Int} {n:Nat} (h:len16 z<=n):(dig 4294967296 z.natAbs).length<=n:=by
 have h1:(dig 65536 z.natAbs).length<=n:=h;rw [len32];omega
theorem qp9 {m n k:Nat} (hm:(dig 4294967296 m).length<=k) (hn:(dig 4294967296 n).length<=k):(dig 4294967296 (m+n)).length<=k+1:=by
 rw [xa8 x9] at*
 rw [zch];generalize (4294967296:Nat) ^ k=P at*;omega
theorem qj4 {m n k:Nat} (hm:(dig 4294967296 m).length<=k) (hn:(dig 4294967296 n).length<=k):(dig 4294967296 (m*n)).length<=k+k:=by
 rw [xa8 x9] at*
 rw [zez];exact Nat.mul_lt_mul'' hm hn
theorem wa4 {m n k:Nat} (hm:(dig 4294967296 m).length<=k) (hn:(dig 4294967296 n).length<=k):(dig 4294967296 (Nat.gcd m n)).length<=k:=by
 rcases zcf m with h | h
 ·subst h;rw [Nat.gcd_zero_left];exact hn
 ·exact zcj (xd0 x9 (Nat.gcd_le_left n h)) hm
theorem qn7 {p:Bool} {m n:Nat}:sgn p (m+n)=sgn p m+sgn p n:=by
 cases p <;> simp only [sgn,zet,↓reduceIte] <;> omega
theorem qm9 {p:Bool} {m n:Nat} (h:n<=m):sgn p (m - n)=sgn p m+sgn (!p) n:=by
 cases p <;> simp only [sgn,zet,↓reduceIte,Bool.not_true,Bool.not_false] <;> omega
theorem zu0 {p:Bool} {m n:Nat} (h:m<=n):sgn (!p) (n - m)=sgn p m+sgn (!p) n:=by
 cases p <;> simp only [sgn,zet,↓reduceIte,Bool.not_true,Bool.not_false] <;> omega
theorem yh7 {x y:Int}:sgn (!((wh x).neg==(wh y).neg)) (x.natAbs*y.natAbs)=x*y:=by
 have hx:=xh5 x;have hy:=xh5 y
 conv=>rhs;rw [<-hx,<-hy]
 generalize (wh x).neg=p;generalize (wh y).neg=q;cases p <;> cases q <;> simp [sgn,Int.mul_neg,Int.neg_mul]
end An
namespace An.S
open Go Go.Proofs An Tryz
instance ti39:TyI Tryz.prog 39 2 true:=⟨by kernel_rfl,by kernel_rfl⟩
instance sl283:SlI Tryz.prog 283 39 2 true:=⟨zhh,ti39⟩
instance fo39_0:FoI Tryz.prog 39 0 0:=⟨by kernel_rfl⟩
instance fo39_1:FoI Tryz.prog 39 1 1:=⟨by kernel_rfl⟩
instance fi206:FnI Tryz.prog 206:=⟨_,func206,by kernel_rfl,rfl⟩
instance fi212:FnI Tryz.prog 212:=⟨_,func212,by kernel_rfl,rfl⟩
instance fi214:FnI Tryz.prog 214:=⟨_,func214,by kernel_rfl,rfl⟩
instance fi282:FnI Tryz.prog 282:=⟨_,func282,by kernel_rfl,rfl⟩
instance fi283:FnI Tryz.prog 283:=⟨_,func283,by kernel_rfl,rfl⟩
instance fi332:FnI Tryz.prog 332:=⟨_,func332,by kernel_rfl,rfl⟩
instance fi333:FnI Tryz.prog 333:=⟨_,func333,by kernel_rfl,rfl⟩
instance fi334:FnI Tryz.prog 334:=⟨_,func334,by kernel_rfl,rfl⟩
instance fi337:FnI Tryz.prog 337:=⟨_,func337,by kernel_rfl,rfl⟩
instance fi338:FnI Tryz.prog 338:=⟨_,func338,by kernel_rfl,rfl⟩
theorem el39:ElI Tryz.prog 39 2 32 true (.agg #[.bool false,.slice none 0 0]):=⟨ti39,by kernel_rfl,by kernel_rfl⟩
theorem zr39:(Tryz.prog.info? 39).bind (·.zero)=some (.agg #[.bool false,.slice none 0 0])/\ ∀F w,zac.p F w (.agg #[.bool false,.slice none 0 0]):=⟨by kernel_rfl,fun _ _=>⟨_,rfl,rfl,⟨fun _=>rfl,rfl⟩,⟨fun _=>rfl,⟨none,0,rfl,zbs _,by decide,.inl rfl⟩⟩,trivial⟩⟩
theorem bu39:BuI Tryz.prog 39 (fun i=>[(0,1),(1,1)][i]?) (.agg #[.bool false,.slice none 0 0]):=BuI.struct underlying39 (by kernel_rfl) (by kernel_rfl)
theorem zf39:Flat 2 true (.agg #[.bool false,.slice none 0 0]):=xo1 (by intro u hu;simp at hu;rcases hu with rfl | rfl <;> rfl)
instance un4:UnI Tryz.prog 4 (.bool):=⟨zhi⟩
instance un283:UnI Tryz.prog 283 (.slice 39):=⟨zhh⟩
theorem zq0 {α:Type} {p:α->Bool} {l:List α} {i:Nat} {d:α} (hi:i < l.length):(l.take (i+1)).all p=((l.take i).all p && p (l.getD i d)):=by
 rw [zby hi,List.all_append];simp [hi]
theorem ji9 {α:Type} {p:α->Bool} {l:List α} {i:Nat} {d:α} (hi:i < l.length) (h:p (l.getD i d)=false):l.all p=false:=by
 rw [List.all_eq_false];refine ⟨l[i],zfx hi,?_⟩;rw [zbh,zbi hi] at h;simpa using h
theorem yw7 (x:Wh):
  Ct Tryz.prog 206 [tWh x] (tB x.valid):=by
 refine Ct.intro func206 rfl ntmps206 rfl ?_;intro w F;refine A16 ?_;refine xg9 (s:=5) rfl (fun hl5=> ?_);refine A5 ?_;refine x6 rfl (fun h24=> ?_) (fun h24=> ?_)
 ·
  refine A10 ?_;exact E1 rfl rfl (zau (by simp only [Wh.valid];rw [if_pos (by omega)]))
 ·
  refine A7 ?_;refine RGcaseD (t:=14) rfl (fun h27=> ?_) (fun h27=> ?_)
  ·
   refine A3 ?_;refine Rg (zbg h27) rfl (xd6 zah) rfl qB (Rg (zbg h27) rfl (x4 sl37 (x.l.length - 1) (by omega) (gN (by omega))) rfl qB ?_);refine A7 ?_;exact E1 rfl rfl (zau (by simp only [Wh.valid];rw [if_neg (by omega),zbg (show x.l.length<=1024 by omega),zdr];exact zea.2 (by omega)))
  ·
   refine A12 ?_;exact E1 rfl rfl (zau (by simp only [Wh.valid];rw [if_neg (by omega),zbf (show ¬x.l.length<=1024 by omega),zfb]))
theorem qe3 (ws:List Wh):
  Ct Tryz.prog 212 [tL 2 true tWh ws] (tB (ws.all Wh.valid)):=by
 refine Ct.intro func212 rfl ntmps212 rfl ?_;intro w F;refine xg9 (s:=0) rfl (fun hl0=> ?_);refine A14 ?_;refine cL (fun (i:Nat)=>i<=ws.length/\(ws.take i).all Wh.valid=true) (fun (i:Nat)=>uV (uV (uV uN 5 (tL 2 true tWh ws)) 6 (tI ws.length)) 7 (tI i)) (fun (i:Nat)=>fun _=>none) [] (fun (i:Nat)=>ws.length - i) (0) ⟨zbq _,rfl⟩ ?_;intro i hI;obtain ⟨hi,ha⟩:=hI;refine A6 ?_;refine x6 rfl (fun h32=> ?_) (fun h32=> ?_)
 ·
  refine A6 ?_;refine R2 (x4 sl283 i (by omega) (zai (l:=ws) (n:=i) (d:=⟨false,[]⟩))) rfl rfl ?_;refine A1 ?_;refine RE (x7 (k:=4) (n:=2) (agg:=true) zr39.1 zr39.2 rfl) trivial trivial qA ?_;refine A6 ?_;refine R1 (x3 (yw7 _) fi206 rfl) rfl ?_;refine A3 ?_;refine xc2 rfl (fun h33=> ?_) (fun h33=> ?_)
  ·
   refine A11 ?_;exact E1 rfl rfl (zau (ji9 (l:=ws) (i:=i) (d:=⟨false,[]⟩) (by omega) (by simpa using h33)).symm)
  ·
   refine A7 ?_;exact kF (i+1) ⟨⟨by omega,by rw [zq0 (l:=ws) (i:=i) (d:=⟨false,[]⟩) (by omega),ha];simpa using h33⟩,(by omega)⟩
 ·
  refine A11 ?_;exact E1 rfl rfl (zau (by rw [<-ha,show i=ws.length by omega,zbx]))
theorem xo5 (x y:Int) (hx:len16 x<=1024) (hy:len16 y<=1024):Ct Tryz.prog 212 [tL 2 true tWh [wh x,wh y]] (tB true):=by
 have:=qe3 [wh x,wh y];simp only [List.all_cons,List.all_nil,ym7 hx,ym7 hy,Bool.and_true] at this;exact this
theorem xn1 (v:Nat) (h:(dig 65536 v).length<=1000000):Ct Tryz.prog 214 [tLm (dig 65536 v)] (tN v):=by
 have:=c_pack (dig 65536 v) (xc3 x8 v) h;rw [zz9] at this;exact this
theorem wa0 (v:Nat):Ct Tryz.prog 335 [tN v] (tN v):=by
 have:=xp0 (dig 4294967296 v);rw [yc5 (qm7 x9 v)] at this;exact this
theorem yk3 (xs:List Nat) (h:xs.length<=1000000):Ct Tryz.prog 216 [tLm xs] (tLm xs):=Ct.ofG (yi1 xs h) rfl
theorem yk6 (p:Bool) (v:Nat) (h:(dig 4294967296 v).length<=100000):
  Ct Tryz.prog 333 [tB p,tN v] (tWh (wh (sgn p v))):=by
 refine Ct.intro func333 rfl ntmps333 rfl ?_;intro w F;refine A2 ?_;refine RE (x7 (k:=4) (n:=2) (agg:=true) zr39.1 zr39.2 rfl) trivial trivial qA ?_;refine A5 ?_;refine R1 (x3 (wa0 _) fi335 rfl) rfl ?_;refine A11 ?_;refine x6 rfl (fun h37=> ?_) (fun h37=> ?_)
 ·
  have hv0:v=0:=(xi1 x9).1 (zcw.1 (by omega));subst hv0;refine A2 ?_;refine R0 (xb0 (r:=zac) (ts:=[]) bu39 zr39.2 zao) ?_;refine A5 ?_;exact EC rfl ⟨_,_,_,_,_,rfl,rfl,ti39,(Le.of (by rw [yj4,xc8];simp))⟩
 ·
  have hv0:0 < v:=by
   rcases zcf v with h' | h'
   ·subst h';rw [xc8] at h37;simp at h37
   ·exact h'
  refine A6 ?_;refine R2 (xi2 zah) rfl rfl (RE (xg0 (k:=17) (t:=tE (.int .u16 0)) (ts:=rW .u16 (List.replicate (2*(dig 4294967296 v).length) 0)) (2*(dig 4294967296 v).length) (2*(dig 4294967296 v).length) zgy el64 (fun _ _=>rfl) rfl (by omega) (by omega) (zbs _) (by omega) (by omega) (xp5 _)) qB trivial qA ?_);refine A12 ?_;refine cL (fun (fm:(Nat)×(List Nat))=>(fun (i:Nat) (ls:List Nat)=>i<=(dig 4294967296 v).length/\ls.length=2*(dig 4294967296 v).length/\ls.take (2*i)=dgs 65536 (2*i) v) fm.1 fm.2) (wB fun (i:Nat) (ls:List Nat)=>uV (uV (uV (uO (uO (uV uN 0 (tB p)) 4 (.ptr 4 0)) 5 (.sl 17 1 0 (2*(dig 4294967296 v).length))) 18 (tN v)) 19 (tI (dig 4294967296 v).length)) 20 (tI i)) (wB fun (i:Nat) (ls:List Nat)=>uK (uK uN 4 39 2 true [.val (tWh ⟨false,[]⟩)]) 17 64 1 false (rW .u16 ls)) [4,17] (fun (fm:(Nat)×(List Nat))=>(fun (i:Nat) (ls:List Nat)=>(dig 4294967296 v).length - i) fm.1 fm.2) ((0,List.replicate (2*(dig 4294967296 v).length) 0)) (by dsimp only;exact ⟨zbq _,by simp,rfl⟩) ?_;intro fm hI;obtain ⟨i,ls⟩:=fm;replace hI:i<=(dig 4294967296 v).length/\ls.length=2*(dig 4294967296 v).length/\ls.take (2*i)=dgs 65536 (2*i) v:=hI;show wc _ _ _ _ (uV (uV (uV (uO (uO (uV uN 0 (tB p)) 4 (.ptr 4 0)) 5 (.sl 17 1 0 (2*(dig 4294967296 v).length))) 18 (tN v)) 19 (tI (dig 4294967296 v).length)) 20 (tI i)) (uK (uK uN 4 39 2 true [.val (tWh ⟨false,[]⟩)]) 17 64 1 false (rW .u16 ls)) _;obtain ⟨hi,hl,ht⟩:=hI;have hx:=xc0 x9 v i;have hxW:=(xc3 x9 v).getD (by decide) i;refine A6 ?_;refine x6 rfl (fun h41=> ?_) (fun h41=> ?_)
  ·
   refine A7 ?_;refine R2 (x4 sl233 (i) (by omega) (gN (by omega))) rfl rfl ?_;refine A9 ?_;refine R2 (xi2 zah) rfl rfl ?_;refine A1 ?_;refine R1 (x5 zhc (isS zhb) cut16) rfl (R2 (zag sl37 rfl) rfl rfl (RE (xb8 (2*i) ti64 (xj0 (by omega)) (by omega) (xh1 (m:=_) rfl)) qB qA trivial ?_));refine A5 ?_;refine R2 (xi2 zah) rfl rfl ?_;refine A2 ?_;refine R2 (xh3 (by decide) (shrN (s:=16) rfl (by decide))) rfl rfl (R1 (x5 zhc (isS zhb) (wu16 (by omega) (by omega))) rfl (R2 (zag sl37 rfl) rfl rfl (RE (xb8 (2*i+1) ti64 (xj0 (by rw [zdy];omega)) (by omega) (xh1 (m:=_) rfl)) qB qA trivial ?_)));refine A7 ?_;obtain ⟨n1,n2⟩:=je7 (by omega) hl ht;rw [<-hx] at n1 n2;exact kF ((i+1,(ls.set (2*i) ((dig 4294967296 v).getD i 0%65536)).set (2*i+1) ((dig 4294967296 v).getD i 0 / 2 ^ 16))) ⟨(by dsimp only;exact ⟨by omega,n1,n2⟩),(by dsimp only;omega)⟩
  ·
   have him:i=(dig 4294967296 v).length:=by omega
   subst him;obtain ⟨e1,e2,e3⟩:=qr0 rfl hv0 hl ht;refine A12 ?_;refine R2 (zag sl37 rfl) rfl rfl (RE (xc1 (2*(dig 4294967296 v).length - 1) ti64 (xn7 (by omega)) (by omega)) qA qA trivial ?_);refine A3 ?_;refine x6 rfl (fun h45=> ?_) (fun h45=> ?_)
   ·
    refine A5 ?_;refine R2 (yk4 sl37 (2*(dig 4294967296 v).length - 1) (by omega) (by omega) rfl) rfl rfl ?_;refine A6 ?_;refine RE (xi6 (f:=fun n:Nat=>tE (.int .u16 n)) (xs:=ls.take (2*(dig 4294967296 v).length - 1)) (fun _ h=>h) zi4 (by rw [zde];omega)) qA qA trivial (R2 (xb0 (r:=tS [⟨1,false,tB p⟩,⟨1,false,tLm (ls.take (2*(dig 4294967296 v).length - 1))⟩]) (ts:=[(0,tB p),(1,tLm (ls.take (2*(dig 4294967296 v).length - 1)))]) bu39 zr39.2 (Bc 0 rfl rfl rfl (Bc 1 rfl rfl rfl zao))) rfl rfl ?_);refine A4 ?_;exact EC rfl ⟨_,_,_,_,_,rfl,rfl,ti39,(Le.of (by rw [yj4,e1 (by omega),zbg (show v≠0 by omega),Bool.and_true]))⟩
   ·
    refine A5 ?_;refine RE (xi6 (f:=fun n:Nat=>tE (.int .u16 n)) (xs:=ls) (fun _ h=>h) (xi4 hl) hl) qA qA trivial (R2 (xb0 (r:=tS [⟨1,false,tB p⟩,⟨1,false,tLm ls⟩]) (ts:=[(0,tB p),(1,tLm ls)]) bu39 zr39.2 (Bc 0 rfl rfl rfl (Bc 1 rfl rfl rfl zao))) rfl rfl ?_);refine A4 ?_;exact EC rfl ⟨_,_,_,_,_,rfl,rfl,ti39,(Le.of (by rw [yj4,e2 (by omega),zbg (show v≠0 by omega),Bool.and_true]))⟩
theorem xq1 (p:Bool) (v:Nat) (h:(dig 4294967296 v).length<=100000):
  Ct Tryz.prog 282 [tB p,tN v] (tT [tWh (resW (sgn p v)),tI (resE (sgn p v))]):=by
 refine Ct.intro func282 rfl ntmps282 rfl ?_;intro w F;refine A2 ?_;refine RE (x7 (k:=4) (n:=2) (agg:=true) zr39.1 zr39.2 rfl) trivial trivial qA ?_;refine A7 ?_;refine R2 (x3 (yk6 _ _ h) fi333 rfl) rfl rfl (RE (x7 (k:=6) (n:=2) (agg:=true) zr39.1 zr39.2 rfl) trivial trivial qA ?_);refine A12 ?_;refine x6 rfl (fun h89=> ?_) (fun h89=> ?_)
 ·
  have hn: ¬len16 (sgn p v)<=1024:=by show ¬(wh (sgn p v)).l.length<=1024;omega
  refine A2 ?_;refine R0 (xb0 (r:=zac) (ts:=[]) bu39 zr39.2 zao) ?_;refine A6 ?_;exact EN (rs:=[.cell 4 39,.tmp 5]) rfl rfl ⟨⟨_,_,_,_,_,rfl,rfl,ti39,(Le.of (by rw [resW,if_neg hn]))⟩,⟨_,rfl,(zba (by rw [resE,if_neg hn]))⟩,trivial⟩
 ·
  have hn:len16 (sgn p v)<=1024:=by show (wh (sgn p v)).l.length<=1024;omega
  refine A10 ?_;exact EN (rs:=[.cell 4 39,.tmp 5]) rfl rfl ⟨⟨_,_,_,_,_,rfl,rfl,ti39,(Le.of (by rw [resW,if_pos hn]))⟩,⟨_,rfl,(zba (by rw [resE,if_pos hn]))⟩,trivial⟩
theorem c_sum (p:Bool) (m:Nat) (q:Bool) (n:Nat) (hm:(dig 4294967296 m).length<=10000) (hn:(dig 4294967296 n).length<=10000):
  Ct Tryz.prog 332 [tB p,tN m,tB q,tN n] (tT [tWh (resW (sgn p m+sgn q n)),tI (resE (sgn p m+sgn q n))]):=by
 have hmn:=qp9 (m:=m) (n:=n) hm hn;refine Ct.intro func332 rfl ntmps332 rfl ?_;intro w F;refine A2 ?_;refine RE (x7 (k:=8) (n:=2) (agg:=true) zr39.1 zr39.2 rfl) trivial trivial qA ?_;refine A11 ?_;refine xc2 rfl (fun h97=> ?_) (fun h97=> ?_)
 ·
  have hpq:p=q:=by simpa using h97
  subst hpq;refine A5 ?_;refine R2 (x3 (ja8 m n (by omega) (by omega)) fi337 rfl) rfl rfl (R2 (x3 (xq1 p (m+n) (by omega)) fi282 rfl) rfl rfl ?_);refine A8 ?_;exact EN (rs:=[.cell 8 39,.tmp 9]) rfl rfl ⟨⟨_,_,_,_,_,rfl,rfl,ti39,(Le.of (by rw [qn7]))⟩,⟨_,rfl,(zba (by rw [qn7]))⟩,trivial⟩
 ·
  have hpq:q= !p:=by cases p <;> cases q <;> simp_all
  subst hpq;refine A7 ?_;refine R2 (x3 (yr1 m n) fi213 rfl) rfl rfl ?_;refine A3 ?_;refine x6 rfl (fun h100=> ?_) (fun h100=> ?_)
  ·
   have hle:n<=m:=by
    have:=mt xs0.2 (by omega: ¬cmpN m n < 0);omega
   refine A5 ?_;refine R2 (x3 (zj0 m n (by omega) (by omega)) fi338 rfl) rfl rfl (R2 (x3 (xq1 p (m - n) (by have:=xd0 x9 (Nat.sub_le m n);omega)) fi282 rfl) rfl rfl ?_);refine A8 ?_;exact EN (rs:=[.cell 8 39,.tmp 9]) rfl rfl ⟨⟨_,_,_,_,_,rfl,rfl,ti39,(Le.of (by rw [qm9 hle]))⟩,⟨_,rfl,(zba (by rw [qm9 hle]))⟩,trivial⟩
  ·
   have hle:m < n:=xs0.1 (by omega);refine A7 ?_;refine R2 (x3 (zj0 n m (by omega) (by omega)) fi338 rfl) rfl rfl (R2 (x3 (xq1 (!p) (n - m) (by have:=xd0 x9 (Nat.sub_le n m);omega)) fi282 rfl) rfl rfl ?_);refine A7 ?_;exact EN (rs:=[.cell 8 39,.tmp 9]) rfl rfl ⟨⟨_,_,_,_,_,rfl,rfl,ti39,(Le.of (by rw [zu0 (zgj hle)]))⟩,⟨_,rfl,(zba (by rw [zu0 (zgj hle)]))⟩,trivial⟩
theorem c_Add (x y:Int) (hx:len16 x<=1024) (hy:len16 y<=1024):
  Ct Tryz.prog 279 [tWh (wh x),tWh (wh y)] (tT [tWh (resW (x+y)),tI (resE (x+y))]):=by
 have hx32:=len32_le hx;have hy32:=len32_le hy;refine Ct.intro func279 rfl ntmps279 rfl ?_;intro w F;refine A4 ?_;refine RE (x7 (k:=4) (n:=2) (agg:=true) zr39.1 zr39.2 rfl) trivial trivial qA ?_;refine A8 ?_;refine R2 (xb5 (n:=2) (f:=tWh) [wh x,wh y] zhh el39 zf39 rfl (fun _=>inferInstance) rfl rfl rfl) rfl rfl (R1 (x3 (xo5 x y hx hy) fi212 rfl) rfl ?_);refine A12 ?_;refine R1 (x3 (xn1 (Int.natAbs x) (by show len16 x<=1000000;omega)) fi214 rfl) rfl ?_;refine A4 ?_;refine R1 (x3 (xn1 (Int.natAbs y) (by show len16 y<=1000000;omega)) fi214 rfl) rfl (Rt (x3 (c_sum (wh x).neg x.natAbs (wh y).neg y.natAbs (by omega) (by omega)) fi332 rfl) qD ?_);refine A7 ?_;exact EN (rs:=[.cell 4 39,.tmp 5]) rfl rfl ⟨⟨_,_,_,_,_,rfl,rfl,ti39,(Le.of (by rw [xh5,xh5]))⟩,⟨_,rfl,(zba (by rw [xh5,xh5]))⟩,trivial⟩
theorem c_Mul (x y:Int) (hx:len16 x<=1024) (hy:len16 y<=1024):
  Ct Tryz.prog 215 [tWh (wh x),tWh (wh y)] (tT [tWh (resW (x*y)),tI (resE (x*y))]):=by
 have hx32:=len32_le hx;have hy32:=len32_le hy;have hmul:=qj4 (k:=1024) (m:=x.natAbs) (n:=y.natAbs) (by omega) (by omega);refine Ct.intro func215 rfl ntmps215 rfl ?_;intro w F;refine A4 ?_;refine RE (x7 (k:=4) (n:=2) (agg:=true) zr39.1 zr39.2 rfl) trivial trivial qA ?_;refine A8 ?_;refine R2 (xb5 (n:=2) (f:=tWh) [wh x,wh y] zhh el39 zf39 rfl (fun _=>inferInstance) rfl rfl rfl) rfl rfl (R1 (x3 (xo5 x y hx hy) fi212 rfl) rfl ?_);refine A15 ?_;refine R1 (x3 (xn1 (Int.natAbs x) (by show len16 x<=1000000;omega)) fi214 rfl) rfl ?_;refine A2 ?_;refine R1 (x3 (xn1 (Int.natAbs y) (by show len16 y<=1000000;omega)) fi214 rfl) rfl (R2 (x3 (qh5 x.natAbs y.natAbs (by omega) (by omega)) fi283 rfl) rfl rfl (R2 (x3 (xq1 (!((wh x).neg==(wh y).neg)) (x.natAbs*y.natAbs) (by omega)) fi282 rfl) rfl rfl ?_));refine A7 ?_;exact EN (rs:=[.cell 4 39,.tmp 5]) rfl rfl ⟨⟨_,_,_,_,_,rfl,rfl,ti39,(Le.of (by rw [yh7]))⟩,⟨_,rfl,(zba (by rw [yh7]))⟩,trivial⟩
theorem c_Gcd (x y:Int) (hx:len16 x<=1024) (hy:len16 y<=1024):
  Ct Tryz.prog 280 [tWh (wh x),tWh (wh y)] (tT [tWh (wh ((Int.gcd x y:Nat):Int)),tI 0]):=by
 have hx32:=len32_le hx;have hy32:=len32_le hy;have hg:=wa4 (k:=1024) (m:=x.natAbs) (n:=y.natAbs) (by omega) (by omega);refine Ct.intro func280 rfl ntmps280 rfl ?_;intro w F;refine A4 ?_;refine RE (x7 (k:=4) (n:=2) (agg:=true) zr39.1 zr39.2 rfl) trivial trivial qA ?_;refine A8 ?_;refine R2 (xb5 (n:=2) (f:=tWh) [wh x,wh y] zhh el39 zf39 rfl (fun _=>inferInstance) rfl rfl rfl) rfl rfl (R1 (x3 (xo5 x y hx hy) fi212 rfl) rfl ?_);refine A10 ?_;refine R1 (x3 (xn1 (Int.natAbs x) (by show len16 x<=1000000;omega)) fi214 rfl) rfl ?_;refine A2 ?_;refine R1 (x3 (xn1 (Int.natAbs y) (by show len16 y<=1000000;omega)) fi214 rfl) rfl (R2 (x3 (zc5 x.natAbs y.natAbs (by omega) (by omega)) fi334 rfl) rfl rfl (R2 (x3 (yk6 false (Nat.gcd x.natAbs y.natAbs) (by omega)) fi333 rfl) rfl rfl ?_));refine A5 ?_;exact EN (rs:=[.cell 4 39,.tmp 5]) rfl rfl ⟨⟨_,_,_,_,_,rfl,rfl,ti39,zao⟩,⟨_,rfl,zao⟩,trivial⟩
end An.S
namespace An
open Go
theorem jt4 {m y:Nat} (hy:0 < y):(-(m:Int)) / (y:Int)=(if m%y=0 then -((m / y:Nat):Int) else -((m / y+1:Nat):Int))/\(-(m:Int))%(y:Int)=(if m%y=0 then 0 else ((y - m%y:Nat):Int)):=by
 have h1:=zdg m y;have h2:=zck m hy;have hm:(m:Int)=y*((m / y:Nat):Int)+((m%y:Nat):Int):=by
  rw [<-zed,<-Int.natCast_add,h1]
 generalize m / y=q at*
 generalize m%y=r at*
 have hu:= @Int.ediv_emod_unique (-(m:Int)) (y:Int);split
 ·rename_i h0;refine (hu (by omega)).2 ⟨?_,by omega,by omega⟩;rw [hm,h0];grind
 ·refine (hu (by omega)).2 ⟨?_,by omega,by omega⟩;rw [hm,Int.natCast_sub (zgj h2),Int.natCast_add];grind
theorem zt1 {x y:Int} (hy:0 < y) {Q R:Nat} (h:(decide (x < 0)=true/\x.natAbs%y.natAbs≠0->Q=x.natAbs / y.natAbs+1/\R=y.natAbs - x.natAbs%y.natAbs)/\(¬(decide (x < 0)=true/\x.natAbs%y.natAbs≠0)->Q=x.natAbs / y.natAbs/\R=x.natAbs%y.natAbs)):
  sgn (!((wh x).neg==(wh y).neg)) Q=x / y/\sgn (wh y).neg R=x%y:=by
 have ey:(wh y).neg=false:=zbf (by omega);have ex:(wh x).neg=decide (x < 0):=rfl;rw [ey,ex];obtain ⟨n,rfl⟩:=zfg (Int.le_of_lt hy);have hn:0 < n:=by omega
 simp only [Int.natAbs_natCast] at h;by_cases hx:x < 0
 ·obtain ⟨m,hm⟩:=zfg (show 0<= -x by omega);have hxm:x= -(m:Int):=by omega
  subst hxm;obtain ⟨d1,d2⟩:=jt4 (m:=m) hn;simp only [Int.natAbs_neg,Int.natAbs_natCast] at h;rw [d1,d2,zbg hx];by_cases h0:m%n=0
  ·obtain ⟨e1,e2⟩:=h.2 (by simp [h0]);rw [e1,e2,if_pos h0,if_pos h0,h0];simp [sgn]
  ·obtain ⟨e1,e2⟩:=h.1 ⟨zbg hx,h0⟩;rw [e1,e2,if_neg h0,if_neg h0];simp [sgn]
 ·obtain ⟨m,rfl⟩:=zfg (show 0<=x by omega);simp only [Int.natAbs_natCast] at h;obtain ⟨e1,e2⟩:=h.2 fun h'=>hx (zes h'.1);rw [e1,e2,zbf hx];simp [sgn]
theorem jt9:(dig 4294967296 1).length<=1:=(xa8 x9 1 1).2 (by decide)
theorem zu8 (v:Nat) (h:v < 18446744073709551616):(dig 65536 v).length<=4:=(xa8 x8 v 4).2 (by simpa using h)
theorem qs7 {v i c:Nat} (h:c=(dig 65536 (v%65536 ^ i)).length):(v / 65536 ^ i%65536≠0->i+1=(dig 65536 (v%65536 ^ (i+1))).length)/\(v / 65536 ^ i%65536=0->c=(dig 65536 (v%65536 ^ (i+1))).length):=by
 have e:=xg7 65536 v i;refine ⟨fun h0=> ?_,fun h0=>by rw [e,h0,Nat.mul_zero,zek];exact h⟩;have hp:0 < 65536 ^ i:=zdb (by decide);have h1:(dig 65536 (v%65536 ^ (i+1))).length<=i+1:=(xa8 x8 _ _).2 (zck _ (zdb (by decide)));have h2: ¬(dig 65536 (v%65536 ^ (i+1))).length<=i:=fun h'=>by
  have h3:=(xa8 x8 _ _).1 h';rw [e] at h3;have h4:65536 ^ i*1<=65536 ^ i*(v / 65536 ^ i%65536):=zdi _ (by omega);omega
 omega
theorem shr16i (v i:Nat):v / 2 ^ (16*i)=v / 65536 ^ i:=by rw [Nat.pow_mul]
theorem toU64 {n:Int}:IntKind.u64.wrap n=(((n%18446744073709551616).toNat:Nat):Int):=by
 rw [mu64];omega
theorem negU64 {v:Nat} (hv:v < 18446744073709551616):IntKind.u64.wrap (0 - (v:Int))=(((18446744073709551616 - v)%18446744073709551616:Nat):Int):=by
 rw [mu64];omega
end An
namespace An.S
open Go Go.Proofs An Tryz
instance fi216:FnI Tryz.prog 216:=⟨_,func216,by kernel_rfl,rfl⟩
instance fi331:FnI Tryz.prog 331:=⟨_,func331,by kernel_rfl,rfl⟩
theorem ar236:ArI Tryz.prog 236 64 4 1 false:=⟨by kernel_rfl,ti64⟩
theorem qw5 (a:Nat) (ha:(dig 4294967296 a).length<=10000):Ct Tryz.prog 337 [tN a,tWs [1]] (tN (a+1)):=by
 have e:dig 4294967296 1=[1]:=by rw [xj9 x9 (by decide),show (1:Nat) / 4294967296=0 by decide,xc8]
 have:=ja8 a 1 (by omega) (by rw [e];decide);rw [tN,tN,e] at this;exact this
theorem jk5 (x y:Int) (hx:len16 x<=1024) (hy:len16 y<=1024) (hy0:0 < y):
  Ct Tryz.prog 285 [tWh (wh x),tWh (wh y)] (tT [tWh (wh (x / y)),tWh (wh (x%y)),tI 0]):=by
 have hx32:=len32_le hx;have hy32:=len32_le hy;have hq32:(dig 4294967296 (x.natAbs / y.natAbs)).length<=1024:=zcj (xd0 x9 (Nat.div_le_self _ _)) hx32;have hrl:x.natAbs%y.natAbs < y.natAbs:=zck _ (by omega);have hr32:(dig 4294967296 (x.natAbs%y.natAbs)).length<=1024:=zcj (xd0 x9 (zgj hrl)) hy32;have hs32:(dig 4294967296 (y.natAbs - x.natAbs%y.natAbs)).length<=1024:=zcj (xd0 x9 (Nat.sub_le _ _)) hy32;have hq1:=qp9 (k:=1024) (m:=x.natAbs / y.natAbs) (n:=1) hq32 (zcj jt9 (by decide));have ey:(wh y).neg=false:=zbf (by omega);have ex:(wh x).neg=decide (x < 0):=rfl;refine Ct.intro func285 rfl ntmps285 rfl ?_;intro w F;refine A4 ?_;refine RE (x7 (k:=4) (n:=2) (agg:=true) zr39.1 zr39.2 rfl) trivial trivial qA (RE (x7 (k:=5) (n:=2) (agg:=true) zr39.1 zr39.2 rfl) trivial trivial qA ?_);refine A8 ?_;refine R2 (xb5 (n:=2) (f:=tWh) [wh x,wh y] zhh el39 zf39 rfl (fun _=>inferInstance) rfl rfl rfl) rfl rfl (R1 (x3 (xo5 x y hx hy) fi212 rfl) rfl ?_);refine A15 ?_;refine xw4 rfl (zbf (by (intro h;have h2:(wh y).l.length=0:=(by omega);have h3:y.natAbs=0:=(xi1 x8).1 (zcw.1 h2);omega))) ?_;refine A6 ?_;refine R1 (x3 (xn1 (Int.natAbs y) (by show len16 y<=1000000;omega)) fi214 rfl) rfl ?_;refine A7 ?_;refine R1 (x3 (xn1 (Int.natAbs x) (by show len16 x<=1000000;omega)) fi214 rfl) rfl ?_;refine A1 ?_;refine R2 (x3 (z6 x.natAbs y.natAbs (by omega) (by omega) (by omega)) fi336 rfl) rfl rfl ?_;refine A7 ?_;refine xf0 (fun (fm:(Nat)×(Nat))=>(fun (Q:Nat) (R:Nat)=>(sgn (!((wh x).neg==(wh y).neg)) Q=x / y/\sgn (wh y).neg R=x%y)/\(dig 4294967296 Q).length<=1025/\(dig 4294967296 R).length<=1024) fm.1 fm.2) (wB fun (Q:Nat) (R:Nat)=>uV (uV (uO (uO (uO (uO uN 2 (.ptr 2 0)) 3 (.ptr 3 0)) 4 (.ptr 4 0)) 5 (.ptr 5 0)) 8 (tN Q)) 9 (tN R)) (wB fun (Q:Nat) (R:Nat)=>uK (uK (uK (uK uN 2 39 2 true [.val (tWh (wh x))]) 3 39 2 true [.val (tWh (wh y))]) 4 39 2 true [.val (tWh ⟨false,[]⟩)]) 5 39 2 true [.val (tWh ⟨false,[]⟩)]) (nm [2,3,4,5]) ?_ ?_
 ·
  refine A8 ?_;refine RGcase (t:=39) rfl (fun h140=> ?_) (fun h140=> ?_)
  ·
   have hxn:decide (x < 0)=true:=by have h:=h140;rw [ey,ex] at h;simpa using h
   refine A6 ?_;refine x6 rfl (fun h140_2=> ?_) (fun h140_2=> ?_)
   ·
    have hr0:x.natAbs%y.natAbs≠0:=fun h=>by rw [h,xc8] at h140_2;simp at h140_2
    refine A3 ?_;refine R1 (xk9 (n:=1) [1] zgz el284 zf284 rfl rfl rfl) rfl (R2 (x3 (qw5 _ (by omega)) fi337 rfl) rfl rfl ?_);refine A6 ?_;refine R2 (x3 (zj0 y.natAbs (x.natAbs%y.natAbs) (by omega) (by omega)) fi338 rfl) rfl rfl ?_;refine A2 ?_;exact kF ((x.natAbs / y.natAbs+1,y.natAbs - x.natAbs%y.natAbs)) (by dsimp only;exact ⟨zt1 hy0 ⟨fun _=>⟨rfl,rfl⟩,fun h=>(h ⟨hxn,hr0⟩).elim⟩,hq1,hs32⟩)
   ·
    have hr0:x.natAbs%y.natAbs=0:=(xi1 x9).1 (zcw.1 (by omega));refine A1 ?_;exact kF ((x.natAbs / y.natAbs,x.natAbs%y.natAbs)) (by dsimp only;exact ⟨zt1 hy0 ⟨fun h=>(h.2 hr0).elim,fun _=>⟨rfl,rfl⟩⟩,by omega,hr32⟩)
  ·
   have hxn: ¬decide (x < 0)=true:=by have h:=h140;rw [ey,ex] at h;simpa using h
   refine A8 ?_;exact kF ((x.natAbs / y.natAbs,x.natAbs%y.natAbs)) (by dsimp only;exact ⟨zt1 hy0 ⟨fun h=>(hxn h.1).elim,fun _=>⟨rfl,rfl⟩⟩,by omega,hr32⟩)
 ·
  intro fm hj;obtain ⟨Q,R⟩:=fm;replace hj:(sgn (!((wh x).neg==(wh y).neg)) Q=x / y/\sgn (wh y).neg R=x%y)/\(dig 4294967296 Q).length<=1025/\(dig 4294967296 R).length<=1024:=hj;show wc _ _ _ _ (uV (uV (uO (uO (uO (uO uN 2 (.ptr 2 0)) 3 (.ptr 3 0)) 4 (.ptr 4 0)) 5 (.ptr 5 0)) 8 (tN Q)) 9 (tN R)) (uK (uK (uK (uK uN 2 39 2 true [.val (tWh (wh x))]) 3 39 2 true [.val (tWh (wh y))]) 4 39 2 true [.val (tWh ⟨false,[]⟩)]) 5 39 2 true [.val (tWh ⟨false,[]⟩)]) _;obtain ⟨⟨hQ,hR⟩,hQl,hRl⟩:=hj;refine A8 ?_;refine R2 (x3 (yk6 (!((wh x).neg==(wh y).neg)) Q (by omega)) fi333 rfl) rfl rfl ?_;refine A3 ?_;refine R2 (x3 (yk6 (wh y).neg R (by omega)) fi333 rfl) rfl rfl ?_;refine A6 ?_;exact EN (rs:=[.cell 4 39,.cell 5 39,.tmp 6]) rfl rfl ⟨⟨_,_,_,_,_,rfl,rfl,ti39,(Le.of (by rw [hQ]))⟩,⟨_,_,_,_,_,rfl,rfl,ti39,(Le.of (by rw [hR]))⟩,⟨_,rfl,zao⟩,trivial⟩
theorem jo5 {k:IntKind} {xs:List Nat} {n:Nat}:(rW k xs).take n=(xs.take n).map fun x:Nat=> .val (tE (.int k (x:Int))):=by
 rw [rW,List.map_take]
theorem zm6 (n:Int) (h1: -9223372036854775808<=n) (h2:n<=9223372036854775807):
  Ct Tryz.prog 134 [tI n] (tWh (wh n)):=by
 refine Ct.intro func134 rfl ntmps134 rfl ?_;intro w F;refine A2 ?_;refine RE (x7 (k:=2) (n:=2) (agg:=true) zr39.1 zr39.2 rfl) trivial trivial qA ?_;refine A5 ?_;refine R1 (x5 zhd (isS zhg) toU64) rfl ?_;refine A3 ?_;refine xf0 (fun (v:Nat)=>v=n.natAbs) (fun (v:Nat)=>uV (uO (uV uN 0 (tI n)) 2 (.ptr 2 0)) 3 (tE (.int .u64 ((v:Nat):Int)))) (fun (v:Nat)=>uK uN 2 39 2 true [.val (tWh ⟨false,[]⟩)]) (nm [2]) ?_ ?_
 ·
  refine A6 ?_;refine x6 rfl (fun h48=> ?_) (fun h48=> ?_)
  ·
   refine A2 ?_;refine R1 (zq6 (negU64 (by omega))) rfl ?_;refine A2 ?_;exact kF ((18446744073709551616 - (n%18446744073709551616).toNat)%18446744073709551616) (by omega)
  ·
   refine A1 ?_;exact kF ((n%18446744073709551616).toNat) (by omega)
 ·
  intro v hv;refine A2 ?_;refine RE (jj0 (k:=4) (len:=4) (u:= .int .u16 0) underlying236 (z:= .agg #[.int .u16 0,.int .u16 0,.int .u16 0,.int .u16 0]) (by kernel_rfl) rfl rfl) trivial trivial qA ?_;refine A14 ?_;refine cL (fun (fm:(Nat)×(List Nat)×(Nat))=>(fun (i:Nat) (ls:List Nat) (c:Nat)=>i<=4/\ls.length=4/\ls.take i=dgs 65536 i v/\c=(dig 65536 (v%65536 ^ i)).length) fm.1 fm.2.1 fm.2.2) (wC fun (i:Nat) (ls:List Nat) (c:Nat)=>uV (uV (uO (uV (uO (uV uN 0 (tI n)) 2 (.ptr 2 0)) 3 (tE (.int .u64 ((v:Nat):Int)))) 4 (.ptr 4 0)) 5 (tI c)) 13 (tI i)) (wC fun (i:Nat) (ls:List Nat) (c:Nat)=>uK (uK uN 2 39 2 true [.val (tWh ⟨false,[]⟩)]) 4 236 1 false (rW .u16 ls)) [2,4] (fun (fm:(Nat)×(List Nat)×(Nat))=>(fun (i:Nat) (ls:List Nat) (c:Nat)=>4 - i) fm.1 fm.2.1 fm.2.2) ((0,[0,0,0,0],0)) (by dsimp only;exact ⟨by omega,rfl,rfl,by rw [zer,zfs,xc8];rfl⟩) ?_;intro fm hI;obtain ⟨i,ls,c⟩:=fm;replace hI:i<=4/\ls.length=4/\ls.take i=dgs 65536 i v/\c=(dig 65536 (v%65536 ^ i)).length:=hI;show wc _ _ _ _ (uV (uV (uO (uV (uO (uV uN 0 (tI n)) 2 (.ptr 2 0)) 3 (tE (.int .u64 ((v:Nat):Int)))) 4 (.ptr 4 0)) 5 (tI c)) 13 (tI i)) (uK (uK uN 2 39 2 true [.val (tWh ⟨false,[]⟩)]) 4 236 1 false (rW .u16 ls)) _;obtain ⟨hi,hl,ht,hc⟩:=hI;obtain ⟨k1,k2⟩:=qs7 hc;have hcl:c<=i:=by rw [hc];exact (xa8 x8 _ _).2 (zck _ (zdb (by decide)))
  refine A6 ?_;refine x6 rfl (fun h53=> ?_) (fun h53=> ?_)
  ·
   refine A15 ?_;refine R2 (xi2 zah) rfl rfl (R2 (xh3 (by omega) (shrN (s:=16*i) (by omega) (by show 16*i<=64;omega))) rfl rfl (R1 (x5 zhc (isS zhd) cut16) rfl (R2 (zu7 ar236 (by omega) (by omega) rfl) rfl rfl (RE (xb8 (i) ti64 (xj0 (by omega)) (by omega) (xh1 (m:=_) rfl)) qB qA trivial ?_))));refine A5 ?_;refine R2 (zu7 ar236 (by omega) (by omega) rfl) rfl rfl (RE (xc1 (i) ti64 (xn7 (by rw [zdy];omega)) (by omega)) qA qA trivial ?_);refine A3 ?_;refine x6 rfl (fun h55=> ?_) (fun h55=> ?_)
   ·
    have hd:(ls.set i (v / 2 ^ (16*i)%65536)).getD i 0=v / 65536 ^ i%65536:=by rw [xm8 (by omega),shr16i]
    refine A11 ?_;rw [hd] at h55;exact kF ((i+1,ls.set i (v / 2 ^ (16*i)%65536),i+1)) ⟨(by dsimp only;exact ⟨by omega,by simpa using hl,by rw [xj8 (by omega),ht,xk6,shr16i],k1 (by omega)⟩),(by dsimp only;omega)⟩
   ·
    have hd:(ls.set i (v / 2 ^ (16*i)%65536)).getD i 0=v / 65536 ^ i%65536:=by rw [xm8 (by omega),shr16i]
    refine A7 ?_;rw [hd] at h55;exact kF ((i+1,ls.set i (v / 2 ^ (16*i)%65536),c)) ⟨(by dsimp only;exact ⟨by omega,by simpa using hl,by rw [xj8 (by omega),ht,xk6,shr16i],k2 (by omega)⟩),(by dsimp only;omega)⟩
  ·
   refine A10 ?_;refine RE (jg3 (f:=fun n:Nat=>tE (.int .u16 n)) (ys:=ls.take c) (u:=c) ar236 (fun _ h=>h) (fun h=>by cases h) (by omega) jo5 (by rw [xj4];exact hl) (by rw [zde];omega) rfl) qB qA trivial (R1 (x3 (yk3 (ls.take c) (by rw [zde];omega)) fi216 rfl) rfl (R2 (xb0 (r:=tS [⟨1,false,tB (decide (n < 0))⟩,⟨1,false,tLm (ls.take c)⟩]) (ts:=[(0,tB (decide (n < 0))),(1,tLm (ls.take c))]) bu39 zr39.2 (Bc 0 rfl rfl rfl (Bc 1 rfl rfl rfl zao))) rfl rfl ?_));refine A4 ?_;have hi4:i=4:=by omega
   subst hi4;have hfin:ls.take c=dig 65536 n.natAbs:=by
    rw [<-hl,zbx,hl] at ht;rw [ht,yz9 (by omega),<-hv];rw [zcc (by show v < 18446744073709551616;omega)] at hc;rw [hc,xo8 x8]
   exact EC rfl ⟨_,_,_,_,_,rfl,rfl,ti39,(Le.of (by rw [hfin];rfl))⟩
theorem je0 (xs ys:List Nat):
  Ct Tryz.prog 331 [tLm xs,tLm ys] (tB (decide (xs=ys))):=by
 refine Ct.intro func331 rfl ntmps331 rfl ?_;intro w F;refine xg9 (s:=0) rfl (fun hl0=> ?_);refine A15 ?_;refine x6 rfl (fun h21=> ?_) (fun h21=> ?_)
 ·
  refine A7 ?_;exact E1 rfl rfl (zau (zbf (fun h=>by rw [h] at h21;omega)).symm)
 ·
  have hll:xs.length=ys.length:=by omega
  refine A11 ?_;refine cL (fun (i:Nat)=>i<=xs.length/\xs.take i=ys.take i) (fun (i:Nat)=>uV (uV (uV (uV uN 0 (tLm xs)) 1 (tLm ys)) 12 (tI xs.length)) 13 (tI i)) (fun (i:Nat)=>fun _=>none) [] (fun (i:Nat)=>xs.length - i) (0) ⟨zbq _,rfl⟩ ?_;intro i hI;obtain ⟨hi,ht⟩:=hI;refine A6 ?_;refine x6 rfl (fun h24=> ?_) (fun h24=> ?_)
  ·
   refine A14 ?_;refine R2 (x4 sl37 (i) (by omega) (gN (by omega))) rfl rfl ?_;refine A3 ?_;refine R2 (x4 sl37 (i) (by omega) (gN (by omega))) rfl rfl ?_;refine A4 ?_;refine x6 rfl (fun h25=> ?_) (fun h25=> ?_)
   ·
    refine A11 ?_;exact E1 rfl rfl (zau (zbf (fun h=>by rw [h] at h25;omega)).symm)
   ·
    refine A7 ?_;exact kF (i+1) ⟨⟨by omega,by rw [xf8 xs i (by omega),xf8 ys i (by omega),ht,show xs.getD i 0=ys.getD i 0 by omega]⟩,(by omega)⟩
  ·
   refine A11 ?_;exact E1 rfl rfl (zau (zbg (by rw [show i=xs.length by omega,zbx,hll,zbx] at ht;exact ht)).symm)
theorem qg6 (x y:Wh):
  Ct Tryz.prog 278 [tWh x,tWh y] (tB (decide (x=y))):=by
 refine Ct.intro func278 rfl ntmps278 rfl ?_;intro w F;refine A15 ?_;refine RGcase (t:=10) rfl (fun h42=> ?_) (fun h42=> ?_)
 ·
  have hn:x.neg=y.neg:=eq_of_beq h42;refine A4 ?_;refine Rg h42 rfl (x3 (je0 _ _) fi331 rfl) rfl qB ?_;refine A5 ?_;exact E1 rfl rfl (zau (by obtain ⟨a,b⟩:=x;obtain ⟨c,d⟩:=y;simp only at hn;subst hn;simp))
 ·
  have hn:x.neg≠y.neg:=fun h=>by rw [h] at h42;simp at h42
  refine A10 ?_;exact E1 rfl rfl (zau (zbf (fun h=>hn (by rw [h]))).symm)
end An.S
namespace An
open Go
structure Fr where
  n:Wh
  d:Wh
deriving DecidableEq
abbrev tFr (f:Fr):Ty:=tS [⟨2,true,tWh f.n⟩,⟨2,true,tWh f.d⟩]
abbrev tTm (f:Fr):Ty:=tS [⟨4,true,tFr f⟩]
def fr (q:Rat):Fr:=⟨wh q.num,wh q.den⟩
def fr0:Fr:=⟨⟨false,[]⟩,⟨false,[]⟩⟩
def Fr.sh (f:Fr):Bool:=decide (f.n.l.length<=256) && decide (f.d.l.length<=256)
def short (q:Rat):Prop:=len16 q.num<=256/\len16 q.den<=256
instance (q:Rat):Decidable (short q):=inferInstanceAs (Decidable (_/\_))
def resF (q:Rat):Fr:=if short q then fr q else fr0
def resFE (q:Rat):Int:=if short q then 0 else 3
theorem xh9 (q:Rat):(fr q).sh=decide (short q):=by
 show (decide (len16 q.num<=256) && decide (len16 q.den<=256))=_;exact (Bool.decide_and _ _).symm
def Wh.int (x:Wh):Int:=sgn x.neg (val 65536 x.l)
theorem xo4 (z:Int):(wh z).int=z:=by
 show sgn (wh z).neg (val 65536 (dig 65536 z.natAbs))=z;rw [xm9 x8];exact xh5 z
def Fr.valid (f:Fr):Bool:=f.sh && f.n.valid && f.d.valid && decide (0 < f.d.int) && decide (Int.gcd f.n.int f.d.int=1)
theorem Fr.of_valid {f:Fr} (hn:Dig 65536 f.n.l) (hd:Dig 65536 f.d.l) (h:f.valid=true): ∃q:Rat,f=fr q/\short q:=by
 obtain ⟨n,d⟩:=f;simp only [Fr.valid,zcg,zdj] at h;obtain ⟨⟨⟨⟨h1,h2⟩,h3⟩,h4⟩,h5⟩:=h;obtain ⟨x,hx,hxl⟩:=Wh.of_valid hn h2;obtain ⟨y,hy,hyl⟩:=Wh.of_valid hd h3;simp only at hx hy;subst hx;subst hy;rw [xo4] at h4;rw [xo4,xo4] at h5;obtain ⟨m,rfl⟩:=zfg (Int.le_of_lt h4);have hm:m≠0:=by omega
 have hq: ∃q:Rat,q.num=x/\q.den=m:=⟨⟨x,m,hm,by simpa [Int.gcd] using h5⟩,rfl,rfl⟩
 obtain ⟨q,q1,q2⟩:=hq;have e:(⟨wh x,wh m⟩:Fr)=fr q:=by rw [fr,q1,q2]
 refine ⟨q,e,?_⟩;rw [e,xh9] at h1;exact zes h1
theorem yv8 {q:Rat} (h:short q):(fr q).valid=true:=by
 have h1:(wh q.num).valid=true:=ym7 (zcj h.1 (by decide));have h2:(wh (q.den:Int)).valid=true:=ym7 (zcj h.2 (by decide));have hd:=q.den_nz;have hg:Int.gcd q.num (q.den:Int)=1:=by simpa [Int.gcd] using q.reduced
 have e1:(fr q).n.int=q.num:=xo4 _;have e2:(fr q).d.int=(q.den:Int):=xo4 _;simp only [Fr.valid,zcg,zdj];rw [e1,e2];exact ⟨⟨⟨⟨by rw [xh9];exact zbg h,h1⟩,h2⟩,by omega⟩,hg⟩
theorem zf0:wh 1=⟨false,[1]⟩:=by
 have e:dig 65536 1=[1]:=by rw [xj9 x8 (by decide),show (1:Nat) / 65536=0 by decide,xc8]
 show (⟨decide ((1:Int) < 0),dig 65536 1⟩:Wh)=_;rw [e];rfl
theorem zg2:wh 0=⟨false,[]⟩:=by
 show (⟨decide ((0:Int) < 0),dig 65536 0⟩:Wh)=_;rw [xc8];rfl
theorem len16_mul {x y:Int} {k l:Nat} (hx:len16 x<=k) (hy:len16 y<=l):len16 (x*y)<=k+l:=by
 have h1:=(xa8 x8 x.natAbs k).1 hx;have h2:=(xa8 x8 y.natAbs l).1 hy;refine (xa8 x8 _ _).2 ?_;rw [Int.natAbs_mul,zez];exact Nat.mul_lt_mul'' h1 h2
theorem len16_add {x y:Int} {k:Nat} (hx:len16 x<=k) (hy:len16 y<=k):len16 (x+y)<=k+1:=by
 have h1:=(xa8 x8 x.natAbs k).1 hx;have h2:=(xa8 x8 y.natAbs k).1 hy;refine (xa8 x8 _ _).2 ?_;rw [zch];generalize 65536 ^ k=P at*
 omega
theorem len16_neg (x:Int):len16 (-x)=len16 x:=by rw [len16,len16,Int.natAbs_neg]
theorem len16_le {x y:Int} (h:x.natAbs<=y.natAbs):len16 x<=len16 y:=xd0 x8 h
theorem len16_div {x y:Int} {k:Nat} (hx:len16 x<=k):len16 (x / y)<=k:=by
 refine zcj (len16_le ?_) hx;exact Int.natAbs_ediv_le_natAbs x y
theorem yi0 {n d:Int} (hd:0 < d):fr (Rat.divInt n d)=⟨wh (n / (Int.gcd n d:Int)),wh (d / (Int.gcd n d:Int))⟩:=by
 obtain ⟨m,rfl⟩:=zfg (Int.le_of_lt hd);have hm:m≠0:=by omega
 rw [Rat.divInt_ofNat,<-Rat.normalize_eq_mkRat hm,Rat.normalize_eq];simp only [fr];have e:Int.gcd n (m:Int)=n.natAbs.gcd m:=by simp [Int.gcd]
 rw [e,<-Int.natCast_ediv]
end An
namespace An.S
open Go Go.Proofs An Tryz
instance ti41:TyI Tryz.prog 41 4 true:=⟨by kernel_rfl,by kernel_rfl⟩
instance ti142:TyI Tryz.prog 142 4 true:=⟨by kernel_rfl,by kernel_rfl⟩
instance fo41_0:FoI Tryz.prog 41 0 0:=⟨by kernel_rfl⟩
instance fo41_1:FoI Tryz.prog 41 1 2:=⟨by kernel_rfl⟩
instance fo142_0:FoI Tryz.prog 142 0 0:=⟨by kernel_rfl⟩
instance fi204:FnI Tryz.prog 204:=⟨_,func204,by kernel_rfl,rfl⟩
instance fi205:FnI Tryz.prog 205:=⟨_,func205,by kernel_rfl,rfl⟩
instance fi208:FnI Tryz.prog 208:=⟨_,func208,by kernel_rfl,rfl⟩
instance fi209:FnI Tryz.prog 209:=⟨_,func209,by kernel_rfl,rfl⟩
instance fi215:FnI Tryz.prog 215:=⟨_,func215,by kernel_rfl,rfl⟩
instance fi222:FnI Tryz.prog 222:=⟨_,func222,by kernel_rfl,rfl⟩
instance fi279:FnI Tryz.prog 279:=⟨_,func279,by kernel_rfl,rfl⟩
instance fi280:FnI Tryz.prog 280:=⟨_,func280,by kernel_rfl,rfl⟩
instance fi285:FnI Tryz.prog 285:=⟨_,func285,by kernel_rfl,rfl⟩
theorem zr41:(Tryz.prog.info? 41).bind (·.zero)=some (.agg #[.bool false,.slice none 0 0,.bool false,.slice none 0 0])/\ ∀F w,zad.p F w (.agg #[.bool false,.slice none 0 0,.bool false,.slice none 0 0]):=⟨by kernel_rfl,fun _ _=>⟨_,rfl,rfl,⟨fun h=>Bool.noConfusion h,⟨_,rfl,rfl,⟨fun _=>rfl,rfl⟩,⟨fun _=>rfl,⟨none,0,rfl,zbs _,by decide,.inl rfl⟩⟩,trivial⟩⟩,⟨fun h=>Bool.noConfusion h,⟨_,rfl,rfl,⟨fun _=>rfl,rfl⟩,⟨fun _=>rfl,⟨none,0,rfl,zbs _,by decide,.inl rfl⟩⟩,trivial⟩⟩,trivial⟩⟩
theorem zr142:(Tryz.prog.info? 142).bind (·.zero)=some (.agg #[.bool false,.slice none 0 0,.bool false,.slice none 0 0])/\ ∀F w,(tS [⟨4,true,zad⟩]).p F w (.agg #[.bool false,.slice none 0 0,.bool false,.slice none 0 0]):=⟨by kernel_rfl,fun _ _=>⟨_,rfl,rfl,⟨fun h=>Bool.noConfusion h,⟨_,rfl,rfl,⟨fun h=>Bool.noConfusion h,⟨_,rfl,rfl,⟨fun _=>rfl,rfl⟩,⟨fun _=>rfl,⟨none,0,rfl,zbs _,by decide,.inl rfl⟩⟩,trivial⟩⟩,⟨fun h=>Bool.noConfusion h,⟨_,rfl,rfl,⟨fun _=>rfl,rfl⟩,⟨fun _=>rfl,⟨none,0,rfl,zbs _,by decide,.inl rfl⟩⟩,trivial⟩⟩,trivial⟩⟩,trivial⟩⟩
theorem bu41:BuI Tryz.prog 41 (fun i=>[(0,2),(2,2)][i]?) (.agg #[.bool false,.slice none 0 0,.bool false,.slice none 0 0]):=BuI.struct underlying41 (by kernel_rfl) (by kernel_rfl)
theorem bu142:BuI Tryz.prog 142 (fun i=>[(0,4)][i]?) (.agg #[.bool false,.slice none 0 0,.bool false,.slice none 0 0]):=BuI.struct underlying142 (by kernel_rfl) (by kernel_rfl)
theorem jd1 {x:Wh} (hn:x.neg=false) (hl:x.l.length=1):decide (((x.l.getD 0 0:Nat):Int)=1)=decide (x=⟨false,[1]⟩):=by
 obtain ⟨n,l⟩:=x;simp only at hn hl;subst hn;obtain ⟨a,rfl⟩:=List.length_eq_one_iff.1 hl;simp;omega
theorem qv6 (z:Int):wh (-z)=⟨!(wh z).neg && decide (0 < (wh z).l.length),(wh z).l⟩:=by
 have h:(wh z).l.length=0↔z=0:=by
  show (dig 65536 z.natAbs).length=0↔z=0;rw [zcw,xi1 x8];omega
 have e1:(wh (-z)).l=(wh z).l:=by show dig 65536 (-z).natAbs=dig 65536 z.natAbs;rw [Int.natAbs_neg]
 have e2:(wh (-z)).neg=(!(wh z).neg && decide (0 < (wh z).l.length)):=by
  show decide (-z < 0)=(!decide (z < 0) && decide (0 < (wh z).l.length))
  by_cases h0:z=0
  ·subst h0;simp [zg2]
  ·have:0 < (wh z).l.length:=by omega
   rw [zbg this,Bool.and_true,<-decide_not];exact zea.2 (by omega)
 have e3: ∀a:Wh,a=⟨a.neg,a.l⟩:=fun _=>rfl;rw [e3 (wh (-z)),e1,e2]
theorem qq0 (x:Wh):
  Ct Tryz.prog 208 [tWh x] (tB (decide (x=⟨false,[1]⟩))):=by
 refine Ct.intro func208 rfl ntmps208 rfl ?_;intro w F;refine A12 ?_;refine RGcase (t:=6) rfl (fun h54=> ?_) (fun h54=> ?_)
 ·
  refine A6 ?_;refine RGcaseD (t:=12) rfl (fun h54_2=> ?_) (fun h54_2=> ?_)
  ·
   refine A2 ?_;refine Rg (zbg h54_2) rfl (x4 sl37 (0) (by omega) (gN (by omega))) rfl qB ?_;refine A7 ?_;exact E1 rfl rfl (zau (jd1 (by simpa using h54) (by omega)))
  ·
   refine A10 ?_;exact E1 rfl rfl (zau (zbf (fun h=>h54_2 (by rw [h];rfl))).symm)
 ·
  refine A16 ?_;exact E1 rfl rfl (zau (zbf (fun h=>by rw [h] at h54;simp at h54)).symm)
theorem qh9 (f:Fr):
  Ct Tryz.prog 205 [tTm f] (tB (!f.sh)):=by
 refine Ct.intro func205 rfl ntmps205 rfl ?_;intro w F;refine A11 ?_;refine xe1 (0) ti37 rfl rfl rfl (At.t (At.g 0 rfl rfl) (At.t (At.g 0 rfl rfl) (At.g 1 rfl rfl))) rfl ?_;refine A3 ?_;refine RGcaseD (t:=9) rfl (fun h33=> ?_) (fun h33=> ?_)
 ·
  refine A11 ?_;exact E1 rfl rfl (zau (by rw [Fr.sh,zbf (show ¬f.n.l.length<=256 by omega)];rfl))
 ·
  refine A3 ?_;refine xb2 (zbf h33) rfl rfl (0) ti37 rfl rfl rfl (At.t (At.g 0 rfl rfl) (At.t (At.g 1 rfl rfl) (At.g 1 rfl rfl))) rfl ?_;refine A7 ?_;exact E1 rfl rfl (zau (by rw [Fr.sh,zbg (show f.n.l.length<=256 by omega),zdr,<-decide_not];exact zea.2 (by omega)))
theorem yr0 (f:Fr):
  Ct Tryz.prog 202 [tTm f] (tT [tFr (if f.sh then f else fr0),tI (if f.sh then 0 else 3)]):=by
 refine Ct.intro func202 rfl ntmps202 rfl ?_;intro w F;refine A3 ?_;refine RE (x7 (k:=2) (n:=4) (agg:=true) zr41.1 zr41.2 rfl) trivial trivial qA ?_;refine A7 ?_;refine R1 (x3 (qh9 f) fi205 rfl) rfl ?_;refine A2 ?_;refine xc2 rfl (fun h46=> ?_) (fun h46=> ?_)
 ·
  have hs:f.sh=false:=by simpa using h46
  refine A2 ?_;refine R0 (xb0 (r:=zad) (ts:=[]) bu41 zr41.2 zao) ?_;refine A6 ?_;exact EN (rs:=[.cell 2 41,.tmp 3]) rfl rfl ⟨⟨_,_,_,_,_,rfl,rfl,ti41,(Le.of (by rw [hs];rfl))⟩,⟨_,rfl,(zba (by rw [hs];rfl))⟩,trivial⟩
 ·
  have hs:f.sh=true:=by simpa using h46
  refine A5 ?_;refine xe1 (0) ti41 rfl rfl rfl (At.g 0 rfl (rfl)) rfl ?_;refine A5 ?_;exact EN (rs:=[.cell 2 41,.tmp 3]) rfl rfl ⟨⟨_,_,_,_,_,rfl,rfl,ti41,(Le.of (by rw [hs];rfl))⟩,⟨_,rfl,(zba (by rw [hs];rfl))⟩,trivial⟩
theorem qf3 (f:Fr):
  Ct Tryz.prog 207 [tTm f] (tB (decide (f.d=⟨false,[1]⟩))):=by
 refine Ct.intro func207 rfl ntmps207 rfl ?_;intro w F;refine A10 ?_;refine xe1 (0) ti39 rfl rfl rfl (At.t (At.g 0 rfl rfl) (At.g 1 rfl rfl)) rfl (R1 (x3 (qq0 _) fi208 rfl) rfl ?_);refine A4 ?_;exact E1 rfl rfl zao
theorem zj7 (x y:Int) (hx:len16 x<=1024) (hy:len16 y<=1024):
  Ct Tryz.prog 209 [tWh (wh x),tWh (wh y)] (tWh (wh ((Int.gcd x y:Nat):Int))):=by
 refine Ct.intro func209 rfl ntmps209 rfl ?_;intro w F;refine A4 ?_;refine RE (x7 (k:=4) (n:=2) (agg:=true) zr39.1 zr39.2 rfl) trivial trivial qA ?_;refine A6 ?_;refine R2 (x3 (c_Gcd x y hx hy) fi280 rfl) rfl rfl ?_;refine A3 ?_;refine RE (x7 (k:=5) (n:=2) (agg:=true) zr39.1 zr39.2 rfl) trivial trivial qA ?_;refine A11 ?_;exact EC rfl ⟨_,_,_,_,_,rfl,rfl,ti39,zao⟩
theorem js6 (x y:Int) (hx:len16 x<=1024) (hy:len16 y<=1024) (hz:len16 (x+y)<=1024):
  Ct Tryz.prog 203 [tWh (wh x),tWh (wh y)] (tWh (wh (x+y))):=by
 refine Ct.intro func203 rfl ntmps203 rfl ?_;intro w F;refine A4 ?_;refine RE (x7 (k:=4) (n:=2) (agg:=true) zr39.1 zr39.2 rfl) trivial trivial qA ?_;refine A6 ?_;refine R2 (x3 (c_Add x y hx hy) fi279 rfl) rfl rfl ?_;refine A3 ?_;refine RE (x7 (k:=5) (n:=2) (agg:=true) zr39.1 zr39.2 rfl) trivial trivial qA ?_;refine A11 ?_;exact EC rfl ⟨_,_,_,_,_,rfl,rfl,ti39,(Le.of (by rw [resW,if_pos hz]))⟩
theorem xr8 (x y:Int) (hx:len16 x<=1024) (hy:len16 y<=1024) (hz:len16 (x*y)<=1024):
  Ct Tryz.prog 133 [tWh (wh x),tWh (wh y)] (tWh (wh (x*y))):=by
 refine Ct.intro func133 rfl ntmps133 rfl ?_;intro w F;refine A4 ?_;refine RE (x7 (k:=4) (n:=2) (agg:=true) zr39.1 zr39.2 rfl) trivial trivial qA ?_;refine A6 ?_;refine R2 (x3 (c_Mul x y hx hy) fi215 rfl) rfl rfl ?_;refine A3 ?_;refine RE (x7 (k:=5) (n:=2) (agg:=true) zr39.1 zr39.2 rfl) trivial trivial qA ?_;refine A11 ?_;exact EC rfl ⟨_,_,_,_,_,rfl,rfl,ti39,(Le.of (by rw [resW,if_pos hz]))⟩
theorem zm1 (x y:Int) (hx:len16 x<=1024) (hy:len16 y<=1024) (hy0:0 < y):
  Ct Tryz.prog 222 [tWh (wh x),tWh (wh y)] (tT [tWh (wh (x / y)),tWh (wh (x%y))]):=by
 refine Ct.intro func222 rfl ntmps222 rfl ?_;intro w F;refine A4 ?_;refine RE (x7 (k:=4) (n:=2) (agg:=true) zr39.1 zr39.2 rfl) trivial trivial qA (RE (x7 (k:=5) (n:=2) (agg:=true) zr39.1 zr39.2 rfl) trivial trivial qA ?_);refine A6 ?_;refine R2 (x3 (jk5 x y hx hy hy0) fi285 rfl) rfl rfl ?_;refine A17 ?_;exact EN (rs:=[.cell 4 39,.cell 5 39]) rfl rfl ⟨⟨_,_,_,_,_,rfl,rfl,ti39,zao⟩,⟨_,_,_,_,_,rfl,rfl,ti39,zao⟩,trivial⟩
theorem zd1 (z:Int) (hz:len16 z<=10000):
  Ct Tryz.prog 204 [tWh (wh z)] (tWh (wh (-z))):=by
 have hzl:(wh z).l.length<=10000:=hz;refine Ct.intro func204 rfl ntmps204 rfl ?_;intro w F;refine A3 ?_;refine RE (x7 (k:=2) (n:=2) (agg:=true) zr39.1 zr39.2 rfl) trivial trivial qA ?_;refine A8 ?_;refine RGcase (t:=6) rfl (fun h81=> ?_) (fun h81=> ?_)
 ·
  refine A7 ?_;refine R1 (x3 (yk3 _ (by omega)) fi216 rfl) rfl (R2 (xb0 (r:=tS [⟨1,false,tB (decide ((0:Int) < ((wh z).l.length:Nat)))⟩,⟨1,false,tLm (wh z).l⟩]) (ts:=[(0,tB (decide ((0:Int) < ((wh z).l.length:Nat)))),(1,tLm (wh z).l)]) bu39 zr39.2 (Bc 0 rfl rfl rfl (Bc 1 rfl rfl rfl zao))) rfl rfl ?_);refine A4 ?_;exact EC rfl ⟨_,_,_,_,_,rfl,rfl,ti39,(Le.of (by rw [qv6,h81,zdr,zea.2 (show (0:Int) < ((wh z).l.length:Nat)↔0 < (wh z).l.length by omega)]))⟩
 ·
  refine A7 ?_;refine R1 (x3 (yk3 _ (by omega)) fi216 rfl) rfl (R2 (xb0 (r:=tS [⟨1,false,tB false⟩,⟨1,false,tLm (wh z).l⟩]) (ts:=[(0,tB false),(1,tLm (wh z).l)]) bu39 zr39.2 (Bc 0 rfl rfl rfl (Bc 1 rfl rfl rfl zao))) rfl rfl ?_);refine A4 ?_;exact EC rfl ⟨_,_,_,_,_,rfl,rfl,ti39,(Le.of (by rw [qv6,h81,zfb]))⟩
theorem z7 (n d:Int) (hn:len16 n<=1024) (hd:len16 d<=1024) (hd0:d≠0):
  Ct Tryz.prog 201 [tWh (wh n),tWh (wh d)] (tTm (fr (Rat.divInt n d))):=by
 refine Ct.intro func201 rfl ntmps201 rfl ?_;intro w F;refine A4 ?_;refine RE (x7 (k:=4) (n:=4) (agg:=true) zr142.1 zr142.2 rfl) trivial trivial qA ?_;refine A2 ?_;refine xf0 (fun (fm:(Int)×(Int))=>(fun (m:Int) (e:Int)=>(0 < e/\Rat.divInt m e=Rat.divInt n d)/\len16 m<=1024/\len16 e<=1024) fm.1 fm.2) (wB fun (m:Int) (e:Int)=>uO (uO (uO uN 2 (.ptr 2 0)) 3 (.ptr 3 0)) 4 (.ptr 4 0)) (wB fun (m:Int) (e:Int)=>uK (uK (uK uN 2 39 2 true [.val (tWh (wh m))]) 3 39 2 true [.val (tWh (wh e))]) 4 142 4 true [.val (tTm fr0)]) (nm [2,3,4]) ?_ ?_
 ·
  refine A6 ?_;refine xc2 rfl (fun h86=> ?_) (fun h86=> ?_)
  ·
   refine A2 ?_;refine R1 (x3 (zd1 n (by omega)) fi204 rfl) rfl ?_;refine A1 ?_;refine R1 (x3 (zd1 d (by omega)) fi204 rfl) rfl ?_;refine A3 ?_;exact kF ((-n, -d)) (by dsimp only;exact ⟨⟨by have:=zes h86;omega,Rat.neg_divInt_neg _ _⟩,by rw [len16_neg];exact hn,by rw [len16_neg];exact hd⟩)
  ·
   refine A1 ?_;exact kF ((n,d)) (by dsimp only;exact ⟨⟨by have:=of_decide_eq_false h86;omega,rfl⟩,hn,hd⟩)
 ·
  intro fm hj;obtain ⟨m,e⟩:=fm;replace hj:(0 < e/\Rat.divInt m e=Rat.divInt n d)/\len16 m<=1024/\len16 e<=1024:=hj;show wc _ _ _ _ (uO (uO (uO uN 2 (.ptr 2 0)) 3 (.ptr 3 0)) 4 (.ptr 4 0)) (uK (uK (uK uN 2 39 2 true [.val (tWh (wh m))]) 3 39 2 true [.val (tWh (wh e))]) 4 142 4 true [.val (tTm fr0)]) _;obtain ⟨⟨he,hq⟩,hm,hel⟩:=hj;have hg0:0 < Int.gcd m e:=Int.gcd_pos_of_ne_zero_right m (by omega);have hgl:len16 ((Int.gcd m e:Nat):Int)<=1024:=zcj (len16_le (by simpa using Nat.le_of_dvd (by omega) (Int.gcd_dvd_natAbs_right m e))) hel;refine A4 ?_;refine R2 (x3 (zj7 m e hm hel) fi209 rfl) rfl rfl (RE (x7 (k:=5) (n:=2) (agg:=true) zr39.1 zr39.2 rfl) trivial trivial qA ?_);refine A7 ?_;refine R2 (x3 (zm1 m _ hm hgl (by omega)) fi222 rfl) rfl rfl ?_;refine A10 ?_;refine R2 (x3 (zm1 e _ hel hgl (by omega)) fi222 rfl) rfl rfl ?_;refine A10 ?_;refine R2 (xb0 (r:=tS [⟨2,true,tWh (wh (m / ((Int.gcd m e:Nat):Int)))⟩,⟨2,true,tWh (wh (e / ((Int.gcd m e:Nat):Int)))⟩]) (ts:=[(0,tWh (wh (m / ((Int.gcd m e:Nat):Int)))),(1,tWh (wh (e / ((Int.gcd m e:Nat):Int))))]) bu41 zr41.2 (Bc 0 rfl rfl rfl (Bc 1 rfl rfl rfl zao))) rfl rfl (R1 (xb0 (r:=tS [⟨4,true,tFr ⟨wh (m / ((Int.gcd m e:Nat):Int)),wh (e / ((Int.gcd m e:Nat):Int))⟩⟩]) (ts:=[(0,tFr ⟨wh (m / ((Int.gcd m e:Nat):Int)),wh (e / ((Int.gcd m e:Nat):Int))⟩)]) bu142 zr142.2 (Bc 0 rfl rfl rfl zao)) rfl ?_);refine A4 ?_;exact EC rfl ⟨_,_,_,_,_,rfl,rfl,ti142,(Le.of (by rw [<-hq,yi0 he]))⟩
instance sl71:SlI Tryz.prog 71 41 4 true:=⟨zhj,ti41⟩
instance fi49:FnI Tryz.prog 49:=⟨_,func49,by kernel_rfl,rfl⟩
instance fi130:FnI Tryz.prog 130:=⟨_,func130,by kernel_rfl,rfl⟩
instance fi131:FnI Tryz.prog 131:=⟨_,func131,by kernel_rfl,rfl⟩
instance fi133:FnI Tryz.prog 133:=⟨_,func133,by kernel_rfl,rfl⟩
instance fi134:FnI Tryz.prog 134:=⟨_,func134,by kernel_rfl,rfl⟩
instance fi201:FnI Tryz.prog 201:=⟨_,func201,by kernel_rfl,rfl⟩
instance fi202:FnI Tryz.prog 202:=⟨_,func202,by kernel_rfl,rfl⟩
instance fi203:FnI Tryz.prog 203:=⟨_,func203,by kernel_rfl,rfl⟩
instance fi207:FnI Tryz.prog 207:=⟨_,func207,by kernel_rfl,rfl⟩
instance fi210:FnI Tryz.prog 210:=⟨_,func210,by kernel_rfl,rfl⟩
instance fi211:FnI Tryz.prog 211:=⟨_,func211,by kernel_rfl,rfl⟩
instance fi278:FnI Tryz.prog 278:=⟨_,func278,by kernel_rfl,rfl⟩
instance fi281:FnI Tryz.prog 281:=⟨_,func281,by kernel_rfl,rfl⟩
theorem el41:ElI Tryz.prog 41 4 64 true (.agg #[.bool false,.slice none 0 0,.bool false,.slice none 0 0]):=⟨ti41,by kernel_rfl,by kernel_rfl⟩
theorem zf41:Flat 4 true (.agg #[.bool false,.slice none 0 0,.bool false,.slice none 0 0]):=xo1 (by intro u hu;simp at hu;rcases hu with rfl | rfl | rfl | rfl <;> rfl)
instance un71:UnI Tryz.prog 71 (.slice 41):=⟨zhj⟩
theorem qe5 {x y:Int}:decide (wh ((Int.gcd x y:Nat):Int)=⟨false,[1]⟩)=decide (Int.gcd x y=1):=by
 rw [<-zf0];refine zea.2 ⟨fun h'=> ?_,fun h'=>by rw [h'];rfl⟩;have:=jc1 h';omega
theorem zo8 {y:Int} (h1:(wh y).neg=false) (h2: ¬(wh y).l.length=0):0 < y:=by
 have h3: ¬y < 0:=of_decide_eq_false h1;have h4:y≠0:=fun h=>h2 (by rw [h,zg2];rfl);omega
theorem jo2 (f:Fr) (hn:Dig 65536 f.n.l) (hd:Dig 65536 f.d.l):
  Ct Tryz.prog 130 [tTm f] (tB f.valid):=by
 obtain ⟨n,d⟩:=f;replace hn:Dig 65536 n.l:=hn;replace hd:Dig 65536 d.l:=hd;refine Ct.intro func130 rfl ntmps130 rfl ?_;intro w F;refine A10 ?_;refine R1 (x3 (qh9 _) fi205 rfl) rfl ?_;refine A1 ?_;refine RGcase (t:=5) rfl (fun h38=> ?_) (fun h38=> ?_)
 ·
  have hs:(⟨n,d⟩:Fr).sh=false:=by simpa using h38
  refine A18 ?_;refine A18 ?_;refine A1 ?_;exact E1 rfl rfl (zau (by simp only [Fr.valid,hs,zfb]))
 ·
  have hs:(⟨n,d⟩:Fr).sh=true:=by simpa using h38
  refine A2 ?_;refine xb2 h38 rfl rfl (0) ti39 rfl rfl rfl (At.t (At.g 0 rfl rfl) (At.g 0 rfl rfl)) rfl (Rg h38 rfl (x3 (yw7 n) fi206 rfl) rfl qA ?_);refine A3 ?_;refine RGcase (t:=12) rfl (fun h38_2=> ?_) (fun h38_2=> ?_)
  ·
   have hv1:n.valid=false:=by simpa using h38_2
   refine A18 ?_;refine A12 ?_;exact E1 rfl rfl (zau (by simp only [Fr.valid,hv1,Bool.and_false,zfb]))
  ·
   have hv1:n.valid=true:=by simpa using h38_2
   refine A2 ?_;refine xb2 h38_2 rfl rfl (0) ti39 rfl rfl rfl (At.t (At.g 0 rfl rfl) (At.g 1 rfl rfl)) rfl (Rg h38_2 rfl (x3 (yw7 d) fi206 rfl) rfl qA ?_);refine A3 ?_;refine RGcase (t:=19) rfl (fun h38_3=> ?_) (fun h38_3=> ?_)
   ·
    have hv2:d.valid=false:=by simpa using h38_3
    refine A18 ?_;refine A5 ?_;exact E1 rfl rfl (zau (by simp only [Fr.valid,hv2,Bool.and_false,zfb]))
   ·
    have hv2:d.valid=true:=by simpa using h38_3
    obtain ⟨x,rfl,hxl⟩:=Wh.of_valid hn hv1;obtain ⟨y,rfl,hyl⟩:=Wh.of_valid hd hv2;have ix:=xo4 x;have iy:=xo4 y;refine A3 ?_;refine xb2 h38_3 rfl rfl (0) ti4 rfl rfl rfl (At.t (At.g 0 rfl rfl) (At.t (At.g 1 rfl rfl) (At.g 0 rfl rfl))) rfl ?_;refine A2 ?_;refine RGcase (t:=25) rfl (fun h38_4=> ?_) (fun h38_4=> ?_)
    ·
     have hy0: ¬0 < y:=by have:y < 0:=zes h38_4;omega
     refine A17 ?_;exact E1 rfl rfl (zau (by simp only [Fr.valid,ix,iy,zbf hy0,Bool.and_false,zfb]))
    ·
     refine A3 ?_;refine xb2 h38_4 rfl rfl (0) ti37 rfl rfl rfl (At.t (At.g 0 rfl rfl) (At.t (At.g 1 rfl rfl) (At.g 1 rfl rfl))) rfl ?_;refine A5 ?_;refine x6 rfl (fun h38_5=> ?_) (fun h38_5=> ?_)
     ·
      have hy0: ¬0 < y:=fun h=>by
       have h5:(((wh y).l.length:Nat):Int)=0:=h38_5;have h2:(wh y).l.length=0:=by omega
       have h3:y.natAbs=0:=(xi1 x8).1 (zcw.1 h2);omega
      refine A7 ?_;exact E1 rfl rfl (zau (by simp only [Fr.valid,ix,iy,zbf hy0,Bool.and_false,zfb]))
     ·
      have h5: ¬(((wh y).l.length:Nat):Int)=0:=h38_5;have hy0:0 < y:=zo8 h38_4 (by omega);refine A3 ?_;refine yb2 (k:=1) (e':=⟨142,4,true,[.val (tTm ⟨wh x,wh y⟩)]⟩) rfl rfl ?_;refine A2 ?_;refine R1 (x3 (qf3 _) fi207 rfl) rfl ?_;refine A1 ?_;refine RGcase (t:=35) rfl (fun h41=> ?_) (fun h41=> ?_)
      ·
       have hy1:y=1:=by have h:=zes h41;exact jc1 (h.trans zf0.symm)
       refine A13 ?_;exact E1 rfl rfl (zau (by simp only [Fr.valid,ix,iy,hs,hv1,hv2,zdr];rw [hy1];simp))
      ·
       have hy1: ¬y=1:=fun h=>of_decide_eq_false h41 (by show wh y=_;rw [h,zf0]);refine A2 ?_;refine xb2 h41 rfl rfl (0) ti39 rfl rfl rfl (At.t (At.g 0 rfl rfl) (At.g 0 rfl rfl)) rfl ?_;refine A2 ?_;refine xb2 h41 rfl rfl (0) ti39 rfl rfl rfl (At.t (At.g 0 rfl rfl) (At.g 1 rfl rfl)) rfl (Rg h41 rfl (x3 (zj7 x y hxl hyl) fi209 rfl) rfl qB (Rg h41 rfl (x3 (qq0 _) fi208 rfl) rfl qA ?_));refine A5 ?_;exact E1 rfl rfl (zau (by simp only [Fr.valid,ix,iy,hs,hv1,hv2,zbg hy0,zdr];exact qe5))
theorem yz8 (f:Fr) (hn:Dig 65536 f.n.l) (hd:Dig 65536 f.d.l):
  Ct Tryz.prog 49 [tFr f] (tB f.valid):=by
 refine Ct.intro func49 rfl ntmps49 rfl ?_;intro w F;refine A9 ?_;refine R1 (xb0 (r:=tS [⟨4,true,tFr f⟩]) (ts:=[(0,tFr f)]) bu142 zr142.2 (Bc 0 rfl rfl rfl zao)) rfl (R1 (x3 (jo2 f hn hd) fi130 rfl) rfl ?_);refine A4 ?_;exact E1 rfl rfl zao
theorem qw9 (q:Rat) (h:short q):Ct Tryz.prog 49 [tFr (fr q)] (tB true):=by
 have:=yz8 (fr q) (xc3 x8 _) (xc3 x8 _);rw [yv8 h] at this;exact this
theorem qb6 (q:Rat) (h:short q):
  Ct Tryz.prog 211 [tFr (fr q)] (tB false):=by
 refine Ct.intro func211 rfl ntmps211 rfl ?_;intro w F;refine A9 ?_;refine R1 (x3 (qw9 q h) fi49 rfl) rfl ?_;refine A5 ?_;exact E1 rfl rfl zao
theorem jk3 {α:Type} {l:List α} {i:Nat} {d:α} (h:i < l.length):l.getD i d∈l:=by
 rw [zbh,zbi h];exact zfx h
theorem jk8 (qs:List Rat) (h: ∀q∈qs,short q):
  Ct Tryz.prog 281 [tL 4 true (fun q:Rat=>tFr (fr q)) qs,tE (.func (.func 211) #[] #[])] (tI (-1)):=by
 refine Ct.intro func281 rfl ntmps281 rfl ?_;intro w F;refine xg9 (s:=0) rfl (fun hl0=> ?_);refine A14 ?_;refine cL (fun (i:Nat)=>i<=qs.length) (fun (i:Nat)=>uV (uV (uV (uV uN 0 (tL 4 true (fun q:Rat=>tFr (fr q)) qs)) 1 (tE (.func (.func 211) #[] #[]))) 7 (tI qs.length)) 8 (tI i)) (fun (i:Nat)=>fun _=>none) [] (fun (i:Nat)=>qs.length - i) (0) (zbq _) ?_;intro i hI;refine A6 ?_;refine x6 rfl (fun h108=> ?_) (fun h108=> ?_)
 ·
  refine A15 ?_;refine R2 (x4 sl71 i (by omega) (zai (l:=qs) (n:=i) (d:=0))) rfl rfl ?_;refine A1 ?_;refine R2 (xn2 (qb6 (qs.getD i 0) (h _ (jk3 (by omega)))) fi211 rfl) rfl rfl ?_;refine A10 ?_;exact kF (i+1) ⟨(by omega),(by omega)⟩
 ·
  refine A11 ?_;exact E1 rfl rfl zao
theorem qd2 (qs:List Rat) (h: ∀q∈qs,short q):
  Ct Tryz.prog 210 [tL 4 true (fun q:Rat=>tFr (fr q)) qs,tE (.func (.func 211) #[] #[])] (tB false):=by
 refine Ct.intro func210 rfl ntmps210 rfl ?_;intro w F;refine A9 ?_;refine R2 (x3 (jk8 qs h) fi281 rfl) rfl rfl ?_;refine A5 ?_;exact E1 rfl rfl (zau rfl)
theorem yj1 (qs:List Rat) (h: ∀q∈qs,short q):
  Ct Tryz.prog 131 [tL 4 true (fun q:Rat=>tFr (fr q)) qs] (tB true):=by
 refine Ct.intro func131 rfl ntmps131 rfl ?_;intro w F;refine A8 ?_;refine R2 (x3 (qd2 qs h) fi210 rfl) rfl rfl ?_;refine A5 ?_;exact E1 rfl rfl zao
theorem yi6 (a b:Rat):Rat.divInt (a.num*b.num) ((a.den:Int)*(b.den:Int))=a*b:=by
 rw [Rat.mul_def,<-zed,Rat.divInt_ofNat,Rat.normalize_eq_mkRat]
theorem ym3 (a b:Rat):Rat.divInt (a.num*(b.den:Int)+b.num*(a.den:Int)) ((a.den:Int)*(b.den:Int))=a+b:=by
 rw [Rat.add_def,<-zed,Rat.divInt_ofNat,Rat.normalize_eq_mkRat]
theorem ym9 {a b:Rat}:((a.den:Int)*(b.den:Int))≠0:=by
 have h1:=a.den_nz;have h2:=b.den_nz;exact Int.mul_ne_zero (by omega) (by omega)
theorem c_FMul (a b:Rat) (ha:short a) (hb:short b):
  Ct Tryz.prog 127 [tFr (fr a),tFr (fr b)] (tT [tFr (resF (a*b)),tI (resFE (a*b))]):=by
 obtain ⟨an,ad⟩:=ha;obtain ⟨bn,bd⟩:=hb;have hbd:=b.den_nz;have had:=a.den_nz;have m1:len16 (a.num*b.num)<=256+256:=len16_mul an bn;have m2:len16 ((a.den:Int)*(b.den:Int))<=256+256:=len16_mul ad bd;have ha:short a:=⟨an,ad⟩
 have hb:short b:=⟨bn,bd⟩
 refine Ct.intro func127 rfl ntmps127 rfl ?_;intro w F;refine A4 ?_;refine RE (x7 (k:=4) (n:=4) (agg:=true) zr41.1 zr41.2 rfl) trivial trivial qA ?_;refine A8 ?_;refine R2 (xb5 (n:=2) (f:=fun q:Rat=>tFr (fr q)) [a,b] zhj el41 zf41 rfl (fun _=>inferInstance) rfl rfl rfl) rfl rfl (R1 (x3 (yj1 [a,b] (by simp;exact ⟨ha,hb⟩)) fi131 rfl) rfl ?_);refine A12 ?_;refine R2 (x3 (xr8 (a.num) (b.num) (by omega) (by omega) (by omega)) fi133 rfl) rfl rfl ?_;refine A4 ?_;refine R2 (x3 (xr8 ((a.den:Int)) ((b.den:Int)) (by omega) (by omega) (by omega)) fi133 rfl) rfl rfl (R2 (x3 (z7 _ _ (by omega) (by omega) ym9) fi201 rfl) rfl rfl (R1 (x3 (yr0 _) fi202 rfl) rfl ?_));refine A7 ?_;exact EN (rs:=[.cell 4 41,.tmp 5]) rfl rfl ⟨⟨_,_,_,_,_,rfl,rfl,ti41,(Le.of (by rw [xh9,yi6];by_cases hs:short (a*b) <;> simp [resF,hs]))⟩,⟨_,rfl,(zba (by rw [xh9,yi6];by_cases hs:short (a*b) <;> simp [resFE,hs]))⟩,trivial⟩
theorem c_FAdd (a b:Rat) (ha:short a) (hb:short b):
  Ct Tryz.prog 164 [tFr (fr a),tFr (fr b)] (tT [tFr (resF (a+b)),tI (resFE (a+b))]):=by
 obtain ⟨an,ad⟩:=ha;obtain ⟨bn,bd⟩:=hb;have hbd:=b.den_nz;have had:=a.den_nz;have m1:len16 (a.num*(b.den:Int))<=256+256:=len16_mul an bd;have m2:len16 (b.num*(a.den:Int))<=256+256:=len16_mul bn ad;have m3:len16 ((a.den:Int)*(b.den:Int))<=256+256:=len16_mul ad bd;have m4:=len16_add m1 m2;have ha:short a:=⟨an,ad⟩
 have hb:short b:=⟨bn,bd⟩
 refine Ct.intro func164 rfl ntmps164 rfl ?_;intro w F;refine A4 ?_;refine RE (x7 (k:=4) (n:=4) (agg:=true) zr41.1 zr41.2 rfl) trivial trivial qA ?_;refine A8 ?_;refine R2 (xb5 (n:=2) (f:=fun q:Rat=>tFr (fr q)) [a,b] zhj el41 zf41 rfl (fun _=>inferInstance) rfl rfl rfl) rfl rfl (R1 (x3 (yj1 [a,b] (by simp;exact ⟨ha,hb⟩)) fi131 rfl) rfl ?_);refine A12 ?_;refine R2 (x3 (xr8 (a.num) ((b.den:Int)) (by omega) (by omega) (by omega)) fi133 rfl) rfl rfl ?_;refine A4 ?_;refine R2 (x3 (xr8 (b.num) ((a.den:Int)) (by omega) (by omega) (by omega)) fi133 rfl) rfl rfl (R2 (x3 (js6 (a.num*(b.den:Int)) (b.num*(a.den:Int)) (by omega) (by omega) (by omega)) fi203 rfl) rfl rfl ?_);refine A4 ?_;refine R2 (x3 (xr8 ((a.den:Int)) ((b.den:Int)) (by omega) (by omega) (by omega)) fi133 rfl) rfl rfl (R2 (x3 (z7 _ _ (by omega) (by omega) ym9) fi201 rfl) rfl rfl (R1 (x3 (yr0 _) fi202 rfl) rfl ?_));refine A7 ?_;exact EN (rs:=[.cell 4 41,.tmp 5]) rfl rfl ⟨⟨_,_,_,_,_,rfl,rfl,ti41,(Le.of (by rw [xh9,ym3];by_cases hs:short (a+b) <;> simp [resF,hs]))⟩,⟨_,rfl,(zba (by rw [xh9,ym3];by_cases hs:short (a+b) <;> simp [resFE,hs]))⟩,trivial⟩
theorem xk8 (f g:Fr):
  Ct Tryz.prog 198 [tFr f,tFr g] (tB (decide (f=g))):=by
 refine Ct.intro func198 rfl ntmps198 rfl ?_;intro w F;refine A13 ?_;refine R2 (x3 (qg6 _ _) fi278 rfl) rfl rfl ?_;refine A1 ?_;refine RGcase (t:=10) rfl (fun h107=> ?_) (fun h107=> ?_)
 ·
  have hn:f.n=g.n:=zes h107;refine A4 ?_;refine Rg h107 rfl (x3 (qg6 _ _) fi278 rfl) rfl qB ?_;refine A5 ?_;exact E1 rfl rfl (zau (by obtain ⟨a,b⟩:=f;obtain ⟨c,d⟩:=g;simp only at hn;subst hn;simp))
 ·
  have hn:f.n≠g.n:=of_decide_eq_false h107;refine A10 ?_;exact E1 rfl rfl (zau (zbf (fun h=>hn (by rw [h]))).symm)
theorem zc7 (n:Int) (h1: -9223372036854775808<=n) (h2:n<=9223372036854775807):
  Ct Tryz.prog 51 [tI n] (tFr (fr (n:Rat))):=by
 refine Ct.intro func51 rfl ntmps51 rfl ?_;intro w F;refine A2 ?_;refine RE (x7 (k:=2) (n:=4) (agg:=true) zr41.1 zr41.2 rfl) trivial trivial qA ?_;refine A5 ?_;refine R1 (x3 (zm6 n h1 h2) fi134 rfl) rfl (R1 (x3 (zm6 1 (by decide) (by decide)) fi134 rfl) rfl (R2 (xb0 (r:=tS [⟨2,true,tWh (wh n)⟩,⟨2,true,tWh (wh 1)⟩]) (ts:=[(0,tWh (wh n)),(1,tWh (wh 1))]) bu41 zr41.2 (Bc 0 rfl rfl rfl (Bc 1 rfl rfl rfl zao))) rfl rfl ?_));refine A4 ?_;exact EC rfl ⟨_,_,_,_,_,rfl,rfl,ti41,(Le.of (by rw [fr,Rat.num_intCast,Rat.den_intCast];rfl))⟩
end An.S
namespace An
open Go
def Fr.dig (f:Fr):Prop:=Dig 65536 f.n.l/\Dig 65536 f.d.l
def Fr.rat (f:Fr):Rat:=Rat.divInt f.n.int f.d.int
theorem yr7 (q:Rat):(fr q).rat=q:=by
 have e1:(fr q).n.int=q.num:=xo4 _;have e2:(fr q).d.int=(q.den:Int):=xo4 _;rw [Fr.rat,e1,e2,Rat.divInt_ofNat,Rat.mkRat_self]
theorem Fr.of_valid' {f:Fr} (hD:f.dig) (h:f.valid=true):f=fr f.rat/\short f.rat:=by
 obtain ⟨q,hq,hs⟩:=Fr.of_valid hD.1 hD.2 h;subst hq;rw [yr7];exact ⟨rfl,hs⟩
def take (q:Rat) (n:Int):Int:=(q*(n:Rat)).floor
theorem xt6 {n:Int} (h:len16 n<=256):short (n:Rat):=by
 refine ⟨by rw [Rat.num_intCast];exact h,?_⟩;rw [Rat.den_intCast];show (wh 1).l.length<=256;rw [zf0];decide
theorem len16_64 {n:Int} (h1: -9223372036854775808<=n) (h2:n<=9223372036854775807):len16 n<=4:=zu8 _ (by omega)
structure Va where
  kind:Nat
  f:Fr
  i:Int
deriving DecidableEq
structure Sn where
  lo:Int
  hi:Int
deriving DecidableEq
structure Tst where
  lo:Int
  hi:Int
  v:Va
deriving DecidableEq
instance:Inhabited Sn:=⟨⟨0,0⟩⟩
def va0:Va:=⟨0,fr0,0⟩
def sn0:Sn:=⟨0,0⟩
def tst0:Tst:=⟨0,0,va0⟩
abbrev tVa (v:Va):Ty:=tS [⟨1,false,tE (.int .u8 (v.kind:Int))⟩,⟨4,true,tFr v.f⟩,⟨1,false,tI v.i⟩]
abbrev tSn (s:Sn):Ty:=tS [⟨1,false,tI s.lo⟩,⟨1,false,tI s.hi⟩]
abbrev tTs (s:Tst):Ty:=tS [⟨1,false,tI s.lo⟩,⟨1,false,tI s.hi⟩,⟨6,true,tVa s.v⟩]
def Va.valid (v:Va):Bool:=
 if v.kind=2∨v.kind=3 then decide (v.i=0) && v.f.valid
 else if v.kind=1 then decide (v.f=fr0) && decide (0<=v.i) && decide (v.i<=1)
 else if v.kind=4 then decide (v.f=fr0) && decide (0<=v.i) && decide (v.i < 65536)
 else if v.kind=5∨v.kind=6 then decide (v.f=fr0) && decide (-1048576<=v.i) && decide (v.i<=1048576)
 else false
def tOk (l:List Tst) (i:Nat):Bool:=
 decide (0<=(l.getD i tst0).lo) && decide ((l.getD i tst0).lo < (l.getD i tst0).hi) && decide ((l.getD i tst0).hi<=65536) &&
  (decide (i=0) || decide ((l.getD (i - 1) tst0).hi<=(l.getD i tst0).lo) && decide ((l.getD (i - 1) tst0).v.kind=(l.getD i tst0).v.kind) && !(decide ((l.getD (i - 1) tst0).hi=(l.getD i tst0).lo) && decide ((l.getD (i - 1) tst0).v=(l.getD i tst0).v)))
def tRight (l:List Tst):Bool:=(List.range l.length).all (tOk l) && l.all fun s=>s.v.valid
def sOk (s:Tst):Bool:=decide (s.v.kind=2) && !s.v.f.n.neg && decide (s.v.f.rat<=1)
def sRight (l:List Tst):Bool:=tRight l && l.all sOk
def Sn.ok (s:Sn):Bool:=decide (0<=s.lo) && decide (s.lo<=s.hi) && decide (s.hi<=65536)
def mrg1 (acc:List Sn) (s:Sn):List Sn:=
 if 0 < acc.length/\s.lo<=(acc.getD (acc.length - 1) sn0).hi then acc.set (acc.length - 1) ⟨(acc.getD (acc.length - 1) sn0).lo,max (acc.getD (acc.length - 1) sn0).hi s.hi⟩ else acc++[s]
def mrg (xs:List Sn):List Sn:=xs.foldl mrg1 []
theorem qt5 {P:Program} {T:TypeId} {k:IntKind} (hT:P.underlying T=some (.int k)) (d:Nat) (p q:Int) (w:World):(Op.equalIn (d+1) T (.int k p) (.int k q)).run P w= .ok (p==q) w:=by
 simp only [Op.equalIn,zbv,zda hT,zbm,zbw,if_true]
theorem qd7 {P : Program} {T E : TypeId} {k : IntKind} {f0 f1 : Field} (hT : P.underlying T = some (.struct #[f0, f1])) (hE : P.underlying E = some (.int k)) (h0 : f0.type = E) (h1 : f1.type = E) (n0 : f0.name ≠ "_") (n1 : f1.name ≠ "_") (o0 : f0.offset = 0) (o1 : f1.offset = 1)
  (hA: ∀w,(isAgg E).run P w= .ok false w) (hs:P.stoodInHeld T=false) (a b c d:Int) (w:World):(Op.equal T (.agg #[.int k a,.int k b]) (.agg #[.int k c,.int k d])).run P w= .ok (a==c && b==d) w:=by
 have key: ∀n,(Op.equalIn (n+2) T (.agg #[.int k a,.int k b]) (.agg #[.int k c,.int k d])).run P w= .ok (a==c && b==d) w:=fun n=>by
  have hp: ∀w,(program).run P w= .ok P w:=fun _=>rfl;rw [Op.equalIn];simp only [zbv,zda hT,zbm,hp,hs,zet,if_false];simp [n0,n1,h0,h1,o0,o1,go_sem,hA,qt5 hE];by_cases e1:a=c <;> by_cases e2:b=d <;> simp [e1,e2,go_sem]
 exact key 9998
structure EqS2 (P:Program) (T:TypeId):Prop where
  eq: ∀(a b c d:Int) (w:World),(Op.equal T (.agg #[.int .i64 a,.int .i64 b]) (.agg #[.int .i64 c,.int .i64 d])).run P w= .ok (a==c && b==d) w
  guard:P.eqGuardType P.depth T=false
theorem zh0 {F:Dom} {w:World} {s:Sn} {v:Value} (h:(tSn s).p F w v):v= .agg #[.int .i64 s.lo,.int .i64 s.hi]:=by
 obtain ⟨cs,rfl,h2,h3,h4,_⟩:=h;have h2:cs.size=2:=h2;obtain ⟨l⟩:=cs
 match l,h2 with
 | [x,y],_=>
  have e1:x= .int .i64 s.lo:=h3.2;have e2:y= .int .i64 s.hi:=h4.2;subst e1;subst e2;rfl
theorem jb6 {F:Dom} {w:World} {s:Sn}:(tSn s).p F w (.agg #[.int .i64 s.lo,.int .i64 s.hi]):=⟨_,rfl,rfl,⟨fun _=>rfl,rfl⟩,⟨fun _=>rfl,rfl⟩,trivial⟩
theorem jv1 {P:Program} {c:Base} {d ty:Nat} {pos:String} {af:Array Edge} {gd:Option (Nat×Bool)} {T yT:TypeId} {x y:Operand} {s t:Sn} (h:EqS2 P T):
  Does P c ⟨some d,.binOp .neq T x y yT,ty,pos,af,gd⟩ ⟨[(x,.val (tSn s)),(y,.val (tSn t))],[],some (d,some (.val (tB (decide (s≠t))))),[],[]⟩:=
 Does.value rfl fun g hh al a w η hrd _ st=>by
  have h1:=zh0 (xa0 st hrd.1).1;have h2:=zh0 (xa0 st hrd.2.1).1;have hp: ∀w,(program).run P w= .ok P w:=fun _=>rfl;have hg:(eqGuard .neq T x y (.agg #[.int .i64 s.lo,.int .i64 s.hi]) (.agg #[.int .i64 t.lo,.int .i64 t.hi])).run P w= .ok () w:=by
   simp [eqGuard,go_sem,h.guard]
  have hb:(binOp .neq T (.agg #[.int .i64 s.lo,.int .i64 s.hi]) (.agg #[.int .i64 t.lo,.int .i64 t.hi])).run P w= .ok (.bool (!(s.lo==t.lo && s.hi==t.hi))) w:=by
   simp only [binOp,zbv,h.eq,zbm,zbw]
  refine ⟨.bool (!(s.lo==t.lo && s.hi==t.hi)),w,?_,Ext.refl w,?_,fun k hk=>by cases hk⟩
  ·simp only [execOp,h1,h2,zbv,hg,hb,zbm,zbw]
  ·show _=Value.bool (decide (s≠t))
   congr 1
   obtain ⟨a,b⟩:=s;obtain ⟨a',b'⟩:=t;by_cases e1:a=a' <;> by_cases e2:b=b' <;> simp [e1,e2]
theorem St.recast {c:Base} {g:Slots} {h:Keys} {al:Names} {a:Act} {w:World} {t:Nat} {e e':Ent} (hs:St c g h al a w) (hg:g t=some e) (hi: ∀F η v,e.sat F w η v->e'.sat F w η v) (hsup:e'.supp=[]):St c (upd g t (some e')) h al a w:=by
 obtain ⟨η,s⟩:=hs;have s2:=s.put (s.slot t _ hg).1 (e:=e') (hi _ _ _ (s.slot t _ hg).2.2) fun j hj=>by rw [hsup] at hj;cases hj
 refine ⟨η,?_⟩;have ea:a.put (some t) (a.tmps.getD t undef)=a:=by
  have hlt:t < a.tmps.size:=by rw [s.tn];exact (s.slot t _ hg).1
  have:a.tmps.setIfInBounds t (a.tmps.getD t undef)=a.tmps:=by
   apply zds;intro i;rw [zew];by_cases hi:t=i
   ·subst hi;simp [hlt]
   ·simp [hi]
  simp only [Act.put,this]
 rw [<-ea];exact s2
theorem zk8 {F:Dom} {w:World} {η:Env} {cs:Array Value}: ∀(ts:List Ty) (o:Nat),Fd.all F w cs o (fdOne ts)->RowOk F w η cs o (ts.map Ent.val)
 | [],_,_=>fun i e hi=>by simp at hi
 | t::r,o,h=>fun i e hi=>by
  cases i with
  | zero=>
   simp only [zdu,zco,zci] at hi;subst hi;exact h.1.2
  | succ i=>
   have:=zk8 (η:=η) r (o+1) h.2 i e (by simpa using hi)
   rwa [show o+1+i=o+(i+1) by omega] at this
theorem Does.rowV {P:Program} {c:Base} {o:Oper} {rd:List (Operand×Ent)} {kr:List (Nat×HEnt)} {d:Nat} {ts:List Ty} {kw:List (Nat×Option HEnt)} {nk:List Nat} {es:List Ent} (he:ts.map Ent.val=es) (hd:Does P c o ⟨rd,kr,some (d,some (.val (tS (fdOne ts)))),kw,nk⟩):
  Does P c o ⟨rd,kr,some (d,some (.own (An.rowV es))),kw,nk⟩:=by
 subst he;intro g h al a w hp hs;refine Oper.wpIn_mono (fun a' w' hs'=> ?_) (hd g h al a w ⟨hp.rd,hp.kr,hp.nk,fun x hx=>by cases hx;exact hp.d (d,some (.own (An.rowV (ts.map Ent.val)))) rfl⟩ hs);have:=hs'.recast (t:=d) (e':= .own (An.rowV (ts.map Ent.val))) (xa9 _ _ _) (fun F η v hv=> ?_) (by rw [yq5];simp [List.flatMap_map,Ent.supp])
 ·simp only [Eff.g,yq2] at this ⊢;exact this
 ·obtain ⟨cs,h1,h2,h3⟩:=hv;exact yn8.2 ⟨cs,h1,by rw [h2,yp4];simp,zk8 ts 0 h3⟩
theorem ys1 {P:Program} {c:Base} {g:Slots} {h:Keys} {al:Names} {Q:Exit->Act->World->Prop} {x:Code} {q Tq:Nat} {us us':List Ent} (k T es:Nat) (agg:Bool) (i:Nat) (hq:h q=some ⟨Tq,1,false,us⟩) (hi:us[i]? =some (.val (tE (.slice none 0 0)))) (hk:al k=false) (hes:Nat.blt 0 es=true) (hagg:agg=false->es=1) (hne:Nat.beq q k=false)
  (hus:us.set i (.own (.sl k es 0 0))=us') (H:wc P c x Q g (upd (upd h k (some ⟨T,es,agg,[]⟩)) q (some ⟨Tq,1,false,us'⟩)) (fun j=>Nat.beq j k || al j)):wc P c x Q g h al:=fun a w hs=>by
 obtain ⟨η,s⟩:=hs;subst hus;obtain ⟨η',s',hc,hoth⟩:=s.ghost k hk T es agg (by simpa using hes) hagg;have hqk:q≠k:=fun e=>by rw [e] at hne;simp at hne
 have hq':upd h k (some ⟨T,es,agg,[]⟩) q=some ⟨Tq,1,false,us⟩:=by rw [xa4 _ _ _ hqk];exact hq
 refine H a w ⟨η',s'.same hq' rfl ?_ ?_⟩
 ·intro j hj;simp only [HEnt.supp,zbz] at hj;obtain ⟨e,he,hj⟩:=hj;obtain ⟨n,hn⟩:=zep he;rcases List.getElem?_set_cases hn with ⟨_,rfl,_⟩ | ⟨_,hn'⟩
  ·simp only [Ent.supp,VP.supp,zbj] at hj;subst hj;simp
  ·exact (s'.key q _ hq').2.1 j (HEnt.mem_supp hn' hj)
 ·obtain ⟨k1,k2,k3,k4,k5⟩:=(s'.key q _ hq').2.2.1;refine ⟨by simpa using k1,k2,k3,k4,fun hc0=> ?_⟩;obtain ⟨cs,c1,c2,c3⟩:=k5 hc0;refine ⟨cs,c1,c2,fun n e hn=> ?_⟩;rcases List.getElem?_set_cases hn with ⟨rfl,rfl,_⟩ | ⟨_,hn'⟩
  ·have h6:_=_:=c3 n _ hi;refine ⟨none,?_,by simp [hc],fun hlt=>by rw [hc] at hlt;omega⟩;rw [hc];exact h6
  ·exact c3 n e hn'
end An
namespace An.S
open Go Go.Proofs An Tryz
instance ti5:TyI Tryz.prog 5 1 false:=⟨by kernel_rfl,by kernel_rfl⟩
instance ti57:TyI Tryz.prog 57 6 true:=⟨by kernel_rfl,by kernel_rfl⟩
instance ti119:TyI Tryz.prog 119 2 true:=⟨by kernel_rfl,by kernel_rfl⟩
instance sl113:SlI Tryz.prog 113 119 2 true:=⟨zhk,ti119⟩
instance fo57_0:FoI Tryz.prog 57 0 0:=⟨by kernel_rfl⟩
instance fo57_1:FoI Tryz.prog 57 1 1:=⟨by kernel_rfl⟩
instance fo57_2:FoI Tryz.prog 57 2 5:=⟨by kernel_rfl⟩
instance fi86:FnI Tryz.prog 86:=⟨_,func86,by kernel_rfl,rfl⟩
instance fi173:FnI Tryz.prog 173:=⟨_,func173,by kernel_rfl,rfl⟩
instance fi263:FnI Tryz.prog 263:=⟨_,func263,by kernel_rfl,rfl⟩
theorem zr119:(Tryz.prog.info? 119).bind (·.zero)=some (.agg #[.int .i64 0,.int .i64 0])/\ ∀F w,(tS [⟨1,false,(tE (.int .i64 0))⟩,⟨1,false,(tE (.int .i64 0))⟩]).p F w (.agg #[.int .i64 0,.int .i64 0]):=⟨by kernel_rfl,fun _ _=>⟨_,rfl,rfl,⟨fun _=>rfl,rfl⟩,⟨fun _=>rfl,rfl⟩,trivial⟩⟩
theorem bu119:BuI Tryz.prog 119 (fun i=>[(0,1),(1,1)][i]?) (.agg #[.int .i64 0,.int .i64 0]):=BuI.struct underlying119 (by kernel_rfl) (by kernel_rfl)
instance un113:UnI Tryz.prog 113 (.slice 119):=⟨zhk⟩
theorem xv8 (l:List Nat) (k:Nat) (hk:k < l.length):l.take (k+1)=l.take k++[l.getD k 0]:=by
 rw [zby hk,zbh,zbi hk];rfl
theorem yj2 (l:List Sn) (k:Nat) (hk:k < l.length):l.take (k+1)=l.take k++[l.getD k sn0]:=by
 rw [zby hk,zbh,zbi hk];rfl
theorem eq_Sn:EqS2 Tryz.prog 119:=⟨qd7 underlying119 zhg rfl rfl (by decide) (by decide) rfl rfl (fun w=>by kernel_rfl) (by kernel_rfl),by kernel_rfl⟩
theorem qd4 (xs ys:List Nat):
  Ct Tryz.prog 263 [tLm xs,tLm ys] (tB (decide (xs=ys))):=by
 refine Ct.intro func263 rfl ntmps263 rfl ?_;intro w F;refine xg9 (s:=0) rfl (fun hl0=> ?_);refine A15 ?_;refine x6 rfl (fun h9=> ?_) (fun h9=> ?_)
 ·
  refine A7 ?_;exact E1 rfl rfl (zau (zbf (fun h=>by rw [h] at h9;omega)).symm)
 ·
  have hll:xs.length=ys.length:=by omega
  refine A9 ?_;refine cL (fun (i:Nat)=>i<=xs.length/\xs.take i=ys.take i) (fun (i:Nat)=>uV (uV (uV uN 0 (tLm xs)) 1 (tLm ys)) 5 (tI i)) (fun (i:Nat)=>fun _=>none) [] (fun (i:Nat)=>xs.length - i) (0) ⟨zbq _,rfl⟩ ?_;intro i hI;obtain ⟨hi,ht⟩:=hI;refine A9 ?_;refine x6 rfl (fun h12=> ?_) (fun h12=> ?_)
  ·
   refine A8 ?_;refine R2 (x4 sl37 (i) (by omega) (gN (by omega))) rfl rfl ?_;refine A3 ?_;refine R2 (x4 sl37 (i) (by omega) (gN (by omega))) rfl rfl ?_;refine A4 ?_;refine x6 rfl (fun h13=> ?_) (fun h13=> ?_)
   ·
    refine A11 ?_;exact E1 rfl rfl (zau (zbf (fun h=>by rw [h] at h13;exact (h13 rfl))).symm)
   ·
    refine A8 ?_;exact kF (i+1) ⟨⟨by omega,by rw [xv8 xs i (by omega),xv8 ys i (by omega),ht,show xs.getD i 0=ys.getD i 0 from (by omega)]⟩,(by omega)⟩
  ·
   refine A11 ?_;exact E1 rfl rfl (zau (zbg (by rw [show i=xs.length by omega,zbx,hll,zbx] at ht;exact ht)).symm)
theorem yv3 (xs ys:List Sn):
  Ct Tryz.prog 92 [tL 2 true tSn xs,tL 2 true tSn ys] (tB (decide (xs=ys))):=by
 refine Ct.intro func92 rfl ntmps92 rfl ?_;intro w F;refine xg9 (s:=0) rfl (fun hl0=> ?_);refine A15 ?_;refine x6 rfl (fun h178=> ?_) (fun h178=> ?_)
 ·
  refine A7 ?_;exact E1 rfl rfl (zau (zbf (fun h=>by rw [h] at h178;omega)).symm)
 ·
  have hll:xs.length=ys.length:=by omega
  refine A9 ?_;refine cL (fun (i:Nat)=>i<=xs.length/\xs.take i=ys.take i) (fun (i:Nat)=>uV (uV (uV uN 0 (tL 2 true tSn xs)) 1 (tL 2 true tSn ys)) 5 (tI i)) (fun (i:Nat)=>fun _=>none) [] (fun (i:Nat)=>xs.length - i) (0) ⟨zbq _,rfl⟩ ?_;intro i hI;obtain ⟨hi,ht⟩:=hI;refine A9 ?_;refine x6 rfl (fun h181=> ?_) (fun h181=> ?_)
  ·
   refine A8 ?_;refine R2 (x4 sl113 i (by omega) (gD (d:=sn0) (by omega))) rfl rfl ?_;refine A3 ?_;refine R2 (x4 sl113 i (by omega) (gD (d:=sn0) (by omega))) rfl rfl ?_;refine A1 ?_;refine R2 (jv1 eq_Sn) rfl rfl ?_;refine A2 ?_;refine x6 rfl (fun h182=> ?_) (fun h182=> ?_)
   ·
    refine A11 ?_;exact E1 rfl rfl (zau (zbf (fun h=>by rw [h] at h182;exact (h182 rfl))).symm)
   ·
    refine A8 ?_;exact kF (i+1) ⟨⟨by omega,by rw [yj2 xs i (by omega),yj2 ys i (by omega),ht,show xs.getD i sn0=ys.getD i sn0 from (Decidable.of_not_not h182)]⟩,(by omega)⟩
  ·
   refine A11 ?_;exact E1 rfl rfl (zau (zbg (by rw [show i=xs.length by omega,zbx,hll,zbx] at ht;exact ht)).symm)
theorem xv1 (x y:Wh):
  Ct Tryz.prog 173 [tWh x,tWh y] (tB (decide (x=y))):=by
 refine Ct.intro func173 rfl ntmps173 rfl ?_;intro w F;refine A15 ?_;refine RGcase (t:=10) rfl (fun h81=> ?_) (fun h81=> ?_)
 ·
  refine A4 ?_;refine Rg h81 rfl (x3 (qd4 _ _) fi263 rfl) rfl qB ?_;refine A5 ?_;exact E1 rfl rfl (zau (by obtain ⟨a,b⟩:=x;obtain ⟨c,d⟩:=y;simp_all))
 ·
  refine A10 ?_;exact E1 rfl rfl (zau (by obtain ⟨a,b⟩:=x;obtain ⟨c,d⟩:=y;simp_all))
theorem xu1 (x y:Fr):
  Ct Tryz.prog 86 [tFr x,tFr y] (tB (decide (x=y))):=by
 refine Ct.intro func86 rfl ntmps86 rfl ?_;intro w F;refine A13 ?_;refine R2 (x3 (xv1 _ _) fi173 rfl) rfl rfl ?_;refine A1 ?_;refine RGcaseD (t:=10) rfl (fun h113=> ?_) (fun h113=> ?_)
 ·
  refine A4 ?_;refine Rg (zbg h113) rfl (x3 (xv1 _ _) fi173 rfl) rfl qB ?_;refine A5 ?_;exact E1 rfl rfl (zau (by obtain ⟨a,b⟩:=x;obtain ⟨c,d⟩:=y;simp_all))
 ·
  refine A10 ?_;exact E1 rfl rfl (zau (by obtain ⟨a,b⟩:=x;obtain ⟨c,d⟩:=y;simp_all))
theorem ye3 (x y:Va):
  Ct Tryz.prog 29 [tVa x,tVa y] (tB (decide (x=y))):=by
 refine Ct.intro func29 rfl ntmps29 rfl ?_;intro w F;refine A15 ?_;refine RGcaseD (t:=10) rfl (fun h146=> ?_) (fun h146=> ?_)
 ·
  refine A4 ?_;refine Rg (zbg h146) rfl (x3 (xu1 _ _) fi86 rfl) rfl qB ?_;refine A2 ?_;refine RGcaseD (t:=17) rfl (fun h146_2=> ?_) (fun h146_2=> ?_)
  ·
   refine A10 ?_;exact E1 rfl rfl (zau (by obtain ⟨a,b,e⟩:=x;obtain ⟨c,d,f⟩:=y;simp only [Va.mk.injEq] at*;simp_all <;> omega))
  ·
   refine A10 ?_;exact E1 rfl rfl (zau (by obtain ⟨a,b,e⟩:=x;obtain ⟨c,d,f⟩:=y;simp only [Va.mk.injEq] at*;simp_all <;> omega))
 ·
  refine A17 ?_;exact E1 rfl rfl (zau (by obtain ⟨a,b,e⟩:=x;obtain ⟨c,d,f⟩:=y;simp only [Va.mk.injEq] at*;simp_all <;> omega))
end An.S
namespace An
open Go
abbrev tM (v:Nat):Ty:=tLm (dig 65536 v)
theorem qt1 {a:List Nat} {k:Nat} (hk:k<=a.length) (h0:0 < k) (hz:a.getD (k - 1) 0=0):trimL (a.take (k - 1))=trimL (a.take k):=by
 have h1:=xf8 a (k - 1) (by omega);rw [show k - 1+1=k from by omega] at h1;rw [h1,hz,xq8]
theorem qt4 {a:List Nat} {k:Nat} (hk:k<=a.length) (h0:0 < k) (hz: ¬a.getD (k - 1) 0=0):trimL (a.take k)=a.take k:=by
 refine yc5 fun x hx=> ?_;have h1:=xf8 a (k - 1) (by omega);rw [show k - 1+1=k from by omega] at h1;rw [h1,List.getLast?_append] at hx;simp at hx;rw [<-hx];simpa [List.getD_eq_getElem?_getD] using hz
theorem zv3 {a d r k q n:Nat} {qs:List Nat} (hk:k < n) (hl:qs.length=n) (hD:Dig 65536 qs) (hd:0 < d) (hr:r=a / 65536 ^ (k+1)%d) (hv:val 65536 (qs.drop (k+1))=a / 65536 ^ (k+1) / d) (hq:(r*65536+a / 65536 ^ k%65536) / d=q):
  (qs.set k q).length=n/\Dig 65536 (qs.set k q)/\(r*65536+a / 65536 ^ k%65536)%d=a / 65536 ^ k%d/\val 65536 ((qs.set k q).drop k)=a / 65536 ^ k / d/\q < 65536:=by
 have e0:a / 65536 ^ k=65536*(a / 65536 ^ (k+1))+a / 65536 ^ k%65536:=xs5 65536 a k (by decide);have hrd:r < d:=by rw [hr];exact zck _ hd
 have e1:a / 65536 ^ k=(r*65536+a / 65536 ^ k%65536)+d*(65536*(a / 65536 ^ (k+1) / d)):=by
  have h1:=zdg (a / 65536 ^ (k+1)) d;rw [<-hr] at h1;have h2:65536*(a / 65536 ^ (k+1))=d*(65536*(a / 65536 ^ (k+1) / d))+65536*r:=by
   conv=>lhs;rw [<-h1]
   rw [zcy,Nat.mul_left_comm]
  omega
 have hqW:q < 65536:=by
  rw [<-hq];refine zdc ?_;have h4:a / 65536 ^ k%65536 < 65536:=zck _ (by decide);have h5:(r+1)*65536<=d*65536:=zbt _ hrd;omega
 refine ⟨by simpa using hl,hD.set hqW,?_,?_,hqW⟩
 ·conv=>rhs;rw [e1,zfu]
 ·rw [xm7 _ _ _ (by simpa using (by omega:k < qs.length)),xm8 (by omega),xe0,hv]
  conv=>rhs;rw [e1,zeh _ _ hd,hq]
theorem jr9 {b:Nat} (h:(dig 65536 b).length=1):(dig 65536 b).getD 0 0=b:=by
 rw [xc0 x8,zer,Nat.div_one];have:=(xa8 x8 b 1).1 (Nat.le_of_eq h);rw [Nat.pow_one] at this;exact zcc this
theorem trim1L {x:Nat} (hx:x < 65536):trimL [x]=dig 65536 x:=by
 rw [xd7 x8 (Dig.cons hx (Dig.nil _)),xj3,yg1];simp
theorem zj9 {B a b k:Nat} (hB:2<=B) (h:a / B ^ (k+1)=b / B ^ (k+1)) (hd:(dig B a).getD k 0 < (dig B b).getD k 0):a < b:=zv6 (by omega) h (by rw [<-xc0 hB,<-xc0 hB];exact hd)
theorem xu7 {a i:Nat} (h:i < (dig 65536 a).length):65536 ^ i<=a:=by
 rcases zcx a (65536 ^ i) with h' | h'
 ·have:=(xa8 x8 a i).2 h';omega
 ·exact h'
theorem za4 {a b i n s:Nat} (hn:n=(a%65536 ^ i+b%65536 ^ i) / 65536 ^ i) (hs:s=n+a / 65536 ^ i%65536+b / 65536 ^ i%65536):
  dgs 65536 i (a+b)++[s%65536]=dgs 65536 (i+1) (a+b)/\s / 65536=(a%65536 ^ (i+1)+b%65536 ^ (i+1)) / 65536 ^ (i+1):=by
 have hp:0 < 65536 ^ i:=zdb (by decide);have ea:=zdg a (65536 ^ i);have eb:=zdg b (65536 ^ i);have e1:(a+b) / 65536 ^ i=n+a / 65536 ^ i+b / 65536 ^ i:=by
  have:a+b=(a%65536 ^ i+b%65536 ^ i)+65536 ^ i*(a / 65536 ^ i+b / 65536 ^ i):=by rw [zcy];omega
  rw [this,zeh _ _ hp,<-hn];omega
 refine ⟨?_,?_⟩
 ·rw [xk6,e1,hs]
  congr 2
  omega
 ·rw [zch,<-zdk,<-zch,xg7,xg7];have e2:a%65536 ^ i+65536 ^ i*(a / 65536 ^ i%65536)+(b%65536 ^ i+65536 ^ i*(b / 65536 ^ i%65536))=(a%65536 ^ i+b%65536 ^ i)+65536 ^ i*(a / 65536 ^ i%65536+b / 65536 ^ i%65536):=by rw [zcy];omega
  rw [e2,zeh _ _ hp,<-hn,hs]
  congr 1;omega
theorem ym8 {a b i n:Nat} (hn:n=(a%65536 ^ i+b%65536 ^ i) / 65536 ^ i) (h:i < (dig 65536 a).length∨i < (dig 65536 b).length∨0 < n):i+1<=(dig 65536 (a+b)).length:=by
 have hp:0 < 65536 ^ i:=zdb (by decide);have h1:65536 ^ i<=a+b:=by
  rcases h with h | h | h
  ·have:=xu7 h;omega
  ·have:=xu7 h;omega
  ·have h2:65536 ^ i<=a%65536 ^ i+b%65536 ^ i:=by
    rcases zcx (a%65536 ^ i+b%65536 ^ i) (65536 ^ i) with h' | h'
    ·rw [zcz h'] at hn;omega
    ·exact h'
   have:=Nat.mod_le a (65536 ^ i);have:=Nat.mod_le b (65536 ^ i);omega
 rcases zcx i (dig 65536 (a+b)).length with h' | h'
 ·exact h'
 ·have:=(xa8 x8 (a+b) i).1 h';omega
theorem jb2 {a b i n:Nat} (hn:n=(a%65536 ^ i+b%65536 ^ i) / 65536 ^ i) (h0:n=0) (ha:(dig 65536 a).length<=i) (hb:(dig 65536 b).length<=i) (hi:i<=(dig 65536 (a+b)).length):dgs 65536 i (a+b)=dig 65536 (a+b):=by
 have hp:0 < 65536 ^ i:=zdb (by decide);rw [qo1 x8 ha,qo1 x8 hb,h0] at hn;have h1:a+b < 65536 ^ i:=(Nat.div_eq_zero_iff_lt hp).1 hn.symm;have h2:=(xa8 x8 (a+b) i).2 h1;rw [show i=(dig 65536 (a+b)).length by omega,xo8 x8]
theorem qf6 {a b i n:Nat} (hn:n=(a%65536 ^ i+b%65536 ^ i) / 65536 ^ i):n<=1:=by
 have hp:0 < 65536 ^ i:=zdb (by decide);have h1:=zck a hp;have h2:=zck b hp;rw [hn];exact Nat.le_of_lt_succ (zdc (by omega))
theorem jh9 {a b i br n:Nat} {cs:List Nat} (hl:cs.length=i) (hv:val 65536 cs+b%65536 ^ i=a%65536 ^ i+br*65536 ^ i) (hbr:br<=1) (hn:n+br+b / 65536 ^ i%65536=65536+a / 65536 ^ i%65536):
  val 65536 (cs++[n%65536])+b%65536 ^ (i+1)=a%65536 ^ (i+1)+(1 - n / 65536)*65536 ^ (i+1)/\n / 65536<=1/\1 - n / 65536<=1:=by
 have h1:a / 65536 ^ i%65536 < 65536:=zck _ (by decide);have h2:b / 65536 ^ i%65536 < 65536:=zck _ (by decide);refine ⟨?_,by omega,by omega⟩;rw [xq2,hl];exact zt4 hv rfl rfl (by omega)
theorem qt6 {n a b br:Nat} {ws:List Nat} (hl:ws.length=n) (hD:Dig 65536 ws) (ha:a < 65536 ^ n) (hba:b<=a) (h:val 65536 ws+b%65536 ^ n=a%65536 ^ n+br*65536 ^ n):trimL ws=dig 65536 (a - b):=by
 rw [zcc ha,zcc (by omega)] at h;have h1:=xp2 hD;rw [hl] at h1;rw [xd7 x8 hD]
 congr 1
 rcases zcf br with h0 | h0
 ·subst h0;omega
 ·have:65536 ^ n<=br*65536 ^ n:=zfh _ h0;omega
theorem yt1 {a b k:Nat} (ha:(dig 65536 a).length<=k) (hb:(dig 65536 b).length<=k):(dig 65536 (a+b)).length<=k+1:=by
 rw [xa8 x8] at*
 rw [zch];generalize 65536 ^ k=P at*;omega
theorem wd1 {a k n q m:Nat} {qs:List Nat} (hk:k < m) (hl:qs.length=m) (hD:Dig 65536 qs) (hn:n%2=a / 65536 ^ (k+1)%2) (hv:val 65536 (qs.drop (k+1))=a / 65536 ^ (k+1) / 2) (hq:(n%2*65536+a / 65536 ^ k%65536) / 2=q):
  (qs.set k q).length=m/\Dig 65536 (qs.set k q)/\(n%2*65536+a / 65536 ^ k%65536)%2=a / 65536 ^ k%2/\val 65536 ((qs.set k q).drop k)=a / 65536 ^ k / 2/\q < 65536:=zv3 hk hl hD (by decide) hn hv hq
theorem zo9 {v i u:Nat} (hu:u=v / 65536 ^ i) (h0:0 < u):i+1<=(dig 65536 v).length/\u / 65536=v / 65536 ^ (i+1)/\dgs 65536 i v++[u%65536]=dgs 65536 (i+1) v:=by
 refine ⟨?_,by rw [hu,zdk,<-zch],by rw [xk6,hu]⟩;rcases zcx i (dig 65536 v).length with h' | h'
 ·exact h'
 ·have:=(xa8 x8 v i).1 h';rw [zcz this] at hu;omega
theorem zq9 {v i:Nat} (h:v / 65536 ^ i=0) (hi:i<=(dig 65536 v).length):dgs 65536 i v=dig 65536 v:=by
 have h1:v < 65536 ^ i:=(Nat.div_eq_zero_iff_lt (zdb (by decide))).1 h;have h2:=(xa8 x8 v i).2 h1;rw [show i=(dig 65536 v).length by omega,xo8 x8]
theorem js8 {a n k:Nat} (h:2 ^ n<=a) (hk:(dig 65536 a).length<=k):n < 16*k:=by
 have h1:=(xa8 x8 a k).1 hk;have e:65536 ^ k=2 ^ (16*k):=by rw [Nat.pow_mul]
 rw [e] at h1;exact (Nat.pow_lt_pow_iff_right (by decide)).1 (zfy h h1)
theorem qp3 {a b n i q r d:Nat} (hi:i < n) (hd:d=b*2 ^ (n - i)) (ha:a=q*d+r) (hr:r < d):
  d / 2=b*2 ^ (n - (i+1))/\(r < d / 2->a=(q+q)*(d / 2)+r)/\(¬r < d / 2->a=(q+q+1)*(d / 2)+(r - d / 2)/\r - d / 2 < d / 2/\d / 2<=r):=by
 have e:d=2*(b*2 ^ (n - (i+1))):=by rw [hd,show n - i=n - (i+1)+1 by omega,zch];grind
 have h1:d / 2=b*2 ^ (n - (i+1)):=by omega
 refine ⟨h1,fun h=> ?_,fun h=>⟨?_,by omega,by omega⟩⟩
 ·rw [h1,ha,e];grind
 ·rw [h1] at h ⊢;generalize b*2 ^ (n - (i+1))=c at*
  rw [ha,e];have:(q+q+1)*c=q*(2*c)+c:=by grind
  rw [this];omega
theorem ji6 {a b q r:Nat} (ha:a=q*b+r) (hr:r < b):q=a / b/\r=a%b:=by
 have hb:0 < b:=by omega
 constructor
 ·rw [ha,zce,Nat.mul_add_div hb,zcz hr,zek]
 ·rw [ha,zce,Nat.mul_add_mod,zcc hr]
end An
namespace An.S
open Go Go.Proofs An Tryz
theorem shr16 {u:Nat} (_h:u < 18446744073709551616):((u:Int)).fdiv (2 ^ (min (16:Int).toNat (IntKind.bits .u64)))=((u / 65536:Nat):Int):=by
 show ((u:Int)).fdiv 65536=_;rw [zgn _ (by decide)];omega
theorem wh_of {n:Int}:(⟨decide (n < 0),dig 65536 n.natAbs⟩:Wh)=wh n:=rfl
theorem yn3 (n:Int) (h1: -9223372036854775808<=n) (h2:n<=9223372036854775807):
  Ct Tryz.prog 98 [tI n] (tWh (wh n)):=by
 refine Ct.intro func98 rfl ntmps98 rfl ?_;intro w F;refine A2 ?_;refine RE (x7 (k:=2) (n:=2) (agg:=true) zr39.1 zr39.2 rfl) trivial trivial qA ?_;refine A6 ?_;refine R1 (Does.rowV (ts:=[tB (decide (n < 0)),tE (.slice none 0 0)]) (es:=[.val (tB (decide (n < 0))),.val (tE (.slice none 0 0))]) rfl (zi2 (r:=tS [⟨1,false,tB (decide (n < 0))⟩,⟨1,false,tE (.slice none 0 0)⟩]) (ts:=[(0,tB (decide (n < 0)))]) bu39 (z:= .agg #[.bool false,.slice none 0 0]) (t:=tS [⟨1,false,tE (.bool false)⟩,⟨1,false,tE (.slice none 0 0)⟩]) (fun _ _=>⟨_,rfl,rfl,⟨fun _=>rfl,rfl⟩,⟨fun _=>rfl,rfl⟩,trivial⟩) ⟨_,rfl⟩ rfl ⟨_,_,_,_,rfl,Up.f (fs:=[⟨1,false,tE (.bool false)⟩,⟨1,false,tE (.slice none 0 0)⟩]) (f:=⟨1,false,tE (.bool false)⟩) (fs':=[⟨1,false,tB (decide (n < 0))⟩,⟨1,false,tE (.slice none 0 0)⟩]) 0 rfl rfl rfl,inferInstance,zao⟩)) rfl (RE (zz3 (k:=3) (n:=2) [.bool false,.slice none 0 0] zr39.1 rfl rfl rfl rfl) trivial trivial qA (RE (qa3 ti39 rfl rfl rfl) qB qA trivial ?_));refine A3 ?_;refine ys1 (q:=3) 103 64 1 false 1 rfl rfl rfl rfl (fun _=>rfl) rfl rfl ?_;refine A2 ?_;refine R1 (x5 zhd (isS zhg) toU64) rfl ?_;refine A3 ?_;refine xf0 (fun (v:Nat)=>v=n.natAbs) (fun (v:Nat)=>uV (uO (uO uN 2 (.ptr 2 0)) 3 (.ptr 3 0)) 4 (tE (.int .u64 ((v:Nat):Int)))) (fun (v:Nat)=>uK (uK (uK uN 2 39 2 true [.val (tWh ⟨false,[]⟩)]) 3 39 1 false [.val (tB (decide (n < 0))),.own (.sl 103 1 0 0)]) 103 64 1 false (rW .u16 [])) (nm [2,3,103]) ?_ ?_
 ·
  refine A6 ?_;refine x6 rfl (fun h11=> ?_) (fun h11=> ?_)
  ·
   refine A2 ?_;refine R1 (zq6 (negU64 (by omega))) rfl ?_;refine A2 ?_;exact kF ((18446744073709551616 - (n%18446744073709551616).toNat)%18446744073709551616) (by omega)
  ·
   refine A1 ?_;exact kF ((n%18446744073709551616).toNat) (by omega)
 ·
  intro v hv;have hvl:=zu8 v (by omega);refine A2 ?_;refine cL (fun (fm:(Nat)×(Nat)×(List Nat))=>(fun (i:Nat) (u:Nat) (cs:List Nat)=>i<=(dig 65536 v).length/\u=v / 65536 ^ i/\cs=dgs 65536 i v/\u < 18446744073709551616) fm.1 fm.2.1 fm.2.2) (wC fun (i:Nat) (u:Nat) (cs:List Nat)=>uV (uO (uO uN 2 (.ptr 2 0)) 3 (.ptr 3 0)) 4 (tE (.int .u64 ((u:Nat):Int)))) (wC fun (i:Nat) (u:Nat) (cs:List Nat)=>uK (uK (uK uN 2 39 2 true [.val (tWh ⟨false,[]⟩)]) 3 39 1 false [.val (tB (decide (n < 0))),.own (.sl 103 1 0 cs.length)]) 103 64 1 false (rW .u16 cs)) [2,3,103] (fun (fm:(Nat)×(Nat)×(List Nat))=>(fun (i:Nat) (u:Nat) (cs:List Nat)=>u) fm.1 fm.2.1 fm.2.2) ((0,v,[])) (by dsimp only;exact ⟨zbq _,by simp,rfl,by omega⟩) ?_;intro fm hI;obtain ⟨i,u,cs⟩:=fm;replace hI:i<=(dig 65536 v).length/\u=v / 65536 ^ i/\cs=dgs 65536 i v/\u < 18446744073709551616:=hI;show wc _ _ _ _ (uV (uO (uO uN 2 (.ptr 2 0)) 3 (.ptr 3 0)) 4 (tE (.int .u64 ((u:Nat):Int)))) (uK (uK (uK uN 2 39 2 true [.val (tWh ⟨false,[]⟩)]) 3 39 1 false [.val (tB (decide (n < 0))),.own (.sl 103 1 0 cs.length)]) 103 64 1 false (rW .u16 cs)) _;obtain ⟨hi,hu,hcs,hu64⟩:=hI;have hcl:cs.length=i:=by rw [hcs,xe9]
  refine A7 ?_;refine x6 rfl (fun h14=> ?_) (fun h14=> ?_)
  ·
   refine A6 ?_;refine RE (xc1 (1) ti37 rfl rfl) qA qA trivial ?_;refine A1 ?_;refine R1 (x5 (r:=((u%65536:Nat):Int)) zhc (isS zhd) (by rw [mu16];omega)) rfl (R1 (xk9 (n:=1) [u%65536] zgy el64 zf64 rfl rfl rfl) rfl (RE (xb3 (k:=103) (k':=23) (ts':=rW .u16 (cs++[u%65536])) zgy el64 zf64 rfl rfl (fun _=>inferInstance) xj4 (by simp;omega) (by simp;omega) (by simp [rW]) (n':=cs.length+1) rfl) ⟨rfl,rfl,trivial⟩ ⟨rfl,trivial⟩ ⟨rfl,trivial⟩ ?_));refine A1 ?_;refine RE (xb8 (es:=1) (agg:=false) (1) ti37 rfl rfl rfl) qB qA trivial ?_;refine A5 ?_;refine R2 (xh3 (by decide) (shr16 hu64)) rfl rfl ?_;refine A2 ?_;obtain ⟨n1,n2,n3⟩:=zo9 hu (by omega);exact xc6 (l:=[2,3,103]) (zab 103 23) ((i+1,u / 65536,cs++[u%65536])) ⟨(by dsimp only;exact ⟨n1,n2,by rw [hcs];exact n3,by omega⟩),(by dsimp only;omega)⟩ (zaf rfl (zas rfl (zas rfl zbd))) ((zbb rfl (zat xf7.symm)) ((zbb rfl (zat (by dsimp only;rw [zbp];rfl))) ((zbb rfl zap) zbe))) (zaj (zak rfl (zak rfl zar))) (zam rfl (supJ xd1) (zam rfl (supJL rfl) (zam rfl (supJL rfl) zaz))) (lkOk rfl) rfl rfl (fun _ h=>by cases h)
  ·
   refine A6 ?_;refine qn3 (q:=3) (j:=103) (f:=fun n:Nat=>tE (.int .u16 n)) (xs:=cs) 1 rfl rfl rfl rfl (NoLbK.of fun _ h=>h) (xi4 rfl) rfl rfl ?_;refine A1 ?_;refine RE (zh4 (us:=[tB (decide (n < 0)),tLm cs]) (t:=tWh ⟨(decide (n < 0)),cs⟩) ti39 rfl rfl rfl rfl) qA qA trivial ?_;refine A4 ?_;exact EC rfl ⟨_,_,_,_,_,rfl,rfl,ti39,(Le.of (by rw [<-wh_of,hcs,zq9 (by rw [<-hu];omega) hi,hv]))⟩
instance fi98:FnI Tryz.prog 98:=⟨_,func98,by kernel_rfl,rfl⟩
def kfr (n d:Int):Rat:=if d < 1 then 0 else Rat.divInt n d
theorem zk4 {n d:Int} (h:d < 1∨n=0):kfr n d=0:=by
 rw [kfr];rcases h with h | h
 ·rw [if_pos h]
 ·subst h;split
  ·rfl
  ·exact Rat.zero_divInt d
theorem qi3 {n d:Int} (h: ¬d < 1):kfr n d=Rat.divInt n d:=if_neg h
theorem qm0:fr 0=⟨⟨false,[]⟩,wh 1⟩:=by
 have e1:(0:Rat).num=0:=rfl;have e2:(((0:Rat).den:Nat):Int)=1:=rfl;rw [fr,e1,e2,zg2]
theorem ja5 {n d:Int} {a:Nat} (hd: ¬d < 1) (ha:a=Nat.gcd n.natAbs d.natAbs):0 < a/\(a:Int)<=d/\n.tdiv a=n / (a:Int)/\d.tdiv a=d / (a:Int)/\fr (Rat.divInt n d)=⟨wh (n / (a:Int)),wh (d / (a:Int))⟩/\(n / (a:Int)).natAbs<=n.natAbs/\(d / (a:Int)).natAbs<=d.natAbs/\(n<=0->n / (a:Int)<=0)/\(0<=n->0<=n / (a:Int))/\0<=d / (a:Int):=by
 have h0:0 < a:=by rw [ha];exact Nat.gcd_pos_of_pos_right _ (by omega)
 have h1:a<=d.natAbs:=by rw [ha];exact Nat.le_of_dvd (by omega) (zgx _ _)
 have h2:(a:Int) ∣ n:=Int.dvd_natAbs.1 (zfq.2 (ha▸Nat.gcd_dvd_left _ _));have h3:(a:Int) ∣ d:=Int.dvd_natAbs.1 (zfq.2 (ha▸zgx _ _));refine ⟨h0,by omega,Int.tdiv_eq_ediv_of_dvd h2,Int.tdiv_eq_ediv_of_dvd h3,?_,Int.natAbs_ediv_le_natAbs _ _,Int.natAbs_ediv_le_natAbs _ _,fun h=> ?_,fun h=>Int.ediv_nonneg h (by omega),Int.ediv_nonneg (by omega) (by omega)⟩
 ·have h4:=yi0 (n:=n) (d:=d) (by omega);have h5:(Int.gcd n d)=a:=by rw [ha];rfl
  rw [h5] at h4;exact h4
 ·have:=Int.ediv_le_ediv (show 0 < (a:Int) by omega) h;simpa using this
theorem qg7 (n d:Int) (h1: -9223372036854775808<=n) (h2:n<=9223372036854775807) (h3: -9223372036854775808<=d) (h4:d<=9223372036854775807):
  Ct Tryz.prog 32 [tI n,tI d] (tFr (fr (kfr n d))):=by
 refine Ct.intro func32 rfl ntmps32 rfl ?_;intro w F;refine A2 ?_;refine RE (x7 (k:=4) (n:=4) (agg:=true) zr41.1 zr41.2 rfl) trivial trivial qA ?_;refine A8 ?_;refine RGcaseD (t:=9) rfl (fun h22=> ?_) (fun h22=> ?_)
 ·
  have hK:=zk4 (n:=n) (d:=d) (.inl h22);refine A8 ?_;refine R1 (x3 (yn3 1 (by decide) (by decide)) fi98 rfl) rfl (R1 (xb0 (r:=tS [⟨2,true,zac⟩,⟨2,true,tWh (wh 1)⟩]) (ts:=[(1,tWh (wh 1))]) bu41 zr41.2 (Bc 1 rfl rfl rfl zao)) rfl ?_);refine A5 ?_;exact EC rfl ⟨_,_,_,_,_,rfl,rfl,ti41,(Le.of (by rw [hK,qm0]))⟩
 ·
  have hd: ¬d < 1:=h22;refine A5 ?_;refine x6 rfl (fun h22_2=> ?_) (fun h22_2=> ?_)
  ·
   have hK:=zk4 (n:=n) (d:=d) (.inr h22_2);refine A2 ?_;refine R1 (x3 (yn3 1 (by decide) (by decide)) fi98 rfl) rfl (R1 (xb0 (r:=tS [⟨2,true,zac⟩,⟨2,true,tWh (wh 1)⟩]) (ts:=[(1,tWh (wh 1))]) bu41 zr41.2 (Bc 1 rfl rfl rfl zao)) rfl ?_);refine A5 ?_;exact EC rfl ⟨_,_,_,_,_,rfl,rfl,ti41,(Le.of (by rw [hK,qm0]))⟩
  ·
   refine A5 ?_;refine R1 (x5 zhd (isS zhg) toU64) rfl ?_;refine A1 ?_;refine R1 (x5 (r:=((d.natAbs:Nat):Int)) zhd (isS zhg) (by rw [mu64];omega)) rfl ?_;refine A4 ?_;refine xf0 (fun (v:Nat)=>v=n.natAbs) (fun (v:Nat)=>uV (uV (uO (uV (uV uN 0 (tI n)) 1 (tI d)) 4 (.ptr 4 0)) 5 (tE (.int .u64 ((v:Nat):Int)))) 6 (tE (.int .u64 ((d.natAbs:Nat):Int)))) (fun (v:Nat)=>uK uN 4 41 4 true [.val (tFr fr0)]) (nm [4]) ?_ ?_
   ·
    refine A6 ?_;refine x6 rfl (fun h26=> ?_) (fun h26=> ?_)
    ·
     refine A2 ?_;refine R1 (zq6 (negU64 (by omega))) rfl ?_;refine A2 ?_;exact kF ((18446744073709551616 - (n%18446744073709551616).toNat)%18446744073709551616) (by omega)
    ·
     refine A1 ?_;exact kF ((n%18446744073709551616).toNat) (by omega)
   ·
    intro v hv;refine A2 ?_;refine cL (fun (fm:(Nat)×(Nat))=>(fun (a:Nat) (b:Nat)=>Nat.gcd a b=Nat.gcd v d.natAbs/\a < 18446744073709551616/\b < 18446744073709551616) fm.1 fm.2) (wB fun (a:Nat) (b:Nat)=>uV (uV (uO (uV (uV uN 0 (tI n)) 1 (tI d)) 4 (.ptr 4 0)) 5 (tE (.int .u64 ((a:Nat):Int)))) 6 (tE (.int .u64 ((b:Nat):Int)))) (wB fun (a:Nat) (b:Nat)=>uK uN 4 41 4 true [.val (tFr fr0)]) [4] (fun (fm:(Nat)×(Nat))=>(fun (a:Nat) (b:Nat)=>b) fm.1 fm.2) ((v,d.natAbs)) (by dsimp only;exact ⟨rfl,by omega,by omega⟩) ?_;intro fm hI;obtain ⟨a,b⟩:=fm;replace hI:Nat.gcd a b=Nat.gcd v d.natAbs/\a < 18446744073709551616/\b < 18446744073709551616:=hI;show wc _ _ _ _ (uV (uV (uO (uV (uV uN 0 (tI n)) 1 (tI d)) 4 (.ptr 4 0)) 5 (tE (.int .u64 ((a:Nat):Int)))) 6 (tE (.int .u64 ((b:Nat):Int)))) (uK uN 4 41 4 true [.val (tFr fr0)]) _;obtain ⟨hg,ha64,hb64⟩:=hI;refine A7 ?_;refine x6 rfl (fun h29=> ?_) (fun h29=> ?_)
    ·
     refine A7 ?_;refine R2 (xd9 (r:=((a%b:Nat):Int)) (by omega) wrem64) rfl rfl ?_;refine A4 ?_;have hbp:0 < b:=by omega
     have hlt:=zck a hbp;exact kF ((b,a%b)) ⟨(by dsimp only;exact ⟨by rw [zgk b,<-Nat.gcd_rec,zgk];exact hg,hb64,by omega⟩),(by dsimp only;omega)⟩
    ·
     refine A6 ?_;have hb0:b=0:=by omega
     subst hb0;rw [Nat.gcd_zero_right,hv] at hg;obtain ⟨g1,g2,g3,g4,g5,g6,g7,g8,g9,g10⟩:=ja5 (n:=n) hd hg;refine A3 ?_;refine R1 (x5 (r:=(a:Int)) zhg (isS zhd) zah) rfl (R2 (xe4 (r:=n / (a:Int)) (by omega) (by rw [g3];exact wr64 (by omega) (by omega))) rfl rfl (R1 (x3 (yn3 _ (by omega) (by omega)) fi98 rfl) rfl ?_));refine A2 ?_;refine R1 (x5 (r:=(a:Int)) zhg (isS zhd) zah) rfl (R2 (xe4 (r:=d / (a:Int)) (by omega) (by rw [g4];exact wr64 (by omega) (by omega))) rfl rfl (R1 (x3 (yn3 _ (by omega) (by omega)) fi98 rfl) rfl (R2 (xb0 (r:=tS [⟨2,true,tWh (wh (n / (a:Int)))⟩,⟨2,true,tWh (wh (d / (a:Int)))⟩]) (ts:=[(0,tWh (wh (n / (a:Int)))),(1,tWh (wh (d / (a:Int))))]) bu41 zr41.2 (Bc 0 rfl rfl rfl (Bc 1 rfl rfl rfl zao))) rfl rfl ?_)));refine A4 ?_;exact EC rfl ⟨_,_,_,_,_,rfl,rfl,ti41,(Le.of (by rw [qi3 hd,g5]))⟩
instance ti59:TyI Tryz.prog 59 8 true:=⟨by kernel_rfl,by kernel_rfl⟩
instance fi30:FnI Tryz.prog 30:=⟨_,func30,by kernel_rfl,rfl⟩
instance fi32:FnI Tryz.prog 32:=⟨_,func32,by kernel_rfl,rfl⟩
instance fi198:FnI Tryz.prog 198:=⟨_,func198,by kernel_rfl,rfl⟩
theorem zr57:(Tryz.prog.info? 57).bind (·.zero)=some (.agg #[.int .u8 0,.bool false,.slice none 0 0,.bool false,.slice none 0 0,.int .i64 0])/\ ∀F w,(tS [⟨1,false,(tE (.int .u8 0))⟩,⟨4,true,zad⟩,⟨1,false,(tE (.int .i64 0))⟩]).p F w (.agg #[.int .u8 0,.bool false,.slice none 0 0,.bool false,.slice none 0 0,.int .i64 0]):=⟨by kernel_rfl,fun _ _=>⟨_,rfl,rfl,⟨fun _=>rfl,rfl⟩,⟨fun h=>Bool.noConfusion h,⟨_,rfl,rfl,⟨fun h=>Bool.noConfusion h,⟨_,rfl,rfl,⟨fun _=>rfl,rfl⟩,⟨fun _=>rfl,⟨none,0,rfl,zbs _,by decide,.inl rfl⟩⟩,trivial⟩⟩,⟨fun h=>Bool.noConfusion h,⟨_,rfl,rfl,⟨fun _=>rfl,rfl⟩,⟨fun _=>rfl,⟨none,0,rfl,zbs _,by decide,.inl rfl⟩⟩,trivial⟩⟩,trivial⟩⟩,⟨fun _=>rfl,rfl⟩,trivial⟩⟩
theorem zr59:(Tryz.prog.info? 59).bind (·.zero)=some (.agg #[.int .i64 0,.int .i64 0,.int .u8 0,.bool false,.slice none 0 0,.bool false,.slice none 0 0,.int .i64 0])/\ ∀F w,(tS [⟨1,false,(tE (.int .i64 0))⟩,⟨1,false,(tE (.int .i64 0))⟩,⟨6,true,(tS [⟨1,false,(tE (.int .u8 0))⟩,⟨4,true,zad⟩,⟨1,false,(tE (.int .i64 0))⟩])⟩]).p F w (.agg #[.int .i64 0,.int .i64 0,.int .u8 0,.bool false,.slice none 0 0,.bool false,.slice none 0 0,.int .i64 0]):=⟨by kernel_rfl,fun _ _=>⟨_,rfl,rfl,⟨fun _=>rfl,rfl⟩,⟨fun _=>rfl,rfl⟩,⟨fun h=>Bool.noConfusion h,⟨_,rfl,rfl,⟨fun _=>rfl,rfl⟩,⟨fun h=>Bool.noConfusion h,⟨_,rfl,rfl,⟨fun h=>Bool.noConfusion h,⟨_,rfl,rfl,⟨fun _=>rfl,rfl⟩,⟨fun _=>rfl,⟨none,0,rfl,zbs _,by decide,.inl rfl⟩⟩,trivial⟩⟩,⟨fun h=>Bool.noConfusion h,⟨_,rfl,rfl,⟨fun _=>rfl,rfl⟩,⟨fun _=>rfl,⟨none,0,rfl,zbs _,by decide,.inl rfl⟩⟩,trivial⟩⟩,trivial⟩⟩,⟨fun _=>rfl,rfl⟩,trivial⟩⟩,trivial⟩⟩
theorem bu57:BuI Tryz.prog 57 (fun i=>[(0,1),(1,4),(5,1)][i]?) (.agg #[.int .u8 0,.bool false,.slice none 0 0,.bool false,.slice none 0 0,.int .i64 0]):=BuI.struct underlying57 (by kernel_rfl) (by kernel_rfl)
theorem bu59:BuI Tryz.prog 59 (fun i=>[(0,1),(1,1),(2,6)][i]?) (.agg #[.int .i64 0,.int .i64 0,.int .u8 0,.bool false,.slice none 0 0,.bool false,.slice none 0 0,.int .i64 0]):=BuI.struct underlying59 (by kernel_rfl) (by kernel_rfl)
theorem zq8 (n d:Int) (h1: -9223372036854775808<=n) (h2:n<=9223372036854775807) (h3: -9223372036854775808<=d) (h4:d<=9223372036854775807):
  Ct Tryz.prog 30 [tI n,tI d] (tVa ⟨2,fr (kfr n d),0⟩):=by
 refine Ct.intro func30 rfl ntmps30 rfl ?_;intro w F;refine A2 ?_;refine RE (x7 (k:=4) (n:=6) (agg:=true) zr57.1 zr57.2 rfl) trivial trivial qA ?_;refine A6 ?_;refine R2 (x3 (qg7 n d h1 h2 h3 h4) fi32 rfl) rfl rfl (R2 (xb0 (r:=tS [⟨1,false,tE (.int .u8 2)⟩,⟨4,true,tFr (fr (kfr n d))⟩,⟨1,false,(tE (.int .i64 0))⟩]) (ts:=[(0,tE (.int .u8 2)),(1,tFr (fr (kfr n d)))]) bu57 zr57.2 (Bc 0 rfl rfl rfl (Bc 1 rfl rfl rfl zao))) rfl rfl ?_);refine A4 ?_;exact EC rfl ⟨_,_,_,_,_,rfl,rfl,ti57,(Le.of rfl)⟩
theorem yt2 (x y:Va):
  Ct Tryz.prog 123 [tVa x,tVa y] (tB (decide (x=y))):=by
 refine Ct.intro func123 rfl ntmps123 rfl ?_;intro w F;refine A15 ?_;refine RGcaseD (t:=10) rfl (fun h34=> ?_) (fun h34=> ?_)
 ·
  refine A7 ?_;refine RGcaseD (t:=17) rfl (fun h34_2=> ?_) (fun h34_2=> ?_)
  ·
   refine A4 ?_;refine Rg (zbg h34_2) rfl (x3 (xk8 _ _) fi198 rfl) rfl qB ?_;refine A5 ?_;exact E1 rfl rfl (zau (by obtain ⟨a,b,e⟩:=x;obtain ⟨c,d,f⟩:=y;simp only [Va.mk.injEq] at*;simp_all <;> omega))
  ·
   refine A10 ?_;exact E1 rfl rfl (zau (by obtain ⟨a,b,e⟩:=x;obtain ⟨c,d,f⟩:=y;simp only [Va.mk.injEq] at*;simp_all <;> omega))
 ·
  refine A17 ?_;exact E1 rfl rfl (zau (by obtain ⟨a,b,e⟩:=x;obtain ⟨c,d,f⟩:=y;simp only [Va.mk.injEq] at*;simp_all <;> omega))
theorem zw3 (a b:Int):
  Ct Tryz.prog 191 [tI a,tI b] (tB (Sn.ok ⟨a,b⟩)):=by
 refine Ct.intro func191 rfl ntmps191 rfl ?_;intro w F;refine A10 ?_;refine RGcaseD (t:=7) rfl (fun h56=> ?_) (fun h56=> ?_)
 ·
  refine A5 ?_;refine RGcaseD (t:=12) rfl (fun h56_2=> ?_) (fun h56_2=> ?_)
  ·
   refine A7 ?_;exact E1 rfl rfl (zau (by simp [Sn.ok, *]))
  ·
   refine A7 ?_;exact E1 rfl rfl (zau (by simp [Sn.ok, *]))
 ·
  refine A12 ?_;exact E1 rfl rfl (zau (by simp [Sn.ok, *]))
theorem va23 {v:Va} {b:Bool} (h:(v.kind:Int)=2∨(v.kind:Int)=3) (hb:b=(decide (v.i=0) && v.f.valid)):b=v.valid:=by
 rw [Va.valid,if_pos (by omega)];exact hb
theorem va1 {v:Va} {b:Bool} (h:(v.kind:Int)=1) (hb:b=(decide (v.f=fr0) && decide (0<=v.i) && decide (v.i<=1))):b=v.valid:=by
 rw [Va.valid,if_neg (by omega),if_pos (by omega)];exact hb
theorem va4 {v:Va} {b:Bool} (h:(v.kind:Int)=4) (hb:b=(decide (v.f=fr0) && decide (0<=v.i) && decide (v.i < 65536))):b=v.valid:=by
 rw [Va.valid,if_neg (by omega),if_neg (by omega),if_pos (by omega)];exact hb
theorem va56 {v:Va} {b:Bool} (h:(v.kind:Int)=5∨(v.kind:Int)=6) (hb:b=(decide (v.f=fr0) && decide (-1048576<=v.i) && decide (v.i<=1048576))):b=v.valid:=by
 rw [Va.valid,if_neg (by omega),if_neg (by omega),if_neg (by omega),if_pos (by omega)];exact hb
theorem va0 {v:Va} (h1: ¬((v.kind:Int)=2∨(v.kind:Int)=3)) (h2: ¬(v.kind:Int)=1) (h3: ¬(v.kind:Int)=4) (h4: ¬((v.kind:Int)=5∨(v.kind:Int)=6)):false=v.valid:=by
 rw [Va.valid,if_neg (by omega),if_neg (by omega),if_neg (by omega),if_neg (by omega)]
theorem zz5 (v:Va) (hD:v.f.dig):
  Ct Tryz.prog 121 [tVa v] (tB v.valid):=by
 refine Ct.intro func121 rfl ntmps121 rfl ?_;intro w F;refine A18 ?_;refine A3 ?_;refine x6 rfl (fun h20=> ?_) (fun h20=> ?_)
 ·
  refine A2 ?_;refine x6 rfl (fun h20_2=> ?_) (fun h20_2=> ?_)
  ·
   refine A6 ?_;refine RGcaseD (t:=11) rfl (fun h21=> ?_) (fun h21=> ?_)
   ·
    refine A2 ?_;refine Rg (zbg h21) rfl (x3 (yz8 _ hD.1 hD.2) fi49 rfl) rfl qA ?_;refine A7 ?_;exact E1 rfl rfl (zau (va23 (by omega) (by first | (simp [*];done) | simp [*])))
   ·
    refine A10 ?_;exact E1 rfl rfl (zau (va23 (by omega) (by first | (simp [*];done) | simp [*])))
  ·
   refine A6 ?_;refine x6 rfl (fun h22=> ?_) (fun h22=> ?_)
   ·
    refine A4 ?_;refine R0 (xb0 (r:=zad) (ts:=[]) bu41 zr41.2 zao) (R2 (x3 (xk8 _ fr0) fi198 rfl) rfl rfl ?_);refine A1 ?_;refine RGcaseD (t:=22) rfl (fun h23=> ?_) (fun h23=> ?_)
    ·
     refine A5 ?_;refine RGcaseD (t:=27) rfl (fun h23_2=> ?_) (fun h23_2=> ?_)
     ·
      refine A10 ?_;exact E1 rfl rfl (zau (va1 (by omega) (by simp [*])))
     ·
      refine A10 ?_;exact E1 rfl rfl (zau (va1 (by omega) (by simp [*])))
    ·
     refine A15 ?_;exact E1 rfl rfl (zau (va1 (by omega) (by simp [*])))
   ·
    refine A6 ?_;refine x6 rfl (fun h24=> ?_) (fun h24=> ?_)
    ·
     refine A4 ?_;refine R0 (xb0 (r:=zad) (ts:=[]) bu41 zr41.2 zao) (R2 (x3 (xk8 _ fr0) fi198 rfl) rfl rfl ?_);refine A1 ?_;refine RGcaseD (t:=38) rfl (fun h25=> ?_) (fun h25=> ?_)
     ·
      refine A5 ?_;refine RGcaseD (t:=43) rfl (fun h25_2=> ?_) (fun h25_2=> ?_)
      ·
       refine A10 ?_;exact E1 rfl rfl (zau (va4 (by omega) (by simp [*])))
      ·
       refine A10 ?_;exact E1 rfl rfl (zau (va4 (by omega) (by simp [*])))
     ·
      refine A15 ?_;exact E1 rfl rfl (zau (va4 (by omega) (by simp [*])))
    ·
     refine A7 ?_;refine x6 rfl (fun h26=> ?_) (fun h26=> ?_)
     ·
      refine A2 ?_;refine x6 rfl (fun h26_2=> ?_) (fun h26_2=> ?_)
      ·
       refine A4 ?_;refine R0 (xb0 (r:=zad) (ts:=[]) bu41 zr41.2 zao) (R2 (x3 (xk8 _ fr0) fi198 rfl) rfl rfl ?_);refine A1 ?_;refine RGcaseD (t:=55) rfl (fun h27=> ?_) (fun h27=> ?_)
       ·
        refine A5 ?_;refine RGcaseD (t:=60) rfl (fun h27_2=> ?_) (fun h27_2=> ?_)
        ·
         refine A10 ?_;exact E1 rfl rfl (zau (va56 (by omega) (by simp [*])))
        ·
         refine A10 ?_;exact E1 rfl rfl (zau (va56 (by omega) (by simp [*])))
       ·
        refine A15 ?_;exact E1 rfl rfl (zau (va56 (by omega) (by simp [*])))
      ·
       refine A9 ?_;exact E1 rfl rfl (zau (va0 (by omega) (by omega) (by omega) (by omega)))
     ·
      refine A5 ?_;refine x6 rfl (fun h26_2=> ?_) (fun h26_2=> ?_)
      ·
       refine A4 ?_;refine R0 (xb0 (r:=zad) (ts:=[]) bu41 zr41.2 zao) (R2 (x3 (xk8 _ fr0) fi198 rfl) rfl rfl ?_);refine A1 ?_;refine RGcaseD (t:=55) rfl (fun h27=> ?_) (fun h27=> ?_)
       ·
        refine A5 ?_;refine RGcaseD (t:=60) rfl (fun h27_2=> ?_) (fun h27_2=> ?_)
        ·
         refine A10 ?_;exact E1 rfl rfl (zau (va56 (by omega) (by simp [*])))
        ·
         refine A10 ?_;exact E1 rfl rfl (zau (va56 (by omega) (by simp [*])))
       ·
        refine A15 ?_;exact E1 rfl rfl (zau (va56 (by omega) (by simp [*])))
      ·
       refine A9 ?_;exact E1 rfl rfl (zau (va0 (by omega) (by omega) (by omega) (by omega)))
 ·
  refine A5 ?_;refine x6 rfl (fun h20_2=> ?_) (fun h20_2=> ?_)
  ·
   refine A6 ?_;refine RGcaseD (t:=11) rfl (fun h21=> ?_) (fun h21=> ?_)
   ·
    refine A2 ?_;refine Rg (zbg h21) rfl (x3 (yz8 _ hD.1 hD.2) fi49 rfl) rfl qA ?_;refine A7 ?_;exact E1 rfl rfl (zau (va23 (by omega) (by first | (simp [*];done) | simp [*])))
   ·
    refine A10 ?_;exact E1 rfl rfl (zau (va23 (by omega) (by first | (simp [*];done) | simp [*])))
  ·
   refine A6 ?_;refine x6 rfl (fun h22=> ?_) (fun h22=> ?_)
   ·
    refine A4 ?_;refine R0 (xb0 (r:=zad) (ts:=[]) bu41 zr41.2 zao) (R2 (x3 (xk8 _ fr0) fi198 rfl) rfl rfl ?_);refine A1 ?_;refine RGcaseD (t:=22) rfl (fun h23=> ?_) (fun h23=> ?_)
    ·
     refine A5 ?_;refine RGcaseD (t:=27) rfl (fun h23_2=> ?_) (fun h23_2=> ?_)
     ·
      refine A10 ?_;exact E1 rfl rfl (zau (va1 (by omega) (by simp [*])))
     ·
      refine A10 ?_;exact E1 rfl rfl (zau (va1 (by omega) (by simp [*])))
    ·
     refine A15 ?_;exact E1 rfl rfl (zau (va1 (by omega) (by simp [*])))
   ·
    refine A6 ?_;refine x6 rfl (fun h24=> ?_) (fun h24=> ?_)
    ·
     refine A4 ?_;refine R0 (xb0 (r:=zad) (ts:=[]) bu41 zr41.2 zao) (R2 (x3 (xk8 _ fr0) fi198 rfl) rfl rfl ?_);refine A1 ?_;refine RGcaseD (t:=38) rfl (fun h25=> ?_) (fun h25=> ?_)
     ·
      refine A5 ?_;refine RGcaseD (t:=43) rfl (fun h25_2=> ?_) (fun h25_2=> ?_)
      ·
       refine A10 ?_;exact E1 rfl rfl (zau (va4 (by omega) (by simp [*])))
      ·
       refine A10 ?_;exact E1 rfl rfl (zau (va4 (by omega) (by simp [*])))
     ·
      refine A15 ?_;exact E1 rfl rfl (zau (va4 (by omega) (by simp [*])))
    ·
     refine A7 ?_;refine x6 rfl (fun h26=> ?_) (fun h26=> ?_)
     ·
      refine A2 ?_;refine x6 rfl (fun h26_2=> ?_) (fun h26_2=> ?_)
      ·
       refine A4 ?_;refine R0 (xb0 (r:=zad) (ts:=[]) bu41 zr41.2 zao) (R2 (x3 (xk8 _ fr0) fi198 rfl) rfl rfl ?_);refine A1 ?_;refine RGcaseD (t:=55) rfl (fun h27=> ?_) (fun h27=> ?_)
       ·
        refine A5 ?_;refine RGcaseD (t:=60) rfl (fun h27_2=> ?_) (fun h27_2=> ?_)
        ·
         refine A10 ?_;exact E1 rfl rfl (zau (va56 (by omega) (by simp [*])))
        ·
         refine A10 ?_;exact E1 rfl rfl (zau (va56 (by omega) (by simp [*])))
       ·
        refine A15 ?_;exact E1 rfl rfl (zau (va56 (by omega) (by simp [*])))
      ·
       refine A9 ?_;exact E1 rfl rfl (zau (va0 (by omega) (by omega) (by omega) (by omega)))
     ·
      refine A5 ?_;refine x6 rfl (fun h26_2=> ?_) (fun h26_2=> ?_)
      ·
       refine A4 ?_;refine R0 (xb0 (r:=zad) (ts:=[]) bu41 zr41.2 zao) (R2 (x3 (xk8 _ fr0) fi198 rfl) rfl rfl ?_);refine A1 ?_;refine RGcaseD (t:=55) rfl (fun h27=> ?_) (fun h27=> ?_)
       ·
        refine A5 ?_;refine RGcaseD (t:=60) rfl (fun h27_2=> ?_) (fun h27_2=> ?_)
        ·
         refine A10 ?_;exact E1 rfl rfl (zau (va56 (by omega) (by simp [*])))
        ·
         refine A10 ?_;exact E1 rfl rfl (zau (va56 (by omega) (by simp [*])))
       ·
        refine A15 ?_;exact E1 rfl rfl (zau (va56 (by omega) (by simp [*])))
      ·
       refine A9 ?_;exact E1 rfl rfl (zau (va0 (by omega) (by omega) (by omega) (by omega)))
end An.S
namespace An
open Go
theorem qe7 {n i:Nat} {f:Nat->Bool} (hi:i < n) (h:f i=false):(List.range n).all f=false:=by
 rw [List.all_eq_false];exact ⟨i,zdp.2 hi,by simp [h]⟩
theorem xp6 {i:Nat} {f:Nat->Bool}:(List.range (i+1)).all f=((List.range i).all f && f i):=by
 rw [List.range_succ,List.all_append];simp
theorem yb8 {l:List Tst} {i:Nat}:tOk l i=true↔0<=(l.getD i tst0).lo/\(l.getD i tst0).lo < (l.getD i tst0).hi/\(l.getD i tst0).hi<=65536/\(i=0∨(l.getD (i - 1) tst0).hi<=(l.getD i tst0).lo/\(l.getD (i - 1) tst0).v.kind=(l.getD i tst0).v.kind/\ ¬((l.getD (i - 1) tst0).hi=(l.getD i tst0).lo/\(l.getD (i - 1) tst0).v=(l.getD i tst0).v)):=by
 simp only [tOk,zcg,zfn,zgv,Bool.and_eq_false_iff,zdj,decide_eq_false_iff_not,and_assoc,Decidable.not_and_iff_not_or_not]
theorem xo7 {l:List Tst} {i:Nat} (hi:i < l.length) (h: ¬(0<=(l.getD i tst0).lo/\(l.getD i tst0).lo < (l.getD i tst0).hi/\(l.getD i tst0).hi<=65536/\(i=0∨(l.getD (i - 1) tst0).hi<=(l.getD i tst0).lo/\(l.getD (i - 1) tst0).v.kind=(l.getD i tst0).v.kind/\ ¬((l.getD (i - 1) tst0).hi=(l.getD i tst0).lo/\(l.getD (i - 1) tst0).v=(l.getD i tst0).v)))):false=tRight l:=by
 rw [tRight,qe7 hi (Bool.eq_false_iff.2 fun h'=>h (yb8.1 h'))];rfl
def ixF (p:Tst->Bool) (l:List Tst):Int:=if l.any p then ((l.takeWhile fun s=> !p s).length:Int) else -1
theorem jf0 {p:Tst->Bool}: ∀{l:List Tst} {i:Nat},i < l.length->(l.take i).any p=false->p (l.getD i tst0)=true->(i:Int)=ixF p l
 | [],i,hi,_,_=>by simp at hi
 | x::xs,0,_,_,h=>by
  have h:p x=true:=h;simp [ixF,h]
 | x::xs,i+1,hi,ha,h=>by
  simp only [List.take_succ_cons,List.any_cons,Bool.or_eq_false_iff] at ha;have h2:p (xs.getD i tst0)=true:=by simpa using h
  have hi2:i < xs.length:=by simpa using hi
  have ih:=jf0 hi2 ha.2 h2;have hany:xs.any p=true:=List.any_eq_true.2 ⟨xs.getD i tst0,by rw [zbh,zbi hi2];exact zfx hi2,h2⟩;rw [ixF,if_pos hany] at ih;simp only [ixF,List.any_cons,ha.1,hany,Bool.or_true,if_true,Bool.not_false,List.takeWhile_cons,zeq];omega
theorem wa2 {p:Tst->Bool} {l:List Tst} (h:l.any p=false): -1=ixF p l:=by simp [ixF,h]
theorem jv0 {p:Tst->Bool} {l:List Tst}:decide (ixF p l≥0)=l.any p:=by
 rw [ixF];cases l.any p with
 | true=>simp
 | false=>simp
theorem jm9 {p:Tst->Bool} {l:List Tst} {i:Nat} (hi:i < l.length):(l.take (i+1)).any p=((l.take i).any p || p (l.getD i tst0)):=by
 rw [zby hi,List.any_append,zbh,zbi hi];simp
theorem wb9 {l:List Tst}:(!l.any fun s=> !s.v.valid)=l.all fun s=>s.v.valid:=by
 rw [List.not_any_eq_all_not];simp
theorem xi0 {l:List Tst} {i:Nat} (hi:i < l.length):l.getD i tst0∈l:=by
 rw [zbh,zbi hi];exact zfx hi
theorem y5 {l:List Tst} (h:tRight l=true): ∀s∈l,s.v.valid=true:=by
 simp only [tRight,zcg,zei] at h;exact h.2
theorem yp3 {v:Va} (h:v.valid=true):v.f.n.l.length<=256/\v.f.d.l.length<=256:=by
 have z:fr0.n.l.length<=256/\fr0.d.l.length<=256:=by decide
 rw [Va.valid] at h;split at h
 ·simp only [zcg,Fr.valid,Fr.sh,zdj] at h;exact h.2.1.1.1.1
 ·split at h
  ·simp only [zcg,zdj] at h;rw [h.1.1];exact z
  ·split at h
   ·simp only [zcg,zdj] at h;rw [h.1.1];exact z
   ·split at h
    ·simp only [zcg,zdj] at h;rw [h.1.1];exact z
    ·cases h
def pst1 (acc:List Tst) (s:Tst):List Tst:=
 if s.hi<=s.lo then acc
 else if 0 < acc.length/\(acc.getD (acc.length - 1) tst0).hi=s.lo/\(acc.getD (acc.length - 1) tst0).v=s.v then acc.set (acc.length - 1) ⟨(acc.getD (acc.length - 1) tst0).lo,s.hi,(acc.getD (acc.length - 1) tst0).v⟩
 else acc++[s]
def pst (acc ps:List Tst):List Tst:=ps.foldl pst1 acc
def clip (a b:Int) (s:Tst):Tst:=⟨max s.lo a,min s.hi b,s.v⟩
def cutT (l:List Tst) (a b:Int):List Tst:=pst [] (l.map (clip a b))
theorem pst1_len (acc:List Tst) (s:Tst):(pst1 acc s).length<=acc.length+1:=by
 rw [pst1];split
 ·omega
 ·split
  ·simp
  ·simp
theorem yd1: ∀(ps acc:List Tst),(pst acc ps).length<=acc.length+ps.length
 | [],acc=>by simp [pst]
 | s::r,acc=>by
  have h1:=yd1 r (pst1 acc s);have h2:=pst1_len acc s;simp only [pst,List.foldl_cons,zeq] at*
  omega
theorem xs1 {l:List Tst} {i:Nat} (acc:List Tst) (hi:i < l.length):pst acc (l.take (i+1))=pst1 (pst acc (l.take i)) (l.getD i tst0):=by
 rw [zby hi,pst,zft,zbh,zbi hi];rfl
end An
namespace An.S
open Go Go.Proofs An Tryz
instance sl51:SlI Tryz.prog 51 59 8 true:=⟨zhm,ti59⟩
instance fo59_0:FoI Tryz.prog 59 0 0:=⟨by kernel_rfl⟩
instance fo59_1:FoI Tryz.prog 59 1 1:=⟨by kernel_rfl⟩
instance fo59_2:FoI Tryz.prog 59 2 2:=⟨by kernel_rfl⟩
instance fi121:FnI Tryz.prog 121:=⟨_,func121,by kernel_rfl,rfl⟩
instance fi123:FnI Tryz.prog 123:=⟨_,func123,by kernel_rfl,rfl⟩
instance fi166:FnI Tryz.prog 166:=⟨_,func166,by kernel_rfl,rfl⟩
instance fi190:FnI Tryz.prog 190:=⟨_,func190,by kernel_rfl,rfl⟩
instance fi259:FnI Tryz.prog 259:=⟨_,func259,by kernel_rfl,rfl⟩
instance un51:UnI Tryz.prog 51 (.slice 59):=⟨zhm⟩
theorem jb5 (s:Tst) (hD:s.v.f.dig):
  Ct Tryz.prog 190 [tTs s] (tB (!s.v.valid)):=by
 refine Ct.intro func190 rfl ntmps190 rfl ?_;intro w F;refine A10 ?_;refine R1 (x3 (zz5 s.v hD) fi121 rfl) rfl ?_;refine A5 ?_;exact E1 rfl rfl zao
theorem jk9 (l:List Tst) (hD: ∀s∈l,s.v.f.dig):
  Ct Tryz.prog 259 [tL 8 true tTs l,tE (.func (.func 190) #[] #[])] (tI (ixF (fun s:Tst=> !s.v.valid) l)):=by
 refine Ct.intro func259 rfl ntmps259 rfl ?_;intro w F;refine xg9 (s:=0) rfl (fun hl0=> ?_);refine A14 ?_;refine cL (fun (i:Nat)=>i<=l.length/\(l.take i).any (fun s:Tst=> !s.v.valid)=false) (fun (i:Nat)=>uV (uV (uV (uV uN 0 (tL 8 true tTs l)) 1 (tE (.func (.func 190) #[] #[]))) 7 (tI l.length)) 8 (tI i)) (fun (i:Nat)=>fun _=>none) [] (fun (i:Nat)=>l.length - i) (0) ⟨zbq _,rfl⟩ ?_;intro i hI;obtain ⟨hi,ha⟩:=hI;refine A6 ?_;refine x6 rfl (fun h108=> ?_) (fun h108=> ?_)
 ·
  refine A15 ?_;refine R2 (x4 sl51 (i) (by omega) (zai (l:=l) (n:=i) (d:=tst0))) rfl rfl ?_;refine A1 ?_;refine R2 (xn2 (jb5 (l.getD i tst0) (hD _ (xi0 (by omega)))) fi190 rfl) rfl rfl ?_;refine A2 ?_;refine xc2 rfl (fun h109=> ?_) (fun h109=> ?_)
  ·
   refine A12 ?_;exact E1 rfl rfl (zba (jf0 (by omega) ha h109))
  ·
   refine A7 ?_;exact kF (i+1) ⟨⟨by omega,by rw [jm9 (by omega),ha,h109];rfl⟩,(by omega)⟩
 ·
  refine A11 ?_;exact E1 rfl rfl (zba (wa2 (by rw [<-ha,show i=l.length by omega,zbx])))
theorem qg0 (l:List Tst) (hD: ∀s∈l,s.v.f.dig):
  Ct Tryz.prog 166 [tL 8 true tTs l,tE (.func (.func 190) #[] #[])] (tB (l.any (fun s:Tst=> !s.v.valid))):=by
 refine Ct.intro func166 rfl ntmps166 rfl ?_;intro w F;refine A9 ?_;refine R2 (x3 (jk9 l hD) fi259 rfl) rfl rfl ?_;refine A5 ?_;exact E1 rfl rfl (zau jv0)
theorem xz5 (l:List Tst) (hD: ∀s∈l,s.v.f.dig):
  Ct Tryz.prog 106 [tL 8 true tTs l] (tB (tRight l)):=by
 refine Ct.intro func106 rfl ntmps106 rfl ?_;intro w F;refine xg9 (s:=0) rfl (fun hl0=> ?_);refine A14 ?_;refine cL (fun (i:Nat)=>i<=l.length/\(List.range i).all (tOk l)=true) (fun (i:Nat)=>uV (uV (uV (uV uN 0 (tL 8 true tTs l)) 6 (tL 8 true tTs l)) 7 (tI l.length)) 8 (tI i)) (fun (i:Nat)=>fun _=>none) [] (fun (i:Nat)=>l.length - i) (0) ⟨zbq _,rfl⟩ ?_;intro i hI;obtain ⟨hi,ha⟩:=hI;refine A6 ?_;refine x6 rfl (fun h39=> ?_) (fun h39=> ?_)
 ·
  refine A7 ?_;refine R2 (x4 sl51 (i) (by omega) (zai (l:=l) (n:=i) (d:=tst0))) rfl rfl ?_;refine A1 ?_;refine RE (x7 (k:=4) (n:=8) (agg:=true) zr59.1 zr59.2 rfl) trivial trivial qA ?_;refine A11 ?_;refine RGcaseD (t:=16) rfl (fun h40=> ?_) (fun h40=> ?_)
  ·
   refine A18 ?_;refine A8 ?_;exact E1 rfl rfl (zau (xo7 (i:=i) (by omega) (by omega)))
  ·
   refine A7 ?_;refine RGcaseD (t:=23) rfl (fun h40_2=> ?_) (fun h40_2=> ?_)
   ·
    refine A18 ?_;refine A1 ?_;exact E1 rfl rfl (zau (xo7 (i:=i) (by omega) (by omega)))
   ·
    refine A6 ?_;refine x6 rfl (fun h40_3=> ?_) (fun h40_3=> ?_)
    ·
     refine A12 ?_;exact E1 rfl rfl (zau (xo7 (i:=i) (by omega) (by omega)))
    ·
     refine A9 ?_;refine x6 rfl (fun h43=> ?_) (fun h43=> ?_)
     ·
      refine A8 ?_;have hok:tOk l i=true:=yb8.2 ⟨by omega,by omega,by omega,.inl (by omega)⟩;exact kF (i+1) ⟨⟨by omega,by rw [xp6,ha,zdr];exact hok⟩,(by omega)⟩
     ·
      refine A7 ?_;refine R2 (x4 sl51 (i - 1) (by omega) (zai (l:=l) (n:=i - 1) (d:=tst0))) rfl rfl ?_;refine A1 ?_;refine RE (x7 (k:=5) (n:=8) (agg:=true) zr59.1 zr59.2 rfl) trivial trivial qA ?_;refine A11 ?_;refine RGcaseD (t:=40) rfl (fun h47=> ?_) (fun h47=> ?_)
      ·
       refine A18 ?_;refine A18 ?_;exact E1 rfl rfl (zau (xo7 (i:=i) (by omega) (by omega)))
      ·
       refine A2 ?_;refine xb2 (zbf h47) rfl rfl (0) ti5 rfl rfl rfl (At.t (At.g 2 rfl rfl) (At.g 0 rfl rfl)) rfl ?_;refine A2 ?_;refine xb2 (zbf h47) rfl rfl (0) ti5 rfl rfl rfl (At.t (At.g 2 rfl rfl) (At.g 0 rfl rfl)) rfl ?_;refine A3 ?_;refine RGcaseD (t:=49) rfl (fun h47_2=> ?_) (fun h47_2=> ?_)
       ·
        refine A18 ?_;refine A9 ?_;exact E1 rfl rfl (zau (xo7 (i:=i) (by omega) (by omega)))
       ·
        refine A6 ?_;refine RGcaseD (t:=55) rfl (fun h47_3=> ?_) (fun h47_3=> ?_)
        ·
         refine A4 ?_;refine Rg (zbg h47_3) rfl (x3 (yt2 _ _) fi123 rfl) rfl qB (Rg (zbf h47_2) rfl (xc9 (zbg h47_3)) rfl qB ?_);refine A3 ?_;refine x6 rfl (fun h47_4=> ?_) (fun h47_4=> ?_)
         ·
          refine A11 ?_;exact E1 rfl rfl (zau (xo7 (i:=i) (by omega) (by rintro ⟨_,_,_,h | ⟨_,_,h⟩⟩;omega;exact h ⟨by omega,h47_4⟩)))
         ·
          refine A7 ?_;have hok:tOk l i=true:=yb8.2 ⟨by omega,by omega,by omega,.inr ⟨by omega,by omega,fun h=>h47_4 h.2⟩⟩;exact kF (i+1) ⟨⟨by omega,by rw [xp6,ha,zdr];exact hok⟩,(by omega)⟩
        ·
         refine A5 ?_;refine Rg (zbf h47_2) rfl (xc7 (zbf h47_3)) rfl qB ?_;refine A11 ?_;have hok:tOk l i=true:=yb8.2 ⟨by omega,by omega,by omega,.inr ⟨by omega,by omega,fun h=>h47_3 h.1⟩⟩;exact kF (i+1) ⟨⟨by omega,by rw [xp6,ha,zdr];exact hok⟩,(by omega)⟩
 ·
  refine A8 ?_;refine R2 (x3 (qg0 l hD) fi166 rfl) rfl rfl ?_;refine A5 ?_;exact E1 rfl rfl (zau (by rw [tRight,<-wb9,<-show i=l.length by omega,ha,zdr]))
end An.S
namespace An
open Go Go.ChangeShapes Go.WideShapes Go.ChangeAt Go.RowKit
def Old (w:World):Dom:=fun b=>b < w.heap.size
theorem qo0 {α:Type} {p:Nat->α->Prop}: ∀n:Nat,(∀i,i < n-> ∃x,p i x)-> ∃xs:List α,xs.length=n/\ ∀i x,xs[i]? =some x->p i x
 | 0,_=>⟨[],rfl,fun i x h=>by simp at h⟩
 | n+1,h=>by
  obtain ⟨xs,h1,h2⟩:=qo0 n fun i hi=>h i (by omega);obtain ⟨x,hx⟩:=h n (by omega);refine ⟨xs++[x],by simp [h1],fun i y hy=> ?_⟩;rcases zcx i n with hi | hi
  ·rw [zdo (by omega)] at hy;exact h2 i y hy
  ·rw [zeg (by omega)] at hy;have hi':i=n:=by
    have:=(zbn.1 hy).1;simp at this;omega
   subst hi';simp [h1] at hy;subst hy;exact hx
section
variable {α:Type} {P:Program} {T n:Nat} {f:α->Ty} {ok:α->Prop} {r:Reach} {b0:Nat} {v:Value} {H:Type} {enc:TypeId×Value->H} {w:World} {sp:Nat->Bool} {held:Bool} {d:DataW H} {p:List MemPlace}
end
theorem Ext.below {w w':World} (h:Ext w w'):Below w.heap.size w w':=⟨h.os,h.tape,h.output,h.size,h.block⟩
end An
namespace An
open Go Go.Proofs Go.Shelf Go.Sort Tryz
section
variable {α:Type} [Inhabited α]
def srt (cf:α->α->Int) (xs:List α):List α:=(pdq (ltOf cf) xs.toArray 0 xs.toArray.size (Go.Lib.bitLen xs.toArray.size) true true).toList
theorem yj9 {cf:α->α->Int} (hO:SWO (ltOf cf)) (xs:List α):(srt cf xs).length=xs.length/\(srt cf xs).Perm xs/\(srt cf xs).Pairwise fun a b=>ltOf cf b a=false:=by
 obtain ⟨⟨h1,_,h2⟩,h3⟩:=pdq_sorts (ltOf cf) hO xs.toArray 0 xs.toArray.size (Go.Lib.bitLen xs.toArray.size) true true (zbq _) (zbs _) (Or.inl rfl);rw [srt];generalize pdq (ltOf cf) xs.toArray 0 xs.toArray.size (Go.Lib.bitLen xs.toArray.size) true true=D at*
 have e1:D.size=xs.length:=by simpa using h1
 have x1:D.extract 0 xs.toArray.size=D:=by rw [<-h1];simp
 have x2:xs.toArray.extract 0 xs.toArray.size=xs.toArray:=by simp
 rw [x1,x2] at h2;refine ⟨by simpa using e1,by simpa using h2,?_⟩;rw [zfi];intro i j hi hj hij;have hi':i < D.size:=by simpa using hi
 have hj':j < D.size:=by simpa using hj
 have h6:=h3 i j (zbq _) hij (by rw [<-h1];exact hj');rw [zfm _ i hi',zfm _ j hj'] at h6;simpa using h6
theorem wb1 {cf:α->α->Int} (hO:SWO (ltOf cf)) {xs:List α} (h:xs.Pairwise fun a b=>ltOf cf a b=true):srt cf xs=xs:=by
 have hp:=(yj9 hO xs).2.1;have hs:=(yj9 hO xs).2.2;generalize srt cf xs=ys at*
 induction xs generalizing ys with
 | nil=>exact hp.eq_nil
 | cons x xs ih=>
  cases ys with
  | nil=>exact absurd hp.symm.eq_nil (by simp)
  | cons y ys=>
   obtain ⟨h1,h2⟩:=zcv.1 h;obtain ⟨s1,s2⟩:=zcv.1 hs;have hxy:y=x:=by
    have hy:y∈x::xs:=hp.mem_iff.1 (by simp);rcases zbr.1 hy with e | hy
    ·exact e
    ·have hx:x∈y::ys:=hp.mem_iff.2 (by simp);rcases zbr.1 hx with e | hx
     ·exact e.symm
     ·have a1:=s1 x hx;have a2:=h1 y hy;rw [a2] at a1;cases a1
   subst hxy;rw [ih h2 ys (List.perm_cons y |>.1 hp) s2]
end
theorem qm4 {α:Type} [Inhabited α] {enc:α->List Value} {k:Nat} (_hk: ∀x,(enc x).length=k) (d:Array α) {i j:Nat} (hi:i < d.size) (hj:j < k):(flatK enc k d)[i*k+j]! =(enc d[i]!)[j]! :=by
 have lt:i*k+j < d.size*k:=by
  have:=zbt k (show i+1<=d.size from hi);rw [zcn,zff] at this;omega
 rw [get_flatK _ _ _ _ lt];have e1:(i*k+j) / k=i:=by rw [zce,Nat.mul_add_div (by omega),zcz hj];omega
 have e2:(i*k+j)%k=j:=by rw [zce,Nat.mul_add_mod,zcc hj]
 rw [e1,e2]
theorem sortG {P:Program} {ρ:Ren} {α:Type} [Inhabited α] (L:SlLaysF0.n6 P ρ) {T k:Nat} {f:α->Ty} {enc:α->List Value} {cf:α->α->Int} {g:Nat} (aE: ∀w,(isAgg (ρ.t 24)).run P w= .ok true w) (zE: ∀w,(Go.sizeOf (ρ.t 24)).run P w= .ok k w)
  (hk: ∀x,(enc x).length=k) (h1: ∀x,∀v∈enc x,v.oneCell'=true) (hf1: ∀F w x v,(f x).p F w v->v= .agg (enc x).toArray) (hf2: ∀F w x,(f x).p F w (.agg (enc x).toArray)) (hO:SWO (ltOf cf))
  (eg: ∀args w,(callFunc g args).run P w= .ok (.enter g args) w) (hcmp: ∀(x y:α) (W:World),Calls P g #[.agg (enc x).toArray,.agg (enc y).toArray] W fun e w'=>e= .returned (.int .i64 (cf x y))/\ ∃q os',w'=grow (W.drewN q) os') (xs:List α) (hn:xs.length < 4611686018427387904):
  CtG P (ρ.f 6) [(1,⟨T,k,true,rV f xs⟩)] [.own (.sl 1 k 0 xs.length),.val (tE (.func (.func g) #[] #[]))] (.val (tE (.tuple #[]))) [(1,⟨T,k,true,rV f (srt cf xs)⟩)] []:=by
 intro F w η vs hS hA hI hF
 match vs,hS with
 | [v0,v1],hS=>
 obtain ⟨⟨A,rfl,hle,hadr⟩,h2,_⟩:=hS;have h2:v1= .func (.func g) #[] #[]:=h2;subst h2;obtain ⟨k1,k2,k3,k4,k5⟩:=hA (1,⟨T,k,true,rV f xs⟩) (by simp);have k1:(rV f xs).length<=η.c 1:=k1;have k2:0 < k:=k2;have k4:η.c 1<=9223372036854775807:=k4;rw [xd2] at k1;obtain ⟨s1,s2,_⟩:=yj9 hO xs;by_cases h0:xs.length=0
 ·have hx:xs=[]:=zcw.1 h0;subst hx;have e0:srt cf ([]:List α)=[]:=zcw.1 s1;rw [e0];refine (AnyF.slices_SortFunc_none L A (η.c 1 - 0) (.func (.func g) #[] #[]) w).mono ?_;rintro e w' ⟨rfl,rfl⟩;refine ⟨_,η,rfl,⟨Stp.refl _ _,fun _ _=>⟨rfl,rfl⟩,rfl,fun x hx=> ?_,hI,fun b hb=> .inl hb⟩⟩;simp only [zbj] at hx;subst hx;refine ⟨by simp [rV],k2,k3,k4,fun hc=> ?_⟩;obtain ⟨cs,c1,c2,_⟩:=k5 hc;exact ⟨cs,c1,c2,fun i e hi=>by simp [rV] at hi⟩
 ·have hc0:0 < η.c 1:=by omega
  obtain ⟨cs,c1,c2,c3⟩:=k5 hc0;have c1:w.heap[η.b 1]? =some (.cells cs T (0,0)):=c1;have c2:cs.size=η.c 1*k:=c2;have hA':=hadr hc0;rw [zdz] at hA';subst hA';have hblk:η.b 1 < w.heap.size:=xa7 c1;have hmul: ∀i,i < xs.length->i*k+k<=cs.size:=fun i hi=>by
   rw [c2,<-zdh];exact zbt _ (by omega)
  have hget: ∀i (hi:i < xs.length) j,j < k->cs[i*k+j]? =(enc xs[i])[j]? :=fun i hi j hj=>by
   have h3:=c3 i (.val (f xs[i])) (by rw [rV,zbu,zbi hi];rfl);have h4:=hf1 _ _ _ _ h3;simp only [pick,zey,zej] at h4;have h5:=congrArg (fun a:Array Value=>a[j]?) h4;simp only [zcs,zfe] at h5;have:=hmul i hi;rw [if_pos (by omega)] at h5;exact h5
  have hsize:xs.toArray.size=xs.length:=by simp
  have hH:HoldsK enc k w (η.b 1) 0 xs.toArray:=by
   intro j hj;rw [size_flatK,hsize] at hj;have hj1:j / k < xs.length:=by rw [Nat.div_lt_iff_lt_mul k2];exact hj
   have hj2:j%k < k:=zck _ k2;have hje:j / k*k+j%k=j:=by rw [zce];exact zdg j k
   have h6:=hget (j / k) hj1 (j%k) hj2;rw [hje] at h6;have h7:=qm4 hk xs.toArray (i:=j / k) (j:=j%k) (by rw [hsize];exact hj1) hj2;rw [hje] at h7;have hlen:j%k < (enc xs[j / k]).length:=by rw [hk];exact hj2
   have h8:xs.toArray[j / k]! =xs[j / k]:=by rw [zfm _ _ (by rw [hsize];exact hj1)];simp
   refine ⟨?_,?_⟩
   ·show w.cell? ⟨η.b 1,0+j,none⟩=some (flatK enc k xs.toArray)[j]!;rw [h7,h8,zfm (enc xs[j / k]) (j%k) hlen];simp only [World.cell?,c1,zcm,Option.isSome_none,zet,if_false];rw [h6,zbi hlen]
   ·simp [World.frozen?,c1]
  have hcon:=AnyQ.slices_SortFunc_eq L k aE zE enc hk h1 cf hO g #[] (η.b 1) 0 (η.c 1 - 0) xs.toArray w eg (fun m os dk _ x y=>hcmp x y _) hH hblk (by rw [hsize];exact hn);rw [hsize] at hcon;refine hcon.mono ?_;rintro e w' ⟨rfl,m,os,rfl⟩;have hd:(pdq (ltOf cf) xs.toArray 0 xs.length (Go.Lib.bitLen xs.length) true true).size=xs.length:=by
   have:(srt cf xs).length=xs.length:=s1;simpa [srt] using this
  have hl:(pdq (ltOf cf) xs.toArray 0 xs.length (Go.Lib.bitLen xs.length) true true).toList=srt cf xs:=by simp [srt]
  generalize pdq (ltOf cf) xs.toArray 0 xs.length (Go.Lib.bitLen xs.length) true true=d at hd hl;have hheap: ∀b',b' < w.heap.size->(sortWorldK enc k w (η.b 1) 0 m d os).heap[b']? =if b'=η.b 1 then some (.cells (putCells id 0 (flatK enc k d) cs) T (0,0)) else w.heap[b']? :=fun b' hb'=>by
   show (grow (putRowK enc k (Sort.ahead w m) (η.b 1) 0 d) os).heap[b']? =_;rw [heap_grow_old _ _ (by simp [putRowK];exact hb')];simp only [putRowK,putRow,mapBlock,Array.getElem?_modify];by_cases hb:b'=η.b 1
   ·subst hb;rw [if_pos rfl,if_pos rfl];show Option.map _ (w.heap[η.b 1]?)=_;rw [c1];rfl
   ·rw [if_neg (fun h=>hb h.symm),if_neg hb];rfl
  have hsz:w.heap.size<=(sortWorldK enc k w (η.b 1) 0 m d os).heap.size:=by
   show w.heap.size<=(grow (putRowK enc k (Sort.ahead w m) (η.b 1) 0 d) os).heap.size;simp [grow,putRowK,putRow,mapBlock,Sort.ahead]
  refine ⟨_,η,rfl,⟨⟨rfl,rfl,rfl,hsz,fun b' hb' hn'=> ?_⟩,fun _ _=>⟨rfl,rfl⟩,rfl,fun x hx=> ?_,fun x hx y hy hne=> ?_,fun b' hb'=> .inl ?_⟩⟩
  ·rw [hheap b' hb',if_neg];intro hb;exact hn' ⟨(1,⟨T,k,true,rV f xs⟩),by simp,hc0,hb⟩
  ·simp only [zbj] at hx;subst hx;refine ⟨by rw [xd2,s1];exact k1,k2,k3,k4,fun _=>⟨putCells id 0 (flatK enc k d) cs,?_,?_,fun i e hi=> ?_⟩⟩
   ·rw [hheap _ hblk,if_pos rfl]
   ·simp only [putCells,Array.size_mapIdx];exact c2
   ·have hil:i < (srt cf xs).length:=by
     have:=(zbn.1 hi).1;rwa [xd2] at this
    have hi2:i < xs.length:=by rw [<-s1];exact hil
    rw [rV,zbu,zbi hil] at hi;simp only [zeb,zci] at hi;subst hi;have hdi:d[i]! =(srt cf xs)[i]:=by
     rw [zfm d i (by rw [hd];exact hi2)];simp only [<-hl,Array.getElem_toList]
    have:pick true k (putCells id 0 (flatK enc k d) cs) (i*k)= .agg (enc (srt cf xs)[i]).toArray:=by
     simp only [pick,zey,zej];apply zds;intro j;rw [zcs];have hm:=hmul i hi2;simp only [zfe];by_cases hj:j < k
     ·rw [if_pos (by simp only [putCells,Array.size_mapIdx];omega)];have hlt:i*k+j < d.size*k:=by
       rw [hd];have:=zbt k (show i+1<=xs.length from hi2);rw [zcn,zff] at this;omega
      simp only [putCells,Array.getElem?_mapIdx,size_flatK];have hcs:cs[i*k+j]? =some (cs[i*k+j]'(by omega)):=by rw [zcr]
      rw [hcs];simp only [zeb];rw [if_pos ⟨zbq _,by omega⟩,Nat.sub_zero,qm4 hk d (by rw [hd];exact hi2) hj,hdi];have hjl:j < (enc (srt cf xs)[i]).length:=by rw [hk];exact hj
      rw [zfm (enc (srt cf xs)[i]) j hjl,zbi hjl];rfl
     ·rw [if_neg (by simp only [putCells,Array.size_mapIdx];omega),zct (by rw [hk];omega)]
    simp only [];rw [this];exact hf2 _ _ _
  ·simp only [zbj] at hx hy;subst hx;subst hy;exact absurd rfl hne
  ·obtain ⟨x,hx,hc,rfl⟩:=hb';simp only [zbj] at hx;subst hx;exact ⟨(1,⟨T,k,true,rV f xs⟩),by simp,hc,rfl⟩
end An
namespace An.S
open Go Go.Proofs An Tryz
open Go.RowKit Go.Sort
instance fo119_0:FoI Tryz.prog 119 0 0:=⟨by kernel_rfl⟩
instance fo119_1:FoI Tryz.prog 119 1 1:=⟨by kernel_rfl⟩
instance fi271:FnI Tryz.prog 271:=⟨_,func271,by kernel_rfl,rfl⟩
instance fi272:FnI Tryz.prog 272:=⟨_,func272,by kernel_rfl,rfl⟩
theorem el119:ElI Tryz.prog 119 2 16 true (.agg #[.int .i64 0,.int .i64 0]):=⟨ti119,by kernel_rfl,by kernel_rfl⟩
theorem zf119:Flat 2 true (.agg #[.int .i64 0,.int .i64 0]):=xo1 (by intro u hu;simp at hu;rcases hu with rfl | rfl <;> rfl)
def cmpI (a b:Int):Int:=if a < b then -1 else if b < a then 1 else 0
theorem cmpInt (a b:Int) (W:World):Calls Tryz.prog 274 #[.int .i64 a,.int .i64 b] W fun e w'=>e= .returned (.int .i64 (cmpI a b))/\w'=W:=by
 have hn: ∀(x:Int) (W:World),Calls Tryz.prog 328 #[.int .i64 x] W fun e w'=>e= .returned (.bool false)/\w'=W:=fun x W=>by
  have h1:(x==x)=true:=by simp
  go_enter func328,ntmps328
  go_wp2
  go_ret
  exact ⟨by simp,rfl⟩
 by_cases h1:a < b
 ·rw [show cmpI a b= -1 by simp [cmpI,h1]]
  go_enter func274,ntmps274
  go_wp2_with (go_at_call 328;refine (hn _ _).mono ?_;rintro e w' ⟨rfl,rfl⟩)
  go_ret
  exact ⟨rfl,rfl⟩
 ·by_cases h2:b < a
  ·rw [show cmpI a b=1 by simp [cmpI,h1,h2]]
   go_enter func274,ntmps274
   go_wp2_with (go_at_call 328;refine (hn _ _).mono ?_;rintro e w' ⟨rfl,rfl⟩)
   go_ret
   exact ⟨rfl,rfl⟩
  ·rw [show cmpI a b=0 by simp [cmpI,h1,h2]]
   go_enter func274,ntmps274
   go_wp2_with (go_at_call 328;refine (hn _ _).mono ?_;rintro e w' ⟨rfl,rfl⟩)
   go_ret
   exact ⟨rfl,rfl⟩
def sortSpanR:Go.Shelf.Ren:=⟨fun n=>match n with | 6=>272 | 14=>327 | 15=>294 | 20=>355 | 21=>356 | 22=>357 | 23=>358 | 24=>359 | 25=>360 | 26=>361 | 27=>362 | 28=>347 | 29=>348 | 46=>388 | 47=>384 | 48=>385 | 49=>389 | 50=>390 | 57=>400 | n=>n,fun n=>match n with | 0=>0 | 3=>3 | 4=>4 | 5=>5 | 9=>9 | 22=>113 | 24=>119 | 25=>281 | 39=>213 | 45=>371 | 46=>372 | 50=>376 | 53=>284 | 55=>123 | 66=>410 | 70=>414 | 76=>424 | 77=>425 | n=>n,fun n=>n⟩
theorem sortSpan:Go.Proofs.SlLaysF0.n6 Tryz.prog sortSpanR where
 mixed:=by kernel_rfl
 f6:=⟨f272.name,by kernel_rfl,by kernel_rfl⟩
 f14:=⟨f327.name,by kernel_rfl,by kernel_rfl⟩
 f15:=by kernel_rfl
 f20:=⟨f355.name,by kernel_rfl,by kernel_rfl⟩
 f21:=⟨f356.name,by kernel_rfl,by kernel_rfl⟩
 f22:=⟨f357.name,by kernel_rfl,by kernel_rfl⟩
 f23:=⟨f358.name,by kernel_rfl,by kernel_rfl⟩
 f24:=⟨f359.name,by kernel_rfl,by kernel_rfl⟩
 f25:=⟨f360.name,by kernel_rfl,by kernel_rfl⟩
 f26:=⟨f361.name,by kernel_rfl,by kernel_rfl⟩
 f27:=⟨f362.name,by kernel_rfl,by kernel_rfl⟩
 f28:=by kernel_rfl
 f29:=by kernel_rfl
 f46:=⟨f388.name,by kernel_rfl,by kernel_rfl⟩
 f47:=by kernel_rfl
 f48:=by kernel_rfl
 f49:=⟨f389.name,by kernel_rfl,by kernel_rfl⟩
 f50:=⟨f390.name,by kernel_rfl,by kernel_rfl⟩
 f57:=⟨f400.name,by kernel_rfl,by kernel_rfl⟩
 t0:=by kernel_rfl
 a0:=fun w=>by kernel_rfl
 z0:=fun w=>by kernel_rfl
 v0:=fun w=>by kernel_rfl
 t3:=by kernel_rfl
 a3:=fun w=>by kernel_rfl
 z3:=fun w=>by kernel_rfl
 v3:=fun w=>by kernel_rfl
 t4:=by kernel_rfl
 a4:=fun w=>by kernel_rfl
 z4:=fun w=>by kernel_rfl
 v4:=fun w=>by kernel_rfl
 t5:=by kernel_rfl
 a5:=fun w=>by kernel_rfl
 z5:=fun w=>by kernel_rfl
 v5:=fun w=>by kernel_rfl
 t9:=by kernel_rfl
 a9:=fun w=>by kernel_rfl
 z9:=fun w=>by kernel_rfl
 v9:=fun w=>by kernel_rfl
 t22:=by kernel_rfl
 a22:=fun w=>by kernel_rfl
 z22:=fun w=>by kernel_rfl
 v22:=fun w=>by kernel_rfl
 t25:=by kernel_rfl
 a25:=fun w=>by kernel_rfl
 z25:=fun w=>by kernel_rfl
 v25:=fun w=>by kernel_rfl
 t39:=by kernel_rfl
 a39:=fun w=>by kernel_rfl
 z39:=fun w=>by kernel_rfl
 v39:=fun w=>by kernel_rfl
 t45:=by kernel_rfl
 a45:=fun w=>by kernel_rfl
 z45:=fun w=>by kernel_rfl
 v45:=fun w=>by kernel_rfl
 t46:=by kernel_rfl
 a46:=fun w=>by kernel_rfl
 z46:=fun w=>by kernel_rfl
 v46:=fun w=>by kernel_rfl
 t50:=by kernel_rfl
 a50:=fun w=>by kernel_rfl
 z50:=fun w=>by kernel_rfl
 v50:=fun w=>by kernel_rfl
 t53:=by kernel_rfl
 a53:=fun w=>by kernel_rfl
 z53:=fun w=>by kernel_rfl
 v53:=fun w=>by kernel_rfl
 t55:=by kernel_rfl
 a55:=fun w=>by kernel_rfl
 z55:=fun w=>by kernel_rfl
 v55:=fun w=>by kernel_rfl
 t66:=by kernel_rfl
 a66:=fun w=>by kernel_rfl
 z66:=fun w=>by kernel_rfl
 v66:=fun w=>by kernel_rfl
 t70:=by kernel_rfl
 a70:=fun w=>by kernel_rfl
 z70:=fun w=>by kernel_rfl
 v70:=fun w=>by kernel_rfl
 t76:=by kernel_rfl
 a76:=fun w=>by kernel_rfl
 z76:=fun w=>by kernel_rfl
 v76:=fun w=>by kernel_rfl
 t77:=by kernel_rfl
 a77:=fun w=>by kernel_rfl
 z77:=fun w=>by kernel_rfl
 v77:=fun w=>by kernel_rfl
def cfSn (x y:Sn):Int:=cmpI x.lo y.lo
def encSn (x:Sn):List Value:=[.int .i64 x.lo,.int .i64 x.hi]
theorem ltSn (x y:Sn):Go.Proofs.ltOf cfSn x y=decide (x.lo < y.lo):=by
 unfold Go.Proofs.ltOf cfSn cmpI;by_cases h1:x.lo < y.lo
 ·simp [h1]
 ·by_cases h2:y.lo < x.lo <;> simp [h1,h2]
theorem swoSn:SWO (Go.Proofs.ltOf cfSn) where
 irrefl x:=by rw [ltSn];simp
 trans x y z h1 h2:=by rw [ltSn] at*;simp at*;omega
 ntrans x y z h1 h2:=by rw [ltSn] at*;simp at*;omega
theorem closSn (x y:Sn) (W:World):Calls Tryz.prog 273 #[.agg (encSn x).toArray,.agg (encSn y).toArray] W fun e w'=>e= .returned (.int .i64 (cfSn x y))/\ ∃q os',w'=grow (W.drewN q) os':=by
 have hcon:=fun W'=>cmpInt x.lo y.lo W';show Calls Tryz.prog 273 #[.agg #[.int .i64 x.lo,.int .i64 x.hi],.agg #[.int .i64 y.lo,.int .i64 y.hi]] W fun e w'=>e= .returned (.int .i64 (cmpI x.lo y.lo))/\ ∃q os',w'=grow (W.drewN q) os';generalize cmpI x.lo y.lo=r at hcon ⊢
 go_enter func273,ntmps273
 go_wp2_with (go_at_call 274;refine (hcon _).mono ?_;rintro e w' ⟨rfl,rfl⟩)
 go_ret
 exact ⟨rfl,0,_,by rw [alloc_eq_grow,alloc_eq_grow,grow_grow];rfl⟩
theorem jp8 (xs:List Sn) (hn:xs.length < 4611686018427387904):CtG Tryz.prog 272 [(1,⟨119,2,true,rV tSn xs⟩)] [.own (.sl 1 2 0 xs.length),.val (tE (.func (.func 273) #[] #[]))] (.val (tE (.tuple #[]))) [(1,⟨119,2,true,rV tSn (srt cfSn xs)⟩)] []:=
 sortG sortSpan (enc:=encSn) (cf:=cfSn) (fun w=>by kernel_rfl) (fun w=>by kernel_rfl) (fun _=>rfl) (fun x v hv=>by simp [encSn] at hv;rcases hv with rfl | rfl <;> rfl) (fun F w x v h=>zh0 h) (fun F w x=>jb6) swoSn (enters_of func273 (by kernel_rfl) rfl) closSn xs hn
theorem qu3 {xs:List Sn}:(srt cfSn xs).length=xs.length:=(yj9 swoSn xs).1
def pos (s:Sn):Bool:=decide (s.lo < s.hi)
def mkS (l:List Sn):List Sn:=mrg (srt cfSn (l.filter pos))
theorem yu5 {l:List Sn} {i:Nat} (hi:i < l.length):(l.take (i+1)).filter pos=(l.take i).filter pos++(if pos (l.getD i sn0) then [l.getD i sn0] else []):=by
 rw [zby hi,List.filter_append,zbh,zbi hi];by_cases h:pos l[i]=true <;> simp [h]
theorem yz2 {l:List Sn} {i:Nat} (hi:i < l.length):mrg (l.take (i+1))=mrg1 (mrg (l.take i)) (l.getD i sn0):=by
 rw [zby hi,mrg,zft,zbh,zbi hi];rfl
theorem zp1 {p:Sn->Bool} {l:List Sn} {i:Nat} (hi:i < l.length):(l.take (i+1)).all p=((l.take i).all p && p (l.getD i sn0)):=by
 rw [zby hi,List.all_append,zbh,zbi hi];simp
theorem qv5 {p:Sn->Bool} {l:List Sn} {i:Nat} (hi:i < l.length) (h:p (l.getD i sn0)=false):l.all p=false:=by
 rw [List.all_eq_false];exact ⟨l.getD i sn0,by rw [zbh,zbi hi];exact zfx hi,by rw [h];exact Bool.false_ne_true⟩
theorem mrg1_len (acc:List Sn) (s:Sn):(mrg1 acc s).length<=acc.length+1:=by
 rw [mrg1];split <;> simp
theorem qg1: ∀(xs acc:List Sn),(xs.foldl mrg1 acc).length<=acc.length+xs.length
 | [],acc=>by simp
 | s::r,acc=>by
  have h1:=qg1 r (mrg1 acc s);have h2:=mrg1_len acc s;simp only [List.foldl_cons,zeq];omega
theorem jc8 {l:List Sn} {i:Nat}:((l.take i).filter pos).length<=i:=by
 have h1:=List.length_filter_le pos (l.take i);rw [zde] at h1;omega
theorem jo8 (s:Sn):
  Ct Tryz.prog 271 [tSn s] (tB s.ok):=by
 refine Ct.intro func271 rfl ntmps271 rfl ?_;intro w F;refine A12 ?_;refine RGcaseD (t:=6) rfl (fun h15=> ?_) (fun h15=> ?_)
 ·
  refine A7 ?_;refine RGcaseD (t:=13) rfl (fun h15_2=> ?_) (fun h15_2=> ?_)
  ·
   refine A8 ?_;exact E1 rfl rfl (zau (by simp [Sn.ok, *]))
  ·
   refine A8 ?_;exact E1 rfl rfl (zau (by simp [Sn.ok, *]))
 ·
  refine A15 ?_;exact E1 rfl rfl (zau (by simp [Sn.ok, *]))
end An.S
namespace An
open Go
theorem jc9 {P:Program} {c:Base} {g:Slots} {h:Keys} {al:Names} {Q:Exit->Act->World->Prop} {x:Code} {t k es off len:Nat} {y:HEnt} (k':Nat) (hs:g t=some (.own (.sl k es off len))) (hk:h k=some y) (hk':al k'=false)
  (H:wc P c x Q (upd g t (some (.own (.sl k' es off len)))) (upd (upd h k none) k' (some y)) (fun j=>Nat.beq j k' || al j)):wc P c x Q g h al:=fun a w hst=>by
 obtain ⟨η,s⟩:=hst;have s2:=s.rename hk hk';have h1:=(s2.slot t _ hs).2.2;have hk1:k≠k':=fun e=>by have:=(s.key k _ hk).1;rw [e,hk'] at this;cases this
 obtain ⟨hb,hc⟩:=η.set_other (k:=k') (j:=k) (η.b k) (η.c k) hk1;have h2:Ent.sat (c.dom (upd (upd h k none) k' (some y)) (η.set k' (η.b k) (η.c k))) w (η.set k' (η.b k) (η.c k)) (.own (.sl k' es off len)) (a.tmps.getD t undef):=by
  obtain ⟨A,e1,e2,e3⟩:=h1;rw [hc] at e1 e2 e3;rw [hb] at e3;exact ⟨A,by rw [Env.set_c];exact e1,by rw [Env.set_c];exact e2,by rw [Env.set_c,Env.set_b];exact e3⟩
 have s3:=s2.put (s2.slot t _ hs).1 h2 fun j hj=>by
  simp only [Ent.supp,VP.supp,zbj] at hj;subst hj;simp
 have ea:a.put (some t) (a.tmps.getD t undef)=a:=by
  have hlt:t < a.tmps.size:=by rw [s.tn];exact (s.slot t _ hs).1
  have:a.tmps.setIfInBounds t (a.tmps.getD t undef)=a.tmps:=by
   apply zds;intro i;rw [zew];by_cases hi:t=i
   ·subst hi;simp [hlt]
   ·simp [hi]
  simp only [Act.put,this]
 rw [ea] at s3;exact H a w ⟨_,s3⟩
end An
namespace An.S
open Go Go.Proofs An Tryz
instance fi106:FnI Tryz.prog 106:=⟨_,func106,by kernel_rfl,rfl⟩
instance fi185:FnI Tryz.prog 185:=⟨_,func185,by kernel_rfl,rfl⟩
instance fi191:FnI Tryz.prog 191:=⟨_,func191,by kernel_rfl,rfl⟩
instance fi192:FnI Tryz.prog 192:=⟨_,func192,by kernel_rfl,rfl⟩
theorem el59:ElI Tryz.prog 59 8 96 true (.agg #[.int .i64 0,.int .i64 0,.int .u8 0,.bool false,.slice none 0 0,.bool false,.slice none 0 0,.int .i64 0]):=⟨ti59,by kernel_rfl,by kernel_rfl⟩
theorem zf59:Flat 8 true (.agg #[.int .i64 0,.int .i64 0,.int .u8 0,.bool false,.slice none 0 0,.bool false,.slice none 0 0,.int .i64 0]):=xo1 (by intro u hu;simp at hu;rcases hu with rfl | rfl | rfl | rfl | rfl | rfl | rfl | rfl <;> rfl)
def sOkA (l:List Sn) (i:Nat):Bool:=(l.getD i sn0).ok && decide ((l.getD i sn0).lo≠(l.getD i sn0).hi) && (decide (i=0) || decide ((l.getD (i - 1) sn0).hi < (l.getD i sn0).lo))
def sVal (l:List Sn):Bool:=(List.range l.length).all (sOkA l)
theorem xr4 {l:List Sn} {i:Nat}:sOkA l i=true↔(l.getD i sn0).ok=true/\(l.getD i sn0).lo≠(l.getD i sn0).hi/\(i=0∨(l.getD (i - 1) sn0).hi < (l.getD i sn0).lo):=by
 simp only [sOkA,zcg,zfn,zdj,and_assoc]
theorem yh0 {l:List Sn} {i:Nat} (h:sVal l=true) (hi:i < l.length):0<=(l.getD i sn0).lo/\(l.getD i sn0).lo < (l.getD i sn0).hi/\(l.getD i sn0).hi<=65536:=by
 have h1:=xr4.1 (zei.1 h i (zdp.2 hi));simp only [Sn.ok,zcg,zdj] at h1;omega
theorem jk2 {f:Tst->Tst} {l:List Tst} {i:Nat} (hi:i < l.length):(l.map f).getD i tst0=f (l.getD i tst0):=by
 rw [zbh,zbh,zbu,zbi hi];rfl
theorem jm0 {a b:Int} {l:List Tst} {i:Nat} (hi:i < l.length):pst [] ((l.map (clip a b)).take (i+1))=pst (pst [] ((l.map (clip a b)).take i)) [clip a b (l.getD i tst0)]:=by
 rw [xs1 _ (by simpa using hi),jk2 hi];rfl
end An.S
namespace An
open Go
theorem yj5 {P:Tst->Prop} (hset: ∀a s,P a->P s->a.hi=s.lo->P ⟨a.lo,s.hi,a.v⟩): ∀(ps acc:List Tst),(∀s∈acc,P s)->(∀s∈ps,s.lo < s.hi->P s)-> ∀s∈pst acc ps,P s
 | [],acc,ha,_=>ha
 | s::r,acc,ha,hp=>by
  refine yj5 hset r (pst1 acc s) ?_ fun x hx=>hp x (zcd _ hx);intro x hx;rw [pst1] at hx;split at hx
  ·exact ha x hx
  ·rename_i h1;split at hx
   ·rename_i h2;rcases zgr hx with h | h
    ·exact ha x h
    ·subst h;exact hset _ s (ha _ (xi0 (by omega))) (hp s (zcb ..) (by omega)) h2.2.1
   ·rcases zbo.1 hx with h | h
    ·exact ha x h
    ·rw [zbj.1 h];exact hp s (zcb ..) (by omega)
theorem xt7 {l:List Tst} (h:tRight l=true) {i:Nat} (hi:i < l.length):0<=(l.getD i tst0).lo/\(l.getD i tst0).lo < (l.getD i tst0).hi/\(l.getD i tst0).hi<=65536/\(i=0∨(l.getD (i - 1) tst0).hi<=(l.getD i tst0).lo/\(l.getD (i - 1) tst0).v.kind=(l.getD i tst0).v.kind/\ ¬((l.getD (i - 1) tst0).hi=(l.getD i tst0).lo/\(l.getD (i - 1) tst0).v=(l.getD i tst0).v)):=by
 simp only [tRight,zcg,zei] at h;exact yb8.1 (h.1 i (zdp.2 hi))
theorem zg6 {l:List Tst} (h:tRight l=true): ∀{i:Nat},i < l.length->(l.getD i tst0).v.kind=(l.getD 0 tst0).v.kind
 | 0,_=>rfl
 | i+1,hi=>by
  rcases (xt7 h hi).2.2.2 with h0 | h0
  ·omega
  ·rw [<-h0.2.1];exact zg6 h (by omega)
theorem xv0 {l:List Tst} {s:Tst} (hs:s∈l): ∃i,i < l.length/\s=l.getD i tst0:=by
 obtain ⟨i,hi,e⟩:=List.getElem_of_mem hs;exact ⟨i,hi,by rw [zbh,zbi hi];exact e.symm⟩
def sNum (s:Tst):Prop:=0<=s.lo/\s.lo < s.hi/\s.hi<=65536/\s.v.f=fr s.v.f.rat/\short s.v.f.rat
def numK (l:List Tst):Prop:=l.length=0∨(l.getD 0 tst0).v.kind=2∨(l.getD 0 tst0).v.kind=3
instance (l:List Tst):Decidable (numK l):=inferInstanceAs (Decidable (_∨_))
theorem num_fr {v:Va} (hv:v.valid=true) (hD:v.f.dig) (hk:v.kind=2∨v.kind=3):v.f=fr v.f.rat/\short v.f.rat:=by
 rw [Va.valid,if_pos hk,zcg] at hv;exact Fr.of_valid' hD hv.2
theorem wb8 {l:List Tst} (h:tRight l=true) (hD: ∀s∈l,s.v.f.dig) (hk:numK l) {s:Tst} (hs:s∈l):sNum s:=by
 obtain ⟨i,hi,rfl⟩:=xv0 hs;have h1:=xt7 h hi;have h2:=zg6 h hi;have h3:=num_fr (y5 h _ hs) (hD _ hs) (by rw [h2];rcases hk with h0 | h0;omega;exact h0);exact ⟨h1.1,h1.2.1,h1.2.2.1,h3⟩
theorem qq1 {l:List Tst} {a b:Int} (h:tRight l=true) (hD: ∀s∈l,s.v.f.dig) (hk:numK l): ∀s∈cutT l a b,sNum s:=by
 refine yj5 (P:=sNum) (fun x s hx hs e=>⟨hx.1,by have:=hx.2.1;have:=hs.2.1;dsimp only;omega,hs.2.2.1,hx.2.2.2⟩) _ _ (fun s hs=>by cases hs) fun s hs hlt=> ?_;obtain ⟨x,hx,rfl⟩:=zcp.1 hs;have h1:=wb8 h hD hk hx;simp only [clip] at hlt;refine ⟨?_,hlt,?_,h1.2.2.2⟩
 ·have:=h1.1;simp only [clip];omega
 ·have:=h1.2.2.1;simp only [clip];omega
def sumStep:Option Rat->Tst->Option Rat
 | none,_=>none
 | some q,s=>if short (s.v.f.rat*((s.hi - s.lo:Int):Rat))/\short (q+s.v.f.rat*((s.hi - s.lo:Int):Rat)) then some (q+s.v.f.rat*((s.hi - s.lo:Int):Rat)) else none
def sumT (l:List Tst):Option Rat:=l.foldl sumStep (some ((0:Int):Rat))
theorem xz9 {l:List Tst} {i:Nat} (hi:i < l.length):sumT (l.take (i+1))=sumStep (sumT (l.take i)) (l.getD i tst0):=by
 rw [zby hi,sumT,zft,zbh,zbi hi];rfl
theorem zu4: ∀l:List Tst,l.foldl sumStep none=none
 | []=>rfl
 | _::r=>zu4 r
theorem ya5 {l:List Tst} {i:Nat} (h:sumT (l.take i)=none):sumT l=none:=by
 rw [sumT,<-List.take_append_drop i l,zft];rw [sumT] at h;rw [h];exact zu4 _
def sumF:Option Rat->Fr
 | some q=>fr q
 | none=>fr0
def sumE:Option Rat->Int
 | some _=>0
 | none=>3
def sumC (l:List Tst) (a b:Int):Prop:=(tRight l=true/\Sn.ok ⟨a,b⟩=true)/\numK l
instance (l:List Tst) (a b:Int):Decidable (sumC l a b):=inferInstanceAs (Decidable (_/\_))
theorem y8 {q:Rat} (h:resFE q=0):short q:=by
 rw [resFE] at h;split at h
 ·assumption
 ·cases h
theorem xz4 {q:Rat} (h: ¬resFE q=0): ¬short q:=fun hs=>h (if_pos hs)
end An
namespace An.S
open Go Go.Proofs An Tryz
instance fi51:FnI Tryz.prog 51:=⟨_,func51,by kernel_rfl,rfl⟩
instance fi111:FnI Tryz.prog 111:=⟨_,func111,by kernel_rfl,rfl⟩
instance fi127:FnI Tryz.prog 127:=⟨_,func127,by kernel_rfl,rfl⟩
instance fi164:FnI Tryz.prog 164:=⟨_,func164,by kernel_rfl,rfl⟩
theorem wd0 (q p:Rat) (hq:short q) (hp:short p):Ct Tryz.prog 164 [tFr (fr q),tFr (resF p)] (tT [tFr (resF (q+p)),tI (resFE (q+p))]):=by
 rw [show resF p=fr p from if_pos hp];exact c_FAdd q p hq hp
instance ti51:TyI Tryz.prog 51 1 false:=⟨by kernel_rfl,by kernel_rfl⟩
instance fi187:FnI Tryz.prog 187:=⟨_,func187,by kernel_rfl,rfl⟩
def askB (l:List Tst) (a b:Int):Bool:=sRight l && decide (0<=a) && decide (a<=65536) && decide (0<=b) && decide (b<=65536)
instance fi110:FnI Tryz.prog 110:=⟨_,func110,by kernel_rfl,rfl⟩
def q4:Rat:=4 / 1461
theorem len16_small {n:Int} (h1: -9223372036854775808<=n) (h2:n<=9223372036854775807):len16 n<=256:=zcj (len16_64 h1 h2) (by decide)
def mulO (q p:Rat):Option Rat:=if short (q*p) then some (q*p) else none
def yq (l:List Tst) (a b:Int):Option Rat:=if b<=a then some ((0:Int):Rat) else (sumT (cutT l a b)).bind fun q=>mulO q q4
def capC (l:List Tst) (a b:Int) (f:Fr):Prop:=(f.valid=true/\f.n.neg=false)/\askB l a b=true
instance (l:List Tst) (a b:Int) (f:Fr):Decidable (capC l a b f):=inferInstanceAs (Decidable (_/\_))
def m12 (f:Fr):Rat:=f.rat*((12:Int):Rat)
def moB (f:Fr):Prop:=f.valid=true/\f.n.neg=false
def moC (f:Fr):Prop:=moB f/\short (m12 f)/\(m12 f).floor<=1048576
instance (f:Fr):Decidable (moB f):=inferInstanceAs (Decidable (_/\_))
instance (f:Fr):Decidable (moC f):=inferInstanceAs (Decidable (_/\_))
theorem ya1 {m n:Nat} {t:Ty} (h:n<=m):Le (tG (up m) t) (tG (up n) t):=je3 fun _ hb=>zcj h hb
theorem yw2 {ts us:List Ty} (h:LeL ts us):Le (tT ts) (tT us):=fun _ _ _ ⟨vs,h1,h2⟩=>⟨vs,h1,h.all h2⟩
theorem fr0N {G:Dom}:Le (tFr fr0) (tG G (tFr fr0)):=yb3 ⟨⟨rfl,rfl,yb3 ⟨⟨rfl,rfl,y6⟩,⟨rfl,rfl,qh7⟩,trivial⟩⟩,⟨rfl,rfl,yb3 ⟨⟨rfl,rfl,y6⟩,⟨rfl,rfl,qh7⟩,trivial⟩⟩,trivial⟩
theorem fr0L {G:Dom} {f:Fr} (h:f=fr0):Le (tFr fr0) (tG G (tFr f)):=h▸fr0N
theorem jt8 (l:List Nat) (hl:Dig 65536 l) (hn:l.length<=1000000):
  CtN Tryz.prog 214 [tLm l] (fun nw=>tG (up nw) (tWs (dgs 4294967296 ((l.length+1) / 2) (val 65536 l)))):=by
 refine CtN.intro func214 rfl ntmps214 rfl ?_;intro w F;refine A10 ?_;refine R2 (yf2 (by omega) (by omega) zah) rfl rfl (RE (xg0 (k:=10) (t:=tE (.int .u32 0)) (ts:=rW .u32 (dgs 4294967296 ((l.length+1) / 2) 0)) ((l.length+1) / 2) ((l.length+1) / 2) zgz el284 (fun _ _=>rfl) rfl (by omega) (by omega) (zbs _) (by omega) (by omega) (by rw [zn8];exact xp5 _)) qB trivial qA ?_);refine A12 ?_;refine cL (fun (i:Nat)=>i<=l.length) (fun (i:Nat)=>uV (uV (uV (uO uN 3 (.sl 10 1 0 ((l.length+1) / 2))) 11 (tLm l)) 12 (tI l.length)) 13 (tI i)) (fun (i:Nat)=>uK uN 10 284 1 false (rW .u32 (dgs 4294967296 ((l.length+1) / 2) (val 65536 (l.take i))))) [10] (fun (i:Nat)=>l.length - i) (0) (zbq _) (hh:=(zaq rfl (ImpK.ofTs (by simp [val])) zax)) ?_;intro i hI;refine A6 ?_;refine x6 rfl (fun h28=> ?_) (fun h28=> ?_)
 ·
  have hx:=hl.getD (by omega) i;have hw:(dgs 4294967296 ((l.length+1) / 2) (val 65536 (l.take i))).getD (i / 2) 0 < 65536 ^ (i%2):=by rw [xs3 (by omega)];exact yq6 hl i (by omega)
  refine A7 ?_;refine R2 (x4 sl37 (i) (by omega) (gN (by omega))) rfl rfl ?_;refine A8 ?_;refine R2 (yf2 (by omega) (by omega) zah) rfl rfl (R2 (zag sl233 rfl) rfl rfl (RE (xc1 (i / 2) ti284 (xn7 (by rw [xe9];omega)) (by omega)) qA qA trivial ?_));refine A1 ?_;refine R1 (x5 zhb (isS zhc) (by first | exact wu32 (by omega) (by omega) | exact mu32)) rfl ?_;refine A1 ?_;refine R2 (xg3 (by omega) (by omega)) rfl rfl (R2 (xi2 zah) rfl rfl (R2 (xi7 (by omega) (shl16 hx)) rfl rfl (R2 (xq6 (qj9 hw hx)) rfl rfl (R2 (zag sl233 rfl) rfl rfl (RE (xb8 (i / 2) ti284 (xj0 (by rw [xe9];omega)) (by omega) (xh1 (m:=_) rfl)) qB qA trivial ?_)))));refine A7 ?_;exact kF (i+1) ⟨(by omega),(by omega)⟩ (hh:=(zaq rfl (ImpK.ofTs (by rw [zn5 hl (by omega) (by omega)])) zax))
 ·
  refine A7 ?_;refine RE (jm4 (up w.heap.size) (fun _ h=>h) (fun _=>Free.E) (fun _ h=>h) (xi4 (xe9 _ _ _)) (xe9 _ _ _)) qA qA trivial ?_;refine A4 ?_;exact E1 rfl rfl (Le.of (by rw [show i=l.length by omega,zbx]))
theorem zw1 (v:Nat) (h:(dig 65536 v).length<=1000000):CtN Tryz.prog 214 [tLm (dig 65536 v)] (fun nw=>tG (up nw) (tN v)):=by
 have:=jt8 (dig 65536 v) (xc3 x8 v) h;rw [zz9] at this;exact this
theorem c_MulN (x y:Int) (hx:len16 x<=1024) (hy:len16 y<=1024):
  CtN Tryz.prog 215 [tWh (wh x),tWh (wh y)] (fun nw=>tT [tG (up nw) (tWh (resW (x*y))),tI (resE (x*y))]):=by
 have hx32:=len32_le hx;have hy32:=len32_le hy;have hmul:=qj4 (k:=1024) (m:=x.natAbs) (n:=y.natAbs) (by omega) (by omega);refine CtN.intro func215 rfl ntmps215 rfl ?_;intro w F;refine A4 ?_;refine RE (x7 (k:=4) (n:=2) (agg:=true) zr39.1 zr39.2 rfl) trivial trivial qA ?_;refine A8 ?_;refine R2 (xb5 (n:=2) (f:=tWh) [wh x,wh y] zhh el39 zf39 rfl (fun _=>inferInstance) rfl rfl rfl) rfl rfl (R1 (x3 (xo5 x y hx hy) fi212 rfl) rfl ?_);refine A15 ?_;refine R1 (xj1 (ts:=[_]) (r:=tG (up w.heap.size) _) (zw1 (Int.natAbs x) (by show len16 x<=1000000;omega)) fi214 (fun m hm=>ya1 hm) ⟨zao,trivial⟩ rfl) rfl ?_;refine A2 ?_;refine R1 (xj1 (ts:=[_]) (r:=tG (up w.heap.size) _) (zw1 (Int.natAbs y) (by show len16 y<=1000000;omega)) fi214 (fun m hm=>ya1 hm) ⟨zao,trivial⟩ rfl) rfl (R2 (xp9 (ts:=[_,_]) (up w.heap.size) (qh5 x.natAbs y.natAbs (by omega) (by omega)) fi283 (fun _ h=>h) ⟨zao,zao,trivial⟩ zao rfl) rfl rfl (R2 (xp9 (ts:=[_,_]) (r':=tT [_,_]) (up w.heap.size) (xq1 (!((wh x).neg==(wh y).neg)) (x.natAbs*y.natAbs) (by omega)) fi282 (fun _ h=>h) ⟨y6,zao,trivial⟩ (qs2 ⟨zao,qs3,trivial⟩) rfl) rfl rfl ?_));refine A7 ?_;exact EN (rs:=[.cell 4 39,.tmp 5]) rfl rfl ⟨⟨_,_,_,_,_,rfl,rfl,ti39,(Le.of (by rw [yh7]))⟩,⟨_,rfl,(zba (by rw [yh7]))⟩,trivial⟩
theorem zn3 (x y:Int) (hx:len16 x<=1024) (hy:len16 y<=1024) (hz:len16 (x*y)<=1024):
  CtN Tryz.prog 133 [tWh (wh x),tWh (wh y)] (fun nw=>tG (up nw) (tWh (wh (x*y)))):=by
 refine CtN.intro func133 rfl ntmps133 rfl ?_;intro w F;refine A4 ?_;refine RE (x7 (k:=4) (n:=2) (agg:=true) zr39.1 zr39.2 rfl) trivial trivial qA ?_;refine A6 ?_;refine R2 (xj1 (ts:=[_,_]) (r:=tT [tG (up w.heap.size) _,_]) (c_MulN x y hx hy) fi215 (fun m hm=>yw2 ⟨ya1 hm,zao,trivial⟩) ⟨zao,zao,trivial⟩ rfl) rfl rfl ?_;refine A3 ?_;refine RE (x7 (k:=5) (n:=2) (agg:=true) zr39.1 zr39.2 rfl) trivial trivial qA ?_;refine A11 ?_;exact EC rfl ⟨_,_,_,_,_,rfl,rfl,ti39,(Le.of (by rw [resW,if_pos hz]))⟩
theorem wd2 (a b:Rat) (ha:short a) (hb:short b):
  CtN Tryz.prog 127 [tFr (fr a),tFr (fr b)] (fun nw=>tT [tG (up nw) (tFr (resF (a*b))),tI (resFE (a*b))]):=by
 obtain ⟨an,ad⟩:=ha;obtain ⟨bn,bd⟩:=hb;have hbd:=b.den_nz;have had:=a.den_nz;have m1:len16 (a.num*b.num)<=256+256:=len16_mul an bn;have m2:len16 ((a.den:Int)*(b.den:Int))<=256+256:=len16_mul ad bd;have ha:short a:=⟨an,ad⟩
 have hb:short b:=⟨bn,bd⟩
 refine CtN.intro func127 rfl ntmps127 rfl ?_;intro w F;refine A4 ?_;refine RE (x7 (k:=4) (n:=4) (agg:=true) zr41.1 zr41.2 rfl) trivial trivial qA ?_;refine A8 ?_;refine R2 (xb5 (n:=2) (f:=fun q:Rat=>tFr (fr q)) [a,b] zhj el41 zf41 rfl (fun _=>inferInstance) rfl rfl rfl) rfl rfl (R1 (x3 (yj1 [a,b] (by simp;exact ⟨ha,hb⟩)) fi131 rfl) rfl ?_);refine A12 ?_;refine R2 (xj1 (ts:=[_,_]) (r:=tG (up w.heap.size) _) (zn3 (a.num) (b.num) (by omega) (by omega) (by omega)) fi133 (fun m hm=>ya1 hm) ⟨zao,zao,trivial⟩ rfl) rfl rfl ?_;refine A4 ?_;refine R2 (xj1 (ts:=[_,_]) (r:=tG (up w.heap.size) _) (zn3 ((a.den:Int)) ((b.den:Int)) (by omega) (by omega) (by omega)) fi133 (fun m hm=>ya1 hm) ⟨zao,zao,trivial⟩ rfl) rfl rfl (R2 (xp9 (ts:=[_,_]) (up w.heap.size) (z7 _ _ (by omega) (by omega) ym9) fi201 (fun _ h=>h) ⟨zao,zao,trivial⟩ zao rfl) rfl rfl (R1 (xp9 (ts:=[_]) (r':=tT [_,_]) (up w.heap.size) (yr0 _) fi202 (fun _ h=>h) ⟨zao,trivial⟩ (qs2 ⟨zao,qs3,trivial⟩) rfl) rfl ?_));refine A7 ?_;exact EN (rs:=[.cell 4 41,.tmp 5]) rfl rfl ⟨⟨_,_,_,_,_,rfl,rfl,ti41,(Le.of (by rw [xh9,yi6];by_cases hs:short (a*b) <;> simp [resF,hs]))⟩,⟨_,rfl,(zba (by rw [xh9,yi6];by_cases hs:short (a*b) <;> simp [resFE,hs]))⟩,trivial⟩
theorem jj4 (f:Fr) (n:Int) (hf:f=fr f.rat) (hs:short f.rat) (hn:short (n:Rat)):CtN Tryz.prog 127 [tFr f,tFr (fr (n:Rat))] (fun nw=>tT [tG (up nw) (tFr (resF (f.rat*(n:Rat)))),tI (resFE (f.rat*(n:Rat)))]):=by
 have h:=wd2 f.rat n hs hn;rw [<-hf] at h;exact h
end An.S
namespace An.S
open Go
theorem yf8 {l:List Tst}:tRight l=true↔(∀i,i < l.length->tOk l i=true)/\ ∀s∈l,s.v.valid=true:=by
 simp only [tRight,zcg,zei,zdp]
theorem yq7 {l:List Tst} {s:Tst} {i:Nat}:(l++[s]).getD i tst0=if i < l.length then l.getD i tst0 else if i=l.length then s else tst0:=by
 simp only [zbh,List.getElem?_append];by_cases h:i < l.length
 ·simp [h]
 ·by_cases h2:i=l.length
  ·simp [h2]
  ·have:i - l.length≠0:=by omega
   simp only [h,h2,if_false];rw [zct (by simp;omega)];rfl
theorem yo4 {l:List Tst} {s:Tst} {i j:Nat} (hj:j < l.length):(l.set j s).getD i tst0=if i=j then s else l.getD i tst0:=by
 simp only [zbh];by_cases h:i=j
 ·subst h;rw [List.getElem?_set_self hj];simp
 ·rw [List.getElem?_set_ne (Ne.symm h)];simp [h]
theorem pst1_right {l:List Tst} {s:Tst} (h:tRight l=true) (h0:0<=s.lo) (h1:s.hi<=65536) (hv:s.v.valid=true) (hl:0 < l.length->(l.getD (l.length - 1) tst0).hi<=s.lo/\(l.getD (l.length - 1) tst0).v.kind=s.v.kind):tRight (pst1 l s)=true:=by
 rw [pst1];split
 ·exact h
 ·rename_i hlt;obtain ⟨ha,hb⟩:=yf8.1 h;split
  ·rename_i hm;refine yf8.2 ⟨fun i hi=> ?_,fun x hx=> ?_⟩
   ·rw [zdy] at hi;have ho:=yb8.1 (ha i hi);refine yb8.2 ?_;rw [yo4 (by omega),yo4 (by omega)];by_cases e:i=l.length - 1
    ·subst e;rw [if_pos rfl];refine ⟨ho.1,by dsimp only;have:=ho.2.1;omega,h1,?_⟩;by_cases e0:l.length - 1=0
     ·exact .inl e0
     ·rw [if_neg (by omega)];exact .inr (ho.2.2.2.resolve_left e0)
    ·rw [if_neg e];by_cases e0:i=0
     ·exact ⟨ho.1,ho.2.1,ho.2.2.1,.inl e0⟩
     ·rw [if_neg (by omega)];exact ho
   ·rcases zgr hx with h' | h'
    ·exact hb x h'
    ·subst h';exact hb (l.getD (l.length - 1) tst0) (xi0 (by omega))
  ·rename_i hm;refine yf8.2 ⟨fun i hi=> ?_,fun x hx=> ?_⟩
   ·refine yb8.2 ?_;rw [zbp,zgp] at hi;rw [yq7,yq7];by_cases e:i < l.length
    ·have ho:=yb8.1 (ha i e);rw [if_pos e,if_pos (by omega)];exact ho
    ·have e2:i=l.length:=by omega
     subst e2;rw [if_neg (by omega),if_pos rfl];refine ⟨h0,by omega,h1,?_⟩;by_cases e0:l.length=0
     ·exact .inl e0
     ·rw [if_pos (by omega)];have:=hl (by omega);exact .inr ⟨this.1,this.2,fun h'=>hm ⟨by omega,h'.1,h'.2⟩⟩
   ·rcases zbo.1 hx with h' | h'
    ·exact hb x h'
    ·rw [zbj.1 h'];exact hv
theorem pst1_last {l:List Tst} {s:Tst} (h:s.lo < s.hi):0 < (pst1 l s).length/\((pst1 l s).getD ((pst1 l s).length - 1) tst0).hi=s.hi/\((pst1 l s).getD ((pst1 l s).length - 1) tst0).v=s.v:=by
 rw [pst1,if_neg (by omega)];split
 ·rename_i hm;rw [zdy,yo4 (by omega),if_pos rfl];exact ⟨by omega,rfl,hm.2.2⟩
 ·rw [zbp,zgp,yq7,if_neg (by omega),if_pos (by omega)];exact ⟨by omega,rfl,rfl⟩
theorem ya8 {l:List Tst} (h:tRight l=true): ∀{j i:Nat},i < j->j < l.length->(l.getD i tst0).hi<=(l.getD j tst0).lo
 | j+1,i,hij,hj=>by
  have h1:=(xt7 h hj).2.2.2.resolve_left (by omega);have h1:(l.getD j tst0).hi<=(l.getD (j+1) tst0).lo:=h1.1;rcases zcx i j with h2 | h2
  ·have h3:=ya8 h h2 (by omega);have h4:=(xt7 h (i:=j) (by omega)).2.1;omega
  ·have:i=j:=by omega
   subst this;exact h1
theorem yu9 {l:List Tst} (h:tRight l=true):l.Pairwise fun s t=>s.hi<=t.lo:=by
 refine zfi.2 fun i j hi hj hij=> ?_;have:=ya8 h hij hj
 rwa [zbh,zbh,zbi hi,zbi hj] at this
def okS (s:Sn):Prop:=0<=s.lo/\s.lo < s.hi/\s.hi<=65536
def ascS (l:List Sn):Prop:=(∀s∈l,okS s)/\l.Pairwise fun s t=>s.hi<=t.lo
theorem jm5 {l:List Sn} (h:ascS l):l.filter pos=l:=List.filter_eq_self.2 fun s hs=>by
 have:=h.1 s hs;simp only [pos,zdj];exact this.2.1
theorem js2 {l:List Sn} (h:ascS l):srt cfSn l=l:=by
 refine wb1 swoSn ?_;refine List.pairwise_iff_forall_sublist.2 fun {s t} hst=> ?_;have h1:=List.pairwise_iff_forall_sublist.1 h.2 hst;have h2:=(h.1 s (hst.subset (zcb ..))).2.1;rw [ltSn];simp;omega
theorem qn2 {l:List Sn} (h:ascS l):l.all Sn.ok=true:=zei.2 fun s hs=>by
 have:=h.1 s hs;simp only [Sn.ok,zcg,zdj];simp only [okS] at this;omega
def lastS (l:List Sn):Sn:=l.getD (l.length - 1) sn0
theorem xr7 {l:List Sn}:sVal l=true↔ ∀i,i < l.length->sOkA l i=true:=by
 simp only [sVal,zei,zdp]
theorem xu4 {l:List Sn} {s:Sn} {i:Nat}:(l++[s]).getD i sn0=if i < l.length then l.getD i sn0 else if i=l.length then s else sn0:=by
 simp only [zbh,List.getElem?_append];by_cases h:i < l.length
 ·simp [h]
 ·by_cases h2:i=l.length
  ·simp [h2]
  ·have:i - l.length≠0:=by omega
   simp only [h,h2,if_false];rw [zct (by simp;omega)];rfl
theorem xz7 {l:List Sn} {s:Sn} {i j:Nat} (hj:j < l.length):(l.set j s).getD i sn0=if i=j then s else l.getD i sn0:=by
 simp only [zbh];by_cases h:i=j
 ·subst h;rw [List.getElem?_set_self hj];simp
 ·rw [List.getElem?_set_ne (Ne.symm h)];simp [h]
theorem zn6 {l:List Sn} {s:Sn} (h:sVal l=true) (hs:okS s) (hl:0 < l.length->(lastS l).hi < s.lo):sVal (l++[s])=true:=by
 refine xr7.2 fun i hi=>xr4.2 ?_;rw [zbp,zgp] at hi;rw [xu4,xu4];by_cases e:i < l.length
 ·have ho:=xr4.1 (xr7.1 h i e);rw [if_pos e,if_pos (by omega)];exact ho
 ·have e2:i=l.length:=by omega
  subst e2;rw [if_neg (by omega),if_pos rfl];obtain ⟨h1,h2,h3⟩:=hs;refine ⟨by simp [Sn.ok];omega,by omega,?_⟩;by_cases e0:l.length=0
  ·exact .inl e0
  ·rw [if_pos (by omega)];exact .inr (hl (by omega))
theorem zn9 {l:List Sn} {e:Int} (h:sVal l=true) (hl:0 < l.length) (h1:(lastS l).hi<=e) (h2:e<=65536):sVal (l.set (l.length - 1) ⟨(lastS l).lo,e⟩)=true:=by
 refine xr7.2 fun i hi=>xr4.2 ?_;rw [zdy] at hi;have ho:=xr4.1 (xr7.1 h i hi);rw [xz7 (by omega),xz7 (by omega)];by_cases e1:i=l.length - 1
 ·subst e1;have ho1:(lastS l).ok=true/\(lastS l).lo≠(lastS l).hi/\(l.length - 1=0∨(l.getD (l.length - 1 - 1) sn0).hi < (lastS l).lo):=ho;rw [if_pos rfl];have h3:=ho1.1;simp only [Sn.ok,zcg,zdj] at h3;refine ⟨by simp [Sn.ok];omega,by have:=ho1.2.1;dsimp only;omega,?_⟩;by_cases e0:l.length - 1=0
  ·exact .inl e0
  ·rw [if_neg (by omega)];exact .inr (ho1.2.2.resolve_left e0)
 ·rw [if_neg e1];by_cases e0:i=0
  ·exact ⟨ho.1,ho.2.1,.inl e0⟩
  ·rw [if_neg (by omega)];exact ho
def dayS (l:List Sn):Int:=(l.map fun s=>s.hi - s.lo).sum
theorem yo3 {l:List Sn} {s:Sn}:dayS (l++[s])=dayS l+(s.hi - s.lo):=by simp [dayS]
theorem ym4 {l:List Sn} (h:0 < l.length):l=l.take (l.length - 1)++[lastS l]:=by
 have e:l.take (l.length - 1+1)=l.take (l.length - 1)++[l[l.length - 1]]:=zby (by omega);rw [show l.length - 1+1=l.length by omega,zbx] at e;rw [lastS,zbh,zbi (by omega)];exact e
theorem xv3 {l:List Sn} {x:Sn} (h:0 < l.length):l.set (l.length - 1) x=l.take (l.length - 1)++[x]:=by
 have e:=List.set_eq_take_append_cons_drop (l:=l) (i:=l.length - 1) (a:=x);rw [if_pos (by omega),show l.length - 1+1=l.length by omega,List.drop_length] at e;exact e
theorem ji5 {l:List Sn} {e:Int} (h:0 < l.length):dayS (l.set (l.length - 1) ⟨(lastS l).lo,e⟩)=dayS l+(e - (lastS l).hi):=by
 have h1:dayS l=dayS (l.take (l.length - 1))+((lastS l).hi - (lastS l).lo):=by rw [<-yo3,<-ym4 h]
 rw [h1,xv3 h,yo3];dsimp only;omega
theorem zf5: ∀(xs acc:List Sn),ascS xs->sVal acc=true->(0 < acc.length-> ∀s∈xs,(lastS acc).hi<=s.lo)->sVal (xs.foldl mrg1 acc)=true/\dayS (xs.foldl mrg1 acc)=dayS acc+dayS xs
 | [],acc,_,hv,_=>⟨hv,by simp [dayS]⟩
 | s::r,acc,hx,hv,hl=>by
  have hs:=hx.1 s (zcb ..);have hp:=zcv.1 hx.2;have hr:ascS r:=⟨fun t ht=>hx.1 t (zcd _ ht),hp.2⟩
  have key:sVal (mrg1 acc s)=true/\dayS (mrg1 acc s)=dayS acc+(s.hi - s.lo)/\0 < (mrg1 acc s).length/\(lastS (mrg1 acc s)).hi=s.hi:=by
   rw [mrg1];split
   ·rename_i hm;have h1:(lastS acc).hi=s.lo:=by have:=hl hm.1 s (zcb ..);have h2:s.lo<=(lastS acc).hi:=hm.2;omega
    have hmax:max (acc.getD (acc.length - 1) sn0).hi s.hi=s.hi:=by
     have h2:(acc.getD (acc.length - 1) sn0).hi=s.lo:=h1;have:=hs.2.1;omega
    rw [hmax];refine ⟨zn9 hv hm.1 (by have:=hs.2.1;omega) hs.2.2,by rw [show (acc.getD (acc.length - 1) sn0).lo=(lastS acc).lo from rfl,ji5 hm.1];omega,by rw [zdy];exact hm.1,?_⟩;rw [lastS,zdy,xz7 (by omega),if_pos rfl]
   ·rename_i hm;refine ⟨zn6 hv hs fun h0=> ?_,by rw [yo3],by simp,?_⟩
    ·have:=hl h0 s (zcb ..);have h2: ¬s.lo<=(lastS acc).hi:=fun h'=>hm ⟨h0,h'⟩;omega
    ·rw [lastS,xu4,zbp,zgp,if_neg (by omega),if_pos (by omega)]
  have ih:=zf5 r (mrg1 acc s) hr key.1 fun _ t ht=>by rw [key.2.2.2];exact hp.1 t ht
  refine ⟨ih.1,?_⟩;rw [List.foldl_cons,ih.2,key.2.1];have:dayS (s::r)=(s.hi - s.lo)+dayS r:=by simp [dayS]
  omega
def hasD (d:Int) (s:Tst):Bool:=decide (s.lo<=d) && decide (d < s.hi)
theorem yn2 {d:Int} {s:Tst}:hasD d s=true↔s.lo<=d/\d < s.hi:=by simp [hasD]
def valT (l:List Tst) (d:Int):Option Va:=(l.find? (hasD d)).map (·.v)
theorem xg1 {s:Tst} {r:List Tst} {d:Int}:valT (s::r) d=if s.lo<=d/\d < s.hi then some s.v else valT r d:=by
 by_cases h:s.lo<=d/\d < s.hi
 ·rw [if_pos h,valT,List.find?_cons_of_pos (yn2.2 h)];rfl
 ·rw [if_neg h,valT,List.find?_cons_of_neg (fun h'=>h (yn2.1 h'))];rfl
theorem yc3 {l:List Tst} {d:Int}:valT l d=none↔ ∀s∈l,¬(s.lo<=d/\d < s.hi):=by
 rw [valT,Option.map_eq_none_iff,List.find?_eq_none];simp only [yn2]
theorem xs7 {a b:List Tst} {d:Int}:valT (a++b) d=(valT a d).or (valT b d):=by
 rw [valT,List.find?_append,valT,valT];cases a.find? (hasD d) <;> rfl
theorem yc2 {l:List Tst} {d:Int} {v:Va} (h:valT l d=some v): ∃s∈l,(s.lo<=d/\d < s.hi)/\s.v=v:=by
 obtain ⟨s,h1,h2⟩:=zdn.1 h;exact ⟨s,List.mem_of_find?_eq_some h1,yn2.1 (List.find?_some h1),h2⟩
def ascT (l:List Tst):Prop:=(∀s∈l,s.lo < s.hi)/\l.Pairwise fun s t=>s.hi<=t.lo
def nbT:List Tst->Prop
 | []=>True
 | [_]=>True
 | s::t::r=> ¬(s.hi=t.lo/\s.v=t.v)/\nbT (t::r)
theorem zs5: ∀{a b:List Tst},ascT a->nbT a->ascT b->nbT b->(∀d,valT a d=valT b d)->a=b
 | [],[],_,_,_,_,_=>rfl
 | [],t::u,_,_,hb,_,h=>by
  have h1:=hb.1 t (zcb ..);have h2:=h t.lo;rw [xg1,if_pos ⟨zfp _,h1⟩] at h2;cases h2
 | s::r,[],ha,_,_,_,h=>by
  have h1:=ha.1 s (zcb ..);have h2:=h s.lo;rw [xg1,if_pos ⟨zfp _,h1⟩] at h2;cases h2
 | s::r,t::u,ha,na,hb,nb,h=>by
  have hs:=ha.1 s (zcb ..);have ht:=hb.1 t (zcb ..);have pa:=zcv.1 ha.2;have pb:=zcv.1 hb.2;have a0:valT (s::r) s.lo=some s.v:=by rw [xg1,if_pos ⟨zfp _,hs⟩]
  have b0:valT (t::u) t.lo=some t.v:=by rw [xg1,if_pos ⟨zfp _,ht⟩]
  have l1:t.lo<=s.lo:=by
   obtain ⟨x,hx,hx2,_⟩:=yc2 ((h s.lo).symm.trans a0);rcases zbr.1 hx with rfl | hx
   ·exact hx2.1
   ·have:=pb.1 x hx;omega
  have l2:s.lo<=t.lo:=by
   obtain ⟨x,hx,hx2,_⟩:=yc2 ((h t.lo).trans b0);rcases zbr.1 hx with rfl | hx
   ·exact hx2.1
   ·have:=pa.1 x hx;omega
  have elo:s.lo=t.lo:=by omega
  have ev:s.v=t.v:=by
   have:=(h s.lo).symm.trans a0;rw [elo,b0] at this;exact (Option.some.inj this).symm
  have key: ∀{s t:Tst} {r u:List Tst},ascT (s::r)->nbT (s::r)->s.lo=t.lo->s.v=t.v->(∀d,valT (s::r) d=valT (t::u) d)-> ¬s.hi < t.hi:=by
   intro s t r u ha na elo ev h h1;have hs:=ha.1 s (zcb ..);have pa:=zcv.1 ha.2;have h2:=h s.hi;rw [xg1,if_neg (by omega),xg1,if_pos (by omega)] at h2;obtain ⟨x,hx,hx2,hx3⟩:=yc2 h2;cases r with
   | nil=>cases hx
   | cons y q=>
    have hy:=pa.1 y (zcb ..);have py:=zcv.1 pa.2;have e:x=y:=by
     rcases zbr.1 hx with rfl | hx
     ·rfl
     ·have:=py.1 x hx;have:=ha.1 y (zcd _ (zcb ..));omega
    subst e;exact na.1 ⟨by omega,by rw [hx3,ev]⟩
  have ehi:s.hi=t.hi:=by
   have:=key ha na elo ev h;have:=key hb nb elo.symm ev.symm (fun d=>(h d).symm);omega
  have est:s=t:=by
   obtain ⟨a1,a2,a3⟩:=s;obtain ⟨b1,b2,b3⟩:=t;simp only at elo ev ehi;rw [elo,ev,ehi]
  subst est
  congr 1
  refine zs5 ⟨fun x hx=>ha.1 x (zcd _ hx),pa.2⟩ ?_ ⟨fun x hx=>hb.1 x (zcd _ hx),pb.2⟩ ?_ fun d=> ?_
  ·cases r with
   | nil=>trivial
   | cons y q=>exact na.2
  ·cases u with
   | nil=>trivial
   | cons y q=>exact nb.2
  ·rcases Int.lt_or_le d s.hi with h1 | h1
   ·have e1:valT r d=none:=yc3.2 fun x hx h'=>by have:=pa.1 x hx;omega
    have e2:valT u d=none:=yc3.2 fun x hx h'=>by have:=pb.1 x hx;omega
    rw [e1,e2]
   ·have h2:=h d
    rwa [xg1,if_neg (by omega),xg1,if_neg (by omega)] at h2
theorem qk3 {s:Tst}: ∀{l:List Tst} {x:Tst},nbT (l++[x])-> ¬(x.hi=s.lo/\x.v=s.v)->nbT (l++[x]++[s])
 | [],_,_,h=>⟨h,trivial⟩
 | [_],_,h1,h=>⟨h1.1,h,trivial⟩
 | _::z::r,_,h1,h=>⟨h1.1,qk3 (l:=z::r) h1.2 h⟩
theorem jd2 {x':Tst}: ∀{l:List Tst} {x:Tst},nbT (l++[x])->x'.lo=x.lo->x'.v=x.v->nbT (l++[x'])
 | [],_,_,_,_=>trivial
 | [_],_,h1,e1,e2=>⟨by rw [e1,e2];exact h1.1,trivial⟩
 | _::z::r,_,h1,e1,e2=>⟨h1.1,jd2 (l:=z::r) h1.2 e1 e2⟩
theorem zt9 {l:List Tst} {s:Tst} (h:ascT l) (hs:s.lo < s.hi) (hl: ∀x∈l,x.hi<=s.lo):ascT (l++[s]):=by
 refine ⟨fun x hx=> ?_,zga.2 ⟨h.2,zge ..,fun x hx y hy=>by rw [zbj.1 hy];exact hl x hx⟩⟩;rcases zbo.1 hx with hx | hx
 ·exact h.1 x hx
 ·rw [zbj.1 hx];exact hs
theorem yu2 {l:List Tst} (h:0 < l.length):l=l.take (l.length - 1)++[l.getD (l.length - 1) tst0]:=by
 have e:l.take (l.length - 1+1)=l.take (l.length - 1)++[l[l.length - 1]]:=zby (by omega);rw [show l.length - 1+1=l.length by omega,zbx] at e;rw [zbh,zbi (by omega)];exact e
theorem qu8 {l:List Tst} {x:Tst} (h:0 < l.length):l.set (l.length - 1) x=l.take (l.length - 1)++[x]:=by
 have e:=List.set_eq_take_append_cons_drop (l:=l) (i:=l.length - 1) (a:=x);rw [if_pos (by omega),show l.length - 1+1=l.length by omega,List.drop_length] at e;exact e
theorem pst1_val {acc:List Tst} {s:Tst} (h:ascT acc) (hn:nbT acc) (hs:s.lo < s.hi) (hl: ∀x∈acc,x.hi<=s.lo):ascT (pst1 acc s)/\nbT (pst1 acc s)/\(∀x∈pst1 acc s,x.hi<=s.hi)/\ ∀d,valT (pst1 acc s) d=(valT acc d).or (if s.lo<=d/\d < s.hi then some s.v else none):=by
 have e1: ∀d,valT [s] d=if s.lo<=d/\d < s.hi then some s.v else none:=fun d=>by rw [xg1];rfl
 rw [pst1,if_neg (by omega)];split
 ·rename_i hm;have ea:=yu2 hm.1;rw [qu8 hm.1];generalize acc.getD (acc.length - 1) tst0=x at*
  generalize acc.take (acc.length - 1)=q at*
  subst ea;have hp:=zga.1 h.2;have hx:=h.1 x (List.mem_append_right _ (zbj.2 rfl));have hq:ascT q:=⟨fun y hy=>h.1 y (List.mem_append_left _ hy),hp.1⟩
  have hqx: ∀y∈q,y.hi<=x.lo:=fun y hy=>hp.2.2 y hy x (zbj.2 rfl);refine ⟨zt9 hq (by dsimp only;omega) hqx,jd2 hn rfl rfl,fun y hy=> ?_,fun d=> ?_⟩
  ·rcases zbo.1 hy with hy | hy
   ·have:=hqx y hy;omega
   ·rw [zbj.1 hy];exact zfp _
  ·rw [xs7,xs7,xg1,xg1];cases hv:valT q d with
   | some v=>rfl
   | none=>
    simp only [Option.none_or];have h1:=hm.2.1;by_cases c1:x.lo<=d/\d < x.hi
    ·rw [if_pos (by omega),if_pos c1];rfl
    ·by_cases c2:s.lo<=d/\d < s.hi
     ·rw [if_pos (by omega),if_neg c1,if_pos c2,hm.2.2];rfl
     ·rw [if_neg (by omega),if_neg c1,if_neg c2];rfl
 ·rename_i hm;refine ⟨zt9 h hs hl,?_,fun y hy=> ?_,fun d=>by rw [xs7,e1]⟩
  ·rcases zcf acc.length with h0 | h0
   ·rw [zdw h0];trivial
   ·have ea:=yu2 h0;have h2: ¬((acc.getD (acc.length - 1) tst0).hi=s.lo/\(acc.getD (acc.length - 1) tst0).v=s.v):=fun h'=>hm ⟨h0,h'.1,h'.2⟩;rw [ea] at hn ⊢;exact qk3 hn h2
  ·rcases zbo.1 hy with hy | hy
   ·have:=hl y hy;omega
   ·rw [zbj.1 hy];exact zfp _
theorem xo6: ∀(ps acc:List Tst),ascT acc->nbT acc->(ps.Pairwise fun s t=>s.lo < s.hi->s.hi<=t.lo)->(∀x∈acc,∀s∈ps,s.lo < s.hi->x.hi<=s.lo)->ascT (pst acc ps)/\nbT (pst acc ps)/\ ∀d,valT (pst acc ps) d=(valT acc d).or (valT ps d)
 | [],acc,h,hn,_,_=>⟨h,hn,fun d=>by show valT acc d=_;cases valT acc d <;> rfl⟩
 | s::r,acc,h,hn,hp,hl=>by
  have hp1:=zcv.1 hp;have e:pst acc (s::r)=pst (pst1 acc s) r:=rfl;rw [e];by_cases hs:s.lo < s.hi
  ·obtain ⟨k1,k2,k3,k4⟩:=pst1_val h hn hs fun x hx=>hl x hx s (zcb ..) hs;have ih:=xo6 r (pst1 acc s) k1 k2 hp1.2 fun x hx t ht htl=>by
    have:=k3 x hx;have:=hp1.1 t ht hs;omega
   refine ⟨ih.1,ih.2.1,fun d=> ?_⟩;rw [ih.2.2,k4,xg1,Option.or_assoc]
   congr 1
   split <;> rfl
  ·have e1:pst1 acc s=acc:=by rw [pst1,if_pos (by omega)]
   rw [e1];have ih:=xo6 r acc h hn hp1.2 fun x hx t ht=>hl x hx t (zcd _ ht);refine ⟨ih.1,ih.2.1,fun d=> ?_⟩;rw [ih.2.2,xg1,if_neg (by omega)]
def segL (g:Int->Option Va):List Int->List Tst
 | x::y::r=>(match g x with | some v=>[⟨x,y,v⟩] | none=>[])++segL g (y::r)
 | _=>[]
def cOn (g:Int->Option Va):List Int->Prop
 | x::y::r=>(∀d,x<=d->d < y->g d=g x)/\cOn g (y::r)
 | _=>True
theorem zj6 {g:Int->Option Va}: ∀{ds:List Int} {x:Int} {s:Tst},(x::ds).Pairwise (· < ·)->s∈segL g (x::ds)->x<=s.lo
 | [],x,s,_,h=>by cases h
 | y::r,x,s,hp,h=>by
  have hp1:=zcv.1 hp;rw [segL] at h;rcases zbo.1 h with h | h
  ·cases hg:g x with
   | none=>rw [hg] at h;cases h
   | some v=>rw [hg] at h;rw [zbj.1 h];exact zfp _
  ·have:=zj6 hp1.2 h;have:=hp1.1 y (zcb ..);omega
theorem zi6 {g:Int->Option Va}: ∀{ds:List Int},ds.Pairwise (· < ·)->(∀s∈segL g ds,s.lo < s.hi)/\(segL g ds).Pairwise fun s t=>s.hi<=t.lo
 | [],_=>⟨fun s h=>(by cases h),.nil⟩
 | [x],_=>⟨fun s h=>(by cases h),.nil⟩
 | x::y::r,hp=>by
  have hp1:=zcv.1 hp;have hxy:=hp1.1 y (zcb ..);have ih:=zi6 (g:=g) hp1.2;rw [segL];cases hg:g x with
  | none=>exact ih
  | some v=>
   refine ⟨fun s h=> ?_,zcv.2 ⟨fun t ht=>zj6 hp1.2 ht,ih.2⟩⟩;rcases zbr.1 h with rfl | h
   ·exact hxy
   ·exact ih.1 s h
theorem qc9 {g:Int->Option Va}: ∀{ds:List Int},ds.Pairwise (· < ·)->cOn g ds->(∀d,(∃x∈ds,x<=d)->(∃y∈ds,d < y)->valT (segL g ds) d=g d)/\ ∀d,((∀x∈ds,d < x)∨ ∀y∈ds,y<=d)->valT (segL g ds) d=none
 | [],_,_=>⟨fun d ⟨x,hx,_⟩=>(by cases hx),fun d _=>rfl⟩
 | [x],_,_=>⟨fun d ⟨a,ha,ha2⟩ ⟨b,hb,hb2⟩=>by rw [zbj.1 ha] at ha2;rw [zbj.1 hb] at hb2;omega,fun d _=>rfl⟩
 | x::y::r,hp,hc=>by
  have hp1:=zcv.1 hp;have hp2:=zcv.1 hp1.2;have hxy:=hp1.1 y (zcb ..);have ih:=qc9 (g:=g) hp1.2 hc.2;have e: ∀d,valT (segL g (x::y::r)) d=if x<=d/\d < y then g x else valT (segL g (y::r)) d:=fun d=>by
   rw [segL];cases hg:g x with
   | none=>
    show valT (segL g (y::r)) d=_;split
    ·rename_i h;exact yc3.2 fun s hs h'=>by have:=zj6 hp1.2 hs;omega
    ·rfl
   | some v=>
    show valT (⟨x,y,v⟩::segL g (y::r)) d=_;rw [xg1]
  refine ⟨fun d h1 h2=> ?_,fun d h=> ?_⟩
  ·rw [e];split
   ·rename_i h;exact (hc.1 d h.1 h.2).symm
   ·rename_i h;have hxd:x<=d:=by
     obtain ⟨z,hz,hz2⟩:=h1;rcases zbr.1 hz with rfl | hz
     ·exact hz2
     ·have:=hp1.1 z hz;omega
    refine ih.1 d ⟨y,zcb ..,by omega⟩ ?_;obtain ⟨z,hz,hz2⟩:=h2;rcases zbr.1 hz with rfl | hz
    ·omega
    ·exact ⟨z,hz,hz2⟩
  ·rw [e,if_neg]
   ·rcases h with h | h
    ·exact ih.2 d (.inl fun z hz=>h z (zcd _ hz))
    ·exact ih.2 d (.inr fun z hz=>h z (zcd _ hz))
   ·rcases h with h | h
    ·have:=h x (zcb ..);omega
    ·have:=h y (zcd _ (zcb ..));omega
theorem zd6: ∀{l:List Tst} {x d:Int},(∀s∈l,¬(x < s.lo/\s.lo<=d)/\ ¬(x < s.hi/\s.hi<=d))->x<=d->valT l d=valT l x
 | [],_,_,_,_=>rfl
 | s::r,x,d,h,hxd=>by
  have h1:=h s (zcb ..);rw [xg1,xg1,zd6 (l:=r) (fun t ht=>h t (zcd _ ht)) hxd];by_cases c:s.lo<=x/\x < s.hi
  ·rw [if_pos c,if_pos (by omega)]
  ·rw [if_neg c,if_neg (by omega)]
theorem yn0 {l:List Tst} {d:Int} (h:(∀s∈l,d < s.lo)∨ ∀s∈l,s.hi<=d):valT l d=none:=yc3.2 fun s hs h'=>by
 rcases h with h | h
 ·have:=h s hs;omega
 ·have:=h s hs;omega
def ends (ds:List Int) (l:List Tst):Prop:= ∀s∈l,s.lo∈ds/\s.hi∈ds
theorem zs2 {g:Int->Option Va} {a b:List Tst} (hg: ∀d x,valT a d=valT a x->valT b d=valT b x->g d=g x): ∀{pre ds:List Int},(pre++ds).Pairwise (· < ·)->ends (pre++ds) a->ends (pre++ds) b->cOn g ds
 | _,[],_,_,_=>trivial
 | _,[x],_,_,_=>trivial
 | pre,x::y::r,hp,ha,hb=>by
  have h1:=zga.1 hp;have hq:=zcv.1 h1.2.1;have hq2:=zcv.1 hq.2;have key: ∀z∈pre++x::y::r,z<=x∨y<=z:=fun z hz=>by
   rcases zbo.1 hz with hz | hz
   ·have:=h1.2.2 z hz x (zcb ..);omega
   ·rcases zbr.1 hz with rfl | hz
    ·omega
    ·rcases zbr.1 hz with rfl | hz
     ·omega
     ·have:=hq2.1 z hz;omega
  have hcon: ∀{l:List Tst},ends (pre++x::y::r) l-> ∀d,x<=d->d < y->valT l d=valT l x:=fun {l} hl d hx hy=>zd6 (fun s hs=>by
   have k1:=key _ (hl s hs).1;have k2:=key _ (hl s hs).2;omega) hx
  refine ⟨fun d hx hy=>hg d x (hcon ha d hx hy) (hcon hb d hx hy),?_⟩;have e:pre++x::y::r=(pre++[x])++(y::r):=by simp
  rw [e] at hp ha hb;exact zs2 hg hp ha hb
theorem qg5 {g:Int->Option Va} {a b:List Tst} {ds:List Int} (hg: ∀d x,valT a d=valT a x->valT b d=valT b x->g d=g x) (h0: ∀d,valT a d=none->valT b d=none->g d=none) (hp:ds.Pairwise (· < ·)) (ha:ends ds a) (hb:ends ds b): ∀d,valT (segL g ds) d=g d:=fun d=>by
 have hv:=qc9 hp (zs2 (pre:=[]) hg hp ha hb);by_cases h1: ∃x∈ds,x<=d
 ·by_cases h2: ∃y∈ds,d < y
  ·exact hv.1 d h1 h2
  ·have h3: ∀y∈ds,y<=d:=fun y hy=>Int.not_lt.1 fun h'=>h2 ⟨y,hy,h'⟩;rw [hv.2 d (.inr h3),h0 d (yn0 (.inr fun s hs=>h3 _ (ha s hs).2)) (yn0 (.inr fun s hs=>h3 _ (hb s hs).2))]
 ·have h3: ∀x∈ds,d < x:=fun x hx=>Int.not_le.1 fun h'=>h1 ⟨x,hx,h'⟩;rw [hv.2 d (.inl h3),h0 d (yn0 (.inl fun s hs=>h3 _ (ha s hs).1)) (yn0 (.inl fun s hs=>h3 _ (hb s hs).1))]
theorem zi7 {g:Int->Option Va} {ds:List Int} (hp:ds.Pairwise (· < ·)):ascT (pst [] (segL g ds))/\nbT (pst [] (segL g ds))/\ ∀d,valT (pst [] (segL g ds)) d=valT (segL g ds) d:=by
 have h:=zi6 (g:=g) hp;have:=xo6 (segL g ds) [] ⟨fun s hs=>(by cases hs),.nil⟩ trivial (h.2.imp (S:=fun s t:Tst=>s.lo < s.hi->s.hi<=t.lo) fun h' _=>h') fun x hx=>by cases hx
 exact ⟨this.1,this.2.1,fun d=>by rw [this.2.2];rfl⟩
def jnG (a b:List Tst) (d:Int):Option Va:=(valT b d).or (valT a d)
theorem jo4 {a b:List Tst} {ds:List Int} (hp:ds.Pairwise (· < ·)) (ha:ends ds a) (hb:ends ds b): ∀d,valT (pst [] (segL (jnG a b) ds)) d=(valT b d).or (valT a d):=fun d=>by
 rw [(zi7 hp).2.2,qg5 (a:=a) (b:=b) (fun d x h1 h2=>by rw [jnG,jnG,h1,h2]) (fun d h1 h2=>by rw [jnG,h1,h2];rfl) hp ha hb];rfl
theorem jz0 {l:List Tst} {a b:Int} (h:ascT l):ascT (cutT l a b)/\nbT (cutT l a b)/\ ∀d,valT (cutT l a b) d=if a<=d/\d < b then valT l d else none:=by
 have hp:(l.map (clip a b)).Pairwise fun s t=>s.lo < s.hi->s.hi<=t.lo:=h.2.map (clip a b) fun s t hst _=>by simp only [clip];omega
 have:=xo6 (l.map (clip a b)) [] ⟨fun s hs=>(by cases hs),.nil⟩ trivial hp fun x hx=>by cases hx
 refine ⟨this.1,this.2.1,fun d=> ?_⟩;rw [cutT,this.2.2];show valT (l.map (clip a b)) d=_;clear this hp h
 induction l with
 | nil=>simp [valT]
 | cons s r ih=>
  rw [zdu,xg1,xg1,ih];show (if max s.lo a<=d/\d < min s.hi b then some s.v else if a<=d/\d < b then valT r d else none)=if a<=d/\d < b then (if s.lo<=d/\d < s.hi then some s.v else valT r d) else none
  by_cases c1:a<=d/\d < b
  ·rw [if_pos c1,if_pos c1];by_cases c2:s.lo<=d/\d < s.hi
   ·rw [if_pos c2,if_pos ⟨by omega,by omega⟩]
   ·rw [if_neg c2,if_neg (fun h=>c2 ⟨by omega,by omega⟩)]
  ·rw [if_neg c1,if_neg c1,if_neg (fun h=>c1 ⟨by omega,by omega⟩)]
def woP (a b:Int) (s:Tst):List Tst:=[⟨s.lo,min s.hi a,s.v⟩,⟨max s.lo b,s.hi,s.v⟩]
def woT (l:List Tst) (a b:Int):List Tst:=pst [] (l.flatMap (woP a b))
theorem wo_val {l:List Tst} {a b:Int} (h:ascT l) (hab:a<=b):ascT (woT l a b)/\nbT (woT l a b)/\ ∀d,valT (woT l a b) d=if a<=d/\d < b then none else valT l d:=by
 have hp:(l.flatMap (woP a b)).Pairwise fun s t=>s.lo < s.hi->s.hi<=t.lo:=by
  rw [List.pairwise_flatMap];refine ⟨fun s hs=> ?_,h.2.imp fun {s t} hst x hx y hy=> ?_⟩
  ·simp only [woP,zcv,zbj,zdm,false_implies,implies_true,List.Pairwise.nil,and_true,forall_eq];omega
  ·simp only [woP,zbr,zdm,or_false] at hx hy;rcases hx with rfl | rfl <;> rcases hy with rfl | rfl <;> dsimp only <;> omega
 have:=xo6 (l.flatMap (woP a b)) [] ⟨fun s hs=>(by cases hs),.nil⟩ trivial hp fun x hx=>by cases hx
 refine ⟨this.1,this.2.1,fun d=> ?_⟩;rw [woT,this.2.2];show valT (l.flatMap (woP a b)) d=_;have h1:=h.1;clear this hp h
 induction l with
 | nil=>simp [valT]
 | cons s r ih=>
  have hs:=h1 s (zcb ..);rw [zex,xs7,ih fun x hx=>h1 x (zcd _ hx),xg1,woP,xg1,xg1];dsimp only;by_cases c1:a<=d/\d < b
  ·rw [if_neg (by omega),if_neg (by omega),if_pos c1,if_pos c1];rfl
  ·by_cases c2:s.lo<=d/\d < s.hi
   ·rw [if_neg c1,if_neg c1,if_pos c2];by_cases c3:d < a
    ·rw [if_pos (by omega)];rfl
    ·rw [if_neg (by omega),if_pos (by omega)];rfl
   ·rw [if_neg (by omega),if_neg (by omega),if_neg c1,if_neg c1,if_neg c2];rfl
theorem nb_of: ∀{l:List Tst},(∀i,i+1 < l.length-> ¬((l.getD i tst0).hi=(l.getD (i+1) tst0).lo/\(l.getD i tst0).v=(l.getD (i+1) tst0).v))->nbT l
 | [],_=>trivial
 | [_],_=>trivial
 | s::t::r,h=>⟨h 0 (by simp),nb_of (l:=t::r) fun i hi=>h (i+1) (by simpa using hi)⟩
theorem nb_at: ∀{l:List Tst} {i:Nat},nbT l->i+1 < l.length-> ¬((l.getD i tst0).hi=(l.getD (i+1) tst0).lo/\(l.getD i tst0).v=(l.getD (i+1) tst0).v)
 | [],_,_,hi=>by simp at hi
 | [_],_,_,hi=>by simp at hi
 | s::t::r,0,h,_=>h.1
 | s::t::r,i+1,h,hi=>nb_at (l:=t::r) h.2 (by simpa using hi)
theorem y7 {l:List Tst} (h:tRight l=true):ascT l:=⟨fun s hs=>by
 obtain ⟨i,hi,rfl⟩:=xv0 hs;exact (xt7 h hi).2.1,yu9 h⟩
theorem qv2 {l:List Tst} (h:tRight l=true):nbT l:=nb_of fun i hi=>by
 have:=(xt7 h hi).2.2.2.resolve_left (by omega);exact this.2.2
theorem asc_lt {l:List Tst} (h:ascT l) {i j:Nat} (hij:i < j) (hj:j < l.length):(l.getD i tst0).hi<=(l.getD j tst0).lo:=by
 have:=zfi.1 h.2 i j (by omega) hj hij
 rwa [zbh,zbh,zbi (show i < l.length by omega),zbi hj]
theorem jq3 {l:List Tst} {K:Nat} (h:ascT l) (hn:nbT l) (hv: ∀s∈l,0<=s.lo/\s.hi<=65536/\s.v.valid=true/\s.v.kind=K):tRight l=true:=by
 refine yf8.2 ⟨fun i hi=>yb8.2 ?_,fun s hs=>(hv s hs).2.2.1⟩;have h1:=hv _ (xi0 (l:=l) hi);refine ⟨h1.1,h.1 _ (xi0 hi),h1.2.1,?_⟩;by_cases h0:i=0
 ·exact .inl h0
 ·have h2:=hv _ (xi0 (l:=l) (i:=i - 1) (by omega));have h3:=nb_at hn (i:=i - 1) (by omega);rw [show i - 1+1=i by omega] at h3;exact .inr ⟨asc_lt h (by omega) hi,by rw [h2.2.2.2,h1.2.2.2],h3⟩
end An.S
namespace An
open Go
def tO {α:Type} (n:Nat) (agg:Bool) (f:α->Ty):Option α->Ty
 | none=>tE (.pointer none)
 | some x=>tP n agg (f x)
instance {α:Type} {n:Nat} {agg:Bool} {f:α->Ty} {o:Option α}:Shape (tO n agg f o) 1 false:=⟨fun h=>by
 cases o with
 | none=>have h:_=_:=h;rw [h];exact xd3 rfl
 | some x=>obtain ⟨_,_,_,h,_⟩:=h;rw [h];exact xd3 rfl⟩
section
variable {P:Program} {c:Base} {d ty:Nat} {pos:String} {af:Array Edge} {gd:Option (Nat×Bool)} {α:Type} {n:Nat} {agg:Bool} {f:α->Ty}
theorem zc2 {T E:TypeId} (hT:P.underlying T=some (.pointer E)) (A:Option Addr) (w:World):(Op.equal T (.pointer A) (.pointer none)).run P w= .ok A.isNone w:=by
 have key: ∀d,(Op.equalIn (d+1) T (.pointer A) (.pointer none)).run P w= .ok A.isNone w:=fun d=>by
  cases A <;> simp only [Op.equalIn,zbv,zda hT,zbm,zbw] <;> rfl
 exact key 9999
theorem jc5 {F:Dom} {w:World} {o:Option α} {v:Value} (h:(tO n agg f o).p F w v): ∃A:Option Addr,v= .pointer A/\A.isNone=o.isNone:=by
 cases o with
 | none=>exact ⟨none,h,rfl⟩
 | some x=>obtain ⟨b,q,u,h1,_⟩:=h;exact ⟨_,h1,rfl⟩
theorem za0 {T E yT:TypeId} {x:Operand} {o:Option α} (hT:P.underlying T=some (.pointer E)):
  Does P c ⟨some d,.binOp .eql T x (.const (.pointer none)) yT,ty,pos,af,gd⟩ ⟨[(x,.val (tO n agg f o))],[],some (d,some (.val (tB o.isNone))),[],[]⟩:=
 Does.value rfl fun g h al a w η hrd _ s=>by
  obtain ⟨A,h1,h4⟩:=jc5 (xa0 s hrd.1).1;have h1:a.eval x= .pointer A:=h1;have h2:a.eval (.const (.pointer none))= .pointer none:=rfl;refine ⟨.bool A.isNone,w,?_,Ext.refl w,congrArg Value.bool h4,fun j hj=>by cases hj⟩;have hg:(eqGuard .eql T x (.const (.pointer none)) (.pointer A) (.pointer none)).run P w= .ok () w:=by
   simp [eqGuard,go_sem]
  simp only [execOp,h1,h2,zbv,hg,zbm,binOp,zc2 hT,zbw]
theorem yk2 {T E yT:TypeId} {x:Operand} {o:Option α} (hT:P.underlying T=some (.pointer E)):
  Does P c ⟨some d,.binOp .neq T x (.const (.pointer none)) yT,ty,pos,af,gd⟩ ⟨[(x,.val (tO n agg f o))],[],some (d,some (.val (tB (!o.isNone)))),[],[]⟩:=
 Does.value rfl fun g h al a w η hrd _ s=>by
  obtain ⟨A,h1,h4⟩:=jc5 (xa0 s hrd.1).1;have h1:a.eval x= .pointer A:=h1;have h2:a.eval (.const (.pointer none))= .pointer none:=rfl;refine ⟨.bool (!A.isNone),w,?_,Ext.refl w,congrArg (fun b=>Value.bool (!b)) h4,fun j hj=>by cases hj⟩;have hg:(eqGuard .neq T x (.const (.pointer none)) (.pointer A) (.pointer none)).run P w= .ok () w:=by
   simp [eqGuard,go_sem]
  simp only [execOp,h1,h2,zbv,hg,zbm,binOp,zc2 hT,zbw]
theorem yz0 {x:Operand} {o:Option α} {y:α} (ho:o=some y):
  Does P c ⟨some d,.nilCheck x,ty,pos,af,gd⟩ ⟨[(x,.val (tO n agg f o))],[],some (d,some (.val (tP n agg (f y)))),[],[]⟩:=by
 subst ho;exact yv4
theorem leO {o:Option α} {y:α} (ho:o=some y):Le (tP n agg (f y)) (tO n agg f o):=by subst ho;exact zao
theorem leO0 {o:Option α} (ho:o=none):Le (tE (.pointer none)) (tO n agg f o):=by subst ho;exact zao
end
end An
namespace An
open Go Go.Proofs Go.Shelf Go.Sort Tryz
theorem zz0 {w:World} {b T:Nat} {cs:Array Value} {xs:List Int} (c1:w.heap[b]? =some (.cells cs T (0,0))) (c3: ∀(i:Nat) (h:i < xs.length),cs[i]? =some (.int .i64 xs[i])):Holds (Value.int .i64) w b 0 xs.toArray:=by
 intro j hj;have hj:j < xs.length:=by simpa using hj
 have e:xs.toArray[j]! =xs[j]:=by rw [zfm _ _ (by simpa using hj)];simp
 refine ⟨?_,by simp [World.frozen?,c1]⟩;rw [e];simp only [World.cell?,c1,zcm];exact c3 j hj
theorem qq4 {F:Dom} {w w':World} {η:Env} {T:Nat} {xs ys:List Int} {zs:Array Int} {re:Ent} {v:Value} {cs:Array Value} (hc0:0 < η.c 1) (k4:η.c 1<=9223372036854775807) (c1:w.heap[η.b 1]? =some (.cells cs T (0,0))) (c2:cs.size=η.c 1) (_hz:zs.size<=η.c 1) (_hI:InjK η [(1,⟨T,1,false,rV tI xs⟩)])
  (ho:w'.os=w.os) (ht:w'.tape=w.tape) (hp:w'.output=w.output) (hsz:w.heap.size<=w'.heap.size) (hheap: ∀b',b' < w.heap.size->w'.heap[b']? =if b'=η.b 1 then some (.cells (putCells (Value.int .i64) 0 zs cs) T (0,0)) else w.heap[b']?)
  (hy:ys.length<=zs.size) (hyz: ∀(i:Nat) (h:i < ys.length),zs[i]! =ys[i]) (hre: ∀F,re.sat F w' η v):Out F w η [(1,⟨T,1,false,rV tI xs⟩)] re [(1,⟨T,1,false,rV tI ys⟩)] [] v w' η:=by
 have hblk:η.b 1 < w.heap.size:=xa7 c1;refine ⟨⟨ho,ht,hp,hsz,fun b' hb' hn'=> ?_⟩,fun _ _=>⟨rfl,rfl⟩,hre _,fun x hx=> ?_,fun x hx y hy hne=> ?_,fun b' hb'=> .inl ?_⟩
 ·rw [hheap b' hb',if_neg];intro hb;exact hn' ⟨(1,⟨T,1,false,rV tI xs⟩),by simp,hc0,hb⟩
 ·simp only [zbj] at hx;subst hx;refine ⟨by show (rV tI ys).length<=η.c 1;rw [xd2];omega,Nat.one_pos,fun _=>rfl,k4,fun _=>⟨putCells (Value.int .i64) 0 zs cs,?_,?_,fun i e hi=> ?_⟩⟩
  ·rw [hheap _ hblk,if_pos rfl]
  ·simp only [putCells,Array.size_mapIdx];rw [c2];simp
  ·have hil:i < ys.length:=by
    have:=(zbn.1 hi).1;rwa [xd2] at this
   have hi:(rV tI ys)[i]? =some e:=hi;rw [rV,zbu,zbi hil] at hi;simp only [zeb,zci] at hi;subst hi;show pick false 1 (putCells (Value.int .i64) 0 zs cs) (i*1)= .int .i64 ys[i];rw [zee,pick,zen,zbk];simp only [putCells,Array.getElem?_mapIdx];rw [zcr (show i < cs.size by omega)];simp only [zeb,Option.getD_some];rw [if_pos ⟨zbq _,by omega⟩,Nat.sub_zero,hyz i hil]
 ·simp only [zbj] at hx hy;subst hx;subst hy;exact absurd rfl hne
 ·obtain ⟨x,hx,hc,rfl⟩:=hb';simp only [zbj] at hx;subst hx;exact ⟨(1,⟨T,1,false,rV tI xs⟩),by simp,hc,rfl⟩
theorem qb4 {w:World} {b:Nat} {T m:Nat} {cs:Array Value} {zs:Array Int} (c1:w.heap[b]? =some (.cells cs T (0,0))) (b':Nat):(putRow (Value.int .i64) (Sort.ahead w m) b 0 zs).heap[b']? =if b'=b then some (.cells (putCells (Value.int .i64) 0 zs cs) T (0,0)) else w.heap[b']? :=by
 simp only [putRow,mapBlock,Array.getElem?_modify];by_cases hb:b'=b
 ·subst hb;rw [if_pos rfl,if_pos rfl];show Option.map _ (w.heap[b']?)=_;rw [c1];rfl
 ·rw [if_neg (fun h=>hb h.symm),if_neg hb];rfl
def srtI (xs:List Int):List Int:=xs.mergeSort fun x y=>decide (x<=y)
theorem sortI {P:Program} {ρ:Ren} (L:Lays.n189 P ρ) (T:Nat) (xs:List Int) (hn:xs.length < 4611686018427387904):
  CtG P (ρ.f 189) [(1,⟨T,1,false,rV tI xs⟩)] [.own (.sl 1 1 0 xs.length)] (.val (tE (.tuple #[]))) [(1,⟨T,1,false,rV tI (srtI xs)⟩)] []:=by
 intro F w η vs hS hA hI hF
 match vs,hS with
 | [v0],hS=>
 obtain ⟨⟨A,rfl,hle,hadr⟩,_⟩:=hS;obtain ⟨k1,k2,k3,k4,k5⟩:=hA (1,⟨T,1,false,rV tI xs⟩) (by simp);have k1:(rV tI xs).length<=η.c 1:=k1;have k4:η.c 1<=9223372036854775807:=k4;rw [xd2] at k1;have hlen:(srtI xs).length=xs.length:=List.length_mergeSort ..;by_cases h0:xs.length=0
 ·have hx:xs=[]:=zcw.1 h0;subst hx;have e0:srtI ([]:List Int)=[]:=zcw.1 hlen;rw [e0];refine (Any.slices_Sort_int_none L A (η.c 1 - 0) w).mono ?_;rintro e w' ⟨rfl,rfl⟩;refine ⟨_,η,rfl,⟨Stp.refl _ _,fun _ _=>⟨rfl,rfl⟩,rfl,fun x hx=> ?_,hI,fun b hb=> .inl hb⟩⟩;simp only [zbj] at hx;subst hx;refine ⟨by simp [rV],k2,k3,k4,fun hc=> ?_⟩;obtain ⟨cs,c1,c2,_⟩:=k5 hc;exact ⟨cs,c1,c2,fun i e hi=>by simp [rV] at hi⟩
 ·have hc0:0 < η.c 1:=by omega
  obtain ⟨cs,c1,c2,c3⟩:=k5 hc0;have c1:w.heap[η.b 1]? =some (.cells cs T (0,0)):=c1;have c2:cs.size=η.c 1*1:=c2;rw [zee] at c2;have hA':=hadr hc0;rw [zdz] at hA';subst hA';have hblk:η.b 1 < w.heap.size:=xa7 c1;have c3': ∀(i:Nat) (h:i < xs.length),cs[i]? =some (.int .i64 xs[i]):=fun i hi=>by
   have h3:=c3 i (.val (tI xs[i])) (by show (rV tI xs)[i]? =_;rw [rV,zbu,zbi hi];rfl);have h3:cs.getD (i*1) undef= .int .i64 xs[i]:=h3;rw [zee,zbk,zcr (show i < cs.size by omega)] at h3;rw [zcr (show i < cs.size by omega)];exact congrArg some h3
  refine (Any.slices_Sort_int L (η.b 1) 0 (η.c 1 - 0) xs w (zz0 c1 c3') hblk hn).mono ?_;rintro e w' ⟨rfl,m,os,rfl⟩;refine ⟨_,η,rfl,?_⟩;refine qq4 (zs:=(srtI xs).toArray) hc0 k4 c1 c2 (by simp [hlen];omega) hI rfl rfl rfl ?_ (fun b' hb'=> ?_) (by simp) (fun i hi=> ?_) (fun F=>rfl)
  ·show w.heap.size<=(grow (putRow (Value.int .i64) (Sort.ahead w m) (η.b 1) 0 (srtI xs).toArray) os).heap.size;simp [grow,putRow,mapBlock,Sort.ahead]
  ·show (grow (putRow (Value.int .i64) (Sort.ahead w m) (η.b 1) 0 (srtI xs).toArray) os).heap[b']? =_;rw [heap_grow_old _ _ (by simp [putRow,mapBlock,Sort.ahead];exact hb')];exact qb4 c1 b'
  ·rw [zfm _ _ (by simpa using hi)];simp
theorem zc0 (d:Array Int): ∀m,(Lib.compactUpTo d m).length<=m
 | 0=>zbs _
 | m+1=>by
  rw [Lib.compactUpTo_succ,zbp];have:=zc0 d m;split <;> simp <;> omega
theorem zv4 (xs:List Int):(Lib.compact xs).length<=xs.length:=zc0 _ _
theorem compactI {P:Program} {ρ:Ren} (L:Lays2.n20 P ρ) (T:Nat) (xs:List Int):
  CtG P (ρ.f 20) [(1,⟨T,1,false,rV tI xs⟩)] [.own (.sl 1 1 0 xs.length)] (.own (.sl 1 1 0 (Lib.compact xs).length)) [(1,⟨T,1,false,rV tI (Lib.compact xs)⟩)] []:=by
 intro F w η vs hS hA hI hF
 match vs,hS with
 | [v0],hS=>
 obtain ⟨⟨A,rfl,hle,hadr⟩,_⟩:=hS;obtain ⟨k1,k2,k3,k4,k5⟩:=hA (1,⟨T,1,false,rV tI xs⟩) (by simp);have k1:(rV tI xs).length<=η.c 1:=k1;have k4:η.c 1<=9223372036854775807:=k4;rw [xd2] at k1;have hlen:(Lib.compact xs).length<=xs.length:=zv4 xs;by_cases h0:xs.length=0
 ·have hx:xs=[]:=zcw.1 h0;subst hx;have e0:Lib.compact ([]:List Int)=[]:=rfl;rw [e0];refine (Any.slices_Compact_int_empty L A (η.c 1 - 0) w).mono ?_;rintro e w' ⟨rfl,rfl⟩;refine ⟨_,η,rfl,⟨Stp.refl _ _,fun _ _=>⟨rfl,rfl⟩,⟨A,rfl,hle,hadr⟩,fun x hx=> ?_,hI,fun b hb=> .inl hb⟩⟩;simp only [zbj] at hx;subst hx;refine ⟨by simp [rV],k2,k3,k4,fun hc=> ?_⟩;obtain ⟨cs,c1,c2,_⟩:=k5 hc;exact ⟨cs,c1,c2,fun i e hi=>by simp [rV] at hi⟩
 ·have hc0:0 < η.c 1:=by omega
  obtain ⟨cs,c1,c2,c3⟩:=k5 hc0;have c1:w.heap[η.b 1]? =some (.cells cs T (0,0)):=c1;have c2:cs.size=η.c 1*1:=c2;rw [zee] at c2;have hA':=hadr hc0;rw [zdz] at hA';subst hA';have c3': ∀(i:Nat) (h:i < xs.length),cs[i]? =some (.int .i64 xs[i]):=fun i hi=>by
   have h3:=c3 i (.val (tI xs[i])) (by show (rV tI xs)[i]? =_;rw [rV,zbu,zbi hi];rfl);have h3:cs.getD (i*1) undef= .int .i64 xs[i]:=h3;rw [zee,zbk,zcr (show i < cs.size by omega)] at h3;rw [zcr (show i < cs.size by omega)];exact congrArg some h3
  refine (Any.slices_Compact_int L (η.b 1) 0 (η.c 1 - 0) xs w (zz0 c1 c3') (by omega) (by omega)).mono ?_;rintro e w' ⟨rfl,q,rfl⟩;refine ⟨_,η,rfl,?_⟩;refine qq4 (zs:=(Lib.compact xs++List.replicate (xs.length - (Lib.compact xs).length) 0).toArray) hc0 k4 c1 c2 (by simp;omega) hI rfl rfl rfl ?_ (fun b' hb'=>qb4 c1 b') (by simp) (fun i hi=> ?_) (fun F=>⟨_,rfl,by omega,fun _=>by rw [zdz]⟩)
  ·simp [putRow,mapBlock,Sort.ahead]
  ·rw [zfm _ _ (by simp;omega)];simp [List.getElem_append_left hi]
def brd (xs:List Int):List Int:=Lib.compact (srtI xs)
theorem qk0 {d:Array Int} (hd: ∀i j,i < j->j < d.size->d[i]! <=d[j]!): ∀m,m<=d.size->(Lib.compactUpTo d m).Pairwise (· < ·)/\ ∀x,x∈Lib.compactUpTo d m↔ ∃i,i < m/\d[i]! =x
 | 0,_=>⟨List.Pairwise.nil,fun x=>⟨fun h=>(zdm h).elim,fun ⟨i,hi,_⟩=>absurd hi (Nat.not_lt_zero _)⟩⟩
 | m+1,hm=>by
  obtain ⟨h1,h2⟩:=qk0 hd m (by omega);rw [Lib.compactUpTo_succ];by_cases hk:Lib.keeps d m=true
  ·rw [if_pos hk];have hk':m=0∨d[m]! ≠d[m - 1]! :=zes hk;refine ⟨zga.2 ⟨h1,zge _ _,fun x hx y hy=> ?_⟩,fun x=> ?_⟩
   ·rw [zbj.1 hy];obtain ⟨i,hi,rfl⟩:=(h2 x).1 hx;have hm0:m≠0:=by omega
    have h3:=hk'.resolve_left hm0;have h4:=hd (m - 1) m (by omega) (by omega);have h5:d[i]! <=d[m - 1]! :=by
     rcases zcx i (m - 1) with h | h
     ·exact hd i (m - 1) h (by omega)
     ·rw [show i=m - 1 by omega];exact zfp _
    omega
   ·rw [zbo,zbj,h2];constructor
    ·rintro (⟨i,hi,e⟩ | rfl)
     ·exact ⟨i,by omega,e⟩
     ·exact ⟨m,by omega,rfl⟩
    ·rintro ⟨i,hi,e⟩;rcases zcx i m with h | h
     ·exact .inl ⟨i,h,e⟩
     ·exact .inr (by rw [<-e,show i=m by omega])
  ·rw [if_neg hk,zgu];have hk': ¬(m=0∨d[m]! ≠d[m - 1]!):=fun h=>hk (zbg h);refine ⟨h1,fun x=> ?_⟩;rw [h2];constructor
   ·rintro ⟨i,hi,e⟩;exact ⟨i,by omega,e⟩
   ·rintro ⟨i,hi,e⟩;rcases zcx i m with h | h
    ·exact ⟨i,h,e⟩
    ·have hm0:m≠0:=fun h=>hk' (.inl h);have he:d[m]! =d[m - 1]! :=Decidable.byContradiction fun h=>hk' (.inr h);exact ⟨m - 1,by omega,by rw [<-he,<-e,show i=m by omega]⟩
theorem yk8 (xs:List Int):(brd xs).Pairwise (· < ·)/\ ∀x,x∈brd xs↔x∈xs:=by
 have hs:(srtI xs).Pairwise fun x y=>decide (x<=y)=true:=List.pairwise_mergeSort (fun a b c h1 h2=>by simp at*;omega) (fun a b=>by simp;omega) xs;have hp:(srtI xs).Perm xs:=List.mergeSort_perm ..;have h:=qk0 (d:=(srtI xs).toArray) (fun i j hij hj=>by
  have hj:j < (srtI xs).length:=by simpa using hj
  have:=zfi.1 hs i j (by omega) hj hij;rw [zfm _ _ (by simp;omega),zfm _ _ (by simpa using hj)];simpa using this) (srtI xs).length (by simp)
 refine ⟨h.1,fun x=>(h.2 x).trans ⟨fun ⟨i,hi,e⟩=> ?_,fun hx=> ?_⟩⟩
 ·rw [zfm _ _ (by simpa using hi)] at e;rw [<-hp.mem_iff,<-e];simp
 ·obtain ⟨i,hi,e⟩:=List.getElem_of_mem (hp.mem_iff.2 hx);exact ⟨i,hi,by rw [zfm _ _ (by simpa using hi)];simpa using e⟩
theorem wa7 (xs:List Int):(brd xs).length<=xs.length:=by
 have:=zv4 (srtI xs);rw [srtI,List.length_mergeSort] at this;exact this
end An
namespace An.S
open Go
def onL (l:List Tst) (d:Int):List Tst:=l.dropWhile fun s=>decide (s.hi<=d)
def onV (l:List Tst) (d:Int):Option Va:=if 0 < (onL l d).length/\((onL l d).getD 0 tst0).lo<=d then some ((onL l d).getD 0 tst0).v else none
theorem ju8 {xs:List Tst} {d:Int} (h:0 < xs.length) (h1:(xs.getD 0 tst0).hi<=d):onL (xs.drop 1) d=onL xs d:=by
 cases xs with
 | nil=>simp at h
 | cons s r=>
  have h1:s.hi<=d:=h1;rw [onL,onL,List.dropWhile_cons_of_pos (by simpa using h1)];rfl
theorem qp8 {xs:List Tst} {d:Int} (h: ¬(0 < xs.length/\(xs.getD 0 tst0).hi<=d)):onL xs d=xs:=by
 cases xs with
 | nil=>rfl
 | cons s r=>
  have h1: ¬s.hi<=d:=fun h'=>h ⟨by simp,h'⟩;rw [onL,List.dropWhile_cons_of_neg (by simpa using h1)]
theorem qo3 {l:List Tst} {d:Int}:(onL l d).length<=l.length:=(List.dropWhile_sublist _).length_le
theorem zh9 {l:List Tst} {d:Int} (h:ascT l):ascT (onL l d):=⟨fun s hs=>h.1 s ((List.dropWhile_sublist _).subset hs),h.2.sublist (List.dropWhile_sublist _)⟩
theorem yt7 {d:Int}: ∀{l:List Tst},∀e,d<=e->valT (onL l d) e=valT l e
 | [],_,_=>rfl
 | s::r,e,h=>by
  by_cases h1:s.hi<=d
  ·have:onL (s::r) d=onL r d:=by rw [onL,List.dropWhile_cons_of_pos (by simpa using h1)];rfl
   rw [this,yt7 e h,xg1,if_neg (by omega)]
  ·have:onL (s::r) d=s::r:=by rw [onL,List.dropWhile_cons_of_neg (by simpa using h1)]
   rw [this]
theorem zi0 {l:List Tst} {d:Int} (h:ascT l):onV l d=valT l d:=by
 rw [<-yt7 d (zfp _),onV];have hd:0 < (onL l d).length->d < ((onL l d).getD 0 tst0).hi:=fun h0=>by
  clear h
  induction l with
  | nil=>simp [onL] at h0
  | cons s r ih=>
   by_cases h1:s.hi<=d
   ·have:onL (s::r) d=onL r d:=by rw [onL,List.dropWhile_cons_of_pos (by simpa using h1)];rfl
    rw [this] at h0 ⊢;exact ih h0
   ·have:onL (s::r) d=s::r:=by rw [onL,List.dropWhile_cons_of_neg (by simpa using h1)]
    rw [this];show d < s.hi;omega
 have ha:=zh9 (d:=d) h;generalize onL l d=xs at*
 cases xs with
 | nil=>rfl
 | cons s r=>
  have h1:d < s.hi:=hd (by simp);rw [xg1];by_cases h2:s.lo<=d
  ·rw [if_pos ⟨by simp,h2⟩,if_pos ⟨h2,h1⟩];rfl
  ·rw [if_neg (fun h=>h2 h.2),if_neg (fun h=>h2 h.1)];symm;refine yc3.2 fun t ht h=> ?_;have:=(zcv.1 ha.2).1 t ht;omega
def eds (l:List Tst):List Int:=l.flatMap fun s=>[s.lo,s.hi]
def bds (ls:List (List Tst)):List Int:=brd (ls.flatMap eds)
theorem jt3 {l:List Tst} {x:Int}:x∈eds l↔ ∃s∈l,x=s.lo∨x=s.hi:=by
 simp [eds,List.mem_flatMap]
theorem zj5 {l:List Tst}:(eds l).length=2*l.length:=by
 induction l with
 | nil=>rfl
 | cons s r ih=>rw [eds,zex,zbp,<-eds,ih];simp;omega
theorem qa6 {l:List Tst} {i:Nat} (hi:i < l.length):eds (l.take (i+1))=eds (l.take i)++[(l.getD i tst0).lo,(l.getD i tst0).hi]:=by
 rw [zby hi,eds,zeu,zbh,zbi hi];simp [eds]
theorem zk5 {ls:List (List Tst)} {i:Nat} (hi:i < ls.length):(ls.take (i+1)).flatMap eds=(ls.take i).flatMap eds++eds (ls.getD i []):=by
 rw [zby hi,zeu,zbh,zbi hi];simp
def tlen (ls:List (List Tst)):Nat:=(ls.map List.length).sum
theorem yg9: ∀{ls:List (List Tst)},(ls.flatMap eds).length=2*tlen ls
 | []=>rfl
 | l::r=>by rw [zex,zbp,zj5,yg9 (ls:=r)];simp [tlen];omega
theorem yc8 {ls:List (List Tst)}:(bds ls).length<=2*tlen ls:=by rw [<-yg9];exact wa7 _
theorem xr9 {ls:List (List Tst)}:(bds ls).Pairwise (· < ·):=(yk8 _).1
theorem ys8 {ls:List (List Tst)} {x:Int}:x∈bds ls↔ ∃l∈ls,∃s∈l,x=s.lo∨x=s.hi:=by
 rw [bds,(yk8 _).2,zbz];simp only [jt3]
theorem yj8 {ls:List (List Tst)} {l:List Tst} (h:l∈ls):ends (bds ls) l:=fun s hs=>⟨ys8.2 ⟨l,h,s,hs,.inl rfl⟩,ys8.2 ⟨l,h,s,hs,.inr rfl⟩⟩
theorem pw_lt {ds:List Int} (h:ds.Pairwise (· < ·)) {i j:Nat} (hij:i < j) (hj:j < ds.length):ds.getD i 0 < ds.getD j 0:=by
 have:=zfi.1 h i j (by omega) hj hij
 rwa [zbh,zbh,zbi (show i < ds.length by omega),zbi hj]
def segI (g:Int->Option Va) (ds:List Int) (i:Nat):List Tst:=match g (ds.getD i 0) with
 | some v=>[⟨ds.getD i 0,ds.getD (i+1) 0,v⟩]
 | none=>[]
def segN (g:Int->Option Va) (ds:List Int) (k:Nat):List Tst:=(List.range k).flatMap (segI g ds)
theorem xu3 {g:Int->Option Va} {ds:List Int} {k:Nat}:segN g ds (k+1)=segN g ds k++segI g ds k:=by
 rw [segN,List.range_succ,zeu];simp [segN]
theorem q8 {g:Int->Option Va}: ∀ds:List Int,segL g ds=segN g ds (ds.length - 1)
 | []=>rfl
 | [x]=>rfl
 | x::y::r=>by
  have e: ∀i,segI g (x::y::r) (i+1)=segI g (y::r) i:=fun i=>rfl;have e0:segI g (x::y::r) 0=(match g x with | some v=>[⟨x,y,v⟩] | none=>[]):=rfl;have h:(x::y::r).length - 1=r.length+1:=by simp
  have e1:segN g (x::y::r) (r.length+1)=segI g (x::y::r) 0++segN g (y::r) r.length:=by
   rw [segN,List.range_succ_eq_map,zex,List.flatMap_map];rfl
  rw [segL,q8 (y::r),h,e1,e0];rfl
theorem qg4 (acc xs ys:List Tst):pst acc (xs++ys)=pst (pst acc xs) ys:=by rw [pst,pst,pst,zft]
def jnK (a b:List Tst) (k:Nat):List Tst:=pst [] (segN (jnG a b) (bds [a,b]) k)
def jnT (a b:List Tst):List Tst:=pst [] (segL (jnG a b) (bds [a,b]))
theorem qh4 (a b:List Tst):jnK a b ((bds [a,b]).length - 1)=jnT a b:=by rw [jnK,jnT,q8]
theorem jp2 {a b:List Tst} {k:Nat} (h:jnG a b ((bds [a,b]).getD k 0)=none):jnK a b (k+1)=jnK a b k:=by
 rw [jnK,xu3,segI,h,zgu];rfl
theorem zw4 {a b:List Tst} {k:Nat} {v:Va} (h:jnG a b ((bds [a,b]).getD k 0)=some v):jnK a b (k+1)=pst (jnK a b k) [⟨(bds [a,b]).getD k 0,(bds [a,b]).getD (k+1) 0,v⟩]:=by
 rw [jnK,xu3,segI,h,qg4];rfl
theorem qd0 {g:Int->Option Va} {ds:List Int}: ∀k,(segN g ds k).length<=k
 | 0=>zbs _
 | k+1=>by
  rw [xu3,zbp];have:=qd0 (g:=g) (ds:=ds) k;have h:(segI g ds k).length<=1:=by rw [segI];split <;> simp
  omega
theorem qh0 {a b:List Tst} {k:Nat}:(jnK a b k).length<=k:=by
 have h:=yd1 (segN (jnG a b) (bds [a,b]) k) [];have:=qd0 (g:=jnG a b) (ds:=bds [a,b]) k;rw [jnK];simp at h;omega
def dfB (a b:List Tst) (d:Int):Bool:=decide (valT a d≠valT b d)
def dfI (a b:List Tst) (i:Nat):List Sn:=if dfB a b ((bds [a,b]).getD i 0) then [⟨(bds [a,b]).getD i 0,(bds [a,b]).getD (i+1) 0⟩] else []
def dfK (a b:List Tst) (k:Nat):List Sn:=(List.range k).flatMap (dfI a b)
theorem yz7 {a b:List Tst} {k:Nat}:dfK a b (k+1)=dfK a b k++dfI a b k:=by
 rw [dfK,List.range_succ,zeu];simp [dfK]
def dfT (a b:List Tst):List Sn:=dfK a b ((bds [a,b]).length - 1)
def ogI (a b:List Tst) (xa xb:List Tst) (d:Int):Prop:=(ascT xa/\xa.length<=a.length/\ ∀e,d<=e->valT xa e=valT a e)/\ascT xb/\xb.length<=b.length/\ ∀e,d<=e->valT xb e=valT b e
theorem ogI.next {a b xa xb:List Tst} {d e:Int} (h:ogI a b xa xb d) (hde:d<=e):onV xa e=valT a e/\onV xb e=valT b e/\ogI a b (onL xa e) (onL xb e) e:=by
 obtain ⟨⟨h1,h2,h3⟩,h4,h5,h6⟩:=h;refine ⟨(zi0 h1).trans (h3 e hde),(zi0 h4).trans (h6 e hde),⟨zh9 h1,zcj qo3 h2,fun x hx=>(yt7 x hx).trans (h3 x (Int.le_trans hde hx))⟩,zh9 h4,zcj qo3 h5,fun x hx=>(yt7 x hx).trans (h6 x (Int.le_trans hde hx))⟩
theorem ogI.zero {a b:List Tst} (ha:ascT a) (hb:ascT b) (d:Int):ogI a b a b d:=⟨⟨ha,zbs _,fun _ _=>rfl⟩,hb,zbs _,fun _ _=>rfl⟩
end An.S
namespace An
open Go
section
variable {P:Program} {c:Base}
theorem qn8 {D:Nat->Bool} {n:Nat} (h: ∀j,n<=j->D j=false): ∀m,m - n<=left D m
 | 0=>by simp [left]
 | m+1=>by
  have ih:=qn8 h m;simp only [left];rcases zcx m n with h1 | h1
  ·omega
  ·rw [h m h1];simp only [zen];omega
theorem wc8 {ops:List Oper} {Es:List Eff} {n:Nat} {g0:Slots} {h0:Keys} {al0:Nat->Bool} {Q:Exit->Act->World->Prop} (hn:n<=ops.length) (hlen:n=Es.length)
  (hD: ∀(i:Nat) (o:Oper) (E:Eff),ops[i]? =some o->Es[i]? =some E->DoesR P c ops.toArray o E)
  (hpre: ∀(i:Nat) (E:Eff),Es[i]? =some E->E.PreL (runC (fun j=>decide (j < i)) 0 (Es.map Eff.cg) g0) (runC (fun j=>decide (j < i)) 0 (Es.map Eff.ch) h0) (runC (fun j=>decide (j < i)) 0 (Es.map Eff.ca) al0))
  (hgo:goAll (masks ops #[]) [] (Es.map Eff.sm)=true) (hd:dOk c.N (Es.map Eff.sm)=true) (hnk:nkOk (Es.map Eff.sm) []=true) (hed:edgesOk 0 ops=true)
  (hrest: ∀i,n<=i->i < ops.length-> ∀j,j < i->((masks ops #[]).getD i 0).testBit j=true)
  (hQ: ∀(fuel:Nat) (listed:Array Bool) (a:Act) (w:World),listed.size=ops.length->Closed ops (fun i=>listed.getD i false)->(∀j,listed.getD j false=decide (j < n))->ops.length - n<=fuel->
   St c (runC (fun _=>true) 0 (Es.map Eff.cg) g0) (runC (fun _=>true) 0 (Es.map Eff.ch) h0) (runC (fun _=>true) 0 (Es.map Eff.ca) al0) a w->wpAnyIn (fc c.ro) 0 P .any ops.toArray Q fuel listed a w):
  ∀(fuel:Nat) (listed:Array Bool) (a:Act) (w:World),listed.size=ops.length->Closed ops (fun i=>listed.getD i false)->(∀j,n<=j->listed.getD j false=false)->
   left (fun i=>listed.getD i false) ops.length<=fuel->
   St c (runC (fun i=>listed.getD i false) 0 (Es.map Eff.cg) g0) (runC (fun i=>listed.getD i false) 0 (Es.map Eff.ch) h0) (runC (fun i=>listed.getD i false) 0 (Es.map Eff.ca) al0) a w->
   wpAnyIn (fc c.ro) 0 P .any ops.toArray Q fuel listed a w:=by
 have hsm: ∀(i:Nat) (E:Eff),Es[i]? =some E->(Es.map Eff.sm)[i]? =some E.sm:=fun i E h=>by rw [zbu,h];rfl
 have hpair: ∀(i j:Nat) (E E':Eff),i < j->Es[i]? =some E->Es[j]? =some E'->((masks ops #[]).getD j 0).testBit i=true∨Indep E.sm E'.sm:=fun i j E E' hij hi hj=>
  yn7 (Es.map Eff.sm) [] hgo i j _ _ hij (zbq _) (by simpa using hsm i E hi) (by simpa using hsm j E' hj)
 have hmask: ∀D,Closed ops D-> ∀i j,((masks ops #[]).getD i 0).testBit j=true->(∀o,ops[i]? =some o-> ∀e∈o.after.toList,Region.binds .any e=true->D e.on=true)->D j=true:=by
  intro D hcl i j hj hi;rw [zbk] at hj;cases hm:(masks ops #[])[i]? with
  | none=>rw [hm] at hj;simp at hj
  | some m=>rw [hm] at hj;exact xu2 (ops:=ops) ops #[] (by simp) (by simp) D hcl i m hm hi j hj
 have hmaskD: ∀D,Closed ops D-> ∀i j,((masks ops #[]).getD i 0).testBit j=true->D i=true->D j=true:=fun D hcl i j hj hi=>hmask D hcl i j hj fun o ho=>hcl i o ho hi;have hall: ∀(fuel:Nat) (listed:Array Bool) (a:Act) (w:World),listed.size=ops.length->Closed ops (fun i=>listed.getD i false)->(∀j,n<=j->listed.getD j false=false)->left (fun i=>listed.getD i false) ops.length<=fuel->
   St c (runC (fun i=>listed.getD i false) 0 (Es.map Eff.cg) g0) (runC (fun i=>listed.getD i false) 0 (Es.map Eff.ch) h0) (runC (fun i=>listed.getD i false) 0 (Es.map Eff.ca) al0) a w->
   (∀j,j < n->listed.getD j false=true)->wpAnyIn (fc c.ro) 0 P .any ops.toArray Q fuel listed a w:=by
  intro fuel listed a w hsz hcl hno hleft hs hall;have hcong: ∀{β:Type} (l:List (Chg β)) (f:Nat->β),l.length=n->runC (fun i=>listed.getD i false) 0 l f=runC (fun _=>true) 0 l f:=fun l f hl=>by
   funext s;refine xg6 l 0 f f rfl fun j C hj _=> ?_;rw [zcm];exact hall j (by have:=(zbn.1 hj).1;omega)
  rw [hcong _ _ (by simp [hlen]),hcong _ _ (by simp [hlen]),hcong _ _ (by simp [hlen])] at hs;have hge:=qn8 (D:=fun i=>listed.getD i false) hno ops.length;refine hQ fuel listed a w hsz hcl (fun j=> ?_) (by omega) hs;rcases zcx j n with h1 | h1
  ·rw [hall j h1,zbg h1]
  ·rw [hno j h1,zbf (by omega)]
 have hsome: ∀(listed:Array Bool),listed.size=ops.length-> ¬(∀j,j < n->listed.getD j false=true)->Region.ready .any ops.toArray listed≠[]:=by
  intro listed hsz hnall hr;refine hnall fun i=> ?_
  induction i using Nat.strongRecOn with
  | _ i ih=>
   intro hi;cases hl:listed.getD i false with
   | true=>rfl
   | false=>
    exfalso;have:i∈Region.ready .any ops.toArray listed:=by
     rw [mem_ready];refine ⟨?_,ops[i],by simp [show i < ops.length by omega],fun e he hb=> ?_⟩
     ·rw [zbk] at hl ⊢;rw [zcr (by omega)] at hl ⊢;simpa using hl
     ·have hon:=xr0 ops 0 hed i ops[i] (zbi (by omega)) e (by simpa using he) hb;exact ih e.on (by omega) (by omega)
    rw [hr] at this;cases this
 intro fuel
 induction fuel with
 | zero=>
  intro listed a w hsz hcl hno hleft hs;refine hall 0 listed a w hsz hcl hno hleft hs fun j hj=> ?_;exact yq0 (D:=fun i=>listed.getD i false) ops.length (by omega) j (by omega)
 | succ fuel ih=>
  intro listed a w hsz hcl hno hleft hs;by_cases hal: ∀j,j < n->listed.getD j false=true
  ·exact hall _ listed a w hsz hcl hno hleft hs hal
  refine ⟨fun hr=>absurd hr (hsome listed hsz hal),fun i hi=> ?_⟩;have hin:i < n:=by
   rw [mem_ready] at hi;obtain ⟨h1,o,ho,hedge⟩:=hi;have hlt:i < ops.length:=by
    have:=(zfa.1 ho).1;simpa using this
   refine Decidable.byContradiction fun hge=>hal fun j hj=> ?_;exact hmask _ hcl i j (hrest i (by omega) hlt j (by omega)) fun o' ho'' e he hbd=>by
    have ho3:ops[i]? =some o:=by simpa using ho
    rw [ho3] at ho'';cases ho'';exact hedge e (by simpa using he) hbd
  rw [mem_ready] at hi;obtain ⟨h1,o,ho,hedge⟩:=hi;have hlt:i < ops.length:=by
   have:=(zfa.1 ho).1;simpa using this
  have ho':ops[i]? =some o:=by simpa using ho
  have hEi:Es[i]? =some (Es[i]'(by omega)):=zbi (by omega);generalize hE:Es[i]'(by omega)=E at hEi;have hDi:listed.getD i false=false:=by
   rw [zbk,zcr (by omega)] at h1 ⊢;simpa using h1
  have hahead: ∀j E',Es[j]? =some E'->j≠i-> ¬Indep E'.sm E.sm-> ¬Indep E.sm E'.sm->listed.getD j false=decide (j < i):=by
   intro j E' hj hji hn1 hn2;rcases zcx j i with hlt' | hge
   ·rw [zbg hlt'];rcases hpair j i E' E hlt' hj hEi with hb | hb
    ·exact hmask _ hcl i j hb fun o' ho'' e he hbd=>by
      rw [ho'] at ho'';cases ho'';exact hedge e (by simpa using he) hbd
    ·exact absurd hb hn1
   ·rw [zbf (by omega)];rcases hpair i j E E' (by omega) hEi hj with hb | hb
    ·cases hd':listed.getD j false with
     | false=>rfl
     | true=>
      have this:listed.getD i false=true:=hmaskD _ hcl j i hb hd';rw [hDi] at this;cases this
    ·exact absurd hb hn2
  have hp0:=hpre i E hEi;have hpD:E.Pre c (runC (fun i=>listed.getD i false) 0 (Es.map Eff.cg) g0) (runC (fun i=>listed.getD i false) 0 (Es.map Eff.ch) h0) (runC (fun i=>listed.getD i false) 0 (Es.map Eff.ca) al0):=by
   refine ⟨Rd.congr (fun s hs=> ?_) hp0.rd,Kr.congr (fun s hs=> ?_) hp0.kr,Nk.congr (fun s hs=> ?_) hp0.nk,fun x hx=> ?_⟩
   ·refine xg6 _ 0 _ _ rfl fun j C hj hsome=> ?_;rw [zbu] at hj;cases hj':Es[j]? with
    | none=>rw [hj'] at hj;cases hj
    | some E'=>
     rw [hj'] at hj;cases hj;have hw:=Eff.cg_some.1 hsome;rw [zcm];by_cases hji:j=i
     ·subst hji;rw [zbf (by omega)];exact hDi.symm
     ·exact (hahead j E' hj' hji (fun hI=>hI.h1 s hw hs) (fun hI=>hI.h3 s hw hs)).symm
   ·refine xg6 _ 0 _ _ rfl fun j C hj hsome=> ?_;rw [zbu] at hj;cases hj':Es[j]? with
    | none=>rw [hj'] at hj;cases hj
    | some E'=>
     rw [hj'] at hj;cases hj;have hw:=Eff.ch_some.1 hsome;rw [zcm];by_cases hji:j=i
     ·subst hji;rw [zbf (by omega)];exact hDi.symm
     ·exact (hahead j E' hj' hji (fun hI=>hI.h4 s hw hs) (fun hI=>hI.h6 s hw hs)).symm
   ·refine xg6 _ 0 _ _ rfl fun j C hj hsome=> ?_;rw [zbu] at hj;cases hj':Es[j]? with
    | none=>rw [hj'] at hj;cases hj
    | some E'=>
     rw [hj'] at hj;cases hj;rw [zcm];by_cases hji:j=i
     ·subst hji;rw [zbf (by omega)];exact hDi.symm
     ·exfalso;have hm:s∈E'.nk:=Eff.ca_mem hsome;have hs':s∈E.sm.nk:=hs;rcases zcx j i with hlt' | hge
      ·exact (xn6 hnk).2 j i _ _ hlt' (hsm j E' hj') (hsm i E hEi) s hm hs'
      ·exact (xn6 hnk).2 i j _ _ (by omega) (hsm i E hEi) (hsm j E' hj') s hs' hm
   ·exact ym1 hd i _ (hsm i E hEi) x.1 (by simp [Eff.sm,hx])
  have hD': ∀j,j≠i->(listed.setIfInBounds i true).getD j false=listed.getD j false:=fun j hj=>Go.getD_set_ne false (fun h=>hj h.symm);have hi':(listed.setIfInBounds i true).getD i false=true:=by
   rw [zbk];simp [hsz,hlt]
  have hg':E.g (runC (fun i=>listed.getD i false) 0 (Es.map Eff.cg) g0)=runC (fun j=>(listed.setIfInBounds i true).getD j false) 0 (Es.map Eff.cg) g0:=by
   rw [<-Eff.cg_run];refine xr5 (D':=fun j=>(listed.setIfInBounds i true).getD j false) (i:=i) (by rw [zbu,hEi];rfl) hD' hi' (fun j C' hj hij s h1 h2=> ?_) _;rw [zbu] at hj;cases hj':Es[j]? with
   | none=>rw [hj'] at hj;cases hj
   | some E'=>
    rw [hj'] at hj;cases hj;have:=hahead j E' hj' (by omega) (fun hI=>hI.h2 s (Eff.cg_some.1 h2) (Eff.cg_some.1 h1)) (fun hI=>hI.h2 s (Eff.cg_some.1 h1) (Eff.cg_some.1 h2));rw [this,zbf (by omega)]
  have hh':E.h (runC (fun i=>listed.getD i false) 0 (Es.map Eff.ch) h0)=runC (fun j=>(listed.setIfInBounds i true).getD j false) 0 (Es.map Eff.ch) h0:=by
   rw [<-Eff.ch_run];refine xr5 (D':=fun j=>(listed.setIfInBounds i true).getD j false) (i:=i) (by rw [zbu,hEi];rfl) hD' hi' (fun j C' hj hij s h1 h2=> ?_) _;rw [zbu] at hj;cases hj':Es[j]? with
   | none=>rw [hj'] at hj;cases hj
   | some E'=>
    rw [hj'] at hj;cases hj;have:=hahead j E' hj' (by omega) (fun hI=>hI.h5 s (Eff.ch_some.1 h2) (Eff.ch_some.1 h1)) (fun hI=>hI.h5 s (Eff.ch_some.1 h1) (Eff.ch_some.1 h2));rw [this,zbf (by omega)]
  have ha':E.al (runC (fun i=>listed.getD i false) 0 (Es.map Eff.ca) al0)=runC (fun j=>(listed.setIfInBounds i true).getD j false) 0 (Es.map Eff.ca) al0:=by
   rw [<-Eff.ca_run];refine xr5 (D':=fun j=>(listed.setIfInBounds i true).getD j false) (i:=i) (by rw [zbu,hEi];rfl) hD' hi' (fun j C' hj hij s h1 h2=> ?_) _;rw [zbu] at hj;cases hj':Es[j]? with
   | none=>rw [hj'] at hj;cases hj
   | some E'=>
    rw [hj'] at hj;cases hj;exfalso;exact (xn6 hnk).2 i j _ _ hij (hsm i E hEi) (hsm j E' hj') s (Eff.ca_mem h1) (Eff.ca_mem h2)
  have hcl':Closed ops (fun j=>(listed.setIfInBounds i true).getD j false):=by
   intro j o' hj hDj e he hb;by_cases hji:j=i
   ·subst hji;rw [ho'] at hj;cases hj;exact getD_set_true (hedge e (by simpa using he) hb)
   ·simp only [hD' j hji] at hDj;exact getD_set_true (hcl j o' hj hDj e he hb)
  have hleft':left (fun j=>(listed.setIfInBounds i true).getD j false) ops.length<=fuel:=by
   have:=yz4 (D:=fun j=>listed.getD j false) (D':=fun j=>(listed.setIfInBounds i true).getD j false) (i:=i) hD' hi' hDi ops.length hlt;omega
  have hdo:=hD i o E ho' hEi _ _ _ a w hpD hs;have hgo': ∀a' w',St c (E.g (runC (fun i=>listed.getD i false) 0 (Es.map Eff.cg) g0)) (E.h (runC (fun i=>listed.getD i false) 0 (Es.map Eff.ch) h0)) (E.al (runC (fun i=>listed.getD i false) 0 (Es.map Eff.ca) al0)) a' w'->
    wpAnyIn (fc c.ro) 0 P .any ops.toArray Q fuel (listed.setIfInBounds i true) a' w':=fun a' w' hs'=>by
   rw [hg',hh',ha'] at hs';exact ih _ a' w' (by simp [hsz]) hcl' (fun j hj=>by rw [hD' j (by omega)];exact hno j hj) hleft' hs'
  unfold wpOpIn;rw [ho];simp only;split
  ·rename_i hw;rw [if_pos hw] at hdo;exact Oper.wpIn_mono hgo' (zj2 hdo)
  ·rename_i hw;rw [if_neg hw] at hdo;exact ⟨fun _ _=>trivial,hgo' _ _ hdo⟩
theorem jp9 {ops:List Oper} {Q:Exit->Act->World->Prop} {n:Nat} (hed:edgesOk 0 ops=true) (hrest: ∀i,n<=i->i < ops.length-> ∀j,j < i->((masks ops #[]).getD i 0).testBit j=true):
  ∀(k m:Nat) (fuel:Nat) (listed:Array Bool) (a:Act) (w:World),n<=m->m+k=ops.length->listed.size=ops.length->Closed ops (fun i=>listed.getD i false)->(∀j,listed.getD j false=decide (j < m))->k<=fuel->
   wpListIn (fc c.ro) 0 P ops.toArray Q (ops.drop m) a w->wpAnyIn (fc c.ro) 0 P .any ops.toArray Q fuel listed a w:=by
 have hmask: ∀D,Closed ops D-> ∀i j,((masks ops #[]).getD i 0).testBit j=true->(∀o,ops[i]? =some o-> ∀e∈o.after.toList,Region.binds .any e=true->D e.on=true)->D j=true:=by
  intro D hcl i j hj hi;rw [zbk] at hj;cases hm:(masks ops #[])[i]? with
  | none=>rw [hm] at hj;simp at hj
  | some m=>rw [hm] at hj;exact xu2 (ops:=ops) ops #[] (by simp) (by simp) D hcl i m hm hi j hj
 intro k
 induction k with
 | zero=>
  intro m fuel listed a w hnm hmk hsz hcl hli hfu hw;have hnil:Region.ready .any ops.toArray listed=[]:=by
   cases hr:Region.ready .any ops.toArray listed with
   | nil=>rfl
   | cons i rs=>
    have hi:i∈Region.ready .any ops.toArray listed:=by rw [hr];simp
    rw [mem_ready] at hi;obtain ⟨h1,o,ho,_⟩:=hi;have hlt:i < ops.length:=by
     have:=(zfa.1 ho).1;simpa using this
    have this:=hli i;rw [zbg (by omega)] at this;rw [zbk,zcr (by omega)] at h1 this;simp at h1 this;rw [h1] at this;cases this
  rw [List.drop_of_length_le (by omega)] at hw;cases fuel with
  | zero=>exact ⟨hnil,hw⟩
  | succ f=>
   refine ⟨fun _=>hw,fun i hi=> ?_⟩;rw [hnil] at hi;cases hi
 | succ k ih=>
  intro m fuel listed a w hnm hmk hsz hcl hli hfu hw;have hlt:m < ops.length:=by omega
  have hmr:m∈Region.ready .any ops.toArray listed:=by
   rw [mem_ready];have hl:=hli m;rw [zbf (by omega)] at hl;refine ⟨?_,ops[m],by simp [hlt],fun e he hb=> ?_⟩
   ·rw [zbk] at hl ⊢;rw [zcr (by omega)] at hl ⊢;simpa using hl
   ·have hon:=xr0 ops 0 hed m ops[m] (zbi (by omega)) e (by simpa using he) hb;rw [hli,zbg (by omega)]
  cases fuel with
  | zero=>omega
  | succ f=>
   refine ⟨fun hr=>(by rw [hr] at hmr;cases hmr),fun i hi=> ?_⟩;rw [mem_ready] at hi;obtain ⟨h1,o,ho,hedge⟩:=hi;have hlt2:i < ops.length:=by
    have:=(zfa.1 ho).1;simpa using this
   have ho3:ops[i]? =some o:=by simpa using ho
   have him:i=m:=by
    have hge:m<=i:=Decidable.byContradiction fun hge=>by
     have this:=hli i;rw [zbg (by omega)] at this;rw [zbk,zcr (by omega)] at h1 this;simp at h1 this;rw [h1] at this;cases this
    refine Decidable.byContradiction fun hne=> ?_;have hb:=hrest i (by omega) hlt2 m (by omega);have:=hmask _ hcl i m hb fun o' ho'' e he hbd=>by
     rw [ho3] at ho'';cases ho'';exact hedge e (by simpa using he) hbd
    rw [hli,zbf (by omega)] at this;cases this
   subst him;have edr:ops.drop i=o::ops.drop (i+1):=by
    rw [List.drop_eq_getElem_cons hlt];rw [zbi hlt] at ho3;cases ho3;rfl
   rw [edr] at hw;unfold wpListIn at hw;have hcl':Closed ops (fun j=>(listed.setIfInBounds i true).getD j false):=by
    intro j o' hj hDj e he hb;by_cases hji:j=i
    ·subst hji;rw [ho3] at hj;cases hj;exact getD_set_true (hedge e (by simpa using he) hb)
    ·simp only [Go.getD_set_ne false (fun h=>hji h.symm)] at hDj;exact getD_set_true (hcl j o' hj hDj e he hb)
   have hli': ∀j,(listed.setIfInBounds i true).getD j false=decide (j < i+1):=fun j=>by
    by_cases hji:j=i
    ·subst hji;rw [zbk];simp [hsz,hlt]
    ·rw [Go.getD_set_ne false (fun h=>hji h.symm),hli];by_cases h2:j < i
     ·rw [zbg h2,zbg (by omega)]
     ·rw [zbf h2,zbf (by omega)]
   have key:=fun a w (hw2:wpListIn (fc c.ro) 0 P ops.toArray Q (ops.drop (i+1)) a w)=>ih (i+1) f (listed.setIfInBounds i true) a w (by omega) (by omega) (by simp [hsz]) hcl' hli' (by omega) hw2;unfold wpOpIn;rw [ho];simp only;split
   ·rename_i hwa;rw [if_pos hwa] at hw;exact Oper.wpIn_mono key hw
   ·rename_i hwa;rw [if_neg hwa] at hw;exact ⟨hw.1,key _ _ hw.2⟩
end
def lastB (n:Nat) (ops:List Oper):Bool:=(List.range ops.length).all fun i=>Nat.blt i n || (List.range i).all fun j=>((masks ops #[]).getD i 0).testBit j
theorem za7 {n:Nat} {ops:List Oper} (h:lastB n ops=true): ∀i,n<=i->i < ops.length-> ∀j,j < i->((masks ops #[]).getD i 0).testBit j=true:=fun i h1 h2 j hj=>by
 have h3:=zei.1 h i (zdp.2 h2);rw [zfn] at h3;rcases h3 with h3 | h3
 ·have:i < n:=by simpa using h3
  omega
 ·exact zei.1 h3 j (zdp.2 hj)
def chkY (ops:List Oper) (sms:List Sm) (n N:Nat):Bool:=goAll (masks ops #[]) [] sms && dOk N sms && nkOk sms [] && edgesOk 0 ops && lastB n ops && Nat.ble n ops.length
section
variable {P:Program} {c:Base} {Q:Exit->Act->World->Prop} {g:Slots} {h:Keys} {al:Names}
theorem qh2 (hm:P.follows .mixedOrders=true) {id n:Nat} {ops:List Oper}
  (H:RSeq P c ops.toArray (fun sms g h al=>chkY ops sms n c.N=true/\wl P c ops.toArray Q (ops.drop n) g h al) (ops.take n) [] g h al):wc P c (.region id ops.toArray true) Q g h al:=by
 intro a w hs;obtain ⟨Es,h1,h2,h3,h4⟩:=RSeq.split (g0:=g) (h0:=h) (al0:=al) (ops.take n) [] H;simp only [chkY,zcg,List.nil_append] at h3;obtain ⟨⟨⟨⟨⟨c1,c2⟩,c3⟩,c4⟩,c5⟩,c6⟩:=h3;have hn:n<=ops.length:=zdq c6;have hle:n=Es.length:=by rw [h1,zde];omega
 refine wpIn_region_any hm ?_;have hsz:(Array.replicate ops.toArray.size false).size=ops.length:=by simp
 have hfl: ∀i,(Array.replicate ops.toArray.size false).getD i false=false:=fun i=>by
  rw [zbk,Array.getElem?_replicate];split <;> rfl
 have hfalse:(fun i=>(Array.replicate ops.toArray.size false).getD i false)=fun _=>false:=funext hfl;have h0: ∀{β:Type} (l:List (Chg β)) (i:Nat) (f:Nat->β),runC (fun _=>false) i l f=f:=by
  intro β l
  induction l with
  | nil=>intro i f;rfl
  | cons C l ih=>intro i f;simp only [runC,zen];exact ih _ _
 have htake: ∀(i:Nat) (o:Oper) (E:Eff),ops[i]? =some o->Es[i]? =some E->(ops.take n)[i]? =some o:=fun i o E ho hE=>by
  have hi:i < Es.length:=(zbn.1 hE).1;rw [List.getElem?_take,if_pos (by omega)];exact ho
 refine wc8 (g0:=g) (h0:=h) (al0:=al) hn hle (fun i o E ho hE=>(h2 i o E (htake i o E ho hE) hE).1) (fun i E hE=> ?_) c1 c2 c3 c4 (za7 c5) (fun fuel listed a w hsz hcl hli hfu hs=> ?_) _ _ a _ hsz ?_ (fun j _=>hfl j) ?_ ?_
 ·have hi:i < Es.length:=(zbn.1 hE).1;have:=(h2 i ops[i] E (htake i _ E (zbi (by omega)) hE) hE).2;rw [xq4,xq4,xq4];simpa [List.map_take] using this
 ·rw [xn5,xn5,xn5] at hs;exact jp9 c4 (za7 c5) (ops.length - n) n fuel listed a w (zbs _) (by omega) hsz hcl hli hfu (h4 a w (by simpa using hs))
 ·rw [hfalse];intro i o _ hD;cases hD
 ·rw [hfalse];have: ∀n,left (fun _=>false) n=n:=by
   intro n
   induction n with
   | zero=>rfl
   | succ n ih=>simp only [left,ih];rfl
  rw [this];simp
 ·rw [hfalse,h0,h0,h0];obtain ⟨η,s⟩:=hs;exact ⟨η,s.ext (Ext.drew w)⟩
end
theorem jh6 {P:Program} {c:Base} {Q:Exit->Act->World->Prop} {g:Slots} {h:Keys} {al:Names} {A:Array Oper} {sms:List Sm} {n N:Nat} {ops rest:List Oper} (h1:chkY ops sms n N=true) (h2:wl P c A Q rest g h al):RSeq P c A (fun sms g h al=>chkY ops sms n N=true/\wl P c A Q rest g h al) [] sms g h al:=⟨h1,h2⟩
end An
namespace An.S
open Go Go.Proofs An Tryz
instance ti218:TyI Tryz.prog 218 1 false:=⟨by kernel_rfl,by kernel_rfl⟩
instance ti220:TyI Tryz.prog 220 2 true:=⟨by kernel_rfl,by kernel_rfl⟩
instance sl23:SlI Tryz.prog 23 3 1 false:=⟨zha,ti3⟩
instance sl133:SlI Tryz.prog 133 51 1 false:=⟨zhn,ti51⟩
instance fo220_0:FoI Tryz.prog 220 0 0:=⟨by kernel_rfl⟩
instance fo220_1:FoI Tryz.prog 220 1 1:=⟨by kernel_rfl⟩
instance fi189:FnI Tryz.prog 189:=⟨_,func189,by kernel_rfl,rfl⟩
instance fi270:FnI Tryz.prog 270:=⟨_,func270,by kernel_rfl,rfl⟩
instance fi275:FnI Tryz.prog 275:=⟨_,func275,by kernel_rfl,rfl⟩
instance fi276:FnI Tryz.prog 276:=⟨_,func276,by kernel_rfl,rfl⟩
theorem el51:ElI Tryz.prog 51 1 24 false (.slice none 0 0):=⟨ti51,by kernel_rfl,by kernel_rfl⟩
theorem zr220:(Tryz.prog.info? 220).bind (·.zero)=some (.agg #[.pointer none,.pointer none])/\ ∀F w,(tS [⟨1,false,(tE (.pointer none))⟩,⟨1,false,(tE (.pointer none))⟩]).p F w (.agg #[.pointer none,.pointer none]):=⟨by kernel_rfl,fun _ _=>⟨_,rfl,rfl,⟨fun _=>rfl,rfl⟩,⟨fun _=>rfl,rfl⟩,trivial⟩⟩
theorem zf51:Flat 1 false (.slice none 0 0):=xd3 rfl
instance un133:UnI Tryz.prog 133 (.slice 51):=⟨zhn⟩
def laySortR:Go.Shelf.Ren:=⟨fun n=>match n with | 125=>294 | 128=>347 | 129=>348 | 189=>275 | 215=>328 | 216=>369 | 257=>329 | 294=>363 | 295=>364 | 296=>365 | 297=>366 | 298=>367 | 299=>368 | 300=>370 | 301=>371 | 328=>391 | 329=>384 | 330=>385 | 331=>392 | 332=>393 | 343=>401 | n=>n,fun n=>match n with | 0=>0 | 3=>3 | 4=>4 | 5=>5 | 9=>9 | 28=>23 | 46=>213 | 51=>284 | 53=>123 | 131=>376 | 182=>371 | 183=>372 | 218=>410 | 222=>414 | 228=>424 | 229=>425 | n=>n,fun n=>n⟩
theorem laySort:Go.Proofs.Lays.n189 Tryz.prog laySortR where
 mixed:=by kernel_rfl
 f125:=by kernel_rfl
 f128:=by kernel_rfl
 f129:=by kernel_rfl
 f189:=by kernel_rfl
 f215:=by kernel_rfl
 f216:=by kernel_rfl
 f257:=by kernel_rfl
 f294:=by kernel_rfl
 f295:=by kernel_rfl
 f296:=by kernel_rfl
 f297:=by kernel_rfl
 f298:=by kernel_rfl
 f299:=by kernel_rfl
 f300:=by kernel_rfl
 f301:=by kernel_rfl
 f328:=by kernel_rfl
 f329:=by kernel_rfl
 f330:=by kernel_rfl
 f331:=by kernel_rfl
 f332:=by kernel_rfl
 f343:=by kernel_rfl
 t0:=by kernel_rfl
 a0:=fun w=>by kernel_rfl
 z0:=fun w=>by kernel_rfl
 v0:=fun w=>by kernel_rfl
 t3:=by kernel_rfl
 a3:=fun w=>by kernel_rfl
 z3:=fun w=>by kernel_rfl
 v3:=fun w=>by kernel_rfl
 t4:=by kernel_rfl
 a4:=fun w=>by kernel_rfl
 z4:=fun w=>by kernel_rfl
 v4:=fun w=>by kernel_rfl
 t5:=by kernel_rfl
 a5:=fun w=>by kernel_rfl
 z5:=fun w=>by kernel_rfl
 v5:=fun w=>by kernel_rfl
 t9:=by kernel_rfl
 a9:=fun w=>by kernel_rfl
 z9:=fun w=>by kernel_rfl
 v9:=fun w=>by kernel_rfl
 t28:=by kernel_rfl
 a28:=fun w=>by kernel_rfl
 z28:=fun w=>by kernel_rfl
 v28:=fun w=>by kernel_rfl
 t46:=by kernel_rfl
 a46:=fun w=>by kernel_rfl
 z46:=fun w=>by kernel_rfl
 v46:=fun w=>by kernel_rfl
 t51:=by kernel_rfl
 a51:=fun w=>by kernel_rfl
 z51:=fun w=>by kernel_rfl
 v51:=fun w=>by kernel_rfl
 t53:=by kernel_rfl
 a53:=fun w=>by kernel_rfl
 z53:=fun w=>by kernel_rfl
 v53:=fun w=>by kernel_rfl
 t131:=by kernel_rfl
 a131:=fun w=>by kernel_rfl
 z131:=fun w=>by kernel_rfl
 v131:=fun w=>by kernel_rfl
 t182:=by kernel_rfl
 a182:=fun w=>by kernel_rfl
 z182:=fun w=>by kernel_rfl
 v182:=fun w=>by kernel_rfl
 t183:=by kernel_rfl
 a183:=fun w=>by kernel_rfl
 z183:=fun w=>by kernel_rfl
 v183:=fun w=>by kernel_rfl
 t218:=by kernel_rfl
 a218:=fun w=>by kernel_rfl
 z218:=fun w=>by kernel_rfl
 v218:=fun w=>by kernel_rfl
 t222:=by kernel_rfl
 a222:=fun w=>by kernel_rfl
 z222:=fun w=>by kernel_rfl
 v222:=fun w=>by kernel_rfl
 t228:=by kernel_rfl
 a228:=fun w=>by kernel_rfl
 z228:=fun w=>by kernel_rfl
 v228:=fun w=>by kernel_rfl
 t229:=by kernel_rfl
 a229:=fun w=>by kernel_rfl
 z229:=fun w=>by kernel_rfl
 v229:=fun w=>by kernel_rfl
def layCompR:Go.Shelf.Ren:=⟨fun n=>match n with | 20=>276 | n=>n,fun n=>match n with | 0=>0 | 3=>3 | 4=>4 | 22=>23 | n=>n,fun n=>n⟩
theorem layComp:Go.Proofs.Lays2.n20 Tryz.prog layCompR where
 mixed:=by kernel_rfl
 f20:=by kernel_rfl
 t0:=by kernel_rfl
 a0:=fun w=>by kernel_rfl
 z0:=fun w=>by kernel_rfl
 v0:=fun w=>by kernel_rfl
 t3:=by kernel_rfl
 a3:=fun w=>by kernel_rfl
 z3:=fun w=>by kernel_rfl
 v3:=fun w=>by kernel_rfl
 t4:=by kernel_rfl
 a4:=fun w=>by kernel_rfl
 z4:=fun w=>by kernel_rfl
 v4:=fun w=>by kernel_rfl
 t22:=by kernel_rfl
 a22:=fun w=>by kernel_rfl
 z22:=fun w=>by kernel_rfl
 v22:=fun w=>by kernel_rfl
 i3:=by kernel_rfl
theorem qo5 (xs:List Int) (hn:xs.length < 4611686018427387904):CtG Tryz.prog 275 [(1,⟨3,1,false,rV tI xs⟩)] [.own (.sl 1 1 0 xs.length)] (.val (tE (.tuple #[]))) [(1,⟨3,1,false,rV tI (srtI xs)⟩)] []:=sortI laySort 3 xs hn
theorem qr8 (xs:List Int):CtG Tryz.prog 276 [(1,⟨3,1,false,rV tI xs⟩)] [.own (.sl 1 1 0 xs.length)] (.own (.sl 1 1 0 (Lib.compact xs).length)) [(1,⟨3,1,false,rV tI (Lib.compact xs)⟩)] []:=compactI layComp 3 xs
theorem z8 (xs:List Int):(srtI xs).length=xs.length:=List.length_mergeSort ..
theorem zd2 (xs:List Int):CtG Tryz.prog 276 [(1,⟨3,1,false,rV tI (srtI xs)⟩)] [.own (.sl 1 1 0 xs.length)] (.own (.sl 1 1 0 (brd xs).length)) [(1,⟨3,1,false,rV tI (brd xs)⟩)] []:=by
 have h:=qr8 (srtI xs);rw [z8] at h;exact h
theorem zw0 {l xs:List Tst} {d:Int} (h:onL l d=xs) (h0:0 < xs.length/\(xs.getD 0 tst0).lo<=d):onV l d=some (xs.getD 0 tst0).v:=by rw [onV,h,if_pos h0]
theorem yk9 {l xs:List Tst} {d:Int} (h:onL l d=xs) (h0: ¬(0 < xs.length/\(xs.getD 0 tst0).lo<=d)):onV l d=none:=by rw [onV,h,if_neg h0]
theorem zk7 {ls:List (List Tst)} {i:Nat} (hi:i < ls.length):tlen (ls.take i)+(ls.getD i []).length<=tlen ls:=by
 have e:tlen (ls.take (i+1))=tlen (ls.take i)+(ls.getD i []).length:=by
  rw [zby hi,tlen,zeo,List.sum_append,zbh,zbi hi];simp [tlen]
 have e2:tlen ls=tlen (ls.take (i+1))+tlen (ls.drop (i+1)):=by
  rw [tlen,tlen,tlen,<-List.sum_append,<-zeo,List.take_append_drop]
 omega
theorem jd0 (ls:List (List Tst)) (hl:ls.length<=1000) (ht:tlen ls<=1000000):
  Ct Tryz.prog 189 [tL 1 false (fun l=>tL 8 true tTs l) ls] (tL 1 false tI (bds ls)):=by
 refine Ct.intro func189 rfl ntmps189 rfl ?_;intro w F;refine A7 ?_;refine RE (xe3 (k:=3) 3 1 false rfl (fun _=>rfl)) trivial trivial qA ?_;refine A11 ?_;refine cL (fun (fm:(Nat)×(List Int))=>(fun (i:Nat) (xs:List Int)=>i<=ls.length/\xs=(ls.take i).flatMap eds) fm.1 fm.2) (wB fun (i:Nat) (xs:List Int)=>uV (uV (uV (uO uN 3 (.sl 3 1 0 xs.length)) 8 (tL 1 false (fun l=>tL 8 true tTs l) ls)) 9 (tI ls.length)) 10 (tI i)) (wB fun (i:Nat) (xs:List Int)=>uK uN 3 3 1 false (rV tI xs)) [3] (fun (fm:(Nat)×(List Int))=>(fun (i:Nat) (xs:List Int)=>ls.length - i) fm.1 fm.2) ((0,[])) (by dsimp only;exact ⟨zbq _,rfl⟩) ?_;intro fm hI;obtain ⟨i,xs⟩:=fm;replace hI:i<=ls.length/\xs=(ls.take i).flatMap eds:=hI;show wc _ _ _ _ (uV (uV (uV (uO uN 3 (.sl 3 1 0 xs.length)) 8 (tL 1 false (fun l=>tL 8 true tTs l) ls)) 9 (tI ls.length)) 10 (tI i)) (uK uN 3 3 1 false (rV tI xs)) _;obtain ⟨hi,hx⟩:=hI;refine A6 ?_;refine x6 rfl (fun h151=> ?_) (fun h151=> ?_)
 ·
  refine A6 ?_;refine R2 (x4 sl133 (i) (by omega) (zai (l:=ls) (n:=i) (d:=[]))) rfl rfl ?_;refine A12 ?_;refine xg9 (s:=14) rfl (fun hl0=> ?_);have htk:=zk7 (ls:=ls) (i:=i) (by omega);refine cL (fun (fm:(Nat)×(List Int))=>(fun (j:Nat) (xs:List Int)=>j<=(ls.getD i []).length/\xs=(ls.take i).flatMap eds++eds ((ls.getD i []).take j)) fm.1 fm.2) (wB fun (j:Nat) (xs:List Int)=>uV (uV (uV (uV (uV (uV (uO uN 3 (.sl 3 1 0 xs.length)) 8 (tL 1 false (fun l=>tL 8 true tTs l) ls)) 9 (tI ls.length)) 10 (tI i)) 14 (tL 8 true tTs (ls.getD i []))) 15 (tI (ls.getD i []).length)) 16 (tI j)) (wB fun (j:Nat) (xs:List Int)=>uK uN 3 3 1 false (rV tI xs)) [3] (fun (fm:(Nat)×(List Int))=>(fun (j:Nat) (xs:List Int)=>(ls.getD i []).length - j) fm.1 fm.2) ((0,xs)) (by dsimp only;exact ⟨zbq _,by rw [zgo,hx];simp [eds]⟩) ?_;intro fm hI2;obtain ⟨j,xs⟩:=fm;replace hI2:j<=(ls.getD i []).length/\xs=(ls.take i).flatMap eds++eds ((ls.getD i []).take j):=hI2;show wc _ _ _ _ (uV (uV (uV (uV (uV (uV (uO uN 3 (.sl 3 1 0 xs.length)) 8 (tL 1 false (fun l=>tL 8 true tTs l) ls)) 9 (tI ls.length)) 10 (tI i)) 14 (tL 8 true tTs (ls.getD i []))) 15 (tI (ls.getD i []).length)) 16 (tI j)) (uK uN 3 3 1 false (rV tI xs)) _;obtain ⟨hj,hx2⟩:=hI2;have hxl:xs.length=2*tlen (ls.take i)+2*j:=by rw [hx2,zbp,yg9,zj5,zde,zfo hj]
  refine A6 ?_;refine x6 rfl (fun h152=> ?_) (fun h152=> ?_)
  ·
   refine A6 ?_;refine R2 (x4 sl51 (j) (by omega) (zai (l:=(ls.getD i [])) (n:=j) (d:=tst0))) rfl rfl ?_;refine A1 ?_;refine RE (x7 (k:=7) (n:=8) (agg:=true) zr59.1 zr59.2 rfl) trivial trivial qA ?_;refine A9 ?_;refine R2 (xb5 (n:=2) (f:=fun n:Int=>tI n) [((ls.getD i []).getD j tst0).lo,((ls.getD i []).getD j tst0).hi] zha el3 zf3 rfl (fun _=>inferInstance) rfl rfl rfl) rfl rfl (RE (xb3 (k:=3) (k':=26) (f:=fun n:Int=>tI n) (ys:=[((ls.getD i []).getD j tst0).lo,((ls.getD i []).getD j tst0).hi]) (ts':=rV tI (xs++[((ls.getD i []).getD j tst0).lo,((ls.getD i []).getD j tst0).hi])) zha el3 zf3 rfl rfl (fun _=>inferInstance) xd2 (by simp;omega) (by simp;omega) (by simp [rV]) (n':=xs.length+2) rfl) qB qA qA ?_);refine A8 ?_;exact xc6 (l:=[3]) (zab 3 26) ((j+1,xs++[((ls.getD i []).getD j tst0).lo,((ls.getD i []).getD j tst0).hi])) ⟨(by dsimp only;exact ⟨by omega,by rw [qa6 (by omega),<-zfj,<-hx2]⟩),(by dsimp only;omega)⟩ (zaf rfl (zaf rfl (zas rfl (zaf rfl (zaf rfl (zas rfl ((zbc rfl (zaw (by dsimp only;rw [zbp];rfl))) zbd))))))) ((zbb rfl (zat xa6.symm)) zbe) (zaj (zaj (zaj (zaj (zaj (zaj (zak rfl zar))))))) (zam rfl (supJ xa5) zaz) (lkOk rfl) rfl rfl (fun _ h=>by cases h)
  ·
   refine A10 ?_;have hje:j=(ls.getD i []).length:=by omega
   subst hje;exact kF ((i+1,xs)) ⟨(by dsimp only;exact ⟨by omega,by rw [zk5 (by omega),hx2,zbx]⟩),(by dsimp only;omega)⟩
 ·
  refine A6 ?_;have hie:i=ls.length:=by omega
  subst hie;rw [zbx] at hx;have hxl:xs.length=2*tlen ls:=by rw [hx,yg9]
  have hsl:=z8 xs;refine A2 ?_;refine RE (xb7 (fun _=>3) (qo5 xs (by omega)) fi275 rfl (krC (ρ:=fun _=>3) (k:=1) xa6 (krN (ρ:=fun _=>3))) (krC (ρ:=fun _=>3) (k:=1) xa6 (krN (ρ:=fun _=>3))) ⟨⟨rfl,xa5⟩,trivial⟩ rfl) qA qA trivial ?_;refine A5 ?_;refine RE (xb7 (fun _=>3) (zd2 xs) fi276 rfl (krC (ρ:=fun _=>3) (k:=1) xa6 (krN (ρ:=fun _=>3))) (krC (ρ:=fun _=>3) (k:=1) xa6 (krN (ρ:=fun _=>3))) ⟨⟨rfl,xa5⟩,trivial⟩ rfl) qA qA trivial (RE (xv6 (f:=tI) (xs:=brd xs) (fun _ h=>h) (xg2 rfl) rfl) qA qA trivial ?_);refine A3 ?_;exact E1 rfl rfl (Le.of (by rw [hx];rfl))
theorem c_on (l:List Tst) (d:Int):
  Ct Tryz.prog 270 [tL 8 true tTs l,tI d] (tT [tO 6 true tVa (onV l d),tL 8 true tTs (onL l d)]):=by
 refine Ct.intro func270 rfl ntmps270 rfl ?_;intro w F;refine xm6 ?_;refine xw5 ?_;refine R1 xe5 rfl (R1 xe5 rfl (xm4 (by kernel_rfl) (xf5 (xm6 (xw7 ?_)))));refine cL (fun (xs:List Tst)=>onL xs d=onL l d) (fun (xs:List Tst)=>uV (uV uN 0 (tL 8 true tTs xs)) 1 (tI d)) (fun (xs:List Tst)=>fun _=>none) [] (fun (xs:List Tst)=>xs.length) (l) rfl ?_;intro xs hI;refine xg9 (s:=0) rfl (fun hl0=> ?_);refine xm6 (xm6 ?_);refine xw5 ?_;refine R1 xb9 rfl (R1 (xf9 zhm) rfl (R2 yc6 rfl rfl (R1 xb9 rfl ?_)));refine RGcaseD (t:=9) rfl (fun h124=> ?_) (fun h124=> ?_)
 ·
  refine Rg (zbg h124) rfl xb9 rfl ⟨rfl,trivial⟩ (Rg (zbg h124) rfl (x4 sl51 (0) (by omega) (zai (l:=xs) (n:=0) (d:=tst0))) rfl ⟨rfl,rfl,trivial⟩ (Rg (zbg h124) rfl (xf3 fo59_1.h (At.f 1 rfl rfl) rfl) rfl ⟨rfl,trivial⟩ (Rg (zbg h124) rfl (xm1 ti3) rfl ⟨rfl,trivial⟩ (Rg (zbg h124) rfl xb9 rfl ⟨rfl,trivial⟩ (Rg (zbg h124) rfl zc4 rfl ⟨rfl,rfl,trivial⟩ (R2 (xc9 (zbg h124)) rfl rfl (xm4 (by kernel_rfl) (xf5 ?_))))))));refine x6 rfl (fun h124_2=> ?_) (fun h124_2=> ?_)
  ·
   refine xz3 (xf5 (xw7 ?_));refine xw5 ?_;refine R1 xb9 rfl (R2 (yh4 sl51 1 rfl (by omega) rfl) rfl rfl (R1 xe5 rfl (xm4 (by kernel_rfl) (ya0 ?_))));exact kF (xs.drop 1) ⟨(by rw [ju8 (by omega) (by omega)];exact hI),(by rw [List.length_drop];omega)⟩
  ·
   refine yb4 (y9 (y9 (xf2 (xf5 (xm6 (xm6 ?_))))));have hst:onL l d=xs:=by rw [<-hI];exact qp8 (by omega)
   refine xw5 ?_;refine R1 xb9 rfl (R1 (xf9 zhm) rfl (R2 yc6 rfl rfl (R1 xb9 rfl ?_)));refine RGcaseD (t:=22) rfl (fun h127=> ?_) (fun h127=> ?_)
   ·
    refine Rg (zbg h127) rfl xb9 rfl ⟨rfl,trivial⟩ (Rg (zbg h127) rfl (x4 sl51 (0) (by omega) (zai (l:=xs) (n:=0) (d:=tst0))) rfl ⟨rfl,rfl,trivial⟩ (Rg (zbg h127) rfl (xf3 fo59_0.h (At.f 0 rfl rfl) rfl) rfl ⟨rfl,trivial⟩ (Rg (zbg h127) rfl (xm1 ti3) rfl ⟨rfl,trivial⟩ (Rg (zbg h127) rfl xb9 rfl ⟨rfl,trivial⟩ (Rg (zbg h127) rfl zc4 rfl ⟨rfl,rfl,trivial⟩ (R2 (xc9 (zbg h127)) rfl rfl (xm4 (by kernel_rfl) (xf5 ?_))))))));refine x6 rfl (fun h127_2=> ?_) (fun h127_2=> ?_)
    ·
     refine xm6 ?_;refine xw5 ?_;refine R1 xb9 rfl (R2 (x4 sl51 (0) (by omega) (zai (l:=xs) (n:=0) (d:=tst0))) rfl rfl (R1 (xf3 fo59_2.h (At.f 2 rfl rfl) rfl) rfl (R1 xb9 rfl (R1 xe5 rfl (R1 xe5 rfl (xm4 (by kernel_rfl) (xf5 (yb5 (xk5 ?_)))))))));exact E2 rfl rfl rfl (leO (n:=6) (agg:=true) (f:=tVa) (zw0 hst ⟨by omega,by omega⟩)) (Le.of (by rw [hst]))
    ·
     refine xz3 (xf5 (xm6 ?_));refine xw5 ?_;refine R1 xb9 rfl (R1 xe5 rfl (R1 xe5 rfl (xm4 (by kernel_rfl) (xf5 (yb5 ?_)))));exact E2 rfl rfl rfl (leO0 (yk9 hst (by omega))) (Le.of (by rw [hst]))
   ·
    refine RGoff (zbf h127) rfl rfl (RGoff (zbf h127) rfl rfl (RGoff (zbf h127) rfl rfl (RGoff (zbf h127) rfl rfl (RGoff (zbf h127) rfl rfl (RGoff (zbf h127) rfl rfl (R2 (xc7 (zbf h127)) rfl rfl (xm4 (by kernel_rfl) (xf5 (xw4 rfl rfl (xz3 (xf5 (xm6 ?_))))))))))));refine xw5 ?_;refine R1 xb9 rfl (R1 xe5 rfl (R1 xe5 rfl (xm4 (by kernel_rfl) (xf5 (yb5 ?_)))));exact E2 rfl rfl rfl (leO0 (yk9 hst (by omega))) (Le.of (by rw [hst]))
 ·
  refine RGoff (zbf h124) rfl rfl (RGoff (zbf h124) rfl rfl (RGoff (zbf h124) rfl rfl (RGoff (zbf h124) rfl rfl (RGoff (zbf h124) rfl rfl (RGoff (zbf h124) rfl rfl (R2 (xc7 (zbf h124)) rfl rfl (xm4 (by kernel_rfl) (xf5 (xw4 rfl rfl (yb4 (y9 (y9 (xf2 (xf5 (xm6 ?_)))))))))))))));refine xm6 ?_;have hst:onL l d=xs:=by rw [<-hI];exact qp8 (by omega)
  refine xw5 ?_;refine R1 xb9 rfl (R1 (xf9 zhm) rfl (R2 yc6 rfl rfl (R1 xb9 rfl ?_)));refine RGcaseD (t:=22) rfl (fun h127=> ?_) (fun h127=> ?_)
  ·
   refine Rg (zbg h127) rfl xb9 rfl ⟨rfl,trivial⟩ (Rg (zbg h127) rfl (x4 sl51 (0) (by omega) (zai (l:=xs) (n:=0) (d:=tst0))) rfl ⟨rfl,rfl,trivial⟩ (Rg (zbg h127) rfl (xf3 fo59_0.h (At.f 0 rfl rfl) rfl) rfl ⟨rfl,trivial⟩ (Rg (zbg h127) rfl (xm1 ti3) rfl ⟨rfl,trivial⟩ (Rg (zbg h127) rfl xb9 rfl ⟨rfl,trivial⟩ (Rg (zbg h127) rfl zc4 rfl ⟨rfl,rfl,trivial⟩ (R2 (xc9 (zbg h127)) rfl rfl (xm4 (by kernel_rfl) (xf5 ?_))))))));refine x6 rfl (fun h127_2=> ?_) (fun h127_2=> ?_)
   ·
    refine xm6 ?_;refine xw5 ?_;refine R1 xb9 rfl (R2 (x4 sl51 (0) (by omega) (zai (l:=xs) (n:=0) (d:=tst0))) rfl rfl (R1 (xf3 fo59_2.h (At.f 2 rfl rfl) rfl) rfl (R1 xb9 rfl (R1 xe5 rfl (R1 xe5 rfl (xm4 (by kernel_rfl) (xf5 (yb5 (xk5 ?_)))))))));exact E2 rfl rfl rfl (leO (n:=6) (agg:=true) (f:=tVa) (zw0 hst ⟨by omega,by omega⟩)) (Le.of (by rw [hst]))
   ·
    refine xz3 (xf5 (xm6 ?_));refine xw5 ?_;refine R1 xb9 rfl (R1 xe5 rfl (R1 xe5 rfl (xm4 (by kernel_rfl) (xf5 (yb5 ?_)))));exact E2 rfl rfl rfl (leO0 (yk9 hst (by omega))) (Le.of (by rw [hst]))
  ·
   refine RGoff (zbf h127) rfl rfl (RGoff (zbf h127) rfl rfl (RGoff (zbf h127) rfl rfl (RGoff (zbf h127) rfl rfl (RGoff (zbf h127) rfl rfl (RGoff (zbf h127) rfl rfl (R2 (xc7 (zbf h127)) rfl rfl (xm4 (by kernel_rfl) (xf5 (xw4 rfl rfl (xz3 (xf5 (xm6 ?_))))))))))));refine xw5 ?_;refine R1 xb9 rfl (R1 xe5 rfl (R1 xe5 rfl (xm4 (by kernel_rfl) (xf5 (yb5 ?_)))));exact E2 rfl rfl rfl (leO0 (yk9 hst (by omega))) (Le.of (by rw [hst]))
theorem zd7 (a b:List Tst):
  CtG Tryz.prog 186 [] [.val (tL 8 true tTs a),.val (tL 8 true tTs b)] (.own (.fn 269 [.ptr 2 0,.ptr 3 0])) [(2,⟨51,1,false,[.val (tL 8 true tTs a)]⟩),(3,⟨51,1,false,[.val (tL 8 true tTs b)]⟩)] [2,3]:=by
 refine CtG.intro [] func186 rfl ntmps186 rfl rfl trivial ?_;intro w F η;refine A9 ?_;refine R2 (xg8 (ps:=[.ptr 2 0,.ptr 3 0]) rfl) rfl rfl ?_;refine A4 ?_;exact xc5 LentC.mk' rfl rfl Imp.refl qB rfl ⟨⟨rfl,(SupX.lit rfl)⟩,⟨rfl,(SupX.lit rfl)⟩,trivial⟩ rfl
abbrev tPr (x y:Option Va):Ty:=tS [⟨1,false,tO 6 true tVa x⟩,⟨1,false,tO 6 true tVa y⟩]
def tgY (a b:List Tst) (k:Nat):List Ty:=[tSn ⟨(bds [a,b]).getD k 0,(bds [a,b]).getD (k+1) 0⟩,tPr (valT a ((bds [a,b]).getD k 0)) (valT b ((bds [a,b]).getD k 0))]
theorem tg_le {a b:List Tst} {k:Nat} {x y:Option Va} (h1:x=valT a ((bds [a,b]).getD k 0)) (h2:y=valT b ((bds [a,b]).getD k 0)):LeL [tSn ⟨(bds [a,b]).getD k 0,(bds [a,b]).getD (k+1) 0⟩,tPr x y] (tgY a b k):=by
 subst h1;subst h2;exact ⟨zao,zao,trivial⟩
theorem zb0 (a b:List Tst) (ha:ascT a) (hb:ascT b) (hla:a.length<=200000) (hlb:b.length<=200000):
  ItC Tryz.prog 269 [(1,⟨51,1,false,[.val (tL 8 true tTs a)]⟩),(2,⟨51,1,false,[.val (tL 8 true tTs b)]⟩)] [.ptr 1 0,.ptr 2 0] ((bds [a,b]).length - 1) (tgY a b):=by
 refine ItC.intro (K:=99) [1,2] func269 rfl ntmps269 rfl rfl ⟨⟨rfl,(SupX.lit rfl)⟩,⟨rfl,(SupX.lit rfl)⟩,trivial⟩ rfl ?_;intro w F η l V J Jc hB;refine A1 ?_;have htl:tlen [a,b]<=400000:=by simp [tlen];omega
 refine A3 ?_;refine R2 (xb5 (n:=2) (f:=fun l=>tL 8 true tTs l) [a,b] zhn el51 zf51 rfl (fun _=>inferInstance) rfl rfl rfl) rfl rfl (R1 (x3 (jd0 [a,b] (by simp) (by omega)) fi189 rfl) rfl ?_);refine A9 ?_;have htl:tlen [a,b]<=400000:=by simp [tlen];omega
 have hdl:=yc8 (ls:=[a,b]);refine cL (fun (fm:(Nat)×(List Tst)×(List Tst))=>(fun (i:Nat) (xa:List Tst) (xb:List Tst)=>(i=0∨i+1<=(bds [a,b]).length)/\ogI a b xa xb ((bds [a,b]).getD (i - 1) 0)) fm.1 fm.2.1 fm.2.2) (wC fun (i:Nat) (xa:List Tst) (xb:List Tst)=>uV (uV (uO (uO (uV uN 0 (tE (.func (.yield l) #[] #[]))) 1 (.ptr 1 0)) 2 (.ptr 2 0)) 4 (tL 1 false tI (bds [a,b]))) 5 (tI ((i:Int)+1))) (wC fun (i:Nat) (xa:List Tst) (xb:List Tst)=>uK (uK (uK uN 1 51 1 false [.val (tL 8 true tTs xa)]) 2 51 1 false [.val (tL 8 true tTs xb)]) 99 (2*i) 1 false []) [1,2,99] (fun (fm:(Nat)×(List Tst)×(List Tst))=>(fun (i:Nat) (xa:List Tst) (xb:List Tst)=>(bds [a,b]).length - i) fm.1 fm.2.1 fm.2.2) ((0,a,b)) (by dsimp only;exact ⟨.inl rfl,ogI.zero ha hb _⟩) ?_;intro fm hI;obtain ⟨i,xa,xb⟩:=fm;replace hI:(i=0∨i+1<=(bds [a,b]).length)/\ogI a b xa xb ((bds [a,b]).getD (i - 1) 0):=hI;show wc _ _ _ _ (uV (uV (uO (uO (uV uN 0 (tE (.func (.yield l) #[] #[]))) 1 (.ptr 1 0)) 2 (.ptr 2 0)) 4 (tL 1 false tI (bds [a,b]))) 5 (tI ((i:Int)+1))) (uK (uK (uK uN 1 51 1 false [.val (tL 8 true tTs xa)]) 2 51 1 false [.val (tL 8 true tTs xb)]) 99 (2*i) 1 false []) _;obtain ⟨hi,hog⟩:=hI;refine A9 ?_;refine x6 rfl (fun h137=> ?_) (fun h137=> ?_)
 ·
  refine A5 ?_;have hle:(bds [a,b]).getD (i - 1) 0<=((bds [a,b]).getD i 0):=by
   rcases zcf i with h0 | h0
   ·subst h0;exact zfp _
   ·have:=pw_lt (xr9 (ls:=[a,b])) (show i - 1 < i by omega) (by omega);omega
  obtain ⟨hv1,hv2,hog2⟩:=hog.next hle;refine A1 ?_;refine RE (x7 (k:=6) (n:=2) (agg:=true) zr220.1 zr220.2 rfl) trivial trivial qA ?_;refine A8 ?_;refine R2 (x4 sl23 (i) (by omega) (zai (l:=(bds [a,b])) (n:=i) (d:=0))) rfl rfl ?_;refine A1 ?_;refine R2 (x3 (c_on xa ((bds [a,b]).getD i 0)) fi270 rfl) rfl rfl ?_;refine A4 ?_;refine xi8 (0) ti218 rfl rfl rfl rfl (Up.g 0 rfl rfl rfl) rfl rfl ?_;refine A9 ?_;refine R2 (x4 sl23 (i) (by omega) (zai (l:=(bds [a,b])) (n:=i) (d:=0))) rfl rfl ?_;refine A1 ?_;refine R2 (x3 (c_on xb ((bds [a,b]).getD i 0)) fi270 rfl) rfl rfl ?_;refine A4 ?_;refine xi8 (0) ti218 rfl rfl rfl rfl (Up.g 1 rfl rfl rfl) rfl rfl ?_;refine A4 ?_;refine qh2 (n:=12) mixed ?_;refine A4 ?_;refine R2 (x4 sl23 (i) (by omega) (zai (l:=(bds [a,b])) (n:=i) (d:=0))) rfl rfl ?_;refine A3 ?_;refine R2 (x4 sl23 (i+1) (by omega) (zai (l:=(bds [a,b])) (n:=i+1) (d:=0))) rfl rfl ?_;refine A1 ?_;refine R2 (xb0 (r:=tS [⟨1,false,tI ((bds [a,b]).getD i 0)⟩,⟨1,false,tI ((bds [a,b]).getD (i+1) 0)⟩]) (ts:=[(0,tI ((bds [a,b]).getD i 0)),(1,tI ((bds [a,b]).getD (i+1) 0))]) bu119 zr119.2 (Bc 0 rfl rfl rfl (Bc 1 rfl rfl rfl zao))) rfl rfl ?_;refine A1 ?_;refine jh6 (by kernel_rfl) ?_;refine zs0 (ts:=[tSn ⟨((bds [a,b]).getD i 0),((bds [a,b]).getD (i+1) 0)⟩,tPr (onV xa ((bds [a,b]).getD i 0)) (onV xb ((bds [a,b]).getD i 0))]) hB (yu3 rfl) rfl rfl qB rfl rfl (by omega) (tg_le hv1 hv2) ?_ ?_
  ·
   refine xf4 xz2 qA trivial trivial rfl (xp1 ?_);refine A10 ?_;exact kF ((i+1,onL xa ((bds [a,b]).getD i 0),onL xb ((bds [a,b]).getD i 0))) ⟨(by dsimp only;exact ⟨.inr (by omega),hog2⟩),(by dsimp only;omega)⟩
  ·
   refine xf4 xz2 qA trivial trivial rfl (xp1 ?_);refine A7 ?_;exact E_it hB rfl trivial rfl (.inl rfl) rfl (.inr ⟨i,by omega,rfl⟩)
 ·
  refine A4 ?_;exact E_it hB rfl trivial rfl (.inr rfl) rfl (.inl (by omega))
end An.S
namespace An.S
open Go
theorem jw5 {f:Tst->Int} {l:List Tst} {i:Nat} (hi:i < l.length):((l.take (i+1)).map f).sum=((l.take i).map f).sum+f (l.getD i tst0):=by
 rw [zby hi,zeo,List.sum_append,zbh,zbi hi];simp
def dyG (a b:Int) (s:Tst):Int:=min s.hi b - max s.lo a
def wt (D:Int) (v:Va):Int:=(v.f.rat*(D:Rat)).num
theorem zh5 (n:Int):(n:Rat)=Rat.divInt n 1:=by
 have:=Rat.num_divInt_den (n:Rat);rw [Rat.num_intCast,Rat.den_intCast] at this;exact this.symm
theorem wt_is {D k:Int} (hD:0 < D) {v:Va} (h:v.f.rat=Rat.divInt k D):wt D v=k:=by
 have e:Rat.divInt k D*(D:Rat)=(k:Rat):=by
  rw [zh5 D,zh5 k,Rat.divInt_mul_divInt];exact (Rat.divInt_eq_divInt_iff (by omega) (by decide)).2 (by rw [Int.mul_one,Int.mul_one])
 rw [wt,h,e,Rat.num_intCast]
theorem mulG (D:Int) (a n:Int):Rat.divInt a D*(n:Rat)=Rat.divInt (a*n) D:=by
 rw [zh5 n,Rat.divInt_mul_divInt,Int.mul_one]
theorem addG {D:Int} (hD:0 < D) (a b:Int):Rat.divInt a D+Rat.divInt b D=Rat.divInt (a+b) D:=by
 rw [Rat.divInt_add_divInt a b (by omega) (by omega)];exact (Rat.divInt_eq_divInt_iff (Int.ne_of_gt (Int.mul_pos hD hD)) (by omega)).2 (by rw [<-Int.add_mul,Int.mul_assoc])
theorem yw5 {n d:Int} (hd:0 < d) (h1: -9223372036854775808<=n) (h2:n<=9223372036854775807) (h3:d<=9223372036854775807):short (Rat.divInt n d):=by
 have l16: ∀{n:Int}, -9223372036854775808<=n->n<=9223372036854775807->len16 n<=256:=fun h1 h2=>zcj (len16_64 h1 h2) (by decide);have e:=yi0 (n:=n) hd;have e1:(wh (Rat.divInt n d).num).l.length=(wh (n / (Int.gcd n d:Int))).l.length:=congrArg (fun f:Fr=>f.n.l.length) e;have e2:(wh ((Rat.divInt n d).den:Int)).l.length=(wh (d / (Int.gcd n d:Int))).l.length:=congrArg (fun f:Fr=>f.d.l.length) e;refine ⟨?_,?_⟩
 ·show (wh (Rat.divInt n d).num).l.length<=256;rw [e1];exact len16_div (l16 h1 h2)
 ·show (wh ((Rat.divInt n d).den:Int)).l.length<=256;rw [e2];exact len16_div (l16 (by omega) h3)
def wsG (w:Va->Int) (xs:List Tst):Int:=(xs.map fun s=>w s.v*(s.hi - s.lo)).sum
theorem yz6 {w:Va->Int} {xs:List Tst} {s:Tst}:wsG w (xs++[s])=wsG w xs+w s.v*(s.hi - s.lo):=by simp [wsG]
theorem splitG {l:List Tst} (h:0 < l.length):l=l.take (l.length - 1)++[l.getD (l.length - 1) tst0]:=by
 have e:l.take (l.length - 1+1)=l.take (l.length - 1)++[l[l.length - 1]]:=zby (by omega);rw [show l.length - 1+1=l.length by omega,zbx] at e;rw [zbh,zbi (by omega)];exact e
theorem setG {l:List Tst} {x:Tst} (h:0 < l.length):l.set (l.length - 1) x=l.take (l.length - 1)++[x]:=by
 have e:=List.set_eq_take_append_cons_drop (l:=l) (i:=l.length - 1) (a:=x);rw [if_pos (by omega),show l.length - 1+1=l.length by omega,List.drop_length] at e;exact e
theorem jn0 {w:Va->Int} {acc:List Tst} {s:Tst}:wsG w (pst1 acc s)=wsG w acc+if s.hi<=s.lo then 0 else w s.v*(s.hi - s.lo):=by
 rw [pst1];split
 ·omega
 ·split
  ·rename_i hm;have h1:wsG w acc=wsG w (acc.take (acc.length - 1))+w (acc.getD (acc.length - 1) tst0).v*((acc.getD (acc.length - 1) tst0).hi - (acc.getD (acc.length - 1) tst0).lo):=by rw [<-yz6,<-splitG hm.1]
   rw [setG hm.1,yz6,h1,<-hm.2.2,hm.2.1];simp only [Int.mul_sub];omega
  ·rw [yz6]
theorem qk9 {w:Va->Int}: ∀(ps acc:List Tst),wsG w (pst acc ps)=wsG w acc+(ps.map fun s=>if s.hi<=s.lo then 0 else w s.v*(s.hi - s.lo)).sum
 | [],acc=>by simp [pst]
 | s::r,acc=>by
  have ih:=qk9 (w:=w) r (pst1 acc s);rw [jn0] at ih;simp only [pst,List.foldl_cons,zdu,List.sum_cons] at*
  omega
def gS1 (w:Va->Int) (a b:Int) (s:Tst):Int:=if dyG a b s<=0 then 0 else w s.v*dyG a b s
def gS (w:Va->Int) (l:List Tst) (a b:Int):Int:=(l.map (gS1 w a b)).sum
theorem jt5 {w:Va->Int} {l:List Tst} {a b:Int}:wsG w (cutT l a b)=gS w l a b:=by
 rw [cutT,qk9];simp only [wsG,zfr,List.sum_nil,Int.zero_add,List.map_map,gS]
 congr 1
 refine zgh fun s _=> ?_;have e1:(clip a b s).hi=min s.hi b:=rfl;have e2:(clip a b s).lo=max s.lo a:=rfl;show (if (clip a b s).hi<=(clip a b s).lo then (0:Int) else w s.v*((clip a b s).hi - (clip a b s).lo))=gS1 w a b s;by_cases h:(clip a b s).hi<=(clip a b s).lo
 ·rw [if_pos h,gS1,if_pos (by simp only [dyG];omega)]
 ·rw [if_neg h,gS1,if_neg (by simp only [dyG];omega)];rfl
def dsG (xs:List Tst):Int:=(xs.map fun s=>s.hi - s.lo).sum
theorem qw2: ∀{xs:List Tst} {c e:Int},ascT xs->(∀s∈xs,c<=s.lo/\s.hi<=e)->c<=e->0<=dsG xs/\dsG xs<=e - c
 | [],c,e,_,_,h=>by simp [dsG];omega
 | s::r,c,e,ha,hb,h=>by
  have hs:=ha.1 s (zcb ..);have hsb:=hb s (zcb ..);have hp:=zcv.1 ha.2;have ih:=qw2 (xs:=r) (c:=s.hi) (e:=e) ⟨fun x hx=>ha.1 x (zcd _ hx),hp.2⟩ (fun x hx=>⟨hp.1 x hx,(hb x (zcd _ hx)).2⟩) hsb.2;have e1:dsG (s::r)=(s.hi - s.lo)+dsG r:=rfl;omega
theorem jd4 {w:Va->Int} {B:Int}: ∀{xs:List Tst},(∀s∈xs,s.lo < s.hi/\ -B<=w s.v/\w s.v<=B)-> -(B*dsG xs)<=wsG w xs/\wsG w xs<=B*dsG xs
 | [],_=>by simp [dsG,wsG]
 | s::r,h=>by
  obtain ⟨h1,h2,h3⟩:=h s (zcb ..);have ih:=jd4 (w:=w) (B:=B) (xs:=r) fun x hx=>h x (zcd _ hx);have e1:dsG (s::r)=(s.hi - s.lo)+dsG r:=rfl;have e2:wsG w (s::r)=w s.v*(s.hi - s.lo)+wsG w r:=rfl;rw [e1,e2,Int.mul_add];have m1:=Int.mul_le_mul_of_nonneg_right h2 (show 0<=s.hi - s.lo by omega);have m2:=Int.mul_le_mul_of_nonneg_right h3 (show 0<=s.hi - s.lo by omega);rw [Int.neg_mul] at m1;omega
def wtOk (D B:Int) (l:List Tst):Prop:= ∀s∈l,s.v.f.rat=Rat.divInt (wt D s.v) D/\ -B<=wt D s.v/\wt D s.v<=B
theorem sum_G {D B:Int} {l:List Tst} (hD:0 < D) (hDb:D<=9223372036854775807) (hB0:0<=B) (hB:B<=140737488355327) (ha:ascT l) (hb: ∀s∈l,0<=s.lo/\s.hi<=65536) (hw:wtOk D B l): ∀i,i<=l.length->sumT (l.take i)=some (Rat.divInt (wsG (wt D) (l.take i)) D)
 | 0,_=>by
  rw [zgo];show some ((0:Int):Rat)=some (Rat.divInt 0 D);rw [Rat.zero_divInt];rfl
 | i+1,hi=>by
  have ih:=sum_G hD hDb hB0 hB ha hb hw i (by omega);have hm:=xi0 (l:=l) (i:=i) (by omega);have h1:=ha.1 _ hm;have h2:=hb _ hm;obtain ⟨w1,w2,w3⟩:=hw _ hm;have sub: ∀s∈l.take (i+1),s∈l:=fun s hs=>List.mem_of_mem_take hs;have hd:=qw2 (xs:=l.take (i+1)) (c:=0) (e:=65536) ⟨fun s hs=>ha.1 s (sub s hs),ha.2.sublist (List.take_sublist ..)⟩ (fun s hs=>hb s (sub s hs)) (by decide);have hbd:=jd4 (w:=wt D) (B:=B) (xs:=l.take (i+1)) fun s hs=>⟨ha.1 s (sub s hs),(hw s (sub s hs)).2⟩
  have e:wsG (wt D) (l.take (i+1))=wsG (wt D) (l.take i)+wt D (l.getD i tst0).v*((l.getD i tst0).hi - (l.getD i tst0).lo):=jw5 (by omega);have big:B*dsG (l.take (i+1))<=9223372036854775807:=by
   have h3:=Int.mul_le_mul hB hd.2 hd.1 (by decide);omega
  have m1:=Int.mul_le_mul_of_nonneg_right w2 (show 0<=(l.getD i tst0).hi - (l.getD i tst0).lo by omega);have m2:=Int.mul_le_mul_of_nonneg_right w3 (show 0<=(l.getD i tst0).hi - (l.getD i tst0).lo by omega);have m3:=Int.mul_le_mul hB (show (l.getD i tst0).hi - (l.getD i tst0).lo<=65536 by omega) (by omega) (by decide);rw [Int.neg_mul] at m1;rw [xz9 (by omega),ih,sumStep,w1,mulG,addG hD,<-e,if_pos ⟨yw5 hD (by omega) (by omega) hDb,yw5 hD (by omega) (by omega) hDb⟩]
theorem qs4 {l:List Tst} {a b:Int} {P:Va->Prop} (h: ∀s∈l,(0<=s.lo/\s.hi<=65536)/\P s.v): ∀s∈cutT l a b,(0<=s.lo/\s.hi<=65536)/\P s.v:=by
 refine yj5 (P:=fun s=>(0<=s.lo/\s.hi<=65536)/\P s.v) (fun x s hx hs e=>⟨⟨hx.1.1,hs.1.2⟩,hx.2⟩) _ _ (fun s hs=>by cases hs) fun s hs hlt=> ?_;obtain ⟨x,hx,rfl⟩:=zcp.1 hs;have h1:=h x hx;refine ⟨?_,h1.2⟩;simp only [clip] at*
 omega
theorem wa8 {D B:Int} {l:List Tst} {a b:Int} (hD:0 < D) (hDb:D<=9223372036854775807) (hB0:0<=B) (hB:B<=140737488355327) (hr:ascT l) (hb: ∀s∈l,0<=s.lo/\s.hi<=65536) (hw:wtOk D B l):sumT (cutT l a b)=some (Rat.divInt (gS (wt D) l a b) D):=by
 have hp:=qs4 (a:=a) (b:=b) (P:=fun v=>v.f.rat=Rat.divInt (wt D v) D/\ -B<=wt D v/\wt D v<=B) fun s hs=>⟨hb s hs,hw s hs⟩
 have:=sum_G (l:=cutT l a b) hD hDb hB0 hB (jz0 hr).1 (fun s hs=>(hp s hs).1) (fun s hs=>(hp s hs).2) _ (zbs _)
 rwa [zbx,jt5] at this
theorem jz1 (q:Rat):(fr q).dig:=⟨xc3 x8 _,xc3 x8 _⟩
def gOk (K:Nat) (D B:Int) (v:Va):Prop:=(v.valid=true/\v.kind=K/\v.i=0/\v.f=fr v.f.rat/\short v.f.rat)/\v.f.rat=Rat.divInt (wt D v) D/\ -B<=wt D v/\wt D v<=B
theorem gOk.dig {K:Nat} {D B:Int} {v:Va} (h:gOk K D B v):v.f.dig:=by rw [h.1.2.2.2.1];exact jz1 _
theorem gOk.mk {K:Nat} {D B k:Int} (hK:K=2∨K=3) (hD:0 < D) (hDb:D<=9223372036854775807) (h1: -B<=k) (h2:k<=B) (hB:B<=9223372036854775807):gOk K D B ⟨K,fr (Rat.divInt k D),0⟩:=by
 have hs:short (Rat.divInt k D):=yw5 hD (by omega) (by omega) hDb;have hw:wt D ⟨K,fr (Rat.divInt k D),0⟩=k:=wt_is hD (yr7 _);refine ⟨⟨?_,rfl,rfl,by rw [yr7],by rw [yr7];exact hs⟩,?_,?_,?_⟩
 ·rw [Va.valid,if_pos hK];simp only [zcg,zdj];exact ⟨trivial,yv8 hs⟩
 ·rw [hw];exact yr7 _
 ·rw [hw];exact h1
 ·rw [hw];exact h2
def isG (K:Nat) (D B:Int) (l:List Tst):Prop:=tRight l=true/\ ∀s∈l,gOk K D B s.v
section
variable {K:Nat} {D B:Int} {l a b:List Tst}
theorem isG.dig (h:isG K D B l): ∀s∈l,s.v.f.dig:=fun s hs=>(h.2 s hs).dig
theorem isG.bd (h:isG K D B l): ∀s∈l,0<=s.lo/\s.lo < s.hi/\s.hi<=65536:=fun s hs=>by
 obtain ⟨i,hi,rfl⟩:=xv0 hs;have:=xt7 h.1 hi;exact ⟨this.1,this.2.1,this.2.2.1⟩
theorem isG.asc (h:isG K D B l):ascT l:=y7 h.1
theorem isG.wt (h:isG K D B l):wtOk D B l:=fun s hs=>(h.2 s hs).2
theorem isG.out (h:isG K D B l): ∀s∈l,0<=s.lo/\s.hi<=65536:=fun s hs=>by have:=h.bd s hs;omega
theorem isG_of (h:ascT l) (hn:nbT l) (hv: ∀s∈l,(0<=s.lo/\s.hi<=65536)/\gOk K D B s.v):isG K D B l:=
 ⟨jq3 (K:=K) h hn fun s hs=>⟨(hv s hs).1.1,(hv s hs).1.2,(hv s hs).2.1.1,(hv s hs).2.1.2.1⟩,fun s hs=>(hv s hs).2⟩
theorem js5 {ps:List Tst} (hp:ps.Pairwise fun s t=>s.lo < s.hi->s.hi<=t.lo) (hv: ∀s∈ps,s.lo < s.hi->(0<=s.lo/\s.hi<=65536)/\gOk K D B s.v):isG K D B (pst [] ps):=by
 have h:=xo6 ps [] ⟨fun s hs=>(by cases hs),.nil⟩ trivial hp fun x hx=>by cases hx
 exact isG_of h.1 h.2.1 (yj5 (P:=fun s=>(0<=s.lo/\s.hi<=65536)/\gOk K D B s.v) (fun x s hx hs e=>⟨⟨hx.1.1,hs.1.2⟩,hx.2⟩) _ _ (fun s hs=>by cases hs) hv)
theorem isG.cut {x y:Int} (h:isG K D B l):isG K D B (cutT l x y):=by
 refine js5 (h.asc.2.map (clip x y) fun s t hst _=>by simp only [clip];omega) fun s hs _=> ?_;obtain ⟨z,hz,rfl⟩:=zcp.1 hs;have:=h.bd z hz;exact ⟨by simp only [clip];omega,h.2 z hz⟩
theorem za3 {g:Int->Option Va}: ∀{ds:List Int} {s:Tst},s∈segL g ds->s.lo∈ds/\s.hi∈ds/\g s.lo=some s.v
 | [],s,h=>by cases h
 | [x],s,h=>by cases h
 | x::y::r,s,h=>by
  rw [segL] at h;rcases zbo.1 h with h | h
  ·cases hg:g x with
   | none=>rw [hg] at h;cases h
   | some v=>
    rw [hg] at h;rw [zbj.1 h];exact ⟨by simp,by simp,hg⟩
  ·have:=za3 h;exact ⟨zcd _ this.1,zcd _ this.2.1,this.2.2⟩
theorem wd6 (d:Int):valT (jnT a b) d=(valT b d).or (valT a d):=jo4 xr9 (yj8 (by simp)) (yj8 (by simp)) d
theorem isG.sum {x y:Int} (hK:K=2∨K=3) (hD:0 < D) (hDb:D<=9223372036854775807) (hB0:0<=B) (hB:B<=140737488355327) (h:isG K D B l) (hxy:Sn.ok ⟨x,y⟩=true):sumC l x y/\sumT (cutT l x y)=some (Rat.divInt (gS (An.S.wt D) l x y) D):=by
 refine ⟨⟨⟨h.1,hxy⟩,?_⟩,wa8 hD hDb hB0 hB h.asc h.out h.wt⟩;rcases zcf l.length with h0 | h0
 ·exact .inl h0
 ·have:=(h.2 _ (xi0 (l:=l) h0)).1.2.1;rcases hK with rfl | rfl
  ·exact .inr (.inl this)
  ·exact .inr (.inr this)
end
def bd (l:List Sn) (i:Nat):Int:=if i%2=0 then (l.getD (i / 2) sn0).lo else (l.getD (i / 2) sn0).hi
theorem jt2 {l:List Sn} {i:Nat} (h:sVal l=true) (hi:i+1 < 2*l.length):bd l i < bd l (i+1):=by
 rcases Nat.mod_two_eq_zero_or_one i with h0 | h0
 ·have:=yh0 h (i:=i / 2) (by omega);rw [bd,bd,if_pos h0,if_neg (by omega),show (i+1) / 2=i / 2 by omega];exact this.2.1
 ·have:=(xr4.1 (xr7.1 h ((i+1) / 2) (by omega))).2.2.resolve_left (by omega);rw [bd,bd,if_neg (by omega),if_pos (by omega)];rw [show (i+1) / 2 - 1=i / 2 by omega] at this;exact this
theorem bd_lt {l:List Sn} (h:sVal l=true): ∀{j i:Nat},i < j->j < 2*l.length->bd l i < bd l j
 | j+1,i,hij,hj=>by
  have h1:=jt2 h hj;rcases zcx i j with h2 | h2
  ·have:=bd_lt h h2 (by omega);omega
  ·have:i=j:=by omega
   subst this;exact h1
def mem (l:List Sn) (d:Int):Bool:=l.any fun s=>decide (s.lo<=d) && decide (d < s.hi)
theorem mem_iff {l:List Sn} {d:Int}:mem l d=true↔ ∃s∈l,s.lo<=d/\d < s.hi:=by simp [mem]
theorem ji3 {l:List Sn} {d:Int}:mem l d=false↔ ∀s∈l,¬(s.lo<=d/\d < s.hi):=by
 rw [<-Bool.not_eq_true,mem_iff];simp only [not_exists,not_and]
theorem yg5 {l:List Sn} {s:Sn} {d:Int}:mem (l++[s]) d=(mem l d || (decide (s.lo<=d) && decide (d < s.hi))):=by simp [mem]
theorem yu4 {l:List Sn} {s:Sn} (hs:s∈l): ∃i,i < l.length/\s=l.getD i sn0:=by
 obtain ⟨i,hi,e⟩:=List.getElem_of_mem hs;exact ⟨i,hi,by rw [zbh,zbi hi];exact e.symm⟩
theorem wd7 (l:List Sn) (p:Nat):bd l (2*p)=(l.getD p sn0).lo:=by rw [bd,if_pos (by omega),show 2*p / 2=p by omega]
theorem bd_odd (l:List Sn) (p:Nat):bd l (2*p+1)=(l.getD p sn0).hi:=by rw [bd,if_neg (by omega),show (2*p+1) / 2=p by omega]
theorem jv4 {l:List Sn} (h:sVal l=true) {i j:Nat} (hij:i < j) (hj:j < l.length):(l.getD i sn0).hi < (l.getD j sn0).lo:=by
 have:=bd_lt h (show 2*i+1 < 2*j by omega) (by omega)
 rwa [bd_odd,wd7] at this
def setS (l:List Sn):Prop:=(∀s∈l,okS s)/\l.Pairwise fun s t=>s.hi < t.lo
theorem zr3 {l:List Sn} (h:sVal l=true):setS l:=by
 refine ⟨fun s hs=> ?_,zfi.2 fun i j hi hj hij=> ?_⟩
 ·obtain ⟨i,hi,rfl⟩:=yu4 hs;exact yh0 h hi
 ·have:=jv4 h hij hj
  rwa [zbh,zbh,zbi hi,zbi hj] at this
theorem mem_cons {s:Sn} {r:List Sn} {d:Int}:mem (s::r) d=((decide (s.lo<=d) && decide (d < s.hi)) || mem r d):=by simp [mem]
theorem ys7 {s:Sn} {r:List Sn} {d:Int} (h:setS (s::r)) (hd:d<=s.hi):mem r d=false:=ji3.2 fun t ht h'=>by
 have:=(zcv.1 h.2).1 t ht;omega
theorem qj3: ∀{a b:List Sn},setS a->setS b->(∀d,mem a d=mem b d)->a=b
 | [],[],_,_,_=>rfl
 | [],t::u,_,hb,h=>by
  have h1:=hb.1 t (zcb ..);have h2:=h t.lo;rw [mem_cons] at h2;simp [mem,h1.2.1] at h2
 | s::r,[],ha,_,h=>by
  have h1:=ha.1 s (zcb ..);have h2:=h s.lo;rw [mem_cons] at h2;simp [mem,h1.2.1] at h2
 | s::r,t::u,ha,hb,h=>by
  have hs:=ha.1 s (zcb ..);have ht:=hb.1 t (zcb ..);have pa:=zcv.1 ha.2;have pb:=zcv.1 hb.2;have l1:t.lo<=s.lo:=by
   obtain ⟨x,hx,hx2⟩:=mem_iff.1 ((h s.lo).symm.trans (by rw [mem_cons];simp [hs.2.1]));rcases zbr.1 hx with rfl | hx
   ·exact hx2.1
   ·have:=pb.1 x hx;have:=ht.2.1;omega
  have l2:s.lo<=t.lo:=by
   obtain ⟨x,hx,hx2⟩:=mem_iff.1 ((h t.lo).trans (by rw [mem_cons];simp [ht.2.1]));rcases zbr.1 hx with rfl | hx
   ·exact hx2.1
   ·have:=pa.1 x hx;have:=hs.2.1;omega
  have l3:t.hi<=s.hi:=by
   rcases Int.lt_or_le s.hi t.hi with h1 | h1
   ·have h2:=h s.hi;have:=hs.2.1;rw [mem_cons,mem_cons,ys7 ha (zfp _)] at h2;simp [h1,show t.lo<=s.hi by omega] at h2
   ·exact h1
  have l4:s.hi<=t.hi:=by
   rcases Int.lt_or_le t.hi s.hi with h1 | h1
   ·have h2:=h t.hi;have:=ht.2.1;rw [mem_cons,mem_cons,ys7 hb (zfp _)] at h2;simp [h1,show s.lo<=t.hi by omega] at h2
   ·exact h1
  have est:s=t:=by
   obtain ⟨a1,a2⟩:=s;obtain ⟨b1,b2⟩:=t;simp only at l1 l2 l3 l4;rw [show a1=b1 by omega,show a2=b2 by omega]
  subst est
  congr 1
  refine qj3 ⟨fun x hx=>ha.1 x (zcd _ hx),pa.2⟩ ⟨fun x hx=>hb.1 x (zcd _ hx),pb.2⟩ fun d=> ?_;rcases Int.lt_or_le d s.hi with h1 | h1
  ·rw [ys7 ha (by omega),ys7 hb (by omega)]
  ·have h2:=h d;rw [mem_cons,mem_cons] at h2;simpa [show ¬d < s.hi by omega] using h2
theorem jq8 {a b:List Sn} (ha:sVal a=true) (hb:sVal b=true) (h: ∀d,mem a d=mem b d):a=b:=qj3 (zr3 ha) (zr3 hb) h
theorem qq2 {d:Int}: ∀(xs acc:List Sn),ascS xs->sVal acc=true->(0 < acc.length-> ∀s∈xs,(lastS acc).hi<=s.lo)->mem (xs.foldl mrg1 acc) d=(mem acc d || mem xs d)
 | [],acc,_,_,_=>by simp [mem]
 | s::r,acc,hx,hv,hl=>by
  have hs:=hx.1 s (zcb ..);have hp:=zcv.1 hx.2;have hr:ascS r:=⟨fun t ht=>hx.1 t (zcd _ ht),hp.2⟩
  have h1:=zf5 [s] acc ⟨fun t ht=>hx.1 t (by rw [zbj.1 ht];exact zcb ..),zge ..⟩ hv fun h0 t ht=>hl h0 t (by rw [zbj.1 ht];exact zcb ..);have key:mem (mrg1 acc s) d=(mem acc d || (decide (s.lo<=d) && decide (d < s.hi)))/\(lastS (mrg1 acc s)).hi=s.hi:=by
   rw [mrg1];split
   ·rename_i hm;have h2:(lastS acc).hi=s.lo:=by have:=hl hm.1 s (zcb ..);have h2:s.lo<=(lastS acc).hi:=hm.2;omega
    have hmax:max (acc.getD (acc.length - 1) sn0).hi s.hi=s.hi:=by
     have h3:(acc.getD (acc.length - 1) sn0).hi=s.lo:=h2;have:=hs.2.1;omega
    rw [hmax];refine ⟨?_,by rw [lastS,zdy,xz7 (by omega),if_pos rfl]⟩;rw [xv3 hm.1,yg5];have e3:mem acc d=(mem (acc.take (acc.length - 1)) d || (decide ((lastS acc).lo<=d) && decide (d < (lastS acc).hi))):=by rw [<-yg5,<-ym4 hm.1]
    rw [e3,h2];have h4:=yh0 hv (i:=acc.length - 1) (by omega);have h5:(lastS acc).lo < s.lo:=by rw [<-h2];exact h4.2.1
    have h6:(acc.getD (acc.length - 1) sn0).lo=(lastS acc).lo:=rfl;have:=hs.2.1;dsimp only;rw [h6,Bool.or_assoc]
    congr 1
    rw [Bool.eq_iff_iff];simp;omega
   ·rename_i hm;exact ⟨yg5,by rw [lastS,xu4,zbp,zgp,if_neg (by omega),if_pos (by omega)]⟩
  have ih:=qq2 (d:=d) r (mrg1 acc s) hr h1.1 fun _ t ht=>by rw [key.2];exact hp.1 t ht
  rw [List.foldl_cons,ih,key.1,mem_cons,Bool.or_assoc]
def fndT (l:List Tst) (d:Int):Nat:=(l.takeWhile fun s=>decide (s.hi<=d)).length
theorem qn0 {d:Int}: ∀{l:List Tst} {p:Nat},p<=l.length->(∀i,i < p->(l.getD i tst0).hi<=d)->(p < l.length->d < (l.getD p tst0).hi)->p=fndT l d
 | [],p,hp,_,_=>by simp at hp;subst hp;rfl
 | s::r,0,_,_,h=>by
  have h1:d < s.hi:=h (by simp);rw [fndT,List.takeWhile_cons,if_neg (by simp;omega)];rfl
 | s::r,p+1,hp,h1,h2=>by
  have h3:s.hi<=d:=h1 0 (by omega);have ih:=qn0 (d:=d) (l:=r) (p:=p) (by simpa using hp) (fun i hi=>by have:=h1 (i+1) (by omega);simpa using this) (fun hp2=>by have:=h2 (by simpa using hp2);simpa using this);rw [fndT,List.takeWhile_cons,if_pos (by simp;omega),zeq,<-fndT,<-ih]
theorem qb5 {l:List Tst} (h:tRight l=true) {i j:Nat} (hij:i<=j) (hj:j < l.length):(l.getD i tst0).hi<=(l.getD j tst0).hi:=by
 rcases zcx i j with h1 | h1
 ·have:=ya8 h h1 hj;have:=(xt7 h hj).2.1;omega
 ·rw [show i=j by omega];exact zfp _
theorem jv3 {l:List Tst} {d:Int}:fndT l d<=l.length:=(List.takeWhile_sublist _).length_le
theorem zw5 {d:Int}: ∀l:List Tst,onL l d=l.drop (fndT l d)
 | []=>rfl
 | s::r=>by
  by_cases h:s.hi<=d
  ·have e1:onL (s::r) d=onL r d:=by rw [onL,List.dropWhile_cons_of_pos (by simpa using h)];rfl
   have e2:fndT (s::r) d=fndT r d+1:=by rw [fndT,List.takeWhile_cons,if_pos (by simpa using h),zeq,<-fndT]
   rw [e1,e2,List.drop_succ_cons,zw5 r]
  ·have e1:onL (s::r) d=s::r:=by rw [onL,List.dropWhile_cons_of_neg (by simpa using h)]
   have e2:fndT (s::r) d=0:=by rw [fndT,List.takeWhile_cons,if_neg (by simpa using h)];rfl
   rw [e1,e2,List.drop_zero]
theorem yj6 {l:List Tst} {d:Int} (h:tRight l=true):valT l d=if fndT l d < l.length/\(l.getD (fndT l d) tst0).lo<=d then some (l.getD (fndT l d) tst0).v else none:=by
 rw [<-zi0 (y7 h),onV,zw5,List.length_drop];have e:(l.drop (fndT l d)).getD 0 tst0=l.getD (fndT l d) tst0:=by
  rw [zbh,zbh,List.getElem?_drop,zek]
 rw [e];by_cases h1:fndT l d < l.length/\(l.getD (fndT l d) tst0).lo<=d
 ·rw [if_pos h1,if_pos ⟨by omega,h1.2⟩]
 ·rw [if_neg h1,if_neg (fun h'=>h1 ⟨by omega,h'.2⟩)]
def atR (l:List Tst) (d:Int):Option Va:=if tRight l=true then valT l d else none
def spT (s:Tst):Sn:=⟨s.lo,s.hi⟩
def cvS (l:List Tst):List Sn:=l.map spT
def cvL (l:List Tst) (i:Nat):List Sn:=(l.take i).map spT++List.replicate (l.length - i) sn0
theorem jv2 {l:List Tst} {i:Nat} (hi:i<=l.length):(cvL l i).length=l.length:=by simp [cvL];omega
theorem jw3 {l:List Tst} {i:Nat} (hi:i < l.length):(cvL l i).set i (spT (l.getD i tst0))=cvL l (i+1):=by
 have h1:((l.take i).map spT).length=i:=by simp;omega
 rw [cvL,List.set_append_right _ _ (by omega),h1,Nat.sub_self,show l.length - i=(l.length - (i+1))+1 by omega,List.replicate_succ,List.set_cons_zero,cvL,zby hi,zeo,zfj,zbh,zbi hi];rfl
theorem wb4 (l:List Tst):cvL l l.length=cvS l:=by simp [cvL,cvS]
theorem zi5 {l:List Tst} (h:tRight l=true):ascS (cvS l):=by
 refine ⟨fun s hs=> ?_,(yu9 h).map spT fun s t hst=>hst⟩;obtain ⟨x,hx,rfl⟩:=zcp.1 hs;obtain ⟨i,hi,rfl⟩:=xv0 hx;have:=xt7 h hi;exact ⟨this.1,this.2.1,this.2.2.1⟩
theorem zj3 {l:List Sn} (h:ascS l):mkS l=mrg l:=by rw [mkS,jm5 h,js2 h]
def cvT (l:List Tst):List Sn:=mkS (cvS l)
theorem qp5 {l:List Tst} {d:Int}:mem (cvS l) d=(valT l d).isSome:=by
 rw [Bool.eq_iff_iff,mem_iff];constructor
 ·rintro ⟨s,hs,h⟩;obtain ⟨x,hx,rfl⟩:=zcp.1 hs;cases hv:valT l d with
  | some v=>rfl
  | none=>exact absurd h (yc3.1 hv x hx)
 ·intro h;obtain ⟨v,hv⟩:=Option.isSome_iff_exists.1 h;obtain ⟨s,hs,h2,_⟩:=yc2 hv;exact ⟨spT s,zdd hs,h2⟩
theorem jh8 {l:List Sn} (h:ascS l):sVal (mkS l)=true/\ ∀d,mem (mkS l) d=mem l d:=by
 rw [zj3 h];have h1:=zf5 l [] h rfl fun h'=>by cases h'
 refine ⟨h1.1,fun d=> ?_⟩;have:=qq2 (d:=d) l [] h rfl fun h'=>by cases h'
 rw [mrg,this];rfl
theorem wc0 {l:List Tst} (h:tRight l=true):sVal (cvT l)=true/\ ∀d,mem (cvT l) d=(valT l d).isSome:=by
 have:=jh8 (zi5 h);exact ⟨this.1,fun d=>by rw [cvT,this.2,qp5]⟩
def jnC (a b:List Tst):Prop:=(tRight a=true/\tRight b=true)/\ ¬(0 < a.length/\0 < b.length/\(a.getD 0 tst0).v.kind≠(b.getD 0 tst0).v.kind)
instance (a b:List Tst):Decidable (jnC a b):=inferInstanceAs (Decidable (_/\_))
def gdf (a b:List Tst) (d:Int):Option Va:=if dfB a b d then some An.va0 else none
theorem qm1 (a b:List Tst): ∀k,dfK a b k=cvS (segN (gdf a b) (bds [a,b]) k)
 | 0=>rfl
 | k+1=>by
  rw [yz7,xu3,cvS,zeo,<-cvS,<-qm1 a b k]
  congr 1
  rw [dfI,segI,gdf];by_cases h:dfB a b ((bds [a,b]).getD k 0)=true
  ·rw [if_pos h,if_pos h];rfl
  ·rw [if_neg h,if_neg h];rfl
theorem zg7 (a b:List Tst):dfT a b=cvS (segL (gdf a b) (bds [a,b])):=by rw [dfT,qm1,q8]
def dfS (a b:List Tst):List Sn:=mkS (dfT a b)
theorem jh3 {a b:List Tst} (ha:tRight a=true) (hb:tRight b=true) {x:Int} (hx:x∈bds [a,b]):0<=x/\x<=65536:=by
 obtain ⟨l,hl,s,hs,he⟩:=ys8.1 hx;have:0<=s.lo/\s.lo < s.hi/\s.hi<=65536:=by
  rcases zbr.1 hl with rfl | hl
  ·obtain ⟨i,hi,rfl⟩:=xv0 hs;have:=xt7 ha hi;omega
  ·rw [zbj.1 hl] at hs;obtain ⟨i,hi,rfl⟩:=xv0 hs;have:=xt7 hb hi;omega
 omega
theorem zf4 {a b:List Tst} (ha:tRight a=true) (hb:tRight b=true):ascS (dfT a b):=by
 rw [zg7];have hp:=zi6 (g:=gdf a b) (xr9 (ls:=[a,b]));refine ⟨fun s hs=> ?_,hp.2.map spT fun s t hst=>hst⟩;obtain ⟨x,hx,rfl⟩:=zcp.1 hs;have h1:=za3 hx;have b1:=jh3 ha hb h1.1;have b2:=jh3 ha hb h1.2.1;exact ⟨b1.1,hp.1 x hx,b2.2⟩
theorem jz7 {a b:List Tst} (ha:tRight a=true) (hb:tRight b=true):sVal (dfS a b)=true/\ ∀d,mem (dfS a b) d=dfB a b d:=by
 have:=jh8 (zf4 ha hb);refine ⟨this.1,fun d=> ?_⟩;rw [dfS,this.2,zg7,qp5,qg5 (a:=a) (b:=b) (fun d x h1 h2=>by rw [gdf,gdf,dfB,dfB,h1,h2]) (fun d h1 h2=>by rw [gdf,dfB,h1,h2];rfl) xr9 (yj8 (by simp)) (yj8 (by simp)),gdf];cases dfB a b d <;> rfl
end An.S
namespace An
open Go
section
variable {P:Program} {c:Base} {d ty:Nat} {pos:String} {af:Array Edge} {gd:Option (Nat×Bool)}
end
end An
