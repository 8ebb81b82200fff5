/- Part 3 of a proof: Fr, W11, W12, Split, Tl, LibZa, S1, Ref, Ref2, Ref3, S2, S3, S4, Tl2, S5, LibZ, S6, LibZb, S7, Tl3, S8, Sv, Tv, Tv2, Tv3, LibZe, LibZd, Tw, LibZf, P1, Gs, Tx, Chg, Chg2a, Ty, LibZc, P2, LibZg, P3, Stab, Stab2, Stab3, Fa, F1. -/
import Derived.Shelf.SlSortCmp.NoneTotal
import Derived.Shelf.Sort.Plain
import Derived.Shelf.Slices.In.SortNone
import Derived.Shelf.Slices.CompactI
import Derived.Test.YtobjfhagbkjegaaGreatDoorR2
set_option maxHeartbeats 4000000
set_option maxRecDepth 100000
namespace An
open Go
structure Fr where
  n:Wh
  d:Wh
deriving DecidableEq
abbrev tFr (f:Fr):Ty:=tS [⟨2,true,tWh f.n⟩,⟨2,true,tWh f.d⟩]
abbrev tTm (f:Fr):Ty:=tS [⟨4,true,tFr f⟩]
def fr (q:Rat):Fr:=⟨wh q.num,wh q.den⟩
def fr0:Fr:=⟨⟨false,[]⟩,⟨false,[]⟩⟩
def Fr.sh (f:Fr):Bool:=decide (f.n.l.length≤256) && decide (f.d.l.length≤256)
def short (q:Rat):Prop:=len16 q.num≤256∧len16 q.den≤256
instance (q:Rat):Decidable (short q):=inferInstanceAs (Decidable (_∧_))
theorem sh_fr (q:Rat):(fr q).sh=decide (short q):=by
 show (decide (len16 q.num≤256) && decide (len16 q.den≤256))=_
 exact (Bool.decide_and _ _).symm
def Wh.int (x:Wh):Int:=sgn x.neg (val 65536 x.l)
theorem int_wh (z:Int):(wh z).int=z:=by
 show sgn (wh z).neg (val 65536 (dig 65536 z.natAbs))=z
 rw [xj2 x9];exact sgn_wh z
def Fr.valid (f:Fr):Bool:=f.sh && f.n.valid && f.d.valid && decide (0 < f.d.int) && decide (Int.gcd f.n.int f.d.int=1)
theorem valid_fr {q:Rat} (h:short q):(fr q).valid=true:=by
 have h1:(wh q.num).valid=true:=valid_wh (Nat.le_trans h.1 (by decide))
 have h2:(wh (q.den:Int)).valid=true:=valid_wh (Nat.le_trans h.2 (by decide))
 have hd:=q.den_nz
 have hg:Int.gcd q.num (q.den:Int)=1:=by simpa [Int.gcd] using q.reduced
 have e1:(fr q).n.int=q.num:=int_wh _
 have e2:(fr q).d.int=(q.den:Int):=int_wh _
 simp only [Fr.valid,Bool.and_eq_true,decide_eq_true_eq]
 rw [e1,e2]
 exact ⟨⟨⟨⟨by rw [sh_fr];exact decide_eq_true h,h1⟩,h2⟩,by omega⟩,hg⟩
theorem wh_one:wh 1=⟨false,[1]⟩:=by
 have e:dig 65536 1=[1]:=by rw [xh8 x9 (by decide),show (1:Nat) / 65536=0 by decide,xc3]
 show (⟨decide ((1:Int) < 0),dig 65536 1⟩:Wh)=_
 rw [e];rfl
theorem wh_zero:wh 0=⟨false,[]⟩:=by
 show (⟨decide ((0:Int) < 0),dig 65536 0⟩:Wh)=_
 rw [xc3];rfl
theorem len16_le {x y:Int} (h:x.natAbs≤y.natAbs):len16 x≤len16 y:=xe4 x9 h
theorem len16_div {x y:Int} {k:Nat} (hx:len16 x≤k):len16 (x / y)≤k:=by
 refine Nat.le_trans (len16_le ?_) hx
 exact Int.natAbs_ediv_le_natAbs x y
theorem lowest_eq {n d:Int} (hd:0 < d):fr (Rat.divInt n d)=⟨wh (n / (Int.gcd n d:Int)),wh (d / (Int.gcd n d:Int))⟩:=by
 obtain ⟨m,rfl⟩:=Int.eq_ofNat_of_zero_le (Int.le_of_lt hd)
 have hm:m≠0:=by omega
 rw [Rat.divInt_ofNat,←Rat.normalize_eq_mkRat hm,Rat.normalize_eq]
 simp only [fr]
 have e:Int.gcd n (m:Int)=n.natAbs.gcd m:=by simp [Int.gcd]
 rw [e,←Int.natCast_ediv]
end An
namespace An.S
open Go Go.Proofs An
instance ti113:TyI Tryz.prog 113 4 true:=⟨by kernel_rfl,by kernel_rfl⟩
instance fo26_0:FoI Tryz.prog 26 0 0:=⟨by kernel_rfl⟩
instance fo26_1:FoI Tryz.prog 26 1 2:=⟨by kernel_rfl⟩
instance fo113_0:FoI Tryz.prog 113 0 0:=⟨by kernel_rfl⟩
instance fi99:FnI Tryz.prog 99:=⟨_,Tryz.func99,by kernel_rfl,rfl⟩
instance fi118:FnI Tryz.prog 118:=⟨_,Tryz.func118,by kernel_rfl,rfl⟩
theorem isOne_iff {x:Wh} (hn:x.neg=false) (hl:x.l.length=1):decide (((x.l.getD 0 0:Nat):Int)=1)=decide (x=⟨false,[1]⟩):=by
 obtain ⟨n,l⟩:=x
 simp only at hn hl
 subst hn
 obtain ⟨a,rfl⟩:=List.length_eq_one_iff.1 hl
 simp
 omega
theorem c_isOne (x:Wh):
  Ct Tryz.prog 99 [tWh x] (tB (decide (x=⟨false,[1]⟩))):=by
 refine Ct.intro Tryz.func99 rfl Tryz.ntmps99 rfl ?_
 intro w F
 refine A12 ?_
 refine RGcase (t:=6) rfl (fun h54=> ?_) (fun h54=> ?_)
 ·
  refine A6 ?_
  refine RGcaseD (t:=12) rfl (fun h54_2=> ?_) (fun h54_2=> ?_)
  ·
   refine A2 ?_
   refine RGon (decide_eq_true h54_2) rfl (x6 sl22 (0) (by omega) (gN (by omega))) rfl ⟨rfl,rfl,trivial⟩ trivial trivial ?_
   refine A7 ?_
   exact x3 Plain.mk' rfl rfl (Le.bool (isOne_iff (by simpa using h54) (by omega)))
  ·
   refine A10 ?_
   exact x3 Plain.mk' rfl rfl (Le.bool (decide_eq_false (fun h=>h54_2 (by rw [h];rfl))).symm)
 ·
  refine A16 ?_
  exact x3 Plain.mk' rfl rfl (Le.bool (decide_eq_false (fun h=>by rw [h] at h54;simp at h54)).symm)
theorem c_Tlong (f:Fr):
  Ct Tryz.prog 96 [tTm f] (tB (!f.sh)):=by
 refine Ct.intro Tryz.func96 rfl Tryz.ntmps96 rfl ?_
 intro w F
 refine A11 ?_
 refine xf7 (0) ti22 rfl rfl rfl (At.t (At.g 0 rfl rfl) (At.t (At.g 0 rfl rfl) (At.g 1 rfl rfl))) rfl ?_
 refine A3 ?_
 refine RGcaseD (t:=9) rfl (fun h33=> ?_) (fun h33=> ?_)
 ·
  refine A11 ?_
  exact x3 Plain.mk' rfl rfl (Le.bool (by rw [Fr.sh,decide_eq_false (show ¬f.n.l.length≤256 by omega)];rfl))
 ·
  refine A3 ?_
  refine xb7 (decide_eq_false h33) rfl rfl (0) ti22 rfl rfl rfl (At.t (At.g 0 rfl rfl) (At.t (At.g 1 rfl rfl) (At.g 1 rfl rfl))) rfl ?_
  refine A7 ?_
  exact x3 Plain.mk' rfl rfl (Le.bool (by rw [Fr.sh,decide_eq_true (show f.n.l.length≤256 by omega),Bool.true_and,←decide_not];exact decide_eq_decide.2 (by omega)))
theorem c_Tintegral (f:Fr):
  Ct Tryz.prog 98 [tTm f] (tB (decide (f.d=⟨false,[1]⟩))):=by
 refine Ct.intro Tryz.func98 rfl Tryz.ntmps98 rfl ?_
 intro w F
 refine A10 ?_
 refine xf7 (0) ti24 rfl rfl rfl (At.t (At.g 0 rfl rfl) (At.g 1 rfl rfl)) rfl (R1 (x4 (c_isOne _) fi99 rfl) rfl ?_)
 refine A4 ?_
 exact x3 Plain.mk' rfl rfl Le.refl
theorem c_divisor (x y:Int) (hx:len16 x≤1024) (hy:len16 y≤1024):
  Ct Tryz.prog 100 [tWh (wh x),tWh (wh y)] (tWh (wh ((Int.gcd x y:Nat):Int))):=by
 refine Ct.intro Tryz.func100 rfl Tryz.ntmps100 rfl ?_
 intro w F
 refine A4 ?_
 refine RE (xb0 (k:=4) (n:=2) (agg:=true) zr24.1 zr24.2 rfl) trivial trivial ⟨rfl,trivial⟩ ?_
 refine A6 ?_
 refine R2 (x4 (c_Gcd x y hx hy) fi118 rfl) rfl rfl ?_
 refine A3 ?_
 refine RE (xb0 (k:=5) (n:=2) (agg:=true) zr24.1 zr24.2 rfl) trivial trivial ⟨rfl,trivial⟩ ?_
 refine A11 ?_
 exact xg0 Plain.mk' rfl ⟨_,_,_,_,_,rfl,rfl,ti24,Le.refl⟩
instance ti26:TyI Tryz.prog 26 4 true:=⟨by kernel_rfl,by kernel_rfl⟩
instance fi69:FnI Tryz.prog 69:=⟨_,Tryz.func69,by kernel_rfl,rfl⟩
instance fi70:FnI Tryz.prog 70:=⟨_,Tryz.func70,by kernel_rfl,rfl⟩
instance fi96:FnI Tryz.prog 96:=⟨_,Tryz.func96,by kernel_rfl,rfl⟩
instance fi98:FnI Tryz.prog 98:=⟨_,Tryz.func98,by kernel_rfl,rfl⟩
instance fi100:FnI Tryz.prog 100:=⟨_,Tryz.func100,by kernel_rfl,rfl⟩
theorem zr113:(Tryz.prog.info? 113).bind (·.zero)=some (.agg #[.bool false,.slice none 0 0,.bool false,.slice none 0 0])∧ ∀F w,(tS [⟨4,true,(tS [⟨2,true,(tS [⟨1,false,(tE (.bool false))⟩,⟨1,false,(tLm [])⟩])⟩,⟨2,true,(tS [⟨1,false,(tE (.bool false))⟩,⟨1,false,(tLm [])⟩])⟩])⟩]).p F w (.agg #[.bool false,.slice none 0 0,.bool false,.slice none 0 0]):=⟨by kernel_rfl,fun _ _=>⟨_,rfl,rfl,⟨fun h=>Bool.noConfusion h,⟨_,rfl,rfl,⟨fun h=>Bool.noConfusion h,⟨_,rfl,rfl,⟨fun _=>rfl,rfl⟩,⟨fun _=>rfl,⟨none,0,rfl,Nat.le_refl _,by decide,.inl rfl⟩⟩,trivial⟩⟩,⟨fun h=>Bool.noConfusion h,⟨_,rfl,rfl,⟨fun _=>rfl,rfl⟩,⟨fun _=>rfl,⟨none,0,rfl,Nat.le_refl _,by decide,.inl rfl⟩⟩,trivial⟩⟩,trivial⟩⟩,trivial⟩⟩
theorem bu113:BuI Tryz.prog 113 (fun i=>[(0,4)][i]?) (.agg #[.bool false,.slice none 0 0,.bool false,.slice none 0 0]):=BuI.struct Tryz.underlying113 (by kernel_rfl) (by kernel_rfl)
theorem gcd_one_dec {x y:Int}:decide (wh ((Int.gcd x y:Nat):Int)=⟨false,[1]⟩)=decide (Int.gcd x y=1):=by
 rw [←wh_one]
 refine decide_eq_decide.2 ⟨fun h'=> ?_,fun h'=>by rw [h'];rfl⟩
 have:=wh_inj h';omega
theorem pos_of_wh {y:Int} (h1:(wh y).neg=false) (h2: ¬(wh y).l.length=0):0 < y:=by
 have h3: ¬y < 0:=of_decide_eq_false h1
 have h4:y≠0:=fun h=>h2 (by rw [h,wh_zero];rfl)
 omega
theorem c_Tvalid (f:Fr) (hn:Dig 65536 f.n.l) (hd:Dig 65536 f.d.l):
  Ct Tryz.prog 70 [tTm f] (tB f.valid):=by
 obtain ⟨n,d⟩:=f
 replace hn:Dig 65536 n.l:=hn
 replace hd:Dig 65536 d.l:=hd
 refine Ct.intro Tryz.func70 rfl Tryz.ntmps70 rfl ?_
 intro w F
 refine A10 ?_
 refine R1 (x4 (c_Tlong _) fi96 rfl) rfl ?_
 refine A1 ?_
 refine RGcase (t:=5) rfl (fun h38=> ?_) (fun h38=> ?_)
 ·
  have hs:(⟨n,d⟩:Fr).sh=false:=by simpa using h38
  refine A18 ?_
  refine A18 ?_
  refine A1 ?_
  exact x3 Plain.mk' rfl rfl (Le.bool (by simp only [Fr.valid,hs,Bool.false_and]))
 ·
  have hs:(⟨n,d⟩:Fr).sh=true:=by simpa using h38
  refine A2 ?_
  refine xb7 h38 rfl rfl (0) ti24 rfl rfl rfl (At.t (At.g 0 rfl rfl) (At.g 0 rfl rfl)) rfl (RGon h38 rfl (x4 (c_WValid n) fi97 rfl) rfl ⟨rfl,trivial⟩ trivial trivial ?_)
  refine A3 ?_
  refine RGcase (t:=12) rfl (fun h38_2=> ?_) (fun h38_2=> ?_)
  ·
   have hv1:n.valid=false:=by simpa using h38_2
   refine A18 ?_
   refine A12 ?_
   exact x3 Plain.mk' rfl rfl (Le.bool (by simp only [Fr.valid,hv1,Bool.and_false,Bool.false_and]))
  ·
   have hv1:n.valid=true:=by simpa using h38_2
   refine A2 ?_
   refine xb7 h38_2 rfl rfl (0) ti24 rfl rfl rfl (At.t (At.g 0 rfl rfl) (At.g 1 rfl rfl)) rfl (RGon h38_2 rfl (x4 (c_WValid d) fi97 rfl) rfl ⟨rfl,trivial⟩ trivial trivial ?_)
   refine A3 ?_
   refine RGcase (t:=19) rfl (fun h38_3=> ?_) (fun h38_3=> ?_)
   ·
    have hv2:d.valid=false:=by simpa using h38_3
    refine A18 ?_
    refine A5 ?_
    exact x3 Plain.mk' rfl rfl (Le.bool (by simp only [Fr.valid,hv2,Bool.and_false,Bool.false_and]))
   ·
    have hv2:d.valid=true:=by simpa using h38_3
    obtain ⟨x,rfl,hxl⟩:=Wh.of_valid hn hv1
    obtain ⟨y,rfl,hyl⟩:=Wh.of_valid hd hv2
    have ix:=int_wh x
    have iy:=int_wh y
    refine A3 ?_
    refine xb7 h38_3 rfl rfl (0) ti4 rfl rfl rfl (At.t (At.g 0 rfl rfl) (At.t (At.g 1 rfl rfl) (At.g 0 rfl rfl))) rfl ?_
    refine A2 ?_
    refine RGcase (t:=25) rfl (fun h38_4=> ?_) (fun h38_4=> ?_)
    ·
     have hy0: ¬0 < y:=by have:y < 0:=of_decide_eq_true h38_4;omega
     refine A17 ?_
     exact x3 Plain.mk' rfl rfl (Le.bool (by simp only [Fr.valid,ix,iy,decide_eq_false hy0,Bool.and_false,Bool.false_and]))
    ·
     refine A3 ?_
     refine xb7 h38_4 rfl rfl (0) ti22 rfl rfl rfl (At.t (At.g 0 rfl rfl) (At.t (At.g 1 rfl rfl) (At.g 1 rfl rfl))) rfl ?_
     refine A5 ?_
     refine x7 rfl (fun h38_5=> ?_) (fun h38_5=> ?_)
     ·
      have hy0: ¬0 < y:=fun h=>by
       have h5:(((wh y).l.length:Nat):Int)=0:=h38_5
       have h2:(wh y).l.length=0:=by omega
       have h3:y.natAbs=0:=(xi2 x9).1 (List.length_eq_zero_iff.1 h2)
       omega
      refine A7 ?_
      exact x3 Plain.mk' rfl rfl (Le.bool (by simp only [Fr.valid,ix,iy,decide_eq_false hy0,Bool.and_false,Bool.false_and]))
     ·
      have h5: ¬(((wh y).l.length:Nat):Int)=0:=h38_5
      have hy0:0 < y:=pos_of_wh h38_4 (by omega)
      refine A3 ?_
      refine C_key (k:=1) (e':=⟨113,4,true,[.val (tTm ⟨wh x,wh y⟩)]⟩) rfl rfl ?_
      refine A2 ?_
      refine R1 (x4 (c_Tintegral _) fi98 rfl) rfl ?_
      refine A1 ?_
      refine RGcase (t:=35) rfl (fun h41=> ?_) (fun h41=> ?_)
      ·
       have hy1:y=1:=by have h:=of_decide_eq_true h41;exact wh_inj (h.trans wh_one.symm)
       refine A13 ?_
       exact x3 Plain.mk' rfl rfl (Le.bool (by simp only [Fr.valid,ix,iy,hs,hv1,hv2,Bool.true_and];rw [hy1];simp))
      ·
       have hy1: ¬y=1:=fun h=>of_decide_eq_false h41 (by show wh y=_;rw [h,wh_one])
       refine A2 ?_
       refine xb7 h41 rfl rfl (0) ti24 rfl rfl rfl (At.t (At.g 0 rfl rfl) (At.g 0 rfl rfl)) rfl ?_
       refine A2 ?_
       refine xb7 h41 rfl rfl (0) ti24 rfl rfl rfl (At.t (At.g 0 rfl rfl) (At.g 1 rfl rfl)) rfl (RGon h41 rfl (x4 (c_divisor x y hxl hyl) fi100 rfl) rfl ⟨rfl,rfl,trivial⟩ trivial trivial (RGon h41 rfl (x4 (c_isOne _) fi99 rfl) rfl ⟨rfl,trivial⟩ trivial trivial ?_))
       refine A5 ?_
       exact x3 Plain.mk' rfl rfl (Le.bool (by simp only [Fr.valid,ix,iy,hs,hv1,hv2,decide_eq_true hy0,Bool.true_and];exact gcd_one_dec))
theorem c_FValid (f:Fr) (hn:Dig 65536 f.n.l) (hd:Dig 65536 f.d.l):
  Ct Tryz.prog 45 [tFr f] (tB f.valid):=by
 refine Ct.intro Tryz.func45 rfl Tryz.ntmps45 rfl ?_
 intro w F
 refine A9 ?_
 refine R1 (xd7 (r:=tS [⟨4,true,tFr f⟩]) (ts:=[(0,tFr f)]) bu113 zr113.2 (Bc 0 rfl rfl rfl Le.refl)) rfl (R1 (x4 (c_Tvalid f hn hd) fi70 rfl) rfl ?_)
 refine A4 ?_
 exact x3 Plain.mk' rfl rfl Le.refl
theorem xk7 (f g:Fr):
  Ct Tryz.prog 44 [tFr f,tFr g] (tB (decide (f=g))):=by
 refine Ct.intro Tryz.func44 rfl Tryz.ntmps44 rfl ?_
 intro w F
 refine A13 ?_
 refine R2 (x4 (c_WSame _ _) fi69 rfl) rfl rfl ?_
 refine A1 ?_
 refine RGcase (t:=10) rfl (fun h107=> ?_) (fun h107=> ?_)
 ·
  have hn:f.n=g.n:=of_decide_eq_true h107
  refine A4 ?_
  refine RGon h107 rfl (x4 (c_WSame _ _) fi69 rfl) rfl ⟨rfl,rfl,trivial⟩ trivial trivial ?_
  refine A5 ?_
  exact x3 Plain.mk' rfl rfl (Le.bool (by obtain ⟨a,b⟩:=f;obtain ⟨c,d⟩:=g;simp only at hn;subst hn;simp))
 ·
  have hn:f.n≠g.n:=of_decide_eq_false h107
  refine A10 ?_
  exact x3 Plain.mk' rfl rfl (Le.bool (decide_eq_false (fun h=>hn (by rw [h]))).symm)
end An.S
namespace An
open Go
def Fr.dig (f:Fr):Prop:=Dig 65536 f.n.l∧Dig 65536 f.d.l
def Fr.rat (f:Fr):Rat:=Rat.divInt f.n.int f.d.int
theorem rat_fr (q:Rat):(fr q).rat=q:=by
 have e1:(fr q).n.int=q.num:=int_wh _
 have e2:(fr q).d.int=(q.den:Int):=int_wh _
 rw [Fr.rat,e1,e2,Rat.divInt_ofNat,Rat.mkRat_self]
def take (q:Rat) (n:Int):Int:=(q*(n:Rat)).floor
theorem len16_64 {n:Int} (h1: -9223372036854775808≤n) (h2:n≤9223372036854775807):len16 n≤4:=wh_len _ (by omega)
structure Va where
  kind:Nat
  f:Fr
  i:Int
deriving DecidableEq
structure Sn where
  lo:Int
  hi:Int
deriving DecidableEq
structure Tst where
  lo:Int
  hi:Int
  v:Va
deriving DecidableEq
instance:Inhabited Sn:=⟨⟨0,0⟩⟩
def va0:Va:=⟨0,fr0,0⟩
def sn0:Sn:=⟨0,0⟩
def tst0:Tst:=⟨0,0,va0⟩
abbrev tVa (v:Va):Ty:=tS [⟨1,false,tE (.int .u8 (v.kind:Int))⟩,⟨4,true,tFr v.f⟩,⟨1,false,tI v.i⟩]
abbrev tSn (s:Sn):Ty:=tS [⟨1,false,tI s.lo⟩,⟨1,false,tI s.hi⟩]
abbrev tTs (s:Tst):Ty:=tS [⟨1,false,tI s.lo⟩,⟨1,false,tI s.hi⟩,⟨6,true,tVa s.v⟩]
def Va.valid (v:Va):Bool:=
 if v.kind=2∨v.kind=3 then decide (v.i=0) && v.f.valid
 else if v.kind=1 then decide (v.f=fr0) && decide (0≤v.i) && decide (v.i≤1)
 else if v.kind=4 then decide (v.f=fr0) && decide (0≤v.i) && decide (v.i < 65536)
 else if v.kind=5∨v.kind=6 then decide (v.f=fr0) && decide (-1048576≤v.i) && decide (v.i≤1048576)
 else false
def tOk (l:List Tst) (i:Nat):Bool:=
 decide (0≤(l.getD i tst0).lo) && decide ((l.getD i tst0).lo < (l.getD i tst0).hi) && decide ((l.getD i tst0).hi≤65536) &&
  (decide (i=0) || decide ((l.getD (i - 1) tst0).hi≤(l.getD i tst0).lo) && decide ((l.getD (i - 1) tst0).v.kind=(l.getD i tst0).v.kind) && !(decide ((l.getD (i - 1) tst0).hi=(l.getD i tst0).lo) && decide ((l.getD (i - 1) tst0).v=(l.getD i tst0).v)))
def tRight (l:List Tst):Bool:=(List.range l.length).all (tOk l) && l.all fun s=>s.v.valid
def Sn.ok (s:Sn):Bool:=decide (0≤s.lo) && decide (s.lo≤s.hi) && decide (s.hi≤65536)
def mrg1 (acc:List Sn) (s:Sn):List Sn:=
 if 0 < acc.length∧s.lo≤(acc.getD (acc.length - 1) sn0).hi then acc.set (acc.length - 1) ⟨(acc.getD (acc.length - 1) sn0).lo,max (acc.getD (acc.length - 1) sn0).hi s.hi⟩ else acc++[s]
def mrg (xs:List Sn):List Sn:=xs.foldl mrg1 []
theorem run_equalI {P:Program} {T:TypeId} {k:IntKind} (hT:P.underlying T=some (.int k)) (d:Nat) (p q:Int) (w:World):(Op.equalIn (d+1) T (.int k p) (.int k q)).run P w= .ok (p==q) w:=by
 simp only [Op.equalIn,Sem.run_bind,run_underlying hT,Result.andThen_ok,Sem.run_pure,if_true]
theorem run_equalS2 {P : Program} {T E : TypeId} {k : IntKind} {f0 f1 : Field} (hT : P.underlying T = some (.struct #[f0, f1])) (hE : P.underlying E = some (.int k)) (h0 : f0.type = E) (h1 : f1.type = E) (n0 : f0.name ≠ "_") (n1 : f1.name ≠ "_") (o0 : f0.offset = 0) (o1 : f1.offset = 1)
  (hA: ∀w,(isAgg E).run P w= .ok false w) (hs:P.stoodInHeld T=false) (a b c d:Int) (w:World):(Op.equal T (.agg #[.int k a,.int k b]) (.agg #[.int k c,.int k d])).run P w= .ok (a==c && b==d) w:=by
 have key: ∀n,(Op.equalIn (n+2) T (.agg #[.int k a,.int k b]) (.agg #[.int k c,.int k d])).run P w= .ok (a==c && b==d) w:=fun n=>by
  have hp: ∀w,(program).run P w= .ok P w:=fun _=>rfl
  rw [Op.equalIn]
  simp only [Sem.run_bind,run_underlying hT,Result.andThen_ok,hp,hs,Bool.false_eq_true,if_false]
  simp [n0,n1,h0,h1,o0,o1,go_sem,hA,run_equalI hE]
  by_cases e1:a=c <;> by_cases e2:b=d <;> simp [e1,e2,go_sem]
 exact key 9998
structure EqS2 (P:Program) (T:TypeId):Prop where
  eq: ∀(a b c d:Int) (w:World),(Op.equal T (.agg #[.int .i64 a,.int .i64 b]) (.agg #[.int .i64 c,.int .i64 d])).run P w= .ok (a==c && b==d) w
  guard:P.eqGuardType P.depth T=false
theorem tSn_val {F:Dom} {w:World} {s:Sn} {v:Value} (h:(tSn s).p F w v):v= .agg #[.int .i64 s.lo,.int .i64 s.hi]:=by
 obtain ⟨cs,rfl,h2,h3,h4,_⟩:=h
 have h2:cs.size=2:=h2
 obtain ⟨l⟩:=cs
 match l,h2 with
 | [x,y],_=>
  have e1:x= .int .i64 s.lo:=h3.2
  have e2:y= .int .i64 s.hi:=h4.2
  subst e1;subst e2;rfl
theorem tSn_mk {F:Dom} {w:World} {s:Sn}:(tSn s).p F w (.agg #[.int .i64 s.lo,.int .i64 s.hi]):=⟨_,rfl,rfl,⟨fun _=>rfl,rfl⟩,⟨fun _=>rfl,rfl⟩,trivial⟩
theorem d_neqSn {P:Program} {c:Base} {d ty:Nat} {pos:String} {af:Array Edge} {gd:Option (Nat×Bool)} {T yT:TypeId} {x y:Operand} {s t:Sn} (h:EqS2 P T):
  Does P c ⟨some d,.binOp .neq T x y yT,ty,pos,af,gd⟩ ⟨[(x,.val (tSn s)),(y,.val (tSn t))],[],some (d,some (.val (tB (decide (s≠t))))),[],[]⟩:=
 Does.value rfl fun g hh al a w η hrd _ st=>by
  have h1:=tSn_val (x8 st hrd.1).1
  have h2:=tSn_val (x8 st hrd.2.1).1
  have hp: ∀w,(program).run P w= .ok P w:=fun _=>rfl
  have hg:(eqGuard .neq T x y (.agg #[.int .i64 s.lo,.int .i64 s.hi]) (.agg #[.int .i64 t.lo,.int .i64 t.hi])).run P w= .ok () w:=by
   simp [eqGuard,go_sem,h.guard]
  have hb:(binOp .neq T (.agg #[.int .i64 s.lo,.int .i64 s.hi]) (.agg #[.int .i64 t.lo,.int .i64 t.hi])).run P w= .ok (.bool (!(s.lo==t.lo && s.hi==t.hi))) w:=by
   simp only [binOp,Sem.run_bind,h.eq,Result.andThen_ok,Sem.run_pure]
  refine ⟨.bool (!(s.lo==t.lo && s.hi==t.hi)),w,?_,Ext.refl w,?_,fun k hk=>by cases hk⟩
  ·simp only [execOp,h1,h2,Sem.run_bind,hg,hb,Result.andThen_ok,Sem.run_pure]
  ·show _=Value.bool (decide (s≠t))
   congr 1
   obtain ⟨a,b⟩:=s;obtain ⟨a',b'⟩:=t
   by_cases e1:a=a' <;> by_cases e2:b=b' <;> simp [e1,e2]
theorem St.recast {c:Base} {g:Slots} {h:Keys} {al:Names} {a:Act} {w:World} {t:Nat} {e e':Ent} (hs:St c g h al a w) (hg:g t=some e) (hi: ∀F η v,e.sat F w η v→e'.sat F w η v) (hsup:e'.supp=[]):St c (upd g t (some e')) h al a w:=by
 obtain ⟨η,s⟩:=hs
 have s2:=s.put (s.slot t _ hg).1 (e:=e') (hi _ _ _ (s.slot t _ hg).2.2) fun j hj=>by rw [hsup] at hj;cases hj
 refine ⟨η,?_⟩
 have ea:a.put (some t) (a.tmps.getD t undef)=a:=by
  have hlt:t < a.tmps.size:=by rw [s.tn];exact (s.slot t _ hg).1
  have:a.tmps.setIfInBounds t (a.tmps.getD t undef)=a.tmps:=by
   apply Array.ext_getElem?
   intro i
   rw [Array.getElem?_setIfInBounds]
   by_cases hi:t=i
   ·subst hi;simp [hlt]
   ·simp [hi]
  simp only [Act.put,this]
 rw [←ea];exact s2
theorem fdOne_row {F:Dom} {w:World} {η:Env} {cs:Array Value}: ∀(ts:List Ty) (o:Nat),Fd.all F w cs o (fdOne ts)→RowOk F w η cs o (ts.map Ent.val)
 | [],_,_=>fun i e hi=>by simp at hi
 | t::r,o,h=>fun i e hi=>by
  cases i with
  | zero=>
   simp only [List.map_cons,List.getElem?_cons_zero,Option.some.injEq] at hi
   subst hi
   exact h.1.2
  | succ i=>
   have:=fdOne_row (η:=η) r (o+1) h.2 i e (by simpa using hi)
   rwa [show o+1+i=o+(i+1) by omega] at this
theorem Does.rowV {P:Program} {c:Base} {o:Oper} {rd:List (Operand×Ent)} {kr:List (Nat×HEnt)} {d:Nat} {ts:List Ty} {kw:List (Nat×Option HEnt)} {nk:List Nat} {es:List Ent} (he:ts.map Ent.val=es) (hd:Does P c o ⟨rd,kr,some (d,some (.val (tS (fdOne ts)))),kw,nk⟩):
  Does P c o ⟨rd,kr,some (d,some (.own (An.rowV es))),kw,nk⟩:=by
 subst he
 intro g h al a w hp hs
 refine Oper.wpIn_mono (fun a' w' hs'=> ?_) (hd g h al a w ⟨hp.rd,hp.kr,hp.nk,fun x hx=>by cases hx;exact hp.d (d,some (.own (An.rowV (ts.map Ent.val)))) rfl⟩ hs)
 have:=hs'.recast (t:=d) (e':= .own (An.rowV (ts.map Ent.val))) (xa7 _ _ _) (fun F η v hv=> ?_) (by rw [rowV_supp];simp [List.flatMap_map,Ent.supp])
 ·simp only [Eff.g,upd_twice] at this ⊢
  exact this
 ·obtain ⟨cs,h1,h2,h3⟩:=hv
  exact rowV_sat.2 ⟨cs,h1,by rw [h2,fdOne_sum];simp,fdOne_row ts 0 h3⟩
theorem C_nilC {P:Program} {c:Base} {g:Slots} {h:Keys} {al:Names} {Q:Exit→Act→World→Prop} {x:Code} {q Tq:Nat} {us us':List Ent} (k T es:Nat) (agg:Bool) (i:Nat) (hq:h q=some ⟨Tq,1,false,us⟩) (hi:us[i]? =some (.val (tE (.slice none 0 0)))) (hk:al k=false) (hes:Nat.blt 0 es=true) (hagg:agg=false→es=1) (hne:Nat.beq q k=false)
  (hus:us.set i (.own (.sl k es 0 0))=us') (H:wc P c x Q g (upd (upd h k (some ⟨T,es,agg,[]⟩)) q (some ⟨Tq,1,false,us'⟩)) (fun j=>Nat.beq j k || al j)):wc P c x Q g h al:=fun a w hs=>by
 obtain ⟨η,s⟩:=hs
 subst hus
 obtain ⟨η',s',hc,hoth⟩:=s.ghost k hk T es agg (by simpa using hes) hagg
 have hqk:q≠k:=fun e=>by rw [e] at hne;simp at hne
 have hq':upd h k (some ⟨T,es,agg,[]⟩) q=some ⟨Tq,1,false,us⟩:=by rw [xa4 _ _ _ hqk];exact hq
 refine H a w ⟨η',s'.same hq' rfl ?_ ?_⟩
 ·intro j hj
  simp only [HEnt.supp,List.mem_flatMap] at hj
  obtain ⟨e,he,hj⟩:=hj
  obtain ⟨n,hn⟩:=List.getElem?_of_mem he
  rcases List.getElem?_set_cases hn with ⟨_,rfl,_⟩ | ⟨_,hn'⟩
  ·simp only [Ent.supp,VP.supp,List.mem_singleton] at hj
   subst hj;simp
  ·exact (s'.key q _ hq').2.1 j (HEnt.mem_supp hn' hj)
 ·obtain ⟨k1,k2,k3,k4,k5⟩:=(s'.key q _ hq').2.2.1
  refine ⟨by simpa using k1,k2,k3,k4,fun hc0=> ?_⟩
  obtain ⟨cs,c1,c2,c3⟩:=k5 hc0
  refine ⟨cs,c1,c2,fun n e hn=> ?_⟩
  rcases List.getElem?_set_cases hn with ⟨rfl,rfl,_⟩ | ⟨_,hn'⟩
  ·have h6:_=_:=c3 n _ hi
   refine ⟨none,?_,by simp [hc],fun hlt=>by rw [hc] at hlt;omega⟩
   rw [hc]
   exact h6
  ·exact c3 n e hn'
end An
namespace An.S
open Go Go.Proofs An
instance ti3:TyI Tryz.prog 3 1 false:=⟨by kernel_rfl,by kernel_rfl⟩
instance ti5:TyI Tryz.prog 5 1 false:=⟨by kernel_rfl,by kernel_rfl⟩
instance ti28:TyI Tryz.prog 28 6 true:=⟨by kernel_rfl,by kernel_rfl⟩
instance ti50:TyI Tryz.prog 50 2 true:=⟨by kernel_rfl,by kernel_rfl⟩
instance sl42:SlI Tryz.prog 42 50 2 true:=⟨Tryz.underlying42,ti50⟩
instance fo28_0:FoI Tryz.prog 28 0 0:=⟨by kernel_rfl⟩
instance fo28_1:FoI Tryz.prog 28 1 1:=⟨by kernel_rfl⟩
instance fo28_2:FoI Tryz.prog 28 2 5:=⟨by kernel_rfl⟩
instance fi34:FnI Tryz.prog 34:=⟨_,Tryz.func34,by kernel_rfl,rfl⟩
instance fi60:FnI Tryz.prog 60:=⟨_,Tryz.func60,by kernel_rfl,rfl⟩
instance fi87:FnI Tryz.prog 87:=⟨_,Tryz.func87,by kernel_rfl,rfl⟩
instance un42:UnI Tryz.prog 42 (.slice 50):=⟨Tryz.underlying42⟩
theorem xs3 (l:List Nat) (k:Nat) (hk:k < l.length):l.take (k+1)=l.take k++[l.getD k 0]:=by
 rw [List.take_succ_eq_append_getElem hk,List.getD_eq_getElem?_getD,List.getElem?_eq_getElem hk];rfl
theorem xs6 (l:List Sn) (k:Nat) (hk:k < l.length):l.take (k+1)=l.take k++[l.getD k sn0]:=by
 rw [List.take_succ_eq_append_getElem hk,List.getD_eq_getElem?_getD,List.getElem?_eq_getElem hk];rfl
theorem eq_Sn:EqS2 Tryz.prog 50:=⟨run_equalS2 Tryz.underlying50 Tryz.underlying3 rfl rfl (by decide) (by decide) rfl rfl (fun w=>by kernel_rfl) (by kernel_rfl),by kernel_rfl⟩
theorem c_SameLimbs (xs ys:List Nat):
  Ct Tryz.prog 87 [tLm xs,tLm ys] (tB (decide (xs=ys))):=by
 refine Ct.intro Tryz.func87 rfl Tryz.ntmps87 rfl ?_
 intro w F
 refine xf1 (s:=0) rfl (fun hl0=> ?_)
 refine A15 ?_
 refine x7 rfl (fun h9=> ?_) (fun h9=> ?_)
 ·
  refine A7 ?_
  exact x3 Plain.mk' rfl rfl (Le.bool (decide_eq_false (fun h=>by rw [h] at h9;omega)).symm)
 ·
  have hll:xs.length=ys.length:=by omega
  refine A9 ?_
  refine cL (fun (i:Nat)=>i≤xs.length∧xs.take i=ys.take i) (fun (i:Nat)=>upd (upd (upd (fun _=>none) 0 (some (.val (tLm xs)))) 1 (some (.val (tLm ys)))) 5 (some (.val (tI i)))) (fun (i:Nat)=>fun _=>none) [] (fun (i:Nat)=>xs.length - i) (0) ⟨Nat.zero_le _,rfl⟩ ?_
  intro i hI
  obtain ⟨hi,ht⟩:=hI
  refine A9 ?_
  refine x7 rfl (fun h12=> ?_) (fun h12=> ?_)
  ·
   refine A8 ?_
   refine R2 (x6 sl22 (i) (by omega) (gN (by omega))) rfl rfl ?_
   refine A3 ?_
   refine R2 (x6 sl22 (i) (by omega) (gN (by omega))) rfl rfl ?_
   refine A4 ?_
   refine x7 rfl (fun h13=> ?_) (fun h13=> ?_)
   ·
    refine A11 ?_
    exact x3 Plain.mk' rfl rfl (Le.bool (decide_eq_false (fun h=>by rw [h] at h13;exact (h13 rfl))).symm)
   ·
    refine A8 ?_
    exact kF (i+1) ⟨⟨by omega,by rw [xs3 xs i (by omega),xs3 ys i (by omega),ht,show xs.getD i 0=ys.getD i 0 from (by omega)]⟩,(by omega)⟩
  ·
   refine A11 ?_
   exact x3 Plain.mk' rfl rfl (Le.bool (decide_eq_true (by rw [show i=xs.length by omega,List.take_length,hll,List.take_length] at ht;exact ht)).symm)
theorem c_SameSpans (xs ys:List Sn):
  Ct Tryz.prog 16 [tL 2 true tSn xs,tL 2 true tSn ys] (tB (decide (xs=ys))):=by
 refine Ct.intro Tryz.func16 rfl Tryz.ntmps16 rfl ?_
 intro w F
 refine xf1 (s:=0) rfl (fun hl0=> ?_)
 refine A15 ?_
 refine x7 rfl (fun h178=> ?_) (fun h178=> ?_)
 ·
  refine A7 ?_
  exact x3 Plain.mk' rfl rfl (Le.bool (decide_eq_false (fun h=>by rw [h] at h178;omega)).symm)
 ·
  have hll:xs.length=ys.length:=by omega
  refine A9 ?_
  refine cL (fun (i:Nat)=>i≤xs.length∧xs.take i=ys.take i) (fun (i:Nat)=>upd (upd (upd (fun _=>none) 0 (some (.val (tL 2 true tSn xs)))) 1 (some (.val (tL 2 true tSn ys)))) 5 (some (.val (tI i)))) (fun (i:Nat)=>fun _=>none) [] (fun (i:Nat)=>xs.length - i) (0) ⟨Nat.zero_le _,rfl⟩ ?_
  intro i hI
  obtain ⟨hi,ht⟩:=hI
  refine A9 ?_
  refine x7 rfl (fun h181=> ?_) (fun h181=> ?_)
  ·
   refine A8 ?_
   refine R2 (x6 sl42 i (by omega) (gD (d:=sn0) (by omega))) rfl rfl ?_
   refine A3 ?_
   refine R2 (x6 sl42 i (by omega) (gD (d:=sn0) (by omega))) rfl rfl ?_
   refine A1 ?_
   refine R2 (d_neqSn eq_Sn) rfl rfl ?_
   refine A2 ?_
   refine x7 rfl (fun h182=> ?_) (fun h182=> ?_)
   ·
    refine A11 ?_
    exact x3 Plain.mk' rfl rfl (Le.bool (decide_eq_false (fun h=>by rw [h] at h182;exact (h182 rfl))).symm)
   ·
    refine A8 ?_
    exact kF (i+1) ⟨⟨by omega,by rw [xs6 xs i (by omega),xs6 ys i (by omega),ht,show xs.getD i sn0=ys.getD i sn0 from (Decidable.of_not_not h182)]⟩,(by omega)⟩
  ·
   refine A11 ?_
   exact x3 Plain.mk' rfl rfl (Le.bool (decide_eq_true (by rw [show i=xs.length by omega,List.take_length,hll,List.take_length] at ht;exact ht)).symm)
theorem xr8 (x y:Wh):
  Ct Tryz.prog 60 [tWh x,tWh y] (tB (decide (x=y))):=by
 refine Ct.intro Tryz.func60 rfl Tryz.ntmps60 rfl ?_
 intro w F
 refine A15 ?_
 refine RGcase (t:=10) rfl (fun h81=> ?_) (fun h81=> ?_)
 ·
  refine A4 ?_
  refine RGon h81 rfl (x4 (c_SameLimbs _ _) fi87 rfl) rfl ⟨rfl,rfl,trivial⟩ trivial trivial ?_
  refine A5 ?_
  exact x3 Plain.mk' rfl rfl (Le.bool (by obtain ⟨a,b⟩:=x;obtain ⟨c,d⟩:=y;simp_all))
 ·
  refine A10 ?_
  exact x3 Plain.mk' rfl rfl (Le.bool (by obtain ⟨a,b⟩:=x;obtain ⟨c,d⟩:=y;simp_all))
theorem c_SameFrac (x y:Fr):
  Ct Tryz.prog 34 [tFr x,tFr y] (tB (decide (x=y))):=by
 refine Ct.intro Tryz.func34 rfl Tryz.ntmps34 rfl ?_
 intro w F
 refine A13 ?_
 refine R2 (x4 (xr8 _ _) fi60 rfl) rfl rfl ?_
 refine A1 ?_
 refine RGcaseD (t:=10) rfl (fun h113=> ?_) (fun h113=> ?_)
 ·
  refine A4 ?_
  refine RGon (decide_eq_true h113) rfl (x4 (xr8 _ _) fi60 rfl) rfl ⟨rfl,rfl,trivial⟩ trivial trivial ?_
  refine A5 ?_
  exact x3 Plain.mk' rfl rfl (Le.bool (by obtain ⟨a,b⟩:=x;obtain ⟨c,d⟩:=y;simp_all))
 ·
  refine A10 ?_
  exact x3 Plain.mk' rfl rfl (Le.bool (by obtain ⟨a,b⟩:=x;obtain ⟨c,d⟩:=y;simp_all))
theorem xr6 (x y:Va):
  Ct Tryz.prog 14 [tVa x,tVa y] (tB (decide (x=y))):=by
 refine Ct.intro Tryz.func14 rfl Tryz.ntmps14 rfl ?_
 intro w F
 refine A15 ?_
 refine RGcaseD (t:=10) rfl (fun h146=> ?_) (fun h146=> ?_)
 ·
  refine A4 ?_
  refine RGon (decide_eq_true h146) rfl (x4 (c_SameFrac _ _) fi34 rfl) rfl ⟨rfl,rfl,trivial⟩ trivial trivial ?_
  refine A2 ?_
  refine RGcaseD (t:=17) rfl (fun h146_2=> ?_) (fun h146_2=> ?_)
  ·
   refine A10 ?_
   exact x3 Plain.mk' rfl rfl (Le.bool (by obtain ⟨a,b,e⟩:=x;obtain ⟨c,d,f⟩:=y;simp only [Va.mk.injEq] at*;simp_all <;> omega))
  ·
   refine A10 ?_
   exact x3 Plain.mk' rfl rfl (Le.bool (by obtain ⟨a,b,e⟩:=x;obtain ⟨c,d,f⟩:=y;simp only [Va.mk.injEq] at*;simp_all <;> omega))
 ·
  refine A17 ?_
  exact x3 Plain.mk' rfl rfl (Le.bool (by obtain ⟨a,b,e⟩:=x;obtain ⟨c,d,f⟩:=y;simp only [Va.mk.injEq] at*;simp_all <;> omega))
theorem c_Limbs (x:Fr) (h1:x.n.l.length≤4611686018427387903) (h2:x.d.l.length≤4611686018427387903):
  Ct Tryz.prog 4 [tFr x] (tI ((x.n.l.length:Int)+(x.d.l.length:Int))):=by
 refine Ct.intro Tryz.func4 rfl Tryz.ntmps4 rfl ?_
 intro w F
 refine A10 ?_
 refine xf7 (0) ti22 rfl rfl rfl (At.t (At.g 0 rfl rfl) (At.g 1 rfl rfl)) rfl ?_
 refine A3 ?_
 refine xf7 (0) ti22 rfl rfl rfl (At.t (At.g 1 rfl rfl) (At.g 1 rfl rfl)) rfl ?_
 refine A6 ?_
 exact x3 Plain.mk' rfl rfl Le.refl
end An.S
namespace An
open Go
abbrev tM (v:Nat):Ty:=tLm (dig 65536 v)
theorem trim_step' {a:List Nat} {k:Nat} (hk:k≤a.length) (h0:0 < k) (hz:a.getD (k - 1) 0=0):trimL (a.take (k - 1))=trimL (a.take k):=by
 have h1:=xd8 a (k - 1) (by omega)
 rw [show k - 1+1=k from by omega] at h1
 rw [h1,hz,xo0]
theorem trim_stop' {a:List Nat} {k:Nat} (hk:k≤a.length) (h0:0 < k) (hz: ¬a.getD (k - 1) 0=0):trimL (a.take k)=a.take k:=by
 refine trimL_Top fun x hx=> ?_
 have h1:=xd8 a (k - 1) (by omega)
 rw [show k - 1+1=k from by omega] at h1
 rw [h1,List.getLast?_append] at hx
 simp at hx
 rw [←hx]
 simpa [List.getD_eq_getElem?_getD] using hz
theorem short_in {a d r k q n:Nat} {qs:List Nat} (hk:k < n) (hl:qs.length=n) (hD:Dig 65536 qs) (hd:0 < d) (hr:r=a / 65536 ^ (k+1)%d) (hv:val 65536 (qs.drop (k+1))=a / 65536 ^ (k+1) / d) (hq:(r*65536+a / 65536 ^ k%65536) / d=q):
  (qs.set k q).length=n∧Dig 65536 (qs.set k q)∧(r*65536+a / 65536 ^ k%65536)%d=a / 65536 ^ k%d∧val 65536 ((qs.set k q).drop k)=a / 65536 ^ k / d∧q < 65536:=by
 have e0:a / 65536 ^ k=65536*(a / 65536 ^ (k+1))+a / 65536 ^ k%65536:=xo5 65536 a k (by decide)
 have hrd:r < d:=by rw [hr];exact Nat.mod_lt _ hd
 have e1:a / 65536 ^ k=(r*65536+a / 65536 ^ k%65536)+d*(65536*(a / 65536 ^ (k+1) / d)):=by
  have h1:=Nat.div_add_mod (a / 65536 ^ (k+1)) d
  rw [←hr] at h1
  have h2:65536*(a / 65536 ^ (k+1))=d*(65536*(a / 65536 ^ (k+1) / d))+65536*r:=by
   conv=>lhs;rw [←h1]
   rw [Nat.mul_add,Nat.mul_left_comm]
  omega
 have hqW:q < 65536:=by
  rw [←hq];refine Nat.div_lt_of_lt_mul ?_
  have h4:a / 65536 ^ k%65536 < 65536:=Nat.mod_lt _ (by decide)
  have h5:(r+1)*65536≤d*65536:=Nat.mul_le_mul_right _ hrd
  omega
 refine ⟨by simpa using hl,hD.set hqW,?_,?_,hqW⟩
 ·conv=>rhs;rw [e1,Nat.add_mul_mod_self_left]
 ·rw [xi8 _ _ _ (by simpa using (by omega:k < qs.length)),xq3 (by omega),xg3,hv]
  conv=>rhs;rw [e1,Nat.add_mul_div_left _ _ hd,hq]
theorem one_limb {b:Nat} (h:(dig 65536 b).length=1):(dig 65536 b).getD 0 0=b:=by
 rw [xb9 x9,Nat.pow_zero,Nat.div_one]
 have:=(xb6 x9 b 1).1 (Nat.le_of_eq h)
 rw [Nat.pow_one] at this
 exact Nat.mod_eq_of_lt this
theorem trim1L {x:Nat} (hx:x < 65536):trimL [x]=dig 65536 x:=by
 rw [xe5 x9 (Dig.cons hx (Dig.nil _)),xg8,val_nil];simp
theorem dig_lt_of {B a b k:Nat} (hB:2≤B) (h:a / B ^ (k+1)=b / B ^ (k+1)) (hd:(dig B a).getD k 0 < (dig B b).getD k 0):a < b:=cmp_lt (by omega) h (by rw [←xb9 hB,←xb9 hB];exact hd)
theorem xr1 {a i:Nat} (h:i < (dig 65536 a).length):65536 ^ i≤a:=by
 rcases Nat.lt_or_ge a (65536 ^ i) with h' | h'
 ·have:=(xb6 x9 a i).2 h';omega
 ·exact h'
theorem rplus_in {a b i n s:Nat} (hn:n=(a%65536 ^ i+b%65536 ^ i) / 65536 ^ i) (hs:s=n+a / 65536 ^ i%65536+b / 65536 ^ i%65536):
  dgs 65536 i (a+b)++[s%65536]=dgs 65536 (i+1) (a+b)∧s / 65536=(a%65536 ^ (i+1)+b%65536 ^ (i+1)) / 65536 ^ (i+1):=by
 have hp:0 < 65536 ^ i:=Nat.pow_pos (by decide)
 have ea:=Nat.div_add_mod a (65536 ^ i)
 have eb:=Nat.div_add_mod b (65536 ^ i)
 have e1:(a+b) / 65536 ^ i=n+a / 65536 ^ i+b / 65536 ^ i:=by
  have:a+b=(a%65536 ^ i+b%65536 ^ i)+65536 ^ i*(a / 65536 ^ i+b / 65536 ^ i):=by rw [Nat.mul_add];omega
  rw [this,Nat.add_mul_div_left _ _ hp,←hn];omega
 refine ⟨?_,?_⟩
 ·rw [xk0,e1,hs]
  congr 2
  omega
 ·rw [Nat.pow_succ,←Nat.div_div_eq_div_mul,←Nat.pow_succ,xk3,xk3]
  have e2:a%65536 ^ i+65536 ^ i*(a / 65536 ^ i%65536)+(b%65536 ^ i+65536 ^ i*(b / 65536 ^ i%65536))=(a%65536 ^ i+b%65536 ^ i)+65536 ^ i*(a / 65536 ^ i%65536+b / 65536 ^ i%65536):=by rw [Nat.mul_add];omega
  rw [e2,Nat.add_mul_div_left _ _ hp,←hn,hs]
  congr 1;omega
theorem rplus_more {a b i n:Nat} (hn:n=(a%65536 ^ i+b%65536 ^ i) / 65536 ^ i) (h:i < (dig 65536 a).length∨i < (dig 65536 b).length∨0 < n):i+1≤(dig 65536 (a+b)).length:=by
 have hp:0 < 65536 ^ i:=Nat.pow_pos (by decide)
 have h1:65536 ^ i≤a+b:=by
  rcases h with h | h | h
  ·have:=xr1 h;omega
  ·have:=xr1 h;omega
  ·have h2:65536 ^ i≤a%65536 ^ i+b%65536 ^ i:=by
    rcases Nat.lt_or_ge (a%65536 ^ i+b%65536 ^ i) (65536 ^ i) with h' | h'
    ·rw [Nat.div_eq_of_lt h'] at hn;omega
    ·exact h'
   have:=Nat.mod_le a (65536 ^ i);have:=Nat.mod_le b (65536 ^ i)
   omega
 rcases Nat.lt_or_ge i (dig 65536 (a+b)).length with h' | h'
 ·exact h'
 ·have:=(xb6 x9 (a+b) i).1 h';omega
theorem rplus_end {a b i n:Nat} (hn:n=(a%65536 ^ i+b%65536 ^ i) / 65536 ^ i) (h0:n=0) (ha:(dig 65536 a).length≤i) (hb:(dig 65536 b).length≤i) (hi:i≤(dig 65536 (a+b)).length):dgs 65536 i (a+b)=dig 65536 (a+b):=by
 have hp:0 < 65536 ^ i:=Nat.pow_pos (by decide)
 rw [mod_all x9 ha,mod_all x9 hb,h0] at hn
 have h1:a+b < 65536 ^ i:=(Nat.div_eq_zero_iff_lt hp).1 hn.symm
 have h2:=(xb6 x9 (a+b) i).2 h1
 rw [show i=(dig 65536 (a+b)).length by omega,xn9 x9]
theorem rplus_small {a b i n:Nat} (hn:n=(a%65536 ^ i+b%65536 ^ i) / 65536 ^ i):n≤1:=by
 have hp:0 < 65536 ^ i:=Nat.pow_pos (by decide)
 have h1:=Nat.mod_lt a hp;have h2:=Nat.mod_lt b hp
 rw [hn]
 exact Nat.le_of_lt_succ (Nat.div_lt_of_lt_mul (by omega))
theorem rminus_in {a b i br n:Nat} {cs:List Nat} (hl:cs.length=i) (hv:val 65536 cs+b%65536 ^ i=a%65536 ^ i+br*65536 ^ i) (hbr:br≤1) (hn:n+br+b / 65536 ^ i%65536=65536+a / 65536 ^ i%65536):
  val 65536 (cs++[n%65536])+b%65536 ^ (i+1)=a%65536 ^ (i+1)+(1 - n / 65536)*65536 ^ (i+1)∧n / 65536≤1∧1 - n / 65536≤1:=by
 have h1:a / 65536 ^ i%65536 < 65536:=Nat.mod_lt _ (by decide)
 have h2:b / 65536 ^ i%65536 < 65536:=Nat.mod_lt _ (by decide)
 refine ⟨?_,by omega,by omega⟩
 rw [val_snoc,hl]
 exact sub_step hv rfl rfl (by omega)
theorem rminus_end {n a b br:Nat} {ws:List Nat} (hl:ws.length=n) (hD:Dig 65536 ws) (ha:a < 65536 ^ n) (hba:b≤a) (h:val 65536 ws+b%65536 ^ n=a%65536 ^ n+br*65536 ^ n):trimL ws=dig 65536 (a - b):=by
 rw [Nat.mod_eq_of_lt ha,Nat.mod_eq_of_lt (by omega)] at h
 have h1:=val_lt hD
 rw [hl] at h1
 rw [xe5 x9 hD]
 congr 1
 rcases Nat.eq_zero_or_pos br with h0 | h0
 ·subst h0;omega
 ·have:65536 ^ n≤br*65536 ^ n:=Nat.le_mul_of_pos_left _ h0
  omega
theorem len_dbl {a b k:Nat} (ha:(dig 65536 a).length≤k) (hb:(dig 65536 b).length≤k):(dig 65536 (a+b)).length≤k+1:=by
 rw [xb6 x9] at*
 rw [Nat.pow_succ];generalize 65536 ^ k=P at*;omega
theorem half_in {a k n q m:Nat} {qs:List Nat} (hk:k < m) (hl:qs.length=m) (hD:Dig 65536 qs) (hn:n%2=a / 65536 ^ (k+1)%2) (hv:val 65536 (qs.drop (k+1))=a / 65536 ^ (k+1) / 2) (hq:(n%2*65536+a / 65536 ^ k%65536) / 2=q):
  (qs.set k q).length=m∧Dig 65536 (qs.set k q)∧(n%2*65536+a / 65536 ^ k%65536)%2=a / 65536 ^ k%2∧val 65536 ((qs.set k q).drop k)=a / 65536 ^ k / 2∧q < 65536:=short_in hk hl hD (by decide) hn hv hq
theorem from_more {v i u:Nat} (hu:u=v / 65536 ^ i) (h0:0 < u):i+1≤(dig 65536 v).length∧u / 65536=v / 65536 ^ (i+1)∧dgs 65536 i v++[u%65536]=dgs 65536 (i+1) v:=by
 refine ⟨?_,by rw [hu,Nat.div_div_eq_div_mul,←Nat.pow_succ],by rw [xk0,hu]⟩
 rcases Nat.lt_or_ge i (dig 65536 v).length with h' | h'
 ·exact h'
 ·have:=(xb6 x9 v i).1 h'
  rw [Nat.div_eq_of_lt this] at hu;omega
theorem from_end {v i:Nat} (h:v / 65536 ^ i=0) (hi:i≤(dig 65536 v).length):dgs 65536 i v=dig 65536 v:=by
 have h1:v < 65536 ^ i:=(Nat.div_eq_zero_iff_lt (Nat.pow_pos (by decide))).1 h
 have h2:=(xb6 x9 v i).2 h1
 rw [show i=(dig 65536 v).length by omega,xn9 x9]
theorem bits_le {a n k:Nat} (h:2 ^ n≤a) (hk:(dig 65536 a).length≤k):n < 16*k:=by
 have h1:=(xb6 x9 a k).1 hk
 have e:65536 ^ k=2 ^ (16*k):=by rw [Nat.pow_mul]
 rw [e] at h1
 exact (Nat.pow_lt_pow_iff_right (by decide)).1 (Nat.lt_of_le_of_lt h h1)
theorem div_bit {a b n i q r d:Nat} (hi:i < n) (hd:d=b*2 ^ (n - i)) (ha:a=q*d+r) (hr:r < d):
  d / 2=b*2 ^ (n - (i+1))∧(r < d / 2→a=(q+q)*(d / 2)+r)∧(¬r < d / 2→a=(q+q+1)*(d / 2)+(r - d / 2)∧r - d / 2 < d / 2∧d / 2≤r):=by
 have e:d=2*(b*2 ^ (n - (i+1))):=by rw [hd,show n - i=n - (i+1)+1 by omega,Nat.pow_succ];grind
 have h1:d / 2=b*2 ^ (n - (i+1)):=by omega
 refine ⟨h1,fun h=> ?_,fun h=>⟨?_,by omega,by omega⟩⟩
 ·rw [h1,ha,e];grind
 ·rw [h1] at h ⊢
  generalize b*2 ^ (n - (i+1))=c at*
  rw [ha,e]
  have:(q+q+1)*c=q*(2*c)+c:=by grind
  rw [this];omega
theorem div_done {a b q r:Nat} (ha:a=q*b+r) (hr:r < b):q=a / b∧r=a%b:=by
 have hb:0 < b:=by omega
 constructor
 ·rw [ha,Nat.mul_comm,Nat.mul_add_div hb,Nat.div_eq_of_lt hr,Nat.add_zero]
 ·rw [ha,Nat.mul_comm,Nat.mul_add_mod,Nat.mod_eq_of_lt hr]
end An
namespace An.S
open Go Go.Proofs An
theorem shr16 {u:Nat} (_h:u < 18446744073709551616):((u:Int)).fdiv (2 ^ (min (16:Int).toNat (IntKind.bits .u64)))=((u / 65536:Nat):Int):=by
 show ((u:Int)).fdiv 65536=_
 rw [Int.fdiv_eq_ediv_of_nonneg _ (by decide)];omega
theorem wh_of {n:Int}:(⟨decide (n < 0),dig 65536 n.natAbs⟩:Wh)=wh n:=rfl
theorem c_KWhole (n:Int) (h1: -9223372036854775808≤n) (h2:n≤9223372036854775807):
  Ct Tryz.prog 61 [tI n] (tWh (wh n)):=by
 refine Ct.intro Tryz.func61 rfl Tryz.ntmps61 rfl ?_
 intro w F
 refine A2 ?_
 refine RE (xb0 (k:=2) (n:=2) (agg:=true) zr24.1 zr24.2 rfl) trivial trivial ⟨rfl,trivial⟩ ?_
 refine A6 ?_
 refine R1 (Does.rowV (ts:=[tB (decide (n < 0)),tE (.slice none 0 0)]) (es:=[.val (tB (decide (n < 0))),.val (tE (.slice none 0 0))]) rfl (d_build (r:=tS [⟨1,false,tB (decide (n < 0))⟩,⟨1,false,tE (.slice none 0 0)⟩]) (ts:=[(0,tB (decide (n < 0)))]) bu24 (z:= .agg #[.bool false,.slice none 0 0]) (t:=tS [⟨1,false,tE (.bool false)⟩,⟨1,false,tE (.slice none 0 0)⟩]) (fun _ _=>⟨_,rfl,rfl,⟨fun _=>rfl,rfl⟩,⟨fun _=>rfl,rfl⟩,trivial⟩) ⟨_,rfl⟩ rfl ⟨_,_,_,_,rfl,Up.f (fs:=[⟨1,false,tE (.bool false)⟩,⟨1,false,tE (.slice none 0 0)⟩]) (f:=⟨1,false,tE (.bool false)⟩) (fs':=[⟨1,false,tB (decide (n < 0))⟩,⟨1,false,tE (.slice none 0 0)⟩]) 0 rfl rfl rfl,inferInstance,Le.refl⟩)) rfl (RE (d_allocC (k:=3) (n:=2) [.bool false,.slice none 0 0] zr24.1 rfl rfl rfl rfl) trivial trivial ⟨rfl,trivial⟩ (RE (d_storeM ti24 rfl rfl rfl) ⟨rfl,rfl,trivial⟩ ⟨rfl,trivial⟩ trivial ?_))
 refine A3 ?_
 refine C_nilC (q:=3) 103 100 1 false 1 rfl rfl rfl rfl (fun _=>rfl) rfl rfl ?_
 refine A2 ?_
 refine R1 (x5 Tryz.underlying102 (isS Tryz.underlying3) toU64) rfl ?_
 refine A3 ?_
 refine xg1 (fun (v:Nat)=>v=n.natAbs) (fun (v:Nat)=>upd (upd (upd (fun _=>none) 2 (some (.own (.ptr 2 0)))) 3 (some (.own (.ptr 3 0)))) 4 (some (.val (tE (.int .u64 ((v:Nat):Int)))))) (fun (v:Nat)=>upd (upd (upd (fun _=>none) 2 (some (⟨24,2,true,[.val (tWh ⟨false,[]⟩)]⟩))) 3 (some (⟨24,1,false,[.val (tB (decide (n < 0))),.own (.sl 103 1 0 0)]⟩))) 103 (some (⟨100,1,false,rW .u16 []⟩))) (nm [2,3,103]) ?_ ?_
 ·
  refine A6 ?_
  refine x7 rfl (fun h11=> ?_) (fun h11=> ?_)
  ·
   refine A2 ?_
   refine R1 (d_neg (negU64 (by omega))) rfl ?_
   refine A2 ?_
   exact kF ((18446744073709551616 - (n%18446744073709551616).toNat)%18446744073709551616) (by omega) (hh:=((SubK.consI rfl ImpK.refl) ((SubK.consI rfl ImpK.refl) ((SubK.consI rfl ImpK.refl) SubK.nil))))
  ·
   refine A1 ?_
   exact kF ((n%18446744073709551616).toNat) (by omega) (hh:=((SubK.consI rfl ImpK.refl) ((SubK.consI rfl ImpK.refl) ((SubK.consI rfl ImpK.refl) SubK.nil))))
 ·
  intro v hv
  have hvl:=wh_len v (by omega)
  refine A2 ?_
  refine cL (fun (fm:(Nat)×(Nat)×(List Nat))=>(fun (i:Nat) (u:Nat) (cs:List Nat)=>i≤(dig 65536 v).length∧u=v / 65536 ^ i∧cs=dgs 65536 i v∧u < 18446744073709551616) fm.1 fm.2.1 fm.2.2) (fun (fm:(Nat)×(Nat)×(List Nat))=>(fun (i:Nat) (u:Nat) (cs:List Nat)=>upd (upd (upd (fun _=>none) 2 (some (.own (.ptr 2 0)))) 3 (some (.own (.ptr 3 0)))) 4 (some (.val (tE (.int .u64 ((u:Nat):Int)))))) fm.1 fm.2.1 fm.2.2) (fun (fm:(Nat)×(Nat)×(List Nat))=>(fun (i:Nat) (u:Nat) (cs:List Nat)=>upd (upd (upd (fun _=>none) 2 (some (⟨24,2,true,[.val (tWh ⟨false,[]⟩)]⟩))) 3 (some (⟨24,1,false,[.val (tB (decide (n < 0))),.own (.sl 103 1 0 cs.length)]⟩))) 103 (some (⟨100,1,false,rW .u16 cs⟩))) fm.1 fm.2.1 fm.2.2) [2,3,103] (fun (fm:(Nat)×(Nat)×(List Nat))=>(fun (i:Nat) (u:Nat) (cs:List Nat)=>u) fm.1 fm.2.1 fm.2.2) ((0,v,[])) (by dsimp only;exact ⟨Nat.zero_le _,by simp,rfl,by omega⟩) (hh:=((SubK.consI rfl ImpK.refl) ((SubK.consI rfl ImpK.refl) ((SubK.consI rfl ImpK.refl) SubK.nil)))) ?_
  intro fm hI
  obtain ⟨i,u,cs⟩:=fm
  replace hI:i≤(dig 65536 v).length∧u=v / 65536 ^ i∧cs=dgs 65536 i v∧u < 18446744073709551616:=hI
  show wc _ _ _ _ (upd (upd (upd (fun _=>none) 2 (some (.own (.ptr 2 0)))) 3 (some (.own (.ptr 3 0)))) 4 (some (.val (tE (.int .u64 ((u:Nat):Int)))))) (upd (upd (upd (fun _=>none) 2 (some (⟨24,2,true,[.val (tWh ⟨false,[]⟩)]⟩))) 3 (some (⟨24,1,false,[.val (tB (decide (n < 0))),.own (.sl 103 1 0 cs.length)]⟩))) 103 (some (⟨100,1,false,rW .u16 cs⟩))) _
  obtain ⟨hi,hu,hcs,hu64⟩:=hI
  have hcl:cs.length=i:=by rw [hcs,xe0]
  refine A7 ?_
  refine x7 rfl (fun h14=> ?_) (fun h14=> ?_)
  ·
   refine A6 ?_
   refine RE (xb3 (1) ti22 rfl rfl) ⟨rfl,trivial⟩ ⟨rfl,trivial⟩ trivial ?_
   refine A1 ?_
   refine R1 (x5 (r:=((u%65536:Nat):Int)) Tryz.underlying100 (isS Tryz.underlying102) (by rw [mu16];omega)) rfl (R1 (xm5 (n:=1) [u%65536] Tryz.underlying22 el100 zf100 rfl rfl rfl) rfl (RE (xb2 (k:=103) (k':=23) (ts':=rW .u16 (cs++[u%65536])) Tryz.underlying22 el100 zf100 rfl rfl (fun _=>inferInstance) rW_len (by simp;omega) (by simp;omega) (by simp [rW]) (n':=cs.length+1) rfl) ⟨rfl,rfl,trivial⟩ ⟨rfl,trivial⟩ ⟨rfl,trivial⟩ ?_))
   refine A1 ?_
   refine RE (xb8 (es:=1) (agg:=false) (1) ti22 rfl rfl rfl) ⟨rfl,rfl,trivial⟩ ⟨rfl,trivial⟩ trivial ?_
   refine A5 ?_
   refine R2 (xf5 (by decide) (shr16 hu64)) rfl rfl ?_
   refine A2 ?_
   obtain ⟨n1,n2,n3⟩:=from_more hu (by omega)
   exact xf2 (l:=[2,3,103]) (fun j=>cond (Nat.beq j 103) 23 (j)) ((i+1,u / 65536,cs++[u%65536])) ⟨(by dsimp only;exact ⟨n1,n2,by rw [hcs];exact n3,by omega⟩),(by dsimp only;omega)⟩ (SubR.int rfl (by first | omega | rfl | (dsimp only;omega)) (SubR.cons rfl (SubR.cons rfl SubR.nil))) ((SubKR.consI rfl (ImpK.of xk5.symm)) ((SubKR.consI rfl (ImpK.of (by dsimp only;rw [List.length_append];rfl))) ((SubKR.consI rfl ImpK.refl) SubKR.nil))) (SupG.val (SupG.own rfl (SupG.own rfl SupG.nil))) (SupH.cons rfl (supJ xe8) (SupH.cons rfl (supJL rfl) (SupH.cons rfl (supJL rfl) SupH.nil))) (lkOk rfl) rfl rfl (fun _ h=>by cases h)
  ·
   refine A6 ?_
   refine C_giveC (q:=3) (j:=103) (f:=fun n:Nat=>tE (.int .u16 n)) (xs:=cs) 1 rfl rfl rfl rfl (NoLbK.of fun _ h=>h) (xi5 rfl) rfl rfl ?_
   refine A1 ?_
   refine RE (d_loadM (us:=[tB (decide (n < 0)),tLm cs]) (t:=tWh ⟨(decide (n < 0)),cs⟩) ti24 rfl rfl rfl rfl) ⟨rfl,trivial⟩ ⟨rfl,trivial⟩ trivial ?_
   refine A4 ?_
   exact xg0 Plain.mk' rfl ⟨_,_,_,_,_,rfl,rfl,ti24,(Le.of (by rw [←wh_of,hcs,from_end (by rw [←hu];omega) hi,hv]))⟩
instance fi61:FnI Tryz.prog 61:=⟨_,Tryz.func61,by kernel_rfl,rfl⟩
theorem zr26:(Tryz.prog.info? 26).bind (·.zero)=some (.agg #[.bool false,.slice none 0 0,.bool false,.slice none 0 0])∧ ∀F w,(tS [⟨2,true,(tS [⟨1,false,(tE (.bool false))⟩,⟨1,false,(tLm [])⟩])⟩,⟨2,true,(tS [⟨1,false,(tE (.bool false))⟩,⟨1,false,(tLm [])⟩])⟩]).p F w (.agg #[.bool false,.slice none 0 0,.bool false,.slice none 0 0]):=⟨by kernel_rfl,fun _ _=>⟨_,rfl,rfl,⟨fun h=>Bool.noConfusion h,⟨_,rfl,rfl,⟨fun _=>rfl,rfl⟩,⟨fun _=>rfl,⟨none,0,rfl,Nat.le_refl _,by decide,.inl rfl⟩⟩,trivial⟩⟩,⟨fun h=>Bool.noConfusion h,⟨_,rfl,rfl,⟨fun _=>rfl,rfl⟩,⟨fun _=>rfl,⟨none,0,rfl,Nat.le_refl _,by decide,.inl rfl⟩⟩,trivial⟩⟩,trivial⟩⟩
theorem bu26:BuI Tryz.prog 26 (fun i=>[(0,2),(2,2)][i]?) (.agg #[.bool false,.slice none 0 0,.bool false,.slice none 0 0]):=BuI.struct Tryz.underlying26 (by kernel_rfl) (by kernel_rfl)
def kfr (n d:Int):Rat:=if d < 1 then 0 else Rat.divInt n d
theorem kfr_small {n d:Int} (h:d < 1∨n=0):kfr n d=0:=by
 rw [kfr]
 rcases h with h | h
 ·rw [if_pos h]
 ·subst h;split
  ·rfl
  ·exact Rat.zero_divInt d
theorem kfr_big {n d:Int} (h: ¬d < 1):kfr n d=Rat.divInt n d:=if_neg h
theorem fr_zero:fr 0=⟨⟨false,[]⟩,wh 1⟩:=by
 have e1:(0:Rat).num=0:=rfl
 have e2:(((0:Rat).den:Nat):Int)=1:=rfl
 rw [fr,e1,e2,wh_zero]
theorem gcd_facts {n d:Int} {a:Nat} (hd: ¬d < 1) (ha:a=Nat.gcd n.natAbs d.natAbs):0 < a∧(a:Int)≤d∧n.tdiv a=n / (a:Int)∧d.tdiv a=d / (a:Int)∧fr (Rat.divInt n d)=⟨wh (n / (a:Int)),wh (d / (a:Int))⟩∧(n / (a:Int)).natAbs≤n.natAbs∧(d / (a:Int)).natAbs≤d.natAbs∧(n≤0→n / (a:Int)≤0)∧(0≤n→0≤n / (a:Int))∧0≤d / (a:Int):=by
 have h0:0 < a:=by rw [ha];exact Nat.gcd_pos_of_pos_right _ (by omega)
 have h1:a≤d.natAbs:=by rw [ha];exact Nat.le_of_dvd (by omega) (Nat.gcd_dvd_right _ _)
 have h2:(a:Int) ∣ n:=Int.dvd_natAbs.1 (Int.natCast_dvd_natCast.2 (ha▸Nat.gcd_dvd_left _ _))
 have h3:(a:Int) ∣ d:=Int.dvd_natAbs.1 (Int.natCast_dvd_natCast.2 (ha▸Nat.gcd_dvd_right _ _))
 refine ⟨h0,by omega,Int.tdiv_eq_ediv_of_dvd h2,Int.tdiv_eq_ediv_of_dvd h3,?_,Int.natAbs_ediv_le_natAbs _ _,Int.natAbs_ediv_le_natAbs _ _,fun h=> ?_,fun h=>Int.ediv_nonneg h (by omega),Int.ediv_nonneg (by omega) (by omega)⟩
 ·have h4:=lowest_eq (n:=n) (d:=d) (by omega)
  have h5:(Int.gcd n d)=a:=by rw [ha];rfl
  rw [h5] at h4;exact h4
 ·have:=Int.ediv_le_ediv (show 0 < (a:Int) by omega) h
  simpa using this
theorem c_KFrac (n d:Int) (h1: -9223372036854775808≤n) (h2:n≤9223372036854775807) (h3: -9223372036854775808≤d) (h4:d≤9223372036854775807):
  Ct Tryz.prog 35 [tI n,tI d] (tFr (fr (kfr n d))):=by
 refine Ct.intro Tryz.func35 rfl Tryz.ntmps35 rfl ?_
 intro w F
 refine A2 ?_
 refine RE (xb0 (k:=4) (n:=4) (agg:=true) zr26.1 zr26.2 rfl) trivial trivial ⟨rfl,trivial⟩ ?_
 refine A8 ?_
 refine RGcaseD (t:=9) rfl (fun h22=> ?_) (fun h22=> ?_)
 ·
  have hK:=kfr_small (n:=n) (d:=d) (.inl h22)
  refine A8 ?_
  refine R1 (x4 (c_KWhole 1 (by decide) (by decide)) fi61 rfl) rfl (R1 (xd7 (r:=tS [⟨2,true,(tS [⟨1,false,(tE (.bool false))⟩,⟨1,false,(tLm [])⟩])⟩,⟨2,true,tWh (wh 1)⟩]) (ts:=[(1,tWh (wh 1))]) bu26 zr26.2 (Bc 1 rfl rfl rfl Le.refl)) rfl ?_)
  refine A5 ?_
  exact xg0 Plain.mk' rfl ⟨_,_,_,_,_,rfl,rfl,ti26,(Le.of (by rw [hK,fr_zero]))⟩
 ·
  have hd: ¬d < 1:=h22
  refine A5 ?_
  refine x7 rfl (fun h22_2=> ?_) (fun h22_2=> ?_)
  ·
   have hK:=kfr_small (n:=n) (d:=d) (.inr h22_2)
   refine A2 ?_
   refine R1 (x4 (c_KWhole 1 (by decide) (by decide)) fi61 rfl) rfl (R1 (xd7 (r:=tS [⟨2,true,(tS [⟨1,false,(tE (.bool false))⟩,⟨1,false,(tLm [])⟩])⟩,⟨2,true,tWh (wh 1)⟩]) (ts:=[(1,tWh (wh 1))]) bu26 zr26.2 (Bc 1 rfl rfl rfl Le.refl)) rfl ?_)
   refine A5 ?_
   exact xg0 Plain.mk' rfl ⟨_,_,_,_,_,rfl,rfl,ti26,(Le.of (by rw [hK,fr_zero]))⟩
  ·
   refine A5 ?_
   refine R1 (x5 Tryz.underlying102 (isS Tryz.underlying3) toU64) rfl ?_
   refine A1 ?_
   refine R1 (x5 (r:=((d.natAbs:Nat):Int)) Tryz.underlying102 (isS Tryz.underlying3) (by rw [mu64];omega)) rfl ?_
   refine A4 ?_
   refine xg1 (fun (v:Nat)=>v=n.natAbs) (fun (v:Nat)=>upd (upd (upd (upd (upd (fun _=>none) 0 (some (.val (tI n)))) 1 (some (.val (tI d)))) 4 (some (.own (.ptr 4 0)))) 5 (some (.val (tE (.int .u64 ((v:Nat):Int)))))) 6 (some (.val (tE (.int .u64 ((d.natAbs:Nat):Int)))))) (fun (v:Nat)=>upd (fun _=>none) 4 (some (⟨26,4,true,[.val (tFr fr0)]⟩))) (nm [4]) ?_ ?_
   ·
    refine A6 ?_
    refine x7 rfl (fun h26=> ?_) (fun h26=> ?_)
    ·
     refine A2 ?_
     refine R1 (d_neg (negU64 (by omega))) rfl ?_
     refine A2 ?_
     exact kF ((18446744073709551616 - (n%18446744073709551616).toNat)%18446744073709551616) (by omega) (hh:=((SubK.consI rfl ImpK.refl) SubK.nil))
    ·
     refine A1 ?_
     exact kF ((n%18446744073709551616).toNat) (by omega) (hh:=((SubK.consI rfl ImpK.refl) SubK.nil))
   ·
    intro v hv
    refine A2 ?_
    refine cL (fun (fm:(Nat)×(Nat))=>(fun (a:Nat) (b:Nat)=>Nat.gcd a b=Nat.gcd v d.natAbs∧a < 18446744073709551616∧b < 18446744073709551616) fm.1 fm.2) (fun (fm:(Nat)×(Nat))=>(fun (a:Nat) (b:Nat)=>upd (upd (upd (upd (upd (fun _=>none) 0 (some (.val (tI n)))) 1 (some (.val (tI d)))) 4 (some (.own (.ptr 4 0)))) 5 (some (.val (tE (.int .u64 ((a:Nat):Int)))))) 6 (some (.val (tE (.int .u64 ((b:Nat):Int)))))) fm.1 fm.2) (fun (fm:(Nat)×(Nat))=>(fun (a:Nat) (b:Nat)=>upd (fun _=>none) 4 (some (⟨26,4,true,[.val (tFr fr0)]⟩))) fm.1 fm.2) [4] (fun (fm:(Nat)×(Nat))=>(fun (a:Nat) (b:Nat)=>b) fm.1 fm.2) ((v,d.natAbs)) (by dsimp only;exact ⟨rfl,by omega,by omega⟩) (hh:=((SubK.consI rfl ImpK.refl) SubK.nil)) ?_
    intro fm hI
    obtain ⟨a,b⟩:=fm
    replace hI:Nat.gcd a b=Nat.gcd v d.natAbs∧a < 18446744073709551616∧b < 18446744073709551616:=hI
    show wc _ _ _ _ (upd (upd (upd (upd (upd (fun _=>none) 0 (some (.val (tI n)))) 1 (some (.val (tI d)))) 4 (some (.own (.ptr 4 0)))) 5 (some (.val (tE (.int .u64 ((a:Nat):Int)))))) 6 (some (.val (tE (.int .u64 ((b:Nat):Int)))))) (upd (fun _=>none) 4 (some (⟨26,4,true,[.val (tFr fr0)]⟩))) _
    obtain ⟨hg,ha64,hb64⟩:=hI
    refine A7 ?_
    refine x7 rfl (fun h29=> ?_) (fun h29=> ?_)
    ·
     refine A7 ?_
     refine R2 (d_rem (r:=((a%b:Nat):Int)) (by omega) wrem64) rfl rfl ?_
     refine A4 ?_
     have hbp:0 < b:=by omega
     have hlt:=Nat.mod_lt a hbp
     exact kF ((b,a%b)) ⟨(by dsimp only;exact ⟨by rw [Nat.gcd_comm b,←Nat.gcd_rec,Nat.gcd_comm];exact hg,hb64,by omega⟩),(by dsimp only;omega)⟩ (hh:=((SubK.consI rfl ImpK.refl) SubK.nil))
    ·
     refine A6 ?_
     have hb0:b=0:=by omega
     subst hb0
     rw [Nat.gcd_zero_right,hv] at hg
     obtain ⟨g1,g2,g3,g4,g5,g6,g7,g8,g9,g10⟩:=gcd_facts (n:=n) hd hg
     refine A3 ?_
     refine R1 (x5 (r:=(a:Int)) Tryz.underlying3 (isS Tryz.underlying102) (wr64 (by omega) (by omega))) rfl (R2 (d_quo (r:=n / (a:Int)) (by omega) (by rw [g3];exact wr64 (by omega) (by omega))) rfl rfl (R1 (x4 (c_KWhole _ (by omega) (by omega)) fi61 rfl) rfl ?_))
     refine A2 ?_
     refine R1 (x5 (r:=(a:Int)) Tryz.underlying3 (isS Tryz.underlying102) (wr64 (by omega) (by omega))) rfl (R2 (d_quo (r:=d / (a:Int)) (by omega) (by rw [g4];exact wr64 (by omega) (by omega))) rfl rfl (R1 (x4 (c_KWhole _ (by omega) (by omega)) fi61 rfl) rfl (R2 (xd7 (r:=tS [⟨2,true,tWh (wh (n / (a:Int)))⟩,⟨2,true,tWh (wh (d / (a:Int)))⟩]) (ts:=[(0,tWh (wh (n / (a:Int)))),(1,tWh (wh (d / (a:Int))))]) bu26 zr26.2 (Bc 0 rfl rfl rfl (Bc 1 rfl rfl rfl Le.refl))) rfl rfl ?_)))
     refine A4 ?_
     exact xg0 Plain.mk' rfl ⟨_,_,_,_,_,rfl,rfl,ti26,(Le.of (by rw [kfr_big hd,g5]))⟩
instance fi35:FnI Tryz.prog 35:=⟨_,Tryz.func35,by kernel_rfl,rfl⟩
instance fi44:FnI Tryz.prog 44:=⟨_,Tryz.func44,by kernel_rfl,rfl⟩
instance fi45:FnI Tryz.prog 45:=⟨_,Tryz.func45,by kernel_rfl,rfl⟩
theorem zr28:(Tryz.prog.info? 28).bind (·.zero)=some (.agg #[.int .u8 0,.bool false,.slice none 0 0,.bool false,.slice none 0 0,.int .i64 0])∧ ∀F w,(tS [⟨1,false,(tE (.int .u8 0))⟩,⟨4,true,(tS [⟨2,true,(tS [⟨1,false,(tE (.bool false))⟩,⟨1,false,(tLm [])⟩])⟩,⟨2,true,(tS [⟨1,false,(tE (.bool false))⟩,⟨1,false,(tLm [])⟩])⟩])⟩,⟨1,false,(tE (.int .i64 0))⟩]).p F w (.agg #[.int .u8 0,.bool false,.slice none 0 0,.bool false,.slice none 0 0,.int .i64 0]):=⟨by kernel_rfl,fun _ _=>⟨_,rfl,rfl,⟨fun _=>rfl,rfl⟩,⟨fun h=>Bool.noConfusion h,⟨_,rfl,rfl,⟨fun h=>Bool.noConfusion h,⟨_,rfl,rfl,⟨fun _=>rfl,rfl⟩,⟨fun _=>rfl,⟨none,0,rfl,Nat.le_refl _,by decide,.inl rfl⟩⟩,trivial⟩⟩,⟨fun h=>Bool.noConfusion h,⟨_,rfl,rfl,⟨fun _=>rfl,rfl⟩,⟨fun _=>rfl,⟨none,0,rfl,Nat.le_refl _,by decide,.inl rfl⟩⟩,trivial⟩⟩,trivial⟩⟩,⟨fun _=>rfl,rfl⟩,trivial⟩⟩
theorem bu28:BuI Tryz.prog 28 (fun i=>[(0,1),(1,4),(5,1)][i]?) (.agg #[.int .u8 0,.bool false,.slice none 0 0,.bool false,.slice none 0 0,.int .i64 0]):=BuI.struct Tryz.underlying28 (by kernel_rfl) (by kernel_rfl)
theorem c_Num (n d:Int) (h1: -9223372036854775808≤n) (h2:n≤9223372036854775807) (h3: -9223372036854775808≤d) (h4:d≤9223372036854775807):
  Ct Tryz.prog 15 [tI n,tI d] (tVa ⟨2,fr (kfr n d),0⟩):=by
 refine Ct.intro Tryz.func15 rfl Tryz.ntmps15 rfl ?_
 intro w F
 refine A2 ?_
 refine RE (xb0 (k:=4) (n:=6) (agg:=true) zr28.1 zr28.2 rfl) trivial trivial ⟨rfl,trivial⟩ ?_
 refine A6 ?_
 refine R2 (x4 (c_KFrac n d h1 h2 h3 h4) fi35 rfl) rfl rfl (R2 (xd7 (r:=tS [⟨1,false,tE (.int .u8 2)⟩,⟨4,true,tFr (fr (kfr n d))⟩,⟨1,false,(tE (.int .i64 0))⟩]) (ts:=[(0,tE (.int .u8 2)),(1,tFr (fr (kfr n d)))]) bu28 zr28.2 (Bc 0 rfl rfl rfl (Bc 1 rfl rfl rfl Le.refl))) rfl rfl ?_)
 refine A4 ?_
 exact xg0 Plain.mk' rfl ⟨_,_,_,_,_,rfl,rfl,ti28,(Le.of rfl)⟩
theorem c_TSame (x y:Va):
  Ct Tryz.prog 23 [tVa x,tVa y] (tB (decide (x=y))):=by
 refine Ct.intro Tryz.func23 rfl Tryz.ntmps23 rfl ?_
 intro w F
 refine A15 ?_
 refine RGcaseD (t:=10) rfl (fun h34=> ?_) (fun h34=> ?_)
 ·
  refine A7 ?_
  refine RGcaseD (t:=17) rfl (fun h34_2=> ?_) (fun h34_2=> ?_)
  ·
   refine A4 ?_
   refine RGon (decide_eq_true h34_2) rfl (x4 (xk7 _ _) fi44 rfl) rfl ⟨rfl,rfl,trivial⟩ trivial trivial ?_
   refine A5 ?_
   exact x3 Plain.mk' rfl rfl (Le.bool (by obtain ⟨a,b,e⟩:=x;obtain ⟨c,d,f⟩:=y;simp only [Va.mk.injEq] at*;simp_all <;> omega))
  ·
   refine A10 ?_
   exact x3 Plain.mk' rfl rfl (Le.bool (by obtain ⟨a,b,e⟩:=x;obtain ⟨c,d,f⟩:=y;simp only [Va.mk.injEq] at*;simp_all <;> omega))
 ·
  refine A17 ?_
  exact x3 Plain.mk' rfl rfl (Le.bool (by obtain ⟨a,b,e⟩:=x;obtain ⟨c,d,f⟩:=y;simp only [Va.mk.injEq] at*;simp_all <;> omega))
theorem upN (v:Va):Up (tVa v) (1+(0+1)) 1 false (tLm v.f.n.l) (tVa v):=
 Up.t (t1:=tFr v.f) (t1':=tFr v.f) (At.g 1 rfl rfl) (Up.f (f:=⟨4,true,tFr v.f⟩) 1 rfl rfl rfl) (Up.t (t1:=tWh v.f.n) (t1':=tWh v.f.n) (At.g 0 rfl rfl) (Up.f (f:=⟨2,true,tWh v.f.n⟩) 0 rfl rfl rfl) (Up.f (f:=⟨1,false,tLm v.f.n.l⟩) 1 rfl rfl rfl))
theorem upD (v:Va):Up (tVa v) (1+(2+1)) 1 false (tLm v.f.d.l) (tVa v):=
 Up.t (t1:=tFr v.f) (t1':=tFr v.f) (At.g 1 rfl rfl) (Up.f (f:=⟨4,true,tFr v.f⟩) 1 rfl rfl rfl) (Up.t (t1:=tWh v.f.d) (t1':=tWh v.f.d) (At.g 1 rfl rfl) (Up.f (f:=⟨2,true,tWh v.f.d⟩) 1 rfl rfl rfl) (Up.f (f:=⟨1,false,tLm v.f.d.l⟩) 1 rfl rfl rfl))
theorem va23 {v:Va} {b:Bool} (h:(v.kind:Int)=2∨(v.kind:Int)=3) (hb:b=(decide (v.i=0) && v.f.valid)):b=v.valid:=by
 rw [Va.valid,if_pos (by omega)];exact hb
theorem va1 {v:Va} {b:Bool} (h:(v.kind:Int)=1) (hb:b=(decide (v.f=fr0) && decide (0≤v.i) && decide (v.i≤1))):b=v.valid:=by
 rw [Va.valid,if_neg (by omega),if_pos (by omega)];exact hb
theorem va4 {v:Va} {b:Bool} (h:(v.kind:Int)=4) (hb:b=(decide (v.f=fr0) && decide (0≤v.i) && decide (v.i < 65536))):b=v.valid:=by
 rw [Va.valid,if_neg (by omega),if_neg (by omega),if_pos (by omega)];exact hb
theorem va56 {v:Va} {b:Bool} (h:(v.kind:Int)=5∨(v.kind:Int)=6) (hb:b=(decide (v.f=fr0) && decide (-1048576≤v.i) && decide (v.i≤1048576))):b=v.valid:=by
 rw [Va.valid,if_neg (by omega),if_neg (by omega),if_neg (by omega),if_pos (by omega)];exact hb
theorem va0 {v:Va} (h1: ¬((v.kind:Int)=2∨(v.kind:Int)=3)) (h2: ¬(v.kind:Int)=1) (h3: ¬(v.kind:Int)=4) (h4: ¬((v.kind:Int)=5∨(v.kind:Int)=6)):false=v.valid:=by
 rw [Va.valid,if_neg (by omega),if_neg (by omega),if_neg (by omega),if_neg (by omega)]
theorem c_TValid (v:Va) (hD:v.f.dig):
  Ct Tryz.prog 24 [tVa v] (tB v.valid):=by
 refine Ct.intro Tryz.func24 rfl Tryz.ntmps24 rfl ?_
 intro w F
 refine A18 ?_
 refine A3 ?_
 refine x7 rfl (fun h20=> ?_) (fun h20=> ?_)
 ·
  refine A2 ?_
  refine x7 rfl (fun h20_2=> ?_) (fun h20_2=> ?_)
  ·
   refine A6 ?_
   refine RGcaseD (t:=11) rfl (fun h21=> ?_) (fun h21=> ?_)
   ·
    refine A2 ?_
    refine RGon (decide_eq_true h21) rfl (x4 (c_FValid _ hD.1 hD.2) fi45 rfl) rfl ⟨rfl,trivial⟩ trivial trivial ?_
    refine A7 ?_
    exact x3 Plain.mk' rfl rfl (Le.bool (va23 (by omega) (by first | (simp [*];done) | simp [*])))
   ·
    refine A10 ?_
    exact x3 Plain.mk' rfl rfl (Le.bool (va23 (by omega) (by first | (simp [*];done) | simp [*])))
  ·
   refine A6 ?_
   refine x7 rfl (fun h22=> ?_) (fun h22=> ?_)
   ·
    refine A4 ?_
    refine R0 (xd7 (r:=tS [⟨2,true,(tS [⟨1,false,(tE (.bool false))⟩,⟨1,false,(tLm [])⟩])⟩,⟨2,true,(tS [⟨1,false,(tE (.bool false))⟩,⟨1,false,(tLm [])⟩])⟩]) (ts:=[]) bu26 zr26.2 Le.refl) (R2 (x4 (xk7 _ fr0) fi44 rfl) rfl rfl ?_)
    refine A1 ?_
    refine RGcaseD (t:=22) rfl (fun h23=> ?_) (fun h23=> ?_)
    ·
     refine A5 ?_
     refine RGcaseD (t:=27) rfl (fun h23_2=> ?_) (fun h23_2=> ?_)
     ·
      refine A10 ?_
      exact x3 Plain.mk' rfl rfl (Le.bool (va1 (by omega) (by simp [*])))
     ·
      refine A10 ?_
      exact x3 Plain.mk' rfl rfl (Le.bool (va1 (by omega) (by simp [*])))
    ·
     refine A15 ?_
     exact x3 Plain.mk' rfl rfl (Le.bool (va1 (by omega) (by simp [*])))
   ·
    refine A6 ?_
    refine x7 rfl (fun h24=> ?_) (fun h24=> ?_)
    ·
     refine A4 ?_
     refine R0 (xd7 (r:=tS [⟨2,true,(tS [⟨1,false,(tE (.bool false))⟩,⟨1,false,(tLm [])⟩])⟩,⟨2,true,(tS [⟨1,false,(tE (.bool false))⟩,⟨1,false,(tLm [])⟩])⟩]) (ts:=[]) bu26 zr26.2 Le.refl) (R2 (x4 (xk7 _ fr0) fi44 rfl) rfl rfl ?_)
     refine A1 ?_
     refine RGcaseD (t:=38) rfl (fun h25=> ?_) (fun h25=> ?_)
     ·
      refine A5 ?_
      refine RGcaseD (t:=43) rfl (fun h25_2=> ?_) (fun h25_2=> ?_)
      ·
       refine A10 ?_
       exact x3 Plain.mk' rfl rfl (Le.bool (va4 (by omega) (by simp [*])))
      ·
       refine A10 ?_
       exact x3 Plain.mk' rfl rfl (Le.bool (va4 (by omega) (by simp [*])))
     ·
      refine A15 ?_
      exact x3 Plain.mk' rfl rfl (Le.bool (va4 (by omega) (by simp [*])))
    ·
     refine A7 ?_
     refine x7 rfl (fun h26=> ?_) (fun h26=> ?_)
     ·
      refine A2 ?_
      refine x7 rfl (fun h26_2=> ?_) (fun h26_2=> ?_)
      ·
       refine A4 ?_
       refine R0 (xd7 (r:=tS [⟨2,true,(tS [⟨1,false,(tE (.bool false))⟩,⟨1,false,(tLm [])⟩])⟩,⟨2,true,(tS [⟨1,false,(tE (.bool false))⟩,⟨1,false,(tLm [])⟩])⟩]) (ts:=[]) bu26 zr26.2 Le.refl) (R2 (x4 (xk7 _ fr0) fi44 rfl) rfl rfl ?_)
       refine A1 ?_
       refine RGcaseD (t:=55) rfl (fun h27=> ?_) (fun h27=> ?_)
       ·
        refine A5 ?_
        refine RGcaseD (t:=60) rfl (fun h27_2=> ?_) (fun h27_2=> ?_)
        ·
         refine A10 ?_
         exact x3 Plain.mk' rfl rfl (Le.bool (va56 (by omega) (by simp [*])))
        ·
         refine A10 ?_
         exact x3 Plain.mk' rfl rfl (Le.bool (va56 (by omega) (by simp [*])))
       ·
        refine A15 ?_
        exact x3 Plain.mk' rfl rfl (Le.bool (va56 (by omega) (by simp [*])))
      ·
       refine A9 ?_
       exact x3 Plain.mk' rfl rfl (Le.bool (va0 (by omega) (by omega) (by omega) (by omega)))
     ·
      refine A5 ?_
      refine x7 rfl (fun h26_2=> ?_) (fun h26_2=> ?_)
      ·
       refine A4 ?_
       refine R0 (xd7 (r:=tS [⟨2,true,(tS [⟨1,false,(tE (.bool false))⟩,⟨1,false,(tLm [])⟩])⟩,⟨2,true,(tS [⟨1,false,(tE (.bool false))⟩,⟨1,false,(tLm [])⟩])⟩]) (ts:=[]) bu26 zr26.2 Le.refl) (R2 (x4 (xk7 _ fr0) fi44 rfl) rfl rfl ?_)
       refine A1 ?_
       refine RGcaseD (t:=55) rfl (fun h27=> ?_) (fun h27=> ?_)
       ·
        refine A5 ?_
        refine RGcaseD (t:=60) rfl (fun h27_2=> ?_) (fun h27_2=> ?_)
        ·
         refine A10 ?_
         exact x3 Plain.mk' rfl rfl (Le.bool (va56 (by omega) (by simp [*])))
        ·
         refine A10 ?_
         exact x3 Plain.mk' rfl rfl (Le.bool (va56 (by omega) (by simp [*])))
       ·
        refine A15 ?_
        exact x3 Plain.mk' rfl rfl (Le.bool (va56 (by omega) (by simp [*])))
      ·
       refine A9 ?_
       exact x3 Plain.mk' rfl rfl (Le.bool (va0 (by omega) (by omega) (by omega) (by omega)))
 ·
  refine A5 ?_
  refine x7 rfl (fun h20_2=> ?_) (fun h20_2=> ?_)
  ·
   refine A6 ?_
   refine RGcaseD (t:=11) rfl (fun h21=> ?_) (fun h21=> ?_)
   ·
    refine A2 ?_
    refine RGon (decide_eq_true h21) rfl (x4 (c_FValid _ hD.1 hD.2) fi45 rfl) rfl ⟨rfl,trivial⟩ trivial trivial ?_
    refine A7 ?_
    exact x3 Plain.mk' rfl rfl (Le.bool (va23 (by omega) (by first | (simp [*];done) | simp [*])))
   ·
    refine A10 ?_
    exact x3 Plain.mk' rfl rfl (Le.bool (va23 (by omega) (by first | (simp [*];done) | simp [*])))
  ·
   refine A6 ?_
   refine x7 rfl (fun h22=> ?_) (fun h22=> ?_)
   ·
    refine A4 ?_
    refine R0 (xd7 (r:=tS [⟨2,true,(tS [⟨1,false,(tE (.bool false))⟩,⟨1,false,(tLm [])⟩])⟩,⟨2,true,(tS [⟨1,false,(tE (.bool false))⟩,⟨1,false,(tLm [])⟩])⟩]) (ts:=[]) bu26 zr26.2 Le.refl) (R2 (x4 (xk7 _ fr0) fi44 rfl) rfl rfl ?_)
    refine A1 ?_
    refine RGcaseD (t:=22) rfl (fun h23=> ?_) (fun h23=> ?_)
    ·
     refine A5 ?_
     refine RGcaseD (t:=27) rfl (fun h23_2=> ?_) (fun h23_2=> ?_)
     ·
      refine A10 ?_
      exact x3 Plain.mk' rfl rfl (Le.bool (va1 (by omega) (by simp [*])))
     ·
      refine A10 ?_
      exact x3 Plain.mk' rfl rfl (Le.bool (va1 (by omega) (by simp [*])))
    ·
     refine A15 ?_
     exact x3 Plain.mk' rfl rfl (Le.bool (va1 (by omega) (by simp [*])))
   ·
    refine A6 ?_
    refine x7 rfl (fun h24=> ?_) (fun h24=> ?_)
    ·
     refine A4 ?_
     refine R0 (xd7 (r:=tS [⟨2,true,(tS [⟨1,false,(tE (.bool false))⟩,⟨1,false,(tLm [])⟩])⟩,⟨2,true,(tS [⟨1,false,(tE (.bool false))⟩,⟨1,false,(tLm [])⟩])⟩]) (ts:=[]) bu26 zr26.2 Le.refl) (R2 (x4 (xk7 _ fr0) fi44 rfl) rfl rfl ?_)
     refine A1 ?_
     refine RGcaseD (t:=38) rfl (fun h25=> ?_) (fun h25=> ?_)
     ·
      refine A5 ?_
      refine RGcaseD (t:=43) rfl (fun h25_2=> ?_) (fun h25_2=> ?_)
      ·
       refine A10 ?_
       exact x3 Plain.mk' rfl rfl (Le.bool (va4 (by omega) (by simp [*])))
      ·
       refine A10 ?_
       exact x3 Plain.mk' rfl rfl (Le.bool (va4 (by omega) (by simp [*])))
     ·
      refine A15 ?_
      exact x3 Plain.mk' rfl rfl (Le.bool (va4 (by omega) (by simp [*])))
    ·
     refine A7 ?_
     refine x7 rfl (fun h26=> ?_) (fun h26=> ?_)
     ·
      refine A2 ?_
      refine x7 rfl (fun h26_2=> ?_) (fun h26_2=> ?_)
      ·
       refine A4 ?_
       refine R0 (xd7 (r:=tS [⟨2,true,(tS [⟨1,false,(tE (.bool false))⟩,⟨1,false,(tLm [])⟩])⟩,⟨2,true,(tS [⟨1,false,(tE (.bool false))⟩,⟨1,false,(tLm [])⟩])⟩]) (ts:=[]) bu26 zr26.2 Le.refl) (R2 (x4 (xk7 _ fr0) fi44 rfl) rfl rfl ?_)
       refine A1 ?_
       refine RGcaseD (t:=55) rfl (fun h27=> ?_) (fun h27=> ?_)
       ·
        refine A5 ?_
        refine RGcaseD (t:=60) rfl (fun h27_2=> ?_) (fun h27_2=> ?_)
        ·
         refine A10 ?_
         exact x3 Plain.mk' rfl rfl (Le.bool (va56 (by omega) (by simp [*])))
        ·
         refine A10 ?_
         exact x3 Plain.mk' rfl rfl (Le.bool (va56 (by omega) (by simp [*])))
       ·
        refine A15 ?_
        exact x3 Plain.mk' rfl rfl (Le.bool (va56 (by omega) (by simp [*])))
      ·
       refine A9 ?_
       exact x3 Plain.mk' rfl rfl (Le.bool (va0 (by omega) (by omega) (by omega) (by omega)))
     ·
      refine A5 ?_
      refine x7 rfl (fun h26_2=> ?_) (fun h26_2=> ?_)
      ·
       refine A4 ?_
       refine R0 (xd7 (r:=tS [⟨2,true,(tS [⟨1,false,(tE (.bool false))⟩,⟨1,false,(tLm [])⟩])⟩,⟨2,true,(tS [⟨1,false,(tE (.bool false))⟩,⟨1,false,(tLm [])⟩])⟩]) (ts:=[]) bu26 zr26.2 Le.refl) (R2 (x4 (xk7 _ fr0) fi44 rfl) rfl rfl ?_)
       refine A1 ?_
       refine RGcaseD (t:=55) rfl (fun h27=> ?_) (fun h27=> ?_)
       ·
        refine A5 ?_
        refine RGcaseD (t:=60) rfl (fun h27_2=> ?_) (fun h27_2=> ?_)
        ·
         refine A10 ?_
         exact x3 Plain.mk' rfl rfl (Le.bool (va56 (by omega) (by simp [*])))
        ·
         refine A10 ?_
         exact x3 Plain.mk' rfl rfl (Le.bool (va56 (by omega) (by simp [*])))
       ·
        refine A15 ?_
        exact x3 Plain.mk' rfl rfl (Le.bool (va56 (by omega) (by simp [*])))
      ·
       refine A9 ?_
       exact x3 Plain.mk' rfl rfl (Le.bool (va0 (by omega) (by omega) (by omega) (by omega)))
end An.S
namespace An
open Go
theorem ranges_stop {n i:Nat} {f:Nat→Bool} (hi:i < n) (h:f i=false):(List.range n).all f=false:=by
 rw [List.all_eq_false]
 exact ⟨i,List.mem_range.2 hi,by simp [h]⟩
theorem xr7 {i:Nat} {f:Nat→Bool}:(List.range (i+1)).all f=((List.range i).all f && f i):=by
 rw [List.range_succ,List.all_append];simp
theorem tOk_iff {l:List Tst} {i:Nat}:tOk l i=true↔0≤(l.getD i tst0).lo∧(l.getD i tst0).lo < (l.getD i tst0).hi∧(l.getD i tst0).hi≤65536∧(i=0∨(l.getD (i - 1) tst0).hi≤(l.getD i tst0).lo∧(l.getD (i - 1) tst0).v.kind=(l.getD i tst0).v.kind∧ ¬((l.getD (i - 1) tst0).hi=(l.getD i tst0).lo∧(l.getD (i - 1) tst0).v=(l.getD i tst0).v)):=by
 simp only [tOk,Bool.and_eq_true,Bool.or_eq_true,Bool.not_eq_true',Bool.and_eq_false_iff,decide_eq_true_eq,decide_eq_false_iff_not,and_assoc,Decidable.not_and_iff_not_or_not]
theorem xk8 {l:List Tst} {i:Nat} (hi:i < l.length) (h: ¬(0≤(l.getD i tst0).lo∧(l.getD i tst0).lo < (l.getD i tst0).hi∧(l.getD i tst0).hi≤65536∧(i=0∨(l.getD (i - 1) tst0).hi≤(l.getD i tst0).lo∧(l.getD (i - 1) tst0).v.kind=(l.getD i tst0).v.kind∧ ¬((l.getD (i - 1) tst0).hi=(l.getD i tst0).lo∧(l.getD (i - 1) tst0).v=(l.getD i tst0).v)))):false=tRight l:=by
 rw [tRight,ranges_stop hi (Bool.eq_false_iff.2 fun h'=>h (tOk_iff.1 h'))];rfl
def ixF (p:Tst→Bool) (l:List Tst):Int:=if l.any p then ((l.takeWhile fun s=> !p s).length:Int) else -1
theorem ixF_at {p:Tst→Bool}: ∀{l:List Tst} {i:Nat},i < l.length→(l.take i).any p=false→p (l.getD i tst0)=true→(i:Int)=ixF p l
 | [],i,hi,_,_=>by simp at hi
 | x::xs,0,_,_,h=>by
  have h:p x=true:=h
  simp [ixF,h]
 | x::xs,i+1,hi,ha,h=>by
  simp only [List.take_succ_cons,List.any_cons,Bool.or_eq_false_iff] at ha
  have h2:p (xs.getD i tst0)=true:=by simpa using h
  have hi2:i < xs.length:=by simpa using hi
  have ih:=ixF_at hi2 ha.2 h2
  have hany:xs.any p=true:=List.any_eq_true.2 ⟨xs.getD i tst0,by rw [List.getD_eq_getElem?_getD,List.getElem?_eq_getElem hi2];exact List.getElem_mem hi2,h2⟩
  rw [ixF,if_pos hany] at ih
  simp only [ixF,List.any_cons,ha.1,hany,Bool.or_true,if_true,Bool.not_false,List.takeWhile_cons,List.length_cons]
  omega
theorem ixF_end {p:Tst→Bool} {l:List Tst} (h:l.any p=false): -1=ixF p l:=by simp [ixF,h]
theorem ixF_any {p:Tst→Bool} {l:List Tst}:decide (ixF p l≥0)=l.any p:=by
 rw [ixF]
 cases l.any p with
 | true=>simp
 | false=>simp
theorem any_next {p:Tst→Bool} {l:List Tst} {i:Nat} (hi:i < l.length):(l.take (i+1)).any p=((l.take i).any p || p (l.getD i tst0)):=by
 rw [List.take_succ_eq_append_getElem hi,List.any_append,List.getD_eq_getElem?_getD,List.getElem?_eq_getElem hi];simp
theorem all_any {l:List Tst}:(!l.any fun s=> !s.v.valid)=l.all fun s=>s.v.valid:=by
 rw [List.not_any_eq_all_not];simp
theorem mem_getD {l:List Tst} {i:Nat} (hi:i < l.length):l.getD i tst0∈l:=by
 rw [List.getD_eq_getElem?_getD,List.getElem?_eq_getElem hi];exact List.getElem_mem hi
def pst1 (acc:List Tst) (s:Tst):List Tst:=
 if s.hi≤s.lo then acc
 else if 0 < acc.length∧(acc.getD (acc.length - 1) tst0).hi=s.lo∧(acc.getD (acc.length - 1) tst0).v=s.v then acc.set (acc.length - 1) ⟨(acc.getD (acc.length - 1) tst0).lo,s.hi,(acc.getD (acc.length - 1) tst0).v⟩
 else acc++[s]
def pst (acc ps:List Tst):List Tst:=ps.foldl pst1 acc
theorem pst1_len (acc:List Tst) (s:Tst):(pst1 acc s).length≤acc.length+1:=by
 rw [pst1];split
 ·omega
 ·split
  ·simp
  ·simp
theorem pst_len: ∀(ps acc:List Tst),(pst acc ps).length≤acc.length+ps.length
 | [],acc=>by simp [pst]
 | s::r,acc=>by
  have h1:=pst_len r (pst1 acc s)
  have h2:=pst1_len acc s
  simp only [pst,List.foldl_cons,List.length_cons] at*
  omega
end An
namespace An.S
open Go Go.Proofs An
instance ti56:TyI Tryz.prog 56 8 true:=⟨by kernel_rfl,by kernel_rfl⟩
instance sl38:SlI Tryz.prog 38 56 8 true:=⟨Tryz.underlying38,ti56⟩
instance fo56_0:FoI Tryz.prog 56 0 0:=⟨by kernel_rfl⟩
instance fo56_1:FoI Tryz.prog 56 1 1:=⟨by kernel_rfl⟩
instance fo56_2:FoI Tryz.prog 56 2 2:=⟨by kernel_rfl⟩
instance fi23:FnI Tryz.prog 23:=⟨_,Tryz.func23,by kernel_rfl,rfl⟩
instance fi24:FnI Tryz.prog 24:=⟨_,Tryz.func24,by kernel_rfl,rfl⟩
instance fi77:FnI Tryz.prog 77:=⟨_,Tryz.func77,by kernel_rfl,rfl⟩
instance fi78:FnI Tryz.prog 78:=⟨_,Tryz.func78,by kernel_rfl,rfl⟩
instance fi102:FnI Tryz.prog 102:=⟨_,Tryz.func102,by kernel_rfl,rfl⟩
theorem zr56:(Tryz.prog.info? 56).bind (·.zero)=some (.agg #[.int .i64 0,.int .i64 0,.int .u8 0,.bool false,.slice none 0 0,.bool false,.slice none 0 0,.int .i64 0])∧ ∀F w,(tS [⟨1,false,(tE (.int .i64 0))⟩,⟨1,false,(tE (.int .i64 0))⟩,⟨6,true,(tS [⟨1,false,(tE (.int .u8 0))⟩,⟨4,true,(tS [⟨2,true,(tS [⟨1,false,(tE (.bool false))⟩,⟨1,false,(tLm [])⟩])⟩,⟨2,true,(tS [⟨1,false,(tE (.bool false))⟩,⟨1,false,(tLm [])⟩])⟩])⟩,⟨1,false,(tE (.int .i64 0))⟩])⟩]).p F w (.agg #[.int .i64 0,.int .i64 0,.int .u8 0,.bool false,.slice none 0 0,.bool false,.slice none 0 0,.int .i64 0]):=⟨by kernel_rfl,fun _ _=>⟨_,rfl,rfl,⟨fun _=>rfl,rfl⟩,⟨fun _=>rfl,rfl⟩,⟨fun h=>Bool.noConfusion h,⟨_,rfl,rfl,⟨fun _=>rfl,rfl⟩,⟨fun h=>Bool.noConfusion h,⟨_,rfl,rfl,⟨fun h=>Bool.noConfusion h,⟨_,rfl,rfl,⟨fun _=>rfl,rfl⟩,⟨fun _=>rfl,⟨none,0,rfl,Nat.le_refl _,by decide,.inl rfl⟩⟩,trivial⟩⟩,⟨fun h=>Bool.noConfusion h,⟨_,rfl,rfl,⟨fun _=>rfl,rfl⟩,⟨fun _=>rfl,⟨none,0,rfl,Nat.le_refl _,by decide,.inl rfl⟩⟩,trivial⟩⟩,trivial⟩⟩,⟨fun _=>rfl,rfl⟩,trivial⟩⟩,trivial⟩⟩
instance un38:UnI Tryz.prog 38 (.slice 56):=⟨Tryz.underlying38⟩
theorem c_TRight1 (s:Tst) (hD:s.v.f.dig):
  Ct Tryz.prog 78 [tTs s] (tB (!s.v.valid)):=by
 refine Ct.intro Tryz.func78 rfl Tryz.ntmps78 rfl ?_
 intro w F
 refine A10 ?_
 refine R1 (x4 (c_TValid s.v hD) fi24 rfl) rfl ?_
 refine A5 ?_
 exact x3 Plain.mk' rfl rfl Le.refl
theorem c_TIndex (l:List Tst) (hD: ∀s∈l,s.v.f.dig):
  Ct Tryz.prog 102 [tL 8 true tTs l,tE (.func (.func 78) #[] #[])] (tI (ixF (fun s:Tst=> !s.v.valid) l)):=by
 refine Ct.intro Tryz.func102 rfl Tryz.ntmps102 rfl ?_
 intro w F
 refine xf1 (s:=0) rfl (fun hl0=> ?_)
 refine A14 ?_
 refine cL (fun (i:Nat)=>i≤l.length∧(l.take i).any (fun s:Tst=> !s.v.valid)=false) (fun (i:Nat)=>upd (upd (upd (upd (fun _=>none) 0 (some (.val (tL 8 true tTs l)))) 1 (some (.val (tE (.func (.func 78) #[] #[]))))) 7 (some (.val (tI l.length)))) 8 (some (.val (tI i)))) (fun (i:Nat)=>fun _=>none) [] (fun (i:Nat)=>l.length - i) (0) ⟨Nat.zero_le _,rfl⟩ ?_
 intro i hI
 obtain ⟨hi,ha⟩:=hI
 refine A6 ?_
 refine x7 rfl (fun h108=> ?_) (fun h108=> ?_)
 ·
  refine A15 ?_
  refine R2 (x6 sl38 (i) (by omega) (gD (l:=l) (n:=i) (d:=tst0) (by omega))) rfl rfl ?_
  refine A1 ?_
  refine R2 (xm1 (c_TRight1 (l.getD i tst0) (hD _ (mem_getD (by omega)))) fi78 rfl) rfl rfl ?_
  refine A2 ?_
  refine xd3 rfl (fun h109=> ?_) (fun h109=> ?_)
  ·
   refine A12 ?_
   exact x3 Plain.mk' rfl rfl (Le.int (ixF_at (by omega) ha h109))
  ·
   refine A7 ?_
   exact kF (i+1) ⟨⟨by omega,by rw [any_next (by omega),ha,h109];rfl⟩,(by omega)⟩
 ·
  refine A11 ?_
  exact x3 Plain.mk' rfl rfl (Le.int (ixF_end (by rw [←ha,show i=l.length by omega,List.take_length])))
theorem c_TContains (l:List Tst) (hD: ∀s∈l,s.v.f.dig):
  Ct Tryz.prog 77 [tL 8 true tTs l,tE (.func (.func 78) #[] #[])] (tB (l.any (fun s:Tst=> !s.v.valid))):=by
 refine Ct.intro Tryz.func77 rfl Tryz.ntmps77 rfl ?_
 intro w F
 refine A9 ?_
 refine R2 (x4 (c_TIndex l hD) fi102 rfl) rfl rfl ?_
 refine A5 ?_
 exact x3 Plain.mk' rfl rfl (Le.bool ixF_any)
theorem c_TRight (l:List Tst) (hD: ∀s∈l,s.v.f.dig):
  Ct Tryz.prog 52 [tL 8 true tTs l] (tB (tRight l)):=by
 refine Ct.intro Tryz.func52 rfl Tryz.ntmps52 rfl ?_
 intro w F
 refine xf1 (s:=0) rfl (fun hl0=> ?_)
 refine A14 ?_
 refine cL (fun (i:Nat)=>i≤l.length∧(List.range i).all (tOk l)=true) (fun (i:Nat)=>upd (upd (upd (upd (fun _=>none) 0 (some (.val (tL 8 true tTs l)))) 6 (some (.val (tL 8 true tTs l)))) 7 (some (.val (tI l.length)))) 8 (some (.val (tI i)))) (fun (i:Nat)=>fun _=>none) [] (fun (i:Nat)=>l.length - i) (0) ⟨Nat.zero_le _,rfl⟩ ?_
 intro i hI
 obtain ⟨hi,ha⟩:=hI
 refine A6 ?_
 refine x7 rfl (fun h39=> ?_) (fun h39=> ?_)
 ·
  refine A7 ?_
  refine R2 (x6 sl38 (i) (by omega) (gD (l:=l) (n:=i) (d:=tst0) (by omega))) rfl rfl ?_
  refine A1 ?_
  refine RE (xb0 (k:=4) (n:=8) (agg:=true) zr56.1 zr56.2 rfl) trivial trivial ⟨rfl,trivial⟩ ?_
  refine A11 ?_
  refine RGcaseD (t:=16) rfl (fun h40=> ?_) (fun h40=> ?_)
  ·
   refine A18 ?_
   refine A8 ?_
   exact x3 Plain.mk' rfl rfl (Le.bool (xk8 (i:=i) (by omega) (by omega)))
  ·
   refine A7 ?_
   refine RGcaseD (t:=23) rfl (fun h40_2=> ?_) (fun h40_2=> ?_)
   ·
    refine A18 ?_
    refine A1 ?_
    exact x3 Plain.mk' rfl rfl (Le.bool (xk8 (i:=i) (by omega) (by omega)))
   ·
    refine A6 ?_
    refine x7 rfl (fun h40_3=> ?_) (fun h40_3=> ?_)
    ·
     refine A12 ?_
     exact x3 Plain.mk' rfl rfl (Le.bool (xk8 (i:=i) (by omega) (by omega)))
    ·
     refine A9 ?_
     refine x7 rfl (fun h43=> ?_) (fun h43=> ?_)
     ·
      refine A8 ?_
      have hok:tOk l i=true:=tOk_iff.2 ⟨by omega,by omega,by omega,.inl (by omega)⟩
      exact kF (i+1) ⟨⟨by omega,by rw [xr7,ha,Bool.true_and];exact hok⟩,(by omega)⟩
     ·
      refine A7 ?_
      refine R2 (x6 sl38 (i - 1) (by omega) (gD (l:=l) (n:=i - 1) (d:=tst0) (by omega))) rfl rfl ?_
      refine A1 ?_
      refine RE (xb0 (k:=5) (n:=8) (agg:=true) zr56.1 zr56.2 rfl) trivial trivial ⟨rfl,trivial⟩ ?_
      refine A11 ?_
      refine RGcaseD (t:=40) rfl (fun h47=> ?_) (fun h47=> ?_)
      ·
       refine A18 ?_
       refine A18 ?_
       exact x3 Plain.mk' rfl rfl (Le.bool (xk8 (i:=i) (by omega) (by omega)))
      ·
       refine A2 ?_
       refine xb7 (decide_eq_false h47) rfl rfl (0) ti5 rfl rfl rfl (At.t (At.g 2 rfl rfl) (At.g 0 rfl rfl)) rfl ?_
       refine A2 ?_
       refine xb7 (decide_eq_false h47) rfl rfl (0) ti5 rfl rfl rfl (At.t (At.g 2 rfl rfl) (At.g 0 rfl rfl)) rfl ?_
       refine A3 ?_
       refine RGcaseD (t:=49) rfl (fun h47_2=> ?_) (fun h47_2=> ?_)
       ·
        refine A18 ?_
        refine A9 ?_
        exact x3 Plain.mk' rfl rfl (Le.bool (xk8 (i:=i) (by omega) (by omega)))
       ·
        refine A6 ?_
        refine RGcaseD (t:=55) rfl (fun h47_3=> ?_) (fun h47_3=> ?_)
        ·
         refine A4 ?_
         refine RGon (decide_eq_true h47_3) rfl (x4 (c_TSame _ _) fi23 rfl) rfl ⟨rfl,rfl,trivial⟩ trivial trivial (RGon (decide_eq_false h47_2) rfl (xh2 (decide_eq_true h47_3)) rfl ⟨rfl,rfl,trivial⟩ trivial trivial ?_)
         refine A3 ?_
         refine x7 rfl (fun h47_4=> ?_) (fun h47_4=> ?_)
         ·
          refine A11 ?_
          exact x3 Plain.mk' rfl rfl (Le.bool (xk8 (i:=i) (by omega) (by rintro ⟨_,_,_,h | ⟨_,_,h⟩⟩;omega;exact h ⟨by omega,h47_4⟩)))
         ·
          refine A7 ?_
          have hok:tOk l i=true:=tOk_iff.2 ⟨by omega,by omega,by omega,.inr ⟨by omega,by omega,fun h=>h47_4 h.2⟩⟩
          exact kF (i+1) ⟨⟨by omega,by rw [xr7,ha,Bool.true_and];exact hok⟩,(by omega)⟩
        ·
         refine A5 ?_
         refine RGon (decide_eq_false h47_2) rfl (xh3 (decide_eq_false h47_3)) rfl ⟨rfl,rfl,trivial⟩ trivial trivial ?_
         refine A11 ?_
         have hok:tOk l i=true:=tOk_iff.2 ⟨by omega,by omega,by omega,.inr ⟨by omega,by omega,fun h=>h47_3 h.1⟩⟩
         exact kF (i+1) ⟨⟨by omega,by rw [xr7,ha,Bool.true_and];exact hok⟩,(by omega)⟩
 ·
  refine A8 ?_
  refine R2 (x4 (c_TContains l hD) fi77 rfl) rfl rfl ?_
  refine A5 ?_
  exact x3 Plain.mk' rfl rfl (Le.bool (by rw [tRight,←all_any,←show i=l.length by omega,ha,Bool.true_and]))
end An.S
namespace An
open Go Go.Proofs Go.Shelf Go.Sort
section
variable {α:Type} [Inhabited α]
def srt (cf:α→α→Int) (xs:List α):List α:=(pdq (ltOf cf) xs.toArray 0 xs.toArray.size (Go.Lib.bitLen xs.toArray.size) true true).toList
theorem srt_spec {cf:α→α→Int} (hO:SWO (ltOf cf)) (xs:List α):(srt cf xs).length=xs.length∧(srt cf xs).Perm xs∧(srt cf xs).Pairwise fun a b=>ltOf cf b a=false:=by
 obtain ⟨⟨h1,_,h2⟩,h3⟩:=pdq_sorts (ltOf cf) hO xs.toArray 0 xs.toArray.size (Go.Lib.bitLen xs.toArray.size) true true (Nat.zero_le _) (Nat.le_refl _) (Or.inl rfl)
 rw [srt]
 generalize pdq (ltOf cf) xs.toArray 0 xs.toArray.size (Go.Lib.bitLen xs.toArray.size) true true=D at*
 have e1:D.size=xs.length:=by simpa using h1
 have x1:D.extract 0 xs.toArray.size=D:=by rw [←h1];simp
 have x2:xs.toArray.extract 0 xs.toArray.size=xs.toArray:=by simp
 rw [x1,x2] at h2
 refine ⟨by simpa using e1,by simpa using h2,?_⟩
 rw [List.pairwise_iff_getElem]
 intro i j hi hj hij
 have hi':i < D.size:=by simpa using hi
 have hj':j < D.size:=by simpa using hj
 have h6:=h3 i j (Nat.zero_le _) hij (by rw [←h1];exact hj')
 rw [getElem!_pos _ i hi',getElem!_pos _ j hj'] at h6
 simpa using h6
theorem srt_asc {cf:α→α→Int} (hO:SWO (ltOf cf)) {xs:List α} (h:xs.Pairwise fun a b=>ltOf cf a b=true):srt cf xs=xs:=by
 have hp:=(srt_spec hO xs).2.1
 have hs:=(srt_spec hO xs).2.2
 generalize srt cf xs=ys at*
 induction xs generalizing ys with
 | nil=>exact hp.eq_nil
 | cons x xs ih=>
  cases ys with
  | nil=>exact absurd hp.symm.eq_nil (by simp)
  | cons y ys=>
   obtain ⟨h1,h2⟩:=List.pairwise_cons.1 h
   obtain ⟨s1,s2⟩:=List.pairwise_cons.1 hs
   have hxy:y=x:=by
    have hy:y∈x::xs:=hp.mem_iff.1 (by simp)
    rcases List.mem_cons.1 hy with e | hy
    ·exact e
    ·have hx:x∈y::ys:=hp.mem_iff.2 (by simp)
     rcases List.mem_cons.1 hx with e | hx
     ·exact e.symm
     ·have a1:=s1 x hx
      have a2:=h1 y hy
      rw [a2] at a1;cases a1
   subst hxy
   rw [ih h2 ys (List.perm_cons y |>.1 hp) s2]
end
theorem flat_at {α:Type} [Inhabited α] {enc:α→List Value} {k:Nat} (_hk: ∀x,(enc x).length=k) (d:Array α) {i j:Nat} (hi:i < d.size) (hj:j < k):(flatK enc k d)[i*k+j]! =(enc d[i]!)[j]! :=by
 have lt:i*k+j < d.size*k:=by
  have:=Nat.mul_le_mul_right k (show i+1≤d.size from hi);rw [Nat.add_mul,Nat.one_mul] at this;omega
 rw [get_flatK _ _ _ _ lt]
 have e1:(i*k+j) / k=i:=by rw [Nat.mul_comm,Nat.mul_add_div (by omega),Nat.div_eq_of_lt hj];omega
 have e2:(i*k+j)%k=j:=by rw [Nat.mul_comm,Nat.mul_add_mod,Nat.mod_eq_of_lt hj]
 rw [e1,e2]
theorem sortG {P:Program} {ρ:Ren} {α:Type} [Inhabited α] (L:SlLaysF0.n6 P ρ) {T k:Nat} {f:α→Ty} {enc:α→List Value} {cf:α→α→Int} {g:Nat} (aE: ∀w,(isAgg (ρ.t 24)).run P w= .ok true w) (zE: ∀w,(Go.sizeOf (ρ.t 24)).run P w= .ok k w)
  (hk: ∀x,(enc x).length=k) (h1: ∀x,∀v∈enc x,v.oneCell'=true) (hf1: ∀F w x v,(f x).p F w v→v= .agg (enc x).toArray) (hf2: ∀F w x,(f x).p F w (.agg (enc x).toArray)) (hO:SWO (ltOf cf))
  (eg: ∀args w,(callFunc g args).run P w= .ok (.enter g args) w) (hcmp: ∀(x y:α) (W:World),Calls P g #[.agg (enc x).toArray,.agg (enc y).toArray] W fun e w'=>e= .returned (.int .i64 (cf x y))∧ ∃q os',w'=grow (W.drewN q) os') (xs:List α) (hn:xs.length < 4611686018427387904):
  CtG P (ρ.f 6) [(1,⟨T,k,true,rV f xs⟩)] [.own (.sl 1 k 0 xs.length),.val (tE (.func (.func g) #[] #[]))] (.val (tE (.tuple #[]))) [(1,⟨T,k,true,rV f (srt cf xs)⟩)] []:=by
 intro F w η vs hS hA hI hF
 match vs,hS with
 | [v0,v1],hS=>
 obtain ⟨⟨A,rfl,hle,hadr⟩,h2,_⟩:=hS
 have h2:v1= .func (.func g) #[] #[]:=h2
 subst h2
 obtain ⟨k1,k2,k3,k4,k5⟩:=hA (1,⟨T,k,true,rV f xs⟩) (by simp)
 have k1:(rV f xs).length≤η.c 1:=k1
 have k2:0 < k:=k2
 have k4:η.c 1≤9223372036854775807:=k4
 rw [xc7] at k1
 obtain ⟨s1,s2,_⟩:=srt_spec hO xs
 by_cases h0:xs.length=0
 ·have hx:xs=[]:=List.length_eq_zero_iff.1 h0
  subst hx
  have e0:srt cf ([]:List α)=[]:=List.length_eq_zero_iff.1 s1
  rw [e0]
  refine (AnyF.slices_SortFunc_none L A (η.c 1 - 0) (.func (.func g) #[] #[]) w).mono ?_
  rintro e w' ⟨rfl,rfl⟩
  refine ⟨_,η,rfl,⟨Stp.refl _ _,fun _ _=>⟨rfl,rfl⟩,rfl,fun x hx=> ?_,hI,fun b hb=> .inl hb⟩⟩
  simp only [List.mem_singleton] at hx
  subst hx
  refine ⟨by simp [rV],k2,k3,k4,fun hc=> ?_⟩
  obtain ⟨cs,c1,c2,_⟩:=k5 hc
  exact ⟨cs,c1,c2,fun i e hi=>by simp [rV] at hi⟩
 ·have hc0:0 < η.c 1:=by omega
  obtain ⟨cs,c1,c2,c3⟩:=k5 hc0
  have c1:w.heap[η.b 1]? =some (.cells cs T (0,0)):=c1
  have c2:cs.size=η.c 1*k:=c2
  have hA':=hadr hc0
  rw [Nat.zero_mul] at hA'
  subst hA'
  have hblk:η.b 1 < w.heap.size:=xa6 c1
  have hmul: ∀i,i < xs.length→i*k+k≤cs.size:=fun i hi=>by
   rw [c2,←Nat.succ_mul];exact Nat.mul_le_mul_right _ (by omega)
  have hget: ∀i (hi:i < xs.length) j,j < k→cs[i*k+j]? =(enc xs[i])[j]? :=fun i hi j hj=>by
   have h3:=c3 i (.val (f xs[i])) (by rw [rV,List.getElem?_map,List.getElem?_eq_getElem hi];rfl)
   have h4:=hf1 _ _ _ _ h3
   simp only [pick,cond_true,Value.agg.injEq] at h4
   have h5:=congrArg (fun a:Array Value=>a[j]?) h4
   simp only [Array.getElem?_extract,List.getElem?_toArray] at h5
   have:=hmul i hi
   rw [if_pos (by omega)] at h5
   exact h5
  have hsize:xs.toArray.size=xs.length:=by simp
  have hH:HoldsK enc k w (η.b 1) 0 xs.toArray:=by
   intro j hj
   rw [size_flatK,hsize] at hj
   have hj1:j / k < xs.length:=by rw [Nat.div_lt_iff_lt_mul k2];exact hj
   have hj2:j%k < k:=Nat.mod_lt _ k2
   have hje:j / k*k+j%k=j:=by rw [Nat.mul_comm];exact Nat.div_add_mod j k
   have h6:=hget (j / k) hj1 (j%k) hj2
   rw [hje] at h6
   have h7:=flat_at hk xs.toArray (i:=j / k) (j:=j%k) (by rw [hsize];exact hj1) hj2
   rw [hje] at h7
   have hlen:j%k < (enc xs[j / k]).length:=by rw [hk];exact hj2
   have h8:xs.toArray[j / k]! =xs[j / k]:=by rw [getElem!_pos _ _ (by rw [hsize];exact hj1)];simp
   refine ⟨?_,?_⟩
   ·show w.cell? ⟨η.b 1,0+j,none⟩=some (flatK enc k xs.toArray)[j]!
    rw [h7,h8,getElem!_pos (enc xs[j / k]) (j%k) hlen]
    simp only [World.cell?,c1,Nat.zero_add,Option.isSome_none,Bool.false_eq_true,if_false]
    rw [h6,List.getElem?_eq_getElem hlen]
   ·simp [World.frozen?,c1]
  have hcon:=AnyQ.slices_SortFunc_eq L k aE zE enc hk h1 cf hO g #[] (η.b 1) 0 (η.c 1 - 0) xs.toArray w eg (fun m os dk _ x y=>hcmp x y _) hH hblk (by rw [hsize];exact hn)
  rw [hsize] at hcon
  refine hcon.mono ?_
  rintro e w' ⟨rfl,m,os,rfl⟩
  have hd:(pdq (ltOf cf) xs.toArray 0 xs.length (Go.Lib.bitLen xs.length) true true).size=xs.length:=by
   have:(srt cf xs).length=xs.length:=s1
   simpa [srt] using this
  have hl:(pdq (ltOf cf) xs.toArray 0 xs.length (Go.Lib.bitLen xs.length) true true).toList=srt cf xs:=by simp [srt]
  generalize pdq (ltOf cf) xs.toArray 0 xs.length (Go.Lib.bitLen xs.length) true true=d at hd hl
  have hheap: ∀b',b' < w.heap.size→(sortWorldK enc k w (η.b 1) 0 m d os).heap[b']? =if b'=η.b 1 then some (.cells (putCells id 0 (flatK enc k d) cs) T (0,0)) else w.heap[b']? :=fun b' hb'=>by
   show (grow (putRowK enc k (Sort.ahead w m) (η.b 1) 0 d) os).heap[b']? =_
   rw [heap_grow_old _ _ (by simp [putRowK];exact hb')]
   simp only [putRowK,putRow,mapBlock,Array.getElem?_modify]
   by_cases hb:b'=η.b 1
   ·subst hb
    rw [if_pos rfl,if_pos rfl]
    show Option.map _ (w.heap[η.b 1]?)=_
    rw [c1];rfl
   ·rw [if_neg (fun h=>hb h.symm),if_neg hb];rfl
  have hsz:w.heap.size≤(sortWorldK enc k w (η.b 1) 0 m d os).heap.size:=by
   show w.heap.size≤(grow (putRowK enc k (Sort.ahead w m) (η.b 1) 0 d) os).heap.size
   simp [grow,putRowK,putRow,mapBlock,Sort.ahead]
  refine ⟨_,η,rfl,⟨⟨rfl,rfl,rfl,hsz,fun b' hb' hn'=> ?_⟩,fun _ _=>⟨rfl,rfl⟩,rfl,fun x hx=> ?_,fun x hx y hy hne=> ?_,fun b' hb'=> .inl ?_⟩⟩
  ·rw [hheap b' hb',if_neg]
   intro hb;exact hn' ⟨(1,⟨T,k,true,rV f xs⟩),by simp,hc0,hb⟩
  ·simp only [List.mem_singleton] at hx
   subst hx
   refine ⟨by rw [xc7,s1];exact k1,k2,k3,k4,fun _=>⟨putCells id 0 (flatK enc k d) cs,?_,?_,fun i e hi=> ?_⟩⟩
   ·rw [hheap _ hblk,if_pos rfl]
   ·simp only [putCells,Array.size_mapIdx];exact c2
   ·have hil:i < (srt cf xs).length:=by
     have:=(List.getElem?_eq_some_iff.1 hi).1;rwa [xc7] at this
    have hi2:i < xs.length:=by rw [←s1];exact hil
    rw [rV,List.getElem?_map,List.getElem?_eq_getElem hil] at hi
    simp only [Option.map_some,Option.some.injEq] at hi
    subst hi
    have hdi:d[i]! =(srt cf xs)[i]:=by
     rw [getElem!_pos d i (by rw [hd];exact hi2)]
     simp only [←hl,Array.getElem_toList]
    have:pick true k (putCells id 0 (flatK enc k d) cs) (i*k)= .agg (enc (srt cf xs)[i]).toArray:=by
     simp only [pick,cond_true,Value.agg.injEq]
     apply Array.ext_getElem?
     intro j
     rw [Array.getElem?_extract]
     have hm:=hmul i hi2
     simp only [List.getElem?_toArray]
     by_cases hj:j < k
     ·rw [if_pos (by simp only [putCells,Array.size_mapIdx];omega)]
      have hlt:i*k+j < d.size*k:=by
       rw [hd]
       have:=Nat.mul_le_mul_right k (show i+1≤xs.length from hi2);rw [Nat.add_mul,Nat.one_mul] at this;omega
      simp only [putCells,Array.getElem?_mapIdx,size_flatK]
      have hcs:cs[i*k+j]? =some (cs[i*k+j]'(by omega)):=by rw [Array.getElem?_eq_getElem]
      rw [hcs]
      simp only [Option.map_some]
      rw [if_pos ⟨Nat.zero_le _,by omega⟩,Nat.sub_zero,flat_at hk d (by rw [hd];exact hi2) hj,hdi]
      have hjl:j < (enc (srt cf xs)[i]).length:=by rw [hk];exact hj
      rw [getElem!_pos (enc (srt cf xs)[i]) j hjl,List.getElem?_eq_getElem hjl];rfl
     ·rw [if_neg (by simp only [putCells,Array.size_mapIdx];omega),List.getElem?_eq_none (by rw [hk];omega)]
    simp only []
    rw [this]
    exact hf2 _ _ _
  ·simp only [List.mem_singleton] at hx hy
   subst hx;subst hy
   exact absurd rfl hne
  ·obtain ⟨x,hx,hc,rfl⟩:=hb'
   simp only [List.mem_singleton] at hx
   subst hx
   exact ⟨(1,⟨T,k,true,rV f xs⟩),by simp,hc,rfl⟩
end An
namespace An.S
open Go Go.Proofs An
open Go.RowKit Go.Sort
instance fo50_0:FoI Tryz.prog 50 0 0:=⟨by kernel_rfl⟩
instance fo50_1:FoI Tryz.prog 50 1 1:=⟨by kernel_rfl⟩
instance fi82:FnI Tryz.prog 82:=⟨_,Tryz.func82,by kernel_rfl,rfl⟩
instance fi83:FnI Tryz.prog 83:=⟨_,Tryz.func83,by kernel_rfl,rfl⟩
theorem el50:ElI Tryz.prog 50 2 16 true (.agg #[.int .i64 0,.int .i64 0]):=⟨ti50,by kernel_rfl,by kernel_rfl⟩
theorem zr50:(Tryz.prog.info? 50).bind (·.zero)=some (.agg #[.int .i64 0,.int .i64 0])∧ ∀F w,(tS [⟨1,false,(tE (.int .i64 0))⟩,⟨1,false,(tE (.int .i64 0))⟩]).p F w (.agg #[.int .i64 0,.int .i64 0]):=⟨by kernel_rfl,fun _ _=>⟨_,rfl,rfl,⟨fun _=>rfl,rfl⟩,⟨fun _=>rfl,rfl⟩,trivial⟩⟩
theorem zf50:Flat 2 true (.agg #[.int .i64 0,.int .i64 0]):=xp3 (by intro u hu;simp at hu;rcases hu with rfl | rfl <;> rfl)
def cmpI (a b:Int):Int:=if a < b then -1 else if b < a then 1 else 0
theorem cmpInt (a b:Int) (W:World):Calls Tryz.prog 58 #[.int .i64 a,.int .i64 b] W fun e w'=>e= .returned (.int .i64 (cmpI a b))∧w'=W:=by
 have hn: ∀(x:Int) (W:World),Calls Tryz.prog 86 #[.int .i64 x] W fun e w'=>e= .returned (.bool false)∧w'=W:=fun x W=>by
  have h1:(x==x)=true:=by simp
  go_enter Tryz.func86,Tryz.ntmps86
  go_wp2
  go_ret
  exact ⟨by simp,rfl⟩
 by_cases h1:a < b
 ·rw [show cmpI a b= -1 by simp [cmpI,h1]]
  go_enter Tryz.func58,Tryz.ntmps58
  go_wp2_with (go_at_call 86;refine (hn _ _).mono ?_;rintro e w' ⟨rfl,rfl⟩)
  go_ret
  exact ⟨rfl,rfl⟩
 ·by_cases h2:b < a
  ·rw [show cmpI a b=1 by simp [cmpI,h1,h2]]
   go_enter Tryz.func58,Tryz.ntmps58
   go_wp2_with (go_at_call 86;refine (hn _ _).mono ?_;rintro e w' ⟨rfl,rfl⟩)
   go_ret
   exact ⟨rfl,rfl⟩
  ·rw [show cmpI a b=0 by simp [cmpI,h1,h2]]
   go_enter Tryz.func58,Tryz.ntmps58
   go_wp2_with (go_at_call 86;refine (hn _ _).mono ?_;rintro e w' ⟨rfl,rfl⟩)
   go_ret
   exact ⟨rfl,rfl⟩
def sortSpanR:Go.Shelf.Ren:=⟨fun n=>match n with | 6=>83 | 14=>103 | 15=>89 | 20=>124 | 21=>125 | 22=>126 | 23=>127 | 24=>128 | 25=>129 | 26=>130 | 27=>131 | 28=>115 | 29=>116 | 46=>147 | 47=>134 | 48=>135 | 49=>148 | 50=>149 | 57=>163 | n=>n,fun n=>match n with | 0=>0 | 3=>3 | 4=>4 | 5=>5 | 9=>9 | 22=>42 | 24=>50 | 25=>127 | 39=>110 | 45=>141 | 46=>142 | 50=>147 | 53=>150 | 55=>102 | 66=>161 | 70=>165 | 76=>179 | 77=>75 | n=>n,fun n=>n⟩
theorem sortSpan:Go.Proofs.SlLaysF0.n6 Tryz.prog sortSpanR where
 mixed:=by kernel_rfl
 f6:=⟨Tryz.f83.name,by kernel_rfl,by kernel_rfl⟩
 f14:=⟨Tryz.f103.name,by kernel_rfl,by kernel_rfl⟩
 f15:=by kernel_rfl
 f20:=⟨Tryz.f124.name,by kernel_rfl,by kernel_rfl⟩
 f21:=⟨Tryz.f125.name,by kernel_rfl,by kernel_rfl⟩
 f22:=⟨Tryz.f126.name,by kernel_rfl,by kernel_rfl⟩
 f23:=⟨Tryz.f127.name,by kernel_rfl,by kernel_rfl⟩
 f24:=⟨Tryz.f128.name,by kernel_rfl,by kernel_rfl⟩
 f25:=⟨Tryz.f129.name,by kernel_rfl,by kernel_rfl⟩
 f26:=⟨Tryz.f130.name,by kernel_rfl,by kernel_rfl⟩
 f27:=⟨Tryz.f131.name,by kernel_rfl,by kernel_rfl⟩
 f28:=by kernel_rfl
 f29:=by kernel_rfl
 f46:=⟨Tryz.f147.name,by kernel_rfl,by kernel_rfl⟩
 f47:=by kernel_rfl
 f48:=by kernel_rfl
 f49:=⟨Tryz.f148.name,by kernel_rfl,by kernel_rfl⟩
 f50:=⟨Tryz.f149.name,by kernel_rfl,by kernel_rfl⟩
 f57:=⟨Tryz.f163.name,by kernel_rfl,by kernel_rfl⟩
 t0:=by kernel_rfl
 a0:=fun w=>by kernel_rfl
 z0:=fun w=>by kernel_rfl
 v0:=fun w=>by kernel_rfl
 t3:=by kernel_rfl
 a3:=fun w=>by kernel_rfl
 z3:=fun w=>by kernel_rfl
 v3:=fun w=>by kernel_rfl
 t4:=by kernel_rfl
 a4:=fun w=>by kernel_rfl
 z4:=fun w=>by kernel_rfl
 v4:=fun w=>by kernel_rfl
 t5:=by kernel_rfl
 a5:=fun w=>by kernel_rfl
 z5:=fun w=>by kernel_rfl
 v5:=fun w=>by kernel_rfl
 t9:=by kernel_rfl
 a9:=fun w=>by kernel_rfl
 z9:=fun w=>by kernel_rfl
 v9:=fun w=>by kernel_rfl
 t22:=by kernel_rfl
 a22:=fun w=>by kernel_rfl
 z22:=fun w=>by kernel_rfl
 v22:=fun w=>by kernel_rfl
 t25:=by kernel_rfl
 a25:=fun w=>by kernel_rfl
 z25:=fun w=>by kernel_rfl
 v25:=fun w=>by kernel_rfl
 t39:=by kernel_rfl
 a39:=fun w=>by kernel_rfl
 z39:=fun w=>by kernel_rfl
 v39:=fun w=>by kernel_rfl
 t45:=by kernel_rfl
 a45:=fun w=>by kernel_rfl
 z45:=fun w=>by kernel_rfl
 v45:=fun w=>by kernel_rfl
 t46:=by kernel_rfl
 a46:=fun w=>by kernel_rfl
 z46:=fun w=>by kernel_rfl
 v46:=fun w=>by kernel_rfl
 t50:=by kernel_rfl
 a50:=fun w=>by kernel_rfl
 z50:=fun w=>by kernel_rfl
 v50:=fun w=>by kernel_rfl
 t53:=by kernel_rfl
 a53:=fun w=>by kernel_rfl
 z53:=fun w=>by kernel_rfl
 v53:=fun w=>by kernel_rfl
 t55:=by kernel_rfl
 a55:=fun w=>by kernel_rfl
 z55:=fun w=>by kernel_rfl
 v55:=fun w=>by kernel_rfl
 t66:=by kernel_rfl
 a66:=fun w=>by kernel_rfl
 z66:=fun w=>by kernel_rfl
 v66:=fun w=>by kernel_rfl
 t70:=by kernel_rfl
 a70:=fun w=>by kernel_rfl
 z70:=fun w=>by kernel_rfl
 v70:=fun w=>by kernel_rfl
 t76:=by kernel_rfl
 a76:=fun w=>by kernel_rfl
 z76:=fun w=>by kernel_rfl
 v76:=fun w=>by kernel_rfl
 t77:=by kernel_rfl
 a77:=fun w=>by kernel_rfl
 z77:=fun w=>by kernel_rfl
 v77:=fun w=>by kernel_rfl
def cfSn (x y:Sn):Int:=cmpI x.lo y.lo
def encSn (x:Sn):List Value:=[.int .i64 x.lo,.int .i64 x.hi]
theorem ltSn (x y:Sn):Go.Proofs.ltOf cfSn x y=decide (x.lo < y.lo):=by
 unfold Go.Proofs.ltOf cfSn cmpI
 by_cases h1:x.lo < y.lo
 ·simp [h1]
 ·by_cases h2:y.lo < x.lo <;> simp [h1,h2]
theorem swoSn:SWO (Go.Proofs.ltOf cfSn) where
 irrefl x:=by rw [ltSn];simp
 trans x y z h1 h2:=by rw [ltSn] at*;simp at*;omega
 ntrans x y z h1 h2:=by rw [ltSn] at*;simp at*;omega
theorem closSn (x y:Sn) (W:World):Calls Tryz.prog 84 #[.agg (encSn x).toArray,.agg (encSn y).toArray] W fun e w'=>e= .returned (.int .i64 (cfSn x y))∧ ∃q os',w'=grow (W.drewN q) os':=by
 have hcon:=fun W'=>cmpInt x.lo y.lo W'
 show Calls Tryz.prog 84 #[.agg #[.int .i64 x.lo,.int .i64 x.hi],.agg #[.int .i64 y.lo,.int .i64 y.hi]] W fun e w'=>e= .returned (.int .i64 (cmpI x.lo y.lo))∧ ∃q os',w'=grow (W.drewN q) os'
 generalize cmpI x.lo y.lo=r at hcon ⊢
 go_enter Tryz.func84,Tryz.ntmps84
 go_wp2_with (go_at_call 58;refine (hcon _).mono ?_;rintro e w' ⟨rfl,rfl⟩)
 go_ret
 exact ⟨rfl,0,_,by rw [alloc_eq_grow,alloc_eq_grow,grow_grow];rfl⟩
theorem c_sortSn (xs:List Sn) (hn:xs.length < 4611686018427387904):CtG Tryz.prog 83 [(1,⟨50,2,true,rV tSn xs⟩)] [.own (.sl 1 2 0 xs.length),.val (tE (.func (.func 84) #[] #[]))] (.val (tE (.tuple #[]))) [(1,⟨50,2,true,rV tSn (srt cfSn xs)⟩)] []:=
 sortG sortSpan (enc:=encSn) (cf:=cfSn) (fun w=>by kernel_rfl) (fun w=>by kernel_rfl) (fun _=>rfl) (fun x v hv=>by simp [encSn] at hv;rcases hv with rfl | rfl <;> rfl) (fun F w x v h=>tSn_val h) (fun F w x=>tSn_mk) swoSn (enters_of Tryz.func84 (by kernel_rfl) rfl) closSn xs hn
theorem srtSn_len {xs:List Sn}:(srt cfSn xs).length=xs.length:=(srt_spec swoSn xs).1
def pos (s:Sn):Bool:=decide (s.lo < s.hi)
def mkS (l:List Sn):List Sn:=mrg (srt cfSn (l.filter pos))
theorem filter_next {l:List Sn} {i:Nat} (hi:i < l.length):(l.take (i+1)).filter pos=(l.take i).filter pos++(if pos (l.getD i sn0) then [l.getD i sn0] else []):=by
 rw [List.take_succ_eq_append_getElem hi,List.filter_append,List.getD_eq_getElem?_getD,List.getElem?_eq_getElem hi]
 by_cases h:pos l[i]=true <;> simp [h]
theorem mrg_next {l:List Sn} {i:Nat} (hi:i < l.length):mrg (l.take (i+1))=mrg1 (mrg (l.take i)) (l.getD i sn0):=by
 rw [List.take_succ_eq_append_getElem hi,mrg,List.foldl_append,List.getD_eq_getElem?_getD,List.getElem?_eq_getElem hi];rfl
theorem allS_next {p:Sn→Bool} {l:List Sn} {i:Nat} (hi:i < l.length):(l.take (i+1)).all p=((l.take i).all p && p (l.getD i sn0)):=by
 rw [List.take_succ_eq_append_getElem hi,List.all_append,List.getD_eq_getElem?_getD,List.getElem?_eq_getElem hi];simp
theorem allS_stop {p:Sn→Bool} {l:List Sn} {i:Nat} (hi:i < l.length) (h:p (l.getD i sn0)=false):l.all p=false:=by
 rw [List.all_eq_false]
 exact ⟨l.getD i sn0,by rw [List.getD_eq_getElem?_getD,List.getElem?_eq_getElem hi];exact List.getElem_mem hi,by rw [h];exact Bool.false_ne_true⟩
theorem mrg1_len (acc:List Sn) (s:Sn):(mrg1 acc s).length≤acc.length+1:=by
 rw [mrg1];split <;> simp
theorem mrg_len: ∀(xs acc:List Sn),(xs.foldl mrg1 acc).length≤acc.length+xs.length
 | [],acc=>by simp
 | s::r,acc=>by
  have h1:=mrg_len r (mrg1 acc s)
  have h2:=mrg1_len acc s
  simp only [List.foldl_cons,List.length_cons]
  omega
theorem filter_le {l:List Sn} {i:Nat}:((l.take i).filter pos).length≤i:=by
 have h1:=List.length_filter_le pos (l.take i)
 rw [List.length_take] at h1;omega
theorem c_isSpan (s:Sn):
  Ct Tryz.prog 82 [tSn s] (tB s.ok):=by
 refine Ct.intro Tryz.func82 rfl Tryz.ntmps82 rfl ?_
 intro w F
 refine A12 ?_
 refine RGcaseD (t:=6) rfl (fun h15=> ?_) (fun h15=> ?_)
 ·
  refine A7 ?_
  refine RGcaseD (t:=13) rfl (fun h15_2=> ?_) (fun h15_2=> ?_)
  ·
   refine A8 ?_
   exact x3 Plain.mk' rfl rfl (Le.bool (by simp [Sn.ok, *]))
  ·
   refine A8 ?_
   exact x3 Plain.mk' rfl rfl (Le.bool (by simp [Sn.ok, *]))
 ·
  refine A15 ?_
  exact x3 Plain.mk' rfl rfl (Le.bool (by simp [Sn.ok, *]))
theorem c_SnMake (l:List Sn) (hl:l.length≤1000000):
  Ct Tryz.prog 54 [tL 2 true tSn l] (tT [tL 2 true tSn (if l.all Sn.ok=true then mkS l else []),tI (if l.all Sn.ok=true then 0 else 2)]):=by
 refine Ct.intro Tryz.func54 rfl Tryz.ntmps54 rfl ?_
 intro w F
 refine A8 ?_
 refine RE (xf9 (k:=4) 50 2 true rfl (fun h=>by cases h)) trivial trivial ⟨rfl,trivial⟩ ?_
 refine A11 ?_
 refine cL (fun (fm:(Nat)×(List Sn))=>(fun (i:Nat) (xs:List Sn)=>i≤l.length∧(l.take i).all Sn.ok=true∧xs=(l.take i).filter pos) fm.1 fm.2) (fun (fm:(Nat)×(List Sn))=>(fun (i:Nat) (xs:List Sn)=>upd (upd (upd (upd (upd (fun _=>none) 0 (some (.val (tL 2 true tSn l)))) 4 (some (.own (.sl 4 2 0 xs.length)))) 11 (some (.val (tL 2 true tSn l)))) 12 (some (.val (tI l.length)))) 13 (some (.val (tI i)))) fm.1 fm.2) (fun (fm:(Nat)×(List Sn))=>(fun (i:Nat) (xs:List Sn)=>upd (fun _=>none) 4 (some (⟨50,2,true,rV tSn xs⟩))) fm.1 fm.2) [4] (fun (fm:(Nat)×(List Sn))=>(fun (i:Nat) (xs:List Sn)=>l.length - i) fm.1 fm.2) ((0,[])) (by dsimp only;exact ⟨Nat.zero_le _,rfl,rfl⟩) (hh:=((SubK.consI rfl ImpK.refl) SubK.nil)) ?_
 intro fm hI
 obtain ⟨i,xs⟩:=fm
 replace hI:i≤l.length∧(l.take i).all Sn.ok=true∧xs=(l.take i).filter pos:=hI
 show wc _ _ _ _ (upd (upd (upd (upd (upd (fun _=>none) 0 (some (.val (tL 2 true tSn l)))) 4 (some (.own (.sl 4 2 0 xs.length)))) 11 (some (.val (tL 2 true tSn l)))) 12 (some (.val (tI l.length)))) 13 (some (.val (tI i)))) (upd (fun _=>none) 4 (some (⟨50,2,true,rV tSn xs⟩))) _
 obtain ⟨hi,ha,hx⟩:=hI
 have hxl:xs.length≤i:=hx▸filter_le
 refine A6 ?_
 refine x7 rfl (fun h31=> ?_) (fun h31=> ?_)
 ·
  refine A6 ?_
  refine R2 (x6 sl42 (i) (by omega) (gD (l:=l) (n:=i) (d:=sn0) (by omega))) rfl rfl ?_
  refine A1 ?_
  refine RE (xb0 (k:=6) (n:=2) (agg:=true) zr50.1 zr50.2 rfl) trivial trivial ⟨rfl,trivial⟩ ?_
  refine A7 ?_
  refine R1 (x4 (c_isSpan _) fi82 rfl) rfl ?_
  refine A3 ?_
  refine xd3 rfl (fun h32=> ?_) (fun h32=> ?_)
  ·
   have hbad:l.all Sn.ok=false:=allS_stop (i:=i) (by omega) (by rw [Bool.not_eq_true'] at h32;exact h32)
   refine A13 ?_
   exact xc9 Plain.mk' rfl rfl rfl (leNil (by rw [if_neg (by rw [hbad];exact Bool.false_ne_true)])) (Le.int (by rw [if_neg (by rw [hbad];exact Bool.false_ne_true)]))
  ·
   rw [Bool.not_eq_false'] at h32
   refine A11 ?_
   refine x7 rfl (fun h35=> ?_) (fun h35=> ?_)
   ·
    refine A3 ?_
    refine R1 (xd4 (n:=1) (f:=tSn) [(l.getD i sn0)] Tryz.underlying42 el50 zf50 rfl (fun _=>inferInstance) rfl rfl rfl) rfl (RE (xb2 (k:=4) (k':=28) (f:=tSn) (ys:=[(l.getD i sn0)]) (ts':=rV tSn (xs++[(l.getD i sn0)])) Tryz.underlying42 el50 zf50 rfl rfl (fun _=>inferInstance) xc7 (by simp;omega) (by simp;omega) (by simp [rV]) (n':=xs.length+1) rfl) ⟨rfl,rfl,trivial⟩ ⟨rfl,trivial⟩ ⟨rfl,trivial⟩ ?_)
    refine A8 ?_
    exact xf2 (l:=[4]) (fun j=>cond (Nat.beq j 4) 28 (j)) ((i+1,xs++[(l.getD i sn0)])) ⟨(by dsimp only;exact ⟨by omega,by rw [allS_next (by omega),ha,h32];rfl,by rw [filter_next (by omega),←hx,if_pos (show pos _=true from decide_eq_true h35)]⟩),(by dsimp only;omega)⟩ (SubR.int rfl (by first | omega | rfl | (dsimp only;omega)) (SubR.int rfl (by first | omega | rfl | (dsimp only;omega)) (SubR.cons rfl ((SubR.consI rfl (Imp.of (by dsimp only;rw [List.length_append];rfl))) (SubR.cons rfl SubR.nil))))) ((SubKR.consI rfl (ImpK.of xa5.symm)) SubKR.nil) (SupG.val (SupG.val (SupG.val (SupG.own rfl (SupG.val SupG.nil))))) (SupH.cons rfl (supJ xa0) SupH.nil) (lkOk rfl) rfl rfl (fun _ h=>by cases h)
   ·
    refine A7 ?_
    exact kF ((i+1,xs)) ⟨(by dsimp only;exact ⟨by omega,by rw [allS_next (by omega),ha,h32];rfl,by rw [filter_next (by omega),←hx,if_neg (by rw [pos,decide_eq_false h35];exact Bool.false_ne_true),List.append_nil]⟩),(by dsimp only;omega)⟩ (hh:=((SubK.consI rfl ImpK.refl) SubK.nil))
 ·
  refine A6 ?_
  have hil:i=l.length:=by omega
  subst hil
  rw [List.take_length] at ha hx
  have hall:=ha
  have hmk:mkS l=mrg (srt cfSn xs):=by rw [mkS,hx]
  refine A2 ?_
  refine RE (xa9 (fun _=>4) (c_sortSn xs (by omega)) fi83 rfl (krC (ρ:=fun _=>4) (k:=1) xa5 (krN (ρ:=fun _=>4))) (krC (ρ:=fun _=>4) (k:=1) xa5 (krN (ρ:=fun _=>4))) ⟨⟨rfl,xa0⟩,trivial⟩ rfl) ⟨rfl,rfl,trivial⟩ ⟨rfl,trivial⟩ trivial ?_
  refine A4 ?_
  refine RE (xf9 (k:=7) 50 2 true rfl (fun h=>by cases h)) trivial trivial ⟨rfl,trivial⟩ ?_
  refine A11 ?_
  refine cL (fun (fm:(Nat)×(List Sn))=>(fun (i:Nat) (zs:List Sn)=>i≤xs.length∧zs=mrg ((srt cfSn xs).take i)) fm.1 fm.2) (fun (fm:(Nat)×(List Sn))=>(fun (i:Nat) (zs:List Sn)=>upd (upd (upd (upd (upd (fun _=>none) 4 (some (.own (.sl 4 2 0 xs.length)))) 7 (some (.own (.sl 7 2 0 zs.length)))) 32 (some (.own (.sl 4 2 0 xs.length)))) 33 (some (.val (tI xs.length)))) 34 (some (.val (tI i)))) fm.1 fm.2) (fun (fm:(Nat)×(List Sn))=>(fun (i:Nat) (zs:List Sn)=>upd (upd (fun _=>none) 4 (some (⟨50,2,true,rV tSn (srt cfSn xs)⟩))) 7 (some (⟨50,2,true,rV tSn zs⟩))) fm.1 fm.2) [4,7] (fun (fm:(Nat)×(List Sn))=>(fun (i:Nat) (zs:List Sn)=>xs.length - i) fm.1 fm.2) ((0,[])) (by dsimp only;exact ⟨Nat.zero_le _,rfl⟩) (hh:=((SubK.consI rfl ImpK.refl) ((SubK.consI rfl ImpK.refl) SubK.nil))) ?_
  intro fm hI
  obtain ⟨i,zs⟩:=fm
  replace hI:i≤xs.length∧zs=mrg ((srt cfSn xs).take i):=hI
  show wc _ _ _ _ (upd (upd (upd (upd (upd (fun _=>none) 4 (some (.own (.sl 4 2 0 xs.length)))) 7 (some (.own (.sl 7 2 0 zs.length)))) 32 (some (.own (.sl 4 2 0 xs.length)))) 33 (some (.val (tI xs.length)))) 34 (some (.val (tI i)))) (upd (upd (fun _=>none) 4 (some (⟨50,2,true,rV tSn (srt cfSn xs)⟩))) 7 (some (⟨50,2,true,rV tSn zs⟩))) _
  obtain ⟨hi',hz⟩:=hI
  have hsl:=srtSn_len (xs:=xs)
  have hzl:zs.length≤i:=by
   have h:=mrg_len ((srt cfSn xs).take i) []
   rw [List.length_take] at h
   have h2:zs.length≤([]:List Sn).length+min i (srt cfSn xs).length:=by rw [hz];exact h
   simp at h2;omega
  refine A6 ?_
  refine x7 rfl (fun h41=> ?_) (fun h41=> ?_)
  ·
   refine A6 ?_
   refine R2 (xa3 sl42 (by omega) (by omega) rfl) rfl rfl (RE (xb3 (i) ti50 (xc4 (d:=sn0) (by omega)) (by omega)) ⟨rfl,trivial⟩ ⟨rfl,trivial⟩ trivial (RE (xb0 (k:=9) (n:=2) (agg:=true) zr50.1 zr50.2 rfl) trivial trivial ⟨rfl,trivial⟩ ?_))
   refine A15 ?_
   refine RGcaseD (t:=42) rfl (fun h42=> ?_) (fun h42=> ?_)
   ·
    refine A2 ?_
    refine RGon (decide_eq_true h42) rfl (xe1 (wr64 (by omega) (by omega))) rfl ⟨rfl,rfl,trivial⟩ trivial trivial (RGon (decide_eq_true h42) rfl (xa3 sl42 (by omega) (by omega) rfl) rfl ⟨rfl,rfl,trivial⟩ trivial trivial ?_)
    refine A1 ?_
    refine RGon (decide_eq_true h42) rfl (xo9 (es:=2) (o:=1) (zs.length - 1) ti3 (xc4 (d:=sn0) (by omega)) (At.g 1 rfl rfl) (by omega)) rfl ⟨rfl,trivial⟩ ⟨rfl,trivial⟩ trivial ?_
    refine A6 ?_
    refine x7 rfl (fun h42_2=> ?_) (fun h42_2=> ?_)
    ·
     refine A7 ?_
     refine R2 (xa3 sl42 (by omega) (by omega) rfl) rfl rfl ?_
     refine A1 ?_
     refine RE (xo9 (es:=2) (o:=1) (zs.length - 1) ti3 (xc4 (d:=sn0) (by omega)) (At.g 1 rfl rfl) (by omega)) ⟨rfl,trivial⟩ ⟨rfl,trivial⟩ trivial ?_
     refine A2 ?_
     refine R2 d_max2 rfl rfl (R2 (xa3 sl42 (by omega) (by omega) rfl) rfl rfl ?_)
     refine A1 ?_
     refine RE (d_storeF (es:=2) (o:=1) (t2:=tSn ⟨(zs.getD (zs.length - 1) sn0).lo,max (zs.getD (zs.length - 1) sn0).hi ((srt cfSn xs).getD i sn0).hi⟩) (zs.length - 1) ti3 (xc4 (d:=sn0) (by omega)) (Up.f (f:=⟨1,false,tI (zs.getD (zs.length - 1) sn0).hi⟩) 1 rfl rfl rfl) (by omega) (xi6 rfl)) ⟨rfl,rfl,trivial⟩ ⟨rfl,trivial⟩ trivial ?_
     refine A7 ?_
     exact kF ((i+1,(zs.set (zs.length - 1) ⟨(zs.getD (zs.length - 1) sn0).lo,max (zs.getD (zs.length - 1) sn0).hi ((srt cfSn xs).getD i sn0).hi⟩))) ⟨(by dsimp only;exact ⟨by omega,by rw [mrg_next (by omega),←hz,mrg1,if_pos ⟨by omega,by omega⟩]⟩),(by dsimp only;omega)⟩ (hg:=(sI (sI (sC ((Sub.consI rfl (Imp.of (by dsimp only;rw [List.length_set]))) (sC Sub.nil)))))) (hh:=((SubK.consI rfl ImpK.refl) ((SubK.consI rfl ImpK.refl) SubK.nil)))
    ·
     refine A3 ?_
     refine R1 (xd4 (n:=1) (f:=tSn) [((srt cfSn xs).getD i sn0)] Tryz.underlying42 el50 zf50 rfl (fun _=>inferInstance) rfl rfl rfl) rfl (RE (xb2 (k:=7) (k':=70) (f:=tSn) (ys:=[((srt cfSn xs).getD i sn0)]) (ts':=rV tSn (zs++[((srt cfSn xs).getD i sn0)])) Tryz.underlying42 el50 zf50 rfl rfl (fun _=>inferInstance) xc7 (by simp;omega) (by simp;omega) (by simp [rV]) (n':=zs.length+1) rfl) ⟨rfl,rfl,trivial⟩ ⟨rfl,trivial⟩ ⟨rfl,trivial⟩ ?_)
     refine A8 ?_
     exact xf2 (l:=[4,7]) (fun j=>cond (Nat.beq j 7) 70 (j)) ((i+1,zs++[((srt cfSn xs).getD i sn0)])) ⟨(by dsimp only;exact ⟨by omega,by rw [mrg_next (by omega),←hz,mrg1,if_neg (by omega)]⟩),(by dsimp only;omega)⟩ (SubR.int rfl (by first | omega | rfl | (dsimp only;omega)) (SubR.int rfl (by first | omega | rfl | (dsimp only;omega)) (SubR.cons rfl ((SubR.consI rfl (Imp.of (by dsimp only;rw [List.length_append];rfl))) (SubR.cons rfl SubR.nil))))) ((SubKR.consI rfl (ImpK.of xa5.symm)) ((SubKR.consI rfl (ImpK.of xa5.symm)) SubKR.nil)) (SupG.val (SupG.val (SupG.own rfl (SupG.own rfl (SupG.own rfl SupG.nil))))) (SupH.cons rfl (supJ xa0) (SupH.cons rfl (supJ xa0) SupH.nil)) (lkOk rfl) rfl rfl (fun _ h=>by cases h)
   ·
    refine A16 ?_
    refine R1 (xd4 (n:=1) (f:=tSn) [((srt cfSn xs).getD i sn0)] Tryz.underlying42 el50 zf50 rfl (fun _=>inferInstance) rfl rfl rfl) rfl (RE (xb2 (k:=7) (k':=70) (f:=tSn) (ys:=[((srt cfSn xs).getD i sn0)]) (ts':=rV tSn (zs++[((srt cfSn xs).getD i sn0)])) Tryz.underlying42 el50 zf50 rfl rfl (fun _=>inferInstance) xc7 (by simp;omega) (by simp;omega) (by simp [rV]) (n':=zs.length+1) rfl) ⟨rfl,rfl,trivial⟩ ⟨rfl,trivial⟩ ⟨rfl,trivial⟩ ?_)
    refine A8 ?_
    exact xf2 (l:=[4,7]) (fun j=>cond (Nat.beq j 7) 70 (j)) ((i+1,zs++[((srt cfSn xs).getD i sn0)])) ⟨(by dsimp only;exact ⟨by omega,by rw [mrg_next (by omega),←hz,mrg1,if_neg (by omega)]⟩),(by dsimp only;omega)⟩ (SubR.int rfl (by first | omega | rfl | (dsimp only;omega)) (SubR.int rfl (by first | omega | rfl | (dsimp only;omega)) (SubR.cons rfl ((SubR.consI rfl (Imp.of (by dsimp only;rw [List.length_append];rfl))) (SubR.cons rfl SubR.nil))))) ((SubKR.consI rfl (ImpK.of xa5.symm)) ((SubKR.consI rfl (ImpK.of xa5.symm)) SubKR.nil)) (SupG.val (SupG.val (SupG.own rfl (SupG.own rfl (SupG.own rfl SupG.nil))))) (SupH.cons rfl (supJ xa0) (SupH.cons rfl (supJ xa0) SupH.nil)) (lkOk rfl) rfl rfl (fun _ h=>by cases h)
  ·
   refine A8 ?_
   refine RE (xi1 (f:=tSn) (xs:=zs) (fun _ h=>h) (xj0 rfl) rfl) ⟨rfl,trivial⟩ ⟨rfl,trivial⟩ trivial ?_
   refine A4 ?_
   exact xc9 Plain.mk' rfl rfl rfl (Le.of (by rw [if_pos hall,hmk,hz,show i=(srt cfSn xs).length by omega,List.take_length])) (Le.int (by rw [if_pos hall]))
end An.S
namespace An
open Go
end An
namespace An.S
open Go Go.Proofs An
def sOkA (l:List Sn) (i:Nat):Bool:=(l.getD i sn0).ok && decide ((l.getD i sn0).lo≠(l.getD i sn0).hi) && (decide (i=0) || decide ((l.getD (i - 1) sn0).hi < (l.getD i sn0).lo))
def sVal (l:List Sn):Bool:=(List.range l.length).all (sOkA l)
theorem sOkA_iff {l:List Sn} {i:Nat}:sOkA l i=true↔(l.getD i sn0).ok=true∧(l.getD i sn0).lo≠(l.getD i sn0).hi∧(i=0∨(l.getD (i - 1) sn0).hi < (l.getD i sn0).lo):=by
 simp only [sOkA,Bool.and_eq_true,Bool.or_eq_true,decide_eq_true_eq,and_assoc]
theorem sVal_at {l:List Sn} {i:Nat} (h:sVal l=true) (hi:i < l.length):0≤(l.getD i sn0).lo∧(l.getD i sn0).lo < (l.getD i sn0).hi∧(l.getD i sn0).hi≤65536:=by
 have h1:=sOkA_iff.1 (List.all_eq_true.1 h i (List.mem_range.2 hi))
 simp only [Sn.ok,Bool.and_eq_true,decide_eq_true_eq] at h1
 omega
end An.S
namespace An
open Go
theorem pst_all {P:Tst→Prop} (hset: ∀a s,P a→P s→a.hi=s.lo→P ⟨a.lo,s.hi,a.v⟩): ∀(ps acc:List Tst),(∀s∈acc,P s)→(∀s∈ps,s.lo < s.hi→P s)→ ∀s∈pst acc ps,P s
 | [],acc,ha,_=>ha
 | s::r,acc,ha,hp=>by
  refine pst_all hset r (pst1 acc s) ?_ fun x hx=>hp x (List.mem_cons_of_mem _ hx)
  intro x hx
  rw [pst1] at hx
  split at hx
  ·exact ha x hx
  ·rename_i h1
   split at hx
   ·rename_i h2
    rcases List.mem_or_eq_of_mem_set hx with h | h
    ·exact ha x h
    ·subst h
     exact hset _ s (ha _ (mem_getD (by omega))) (hp s (List.mem_cons_self ..) (by omega)) h2.2.1
   ·rcases List.mem_append.1 hx with h | h
    ·exact ha x h
    ·rw [List.mem_singleton.1 h];exact hp s (List.mem_cons_self ..) (by omega)
theorem xp9 {l:List Tst} (h:tRight l=true) {i:Nat} (hi:i < l.length):0≤(l.getD i tst0).lo∧(l.getD i tst0).lo < (l.getD i tst0).hi∧(l.getD i tst0).hi≤65536∧(i=0∨(l.getD (i - 1) tst0).hi≤(l.getD i tst0).lo∧(l.getD (i - 1) tst0).v.kind=(l.getD i tst0).v.kind∧ ¬((l.getD (i - 1) tst0).hi=(l.getD i tst0).lo∧(l.getD (i - 1) tst0).v=(l.getD i tst0).v)):=by
 simp only [tRight,Bool.and_eq_true,List.all_eq_true] at h
 exact tOk_iff.1 (h.1 i (List.mem_range.2 hi))
theorem xr5 {l:List Tst} {s:Tst} (hs:s∈l): ∃i,i < l.length∧s=l.getD i tst0:=by
 obtain ⟨i,hi,e⟩:=List.getElem_of_mem hs
 exact ⟨i,hi,by rw [List.getD_eq_getElem?_getD,List.getElem?_eq_getElem hi];exact e.symm⟩
def numK (l:List Tst):Prop:=l.length=0∨(l.getD 0 tst0).v.kind=2∨(l.getD 0 tst0).v.kind=3
instance (l:List Tst):Decidable (numK l):=inferInstanceAs (Decidable (_∨_))
def sumC (l:List Tst) (a b:Int):Prop:=(tRight l=true∧Sn.ok ⟨a,b⟩=true)∧numK l
instance (l:List Tst) (a b:Int):Decidable (sumC l a b):=inferInstanceAs (Decidable (_∧_))
end An
namespace An.S
open Go Go.Proofs An
end An.S
namespace An.S
open Go
theorem tRight_iff {l:List Tst}:tRight l=true↔(∀i,i < l.length→tOk l i=true)∧ ∀s∈l,s.v.valid=true:=by
 simp only [tRight,Bool.and_eq_true,List.all_eq_true,List.mem_range]
theorem tRight_lt {l:List Tst} (h:tRight l=true): ∀{j i:Nat},i < j→j < l.length→(l.getD i tst0).hi≤(l.getD j tst0).lo
 | j+1,i,hij,hj=>by
  have h1:=(xp9 h hj).2.2.2.resolve_left (by omega)
  have h1:(l.getD j tst0).hi≤(l.getD (j+1) tst0).lo:=h1.1
  rcases Nat.lt_or_ge i j with h2 | h2
  ·have h3:=tRight_lt h h2 (by omega)
   have h4:=(xp9 h (i:=j) (by omega)).2.1
   omega
  ·have:i=j:=by omega
   subst this;exact h1
theorem tRight_pair {l:List Tst} (h:tRight l=true):l.Pairwise fun s t=>s.hi≤t.lo:=by
 refine List.pairwise_iff_getElem.2 fun i j hi hj hij=> ?_
 have:=tRight_lt h hij hj
 rwa [List.getD_eq_getElem?_getD,List.getD_eq_getElem?_getD,List.getElem?_eq_getElem hi,List.getElem?_eq_getElem hj] at this
def okS (s:Sn):Prop:=0≤s.lo∧s.lo < s.hi∧s.hi≤65536
def ascS (l:List Sn):Prop:=(∀s∈l,okS s)∧l.Pairwise fun s t=>s.hi≤t.lo
theorem ascS_pos {l:List Sn} (h:ascS l):l.filter pos=l:=List.filter_eq_self.2 fun s hs=>by
 have:=h.1 s hs
 simp only [pos,decide_eq_true_eq];exact this.2.1
theorem ascS_srt {l:List Sn} (h:ascS l):srt cfSn l=l:=by
 refine srt_asc swoSn ?_
 refine List.pairwise_iff_forall_sublist.2 fun {s t} hst=> ?_
 have h1:=List.pairwise_iff_forall_sublist.1 h.2 hst
 have h2:=(h.1 s (hst.subset (List.mem_cons_self ..))).2.1
 rw [ltSn];simp;omega
theorem ascS_ok {l:List Sn} (h:ascS l):l.all Sn.ok=true:=List.all_eq_true.2 fun s hs=>by
 have:=h.1 s hs
 simp only [Sn.ok,Bool.and_eq_true,decide_eq_true_eq];simp only [okS] at this;omega
theorem sVal_iff {l:List Sn}:sVal l=true↔ ∀i,i < l.length→sOkA l i=true:=by
 simp only [sVal,List.all_eq_true,List.mem_range]
def hasD (d:Int) (s:Tst):Bool:=decide (s.lo≤d) && decide (d < s.hi)
theorem hasD_iff {d:Int} {s:Tst}:hasD d s=true↔s.lo≤d∧d < s.hi:=by simp [hasD]
def valT (l:List Tst) (d:Int):Option Va:=(l.find? (hasD d)).map (·.v)
theorem xj7 {s:Tst} {r:List Tst} {d:Int}:valT (s::r) d=if s.lo≤d∧d < s.hi then some s.v else valT r d:=by
 by_cases h:s.lo≤d∧d < s.hi
 ·rw [if_pos h,valT,List.find?_cons_of_pos (hasD_iff.2 h)];rfl
 ·rw [if_neg h,valT,List.find?_cons_of_neg (fun h'=>h (hasD_iff.1 h'))];rfl
theorem valT_none {l:List Tst} {d:Int}:valT l d=none↔ ∀s∈l,¬(s.lo≤d∧d < s.hi):=by
 rw [valT,Option.map_eq_none_iff,List.find?_eq_none]
 simp only [hasD_iff]
theorem xr9 {a b:List Tst} {d:Int}:valT (a++b) d=(valT a d).or (valT b d):=by
 rw [valT,List.find?_append,valT,valT]
 cases a.find? (hasD d) <;> rfl
def ascT (l:List Tst):Prop:=(∀s∈l,s.lo < s.hi)∧l.Pairwise fun s t=>s.hi≤t.lo
def nbT:List Tst→Prop
 | []=>True
 | [_]=>True
 | s::t::r=> ¬(s.hi=t.lo∧s.v=t.v)∧nbT (t::r)
theorem nb_snoc {s:Tst}: ∀{l:List Tst} {x:Tst},nbT (l++[x])→ ¬(x.hi=s.lo∧x.v=s.v)→nbT (l++[x]++[s])
 | [],_,_,h=>⟨h,trivial⟩
 | [_],_,h1,h=>⟨h1.1,h,trivial⟩
 | _::z::r,_,h1,h=>⟨h1.1,nb_snoc (l:=z::r) h1.2 h⟩
theorem nb_set {x':Tst}: ∀{l:List Tst} {x:Tst},nbT (l++[x])→x'.lo=x.lo→x'.v=x.v→nbT (l++[x'])
 | [],_,_,_,_=>trivial
 | [_],_,h1,e1,e2=>⟨by rw [e1,e2];exact h1.1,trivial⟩
 | _::z::r,_,h1,e1,e2=>⟨h1.1,nb_set (l:=z::r) h1.2 e1 e2⟩
theorem asc_snoc {l:List Tst} {s:Tst} (h:ascT l) (hs:s.lo < s.hi) (hl: ∀x∈l,x.hi≤s.lo):ascT (l++[s]):=by
 refine ⟨fun x hx=> ?_,List.pairwise_append.2 ⟨h.2,List.pairwise_singleton ..,fun x hx y hy=>by rw [List.mem_singleton.1 hy];exact hl x hx⟩⟩
 rcases List.mem_append.1 hx with hx | hx
 ·exact h.1 x hx
 ·rw [List.mem_singleton.1 hx];exact hs
theorem split_lastT {l:List Tst} (h:0 < l.length):l=l.take (l.length - 1)++[l.getD (l.length - 1) tst0]:=by
 have e:l.take (l.length - 1+1)=l.take (l.length - 1)++[l[l.length - 1]]:=List.take_succ_eq_append_getElem (by omega)
 rw [show l.length - 1+1=l.length by omega,List.take_length] at e
 rw [List.getD_eq_getElem?_getD,List.getElem?_eq_getElem (by omega)];exact e
theorem set_lastT {l:List Tst} {x:Tst} (h:0 < l.length):l.set (l.length - 1) x=l.take (l.length - 1)++[x]:=by
 have e:=List.set_eq_take_append_cons_drop (l:=l) (i:=l.length - 1) (a:=x)
 rw [if_pos (by omega),show l.length - 1+1=l.length by omega,List.drop_length] at e
 exact e
theorem pst1_val {acc:List Tst} {s:Tst} (h:ascT acc) (hn:nbT acc) (hs:s.lo < s.hi) (hl: ∀x∈acc,x.hi≤s.lo):ascT (pst1 acc s)∧nbT (pst1 acc s)∧(∀x∈pst1 acc s,x.hi≤s.hi)∧ ∀d,valT (pst1 acc s) d=(valT acc d).or (if s.lo≤d∧d < s.hi then some s.v else none):=by
 have e1: ∀d,valT [s] d=if s.lo≤d∧d < s.hi then some s.v else none:=fun d=>by rw [xj7];rfl
 rw [pst1,if_neg (by omega)]
 split
 ·rename_i hm
  have ea:=split_lastT hm.1
  rw [set_lastT hm.1]
  generalize acc.getD (acc.length - 1) tst0=x at*
  generalize acc.take (acc.length - 1)=q at*
  subst ea
  have hp:=List.pairwise_append.1 h.2
  have hx:=h.1 x (List.mem_append_right _ (List.mem_singleton.2 rfl))
  have hq:ascT q:=⟨fun y hy=>h.1 y (List.mem_append_left _ hy),hp.1⟩
  have hqx: ∀y∈q,y.hi≤x.lo:=fun y hy=>hp.2.2 y hy x (List.mem_singleton.2 rfl)
  refine ⟨asc_snoc hq (by dsimp only;omega) hqx,nb_set hn rfl rfl,fun y hy=> ?_,fun d=> ?_⟩
  ·rcases List.mem_append.1 hy with hy | hy
   ·have:=hqx y hy;omega
   ·rw [List.mem_singleton.1 hy];exact Int.le_refl _
  ·rw [xr9,xr9,xj7,xj7]
   cases hv:valT q d with
   | some v=>rfl
   | none=>
    simp only [Option.none_or]
    have h1:=hm.2.1
    by_cases c1:x.lo≤d∧d < x.hi
    ·rw [if_pos (by omega),if_pos c1];rfl
    ·by_cases c2:s.lo≤d∧d < s.hi
     ·rw [if_pos (by omega),if_neg c1,if_pos c2,hm.2.2];rfl
     ·rw [if_neg (by omega),if_neg c1,if_neg c2];rfl
 ·rename_i hm
  refine ⟨asc_snoc h hs hl,?_,fun y hy=> ?_,fun d=>by rw [xr9,e1]⟩
  ·rcases Nat.eq_zero_or_pos acc.length with h0 | h0
   ·rw [List.eq_nil_of_length_eq_zero h0];trivial
   ·have ea:=split_lastT h0
    have h2: ¬((acc.getD (acc.length - 1) tst0).hi=s.lo∧(acc.getD (acc.length - 1) tst0).v=s.v):=fun h'=>hm ⟨h0,h'.1,h'.2⟩
    rw [ea] at hn ⊢
    exact nb_snoc hn h2
  ·rcases List.mem_append.1 hy with hy | hy
   ·have:=hl y hy;omega
   ·rw [List.mem_singleton.1 hy];exact Int.le_refl _
theorem pst_val: ∀(ps acc:List Tst),ascT acc→nbT acc→(ps.Pairwise fun s t=>s.lo < s.hi→s.hi≤t.lo)→(∀x∈acc,∀s∈ps,s.lo < s.hi→x.hi≤s.lo)→ascT (pst acc ps)∧nbT (pst acc ps)∧ ∀d,valT (pst acc ps) d=(valT acc d).or (valT ps d)
 | [],acc,h,hn,_,_=>⟨h,hn,fun d=>by show valT acc d=_;cases valT acc d <;> rfl⟩
 | s::r,acc,h,hn,hp,hl=>by
  have hp1:=List.pairwise_cons.1 hp
  have e:pst acc (s::r)=pst (pst1 acc s) r:=rfl
  rw [e]
  by_cases hs:s.lo < s.hi
  ·obtain ⟨k1,k2,k3,k4⟩:=pst1_val h hn hs fun x hx=>hl x hx s (List.mem_cons_self ..) hs
   have ih:=pst_val r (pst1 acc s) k1 k2 hp1.2 fun x hx t ht htl=>by
    have:=k3 x hx
    have:=hp1.1 t ht hs;omega
   refine ⟨ih.1,ih.2.1,fun d=> ?_⟩
   rw [ih.2.2,k4,xj7,Option.or_assoc]
   congr 1
   split <;> rfl
  ·have e1:pst1 acc s=acc:=by rw [pst1,if_pos (by omega)]
   rw [e1]
   have ih:=pst_val r acc h hn hp1.2 fun x hx t ht=>hl x hx t (List.mem_cons_of_mem _ ht)
   refine ⟨ih.1,ih.2.1,fun d=> ?_⟩
   rw [ih.2.2,xj7,if_neg (by omega)]
def segL (g:Int→Option Va):List Int→List Tst
 | x::y::r=>(match g x with | some v=>[⟨x,y,v⟩] | none=>[])++segL g (y::r)
 | _=>[]
theorem segL_lo {g:Int→Option Va}: ∀{ds:List Int} {x:Int} {s:Tst},(x::ds).Pairwise (· < ·)→s∈segL g (x::ds)→x≤s.lo
 | [],x,s,_,h=>by cases h
 | y::r,x,s,hp,h=>by
  have hp1:=List.pairwise_cons.1 hp
  rw [segL] at h
  rcases List.mem_append.1 h with h | h
  ·cases hg:g x with
   | none=>rw [hg] at h;cases h
   | some v=>rw [hg] at h;rw [List.mem_singleton.1 h];exact Int.le_refl _
  ·have:=segL_lo hp1.2 h
   have:=hp1.1 y (List.mem_cons_self ..);omega
theorem segL_pw {g:Int→Option Va}: ∀{ds:List Int},ds.Pairwise (· < ·)→(∀s∈segL g ds,s.lo < s.hi)∧(segL g ds).Pairwise fun s t=>s.hi≤t.lo
 | [],_=>⟨fun s h=>(by cases h),.nil⟩
 | [x],_=>⟨fun s h=>(by cases h),.nil⟩
 | x::y::r,hp=>by
  have hp1:=List.pairwise_cons.1 hp
  have hxy:=hp1.1 y (List.mem_cons_self ..)
  have ih:=segL_pw (g:=g) hp1.2
  rw [segL]
  cases hg:g x with
  | none=>exact ih
  | some v=>
   refine ⟨fun s h=> ?_,List.pairwise_cons.2 ⟨fun t ht=>segL_lo hp1.2 ht,ih.2⟩⟩
   rcases List.mem_cons.1 h with rfl | h
   ·exact hxy
   ·exact ih.1 s h
theorem nb_at: ∀{l:List Tst} {i:Nat},nbT l→i+1 < l.length→ ¬((l.getD i tst0).hi=(l.getD (i+1) tst0).lo∧(l.getD i tst0).v=(l.getD (i+1) tst0).v)
 | [],_,_,hi=>by simp at hi
 | [_],_,_,hi=>by simp at hi
 | s::t::r,0,h,_=>h.1
 | s::t::r,i+1,h,hi=>nb_at (l:=t::r) h.2 (by simpa using hi)
theorem tRight_asc {l:List Tst} (h:tRight l=true):ascT l:=⟨fun s hs=>by
 obtain ⟨i,hi,rfl⟩:=xr5 hs
 exact (xp9 h hi).2.1,tRight_pair h⟩
theorem asc_lt {l:List Tst} (h:ascT l) {i j:Nat} (hij:i < j) (hj:j < l.length):(l.getD i tst0).hi≤(l.getD j tst0).lo:=by
 have:=List.pairwise_iff_getElem.1 h.2 i j (by omega) hj hij
 rwa [List.getD_eq_getElem?_getD,List.getD_eq_getElem?_getD,List.getElem?_eq_getElem (show i < l.length by omega),List.getElem?_eq_getElem hj]
theorem right_of {l:List Tst} {K:Nat} (h:ascT l) (hn:nbT l) (hv: ∀s∈l,0≤s.lo∧s.hi≤65536∧s.v.valid=true∧s.v.kind=K):tRight l=true:=by
 refine tRight_iff.2 ⟨fun i hi=>tOk_iff.2 ?_,fun s hs=>(hv s hs).2.2.1⟩
 have h1:=hv _ (mem_getD (l:=l) hi)
 refine ⟨h1.1,h.1 _ (mem_getD hi),h1.2.1,?_⟩
 by_cases h0:i=0
 ·exact .inl h0
 ·have h2:=hv _ (mem_getD (l:=l) (i:=i - 1) (by omega))
  have h3:=nb_at hn (i:=i - 1) (by omega)
  rw [show i - 1+1=i by omega] at h3
  exact .inr ⟨asc_lt h (by omega) hi,by rw [h2.2.2.2,h1.2.2.2],h3⟩
end An.S
namespace An
open Go
def tO {α:Type} (n:Nat) (agg:Bool) (f:α→Ty):Option α→Ty
 | none=>tE (.pointer none)
 | some x=>tP n agg (f x)
instance {α:Type} {n:Nat} {agg:Bool} {f:α→Ty} {o:Option α}:Shape (tO n agg f o) 1 false:=⟨fun h=>by
 cases o with
 | none=>have h:_=_:=h;rw [h];exact xc2 rfl
 | some x=>obtain ⟨_,_,_,h,_⟩:=h;rw [h];exact xc2 rfl⟩
section
variable {P:Program} {c:Base} {d ty:Nat} {pos:String} {af:Array Edge} {gd:Option (Nat×Bool)} {α:Type} {n:Nat} {agg:Bool} {f:α→Ty}
theorem run_equalP {T E:TypeId} (hT:P.underlying T=some (.pointer E)) (A:Option Addr) (w:World):(Op.equal T (.pointer A) (.pointer none)).run P w= .ok A.isNone w:=by
 have key: ∀d,(Op.equalIn (d+1) T (.pointer A) (.pointer none)).run P w= .ok A.isNone w:=fun d=>by
  cases A <;> simp only [Op.equalIn,Sem.run_bind,run_underlying hT,Result.andThen_ok,Sem.run_pure] <;> rfl
 exact key 9999
theorem tO_nil {F:Dom} {w:World} {o:Option α} {v:Value} (h:(tO n agg f o).p F w v): ∃A:Option Addr,v= .pointer A∧A.isNone=o.isNone:=by
 cases o with
 | none=>exact ⟨none,h,rfl⟩
 | some x=>obtain ⟨b,q,u,h1,_⟩:=h;exact ⟨_,h1,rfl⟩
theorem d_eqlNil {T E yT:TypeId} {x:Operand} {o:Option α} (hT:P.underlying T=some (.pointer E)):
  Does P c ⟨some d,.binOp .eql T x (.const (.pointer none)) yT,ty,pos,af,gd⟩ ⟨[(x,.val (tO n agg f o))],[],some (d,some (.val (tB o.isNone))),[],[]⟩:=
 Does.value rfl fun g h al a w η hrd _ s=>by
  obtain ⟨A,h1,h4⟩:=tO_nil (x8 s hrd.1).1
  have h1:a.eval x= .pointer A:=h1
  have h2:a.eval (.const (.pointer none))= .pointer none:=rfl
  refine ⟨.bool A.isNone,w,?_,Ext.refl w,congrArg Value.bool h4,fun j hj=>by cases hj⟩
  have hg:(eqGuard .eql T x (.const (.pointer none)) (.pointer A) (.pointer none)).run P w= .ok () w:=by
   simp [eqGuard,go_sem]
  simp only [execOp,h1,h2,Sem.run_bind,hg,Result.andThen_ok,binOp,run_equalP hT,Sem.run_pure]
theorem d_neqNil {T E yT:TypeId} {x:Operand} {o:Option α} (hT:P.underlying T=some (.pointer E)):
  Does P c ⟨some d,.binOp .neq T x (.const (.pointer none)) yT,ty,pos,af,gd⟩ ⟨[(x,.val (tO n agg f o))],[],some (d,some (.val (tB (!o.isNone)))),[],[]⟩:=
 Does.value rfl fun g h al a w η hrd _ s=>by
  obtain ⟨A,h1,h4⟩:=tO_nil (x8 s hrd.1).1
  have h1:a.eval x= .pointer A:=h1
  have h2:a.eval (.const (.pointer none))= .pointer none:=rfl
  refine ⟨.bool (!A.isNone),w,?_,Ext.refl w,congrArg (fun b=>Value.bool (!b)) h4,fun j hj=>by cases hj⟩
  have hg:(eqGuard .neq T x (.const (.pointer none)) (.pointer A) (.pointer none)).run P w= .ok () w:=by
   simp [eqGuard,go_sem]
  simp only [execOp,h1,h2,Sem.run_bind,hg,Result.andThen_ok,binOp,run_equalP hT,Sem.run_pure]
theorem xn1 {x:Operand} {o:Option α} {y:α} (ho:o=some y):
  Does P c ⟨some d,.nilCheck x,ty,pos,af,gd⟩ ⟨[(x,.val (tO n agg f o))],[],some (d,some (.val (tP n agg (f y)))),[],[]⟩:=by
 subst ho;exact d_nilCheckP
theorem leO {o:Option α} {y:α} (ho:o=some y):Le (tP n agg (f y)) (tO n agg f o):=by subst ho;exact Le.refl
theorem leO0 {o:Option α} (ho:o=none):Le (tE (.pointer none)) (tO n agg f o):=by subst ho;exact Le.refl
end
end An
namespace An
open Go Go.Proofs Go.Shelf Go.Sort
theorem row_hold {w:World} {b T:Nat} {cs:Array Value} {xs:List Int} (c1:w.heap[b]? =some (.cells cs T (0,0))) (c3: ∀(i:Nat) (h:i < xs.length),cs[i]? =some (.int .i64 xs[i])):Holds (Value.int .i64) w b 0 xs.toArray:=by
 intro j hj
 have hj:j < xs.length:=by simpa using hj
 have e:xs.toArray[j]! =xs[j]:=by rw [getElem!_pos _ _ (by simpa using hj)];simp
 refine ⟨?_,by simp [World.frozen?,c1]⟩
 rw [e]
 simp only [World.cell?,c1,Nat.zero_add]
 exact c3 j hj
theorem row_out {F:Dom} {w w':World} {η:Env} {T:Nat} {xs ys:List Int} {zs:Array Int} {re:Ent} {v:Value} {cs:Array Value} (hc0:0 < η.c 1) (k4:η.c 1≤9223372036854775807) (c1:w.heap[η.b 1]? =some (.cells cs T (0,0))) (c2:cs.size=η.c 1) (_hz:zs.size≤η.c 1) (_hI:InjK η [(1,⟨T,1,false,rV tI xs⟩)])
  (ho:w'.os=w.os) (ht:w'.tape=w.tape) (hp:w'.output=w.output) (hsz:w.heap.size≤w'.heap.size) (hheap: ∀b',b' < w.heap.size→w'.heap[b']? =if b'=η.b 1 then some (.cells (putCells (Value.int .i64) 0 zs cs) T (0,0)) else w.heap[b']?)
  (hy:ys.length≤zs.size) (hyz: ∀(i:Nat) (h:i < ys.length),zs[i]! =ys[i]) (hre: ∀F,re.sat F w' η v):Out F w η [(1,⟨T,1,false,rV tI xs⟩)] re [(1,⟨T,1,false,rV tI ys⟩)] [] v w' η:=by
 have hblk:η.b 1 < w.heap.size:=xa6 c1
 refine ⟨⟨ho,ht,hp,hsz,fun b' hb' hn'=> ?_⟩,fun _ _=>⟨rfl,rfl⟩,hre _,fun x hx=> ?_,fun x hx y hy hne=> ?_,fun b' hb'=> .inl ?_⟩
 ·rw [hheap b' hb',if_neg]
  intro hb;exact hn' ⟨(1,⟨T,1,false,rV tI xs⟩),by simp,hc0,hb⟩
 ·simp only [List.mem_singleton] at hx
  subst hx
  refine ⟨by show (rV tI ys).length≤η.c 1;rw [xc7];omega,Nat.one_pos,fun _=>rfl,k4,fun _=>⟨putCells (Value.int .i64) 0 zs cs,?_,?_,fun i e hi=> ?_⟩⟩
  ·rw [hheap _ hblk,if_pos rfl]
  ·simp only [putCells,Array.size_mapIdx];rw [c2];simp
  ·have hil:i < ys.length:=by
    have:=(List.getElem?_eq_some_iff.1 hi).1;rwa [xc7] at this
   have hi:(rV tI ys)[i]? =some e:=hi
   rw [rV,List.getElem?_map,List.getElem?_eq_getElem hil] at hi
   simp only [Option.map_some,Option.some.injEq] at hi
   subst hi
   show pick false 1 (putCells (Value.int .i64) 0 zs cs) (i*1)= .int .i64 ys[i]
   rw [Nat.mul_one,pick,cond_false,Array.getD_eq_getD_getElem?]
   simp only [putCells,Array.getElem?_mapIdx]
   rw [Array.getElem?_eq_getElem (show i < cs.size by omega)]
   simp only [Option.map_some,Option.getD_some]
   rw [if_pos ⟨Nat.zero_le _,by omega⟩,Nat.sub_zero,hyz i hil]
 ·simp only [List.mem_singleton] at hx hy
  subst hx;subst hy
  exact absurd rfl hne
 ·obtain ⟨x,hx,hc,rfl⟩:=hb'
  simp only [List.mem_singleton] at hx
  subst hx
  exact ⟨(1,⟨T,1,false,rV tI xs⟩),by simp,hc,rfl⟩
theorem put_heap {w:World} {b:Nat} {T m:Nat} {cs:Array Value} {zs:Array Int} (c1:w.heap[b]? =some (.cells cs T (0,0))) (b':Nat):(putRow (Value.int .i64) (Sort.ahead w m) b 0 zs).heap[b']? =if b'=b then some (.cells (putCells (Value.int .i64) 0 zs cs) T (0,0)) else w.heap[b']? :=by
 simp only [putRow,mapBlock,Array.getElem?_modify]
 by_cases hb:b'=b
 ·subst hb
  rw [if_pos rfl,if_pos rfl]
  show Option.map _ (w.heap[b']?)=_
  rw [c1];rfl
 ·rw [if_neg (fun h=>hb h.symm),if_neg hb];rfl
def srtI (xs:List Int):List Int:=xs.mergeSort fun x y=>decide (x≤y)
theorem sortI {P:Program} {ρ:Ren} (L:Lays.n189 P ρ) (T:Nat) (xs:List Int) (hn:xs.length < 4611686018427387904):
  CtG P (ρ.f 189) [(1,⟨T,1,false,rV tI xs⟩)] [.own (.sl 1 1 0 xs.length)] (.val (tE (.tuple #[]))) [(1,⟨T,1,false,rV tI (srtI xs)⟩)] []:=by
 intro F w η vs hS hA hI hF
 match vs,hS with
 | [v0],hS=>
 obtain ⟨⟨A,rfl,hle,hadr⟩,_⟩:=hS
 obtain ⟨k1,k2,k3,k4,k5⟩:=hA (1,⟨T,1,false,rV tI xs⟩) (by simp)
 have k1:(rV tI xs).length≤η.c 1:=k1
 have k4:η.c 1≤9223372036854775807:=k4
 rw [xc7] at k1
 have hlen:(srtI xs).length=xs.length:=List.length_mergeSort ..
 by_cases h0:xs.length=0
 ·have hx:xs=[]:=List.length_eq_zero_iff.1 h0
  subst hx
  have e0:srtI ([]:List Int)=[]:=List.length_eq_zero_iff.1 hlen
  rw [e0]
  refine (Any.slices_Sort_int_none L A (η.c 1 - 0) w).mono ?_
  rintro e w' ⟨rfl,rfl⟩
  refine ⟨_,η,rfl,⟨Stp.refl _ _,fun _ _=>⟨rfl,rfl⟩,rfl,fun x hx=> ?_,hI,fun b hb=> .inl hb⟩⟩
  simp only [List.mem_singleton] at hx
  subst hx
  refine ⟨by simp [rV],k2,k3,k4,fun hc=> ?_⟩
  obtain ⟨cs,c1,c2,_⟩:=k5 hc
  exact ⟨cs,c1,c2,fun i e hi=>by simp [rV] at hi⟩
 ·have hc0:0 < η.c 1:=by omega
  obtain ⟨cs,c1,c2,c3⟩:=k5 hc0
  have c1:w.heap[η.b 1]? =some (.cells cs T (0,0)):=c1
  have c2:cs.size=η.c 1*1:=c2
  rw [Nat.mul_one] at c2
  have hA':=hadr hc0
  rw [Nat.zero_mul] at hA'
  subst hA'
  have hblk:η.b 1 < w.heap.size:=xa6 c1
  have c3': ∀(i:Nat) (h:i < xs.length),cs[i]? =some (.int .i64 xs[i]):=fun i hi=>by
   have h3:=c3 i (.val (tI xs[i])) (by show (rV tI xs)[i]? =_;rw [rV,List.getElem?_map,List.getElem?_eq_getElem hi];rfl)
   have h3:cs.getD (i*1) undef= .int .i64 xs[i]:=h3
   rw [Nat.mul_one,Array.getD_eq_getD_getElem?,Array.getElem?_eq_getElem (show i < cs.size by omega)] at h3
   rw [Array.getElem?_eq_getElem (show i < cs.size by omega)]
   exact congrArg some h3
  refine (Any.slices_Sort_int L (η.b 1) 0 (η.c 1 - 0) xs w (row_hold c1 c3') hblk hn).mono ?_
  rintro e w' ⟨rfl,m,os,rfl⟩
  refine ⟨_,η,rfl,?_⟩
  refine row_out (zs:=(srtI xs).toArray) hc0 k4 c1 c2 (by simp [hlen];omega) hI rfl rfl rfl ?_ (fun b' hb'=> ?_) (by simp) (fun i hi=> ?_) (fun F=>rfl)
  ·show w.heap.size≤(grow (putRow (Value.int .i64) (Sort.ahead w m) (η.b 1) 0 (srtI xs).toArray) os).heap.size
   simp [grow,putRow,mapBlock,Sort.ahead]
  ·show (grow (putRow (Value.int .i64) (Sort.ahead w m) (η.b 1) 0 (srtI xs).toArray) os).heap[b']? =_
   rw [heap_grow_old _ _ (by simp [putRow,mapBlock,Sort.ahead];exact hb')]
   exact put_heap c1 b'
  ·rw [getElem!_pos _ _ (by simpa using hi)];simp
theorem compUp_len (d:Array Int): ∀m,(Lib.compactUpTo d m).length≤m
 | 0=>Nat.le_refl _
 | m+1=>by
  rw [Lib.compactUpTo_succ,List.length_append]
  have:=compUp_len d m
  split <;> simp <;> omega
theorem comp_len (xs:List Int):(Lib.compact xs).length≤xs.length:=compUp_len _ _
theorem compactI {P:Program} {ρ:Ren} (L:Lays2.n20 P ρ) (T:Nat) (xs:List Int):
  CtG P (ρ.f 20) [(1,⟨T,1,false,rV tI xs⟩)] [.own (.sl 1 1 0 xs.length)] (.own (.sl 1 1 0 (Lib.compact xs).length)) [(1,⟨T,1,false,rV tI (Lib.compact xs)⟩)] []:=by
 intro F w η vs hS hA hI hF
 match vs,hS with
 | [v0],hS=>
 obtain ⟨⟨A,rfl,hle,hadr⟩,_⟩:=hS
 obtain ⟨k1,k2,k3,k4,k5⟩:=hA (1,⟨T,1,false,rV tI xs⟩) (by simp)
 have k1:(rV tI xs).length≤η.c 1:=k1
 have k4:η.c 1≤9223372036854775807:=k4
 rw [xc7] at k1
 have hlen:(Lib.compact xs).length≤xs.length:=comp_len xs
 by_cases h0:xs.length=0
 ·have hx:xs=[]:=List.length_eq_zero_iff.1 h0
  subst hx
  have e0:Lib.compact ([]:List Int)=[]:=rfl
  rw [e0]
  refine (Any.slices_Compact_int_empty L A (η.c 1 - 0) w).mono ?_
  rintro e w' ⟨rfl,rfl⟩
  refine ⟨_,η,rfl,⟨Stp.refl _ _,fun _ _=>⟨rfl,rfl⟩,⟨A,rfl,hle,hadr⟩,fun x hx=> ?_,hI,fun b hb=> .inl hb⟩⟩
  simp only [List.mem_singleton] at hx
  subst hx
  refine ⟨by simp [rV],k2,k3,k4,fun hc=> ?_⟩
  obtain ⟨cs,c1,c2,_⟩:=k5 hc
  exact ⟨cs,c1,c2,fun i e hi=>by simp [rV] at hi⟩
 ·have hc0:0 < η.c 1:=by omega
  obtain ⟨cs,c1,c2,c3⟩:=k5 hc0
  have c1:w.heap[η.b 1]? =some (.cells cs T (0,0)):=c1
  have c2:cs.size=η.c 1*1:=c2
  rw [Nat.mul_one] at c2
  have hA':=hadr hc0
  rw [Nat.zero_mul] at hA'
  subst hA'
  have c3': ∀(i:Nat) (h:i < xs.length),cs[i]? =some (.int .i64 xs[i]):=fun i hi=>by
   have h3:=c3 i (.val (tI xs[i])) (by show (rV tI xs)[i]? =_;rw [rV,List.getElem?_map,List.getElem?_eq_getElem hi];rfl)
   have h3:cs.getD (i*1) undef= .int .i64 xs[i]:=h3
   rw [Nat.mul_one,Array.getD_eq_getD_getElem?,Array.getElem?_eq_getElem (show i < cs.size by omega)] at h3
   rw [Array.getElem?_eq_getElem (show i < cs.size by omega)]
   exact congrArg some h3
  refine (Any.slices_Compact_int L (η.b 1) 0 (η.c 1 - 0) xs w (row_hold c1 c3') (by omega) (by omega)).mono ?_
  rintro e w' ⟨rfl,q,rfl⟩
  refine ⟨_,η,rfl,?_⟩
  refine row_out (zs:=(Lib.compact xs++List.replicate (xs.length - (Lib.compact xs).length) 0).toArray) hc0 k4 c1 c2 (by simp;omega) hI rfl rfl rfl ?_ (fun b' hb'=>put_heap c1 b') (by simp) (fun i hi=> ?_) (fun F=>⟨_,rfl,by omega,fun _=>by rw [Nat.zero_mul]⟩)
  ·simp [putRow,mapBlock,Sort.ahead]
  ·rw [getElem!_pos _ _ (by simp;omega)];simp [List.getElem_append_left hi]
def brd (xs:List Int):List Int:=Lib.compact (srtI xs)
theorem brd_aux {d:Array Int} (hd: ∀i j,i < j→j < d.size→d[i]! ≤d[j]!): ∀m,m≤d.size→(Lib.compactUpTo d m).Pairwise (· < ·)∧ ∀x,x∈Lib.compactUpTo d m↔ ∃i,i < m∧d[i]! =x
 | 0,_=>⟨List.Pairwise.nil,fun x=>⟨fun h=>(List.not_mem_nil h).elim,fun ⟨i,hi,_⟩=>absurd hi (Nat.not_lt_zero _)⟩⟩
 | m+1,hm=>by
  obtain ⟨h1,h2⟩:=brd_aux hd m (by omega)
  rw [Lib.compactUpTo_succ]
  by_cases hk:Lib.keeps d m=true
  ·rw [if_pos hk]
   have hk':m=0∨d[m]! ≠d[m - 1]! :=of_decide_eq_true hk
   refine ⟨List.pairwise_append.2 ⟨h1,List.pairwise_singleton _ _,fun x hx y hy=> ?_⟩,fun x=> ?_⟩
   ·rw [List.mem_singleton.1 hy]
    obtain ⟨i,hi,rfl⟩:=(h2 x).1 hx
    have hm0:m≠0:=by omega
    have h3:=hk'.resolve_left hm0
    have h4:=hd (m - 1) m (by omega) (by omega)
    have h5:d[i]! ≤d[m - 1]! :=by
     rcases Nat.lt_or_ge i (m - 1) with h | h
     ·exact hd i (m - 1) h (by omega)
     ·rw [show i=m - 1 by omega];exact Int.le_refl _
    omega
   ·rw [List.mem_append,List.mem_singleton,h2]
    constructor
    ·rintro (⟨i,hi,e⟩ | rfl)
     ·exact ⟨i,by omega,e⟩
     ·exact ⟨m,by omega,rfl⟩
    ·rintro ⟨i,hi,e⟩
     rcases Nat.lt_or_ge i m with h | h
     ·exact .inl ⟨i,h,e⟩
     ·exact .inr (by rw [←e,show i=m by omega])
  ·rw [if_neg hk,List.append_nil]
   have hk': ¬(m=0∨d[m]! ≠d[m - 1]!):=fun h=>hk (decide_eq_true h)
   refine ⟨h1,fun x=> ?_⟩
   rw [h2]
   constructor
   ·rintro ⟨i,hi,e⟩;exact ⟨i,by omega,e⟩
   ·rintro ⟨i,hi,e⟩
    rcases Nat.lt_or_ge i m with h | h
    ·exact ⟨i,h,e⟩
    ·have hm0:m≠0:=fun h=>hk' (.inl h)
     have he:d[m]! =d[m - 1]! :=Decidable.byContradiction fun h=>hk' (.inr h)
     exact ⟨m - 1,by omega,by rw [←he,←e,show i=m by omega]⟩
theorem xp2 (xs:List Int):(brd xs).Pairwise (· < ·)∧ ∀x,x∈brd xs↔x∈xs:=by
 have hs:(srtI xs).Pairwise fun x y=>decide (x≤y)=true:=List.pairwise_mergeSort (fun a b c h1 h2=>by simp at*;omega) (fun a b=>by simp;omega) xs
 have hp:(srtI xs).Perm xs:=List.mergeSort_perm ..
 have h:=brd_aux (d:=(srtI xs).toArray) (fun i j hij hj=>by
  have hj:j < (srtI xs).length:=by simpa using hj
  have:=List.pairwise_iff_getElem.1 hs i j (by omega) hj hij
  rw [getElem!_pos _ _ (by simp;omega),getElem!_pos _ _ (by simpa using hj)]
  simpa using this) (srtI xs).length (by simp)
 refine ⟨h.1,fun x=>(h.2 x).trans ⟨fun ⟨i,hi,e⟩=> ?_,fun hx=> ?_⟩⟩
 ·rw [getElem!_pos _ _ (by simpa using hi)] at e
  rw [←hp.mem_iff,←e];simp
 ·obtain ⟨i,hi,e⟩:=List.getElem_of_mem (hp.mem_iff.2 hx)
  exact ⟨i,hi,by rw [getElem!_pos _ _ (by simpa using hi)];simpa using e⟩
theorem brd_len (xs:List Int):(brd xs).length≤xs.length:=by
 have:=comp_len (srtI xs)
 rw [srtI,List.length_mergeSort] at this
 exact this
end An
namespace An.S
open Go
def onL (l:List Tst) (d:Int):List Tst:=l.dropWhile fun s=>decide (s.hi≤d)
def onV (l:List Tst) (d:Int):Option Va:=if 0 < (onL l d).length∧((onL l d).getD 0 tst0).lo≤d then some ((onL l d).getD 0 tst0).v else none
theorem on_next {xs:List Tst} {d:Int} (h:0 < xs.length) (h1:(xs.getD 0 tst0).hi≤d):onL (xs.drop 1) d=onL xs d:=by
 cases xs with
 | nil=>simp at h
 | cons s r=>
  have h1:s.hi≤d:=h1
  rw [onL,onL,List.dropWhile_cons_of_pos (by simpa using h1)];rfl
theorem on_stop {xs:List Tst} {d:Int} (h: ¬(0 < xs.length∧(xs.getD 0 tst0).hi≤d)):onL xs d=xs:=by
 cases xs with
 | nil=>rfl
 | cons s r=>
  have h1: ¬s.hi≤d:=fun h'=>h ⟨by simp,h'⟩
  rw [onL,List.dropWhile_cons_of_neg (by simpa using h1)]
theorem onL_len {l:List Tst} {d:Int}:(onL l d).length≤l.length:=(List.dropWhile_sublist _).length_le
theorem onL_asc {l:List Tst} {d:Int} (h:ascT l):ascT (onL l d):=⟨fun s hs=>h.1 s ((List.dropWhile_sublist _).subset hs),h.2.sublist (List.dropWhile_sublist _)⟩
theorem onL_val {d:Int}: ∀{l:List Tst},∀e,d≤e→valT (onL l d) e=valT l e
 | [],_,_=>rfl
 | s::r,e,h=>by
  by_cases h1:s.hi≤d
  ·have:onL (s::r) d=onL r d:=by rw [onL,List.dropWhile_cons_of_pos (by simpa using h1)];rfl
   rw [this,onL_val e h,xj7,if_neg (by omega)]
  ·have:onL (s::r) d=s::r:=by rw [onL,List.dropWhile_cons_of_neg (by simpa using h1)]
   rw [this]
theorem onV_val {l:List Tst} {d:Int} (h:ascT l):onV l d=valT l d:=by
 rw [←onL_val d (Int.le_refl _),onV]
 have hd:0 < (onL l d).length→d < ((onL l d).getD 0 tst0).hi:=fun h0=>by
  clear h
  induction l with
  | nil=>simp [onL] at h0
  | cons s r ih=>
   by_cases h1:s.hi≤d
   ·have:onL (s::r) d=onL r d:=by rw [onL,List.dropWhile_cons_of_pos (by simpa using h1)];rfl
    rw [this] at h0 ⊢;exact ih h0
   ·have:onL (s::r) d=s::r:=by rw [onL,List.dropWhile_cons_of_neg (by simpa using h1)]
    rw [this];show d < s.hi;omega
 have ha:=onL_asc (d:=d) h
 generalize onL l d=xs at*
 cases xs with
 | nil=>rfl
 | cons s r=>
  have h1:d < s.hi:=hd (by simp)
  rw [xj7]
  by_cases h2:s.lo≤d
  ·rw [if_pos ⟨by simp,h2⟩,if_pos ⟨h2,h1⟩];rfl
  ·rw [if_neg (fun h=>h2 h.2),if_neg (fun h=>h2 h.1)]
   symm
   refine valT_none.2 fun t ht h=> ?_
   have:=(List.pairwise_cons.1 ha.2).1 t ht
   omega
def eds (l:List Tst):List Int:=l.flatMap fun s=>[s.lo,s.hi]
def bds (ls:List (List Tst)):List Int:=brd (ls.flatMap eds)
theorem eds_mem {l:List Tst} {x:Int}:x∈eds l↔ ∃s∈l,x=s.lo∨x=s.hi:=by
 simp [eds,List.mem_flatMap]
theorem eds_len {l:List Tst}:(eds l).length=2*l.length:=by
 induction l with
 | nil=>rfl
 | cons s r ih=>rw [eds,List.flatMap_cons,List.length_append,←eds,ih];simp;omega
theorem eds_snoc {l:List Tst} {i:Nat} (hi:i < l.length):eds (l.take (i+1))=eds (l.take i)++[(l.getD i tst0).lo,(l.getD i tst0).hi]:=by
 rw [List.take_succ_eq_append_getElem hi,eds,List.flatMap_append,List.getD_eq_getElem?_getD,List.getElem?_eq_getElem hi];simp [eds]
theorem flat_snoc {ls:List (List Tst)} {i:Nat} (hi:i < ls.length):(ls.take (i+1)).flatMap eds=(ls.take i).flatMap eds++eds (ls.getD i []):=by
 rw [List.take_succ_eq_append_getElem hi,List.flatMap_append,List.getD_eq_getElem?_getD,List.getElem?_eq_getElem hi];simp
def tlen (ls:List (List Tst)):Nat:=(ls.map List.length).sum
theorem flat_len: ∀{ls:List (List Tst)},(ls.flatMap eds).length=2*tlen ls
 | []=>rfl
 | l::r=>by rw [List.flatMap_cons,List.length_append,eds_len,flat_len (ls:=r)];simp [tlen];omega
theorem bds_len {ls:List (List Tst)}:(bds ls).length≤2*tlen ls:=by rw [←flat_len];exact brd_len _
theorem bds_pw {ls:List (List Tst)}:(bds ls).Pairwise (· < ·):=(xp2 _).1
theorem bds_mem {ls:List (List Tst)} {x:Int}:x∈bds ls↔ ∃l∈ls,∃s∈l,x=s.lo∨x=s.hi:=by
 rw [bds,(xp2 _).2,List.mem_flatMap]
 simp only [eds_mem]
theorem pw_lt {ds:List Int} (h:ds.Pairwise (· < ·)) {i j:Nat} (hij:i < j) (hj:j < ds.length):ds.getD i 0 < ds.getD j 0:=by
 have:=List.pairwise_iff_getElem.1 h i j (by omega) hj hij
 rwa [List.getD_eq_getElem?_getD,List.getD_eq_getElem?_getD,List.getElem?_eq_getElem (show i < ds.length by omega),List.getElem?_eq_getElem hj]
def segI (g:Int→Option Va) (ds:List Int) (i:Nat):List Tst:=match g (ds.getD i 0) with
 | some v=>[⟨ds.getD i 0,ds.getD (i+1) 0,v⟩]
 | none=>[]
def segN (g:Int→Option Va) (ds:List Int) (k:Nat):List Tst:=(List.range k).flatMap (segI g ds)
theorem xq0 {g:Int→Option Va} {ds:List Int} {k:Nat}:segN g ds (k+1)=segN g ds k++segI g ds k:=by
 rw [segN,List.range_succ,List.flatMap_append];simp [segN]
theorem segL_N {g:Int→Option Va}: ∀ds:List Int,segL g ds=segN g ds (ds.length - 1)
 | []=>rfl
 | [x]=>rfl
 | x::y::r=>by
  have e: ∀i,segI g (x::y::r) (i+1)=segI g (y::r) i:=fun i=>rfl
  have e0:segI g (x::y::r) 0=(match g x with | some v=>[⟨x,y,v⟩] | none=>[]):=rfl
  have h:(x::y::r).length - 1=r.length+1:=by simp
  have e1:segN g (x::y::r) (r.length+1)=segI g (x::y::r) 0++segN g (y::r) r.length:=by
   rw [segN,List.range_succ_eq_map,List.flatMap_cons,List.flatMap_map];rfl
  rw [segL,segL_N (y::r),h,e1,e0];rfl
theorem pst_app (acc xs ys:List Tst):pst acc (xs++ys)=pst (pst acc xs) ys:=by rw [pst,pst,pst,List.foldl_append]
theorem segN_len {g:Int→Option Va} {ds:List Int}: ∀k,(segN g ds k).length≤k
 | 0=>Nat.le_refl _
 | k+1=>by
  rw [xq0,List.length_append]
  have:=segN_len (g:=g) (ds:=ds) k
  have h:(segI g ds k).length≤1:=by rw [segI];split <;> simp
  omega
def dfB (a b:List Tst) (d:Int):Bool:=decide (valT a d≠valT b d)
def dfI (a b:List Tst) (i:Nat):List Sn:=if dfB a b ((bds [a,b]).getD i 0) then [⟨(bds [a,b]).getD i 0,(bds [a,b]).getD (i+1) 0⟩] else []
def dfK (a b:List Tst) (k:Nat):List Sn:=(List.range k).flatMap (dfI a b)
theorem dfK_next {a b:List Tst} {k:Nat}:dfK a b (k+1)=dfK a b k++dfI a b k:=by
 rw [dfK,List.range_succ,List.flatMap_append];simp [dfK]
def dfT (a b:List Tst):List Sn:=dfK a b ((bds [a,b]).length - 1)
def ogI (a b:List Tst) (xa xb:List Tst) (d:Int):Prop:=(ascT xa∧xa.length≤a.length∧ ∀e,d≤e→valT xa e=valT a e)∧ascT xb∧xb.length≤b.length∧ ∀e,d≤e→valT xb e=valT b e
theorem ogI.next {a b xa xb:List Tst} {d e:Int} (h:ogI a b xa xb d) (hde:d≤e):onV xa e=valT a e∧onV xb e=valT b e∧ogI a b (onL xa e) (onL xb e) e:=by
 obtain ⟨⟨h1,h2,h3⟩,h4,h5,h6⟩:=h
 refine ⟨(onV_val h1).trans (h3 e hde),(onV_val h4).trans (h6 e hde),⟨onL_asc h1,Nat.le_trans onL_len h2,fun x hx=>(onL_val x hx).trans (h3 x (Int.le_trans hde hx))⟩,onL_asc h4,Nat.le_trans onL_len h5,fun x hx=>(onL_val x hx).trans (h6 x (Int.le_trans hde hx))⟩
theorem ogI.zero {a b:List Tst} (ha:ascT a) (hb:ascT b) (d:Int):ogI a b a b d:=⟨⟨ha,Nat.le_refl _,fun _ _=>rfl⟩,hb,Nat.le_refl _,fun _ _=>rfl⟩
end An.S
namespace An
open Go
section
variable {P:Program} {c:Base}
theorem left_ge {D:Nat→Bool} {n:Nat} (h: ∀j,n≤j→D j=false): ∀m,m - n≤left D m
 | 0=>by simp [left]
 | m+1=>by
  have ih:=left_ge h m
  simp only [left]
  rcases Nat.lt_or_ge m n with h1 | h1
  ·omega
  ·rw [h m h1];simp only [cond_false];omega
theorem any_pre {ops:List Oper} {Es:List Eff} {n:Nat} {g0:Slots} {h0:Keys} {al0:Nat→Bool} {Q:Exit→Act→World→Prop} (hn:n≤ops.length) (hlen:n=Es.length)
  (hD: ∀(i:Nat) (o:Oper) (E:Eff),ops[i]? =some o→Es[i]? =some E→DoesR P c ops.toArray o E)
  (hpre: ∀(i:Nat) (E:Eff),Es[i]? =some E→E.PreL (runC (fun j=>decide (j < i)) 0 (Es.map Eff.cg) g0) (runC (fun j=>decide (j < i)) 0 (Es.map Eff.ch) h0) (runC (fun j=>decide (j < i)) 0 (Es.map Eff.ca) al0))
  (hgo:goAll (masks ops #[]) [] (Es.map Eff.sm)=true) (hd:dOk c.N (Es.map Eff.sm)=true) (hnk:nkOk (Es.map Eff.sm) []=true) (hed:edgesOk 0 ops=true)
  (hrest: ∀i,n≤i→i < ops.length→ ∀j,j < i→((masks ops #[]).getD i 0).testBit j=true)
  (hQ: ∀(fuel:Nat) (listed:Array Bool) (a:Act) (w:World),listed.size=ops.length→Closed ops (fun i=>listed.getD i false)→(∀j,listed.getD j false=decide (j < n))→ops.length - n≤fuel→
   St c (runC (fun _=>true) 0 (Es.map Eff.cg) g0) (runC (fun _=>true) 0 (Es.map Eff.ch) h0) (runC (fun _=>true) 0 (Es.map Eff.ca) al0) a w→wpAnyIn (fc c.ro) 0 P .any ops.toArray Q fuel listed a w):
  ∀(fuel:Nat) (listed:Array Bool) (a:Act) (w:World),listed.size=ops.length→Closed ops (fun i=>listed.getD i false)→(∀j,n≤j→listed.getD j false=false)→
   left (fun i=>listed.getD i false) ops.length≤fuel→
   St c (runC (fun i=>listed.getD i false) 0 (Es.map Eff.cg) g0) (runC (fun i=>listed.getD i false) 0 (Es.map Eff.ch) h0) (runC (fun i=>listed.getD i false) 0 (Es.map Eff.ca) al0) a w→
   wpAnyIn (fc c.ro) 0 P .any ops.toArray Q fuel listed a w:=by
 have hsm: ∀(i:Nat) (E:Eff),Es[i]? =some E→(Es.map Eff.sm)[i]? =some E.sm:=fun i E h=>by rw [List.getElem?_map,h];rfl
 have hpair: ∀(i j:Nat) (E E':Eff),i < j→Es[i]? =some E→Es[j]? =some E'→((masks ops #[]).getD j 0).testBit i=true∨Indep E.sm E'.sm:=fun i j E E' hij hi hj=>
  goAll_spec (Es.map Eff.sm) [] hgo i j _ _ hij (Nat.zero_le _) (by simpa using hsm i E hi) (by simpa using hsm j E' hj)
 have hmask: ∀D,Closed ops D→ ∀i j,((masks ops #[]).getD i 0).testBit j=true→(∀o,ops[i]? =some o→ ∀e∈o.after.toList,Region.binds .any e=true→D e.on=true)→D j=true:=by
  intro D hcl i j hj hi
  rw [Array.getD_eq_getD_getElem?] at hj
  cases hm:(masks ops #[])[i]? with
  | none=>rw [hm] at hj;simp at hj
  | some m=>rw [hm] at hj;exact xq8 (ops:=ops) ops #[] (by simp) (by simp) D hcl i m hm hi j hj
 have hmaskD: ∀D,Closed ops D→ ∀i j,((masks ops #[]).getD i 0).testBit j=true→D i=true→D j=true:=fun D hcl i j hj hi=>hmask D hcl i j hj fun o ho=>hcl i o ho hi
 have hall: ∀(fuel:Nat) (listed:Array Bool) (a:Act) (w:World),listed.size=ops.length→Closed ops (fun i=>listed.getD i false)→(∀j,n≤j→listed.getD j false=false)→left (fun i=>listed.getD i false) ops.length≤fuel→
   St c (runC (fun i=>listed.getD i false) 0 (Es.map Eff.cg) g0) (runC (fun i=>listed.getD i false) 0 (Es.map Eff.ch) h0) (runC (fun i=>listed.getD i false) 0 (Es.map Eff.ca) al0) a w→
   (∀j,j < n→listed.getD j false=true)→wpAnyIn (fc c.ro) 0 P .any ops.toArray Q fuel listed a w:=by
  intro fuel listed a w hsz hcl hno hleft hs hall
  have hcong: ∀{β:Type} (l:List (Chg β)) (f:Nat→β),l.length=n→runC (fun i=>listed.getD i false) 0 l f=runC (fun _=>true) 0 l f:=fun l f hl=>by
   funext s
   refine xe9 l 0 f f rfl fun j C hj _=> ?_
   rw [Nat.zero_add]
   exact hall j (by have:=(List.getElem?_eq_some_iff.1 hj).1;omega)
  rw [hcong _ _ (by simp [hlen]),hcong _ _ (by simp [hlen]),hcong _ _ (by simp [hlen])] at hs
  have hge:=left_ge (D:=fun i=>listed.getD i false) hno ops.length
  refine hQ fuel listed a w hsz hcl (fun j=> ?_) (by omega) hs
  rcases Nat.lt_or_ge j n with h1 | h1
  ·rw [hall j h1,decide_eq_true h1]
  ·rw [hno j h1,decide_eq_false (by omega)]
 have hsome: ∀(listed:Array Bool),listed.size=ops.length→ ¬(∀j,j < n→listed.getD j false=true)→Region.ready .any ops.toArray listed≠[]:=by
  intro listed hsz hnall hr
  refine hnall fun i=> ?_
  induction i using Nat.strongRecOn with
  | _ i ih=>
   intro hi
   cases hl:listed.getD i false with
   | true=>rfl
   | false=>
    exfalso
    have:i∈Region.ready .any ops.toArray listed:=by
     rw [mem_ready]
     refine ⟨?_,ops[i],by simp [show i < ops.length by omega],fun e he hb=> ?_⟩
     ·rw [Array.getD_eq_getD_getElem?] at hl ⊢
      rw [Array.getElem?_eq_getElem (by omega)] at hl ⊢
      simpa using hl
     ·have hon:=xo3 ops 0 hed i ops[i] (List.getElem?_eq_getElem (by omega)) e (by simpa using he) hb
      exact ih e.on (by omega) (by omega)
    rw [hr] at this
    cases this
 intro fuel
 induction fuel with
 | zero=>
  intro listed a w hsz hcl hno hleft hs
  refine hall 0 listed a w hsz hcl hno hleft hs fun j hj=> ?_
  exact left_zero (D:=fun i=>listed.getD i false) ops.length (by omega) j (by omega)
 | succ fuel ih=>
  intro listed a w hsz hcl hno hleft hs
  by_cases hal: ∀j,j < n→listed.getD j false=true
  ·exact hall _ listed a w hsz hcl hno hleft hs hal
  refine ⟨fun hr=>absurd hr (hsome listed hsz hal),fun i hi=> ?_⟩
  have hin:i < n:=by
   rw [mem_ready] at hi
   obtain ⟨h1,o,ho,hedge⟩:=hi
   have hlt:i < ops.length:=by
    have:=(Array.getElem?_eq_some_iff.1 ho).1
    simpa using this
   refine Decidable.byContradiction fun hge=>hal fun j hj=> ?_
   exact hmask _ hcl i j (hrest i (by omega) hlt j (by omega)) fun o' ho'' e he hbd=>by
    have ho3:ops[i]? =some o:=by simpa using ho
    rw [ho3] at ho''
    cases ho''
    exact hedge e (by simpa using he) hbd
  rw [mem_ready] at hi
  obtain ⟨h1,o,ho,hedge⟩:=hi
  have hlt:i < ops.length:=by
   have:=(Array.getElem?_eq_some_iff.1 ho).1
   simpa using this
  have ho':ops[i]? =some o:=by simpa using ho
  have hEi:Es[i]? =some (Es[i]'(by omega)):=List.getElem?_eq_getElem (by omega)
  generalize hE:Es[i]'(by omega)=E at hEi
  have hDi:listed.getD i false=false:=by
   rw [Array.getD_eq_getD_getElem?,Array.getElem?_eq_getElem (by omega)] at h1 ⊢
   simpa using h1
  have hahead: ∀j E',Es[j]? =some E'→j≠i→ ¬Indep E'.sm E.sm→ ¬Indep E.sm E'.sm→listed.getD j false=decide (j < i):=by
   intro j E' hj hji hn1 hn2
   rcases Nat.lt_or_ge j i with hlt' | hge
   ·rw [decide_eq_true hlt']
    rcases hpair j i E' E hlt' hj hEi with hb | hb
    ·exact hmask _ hcl i j hb fun o' ho'' e he hbd=>by
      rw [ho'] at ho''
      cases ho''
      exact hedge e (by simpa using he) hbd
    ·exact absurd hb hn1
   ·rw [decide_eq_false (by omega)]
    rcases hpair i j E E' (by omega) hEi hj with hb | hb
    ·cases hd':listed.getD j false with
     | false=>rfl
     | true=>
      have this:listed.getD i false=true:=hmaskD _ hcl j i hb hd'
      rw [hDi] at this
      cases this
    ·exact absurd hb hn2
  have hp0:=hpre i E hEi
  have hpD:E.Pre c (runC (fun i=>listed.getD i false) 0 (Es.map Eff.cg) g0) (runC (fun i=>listed.getD i false) 0 (Es.map Eff.ch) h0) (runC (fun i=>listed.getD i false) 0 (Es.map Eff.ca) al0):=by
   refine ⟨Rd.congr (fun s hs=> ?_) hp0.rd,Kr.congr (fun s hs=> ?_) hp0.kr,Nk.congr (fun s hs=> ?_) hp0.nk,fun x hx=> ?_⟩
   ·refine xe9 _ 0 _ _ rfl fun j C hj hsome=> ?_
    rw [List.getElem?_map] at hj
    cases hj':Es[j]? with
    | none=>rw [hj'] at hj;cases hj
    | some E'=>
     rw [hj'] at hj
     cases hj
     have hw:=Eff.cg_some.1 hsome
     rw [Nat.zero_add]
     by_cases hji:j=i
     ·subst hji;rw [decide_eq_false (by omega)];exact hDi.symm
     ·exact (hahead j E' hj' hji (fun hI=>hI.h1 s hw hs) (fun hI=>hI.h3 s hw hs)).symm
   ·refine xe9 _ 0 _ _ rfl fun j C hj hsome=> ?_
    rw [List.getElem?_map] at hj
    cases hj':Es[j]? with
    | none=>rw [hj'] at hj;cases hj
    | some E'=>
     rw [hj'] at hj
     cases hj
     have hw:=Eff.ch_some.1 hsome
     rw [Nat.zero_add]
     by_cases hji:j=i
     ·subst hji;rw [decide_eq_false (by omega)];exact hDi.symm
     ·exact (hahead j E' hj' hji (fun hI=>hI.h4 s hw hs) (fun hI=>hI.h6 s hw hs)).symm
   ·refine xe9 _ 0 _ _ rfl fun j C hj hsome=> ?_
    rw [List.getElem?_map] at hj
    cases hj':Es[j]? with
    | none=>rw [hj'] at hj;cases hj
    | some E'=>
     rw [hj'] at hj
     cases hj
     rw [Nat.zero_add]
     by_cases hji:j=i
     ·subst hji;rw [decide_eq_false (by omega)];exact hDi.symm
     ·exfalso
      have hm:s∈E'.nk:=Eff.ca_mem hsome
      have hs':s∈E.sm.nk:=hs
      rcases Nat.lt_or_ge j i with hlt' | hge
      ·exact (xk2 hnk).2 j i _ _ hlt' (hsm j E' hj') (hsm i E hEi) s hm hs'
      ·exact (xk2 hnk).2 i j _ _ (by omega) (hsm i E hEi) (hsm j E' hj') s hs' hm
   ·exact dOk_spec hd i _ (hsm i E hEi) x.1 (by simp [Eff.sm,hx])
  have hD': ∀j,j≠i→(listed.setIfInBounds i true).getD j false=listed.getD j false:=fun j hj=>Go.getD_set_ne false (fun h=>hj h.symm)
  have hi':(listed.setIfInBounds i true).getD i false=true:=by
   rw [Array.getD_eq_getD_getElem?];simp [hsz,hlt]
  have hg':E.g (runC (fun i=>listed.getD i false) 0 (Es.map Eff.cg) g0)=runC (fun j=>(listed.setIfInBounds i true).getD j false) 0 (Es.map Eff.cg) g0:=by
   rw [←Eff.cg_run]
   refine xp1 (D':=fun j=>(listed.setIfInBounds i true).getD j false) (i:=i) (by rw [List.getElem?_map,hEi];rfl) hD' hi' (fun j C' hj hij s h1 h2=> ?_) _
   rw [List.getElem?_map] at hj
   cases hj':Es[j]? with
   | none=>rw [hj'] at hj;cases hj
   | some E'=>
    rw [hj'] at hj
    cases hj
    have:=hahead j E' hj' (by omega) (fun hI=>hI.h2 s (Eff.cg_some.1 h2) (Eff.cg_some.1 h1)) (fun hI=>hI.h2 s (Eff.cg_some.1 h1) (Eff.cg_some.1 h2))
    rw [this,decide_eq_false (by omega)]
  have hh':E.h (runC (fun i=>listed.getD i false) 0 (Es.map Eff.ch) h0)=runC (fun j=>(listed.setIfInBounds i true).getD j false) 0 (Es.map Eff.ch) h0:=by
   rw [←Eff.ch_run]
   refine xp1 (D':=fun j=>(listed.setIfInBounds i true).getD j false) (i:=i) (by rw [List.getElem?_map,hEi];rfl) hD' hi' (fun j C' hj hij s h1 h2=> ?_) _
   rw [List.getElem?_map] at hj
   cases hj':Es[j]? with
   | none=>rw [hj'] at hj;cases hj
   | some E'=>
    rw [hj'] at hj
    cases hj
    have:=hahead j E' hj' (by omega) (fun hI=>hI.h5 s (Eff.ch_some.1 h2) (Eff.ch_some.1 h1)) (fun hI=>hI.h5 s (Eff.ch_some.1 h1) (Eff.ch_some.1 h2))
    rw [this,decide_eq_false (by omega)]
  have ha':E.al (runC (fun i=>listed.getD i false) 0 (Es.map Eff.ca) al0)=runC (fun j=>(listed.setIfInBounds i true).getD j false) 0 (Es.map Eff.ca) al0:=by
   rw [←Eff.ca_run]
   refine xp1 (D':=fun j=>(listed.setIfInBounds i true).getD j false) (i:=i) (by rw [List.getElem?_map,hEi];rfl) hD' hi' (fun j C' hj hij s h1 h2=> ?_) _
   rw [List.getElem?_map] at hj
   cases hj':Es[j]? with
   | none=>rw [hj'] at hj;cases hj
   | some E'=>
    rw [hj'] at hj
    cases hj
    exfalso
    exact (xk2 hnk).2 i j _ _ hij (hsm i E hEi) (hsm j E' hj') s (Eff.ca_mem h1) (Eff.ca_mem h2)
  have hcl':Closed ops (fun j=>(listed.setIfInBounds i true).getD j false):=by
   intro j o' hj hDj e he hb
   by_cases hji:j=i
   ·subst hji
    rw [ho'] at hj
    cases hj
    exact getD_set_true (hedge e (by simpa using he) hb)
   ·simp only [hD' j hji] at hDj
    exact getD_set_true (hcl j o' hj hDj e he hb)
  have hleft':left (fun j=>(listed.setIfInBounds i true).getD j false) ops.length≤fuel:=by
   have:=left_set (D:=fun j=>listed.getD j false) (D':=fun j=>(listed.setIfInBounds i true).getD j false) (i:=i) hD' hi' hDi ops.length hlt
   omega
  have hdo:=hD i o E ho' hEi _ _ _ a w hpD hs
  have hgo': ∀a' w',St c (E.g (runC (fun i=>listed.getD i false) 0 (Es.map Eff.cg) g0)) (E.h (runC (fun i=>listed.getD i false) 0 (Es.map Eff.ch) h0)) (E.al (runC (fun i=>listed.getD i false) 0 (Es.map Eff.ca) al0)) a' w'→
    wpAnyIn (fc c.ro) 0 P .any ops.toArray Q fuel (listed.setIfInBounds i true) a' w':=fun a' w' hs'=>by
   rw [hg',hh',ha'] at hs'
   exact ih _ a' w' (by simp [hsz]) hcl' (fun j hj=>by rw [hD' j (by omega)];exact hno j hj) hleft' hs'
  unfold wpOpIn
  rw [ho]
  simp only
  split
  ·rename_i hw
   rw [if_pos hw] at hdo
   exact Oper.wpIn_mono hgo' (noQ_imp hdo)
  ·rename_i hw
   rw [if_neg hw] at hdo
   exact ⟨fun _ _=>trivial,hgo' _ _ hdo⟩
theorem any_tail {ops:List Oper} {Q:Exit→Act→World→Prop} {n:Nat} (hed:edgesOk 0 ops=true) (hrest: ∀i,n≤i→i < ops.length→ ∀j,j < i→((masks ops #[]).getD i 0).testBit j=true):
  ∀(k m:Nat) (fuel:Nat) (listed:Array Bool) (a:Act) (w:World),n≤m→m+k=ops.length→listed.size=ops.length→Closed ops (fun i=>listed.getD i false)→(∀j,listed.getD j false=decide (j < m))→k≤fuel→
   wpListIn (fc c.ro) 0 P ops.toArray Q (ops.drop m) a w→wpAnyIn (fc c.ro) 0 P .any ops.toArray Q fuel listed a w:=by
 have hmask: ∀D,Closed ops D→ ∀i j,((masks ops #[]).getD i 0).testBit j=true→(∀o,ops[i]? =some o→ ∀e∈o.after.toList,Region.binds .any e=true→D e.on=true)→D j=true:=by
  intro D hcl i j hj hi
  rw [Array.getD_eq_getD_getElem?] at hj
  cases hm:(masks ops #[])[i]? with
  | none=>rw [hm] at hj;simp at hj
  | some m=>rw [hm] at hj;exact xq8 (ops:=ops) ops #[] (by simp) (by simp) D hcl i m hm hi j hj
 intro k
 induction k with
 | zero=>
  intro m fuel listed a w hnm hmk hsz hcl hli hfu hw
  have hnil:Region.ready .any ops.toArray listed=[]:=by
   cases hr:Region.ready .any ops.toArray listed with
   | nil=>rfl
   | cons i rs=>
    have hi:i∈Region.ready .any ops.toArray listed:=by rw [hr];simp
    rw [mem_ready] at hi
    obtain ⟨h1,o,ho,_⟩:=hi
    have hlt:i < ops.length:=by
     have:=(Array.getElem?_eq_some_iff.1 ho).1
     simpa using this
    have this:=hli i
    rw [decide_eq_true (by omega)] at this
    rw [Array.getD_eq_getD_getElem?,Array.getElem?_eq_getElem (by omega)] at h1 this
    simp at h1 this
    rw [h1] at this
    cases this
  rw [List.drop_of_length_le (by omega)] at hw
  cases fuel with
  | zero=>exact ⟨hnil,hw⟩
  | succ f=>
   refine ⟨fun _=>hw,fun i hi=> ?_⟩
   rw [hnil] at hi;cases hi
 | succ k ih=>
  intro m fuel listed a w hnm hmk hsz hcl hli hfu hw
  have hlt:m < ops.length:=by omega
  have hmr:m∈Region.ready .any ops.toArray listed:=by
   rw [mem_ready]
   have hl:=hli m
   rw [decide_eq_false (by omega)] at hl
   refine ⟨?_,ops[m],by simp [hlt],fun e he hb=> ?_⟩
   ·rw [Array.getD_eq_getD_getElem?] at hl ⊢
    rw [Array.getElem?_eq_getElem (by omega)] at hl ⊢
    simpa using hl
   ·have hon:=xo3 ops 0 hed m ops[m] (List.getElem?_eq_getElem (by omega)) e (by simpa using he) hb
    rw [hli,decide_eq_true (by omega)]
  cases fuel with
  | zero=>omega
  | succ f=>
   refine ⟨fun hr=>(by rw [hr] at hmr;cases hmr),fun i hi=> ?_⟩
   rw [mem_ready] at hi
   obtain ⟨h1,o,ho,hedge⟩:=hi
   have hlt2:i < ops.length:=by
    have:=(Array.getElem?_eq_some_iff.1 ho).1
    simpa using this
   have ho3:ops[i]? =some o:=by simpa using ho
   have him:i=m:=by
    have hge:m≤i:=Decidable.byContradiction fun hge=>by
     have this:=hli i
     rw [decide_eq_true (by omega)] at this
     rw [Array.getD_eq_getD_getElem?,Array.getElem?_eq_getElem (by omega)] at h1 this
     simp at h1 this
     rw [h1] at this
     cases this
    refine Decidable.byContradiction fun hne=> ?_
    have hb:=hrest i (by omega) hlt2 m (by omega)
    have:=hmask _ hcl i m hb fun o' ho'' e he hbd=>by
     rw [ho3] at ho''
     cases ho''
     exact hedge e (by simpa using he) hbd
    rw [hli,decide_eq_false (by omega)] at this
    cases this
   subst him
   have edr:ops.drop i=o::ops.drop (i+1):=by
    rw [List.drop_eq_getElem_cons hlt]
    rw [List.getElem?_eq_getElem hlt] at ho3
    cases ho3;rfl
   rw [edr] at hw
   unfold wpListIn at hw
   have hcl':Closed ops (fun j=>(listed.setIfInBounds i true).getD j false):=by
    intro j o' hj hDj e he hb
    by_cases hji:j=i
    ·subst hji
     rw [ho3] at hj
     cases hj
     exact getD_set_true (hedge e (by simpa using he) hb)
    ·simp only [Go.getD_set_ne false (fun h=>hji h.symm)] at hDj
     exact getD_set_true (hcl j o' hj hDj e he hb)
   have hli': ∀j,(listed.setIfInBounds i true).getD j false=decide (j < i+1):=fun j=>by
    by_cases hji:j=i
    ·subst hji
     rw [Array.getD_eq_getD_getElem?];simp [hsz,hlt]
    ·rw [Go.getD_set_ne false (fun h=>hji h.symm),hli]
     by_cases h2:j < i
     ·rw [decide_eq_true h2,decide_eq_true (by omega)]
     ·rw [decide_eq_false h2,decide_eq_false (by omega)]
   have key:=fun a w (hw2:wpListIn (fc c.ro) 0 P ops.toArray Q (ops.drop (i+1)) a w)=>ih (i+1) f (listed.setIfInBounds i true) a w (by omega) (by omega) (by simp [hsz]) hcl' hli' (by omega) hw2
   unfold wpOpIn
   rw [ho]
   simp only
   split
   ·rename_i hwa
    rw [if_pos hwa] at hw
    exact Oper.wpIn_mono key hw
   ·rename_i hwa
    rw [if_neg hwa] at hw
    exact ⟨hw.1,key _ _ hw.2⟩
end
def lastB (n:Nat) (ops:List Oper):Bool:=(List.range ops.length).all fun i=>Nat.blt i n || (List.range i).all fun j=>((masks ops #[]).getD i 0).testBit j
theorem lastB_spec {n:Nat} {ops:List Oper} (h:lastB n ops=true): ∀i,n≤i→i < ops.length→ ∀j,j < i→((masks ops #[]).getD i 0).testBit j=true:=fun i h1 h2 j hj=>by
 have h3:=List.all_eq_true.1 h i (List.mem_range.2 h2)
 rw [Bool.or_eq_true] at h3
 rcases h3 with h3 | h3
 ·have:i < n:=by simpa using h3
  omega
 ·exact List.all_eq_true.1 h3 j (List.mem_range.2 hj)
def chkY (ops:List Oper) (sms:List Sm) (n N:Nat):Bool:=goAll (masks ops #[]) [] sms && dOk N sms && nkOk sms [] && edgesOk 0 ops && lastB n ops && Nat.ble n ops.length
section
variable {P:Program} {c:Base} {Q:Exit→Act→World→Prop} {g:Slots} {h:Keys} {al:Names}
theorem C_drawY (hm:P.follows .mixedOrders=true) {id n:Nat} {ops:List Oper}
  (H:RSeq P c ops.toArray (fun sms g h al=>chkY ops sms n c.N=true∧wl P c ops.toArray Q (ops.drop n) g h al) (ops.take n) [] g h al):wc P c (.region id ops.toArray true) Q g h al:=by
 intro a w hs
 obtain ⟨Es,h1,h2,h3,h4⟩:=RSeq.split (g0:=g) (h0:=h) (al0:=al) (ops.take n) [] H
 simp only [chkY,Bool.and_eq_true,List.nil_append] at h3
 obtain ⟨⟨⟨⟨⟨c1,c2⟩,c3⟩,c4⟩,c5⟩,c6⟩:=h3
 have hn:n≤ops.length:=Nat.le_of_ble_eq_true c6
 have hle:n=Es.length:=by rw [h1,List.length_take];omega
 refine wpIn_region_any hm ?_
 have hsz:(Array.replicate ops.toArray.size false).size=ops.length:=by simp
 have hfl: ∀i,(Array.replicate ops.toArray.size false).getD i false=false:=fun i=>by
  rw [Array.getD_eq_getD_getElem?,Array.getElem?_replicate]
  split <;> rfl
 have hfalse:(fun i=>(Array.replicate ops.toArray.size false).getD i false)=fun _=>false:=funext hfl
 have h0: ∀{β:Type} (l:List (Chg β)) (i:Nat) (f:Nat→β),runC (fun _=>false) i l f=f:=by
  intro β l
  induction l with
  | nil=>intro i f;rfl
  | cons C l ih=>intro i f;simp only [runC,cond_false];exact ih _ _
 have htake: ∀(i:Nat) (o:Oper) (E:Eff),ops[i]? =some o→Es[i]? =some E→(ops.take n)[i]? =some o:=fun i o E ho hE=>by
  have hi:i < Es.length:=(List.getElem?_eq_some_iff.1 hE).1
  rw [List.getElem?_take,if_pos (by omega)];exact ho
 refine any_pre (g0:=g) (h0:=h) (al0:=al) hn hle (fun i o E ho hE=>(h2 i o E (htake i o E ho hE) hE).1) (fun i E hE=> ?_) c1 c2 c3 c4 (lastB_spec c5) (fun fuel listed a w hsz hcl hli hfu hs=> ?_) _ _ a _ hsz ?_ (fun j _=>hfl j) ?_ ?_
 ·have hi:i < Es.length:=(List.getElem?_eq_some_iff.1 hE).1
  have:=(h2 i ops[i] E (htake i _ E (List.getElem?_eq_getElem (by omega)) hE) hE).2
  rw [xn4,xn4,xn4]
  simpa [List.map_take] using this
 ·rw [xk1,xk1,xk1] at hs
  exact any_tail c4 (lastB_spec c5) (ops.length - n) n fuel listed a w (Nat.le_refl _) (by omega) hsz hcl hli hfu (h4 a w (by simpa using hs))
 ·rw [hfalse];intro i o _ hD;cases hD
 ·rw [hfalse]
  have: ∀n,left (fun _=>false) n=n:=by
   intro n
   induction n with
   | zero=>rfl
   | succ n ih=>simp only [left,ih];rfl
  rw [this];simp
 ·rw [hfalse,h0,h0,h0]
  obtain ⟨η,s⟩:=hs
  exact ⟨η,s.ext (Ext.drew w)⟩
end
theorem R_endY {P:Program} {c:Base} {Q:Exit→Act→World→Prop} {g:Slots} {h:Keys} {al:Names} {A:Array Oper} {sms:List Sm} {n N:Nat} {ops rest:List Oper} (h1:chkY ops sms n N=true) (h2:wl P c A Q rest g h al):RSeq P c A (fun sms g h al=>chkY ops sms n N=true∧wl P c A Q rest g h al) [] sms g h al:=⟨h1,h2⟩
end An
namespace An.S
open Go Go.Proofs An
instance ti38:TyI Tryz.prog 38 1 false:=⟨by kernel_rfl,by kernel_rfl⟩
instance ti92:TyI Tryz.prog 92 1 false:=⟨by kernel_rfl,by kernel_rfl⟩
instance ti94:TyI Tryz.prog 94 2 true:=⟨by kernel_rfl,by kernel_rfl⟩
instance sl52:SlI Tryz.prog 52 3 1 false:=⟨Tryz.underlying52,ti3⟩
instance sl136:SlI Tryz.prog 136 38 1 false:=⟨Tryz.underlying136,ti38⟩
instance fo94_0:FoI Tryz.prog 94 0 0:=⟨by kernel_rfl⟩
instance fo94_1:FoI Tryz.prog 94 1 1:=⟨by kernel_rfl⟩
instance fi63:FnI Tryz.prog 63:=⟨_,Tryz.func63,by kernel_rfl,rfl⟩
instance fi64:FnI Tryz.prog 64:=⟨_,Tryz.func64,by kernel_rfl,rfl⟩
instance fi80:FnI Tryz.prog 80:=⟨_,Tryz.func80,by kernel_rfl,rfl⟩
instance fi81:FnI Tryz.prog 81:=⟨_,Tryz.func81,by kernel_rfl,rfl⟩
theorem el3:ElI Tryz.prog 3 1 8 false (.int .i64 0):=⟨ti3,by kernel_rfl,by kernel_rfl⟩
theorem el38:ElI Tryz.prog 38 1 24 false (.slice none 0 0):=⟨ti38,by kernel_rfl,by kernel_rfl⟩
theorem zr94:(Tryz.prog.info? 94).bind (·.zero)=some (.agg #[.pointer none,.pointer none])∧ ∀F w,(tS [⟨1,false,(tE (.pointer none))⟩,⟨1,false,(tE (.pointer none))⟩]).p F w (.agg #[.pointer none,.pointer none]):=⟨by kernel_rfl,fun _ _=>⟨_,rfl,rfl,⟨fun _=>rfl,rfl⟩,⟨fun _=>rfl,rfl⟩,trivial⟩⟩
theorem bu50:BuI Tryz.prog 50 (fun i=>[(0,1),(1,1)][i]?) (.agg #[.int .i64 0,.int .i64 0]):=BuI.struct Tryz.underlying50 (by kernel_rfl) (by kernel_rfl)
theorem zf3:Flat 1 false (.int .i64 0):=xc2 rfl
theorem zf38:Flat 1 false (.slice none 0 0):=xc2 rfl
instance un52:UnI Tryz.prog 52 (.slice 3):=⟨Tryz.underlying52⟩
instance un136:UnI Tryz.prog 136 (.slice 38):=⟨Tryz.underlying136⟩
def laySortR:Go.Shelf.Ren:=⟨fun n=>match n with | 125=>89 | 128=>115 | 129=>116 | 189=>63 | 215=>86 | 216=>112 | 257=>88 | 294=>106 | 295=>107 | 296=>108 | 297=>109 | 298=>110 | 299=>111 | 300=>113 | 301=>114 | 328=>133 | 329=>134 | 330=>135 | 331=>136 | 332=>137 | 343=>151 | n=>n,fun n=>match n with | 0=>0 | 3=>3 | 4=>4 | 5=>5 | 9=>9 | 28=>52 | 46=>110 | 51=>150 | 53=>102 | 131=>147 | 182=>141 | 183=>142 | 218=>161 | 222=>165 | 228=>179 | 229=>75 | n=>n,fun n=>n⟩
theorem laySort:Go.Proofs.Lays.n189 Tryz.prog laySortR where
 mixed:=by kernel_rfl
 f125:=by kernel_rfl
 f128:=by kernel_rfl
 f129:=by kernel_rfl
 f189:=by kernel_rfl
 f215:=by kernel_rfl
 f216:=by kernel_rfl
 f257:=by kernel_rfl
 f294:=by kernel_rfl
 f295:=by kernel_rfl
 f296:=by kernel_rfl
 f297:=by kernel_rfl
 f298:=by kernel_rfl
 f299:=by kernel_rfl
 f300:=by kernel_rfl
 f301:=by kernel_rfl
 f328:=by kernel_rfl
 f329:=by kernel_rfl
 f330:=by kernel_rfl
 f331:=by kernel_rfl
 f332:=by kernel_rfl
 f343:=by kernel_rfl
 t0:=by kernel_rfl
 a0:=fun w=>by kernel_rfl
 z0:=fun w=>by kernel_rfl
 v0:=fun w=>by kernel_rfl
 t3:=by kernel_rfl
 a3:=fun w=>by kernel_rfl
 z3:=fun w=>by kernel_rfl
 v3:=fun w=>by kernel_rfl
 t4:=by kernel_rfl
 a4:=fun w=>by kernel_rfl
 z4:=fun w=>by kernel_rfl
 v4:=fun w=>by kernel_rfl
 t5:=by kernel_rfl
 a5:=fun w=>by kernel_rfl
 z5:=fun w=>by kernel_rfl
 v5:=fun w=>by kernel_rfl
 t9:=by kernel_rfl
 a9:=fun w=>by kernel_rfl
 z9:=fun w=>by kernel_rfl
 v9:=fun w=>by kernel_rfl
 t28:=by kernel_rfl
 a28:=fun w=>by kernel_rfl
 z28:=fun w=>by kernel_rfl
 v28:=fun w=>by kernel_rfl
 t46:=by kernel_rfl
 a46:=fun w=>by kernel_rfl
 z46:=fun w=>by kernel_rfl
 v46:=fun w=>by kernel_rfl
 t51:=by kernel_rfl
 a51:=fun w=>by kernel_rfl
 z51:=fun w=>by kernel_rfl
 v51:=fun w=>by kernel_rfl
 t53:=by kernel_rfl
 a53:=fun w=>by kernel_rfl
 z53:=fun w=>by kernel_rfl
 v53:=fun w=>by kernel_rfl
 t131:=by kernel_rfl
 a131:=fun w=>by kernel_rfl
 z131:=fun w=>by kernel_rfl
 v131:=fun w=>by kernel_rfl
 t182:=by kernel_rfl
 a182:=fun w=>by kernel_rfl
 z182:=fun w=>by kernel_rfl
 v182:=fun w=>by kernel_rfl
 t183:=by kernel_rfl
 a183:=fun w=>by kernel_rfl
 z183:=fun w=>by kernel_rfl
 v183:=fun w=>by kernel_rfl
 t218:=by kernel_rfl
 a218:=fun w=>by kernel_rfl
 z218:=fun w=>by kernel_rfl
 v218:=fun w=>by kernel_rfl
 t222:=by kernel_rfl
 a222:=fun w=>by kernel_rfl
 z222:=fun w=>by kernel_rfl
 v222:=fun w=>by kernel_rfl
 t228:=by kernel_rfl
 a228:=fun w=>by kernel_rfl
 z228:=fun w=>by kernel_rfl
 v228:=fun w=>by kernel_rfl
 t229:=by kernel_rfl
 a229:=fun w=>by kernel_rfl
 z229:=fun w=>by kernel_rfl
 v229:=fun w=>by kernel_rfl
def layCompR:Go.Shelf.Ren:=⟨fun n=>match n with | 20=>64 | n=>n,fun n=>match n with | 0=>0 | 3=>3 | 4=>4 | 22=>52 | n=>n,fun n=>n⟩
theorem layComp:Go.Proofs.Lays2.n20 Tryz.prog layCompR where
 mixed:=by kernel_rfl
 f20:=by kernel_rfl
 t0:=by kernel_rfl
 a0:=fun w=>by kernel_rfl
 z0:=fun w=>by kernel_rfl
 v0:=fun w=>by kernel_rfl
 t3:=by kernel_rfl
 a3:=fun w=>by kernel_rfl
 z3:=fun w=>by kernel_rfl
 v3:=fun w=>by kernel_rfl
 t4:=by kernel_rfl
 a4:=fun w=>by kernel_rfl
 z4:=fun w=>by kernel_rfl
 v4:=fun w=>by kernel_rfl
 t22:=by kernel_rfl
 a22:=fun w=>by kernel_rfl
 z22:=fun w=>by kernel_rfl
 v22:=fun w=>by kernel_rfl
 i3:=by kernel_rfl
theorem c_SortI (xs:List Int) (hn:xs.length < 4611686018427387904):CtG Tryz.prog 63 [(1,⟨3,1,false,rV tI xs⟩)] [.own (.sl 1 1 0 xs.length)] (.val (tE (.tuple #[]))) [(1,⟨3,1,false,rV tI (srtI xs)⟩)] []:=sortI laySort 3 xs hn
theorem c_CompactI (xs:List Int):CtG Tryz.prog 64 [(1,⟨3,1,false,rV tI xs⟩)] [.own (.sl 1 1 0 xs.length)] (.own (.sl 1 1 0 (Lib.compact xs).length)) [(1,⟨3,1,false,rV tI (Lib.compact xs)⟩)] []:=compactI layComp 3 xs
theorem srtI_len (xs:List Int):(srtI xs).length=xs.length:=List.length_mergeSort ..
theorem c_CompactS (xs:List Int):CtG Tryz.prog 64 [(1,⟨3,1,false,rV tI (srtI xs)⟩)] [.own (.sl 1 1 0 xs.length)] (.own (.sl 1 1 0 (brd xs).length)) [(1,⟨3,1,false,rV tI (brd xs)⟩)] []:=by
 have h:=c_CompactI (srtI xs)
 rw [srtI_len] at h;exact h
theorem onV_some {l xs:List Tst} {d:Int} (h:onL l d=xs) (h0:0 < xs.length∧(xs.getD 0 tst0).lo≤d):onV l d=some (xs.getD 0 tst0).v:=by rw [onV,h,if_pos h0]
theorem onV_none {l xs:List Tst} {d:Int} (h:onL l d=xs) (h0: ¬(0 < xs.length∧(xs.getD 0 tst0).lo≤d)):onV l d=none:=by rw [onV,h,if_neg h0]
theorem tlen_take {ls:List (List Tst)} {i:Nat} (hi:i < ls.length):tlen (ls.take i)+(ls.getD i []).length≤tlen ls:=by
 have e:tlen (ls.take (i+1))=tlen (ls.take i)+(ls.getD i []).length:=by
  rw [List.take_succ_eq_append_getElem hi,tlen,List.map_append,List.sum_append,List.getD_eq_getElem?_getD,List.getElem?_eq_getElem hi];simp [tlen]
 have e2:tlen ls=tlen (ls.take (i+1))+tlen (ls.drop (i+1)):=by
  rw [tlen,tlen,tlen,←List.sum_append,←List.map_append,List.take_append_drop]
 omega
theorem c_borders (ls:List (List Tst)) (hl:ls.length≤1000) (ht:tlen ls≤1000000):
  Ct Tryz.prog 80 [tL 1 false (fun l=>tL 8 true tTs l) ls] (tL 1 false tI (bds ls)):=by
 refine Ct.intro Tryz.func80 rfl Tryz.ntmps80 rfl ?_
 intro w F
 refine A7 ?_
 refine RE (xf9 (k:=3) 3 1 false rfl (fun _=>rfl)) trivial trivial ⟨rfl,trivial⟩ ?_
 refine A11 ?_
 refine cL (fun (fm:(Nat)×(List Int))=>(fun (i:Nat) (xs:List Int)=>i≤ls.length∧xs=(ls.take i).flatMap eds) fm.1 fm.2) (fun (fm:(Nat)×(List Int))=>(fun (i:Nat) (xs:List Int)=>upd (upd (upd (upd (fun _=>none) 3 (some (.own (.sl 3 1 0 xs.length)))) 8 (some (.val (tL 1 false (fun l=>tL 8 true tTs l) ls)))) 9 (some (.val (tI ls.length)))) 10 (some (.val (tI i)))) fm.1 fm.2) (fun (fm:(Nat)×(List Int))=>(fun (i:Nat) (xs:List Int)=>upd (fun _=>none) 3 (some (⟨3,1,false,rV tI xs⟩))) fm.1 fm.2) [3] (fun (fm:(Nat)×(List Int))=>(fun (i:Nat) (xs:List Int)=>ls.length - i) fm.1 fm.2) ((0,[])) (by dsimp only;exact ⟨Nat.zero_le _,rfl⟩) (hh:=((SubK.consI rfl ImpK.refl) SubK.nil)) ?_
 intro fm hI
 obtain ⟨i,xs⟩:=fm
 replace hI:i≤ls.length∧xs=(ls.take i).flatMap eds:=hI
 show wc _ _ _ _ (upd (upd (upd (upd (fun _=>none) 3 (some (.own (.sl 3 1 0 xs.length)))) 8 (some (.val (tL 1 false (fun l=>tL 8 true tTs l) ls)))) 9 (some (.val (tI ls.length)))) 10 (some (.val (tI i)))) (upd (fun _=>none) 3 (some (⟨3,1,false,rV tI xs⟩))) _
 obtain ⟨hi,hx⟩:=hI
 refine A6 ?_
 refine x7 rfl (fun h151=> ?_) (fun h151=> ?_)
 ·
  refine A6 ?_
  refine R2 (x6 sl136 (i) (by omega) (gD (l:=ls) (n:=i) (d:=[]) (by omega))) rfl rfl ?_
  refine A12 ?_
  refine xf1 (s:=14) rfl (fun hl0=> ?_)
  have htk:=tlen_take (ls:=ls) (i:=i) (by omega)
  refine cL (fun (fm:(Nat)×(List Int))=>(fun (j:Nat) (xs:List Int)=>j≤(ls.getD i []).length∧xs=(ls.take i).flatMap eds++eds ((ls.getD i []).take j)) fm.1 fm.2) (fun (fm:(Nat)×(List Int))=>(fun (j:Nat) (xs:List Int)=>upd (upd (upd (upd (upd (upd (upd (fun _=>none) 3 (some (.own (.sl 3 1 0 xs.length)))) 8 (some (.val (tL 1 false (fun l=>tL 8 true tTs l) ls)))) 9 (some (.val (tI ls.length)))) 10 (some (.val (tI i)))) 14 (some (.val (tL 8 true tTs (ls.getD i []))))) 15 (some (.val (tI (ls.getD i []).length)))) 16 (some (.val (tI j)))) fm.1 fm.2) (fun (fm:(Nat)×(List Int))=>(fun (j:Nat) (xs:List Int)=>upd (fun _=>none) 3 (some (⟨3,1,false,rV tI xs⟩))) fm.1 fm.2) [3] (fun (fm:(Nat)×(List Int))=>(fun (j:Nat) (xs:List Int)=>(ls.getD i []).length - j) fm.1 fm.2) ((0,xs)) (by dsimp only;exact ⟨Nat.zero_le _,by rw [List.take_zero,hx];simp [eds]⟩) (hh:=((SubK.consI rfl ImpK.refl) SubK.nil)) ?_
  intro fm hI2
  obtain ⟨j,xs⟩:=fm
  replace hI2:j≤(ls.getD i []).length∧xs=(ls.take i).flatMap eds++eds ((ls.getD i []).take j):=hI2
  show wc _ _ _ _ (upd (upd (upd (upd (upd (upd (upd (fun _=>none) 3 (some (.own (.sl 3 1 0 xs.length)))) 8 (some (.val (tL 1 false (fun l=>tL 8 true tTs l) ls)))) 9 (some (.val (tI ls.length)))) 10 (some (.val (tI i)))) 14 (some (.val (tL 8 true tTs (ls.getD i []))))) 15 (some (.val (tI (ls.getD i []).length)))) 16 (some (.val (tI j)))) (upd (fun _=>none) 3 (some (⟨3,1,false,rV tI xs⟩))) _
  obtain ⟨hj,hx2⟩:=hI2
  have hxl:xs.length=2*tlen (ls.take i)+2*j:=by rw [hx2,List.length_append,flat_len,eds_len,List.length_take,Nat.min_eq_left hj]
  refine A6 ?_
  refine x7 rfl (fun h152=> ?_) (fun h152=> ?_)
  ·
   refine A6 ?_
   refine R2 (x6 sl38 (j) (by omega) (gD (l:=(ls.getD i [])) (n:=j) (d:=tst0) (by omega))) rfl rfl ?_
   refine A1 ?_
   refine RE (xb0 (k:=7) (n:=8) (agg:=true) zr56.1 zr56.2 rfl) trivial trivial ⟨rfl,trivial⟩ ?_
   refine A9 ?_
   refine R2 (xd4 (n:=2) (f:=fun n:Int=>tI n) [((ls.getD i []).getD j tst0).lo,((ls.getD i []).getD j tst0).hi] Tryz.underlying52 el3 zf3 rfl (fun _=>inferInstance) rfl rfl rfl) rfl rfl (RE (xb2 (k:=3) (k':=26) (f:=fun n:Int=>tI n) (ys:=[((ls.getD i []).getD j tst0).lo,((ls.getD i []).getD j tst0).hi]) (ts':=rV tI (xs++[((ls.getD i []).getD j tst0).lo,((ls.getD i []).getD j tst0).hi])) Tryz.underlying52 el3 zf3 rfl rfl (fun _=>inferInstance) xc7 (by simp;omega) (by simp;omega) (by simp [rV]) (n':=xs.length+2) rfl) ⟨rfl,rfl,trivial⟩ ⟨rfl,trivial⟩ ⟨rfl,trivial⟩ ?_)
   refine A8 ?_
   exact xf2 (l:=[3]) (fun j=>cond (Nat.beq j 3) 26 (j)) ((j+1,xs++[((ls.getD i []).getD j tst0).lo,((ls.getD i []).getD j tst0).hi])) ⟨(by dsimp only;exact ⟨by omega,by rw [eds_snoc (by omega),←List.append_assoc,←hx2]⟩),(by dsimp only;omega)⟩ (SubR.int rfl (by first | omega | rfl | (dsimp only;omega)) (SubR.int rfl (by first | omega | rfl | (dsimp only;omega)) (SubR.cons rfl (SubR.int rfl (by first | omega | rfl | (dsimp only;omega)) (SubR.int rfl (by first | omega | rfl | (dsimp only;omega)) (SubR.cons rfl ((SubR.consI rfl (Imp.of (by dsimp only;rw [List.length_append];rfl))) SubR.nil))))))) ((SubKR.consI rfl (ImpK.of xa5.symm)) SubKR.nil) (SupG.val (SupG.val (SupG.val (SupG.val (SupG.val (SupG.val (SupG.own rfl SupG.nil))))))) (SupH.cons rfl (supJ xa0) SupH.nil) (lkOk rfl) rfl rfl (fun _ h=>by cases h)
  ·
   refine A10 ?_
   have hje:j=(ls.getD i []).length:=by omega
   subst hje
   exact kF ((i+1,xs)) ⟨(by dsimp only;exact ⟨by omega,by rw [flat_snoc (by omega),hx2,List.take_length]⟩),(by dsimp only;omega)⟩ (hh:=((SubK.consI rfl ImpK.refl) SubK.nil))
 ·
  refine A6 ?_
  have hie:i=ls.length:=by omega
  subst hie
  rw [List.take_length] at hx
  have hxl:xs.length=2*tlen ls:=by rw [hx,flat_len]
  have hsl:=srtI_len xs
  refine A2 ?_
  refine RE (xa9 (fun _=>3) (c_SortI xs (by omega)) fi63 rfl (krC (ρ:=fun _=>3) (k:=1) xa5 (krN (ρ:=fun _=>3))) (krC (ρ:=fun _=>3) (k:=1) xa5 (krN (ρ:=fun _=>3))) ⟨⟨rfl,xa0⟩,trivial⟩ rfl) ⟨rfl,trivial⟩ ⟨rfl,trivial⟩ trivial ?_
  refine A5 ?_
  refine RE (xa9 (fun _=>3) (c_CompactS xs) fi64 rfl (krC (ρ:=fun _=>3) (k:=1) xa5 (krN (ρ:=fun _=>3))) (krC (ρ:=fun _=>3) (k:=1) xa5 (krN (ρ:=fun _=>3))) ⟨⟨rfl,xa0⟩,trivial⟩ rfl) ⟨rfl,trivial⟩ ⟨rfl,trivial⟩ trivial (RE (xi1 (f:=tI) (xs:=brd xs) (fun _ h=>h) (xj0 rfl) rfl) ⟨rfl,trivial⟩ ⟨rfl,trivial⟩ trivial ?_)
  refine A3 ?_
  exact x3 Plain.mk' rfl rfl (Le.of (by rw [hx];rfl))
theorem c_on (l:List Tst) (d:Int):
  Ct Tryz.prog 81 [tL 8 true tTs l,tI d] (tT [tO 6 true tVa (onV l d),tL 8 true tTs (onL l d)]):=by
 refine Ct.intro Tryz.func81 rfl Tryz.ntmps81 rfl ?_
 intro w F
 refine xi4 ?_
 refine C_reg ?_
 refine R1 xd9 rfl (R1 xd9 rfl (xi3 (by kernel_rfl) (xe3 (xi4 (C_block ?_)))))
 refine cL (fun (xs:List Tst)=>onL xs d=onL l d) (fun (xs:List Tst)=>upd (upd (fun _=>none) 0 (some (.val (tL 8 true tTs xs)))) 1 (some (.val (tI d)))) (fun (xs:List Tst)=>fun _=>none) [] (fun (xs:List Tst)=>xs.length) (l) rfl ?_
 intro xs hI
 refine xf1 (s:=0) rfl (fun hl0=> ?_)
 refine xi4 (xi4 ?_)
 refine C_reg ?_
 refine R1 xb5 rfl (R1 (d_len Tryz.underlying38) rfl (R2 d_gtr rfl rfl (R1 xb5 rfl ?_)))
 refine RGcaseD (t:=9) rfl (fun h124=> ?_) (fun h124=> ?_)
 ·
  refine RGon (decide_eq_true h124) rfl xb5 rfl ⟨rfl,trivial⟩ trivial trivial (RGon (decide_eq_true h124) rfl (x6 sl38 (0) (by omega) (gD (l:=xs) (n:=0) (d:=tst0) (by omega))) rfl ⟨rfl,rfl,trivial⟩ trivial trivial (RGon (decide_eq_true h124) rfl (xg2 fo56_1.h (At.f 1 rfl rfl) rfl) rfl ⟨rfl,trivial⟩ trivial trivial (RGon (decide_eq_true h124) rfl (xn3 ti3) rfl ⟨rfl,trivial⟩ trivial trivial (RGon (decide_eq_true h124) rfl xb5 rfl ⟨rfl,trivial⟩ trivial trivial (RGon (decide_eq_true h124) rfl d_leq rfl ⟨rfl,rfl,trivial⟩ trivial trivial (R2 (xh2 (decide_eq_true h124)) rfl rfl (xi3 (by kernel_rfl) ?_)))))))
  refine xe3 ?_
  refine x7 rfl (fun h124_2=> ?_) (fun h124_2=> ?_)
  ·
   refine C_skip (xe3 (C_block ?_))
   refine C_reg ?_
   refine R1 xb5 rfl (R2 (d_sliceFrom sl38 1 rfl (by omega) rfl) rfl rfl (R1 xd9 rfl (xi3 (by kernel_rfl) (K_norB ?_))))
   exact kF (xs.drop 1) ⟨(by rw [on_next (by omega) (by omega)];exact hI),(by rw [List.length_drop];omega)⟩
  ·
   refine C_exit (K_exT (K_exT (K_exB (xe3 (xi4 (xi4 ?_))))))
   have hst:onL l d=xs:=by rw [←hI];exact on_stop (by omega)
   refine C_reg ?_
   refine R1 xb5 rfl (R1 (d_len Tryz.underlying38) rfl (R2 d_gtr rfl rfl (R1 xb5 rfl ?_)))
   refine RGcaseD (t:=22) rfl (fun h127=> ?_) (fun h127=> ?_)
   ·
    refine RGon (decide_eq_true h127) rfl xb5 rfl ⟨rfl,trivial⟩ trivial trivial (RGon (decide_eq_true h127) rfl (x6 sl38 (0) (by omega) (gD (l:=xs) (n:=0) (d:=tst0) (by omega))) rfl ⟨rfl,rfl,trivial⟩ trivial trivial (RGon (decide_eq_true h127) rfl (xg2 fo56_0.h (At.f 0 rfl rfl) rfl) rfl ⟨rfl,trivial⟩ trivial trivial (RGon (decide_eq_true h127) rfl (xn3 ti3) rfl ⟨rfl,trivial⟩ trivial trivial (RGon (decide_eq_true h127) rfl xb5 rfl ⟨rfl,trivial⟩ trivial trivial (RGon (decide_eq_true h127) rfl d_leq rfl ⟨rfl,rfl,trivial⟩ trivial trivial (R2 (xh2 (decide_eq_true h127)) rfl rfl (xi3 (by kernel_rfl) ?_)))))))
    refine xe3 ?_
    refine x7 rfl (fun h127_2=> ?_) (fun h127_2=> ?_)
    ·
     refine xi4 ?_
     refine C_reg ?_
     refine R1 xb5 rfl (R2 (x6 sl38 (0) (by omega) (gD (l:=xs) (n:=0) (d:=tst0) (by omega))) rfl rfl (R1 (xg2 fo56_2.h (At.f 2 rfl rfl) rfl) rfl (R1 xb5 rfl (R1 xd9 rfl (R1 xd9 rfl (xi3 (by kernel_rfl) (xe3 ?_)))))))
     refine C_ret (K_retT ?_)
     exact xc9 Plain.mk' rfl rfl rfl (leO (n:=6) (agg:=true) (f:=tVa) (onV_some hst ⟨by omega,by omega⟩)) (Le.of (by rw [hst]))
    ·
     refine C_skip (xe3 (xi4 ?_))
     refine C_reg ?_
     refine R1 xb5 rfl (R1 xd9 rfl (R1 xd9 rfl (xi3 (by kernel_rfl) (xe3 (C_ret ?_)))))
     exact xc9 Plain.mk' rfl rfl rfl (leO0 (onV_none hst (by omega))) (Le.of (by rw [hst]))
   ·
    refine RGoff (decide_eq_false h127) rfl rfl (RGoff (decide_eq_false h127) rfl rfl (RGoff (decide_eq_false h127) rfl rfl (RGoff (decide_eq_false h127) rfl rfl (RGoff (decide_eq_false h127) rfl rfl (RGoff (decide_eq_false h127) rfl rfl (R2 (xh3 (decide_eq_false h127)) rfl rfl (xi3 (by kernel_rfl) ?_)))))))
    refine xe3 (C_bF rfl rfl (C_skip (xe3 (xi4 ?_))))
    refine C_reg ?_
    refine R1 xb5 rfl (R1 xd9 rfl (R1 xd9 rfl (xi3 (by kernel_rfl) (xe3 (C_ret ?_)))))
    exact xc9 Plain.mk' rfl rfl rfl (leO0 (onV_none hst (by omega))) (Le.of (by rw [hst]))
 ·
  refine RGoff (decide_eq_false h124) rfl rfl (RGoff (decide_eq_false h124) rfl rfl (RGoff (decide_eq_false h124) rfl rfl (RGoff (decide_eq_false h124) rfl rfl (RGoff (decide_eq_false h124) rfl rfl (RGoff (decide_eq_false h124) rfl rfl (R2 (xh3 (decide_eq_false h124)) rfl rfl (xi3 (by kernel_rfl) ?_)))))))
  refine xe3 (C_bF rfl rfl (C_exit (K_exT (K_exT (K_exB (xe3 (xi4 ?_)))))))
  refine xi4 ?_
  have hst:onL l d=xs:=by rw [←hI];exact on_stop (by omega)
  refine C_reg ?_
  refine R1 xb5 rfl (R1 (d_len Tryz.underlying38) rfl (R2 d_gtr rfl rfl (R1 xb5 rfl ?_)))
  refine RGcaseD (t:=22) rfl (fun h127=> ?_) (fun h127=> ?_)
  ·
   refine RGon (decide_eq_true h127) rfl xb5 rfl ⟨rfl,trivial⟩ trivial trivial (RGon (decide_eq_true h127) rfl (x6 sl38 (0) (by omega) (gD (l:=xs) (n:=0) (d:=tst0) (by omega))) rfl ⟨rfl,rfl,trivial⟩ trivial trivial (RGon (decide_eq_true h127) rfl (xg2 fo56_0.h (At.f 0 rfl rfl) rfl) rfl ⟨rfl,trivial⟩ trivial trivial (RGon (decide_eq_true h127) rfl (xn3 ti3) rfl ⟨rfl,trivial⟩ trivial trivial (RGon (decide_eq_true h127) rfl xb5 rfl ⟨rfl,trivial⟩ trivial trivial (RGon (decide_eq_true h127) rfl d_leq rfl ⟨rfl,rfl,trivial⟩ trivial trivial (R2 (xh2 (decide_eq_true h127)) rfl rfl (xi3 (by kernel_rfl) ?_)))))))
   refine xe3 ?_
   refine x7 rfl (fun h127_2=> ?_) (fun h127_2=> ?_)
   ·
    refine xi4 ?_
    refine C_reg ?_
    refine R1 xb5 rfl (R2 (x6 sl38 (0) (by omega) (gD (l:=xs) (n:=0) (d:=tst0) (by omega))) rfl rfl (R1 (xg2 fo56_2.h (At.f 2 rfl rfl) rfl) rfl (R1 xb5 rfl (R1 xd9 rfl (R1 xd9 rfl (xi3 (by kernel_rfl) (xe3 ?_)))))))
    refine C_ret (K_retT ?_)
    exact xc9 Plain.mk' rfl rfl rfl (leO (n:=6) (agg:=true) (f:=tVa) (onV_some hst ⟨by omega,by omega⟩)) (Le.of (by rw [hst]))
   ·
    refine C_skip (xe3 (xi4 ?_))
    refine C_reg ?_
    refine R1 xb5 rfl (R1 xd9 rfl (R1 xd9 rfl (xi3 (by kernel_rfl) (xe3 (C_ret ?_)))))
    exact xc9 Plain.mk' rfl rfl rfl (leO0 (onV_none hst (by omega))) (Le.of (by rw [hst]))
  ·
   refine RGoff (decide_eq_false h127) rfl rfl (RGoff (decide_eq_false h127) rfl rfl (RGoff (decide_eq_false h127) rfl rfl (RGoff (decide_eq_false h127) rfl rfl (RGoff (decide_eq_false h127) rfl rfl (RGoff (decide_eq_false h127) rfl rfl (R2 (xh3 (decide_eq_false h127)) rfl rfl (xi3 (by kernel_rfl) ?_)))))))
   refine xe3 (C_bF rfl rfl (C_skip (xe3 (xi4 ?_))))
   refine C_reg ?_
   refine R1 xb5 rfl (R1 xd9 rfl (R1 xd9 rfl (xi3 (by kernel_rfl) (xe3 (C_ret ?_)))))
   exact xc9 Plain.mk' rfl rfl rfl (leO0 (onV_none hst (by omega))) (Le.of (by rw [hst]))
theorem c_together (a b:List Tst):
  CtG Tryz.prog 53 [] [.val (tL 8 true tTs a),.val (tL 8 true tTs b)] (.own (.fn 79 [.ptr 2 0,.ptr 3 0])) [(2,⟨38,1,false,[.val (tL 8 true tTs a)]⟩),(3,⟨38,1,false,[.val (tL 8 true tTs b)]⟩)] [2,3]:=by
 refine CtG.intro [] Tryz.func53 rfl Tryz.ntmps53 rfl rfl trivial ?_
 intro w F η
 refine A9 ?_
 refine R2 (xo1 (ps:=[.ptr 2 0,.ptr 3 0]) rfl) rfl rfl ?_
 refine A4 ?_
 exact xd1 LentC.mk' rfl rfl Imp.refl ⟨rfl,rfl,trivial⟩ rfl ⟨⟨rfl,(SupX.lit rfl)⟩,⟨rfl,(SupX.lit rfl)⟩,trivial⟩ rfl
abbrev tPr (x y:Option Va):Ty:=tS [⟨1,false,tO 6 true tVa x⟩,⟨1,false,tO 6 true tVa y⟩]
def tgY (a b:List Tst) (k:Nat):List Ty:=[tSn ⟨(bds [a,b]).getD k 0,(bds [a,b]).getD (k+1) 0⟩,tPr (valT a ((bds [a,b]).getD k 0)) (valT b ((bds [a,b]).getD k 0))]
theorem tg_le {a b:List Tst} {k:Nat} {x y:Option Va} (h1:x=valT a ((bds [a,b]).getD k 0)) (h2:y=valT b ((bds [a,b]).getD k 0)):LeL [tSn ⟨(bds [a,b]).getD k 0,(bds [a,b]).getD (k+1) 0⟩,tPr x y] (tgY a b k):=by
 subst h1;subst h2;exact ⟨Le.refl,Le.refl,trivial⟩
theorem i_together (a b:List Tst) (ha:ascT a) (hb:ascT b) (hla:a.length≤200000) (hlb:b.length≤200000):
  ItC Tryz.prog 79 [(1,⟨38,1,false,[.val (tL 8 true tTs a)]⟩),(2,⟨38,1,false,[.val (tL 8 true tTs b)]⟩)] [.ptr 1 0,.ptr 2 0] ((bds [a,b]).length - 1) (tgY a b):=by
 refine ItC.intro (K:=99) [1,2] Tryz.func79 rfl Tryz.ntmps79 rfl rfl ⟨⟨rfl,(SupX.lit rfl)⟩,⟨rfl,(SupX.lit rfl)⟩,trivial⟩ rfl ?_
 intro w F η l V J Jc hB
 refine A1 ?_
 have htl:tlen [a,b]≤400000:=by simp [tlen];omega
 refine A3 ?_
 refine R2 (xd4 (n:=2) (f:=fun l=>tL 8 true tTs l) [a,b] Tryz.underlying136 el38 zf38 rfl (fun _=>inferInstance) rfl rfl rfl) rfl rfl (R1 (x4 (c_borders [a,b] (by simp) (by omega)) fi80 rfl) rfl ?_)
 refine A9 ?_
 have htl:tlen [a,b]≤400000:=by simp [tlen];omega
 have hdl:=bds_len (ls:=[a,b])
 refine cL (fun (fm:(Nat)×(List Tst)×(List Tst))=>(fun (i:Nat) (xa:List Tst) (xb:List Tst)=>(i=0∨i+1≤(bds [a,b]).length)∧ogI a b xa xb ((bds [a,b]).getD (i - 1) 0)) fm.1 fm.2.1 fm.2.2) (fun (fm:(Nat)×(List Tst)×(List Tst))=>(fun (i:Nat) (xa:List Tst) (xb:List Tst)=>upd (upd (upd (upd (upd (fun _=>none) 0 (some (.val (tE (.func (.yield l) #[] #[]))))) 1 (some (.own (.ptr 1 0)))) 2 (some (.own (.ptr 2 0)))) 4 (some (.val (tL 1 false tI (bds [a,b]))))) 5 (some (.val (tI ((i:Int)+1))))) fm.1 fm.2.1 fm.2.2) (fun (fm:(Nat)×(List Tst)×(List Tst))=>(fun (i:Nat) (xa:List Tst) (xb:List Tst)=>upd (upd (upd (fun _=>none) 1 (some (⟨38,1,false,[.val (tL 8 true tTs xa)]⟩))) 2 (some (⟨38,1,false,[.val (tL 8 true tTs xb)]⟩))) 99 (some (⟨2*i,1,false,[]⟩))) fm.1 fm.2.1 fm.2.2) [1,2,99] (fun (fm:(Nat)×(List Tst)×(List Tst))=>(fun (i:Nat) (xa:List Tst) (xb:List Tst)=>(bds [a,b]).length - i) fm.1 fm.2.1 fm.2.2) ((0,a,b)) (by dsimp only;exact ⟨.inl rfl,ogI.zero ha hb _⟩) (hh:=((SubK.consI rfl ImpK.refl) ((SubK.consI rfl ImpK.refl) ((SubK.consI rfl ImpK.refl) SubK.nil)))) ?_
 intro fm hI
 obtain ⟨i,xa,xb⟩:=fm
 replace hI:(i=0∨i+1≤(bds [a,b]).length)∧ogI a b xa xb ((bds [a,b]).getD (i - 1) 0):=hI
 show wc _ _ _ _ (upd (upd (upd (upd (upd (fun _=>none) 0 (some (.val (tE (.func (.yield l) #[] #[]))))) 1 (some (.own (.ptr 1 0)))) 2 (some (.own (.ptr 2 0)))) 4 (some (.val (tL 1 false tI (bds [a,b]))))) 5 (some (.val (tI ((i:Int)+1))))) (upd (upd (upd (fun _=>none) 1 (some (⟨38,1,false,[.val (tL 8 true tTs xa)]⟩))) 2 (some (⟨38,1,false,[.val (tL 8 true tTs xb)]⟩))) 99 (some (⟨2*i,1,false,[]⟩))) _
 obtain ⟨hi,hog⟩:=hI
 refine A9 ?_
 refine x7 rfl (fun h137=> ?_) (fun h137=> ?_)
 ·
  refine A5 ?_
  have hle:(bds [a,b]).getD (i - 1) 0≤((bds [a,b]).getD i 0):=by
   rcases Nat.eq_zero_or_pos i with h0 | h0
   ·subst h0;exact Int.le_refl _
   ·have:=pw_lt (bds_pw (ls:=[a,b])) (show i - 1 < i by omega) (by omega);omega
  obtain ⟨hv1,hv2,hog2⟩:=hog.next hle
  refine A1 ?_
  refine RE (xb0 (k:=6) (n:=2) (agg:=true) zr94.1 zr94.2 rfl) trivial trivial ⟨rfl,trivial⟩ ?_
  refine A8 ?_
  refine R2 (x6 sl52 (i) (by omega) (gD (l:=(bds [a,b])) (n:=i) (d:=0) (by omega))) rfl rfl ?_
  refine A1 ?_
  refine R2 (x4 (c_on xa ((bds [a,b]).getD i 0)) fi81 rfl) rfl rfl ?_
  refine A4 ?_
  refine xg4 (0) ti92 rfl rfl rfl rfl (Up.g 0 rfl rfl rfl) rfl rfl ?_
  refine A9 ?_
  refine R2 (x6 sl52 (i) (by omega) (gD (l:=(bds [a,b])) (n:=i) (d:=0) (by omega))) rfl rfl ?_
  refine A1 ?_
  refine R2 (x4 (c_on xb ((bds [a,b]).getD i 0)) fi81 rfl) rfl rfl ?_
  refine A4 ?_
  refine xg4 (0) ti92 rfl rfl rfl rfl (Up.g 1 rfl rfl rfl) rfl rfl ?_
  refine A4 ?_
  refine C_drawY (n:=12) mixed ?_
  refine A4 ?_
  refine R2 (x6 sl52 (i) (by omega) (gD (l:=(bds [a,b])) (n:=i) (d:=0) (by omega))) rfl rfl ?_
  refine A3 ?_
  refine R2 (x6 sl52 (i+1) (by omega) (gD (l:=(bds [a,b])) (n:=i+1) (d:=0) (by omega))) rfl rfl ?_
  refine A1 ?_
  refine R2 (xd7 (r:=tS [⟨1,false,tI ((bds [a,b]).getD i 0)⟩,⟨1,false,tI ((bds [a,b]).getD (i+1) 0)⟩]) (ts:=[(0,tI ((bds [a,b]).getD i 0)),(1,tI ((bds [a,b]).getD (i+1) 0))]) bu50 zr50.2 (Bc 0 rfl rfl rfl (Bc 1 rfl rfl rfl Le.refl))) rfl rfl ?_
  refine A1 ?_
  refine R_endY (by kernel_rfl) ?_
  refine wl_yield (ts:=[tSn ⟨((bds [a,b]).getD i 0),((bds [a,b]).getD (i+1) 0)⟩,tPr (onV xa ((bds [a,b]).getD i 0)) (onV xb ((bds [a,b]).getD i 0))]) hB (xh6 rfl) rfl rfl ⟨rfl,rfl,trivial⟩ rfl rfl (by omega) (tg_le hv1 hv2) ?_ ?_
  ·
   refine xc8 d_not ⟨rfl,trivial⟩ trivial trivial rfl (xm4 ?_)
   refine A10 ?_
   exact kF ((i+1,onL xa ((bds [a,b]).getD i 0),onL xb ((bds [a,b]).getD i 0))) ⟨(by dsimp only;exact ⟨.inr (by omega),hog2⟩),(by dsimp only;omega)⟩ (hh:=((SubK.consI rfl ImpK.refl) ((SubK.consI rfl ImpK.refl) ((SubK.consI rfl ImpK.refl) SubK.nil))))
  ·
   refine xc8 d_not ⟨rfl,trivial⟩ trivial trivial rfl (xm4 ?_)
   refine A7 ?_
   exact E_it hB rfl trivial rfl (.inl rfl) rfl (.inr ⟨i,by omega,rfl⟩)
 ·
  refine A4 ?_
  exact E_it hB rfl trivial rfl (.inr rfl) rfl (.inl (by omega))
end An.S
namespace An.S
open Go
def wt (D:Int) (v:Va):Int:=(v.f.rat*(D:Rat)).num
theorem int_div (n:Int):(n:Rat)=Rat.divInt n 1:=by
 have:=Rat.num_divInt_den (n:Rat)
 rw [Rat.num_intCast,Rat.den_intCast] at this;exact this.symm
theorem wt_is {D k:Int} (hD:0 < D) {v:Va} (h:v.f.rat=Rat.divInt k D):wt D v=k:=by
 have e:Rat.divInt k D*(D:Rat)=(k:Rat):=by
  rw [int_div D,int_div k,Rat.divInt_mul_divInt]
  exact (Rat.divInt_eq_divInt_iff (by omega) (by decide)).2 (by rw [Int.mul_one,Int.mul_one])
 rw [wt,h,e,Rat.num_intCast]
theorem short_dv {n d:Int} (hd:0 < d) (h1: -9223372036854775808≤n) (h2:n≤9223372036854775807) (h3:d≤9223372036854775807):short (Rat.divInt n d):=by
 have l16: ∀{n:Int}, -9223372036854775808≤n→n≤9223372036854775807→len16 n≤256:=fun h1 h2=>Nat.le_trans (len16_64 h1 h2) (by decide)
 have e:=lowest_eq (n:=n) hd
 have e1:(wh (Rat.divInt n d).num).l.length=(wh (n / (Int.gcd n d:Int))).l.length:=congrArg (fun f:Fr=>f.n.l.length) e
 have e2:(wh ((Rat.divInt n d).den:Int)).l.length=(wh (d / (Int.gcd n d:Int))).l.length:=congrArg (fun f:Fr=>f.d.l.length) e
 refine ⟨?_,?_⟩
 ·show (wh (Rat.divInt n d).num).l.length≤256
  rw [e1];exact len16_div (l16 h1 h2)
 ·show (wh ((Rat.divInt n d).den:Int)).l.length≤256
  rw [e2];exact len16_div (l16 (by omega) h3)
theorem dig_frG (q:Rat):(fr q).dig:=⟨xc5 x9 _,xc5 x9 _⟩
def gOk (K:Nat) (D B:Int) (v:Va):Prop:=(v.valid=true∧v.kind=K∧v.i=0∧v.f=fr v.f.rat∧short v.f.rat)∧v.f.rat=Rat.divInt (wt D v) D∧ -B≤wt D v∧wt D v≤B
theorem gOk.dig {K:Nat} {D B:Int} {v:Va} (h:gOk K D B v):v.f.dig:=by rw [h.1.2.2.2.1];exact dig_frG _
theorem gOk.mk {K:Nat} {D B k:Int} (hK:K=2∨K=3) (hD:0 < D) (hDb:D≤9223372036854775807) (h1: -B≤k) (h2:k≤B) (hB:B≤9223372036854775807):gOk K D B ⟨K,fr (Rat.divInt k D),0⟩:=by
 have hs:short (Rat.divInt k D):=short_dv hD (by omega) (by omega) hDb
 have hw:wt D ⟨K,fr (Rat.divInt k D),0⟩=k:=wt_is hD (rat_fr _)
 refine ⟨⟨?_,rfl,rfl,by rw [rat_fr],by rw [rat_fr];exact hs⟩,?_,?_,?_⟩
 ·rw [Va.valid,if_pos hK]
  simp only [Bool.and_eq_true,decide_eq_true_eq]
  exact ⟨trivial,valid_fr hs⟩
 ·rw [hw];exact rat_fr _
 ·rw [hw];exact h1
 ·rw [hw];exact h2
def isG (K:Nat) (D B:Int) (l:List Tst):Prop:=tRight l=true∧ ∀s∈l,gOk K D B s.v
section
variable {K:Nat} {D B:Int} {l a b:List Tst}
theorem isG.dig (h:isG K D B l): ∀s∈l,s.v.f.dig:=fun s hs=>(h.2 s hs).dig
theorem isG_of (h:ascT l) (hn:nbT l) (hv: ∀s∈l,(0≤s.lo∧s.hi≤65536)∧gOk K D B s.v):isG K D B l:=
 ⟨right_of (K:=K) h hn fun s hs=>⟨(hv s hs).1.1,(hv s hs).1.2,(hv s hs).2.1.1,(hv s hs).2.1.2.1⟩,fun s hs=>(hv s hs).2⟩
theorem isG_pst {ps:List Tst} (hp:ps.Pairwise fun s t=>s.lo < s.hi→s.hi≤t.lo) (hv: ∀s∈ps,s.lo < s.hi→(0≤s.lo∧s.hi≤65536)∧gOk K D B s.v):isG K D B (pst [] ps):=by
 have h:=pst_val ps [] ⟨fun s hs=>(by cases hs),.nil⟩ trivial hp fun x hx=>by cases hx
 exact isG_of h.1 h.2.1 (pst_all (P:=fun s=>(0≤s.lo∧s.hi≤65536)∧gOk K D B s.v) (fun x s hx hs e=>⟨⟨hx.1.1,hs.1.2⟩,hx.2⟩) _ _ (fun s hs=>by cases hs) hv)
theorem segL_mem {g:Int→Option Va}: ∀{ds:List Int} {s:Tst},s∈segL g ds→s.lo∈ds∧s.hi∈ds∧g s.lo=some s.v
 | [],s,h=>by cases h
 | [x],s,h=>by cases h
 | x::y::r,s,h=>by
  rw [segL] at h
  rcases List.mem_append.1 h with h | h
  ·cases hg:g x with
   | none=>rw [hg] at h;cases h
   | some v=>
    rw [hg] at h
    rw [List.mem_singleton.1 h]
    exact ⟨by simp,by simp,hg⟩
  ·have:=segL_mem h
   exact ⟨List.mem_cons_of_mem _ this.1,List.mem_cons_of_mem _ this.2.1,this.2.2⟩
end
def bd (l:List Sn) (i:Nat):Int:=if i%2=0 then (l.getD (i / 2) sn0).lo else (l.getD (i / 2) sn0).hi
theorem bd_succ {l:List Sn} {i:Nat} (h:sVal l=true) (hi:i+1 < 2*l.length):bd l i < bd l (i+1):=by
 rcases Nat.mod_two_eq_zero_or_one i with h0 | h0
 ·have:=sVal_at h (i:=i / 2) (by omega)
  rw [bd,bd,if_pos h0,if_neg (by omega),show (i+1) / 2=i / 2 by omega];exact this.2.1
 ·have:=(sOkA_iff.1 (sVal_iff.1 h ((i+1) / 2) (by omega))).2.2.resolve_left (by omega)
  rw [bd,bd,if_neg (by omega),if_pos (by omega)]
  rw [show (i+1) / 2 - 1=i / 2 by omega] at this;exact this
theorem bd_lt {l:List Sn} (h:sVal l=true): ∀{j i:Nat},i < j→j < 2*l.length→bd l i < bd l j
 | j+1,i,hij,hj=>by
  have h1:=bd_succ h hj
  rcases Nat.lt_or_ge i j with h2 | h2
  ·have:=bd_lt h h2 (by omega);omega
  ·have:i=j:=by omega
   subst this;exact h1
def mem (l:List Sn) (d:Int):Bool:=l.any fun s=>decide (s.lo≤d) && decide (d < s.hi)
theorem mem_iff {l:List Sn} {d:Int}:mem l d=true↔ ∃s∈l,s.lo≤d∧d < s.hi:=by simp [mem]
theorem mem_no {l:List Sn} {d:Int}:mem l d=false↔ ∀s∈l,¬(s.lo≤d∧d < s.hi):=by
 rw [←Bool.not_eq_true,mem_iff];simp only [not_exists,not_and]
theorem exists_getS {l:List Sn} {s:Sn} (hs:s∈l): ∃i,i < l.length∧s=l.getD i sn0:=by
 obtain ⟨i,hi,e⟩:=List.getElem_of_mem hs
 exact ⟨i,hi,by rw [List.getD_eq_getElem?_getD,List.getElem?_eq_getElem hi];exact e.symm⟩
theorem bd_even (l:List Sn) (p:Nat):bd l (2*p)=(l.getD p sn0).lo:=by rw [bd,if_pos (by omega),show 2*p / 2=p by omega]
theorem bd_odd (l:List Sn) (p:Nat):bd l (2*p+1)=(l.getD p sn0).hi:=by rw [bd,if_neg (by omega),show (2*p+1) / 2=p by omega]
theorem sVal_lt {l:List Sn} (h:sVal l=true) {i j:Nat} (hij:i < j) (hj:j < l.length):(l.getD i sn0).hi < (l.getD j sn0).lo:=by
 have:=bd_lt h (show 2*i+1 < 2*j by omega) (by omega)
 rwa [bd_odd,bd_even] at this
def setS (l:List Sn):Prop:=(∀s∈l,okS s)∧l.Pairwise fun s t=>s.hi < t.lo
theorem sVal_set {l:List Sn} (h:sVal l=true):setS l:=by
 refine ⟨fun s hs=> ?_,List.pairwise_iff_getElem.2 fun i j hi hj hij=> ?_⟩
 ·obtain ⟨i,hi,rfl⟩:=exists_getS hs
  exact sVal_at h hi
 ·have:=sVal_lt h hij hj
  rwa [List.getD_eq_getElem?_getD,List.getD_eq_getElem?_getD,List.getElem?_eq_getElem hi,List.getElem?_eq_getElem hj] at this
theorem mem_cons {s:Sn} {r:List Sn} {d:Int}:mem (s::r) d=((decide (s.lo≤d) && decide (d < s.hi)) || mem r d):=by simp [mem]
theorem mem_low {s:Sn} {r:List Sn} {d:Int} (h:setS (s::r)) (hd:d≤s.hi):mem r d=false:=mem_no.2 fun t ht h'=>by
 have:=(List.pairwise_cons.1 h.2).1 t ht;omega
theorem set_ext: ∀{a b:List Sn},setS a→setS b→(∀d,mem a d=mem b d)→a=b
 | [],[],_,_,_=>rfl
 | [],t::u,_,hb,h=>by
  have h1:=hb.1 t (List.mem_cons_self ..)
  have h2:=h t.lo
  rw [mem_cons] at h2
  simp [mem,h1.2.1] at h2
 | s::r,[],ha,_,h=>by
  have h1:=ha.1 s (List.mem_cons_self ..)
  have h2:=h s.lo
  rw [mem_cons] at h2
  simp [mem,h1.2.1] at h2
 | s::r,t::u,ha,hb,h=>by
  have hs:=ha.1 s (List.mem_cons_self ..)
  have ht:=hb.1 t (List.mem_cons_self ..)
  have pa:=List.pairwise_cons.1 ha.2
  have pb:=List.pairwise_cons.1 hb.2
  have l1:t.lo≤s.lo:=by
   obtain ⟨x,hx,hx2⟩:=mem_iff.1 ((h s.lo).symm.trans (by rw [mem_cons];simp [hs.2.1]))
   rcases List.mem_cons.1 hx with rfl | hx
   ·exact hx2.1
   ·have:=pb.1 x hx;have:=ht.2.1;omega
  have l2:s.lo≤t.lo:=by
   obtain ⟨x,hx,hx2⟩:=mem_iff.1 ((h t.lo).trans (by rw [mem_cons];simp [ht.2.1]))
   rcases List.mem_cons.1 hx with rfl | hx
   ·exact hx2.1
   ·have:=pa.1 x hx;have:=hs.2.1;omega
  have l3:t.hi≤s.hi:=by
   rcases Int.lt_or_le s.hi t.hi with h1 | h1
   ·have h2:=h s.hi
    have:=hs.2.1
    rw [mem_cons,mem_cons,mem_low ha (Int.le_refl _)] at h2
    simp [h1,show t.lo≤s.hi by omega] at h2
   ·exact h1
  have l4:s.hi≤t.hi:=by
   rcases Int.lt_or_le t.hi s.hi with h1 | h1
   ·have h2:=h t.hi
    have:=ht.2.1
    rw [mem_cons,mem_cons,mem_low hb (Int.le_refl _)] at h2
    simp [h1,show s.lo≤t.hi by omega] at h2
   ·exact h1
  have est:s=t:=by
   obtain ⟨a1,a2⟩:=s;obtain ⟨b1,b2⟩:=t
   simp only at l1 l2 l3 l4
   rw [show a1=b1 by omega,show a2=b2 by omega]
  subst est
  congr 1
  refine set_ext ⟨fun x hx=>ha.1 x (List.mem_cons_of_mem _ hx),pa.2⟩ ⟨fun x hx=>hb.1 x (List.mem_cons_of_mem _ hx),pb.2⟩ fun d=> ?_
  rcases Int.lt_or_le d s.hi with h1 | h1
  ·rw [mem_low ha (by omega),mem_low hb (by omega)]
  ·have h2:=h d
   rw [mem_cons,mem_cons] at h2
   simpa [show ¬d < s.hi by omega] using h2
theorem set_same {a b:List Sn} (ha:sVal a=true) (hb:sVal b=true) (h: ∀d,mem a d=mem b d):a=b:=set_ext (sVal_set ha) (sVal_set hb) h
def spT (s:Tst):Sn:=⟨s.lo,s.hi⟩
def cvS (l:List Tst):List Sn:=l.map spT
theorem mkS_asc {l:List Sn} (h:ascS l):mkS l=mrg l:=by rw [mkS,ascS_pos h,ascS_srt h]
def jnC (a b:List Tst):Prop:=(tRight a=true∧tRight b=true)∧ ¬(0 < a.length∧0 < b.length∧(a.getD 0 tst0).v.kind≠(b.getD 0 tst0).v.kind)
instance (a b:List Tst):Decidable (jnC a b):=inferInstanceAs (Decidable (_∧_))
def gdf (a b:List Tst) (d:Int):Option Va:=if dfB a b d then some An.va0 else none
theorem dfK_map (a b:List Tst): ∀k,dfK a b k=cvS (segN (gdf a b) (bds [a,b]) k)
 | 0=>rfl
 | k+1=>by
  rw [dfK_next,xq0,cvS,List.map_append,←cvS,←dfK_map a b k]
  congr 1
  rw [dfI,segI,gdf]
  by_cases h:dfB a b ((bds [a,b]).getD k 0)=true
  ·rw [if_pos h,if_pos h];rfl
  ·rw [if_neg h,if_neg h];rfl
theorem dfT_map (a b:List Tst):dfT a b=cvS (segL (gdf a b) (bds [a,b])):=by rw [dfT,dfK_map,segL_N]
def dfS (a b:List Tst):List Sn:=mkS (dfT a b)
theorem bds_in {a b:List Tst} (ha:tRight a=true) (hb:tRight b=true) {x:Int} (hx:x∈bds [a,b]):0≤x∧x≤65536:=by
 obtain ⟨l,hl,s,hs,he⟩:=bds_mem.1 hx
 have:0≤s.lo∧s.lo < s.hi∧s.hi≤65536:=by
  rcases List.mem_cons.1 hl with rfl | hl
  ·obtain ⟨i,hi,rfl⟩:=xr5 hs
   have:=xp9 ha hi;omega
  ·rw [List.mem_singleton.1 hl] at hs
   obtain ⟨i,hi,rfl⟩:=xr5 hs
   have:=xp9 hb hi;omega
 omega
theorem dfT_asc {a b:List Tst} (ha:tRight a=true) (hb:tRight b=true):ascS (dfT a b):=by
 rw [dfT_map]
 have hp:=segL_pw (g:=gdf a b) (bds_pw (ls:=[a,b]))
 refine ⟨fun s hs=> ?_,hp.2.map spT fun s t hst=>hst⟩
 obtain ⟨x,hx,rfl⟩:=List.mem_map.1 hs
 have h1:=segL_mem hx
 have b1:=bds_in ha hb h1.1
 have b2:=bds_in ha hb h1.2.1
 exact ⟨b1.1,hp.1 x hx,b2.2⟩
end An.S
namespace An
open Go
theorem BuI.array {P:Program} {T E len n:Nat} {agg:Bool} {z:Value} (hu:P.underlying T=some (.array len E)) (te:TyI P E n agg) (hz:(P.info? T).bind (·.zero)=some z):BuI P T (fun i=>some (i*n,n)) z:=by
 refine ⟨fun parts w cs hf=> ?_⟩
 simp only [Instr.build,Sem.run_bind,run_zero hz,Result.andThen_ok,run_underlying hu,te.size_run w]
 rw [hf]
 simp
theorem off_map {α:Type} {f:α→Ty} {n:Nat} {agg:Bool}: ∀(xs:List α) (k:Nat),k≤xs.length→Fd.off (xs.map fun y=>(⟨n,agg,f y⟩:Fd)) k=k*n
 | [],0,_=>by simp [Fd.off]
 | _::_,0,_=>by simp [Fd.off]
 | x::r,k+1,h=>by
  have ih:=off_map (f:=f) (n:=n) (agg:=agg) r k (by simpa using h)
  rw [List.map_cons,Fd.off,ih,Nat.add_mul,Nat.one_mul];exact Nat.add_comm _ _
section
variable {P:Program} {c:Base} {d ty:Nat} {pos:String} {af:Array Edge} {gd:Option (Nat×Bool)}
theorem d_idxS {T E len n:Nat} {α:Type} {f:α→Ty} {xs:List α} {x y:Operand} {k:IntKind} {i:Int} (j:Nat) (z:α) (hu:P.underlying T=some (.array len E)) (te:TyI P E n true) (hi:i=(j:Int)) (hj:j < len) (hl:xs.length=len):
  Does P c ⟨some d,.index T x y,ty,pos,af,gd⟩ ⟨[(x,.val (tS (xs.map fun y=>⟨n,true,f y⟩))),(y,.val (tE (.int k i)))],[],some (d,some (.val (f (xs.getD j z)))),[],[]⟩:=
 Does.value rfl fun g h al a w η hrd _ s=>by
  have h1:=(x8 s hrd.1).1
  have h2:a.eval y= .int k i:=(x8 s hrd.2.1).1
  subst hi
  have hx:(xs.map fun y=>(⟨n,true,f y⟩:Fd))[j]? =some ⟨n,true,f (xs.getD j z)⟩:=by
   rw [List.getElem?_map,List.getD_eq_getElem?_getD,List.getElem?_eq_getElem (by omega)];rfl
  obtain ⟨cs,e1,e2,e3,_⟩:=At.f j hx (off_map xs j (by omega)) _ _ _ h1
  simp only [pick,cond_true] at e3
  refine ⟨_,w,?_,Ext.refl w,e3,fun k hk=>by cases hk⟩
  simp only [execOp,e1,h2,Instr.index,asIntOf,Sem.run_bind,Sem.run_pure,Result.andThen_ok,run_underlying hu]
  rw [if_pos ⟨by omega,by omega⟩]
  simp only [part,Sem.run_bind,te.size_run w,te.agg_run w,Result.andThen_ok,Int.toNat_natCast,Sem.run_pure,↓reduceIte]
end
end An
namespace An.S
open Go Go.Proofs An
instance ti42:TyI Tryz.prog 42 1 false:=⟨by kernel_rfl,by kernel_rfl⟩
instance fi52:FnI Tryz.prog 52:=⟨_,Tryz.func52,by kernel_rfl,rfl⟩
instance fi53:FnI Tryz.prog 53:=⟨_,Tryz.func53,by kernel_rfl,rfl⟩
instance fi54:FnI Tryz.prog 54:=⟨_,Tryz.func54,by kernel_rfl,rfl⟩
instance fi79:FnI Tryz.prog 79:=⟨_,Tryz.func79,by kernel_rfl,rfl⟩
theorem zr42:(Tryz.prog.info? 42).bind (·.zero)=some (.slice none 0 0)∧ ∀F w,(tE (.slice none 0 0)).p F w (.slice none 0 0):=⟨by kernel_rfl,fun _ _=>rfl⟩
theorem not_none {o:Option Va} (h:(!o.isNone)=true): ∃v,o=some v:=by
 cases o with
 | none=>cases h
 | some v=>exact ⟨v,rfl⟩
theorem dfK_eq {a b:List Tst} {k:Nat} (h:valT a ((bds [a,b]).getD k 0)=valT b ((bds [a,b]).getD k 0)):dfK a b (k+1)=dfK a b k:=by
 rw [dfK_next,dfI,if_neg (by rw [dfB,h];simp),List.append_nil]
theorem dfK_ne {a b:List Tst} {k:Nat} (h:valT a ((bds [a,b]).getD k 0)≠valT b ((bds [a,b]).getD k 0)):dfK a b (k+1)=dfK a b k++[⟨(bds [a,b]).getD k 0,(bds [a,b]).getD (k+1) 0⟩]:=by
 rw [dfK_next,dfI,if_pos (by rw [dfB];simpa using h)]
theorem some_of {o:Option Va} (h:o.isNone=false): ∃v,o=some v:=not_none (by rw [h];rfl)
theorem c_TDiff (a b:List Tst) (hla:a.length≤200000) (hlb:b.length≤200000) (hDa: ∀s∈a,s.v.f.dig) (hDb: ∀s∈b,s.v.f.dig):
  Ct Tryz.prog 31 [tL 8 true tTs a,tL 8 true tTs b] (tT [tL 2 true tSn (if tRight a=true∧tRight b=true then dfS a b else []),tI (if tRight a=true∧tRight b=true then 0 else 2)]):=by
 refine Ct.intro Tryz.func31 rfl Tryz.ntmps31 rfl ?_
 intro w F
 refine A10 ?_
 refine R1 (x4 (c_TRight a hDa) fi52 rfl) rfl ?_
 refine A2 ?_
 refine RGcase (t:=12) rfl (fun h223=> ?_) (fun h223=> ?_)
 ·
  refine A15 ?_
  exact xc9 Plain.mk' rfl rfl rfl (leNil (by rw [if_neg fun h=>by rw [h.1] at h223;cases h223])) (Le.int (by rw [if_neg fun h=>by rw [h.1] at h223;cases h223]))
 ·
  refine A1 ?_
  refine RGon h223 rfl (x4 (c_TRight b hDb) fi52 rfl) rfl ⟨rfl,trivial⟩ trivial trivial ?_
  refine A4 ?_
  refine xd3 rfl (fun h223_2=> ?_) (fun h223_2=> ?_)
  ·
   refine A8 ?_
   exact xc9 Plain.mk' rfl rfl rfl (leNil (by rw [if_neg fun h=>by rw [h.2] at h223_2;cases h223_2])) (Le.int (by rw [if_neg fun h=>by rw [h.2] at h223_2;cases h223_2]))
  ·
   refine A4 ?_
   refine RE (xb0 (k:=6) (n:=1) (agg:=false) zr42.1 zr42.2 rfl) trivial trivial ⟨rfl,trivial⟩ ?_
   refine A4 ?_
   have hok:tRight a=true∧tRight b=true:=⟨by simpa using h223,by simpa using h223_2⟩
   refine C_nilC (q:=6) 60 50 2 true 0 rfl rfl rfl rfl (fun h=>by cases h) rfl rfl ?_
   refine A3 ?_
   refine RE (xa9 (fun j=>cond (Nat.beq j 2) 19 (1019)) (c_together a b) fi53 rfl (krN (ρ:=fun j=>cond (Nat.beq j 2) 19 (1019))) (krC (ρ:=fun j=>cond (Nat.beq j 2) 19 (1019)) (k:=2) rfl (krC (ρ:=fun j=>cond (Nat.beq j 2) 19 (1019)) (k:=3) rfl (krN (ρ:=fun j=>cond (Nat.beq j 2) 19 (1019))))) ⟨⟨rfl,(SupX.lit rfl)⟩,⟨rfl,(SupX.lit rfl)⟩,trivial⟩ rfl) ⟨rfl,rfl,trivial⟩ trivial ⟨rfl,rfl,trivial⟩ ?_
   refine A3 ?_
   refine C_range (caps:=[.ptr 1 0,.ptr 2 0]) (κ:=Empty) (fun j=>cond (Nat.beq j 2) 1019 (cond (Nat.beq j 1) 19 (j))) rfl (fun _ h=>h) trivial (i_together a b (tRight_asc hok.1) (tRight_asc hok.2) hla hlb) fi79 rfl ⟨rfl,rfl,trivial⟩ rfl rfl (fun _ _=>rfl) (upd (fun _=>none) 6 (some (.own (.ptr 6 0)))) [6,60] [6] (Sub.cons rfl Sub.nil) (SupG.own rfl SupG.nil) rfl (lkOk rfl) (fun (k:Nat) (xs:List Sn)=>xs=dfK a b k∧xs.length≤k) (fun (k:Nat) (xs:List Sn)=>upd (upd (fun _=>none) 6 (some (⟨42,1,false,[.own (.sl 60 2 0 xs.length)]⟩))) 60 (some (⟨50,2,true,rV tSn xs⟩))) (fun k x=>(SupH.cons rfl (supJ xa0) (SupH.cons rfl (supJL rfl) SupH.nil))) (fun k x y hy=>by simp only [List.mem_cons,List.not_mem_nil,or_false] at hy;rcases hy with rfl | rfl <;> rfl) (fun _ _=>False) (fun i=>i.elim) (fun _ _ h=>h.elim) ([]) ⟨rfl,Nat.le_refl _⟩ ((SubK.consI rfl ImpK.refl) ((SubK.consI rfl ImpK.refl) SubK.nil)) ?_ ?_ ?_
   ·
    intro D lp o1 o2 O W lη lb V0 k xs hk hI
    obtain ⟨hx,hxl⟩:=hI
    have hdl:=bds_len (ls:=[a,b])
    have htl:tlen [a,b]≤400000:=by simp [tlen];omega
    apply rnd_mk
    ·
     refine A2 ?_
     refine RE (xb0 (k:=7) (n:=2) (agg:=true) zr50.1 zr50.2 rfl) trivial trivial ⟨rfl,trivial⟩ ?_
     refine A4 ?_
     refine RE (xb0 (k:=8) (n:=2) (agg:=true) zr94.1 zr94.2 rfl) trivial trivial ⟨rfl,trivial⟩ ?_
     refine A2 ?_
     exact K_thenF fun _ _ h=>h
    ·
     refine A6 ?_
     refine R1 (d_eqlNil Tryz.underlying92) rfl ?_
     refine A1 ?_
     refine RGcase (t:=25) rfl (fun h228=> ?_) (fun h228=> ?_)
     ·
      refine A2 ?_
      refine RGon h228 rfl (d_eqlNil Tryz.underlying92) rfl ⟨rfl,trivial⟩ trivial trivial ?_
      refine A2 ?_
      refine RGcase (t:=30) rfl (fun h228_2=> ?_) (fun h228_2=> ?_)
      ·
       refine A18 ?_
       refine A8 ?_
       exact K_rnd (xs) ⟨by rw [dfK_eq (by rw [Option.isNone_iff_eq_none.1 h228,Option.isNone_iff_eq_none.1 h228_2])];exact hx,by omega⟩ ((SubK.consI rfl ImpK.refl) ((SubK.consI rfl ImpK.refl) SubK.nil)) (SupH.cons rfl (supJ xa0) (SupH.cons rfl (supJL rfl) SupH.nil)) (lkOk rfl)
      ·
       refine A2 ?_
       refine RGon h228_2 rfl (d_neqNil Tryz.underlying92) rfl ⟨rfl,trivial⟩ trivial trivial ?_
       refine A1 ?_
       refine RGoff (by exact congrArg Bool.not h228) rfl rfl (RGoff (by exact congrArg Bool.not h228) rfl rfl (RGoff (by exact congrArg Bool.not h228) rfl rfl (RGon h228_2 rfl (xh3 (by exact congrArg Bool.not h228)) rfl ⟨rfl,rfl,trivial⟩ trivial trivial ?_)))
       refine A10 ?_
       refine RGon h228_2 rfl (xh3 rfl) rfl ⟨rfl,rfl,trivial⟩ trivial trivial ?_
       refine A7 ?_
       refine RE (xb3 (ts:=[.own (.sl 60 2 0 xs.length)]) (0) ti42 rfl rfl) ⟨rfl,trivial⟩ ⟨rfl,trivial⟩ trivial ?_
       refine A1 ?_
       refine R1 (xd4 (n:=1) (f:=tSn) [(⟨((bds [a,b]).getD k 0),((bds [a,b]).getD (k+1) 0)⟩:Sn)] Tryz.underlying42 el50 zf50 rfl (fun _=>inferInstance) rfl rfl rfl) rfl (RE (xb2 (k:=60) (k':=54) (f:=tSn) (ys:=[(⟨((bds [a,b]).getD k 0),((bds [a,b]).getD (k+1) 0)⟩:Sn)]) (ts':=rV tSn (xs++[(⟨((bds [a,b]).getD k 0),((bds [a,b]).getD (k+1) 0)⟩:Sn)])) Tryz.underlying42 el50 zf50 rfl rfl (fun _=>inferInstance) xc7 (by simp;omega) (by simp;omega) (by simp [rV]) (n':=xs.length+1) rfl) ⟨rfl,rfl,trivial⟩ ⟨rfl,trivial⟩ ⟨rfl,trivial⟩ (RE (xb8 (es:=1) (agg:=false) (e:= .own (.sl 54 2 0 (xs.length+1))) (0) ti42 rfl rfl rfl) ⟨rfl,rfl,trivial⟩ ⟨rfl,trivial⟩ trivial ?_))
       refine A2 ?_
       exact K_ren (g':=fun _=>none) [6,60] (fun j=>cond (Nat.beq j 60) 54 (j)) SubR.nil ((SubKR.consI rfl (ImpK.of xa5.symm)) ((SubKR.consI rfl (ImpK.of (by rw [List.length_append];rfl))) SubKR.nil)) SupG.nil (SupH.cons rfl (supJ xa0) (SupH.cons rfl (supJL rfl) SupH.nil)) (lkOk rfl) rfl rfl (fun _ h=>by cases h) (K_rnd ((xs++[(⟨((bds [a,b]).getD k 0),((bds [a,b]).getD (k+1) 0)⟩:Sn)])) ⟨by rw [dfK_ne (fun e=>by rw [e,h228_2] at h228;cases h228),←hx],by rw [List.length_append];simp;omega⟩ SubK.refl (SupH.cons rfl (supJ xa0) (SupH.cons rfl (supJL rfl) SupH.nil)) (lkOk rfl))
     ·
      refine A7 ?_
      refine RGon rfl rfl (d_neqNil Tryz.underlying92) rfl ⟨rfl,trivial⟩ trivial trivial ?_
      refine A1 ?_
      refine RGon (by exact congrArg Bool.not h228) rfl (xd0 fo94_1.h rfl) rfl ⟨rfl,trivial⟩ trivial trivial (xb7 (by exact congrArg Bool.not h228) rfl rfl (0) ti92 rfl rfl rfl (At.g 1 rfl rfl) rfl (RGon (by exact congrArg Bool.not h228) rfl (d_neqNil Tryz.underlying92) rfl ⟨rfl,trivial⟩ trivial trivial (RGon rfl rfl (xh2 (by exact congrArg Bool.not h228)) rfl ⟨rfl,rfl,trivial⟩ trivial trivial ?_)))
      refine A1 ?_
      refine RGcase (t:=39) rfl (fun h228_3=> ?_) (fun h228_3=> ?_)
      ·
       obtain ⟨u,hu⟩:=some_of h228
       obtain ⟨v,hv⟩:=not_none h228_3
       refine A2 ?_
       refine RGon h228_3 rfl (xn1 hu) rfl ⟨rfl,trivial⟩ trivial trivial ?_
       refine A3 ?_
       refine RGon h228_3 rfl (xn1 hv) rfl ⟨rfl,trivial⟩ trivial trivial ?_
       refine A1 ?_
       refine RGon h228_3 rfl (x4 (c_TSame _ _) fi23 rfl) rfl ⟨rfl,rfl,trivial⟩ trivial trivial (RGon rfl rfl (xh2 h228_3) rfl ⟨rfl,rfl,trivial⟩ trivial trivial ?_)
       refine A3 ?_
       refine x7 rfl (fun h228_4=> ?_) (fun h228_4=> ?_)
       ·
        refine A3 ?_
        exact K_rnd (xs) ⟨by rw [dfK_eq (by rw [hu,hv,h228_4])];exact hx,by omega⟩ ((SubK.consI rfl ImpK.refl) ((SubK.consI rfl ImpK.refl) SubK.nil)) (SupH.cons rfl (supJ xa0) (SupH.cons rfl (supJL rfl) SupH.nil)) (lkOk rfl)
       ·
        refine A3 ?_
        refine RE (xb3 (ts:=[.own (.sl 60 2 0 xs.length)]) (0) ti42 rfl rfl) ⟨rfl,trivial⟩ ⟨rfl,trivial⟩ trivial ?_
        refine A1 ?_
        refine R1 (xd4 (n:=1) (f:=tSn) [(⟨((bds [a,b]).getD k 0),((bds [a,b]).getD (k+1) 0)⟩:Sn)] Tryz.underlying42 el50 zf50 rfl (fun _=>inferInstance) rfl rfl rfl) rfl (RE (xb2 (k:=60) (k':=54) (f:=tSn) (ys:=[(⟨((bds [a,b]).getD k 0),((bds [a,b]).getD (k+1) 0)⟩:Sn)]) (ts':=rV tSn (xs++[(⟨((bds [a,b]).getD k 0),((bds [a,b]).getD (k+1) 0)⟩:Sn)])) Tryz.underlying42 el50 zf50 rfl rfl (fun _=>inferInstance) xc7 (by simp;omega) (by simp;omega) (by simp [rV]) (n':=xs.length+1) rfl) ⟨rfl,rfl,trivial⟩ ⟨rfl,trivial⟩ ⟨rfl,trivial⟩ (RE (xb8 (es:=1) (agg:=false) (e:= .own (.sl 54 2 0 (xs.length+1))) (0) ti42 rfl rfl rfl) ⟨rfl,rfl,trivial⟩ ⟨rfl,trivial⟩ trivial ?_))
        refine A2 ?_
        exact K_ren (g':=fun _=>none) [6,60] (fun j=>cond (Nat.beq j 60) 54 (j)) SubR.nil ((SubKR.consI rfl (ImpK.of xa5.symm)) ((SubKR.consI rfl (ImpK.of (by rw [List.length_append];rfl))) SubKR.nil)) SupG.nil (SupH.cons rfl (supJ xa0) (SupH.cons rfl (supJL rfl) SupH.nil)) (lkOk rfl) rfl rfl (fun _ h=>by cases h) (K_rnd ((xs++[(⟨((bds [a,b]).getD k 0),((bds [a,b]).getD (k+1) 0)⟩:Sn)])) ⟨by rw [dfK_ne (fun e=>by rw [hu,hv] at e;exact h228_4 (Option.some.inj e)),←hx],by rw [List.length_append];simp;omega⟩ SubK.refl (SupH.cons rfl (supJ xa0) (SupH.cons rfl (supJL rfl) SupH.nil)) (lkOk rfl))
      ·
       refine A9 ?_
       refine RGon rfl rfl (xh3 h228_3) rfl ⟨rfl,rfl,trivial⟩ trivial trivial ?_
       refine A7 ?_
       refine RE (xb3 (ts:=[.own (.sl 60 2 0 xs.length)]) (0) ti42 rfl rfl) ⟨rfl,trivial⟩ ⟨rfl,trivial⟩ trivial ?_
       refine A1 ?_
       refine R1 (xd4 (n:=1) (f:=tSn) [(⟨((bds [a,b]).getD k 0),((bds [a,b]).getD (k+1) 0)⟩:Sn)] Tryz.underlying42 el50 zf50 rfl (fun _=>inferInstance) rfl rfl rfl) rfl (RE (xb2 (k:=60) (k':=54) (f:=tSn) (ys:=[(⟨((bds [a,b]).getD k 0),((bds [a,b]).getD (k+1) 0)⟩:Sn)]) (ts':=rV tSn (xs++[(⟨((bds [a,b]).getD k 0),((bds [a,b]).getD (k+1) 0)⟩:Sn)])) Tryz.underlying42 el50 zf50 rfl rfl (fun _=>inferInstance) xc7 (by simp;omega) (by simp;omega) (by simp [rV]) (n':=xs.length+1) rfl) ⟨rfl,rfl,trivial⟩ ⟨rfl,trivial⟩ ⟨rfl,trivial⟩ (RE (xb8 (es:=1) (agg:=false) (e:= .own (.sl 54 2 0 (xs.length+1))) (0) ti42 rfl rfl rfl) ⟨rfl,rfl,trivial⟩ ⟨rfl,trivial⟩ trivial ?_))
       refine A2 ?_
       exact K_ren (g':=fun _=>none) [6,60] (fun j=>cond (Nat.beq j 60) 54 (j)) SubR.nil ((SubKR.consI rfl (ImpK.of xa5.symm)) ((SubKR.consI rfl (ImpK.of (by rw [List.length_append];rfl))) SubKR.nil)) SupG.nil (SupH.cons rfl (supJ xa0) (SupH.cons rfl (supJL rfl) SupH.nil)) (lkOk rfl) rfl rfl (fun _ h=>by cases h) (K_rnd ((xs++[(⟨((bds [a,b]).getD k 0),((bds [a,b]).getD (k+1) 0)⟩:Sn)])) ⟨by rw [dfK_ne (fun e=>by rw [←e,h228] at h228_3;cases h228_3),←hx],by rw [List.length_append];simp;omega⟩ SubK.refl (SupH.cons rfl (supJ xa0) (SupH.cons rfl (supJL rfl) SupH.nil)) (lkOk rfl))
   ·
    intro D hD xs hI
    obtain ⟨hx,hxl⟩:=hI
    have hdl:=bds_len (ls:=[a,b])
    have htl:tlen [a,b]≤400000:=by simp [tlen];omega
    have hx:xs=dfT a b:=hx
    have hall:=ascS_ok (dfT_asc hok.1 hok.2)
    refine A4 ?_
    refine RE (Does.giveL (k:=60) (es:=2) (off:=0) (len:=xs.length) (xs:=xs) (f:=tSn) (ts:=rV tSn xs) (xb3 (ts:=[.own (.sl 60 2 0 xs.length)]) (0) ti42 rfl rfl) (fun _ h=>h) (xj0 rfl) rfl) ⟨rfl,trivial⟩ ⟨rfl,rfl,trivial⟩ trivial (R1 (x4 (c_SnMake xs (by omega)) fi54 rfl) rfl ?_)
    refine A7 ?_
    exact xc9 (Plain.loop Plain.mk' hD) rfl rfl rfl (Le.of (by rw [if_pos hok,hx,if_pos hall];rfl)) (Le.int (by rw [if_pos hok,hx,if_pos hall]))
   ·
    intro D hD e i;exact i.elim
end An.S
namespace An
open Go
section
variable {P:Program} {c:Base} {d ty:Nat} {pos:String} {af:Array Edge} {gd:Option (Nat×Bool)}
end
end An
namespace An.S
open Go Go.Proofs An
instance fi14:FnI Tryz.prog 14:=⟨_,Tryz.func14,by kernel_rfl,rfl⟩
instance fi42:FnI Tryz.prog 42:=⟨_,Tryz.func42,by kernel_rfl,rfl⟩
theorem c_SameStep (x y:Tst):
  Ct Tryz.prog 42 [tTs x,tTs y] (tB (decide (x=y))):=by
 refine Ct.intro Tryz.func42 rfl Tryz.ntmps42 rfl ?_
 intro w F
 refine A15 ?_
 refine RGcaseD (t:=10) rfl (fun h196=> ?_) (fun h196=> ?_)
 ·
  refine A7 ?_
  refine RGcaseD (t:=17) rfl (fun h196_2=> ?_) (fun h196_2=> ?_)
  ·
   refine A4 ?_
   refine RGon (decide_eq_true h196_2) rfl (x4 (xr6 _ _) fi14 rfl) rfl ⟨rfl,rfl,trivial⟩ trivial trivial ?_
   refine A5 ?_
   exact x3 Plain.mk' rfl rfl (Le.bool (by obtain ⟨a,b,e⟩:=x;obtain ⟨c,d,f⟩:=y;simp only [Tst.mk.injEq] at*;simp_all <;> omega))
  ·
   refine A10 ?_
   exact x3 Plain.mk' rfl rfl (Le.bool (by obtain ⟨a,b,e⟩:=x;obtain ⟨c,d,f⟩:=y;simp only [Tst.mk.injEq] at*;simp_all <;> omega))
 ·
  refine A17 ?_
  exact x3 Plain.mk' rfl rfl (Le.bool (by obtain ⟨a,b,e⟩:=x;obtain ⟨c,d,f⟩:=y;simp only [Tst.mk.injEq] at*;simp_all <;> omega))
theorem xs4 (l:List Tst) (k:Nat) (hk:k < l.length):l.take (k+1)=l.take k++[l.getD k tst0]:=by
 rw [List.take_succ_eq_append_getElem hk,List.getD_eq_getElem?_getD,List.getElem?_eq_getElem hk];rfl
theorem xs5 (l:List Int) (k:Nat) (hk:k < l.length):l.take (k+1)=l.take k++[l.getD k 0]:=by
 rw [List.take_succ_eq_append_getElem hk,List.getD_eq_getElem?_getD,List.getElem?_eq_getElem hk];rfl
theorem c_SameSteps (xs ys:List Tst):
  Ct Tryz.prog 19 [tL 8 true tTs xs,tL 8 true tTs ys] (tB (decide (xs=ys))):=by
 refine Ct.intro Tryz.func19 rfl Tryz.ntmps19 rfl ?_
 intro w F
 refine xf1 (s:=0) rfl (fun hl0=> ?_)
 refine A15 ?_
 refine x7 rfl (fun h206=> ?_) (fun h206=> ?_)
 ·
  refine A7 ?_
  exact x3 Plain.mk' rfl rfl (Le.bool (decide_eq_false (fun h=>by rw [h] at h206;omega)).symm)
 ·
  have hll:xs.length=ys.length:=by omega
  refine A9 ?_
  refine cL (fun (i:Nat)=>i≤xs.length∧xs.take i=ys.take i) (fun (i:Nat)=>upd (upd (upd (fun _=>none) 0 (some (.val (tL 8 true tTs xs)))) 1 (some (.val (tL 8 true tTs ys)))) 5 (some (.val (tI i)))) (fun (i:Nat)=>fun _=>none) [] (fun (i:Nat)=>xs.length - i) (0) ⟨Nat.zero_le _,rfl⟩ ?_
  intro i hI
  obtain ⟨hi,ht⟩:=hI
  refine A9 ?_
  refine x7 rfl (fun h209=> ?_) (fun h209=> ?_)
  ·
   refine A8 ?_
   refine R2 (x6 sl38 i (by omega) (gD (d:=tst0) (by omega))) rfl rfl ?_
   refine A3 ?_
   refine R2 (x6 sl38 i (by omega) (gD (d:=tst0) (by omega))) rfl rfl ?_
   refine A1 ?_
   refine R2 (x4 (c_SameStep _ _) fi42 rfl) rfl rfl ?_
   refine A3 ?_
   refine C_ifn rfl (fun h210=> ?_) (fun h210=> ?_)
   ·
    refine A11 ?_
    exact x3 Plain.mk' rfl rfl (Le.bool (decide_eq_false (fun h=>by rw [h] at h210;exact (h210 rfl))).symm)
   ·
    refine A8 ?_
    exact kF (i+1) ⟨⟨by omega,by rw [xs4 xs i (by omega),xs4 ys i (by omega),ht,show xs.getD i tst0=ys.getD i tst0 from h210]⟩,(by omega)⟩
  ·
   refine A11 ?_
   exact x3 Plain.mk' rfl rfl (Le.bool (decide_eq_true (by rw [show i=xs.length by omega,List.take_length,hll,List.take_length] at ht;exact ht)).symm)
theorem c_SameInts (xs ys:List Int):
  Ct Tryz.prog 17 [tL 1 false tI xs,tL 1 false tI ys] (tB (decide (xs=ys))):=by
 refine Ct.intro Tryz.func17 rfl Tryz.ntmps17 rfl ?_
 intro w F
 refine xf1 (s:=0) rfl (fun hl0=> ?_)
 refine A15 ?_
 refine x7 rfl (fun h27=> ?_) (fun h27=> ?_)
 ·
  refine A7 ?_
  exact x3 Plain.mk' rfl rfl (Le.bool (decide_eq_false (fun h=>by rw [h] at h27;omega)).symm)
 ·
  have hll:xs.length=ys.length:=by omega
  refine A9 ?_
  refine cL (fun (i:Nat)=>i≤xs.length∧xs.take i=ys.take i) (fun (i:Nat)=>upd (upd (upd (fun _=>none) 0 (some (.val (tL 1 false tI xs)))) 1 (some (.val (tL 1 false tI ys)))) 5 (some (.val (tI i)))) (fun (i:Nat)=>fun _=>none) [] (fun (i:Nat)=>xs.length - i) (0) ⟨Nat.zero_le _,rfl⟩ ?_
  intro i hI
  obtain ⟨hi,ht⟩:=hI
  refine A9 ?_
  refine x7 rfl (fun h30=> ?_) (fun h30=> ?_)
  ·
   refine A8 ?_
   refine R2 (x6 sl52 i (by omega) (gD (d:=0) (by omega))) rfl rfl ?_
   refine A3 ?_
   refine R2 (x6 sl52 i (by omega) (gD (d:=0) (by omega))) rfl rfl ?_
   refine A4 ?_
   refine x7 rfl (fun h31=> ?_) (fun h31=> ?_)
   ·
    refine A11 ?_
    exact x3 Plain.mk' rfl rfl (Le.bool (decide_eq_false (fun h=>by rw [h] at h31;exact (h31 rfl))).symm)
   ·
    refine A8 ?_
    exact kF (i+1) ⟨⟨by omega,by rw [xs5 xs i (by omega),xs5 ys i (by omega),ht,show xs.getD i 0=ys.getD i 0 from (Decidable.of_not_not h31)]⟩,(by omega)⟩
  ·
   refine A11 ?_
   exact x3 Plain.mk' rfl rfl (Le.bool (decide_eq_true (by rw [show i=xs.length by omega,List.take_length,hll,List.take_length] at ht;exact ht)).symm)
end An.S
namespace An
section
variable {α:Type} {k:α→Int}
def Sbl (k:α→Int) (xs ys:List α):Prop:= ∀v,xs.filter (fun x=>decide (k x=v))=ys.filter (fun x=>decide (k x=v))
theorem Sbl.refl (xs:List α):Sbl k xs xs:=fun _=>rfl
theorem Sbl.symm {xs ys:List α} (h:Sbl k xs ys):Sbl k ys xs:=fun v=>(h v).symm
theorem Sbl.trans {xs ys zs:List α} (h:Sbl k xs ys) (g:Sbl k ys zs):Sbl k xs zs:=fun v=>(h v).trans (g v)
theorem Sbl.app {a b c d:List α} (h:Sbl k a b) (g:Sbl k c d):Sbl k (a++c) (b++d):=fun v=>by rw [List.filter_append,List.filter_append,h v,g v]
theorem Sbl.swap {u v:List α} (h: ∀a∈u,∀b∈v,k a≠k b):Sbl k (u++v) (v++u):=fun z=>by
 rw [List.filter_append,List.filter_append]
 by_cases hu:u.filter (fun x=>decide (k x=z))=[]
 ·rw [hu];simp
 ·have hv:v.filter (fun x=>decide (k x=z))=[]:=List.filter_eq_nil_iff.2 fun b hb hbz=>by
   obtain ⟨a,ha⟩:=List.exists_mem_of_ne_nil _ hu
   obtain ⟨h1,h2⟩:=List.mem_filter.1 ha
   exact h a h1 b hb ((of_decide_eq_true h2).trans (of_decide_eq_true hbz).symm)
  rw [hv];simp
theorem Sbl.mem {xs ys:List α} (h:Sbl k xs ys) {x:α}:x∈xs↔x∈ys:=by
 have h1:=h (k x)
 have e: ∀l:List α,x∈l↔x∈l.filter (fun y=>decide (k y=k x)):=fun l=>by simp
 rw [e xs,e ys,h1]
theorem Sbl.tail {x:α} {xs ys:List α} (h:Sbl k (x::xs) (x::ys)):Sbl k xs ys:=fun v=>by
 have:=h v
 rw [List.filter_cons,List.filter_cons] at this
 split at this
 ·exact (List.cons.inj this).2
 ·exact this
abbrev Srt (k:α→Int) (xs:List α):Prop:=xs.Pairwise fun a b=>k a≤k b
theorem sbl_eq: ∀{xs ys:List α},Srt k xs→Srt k ys→Sbl k xs ys→xs=ys
 | [],[],_,_,_=>rfl
 | [],y::s,_,_,h=>by have:=(h.mem (x:=y)).2 (List.mem_cons_self ..);cases this
 | x::r,[],_,_,h=>by have:=(h.mem (x:=x)).1 (List.mem_cons_self ..);cases this
 | x::r,y::s,h1,h2,h=>by
  have g1:=List.pairwise_cons.1 h1
  have g2:=List.pairwise_cons.1 h2
  have a1:k y≤k x:=by
   rcases List.mem_cons.1 ((h.mem (x:=x)).1 (List.mem_cons_self ..)) with e | e
   ·rw [e];exact Int.le_refl _
   ·exact g2.1 x e
  have a2:k x≤k y:=by
   rcases List.mem_cons.1 ((h.mem (x:=y)).2 (List.mem_cons_self ..)) with e | e
   ·rw [e];exact Int.le_refl _
   ·exact g1.1 y e
  have hv:=h (k x)
  rw [List.filter_cons,List.filter_cons,if_pos (by simp),if_pos (by simp;omega)] at hv
  have e:=(List.cons.inj hv).1
  subst e
  rw [sbl_eq g1.2 g2.2 h.tail]
def insS (k:α→Int) (x:α):List α→List α
 | []=>[x]
 | y::r=>if k x≤k y then x::y::r else y::insS k x r
def ssort (k:α→Int):List α→List α
 | []=>[]
 | x::r=>insS k x (ssort k r)
theorem insS_sbl {x:α}: ∀l:List α,Sbl k (x::l) (insS k x l)
 | []=>Sbl.refl _
 | y::r=>by
  rw [insS];split
  ·exact Sbl.refl _
  ·next h=>exact Sbl.trans (Sbl.swap (u:=[x]) (v:=[y]) (fun a ha b hb=>by rw [List.mem_singleton.1 ha,List.mem_singleton.1 hb];omega) |>.app (Sbl.refl r)) (Sbl.app (Sbl.refl [y]) (insS_sbl r))
theorem insS_srt {x:α}: ∀{l:List α},Srt k l→Srt k (insS k x l)
 | [],_=>List.pairwise_singleton ..
 | y::r,h=>by
  rw [insS];split
  ·next hx=>exact List.pairwise_cons.2 ⟨fun b hb=>by
    rcases List.mem_cons.1 hb with e | e
    ·rw [e];exact hx
    ·exact Int.le_trans hx ((List.pairwise_cons.1 h).1 b e),h⟩
  ·next hx=>exact List.pairwise_cons.2 ⟨fun b hb=>by
    rcases List.mem_cons.1 ((insS_sbl r).mem.2 hb) with e | e
    ·rw [e];omega
    ·exact (List.pairwise_cons.1 h).1 b e,insS_srt (List.pairwise_cons.1 h).2⟩
theorem ssort_sbl: ∀l:List α,Sbl k l (ssort k l)
 | []=>Sbl.refl _
 | x::r=>Sbl.trans (Sbl.app (Sbl.refl [x]) (ssort_sbl r)) (insS_sbl _)
theorem ssort_srt: ∀l:List α,Srt k (ssort k l)
 | []=>List.Pairwise.nil
 | _::r=>insS_srt (ssort_srt r)
theorem ssort_uniq {xs ys:List α} (h1:Srt k ys) (h2:Sbl k xs ys):ys=ssort k xs:=sbl_eq h1 (ssort_srt xs) (h2.symm.trans (ssort_sbl xs))
theorem ssort_mem {xs:List α} {x:α}:x∈ssort k xs↔x∈xs:=(ssort_sbl xs).mem.symm
theorem insS_len {x:α}: ∀l:List α,(insS k x l).length=l.length+1
 | []=>rfl
 | y::r=>by rw [insS];split <;> simp [insS_len r]
theorem xn6: ∀l:List α,(ssort k l).length=l.length
 | []=>rfl
 | x::r=>by rw [ssort,insS_len,xn6 r];rfl
variable (d:α)
structure Prt (k:α→Int) (d:α) (a b:Nat) (xs ys:List α):Prop where
  len:ys.length=xs.length
  out: ∀i,i < a∨b≤i→ys.getD i d=xs.getD i d
  sb:Sbl k xs ys
variable {d}
theorem Prt.refl (a b:Nat) (xs:List α):Prt k d a b xs xs:=⟨rfl,fun _ _=>rfl,Sbl.refl _⟩
theorem Prt.trans {a b:Nat} {xs ys zs:List α} (h:Prt k d a b xs ys) (g:Prt k d a b ys zs):Prt k d a b xs zs:=⟨g.len.trans h.len,fun i hi=>(g.out i hi).trans (h.out i hi),h.sb.trans g.sb⟩
theorem Prt.mono {a b a' b':Nat} {xs ys:List α} (h:Prt k d a b xs ys) (h1:a'≤a) (h2:b≤b'):Prt k d a' b' xs ys:=⟨h.len,fun i hi=>h.out i (by omega),h.sb⟩
def SrtP (k:α→Int) (d:α) (a b:Nat) (xs:List α):Prop:= ∀i j,a≤i→i < j→j < b→k (xs.getD i d)≤k (xs.getD j d)
theorem xf0 {xs ys:List α} (hl:xs.length=ys.length) (h: ∀i,i < xs.length→xs.getD i d=ys.getD i d):xs=ys:=by
 apply List.ext_getElem hl
 intro i h1 h2
 have:=h i h1
 rwa [List.getD_eq_getElem?_getD,List.getD_eq_getElem?_getD,List.getElem?_eq_getElem h1,List.getElem?_eq_getElem h2] at this
theorem xn7 {xs:List α} {n i:Nat} (h:i < n):(xs.take n).getD i d=xs.getD i d:=by rw [List.getD_eq_getElem?_getD,List.getElem?_take,if_pos h,List.getD_eq_getElem?_getD]
theorem xk4 {xs:List α} {n i:Nat}:(xs.drop n).getD i d=xs.getD (n+i) d:=by rw [List.getD_eq_getElem?_getD,List.getElem?_drop,List.getD_eq_getElem?_getD]
def sgm (a b:Nat) (xs:List α):List α:=(xs.take b).drop a
theorem xe7 {a b:Nat} {xs:List α} (hb:b≤xs.length):(sgm a b xs).length=b - a:=by rw [sgm,List.length_drop,List.length_take];omega
theorem xn2 {a b i:Nat} {xs:List α} (h:a+i < b):(sgm a b xs).getD i d=xs.getD (a+i) d:=by rw [sgm,xk4,xn7 h]
theorem xn8 {a b:Nat} {xs:List α} (hab:a≤b):xs=xs.take a++(sgm a b xs++xs.drop b):=by
 have e1:xs.take a=(xs.take b).take a:=by rw [List.take_take,Nat.min_eq_left hab]
 rw [←List.append_assoc,sgm,e1,List.take_append_drop,List.take_append_drop]
def srtR (k:α→Int) (a b:Nat) (xs:List α):List α:=xs.take a++(ssort k (sgm a b xs)++xs.drop b)
theorem prt_sg {a b:Nat} {xs ys:List α} (hab:a≤b) (hb:b≤xs.length) (h:Prt k d a b xs ys):ys.take a=xs.take a∧ys.drop b=xs.drop b∧Sbl k (sgm a b xs) (sgm a b ys):=by
 have hl:=h.len
 have e1:ys.take a=xs.take a:=xf0 (d:=d) (by simp [hl]) fun i hi=>by
  rw [List.length_take] at hi
  rw [xn7 (by omega),xn7 (by omega),h.out i (by omega)]
 have e2:ys.drop b=xs.drop b:=xf0 (d:=d) (by simp [hl]) fun i hi=>by
  rw [xk4,xk4,h.out _ (by omega)]
 refine ⟨e1,e2,fun v=> ?_⟩
 have h3:=h.sb v
 have s1:=xn8 (xs:=xs) hab
 have s2:=xn8 (xs:=ys) hab
 rw [e1,e2] at s2
 rw [s1,s2] at h3
 simp only [List.filter_append] at h3
 exact List.append_cancel_right (List.append_cancel_left h3)
theorem srtP_sg {a b:Nat} {xs:List α} (hb:b≤xs.length) (h:SrtP k d a b xs):Srt k (sgm a b xs):=by
 refine List.pairwise_iff_getElem.2 fun i j hi hj hij=> ?_
 rw [xe7 hb] at hi hj
 have:=h (a+i) (a+j) (by omega) (by omega) (by omega)
 rw [←xn2 (b:=b) (by omega),←xn2 (b:=b) (by omega),List.getD_eq_getElem?_getD,List.getD_eq_getElem?_getD,List.getElem?_eq_getElem (by rw [xe7 hb];omega),List.getElem?_eq_getElem (by rw [xe7 hb];omega)] at this
 exact this
theorem srtR_of {a b:Nat} {xs ys:List α} (hab:a≤b) (hb:b≤xs.length) (h:Prt k d a b xs ys) (hs:SrtP k d a b ys):ys=srtR k a b xs:=by
 obtain ⟨h1,h2,h3⟩:=prt_sg hab hb h
 have:=ssort_uniq (srtP_sg (by rw [h.len];exact hb) hs) h3
 rw [srtR,←this,←h1,←h2,←xn8 hab]
theorem srtR_len {a b:Nat} {xs:List α} (hab:a≤b) (hb:b≤xs.length):(srtR k a b xs).length=xs.length:=by
 rw [srtR,List.length_append,List.length_append,xn6,xe7 hb,List.length_take,List.length_drop];omega
theorem xj9 {a b:Nat} {xs:List α} (hab:a≤b) (hb:b≤xs.length):Prt k d a b xs (srtR k a b xs):=by
 refine ⟨srtR_len hab hb,fun i hi=> ?_,?_⟩
 ·rw [srtR]
  rcases hi with hi | hi
  ·rw [List.getD_eq_getElem?_getD,List.getElem?_append_left (by rw [List.length_take];omega),←List.getD_eq_getElem?_getD,xn7 hi]
  ·have e1:(xs.take a).length=a:=by rw [List.length_take];omega
   have e2:(ssort k (sgm a b xs)).length=b - a:=by rw [xn6,xe7 hb]
   rw [List.getD_eq_getElem?_getD,List.getElem?_append_right (by omega),List.getElem?_append_right (by omega),←List.getD_eq_getElem?_getD,xk4,e1,e2]
   congr 1;omega
 ·intro v
  rw [srtR]
  conv=>lhs;rw [xn8 (xs:=xs) hab]
  exact ((Sbl.refl _).app ((ssort_sbl _).app (Sbl.refl _))) v
theorem xo6 {a b:Nat} {xs:List α} (hab:a≤b) (hb:b≤xs.length):SrtP k d a b (srtR k a b xs):=by
 intro i j h1 h2 h3
 have e1:(xs.take a).length=a:=by rw [List.length_take];omega
 have e2:(ssort k (sgm a b xs)).length=b - a:=by rw [xn6,xe7 hb]
 have key: ∀t,a≤t→(h:t < b)→(srtR k a b xs).getD t d=(ssort k (sgm a b xs))[t - a]'(by omega):=fun t g1 g2=>by
  rw [srtR,List.getD_eq_getElem?_getD,List.getElem?_append_right (by omega),List.getElem?_append_left (by omega),e1,List.getElem?_eq_getElem (by omega)];rfl
 rw [key i h1 (by omega),key j (by omega) h3]
 exact List.pairwise_iff_getElem.1 (ssort_srt _) _ _ _ _ (by omega)
theorem srtR_all {xs:List α}:srtR k 0 xs.length xs=ssort k xs:=by rw [srtR,sgm];simp
def rotR (a m b:Nat) (xs:List α):List α:=xs.take a++(sgm m b xs++(sgm a m xs++xs.drop b))
theorem rot_split {a m b:Nat} {xs:List α} (h1:a≤m) (h2:m≤b):xs=xs.take a++(sgm a m xs++(sgm m b xs++xs.drop b)):=by
 conv=>lhs;rw [xn8 (xs:=xs) h1,xn8 (xs:=xs.drop m) (a:=0) (b:=b - m) (by omega)]
 congr 2
 have e:b - m+m=b:=by omega
 rw [List.take_zero,List.nil_append,List.drop_drop,Nat.add_comm m,e]
 congr 1
 rw [sgm,sgm,List.drop_zero,List.take_drop,Nat.add_comm m,e]
theorem xd2 {a m b:Nat} {xs:List α} (h1:a≤m) (h2:m≤b) (h3:b≤xs.length):(rotR a m b xs).length=xs.length:=by
 simp only [rotR,List.length_append,List.length_take,List.length_drop,xe7 h3,xe7 (show m≤xs.length by omega)];omega
theorem xd5 {a m b i:Nat} {xs:List α} (h1:a≤m) (h2:m≤b) (h3:b≤xs.length):(rotR a m b xs).getD i d=if i < a then xs.getD i d else if i < a+(b - m) then xs.getD (m+(i - a)) d else if i < b then xs.getD (a+(i - (a+(b - m)))) d else xs.getD i d:=by
 have e0:(xs.take a).length=a:=by rw [List.length_take];omega
 have e1:=xe7 (a:=m) h3
 have e2:=xe7 (a:=a) (show m≤xs.length by omega)
 rw [rotR,List.getD_eq_getElem?_getD]
 split
 ·rw [List.getElem?_append_left (by omega),←List.getD_eq_getElem?_getD,xn7 (by omega)]
 ·rw [List.getElem?_append_right (by omega)]
  split
  ·rw [List.getElem?_append_left (by omega),←List.getD_eq_getElem?_getD,e0,xn2 (by omega)]
  ·rw [List.getElem?_append_right (by omega)]
   split
   ·rw [List.getElem?_append_left (by omega),←List.getD_eq_getElem?_getD,xn2 (by omega)]
    congr 1;omega
   ·rw [List.getElem?_append_right (by omega),←List.getD_eq_getElem?_getD,xk4]
    congr 1;omega
theorem rot_prt {a m b:Nat} {xs:List α} (h1:a≤m) (h2:m≤b) (h3:b≤xs.length) (h: ∀i j,a≤i→i < m→m≤j→j < b→k (xs.getD i d)≠k (xs.getD j d)):Prt k d a b xs (rotR a m b xs):=by
 refine ⟨xd2 h1 h2 h3,fun i hi=> ?_,?_⟩
 ·rw [xd5 h1 h2 h3]
  rcases hi with hi | hi
  ·rw [if_pos hi]
  ·split
   ·omega
   ·split
    ·omega
    ·rw [if_neg (by omega)]
 ·intro v
  conv=>lhs;rw [rot_split (xs:=xs) h1 h2]
  rw [rotR,←List.append_assoc (sgm a m xs),←List.append_assoc (sgm m b xs)]
  refine ((Sbl.refl _).app ((Sbl.swap fun x hx y hy=> ?_).app (Sbl.refl _))) v
  obtain ⟨i,hi,rfl⟩:=List.mem_iff_getElem.1 hx
  obtain ⟨j,hj,rfl⟩:=List.mem_iff_getElem.1 hy
  rw [xe7 (show m≤xs.length by omega)] at hi
  rw [xe7 h3] at hj
  have:=h (a+i) (m+j) (by omega) (by omega) (by omega) (by omega)
  rw [←xn2 (b:=m) (by omega),←xn2 (b:=b) (by omega),List.getD_eq_getElem?_getD,List.getD_eq_getElem?_getD,List.getElem?_eq_getElem (by rw [xe7 (show m≤xs.length by omega)];omega),List.getElem?_eq_getElem (by rw [xe7 h3];omega)] at this
  exact this
def swpR (d:α) (a b n:Nat) (xs:List α):List α:=(List.range xs.length).map fun t=>if a≤t∧t < a+n then xs.getD (b+(t - a)) d else if b≤t∧t < b+n then xs.getD (a+(t - b)) d else xs.getD t d
theorem xf4 {a b n:Nat} {xs:List α}:(swpR d a b n xs).length=xs.length:=by simp [swpR]
theorem xf3 {a b n t:Nat} {xs:List α} (ht:t < xs.length):(swpR d a b n xs).getD t d=if a≤t∧t < a+n then xs.getD (b+(t - a)) d else if b≤t∧t < b+n then xs.getD (a+(t - b)) d else xs.getD t d:=by
 rw [swpR,List.getD_eq_getElem?_getD,List.getElem?_map,List.getElem?_range ht];rfl
theorem swp_zero {a b:Nat} {xs:List α}:swpR d a b 0 xs=xs:=xf0 (d:=d) xf4 fun i hi=>by
 rw [xf4] at hi
 rw [xf3 hi,if_neg (by omega),if_neg (by omega)]
theorem getD_set {xs:List α} {i j:Nat} {x:α} (hi:i < xs.length):(xs.set i x).getD j d=if j=i then x else xs.getD j d:=by
 rw [List.getD_eq_getElem?_getD,List.getElem?_set]
 by_cases h:i=j
 ·subst h;rw [if_pos rfl,if_pos hi,if_pos rfl];rfl
 ·rw [if_neg h,if_neg (Ne.symm h),List.getD_eq_getElem?_getD]
theorem swp_next {a b n:Nat} {xs:List α} (h1:a+n < b) (h2:b+n < xs.length):((swpR d a b n xs).set (a+n) (xs.getD (b+n) d)).set (b+n) (xs.getD (a+n) d)=swpR d a b (n+1) xs:=by
 refine xf0 (d:=d) (by simp [xf4]) fun i hi=> ?_
 simp only [List.length_set,xf4] at hi
 rw [getD_set (by simp [xf4];omega),getD_set (by simp [xf4];omega),xf3 hi,xf3 hi]
 by_cases e1:i=b+n
 ·subst e1
  rw [if_pos rfl,if_neg (by omega),if_pos (by omega)]
  congr 1;omega
 ·rw [if_neg e1]
  by_cases e2:i=a+n
  ·subst e2
   rw [if_pos rfl,if_pos (by omega)]
   congr 1;omega
  ·rw [if_neg e2]
   (repeat' split) <;> first | rfl | omega | (congr 1;omega)
theorem swp_same {a b n:Nat} {xs:List α} (h1:a+n < b) (h2:b+n < xs.length):(swpR d a b n xs).getD (a+n) d=xs.getD (a+n) d∧(swpR d a b n xs).getD (b+n) d=xs.getD (b+n) d:=by
 rw [xf3 (by omega),xf3 (by omega),if_neg (by omega),if_neg (by omega),if_neg (by omega),if_neg (by omega)];exact ⟨rfl,rfl⟩
theorem rot_left {m i j:Nat} {xs:List α} (h1:i≤m) (h2:j < i) (h3:m+j≤xs.length):rotR (m - (i - j)) m (m+j) (swpR d (m - i) m j xs)=rotR (m - i) m (m+j) xs:=by
 have hl:(swpR d (m - i) m j xs).length=xs.length:=xf4
 refine xf0 (d:=d) (by rw [xd2 (by omega) (by omega) (by omega),xd2 (by omega) (by omega) (by omega),hl]) fun t ht=> ?_
 rw [xd2 (by omega) (by omega) (by omega),hl] at ht
 rw [xd5 (by omega) (by omega) (by omega),xd5 (by omega) (by omega) (by omega)]
 by_cases c1:t < m - i
 ·rw [if_pos (by omega),if_pos c1,xf3 ht,if_neg (by omega),if_neg (by omega)]
 ·rw [if_neg c1]
  by_cases c2:t < m - i+(m+j - m)
  ·rw [if_pos (by omega),if_pos c2,xf3 ht,if_pos (by omega)]
  ·rw [if_neg c2]
   by_cases c3:t < m - (i - j)
   ·omega
   ·rw [if_neg c3]
    by_cases c4:t < m - (i - j)+(m+j - m)
    ·rw [if_pos c4,if_pos (by omega),xf3 (by omega),if_neg (by omega),if_pos (by omega)]
     congr 1;omega
    ·rw [if_neg c4]
     by_cases c5:t < m+j
     ·rw [if_pos c5,if_pos c5,xf3 (by omega),if_neg (by omega),if_neg (by omega)]
      congr 1;omega
     ·rw [if_neg c5,if_neg c5,xf3 ht,if_neg (by omega),if_neg (by omega)]
theorem rot_right {m i j:Nat} {xs:List α} (h1:i≤m) (h2:i < j) (h3:m+j≤xs.length):rotR (m - i) m (m+(j - i)) (swpR d (m - i) (m+j - i) i xs)=rotR (m - i) m (m+j) xs:=by
 have hl:(swpR d (m - i) (m+j - i) i xs).length=xs.length:=xf4
 refine xf0 (d:=d) (by rw [xd2 (by omega) (by omega) (by omega),xd2 (by omega) (by omega) (by omega),hl]) fun t ht=> ?_
 rw [xd2 (by omega) (by omega) (by omega),hl] at ht
 rw [xd5 (by omega) (by omega) (by omega),xd5 (by omega) (by omega) (by omega)]
 by_cases c1:t < m - i
 ·rw [if_pos c1,if_pos c1,xf3 ht,if_neg (by omega),if_neg (by omega)]
 ·rw [if_neg c1,if_neg c1]
  by_cases c2:t < m - i+(m+(j - i) - m)
  ·rw [if_pos c2,if_pos (by omega),xf3 (by omega),if_neg (by omega),if_neg (by omega)]
  ·rw [if_neg c2]
   by_cases c3:t < m+(j - i)
   ·rw [if_pos c3,if_pos (by omega),xf3 (by omega),if_pos (by omega)]
    congr 1;omega
   ·rw [if_neg c3]
    by_cases c4:t < m+j
    ·rw [xf3 ht,if_neg (by omega),if_pos (by omega),if_neg (by omega),if_pos c4]
     congr 1;omega
    ·rw [xf3 ht,if_neg (by omega),if_neg (by omega),if_neg (by omega),if_neg c4]
theorem rot_same {m i:Nat} {xs:List α} (h1:i≤m) (h3:m+i≤xs.length):swpR d (m - i) m i xs=rotR (m - i) m (m+i) xs:=by
 refine xf0 (d:=d) (by rw [xd2 (by omega) (by omega) (by omega),xf4]) fun t ht=> ?_
 rw [xf4] at ht
 rw [xd5 (by omega) (by omega) (by omega),xf3 ht]
 (repeat' split) <;> first | rfl | omega | (congr 1;omega)
def swp1 (d:α) (j:Nat) (xs:List α):List α:=(xs.set j (xs.getD (j+1) d)).set (j+1) (xs.getD j d)
theorem swp1_len {j:Nat} {xs:List α}:(swp1 d j xs).length=xs.length:=by simp [swp1]
theorem swp1_get {j t:Nat} {xs:List α} (h:j+1 < xs.length):(swp1 d j xs).getD t d=if t=j+1 then xs.getD j d else if t=j then xs.getD (j+1) d else xs.getD t d:=by
 rw [swp1,getD_set (by simp;omega),getD_set (by omega)]
theorem swp1_rot {j:Nat} {xs:List α} (h:j+1 < xs.length):swp1 d j xs=rotR j (j+1) (j+2) xs:=by
 refine xf0 (d:=d) (by rw [xd2 (by omega) (by omega) (by omega),swp1_len]) fun t ht=> ?_
 rw [swp1_get h,xd5 (by omega) (by omega) (by omega)]
 by_cases c1:t=j+1
 ·subst c1;rw [if_pos rfl,if_neg (by omega),if_neg (by omega),if_pos (by omega)];congr 1;omega
 ·rw [if_neg c1]
  by_cases c2:t=j
  ·subst c2;rw [if_pos rfl,if_neg (by omega),if_pos (by omega)];congr 1;omega
  ·rw [if_neg c2]
   by_cases c3:t < j
   ·rw [if_pos c3]
   ·rw [if_neg c3,if_neg (by omega),if_neg (by omega)]
theorem swp1_prt {a b j:Nat} {xs:List α} (h1:a≤j) (h2:j+1 < b) (h3:b≤xs.length) (h:k (xs.getD (j+1) d) < k (xs.getD j d)):Prt k d a b xs (swp1 d j xs):=by
 rw [swp1_rot (by omega)]
 refine (rot_prt (by omega) (by omega) (by omega) fun i i' g1 g2 g3 g4=> ?_).mono h1 (by omega)
 have e1:i=j:=by omega
 have e2:i'=j+1:=by omega
 subst e1 e2;omega
end
section
variable {α:Type} {k:α→Int} {d:α}
theorem prt_mem {a b i:Nat} {xs ys:List α} (hb:b≤xs.length) (h:Prt k d a b xs ys) (h1:a≤i) (h2:i < b): ∃j,a≤j∧j < b∧ys.getD i d=xs.getD j d:=by
 have h3:=(prt_sg (by omega) hb h).2.2
 have e:ys.getD i d∈sgm a b ys:=by
  have hl:i - a < (sgm a b ys).length:=by rw [xe7 (by rw [h.len];exact hb)];omega
  have:=xn2 (d:=d) (a:=a) (b:=b) (i:=i - a) (xs:=ys) (by omega)
  rw [show a+(i - a)=i by omega] at this
  rw [←this,List.getD_eq_getElem?_getD,List.getElem?_eq_getElem hl];exact List.getElem_mem hl
 obtain ⟨j,hj,hj2⟩:=List.mem_iff_getElem.1 (h3.mem.2 e)
 rw [xe7 hb] at hj
 refine ⟨a+j,by omega,by omega,?_⟩
 rw [←xn2 (b:=b) (by omega),List.getD_eq_getElem?_getD (l:=sgm a b xs),List.getElem?_eq_getElem (by rw [xe7 hb];omega)]
 exact hj2.symm
theorem SrtP.sub {a b a' b':Nat} {xs:List α} (h:SrtP k d a b xs) (h1:a≤a') (h2:b'≤b):SrtP k d a' b' xs:=fun i j g1 g2 g3=>h i j (by omega) g2 (by omega)
theorem SrtP.le {a b i j:Nat} {xs:List α} (h:SrtP k d a b xs) (h1:a≤i) (h2:i≤j) (h3:j < b):k (xs.getD i d)≤k (xs.getD j d):=by
 rcases Nat.lt_or_ge i j with h4 | h4
 ·exact h i j h1 h4 h3
 ·rw [show i=j by omega];exact Int.le_refl _
theorem SrtP.out {a b a' b':Nat} {xs ys:List α} (h:SrtP k d a b xs) (hp:Prt k d a' b' xs ys) (hd:b≤a'∨b'≤a):SrtP k d a b ys:=fun i j g1 g2 g3=>by
 rw [hp.out i (by omega),hp.out j (by omega)];exact h i j g1 g2 g3
def InsP (k:α→Int) (d:α) (a i j:Nat) (xs:List α):Prop:= ∀p q,a≤p→p < q→q≤i→q≠j→k (xs.getD p d)≤k (xs.getD q d)
theorem ins_begin {a i:Nat} {xs:List α} (h:SrtP k d a i xs):InsP k d a i i xs:=fun p q h1 h2 h3 h4=>h p q h1 h2 (by omega)
theorem ins_step {a i j:Nat} {xs:List α} (h:InsP k d a i (j+1) xs) (h1:a≤j) (h2:j+1≤i) (h3:i < xs.length) (hlt:k (xs.getD (j+1) d) < k (xs.getD j d)):InsP k d a i j (swp1 d j xs):=by
 intro p q g1 g2 g3 g4
 rw [swp1_get (by omega),swp1_get (by omega)]
 by_cases c1:q=j+1
 ·subst c1
  rw [if_pos rfl]
  by_cases c2:p=j
  ·subst c2;rw [if_neg (by omega),if_pos rfl];omega
  ·rw [if_neg (by omega),if_neg c2];exact h p j g1 (by omega) (by omega) (by omega)
 ·rw [if_neg c1,if_neg g4]
  by_cases c2:p=j+1
  ·subst c2;rw [if_pos rfl];exact h j q h1 (by omega) g3 c1
  ·rw [if_neg c2]
   by_cases c3:p=j
   ·subst c3
    rw [if_pos rfl]
    exact h (p+1) q (by omega) (by omega) g3 c1
   ·rw [if_neg c3];exact h p q g1 g2 g3 c1
theorem ins_end {a i j:Nat} {xs:List α} (h:InsP k d a i j xs) (hj:j≤i) (hs:a < j→k (xs.getD (j - 1) d)≤k (xs.getD j d)):SrtP k d a (i+1) xs:=by
 intro p q g1 g2 g3
 by_cases c:q=j
 ·subst c
  have h1:=hs (by omega)
  rcases Nat.lt_or_ge p (q - 1) with h2 | h2
  ·have:=h p (q - 1) g1 h2 (by omega) (by omega);omega
  ·rw [show p=q - 1 by omega];exact h1
 ·exact h p q g1 g2 (by omega) c
theorem rot_up {a t:Nat} {xs:List α} (h:a+1+t < xs.length):swp1 d (a+t) (rotR a (a+1) (a+1+t) xs)=rotR a (a+1) (a+2+t) xs:=by
 have hl:(rotR a (a+1) (a+1+t) xs).length=xs.length:=xd2 (by omega) (by omega) (by omega)
 refine xf0 (d:=d) (by rw [swp1_len,hl,xd2 (by omega) (by omega) (by omega)]) fun i hi=> ?_
 rw [swp1_len,hl] at hi
 rw [swp1_get (by omega),xd5 (by omega) (by omega) (by omega),xd5 (by omega) (by omega) (by omega),xd5 (by omega) (by omega) (by omega),xd5 (by omega) (by omega) (by omega)]
 (repeat' split) <;> first | rfl | omega | (congr 1;omega)
theorem rot_down {j m:Nat} {xs:List α} (h1:j < m) (h2:m < xs.length):swp1 d j (rotR (j+1) m (m+1) xs)=rotR j m (m+1) xs:=by
 have hl:(rotR (j+1) m (m+1) xs).length=xs.length:=xd2 (by omega) (by omega) (by omega)
 refine xf0 (d:=d) (by rw [swp1_len,hl,xd2 (by omega) (by omega) (by omega)]) fun i hi=> ?_
 rw [swp1_len,hl] at hi
 rw [swp1_get (by omega),xd5 (by omega) (by omega) (by omega),xd5 (by omega) (by omega) (by omega),xd5 (by omega) (by omega) (by omega),xd5 (by omega) (by omega) (by omega)]
 (repeat' split) <;> first | rfl | omega | (congr 1;omega)
theorem rot_none1 (d:α) {a b:Nat} {xs:List α} (h1:a≤b) (h2:b≤xs.length):rotR a a b xs=xs:=xf0 (d:=d) (xd2 (by omega) h1 h2) fun i hi=>by
 rw [xd5 (by omega) h1 h2]
 (repeat' split) <;> first | rfl | omega | (congr 1;omega)
theorem rot_none2 (d:α) {a b:Nat} {xs:List α} (h1:a≤b) (h2:b≤xs.length):rotR a b b xs=xs:=xf0 (d:=d) (xd2 h1 (by omega) h2) fun i hi=>by
 rw [xd5 h1 (by omega) h2]
 (repeat' split) <;> first | rfl | omega | (congr 1;omega)
theorem merge_first {a b i:Nat} {xs:List α} (hs:SrtP k d (a+1) b xs) (hb:b≤xs.length) (h1:a+1≤i) (h2:i≤b) (h3: ∀t,a+1≤t→t < i→k (xs.getD t d) < k (xs.getD a d)) (h4: ∀t,i≤t→t < b→k (xs.getD a d)≤k (xs.getD t d)):rotR a (a+1) i xs=srtR k a b xs:=by
 refine srtR_of (d:=d) (by omega) hb ((rot_prt (by omega) h1 (by omega) fun p q g1 g2 g3 g4=> ?_).mono (Nat.le_refl _) h2) fun p q g1 g2 g3=> ?_
 ·have e:p=a:=by omega
  subst e;have:=h3 q g3 g4;omega
 ·rw [xd5 (by omega) h1 (by omega),xd5 (by omega) h1 (by omega)]
  rw [if_neg (by omega),if_neg (show ¬q < a by omega)]
  by_cases c1:p < a+(i - (a+1))
  ·rw [if_pos c1]
   by_cases c2:q < a+(i - (a+1))
   ·rw [if_pos c2];exact hs _ _ (by omega) (by omega) (by omega)
   ·rw [if_neg c2]
    have:=h3 (a+1+(p - a)) (by omega) (by omega)
    by_cases c3:q < i
    ·rw [if_pos c3,show a+(q - (a+(i - (a+1))))=a by omega];omega
    ·rw [if_neg c3];have:=h4 q (by omega) g3;omega
  ·rw [if_neg c1]
   rw [if_neg (show ¬q < a+(i - (a+1)) by omega),if_neg (show ¬q < i by omega)]
   by_cases c3:p < i
   ·rw [if_pos c3,show a+(p - (a+(i - (a+1))))=a by omega];exact h4 q (by omega) g3
   ·rw [if_neg c3];exact hs p q (by omega) g2 g3
theorem merge_last {a m i:Nat} {xs:List α} (hs:SrtP k d a m xs) (hb:m < xs.length) (h1:a≤i) (h2:i≤m) (h3: ∀t,a≤t→t < i→k (xs.getD t d)≤k (xs.getD m d)) (h4: ∀t,i≤t→t < m→k (xs.getD m d) < k (xs.getD t d)):rotR i m (m+1) xs=srtR k a (m+1) xs:=by
 refine srtR_of (d:=d) (by omega) hb ((rot_prt h2 (by omega) (by omega) fun p q g1 g2 g3 g4=> ?_).mono h1 (Nat.le_refl _)) fun p q g1 g2 g3=> ?_
 ·have e:q=m:=by omega
  subst e;have:=h4 p g1 g2;omega
 ·rw [xd5 h2 (by omega) (by omega),xd5 h2 (by omega) (by omega)]
  by_cases c1:p < i
  ·rw [if_pos c1]
   by_cases c2:q < i
   ·rw [if_pos c2];exact hs p q g1 g2 (by omega)
   ·rw [if_neg c2]
    by_cases c3:q < i+(m+1 - m)
    ·rw [if_pos c3,show m+(q - i)=m by omega];exact h3 p g1 c1
    ·rw [if_neg c3,if_pos (by omega)];exact hs p _ g1 (by omega) (by omega)
  ·rw [if_neg c1,if_neg (show ¬q < i by omega),if_neg (show ¬q < i+(m+1 - m) by omega),if_pos (show q < m+1 by omega)]
   by_cases c3:p < i+(m+1 - m)
   ·rw [if_pos c3,show m+(p - i)=m by omega];have:=h4 (i+(q - (i+(m+1 - m)))) (by omega) (by omega);omega
   ·rw [if_neg c3,if_pos (by omega)];exact hs _ _ (by omega) (by omega) (by omega)
structure CutP (k:α→Int) (d:α) (a m b s e mid:Nat) (xs:List α):Prop where
  la:a≤s
  sm:s≤m
  me:m≤e
  eb:e≤b
  hm:s+(e - m)=mid
  c1: ∀x y,a≤x→x < s→e≤y→y < b→k (xs.getD x d)≤k (xs.getD y d)
  c2: ∀x y,s≤x→x < m→m≤y→y < e→k (xs.getD y d) < k (xs.getD x d)
section
variable {a m b s e mid:Nat} {xs:List α}
theorem CutP.prt (h:CutP k d a m b s e mid xs) (hb:b≤xs.length):Prt k d a b xs (rotR s m e xs):=
 (rot_prt h.sm h.me (by have:=h.eb;omega) fun p q g1 g2 g3 g4=>by have:=h.c2 p q g1 g2 g3 g4;omega).mono h.la h.eb
theorem CutP.get (h:CutP k d a m b s e mid xs) (hb:b≤xs.length) (i:Nat):(rotR s m e xs).getD i d=if i < s then xs.getD i d else if i < mid then xs.getD (m+(i - s)) d else if i < e then xs.getD (s+(i - mid)) d else xs.getD i d:=by
 have h1:=h.sm;have h2:=h.me;have h3:=h.eb;have h4:=h.hm
 rw [xd5 h1 h2 (by omega),h4]
theorem CutP.left1 (h:CutP k d a m b s e mid xs) (hb:b≤xs.length) (hs:SrtP k d a m xs):SrtP k d a s (rotR s m e xs):=fun i j g1 g2 g3=>by
 have h1:=h.sm
 rw [h.get hb,h.get hb,if_pos (by omega),if_pos g3];exact hs i j g1 g2 (by omega)
theorem CutP.left2 (h:CutP k d a m b s e mid xs) (hb:b≤xs.length) (hs:SrtP k d m b xs):SrtP k d s mid (rotR s m e xs):=fun i j g1 g2 g3=>by
 have h1:=h.sm;have h2:=h.me;have h3:=h.eb;have h4:=h.hm
 rw [h.get hb,h.get hb,if_neg (by omega),if_pos (by omega),if_neg (by omega),if_pos g3];exact hs _ _ (by omega) (by omega) (by omega)
theorem CutP.right1 (h:CutP k d a m b s e mid xs) (hb:b≤xs.length) (hs:SrtP k d a m xs):SrtP k d mid e (rotR s m e xs):=fun i j g1 g2 g3=>by
 have h0:=h.la;have h1:=h.sm;have h2:=h.me;have h3:=h.eb;have h4:=h.hm
 rw [h.get hb,h.get hb,if_neg (by omega),if_neg (by omega),if_pos (by omega),if_neg (by omega),if_neg (by omega),if_pos g3];exact hs _ _ (by omega) (by omega) (by omega)
theorem CutP.right2 (h:CutP k d a m b s e mid xs) (hb:b≤xs.length) (hs:SrtP k d m b xs):SrtP k d e b (rotR s m e xs):=fun i j g1 g2 g3=>by
 have h1:=h.sm;have h2:=h.me;have h3:=h.eb;have h4:=h.hm
 rw [h.get hb,h.get hb,if_neg (by omega),if_neg (by omega),if_neg (by omega),if_neg (by omega),if_neg (by omega),if_neg (by omega)];exact hs _ _ (by omega) (by omega) (by omega)
theorem CutP.cross (h:CutP k d a m b s e mid xs) (hb:b≤xs.length) (hs1:SrtP k d a m xs) (hs2:SrtP k d m b xs) {i j:Nat} (g1:a≤i) (g2:i < mid) (g3:mid≤j) (g4:j < b):k ((rotR s m e xs).getD i d)≤k ((rotR s m e xs).getD j d):=by
 have h0:=h.la;have h1:=h.sm;have h2:=h.me;have h3:=h.eb;have h4:=h.hm
 rw [h.get hb,h.get hb,if_neg (show ¬j < s by omega),if_neg (show ¬j < mid by omega)]
 by_cases c1:i < s
 ·rw [if_pos c1]
  by_cases c2:j < e
  ·rw [if_pos c2];exact hs1.le g1 (by omega) (by omega)
  ·rw [if_neg c2];exact h.c1 i j g1 c1 (by omega) g4
 ·rw [if_neg c1,if_pos g2]
  by_cases c2:j < e
  ·rw [if_pos c2];have:=h.c2 (s+(j - mid)) (m+(i - s)) (by omega) (by omega) (by omega) (by omega);omega
  ·rw [if_neg c2];exact hs2.le (by omega) (by omega) g4
theorem CutP.fin (h:CutP k d a m b s e mid xs) (hb:b≤xs.length) (hs1:SrtP k d a m xs) (hs2:SrtP k d m b xs):srtR k mid b (srtR k a mid (rotR s m e xs))=srtR k a b xs:=by
 have h0:=h.la;have h1:=h.sm;have h2:=h.me;have h3:=h.eb;have h4:=h.hm
 have p1:=h.prt hb
 have hb1:b≤(rotR s m e xs).length:=by rw [p1.len];exact hb
 have p2:Prt k d a mid (rotR s m e xs) (srtR k a mid (rotR s m e xs)):=xj9 (by omega) (by omega)
 have hb2:b≤(srtR k a mid (rotR s m e xs)).length:=by rw [p2.len];exact hb1
 have p3:Prt k d mid b (srtR k a mid (rotR s m e xs)) (srtR k mid b (srtR k a mid (rotR s m e xs))):=xj9 (by omega) hb2
 refine srtR_of (d:=d) (by omega) hb ((p1.trans (p2.mono (Nat.le_refl _) (by omega))).trans (p3.mono (by omega) (Nat.le_refl _))) fun i j g1 g2 g3=> ?_
 rcases Nat.lt_or_ge j mid with c | c
 ·rw [p3.out i (by omega),p3.out j (by omega)]
  exact xo6 (by omega) (by omega) i j g1 g2 c
 ·rcases Nat.lt_or_ge i mid with c2 | c2
  ·rw [p3.out i (by omega)]
   obtain ⟨i',q1,q2,q3⟩:=prt_mem (by omega) p2 g1 c2
   obtain ⟨j',r1,r2,r3⟩:=prt_mem hb2 p3 c g3
   rw [q3,r3,p2.out j' (by omega)]
   exact h.cross hb hs1 hs2 q1 q2 r1 r2
  ·exact xo6 (by omega) hb2 i j c2 g2 g3
theorem srtR_idP {a b:Nat} {xs:List α} (hab:a≤b) (hb:b≤xs.length) (h:SrtP k d a b xs):srtR k a b xs=xs:=(srtR_of hab hb (Prt.refl ..) h).symm
theorem CutP.leftId (h:CutP k d a m b s e mid xs) (hb:b≤xs.length) (hs1:SrtP k d a m xs) (hs2:SrtP k d m b xs) (hc: ¬(a < s∧s < mid)):srtR k a mid (rotR s m e xs)=rotR s m e xs:=by
 have h0:=h.la;have h1:=h.sm;have h2:=h.me;have h3:=h.eb;have h4:=h.hm
 have p1:=h.prt hb
 refine srtR_idP (d:=d) (by omega) (by rw [p1.len];omega) ?_
 by_cases c:a < s
 ·have e1:mid=s:=by omega
  rw [e1];exact h.left1 hb hs1
 ·have e1:a=s:=by omega
  rw [e1];exact h.left2 hb hs2
theorem CutP.rightId (h:CutP k d a m b s e mid xs) (hb:b≤xs.length) (hs1:SrtP k d a m xs) (hs2:SrtP k d m b xs) (hc: ¬(mid < e∧e < b)):srtR k mid b (srtR k a mid (rotR s m e xs))=srtR k a mid (rotR s m e xs):=by
 have h0:=h.la;have h1:=h.sm;have h2:=h.me;have h3:=h.eb;have h4:=h.hm
 have p1:=h.prt hb
 have p2:Prt k d a mid (rotR s m e xs) (srtR k a mid (rotR s m e xs)):=xj9 (by omega) (by rw [p1.len];omega)
 refine srtR_idP (d:=d) (by omega) (by rw [p2.len,p1.len];omega) (SrtP.out ?_ p2 (.inr (Nat.le_refl _)))
 by_cases c:mid < e
 ·have e1:b=e:=by omega
  rw [e1];exact h.right1 hb hs1
 ·have e1:mid=e:=by omega
  rw [e1];exact h.right2 hb hs2
end
end
section
variable {α:Type} {k:α→Int} {d:α} {xs ys:List α} {B n c c':Nat}
theorem cut_of {a b m mid s s0 r0:Nat} (h1:a < m) (h2:m < b) (hm:mid=(a+b) / 2) (hs1:SrtP k d a m xs) (hs2:SrtP k d m b xs) (hc:(mid < m∧s0=mid+m - b∧r0=mid)∨(m≤mid∧s0=a∧r0=m)) (h3:s0≤s) (h4:s≤r0)
  (hl: ∀c,s0≤c→c < s→k (xs.getD c d)≤k (xs.getD (mid+m - 1 - c) d)) (hr: ∀c,s≤c→c < r0→k (xs.getD (mid+m - 1 - c) d) < k (xs.getD c d)):CutP k d a m b s (mid+m - s) mid xs:=by
 refine ⟨by omega,by omega,by omega,by omega,by omega,fun x y g1 g2 g3 g4=> ?_,fun x y g1 g2 g3 g4=> ?_⟩
 ·have e:s0 < s:=by omega
  have q:=hl (s - 1) (by omega) (by omega)
  rw [show mid+m - 1 - (s - 1)=mid+m - s by omega] at q
  have q1:=hs1.le (i:=x) (j:=s - 1) (by omega) (by omega) (by omega)
  have q2:=hs2.le (i:=mid+m - s) (j:=y) (by omega) (by omega) (by omega)
  omega
 ·have e:s < r0:=by omega
  have q:=hr s (by omega) e
  have q1:=hs1.le (i:=s) (j:=x) (by omega) (by omega) (by omega)
  have q2:=hs2.le (i:=y) (j:=mid+m - 1 - s) (by omega) (by omega) (by omega)
  omega
def BlkP (k:α→Int) (d:α) (B n:Nat) (xs:List α):Prop:= ∀t,SrtP k d (t*B) (min (t*B+B) n) xs
def BlkA (k:α→Int) (d:α) (B u:Nat) (xs:List α):Prop:= ∀t,t < u→SrtP k d (t*B) (t*B+B) xs
theorem mul_lt1 {t u B:Nat} (h:t < u):t*B+B≤u*B:=by
 have:=Nat.mul_le_mul_right B (show t+1≤u from h)
 rw [Nat.succ_mul] at this;exact this
theorem blkA_zero:BlkA k d B 0 xs:=fun t h=>absurd h (Nat.not_lt_zero t)
theorem blkA_next {u:Nat} (h:BlkA k d B u xs) (hp:Prt k d (u*B) (u*B+B) xs ys) (hs:SrtP k d (u*B) (u*B+B) ys):BlkA k d B (u+1) ys:=fun t ht=>by
 rcases Nat.lt_or_ge t u with h1 | h1
 ·exact (h t h1).out hp (.inl (mul_lt1 h1))
 ·have e:t=u:=by omega
  subst e;exact hs
theorem blkP_of {u:Nat} (h:BlkA k d B u xs) (h1:n < u*B+B) (hp:Prt k d (u*B) n xs ys) (hs:SrtP k d (u*B) n ys):BlkP k d B n ys:=fun t=>by
 rcases Nat.lt_trichotomy t u with h2 | h2 | h2
 ·exact ((h t h2).out hp (.inl (mul_lt1 h2))).sub (Nat.le_refl _) (Nat.min_le_left _ _)
 ·subst h2
  rw [Nat.min_eq_right (by omega)];exact hs
 ·intro i j g1 g2 g3
  have:=mul_lt1 (B:=B) h2
  omega
theorem two_mul_B {u B:Nat}:(2*u)*B=u*(2*B)∧(2*u+1)*B=u*(2*B)+B:=by
 have e:(2*u)*B=u*(2*B):=by rw [Nat.mul_comm 2 u,Nat.mul_assoc]
 exact ⟨e,by rw [Nat.succ_mul,e]⟩
def BlkR (k:α→Int) (d:α) (B n c:Nat) (xs:List α):Prop:= ∀t,c≤t*B→SrtP k d (t*B) (min (t*B+B) n) xs
theorem BlkR.at (h:BlkR k d B n c xs) {u:Nat} (hc:c≤u*(2*B)) (hn:u*(2*B)+B≤n):SrtP k d (u*(2*B)) (u*(2*B)+B) xs∧SrtP k d (u*(2*B)+B) (min (u*(2*B)+2*B) n) xs:=by
 obtain ⟨e1,e2⟩:=two_mul_B (u:=u) (B:=B)
 have h1:=h (2*u) (by rw [e1];exact hc)
 have h2:=h (2*u+1) (by rw [e2];omega)
 rw [e1,Nat.min_eq_left hn] at h1
 rw [e2,show u*(2*B)+B+B=u*(2*B)+2*B by omega] at h2
 exact ⟨h1,h2⟩
theorem BlkR.one (h:BlkR k d B n c xs) {u:Nat} (hc:c≤u*(2*B)) (hn:n≤u*(2*B)+B):SrtP k d (u*(2*B)) n xs:=by
 have h1:=h (2*u) (by rw [two_mul_B.1];exact hc)
 rw [two_mul_B.1,Nat.min_eq_right hn] at h1;exact h1
theorem BlkR.next (h:BlkR k d B n c xs) {a b:Nat} (hp:Prt k d a b xs ys) (hb:b≤c') (hc:c≤c'):BlkR k d B n c' ys:=fun t ht=>(h t (by omega)).out hp (.inr (by omega))
theorem blkP_R (h:BlkP k d B n xs):BlkR k d B n 0 xs:=fun t _=>h t
theorem blkP_all (h:BlkP k d B n xs) (hn:n≤B):SrtP k d 0 n xs:=by
 have:=h 0
 rw [Nat.zero_mul,Nat.min_eq_right (by omega)] at this;exact this
theorem blkP_end {u:Nat} (h:BlkA k d (2*B) u xs) (h1:n < u*(2*B)+2*B) (hs:SrtP k d (u*(2*B)) n xs):BlkP k d (2*B) n xs:=blkP_of h h1 (Prt.refl ..) hs
end
end An
namespace An
open Go
structure Fa where
  key:ByteArray
  lo:Int
  hi:Int
  kn:Int
  gone:Bool
  v:Va
deriving DecidableEq
def fa0:Fa:=⟨⟨#[]⟩,0,0,0,false,va0⟩
abbrev tFa (f:Fa):Ty:=tS [⟨1,false,tE (.string f.key)⟩,⟨1,false,tI f.lo⟩,⟨1,false,tI f.hi⟩,⟨1,false,tI f.kn⟩,⟨1,false,tB f.gone⟩,⟨6,true,tVa f.v⟩]
def cmpK (x y:Int):Int:=if x < y then -1 else if y < x then 1 else 0
theorem xm0 {x y:Int}:cmpK x y < 0↔x < y:=by
 rw [cmpK];split
 ·next h=>exact ⟨fun _=>h,fun _=>by decide⟩
 ·next h=>split <;> exact ⟨fun h2=>absurd h2 (by decide),fun h2=>absurd h2 h⟩
def toldT (l:List Fa) (key:ByteArray) (known:Int):List Fa:=ssort Fa.kn (l.filter fun f=>decide (f.key=key) && decide (f.kn≤known))
end An
namespace An.S
open Go Go.Proofs An
instance ti30:TyI Tryz.prog 30 11 true:=⟨by kernel_rfl,by kernel_rfl⟩
instance sl36:SlI Tryz.prog 36 30 11 true:=⟨Tryz.underlying36,ti30⟩
instance fo30_3:FoI Tryz.prog 30 3 3:=⟨by kernel_rfl⟩
instance fi57:FnI Tryz.prog 57:=⟨_,Tryz.func57,by kernel_rfl,rfl⟩
instance fi58:FnI Tryz.prog 58:=⟨_,Tryz.func58,by kernel_rfl,rfl⟩
instance fi86:FnI Tryz.prog 86:=⟨_,Tryz.func86,by kernel_rfl,rfl⟩
instance fi150:FnI Tryz.prog 150:=⟨_,Tryz.func150,by kernel_rfl,rfl⟩
theorem c_isNaN (x:Int):
  Ct Tryz.prog 86 [tI x] (tB false):=by
 refine Ct.intro Tryz.func86 rfl Tryz.ntmps86 rfl ?_
 intro w F
 refine A14 ?_
 exact x3 Plain.mk' rfl rfl (Le.bool (by simp))
theorem c_Compare (x y:Int):
  Ct Tryz.prog 58 [tI x,tI y] (tI (cmpK x y)):=by
 refine Ct.intro Tryz.func58 rfl Tryz.ntmps58 rfl ?_
 intro w F
 refine A8 ?_
 refine R1 (x4 (c_isNaN x) fi86 rfl) rfl ?_
 refine A6 ?_
 refine R1 (x4 (c_isNaN y) fi86 rfl) rfl ?_
 refine A18 ?_
 refine A11 ?_
 refine x7 rfl (fun h52=> ?_) (fun h52=> ?_)
 ·
  refine A7 ?_
  exact x3 Plain.mk' rfl rfl (Le.int (by rw [cmpK,if_pos (by omega)]))
 ·
  refine A10 ?_
  refine x7 rfl (fun h55=> ?_) (fun h55=> ?_)
  ·
   refine A7 ?_
   exact x3 Plain.mk' rfl rfl (Le.int (by rw [cmpK,if_neg (by omega),if_pos (by omega)]))
  ·
   refine A8 ?_
   exact x3 Plain.mk' rfl rfl (Le.int (by rw [cmpK,if_neg (by omega),if_neg (by omega)]))
theorem c_told11 (x y:Fa):
  Ct Tryz.prog 57 [tFa x,tFa y] (tI (cmpK x.kn y.kn)):=by
 refine Ct.intro Tryz.func57 rfl Tryz.ntmps57 rfl ?_
 intro w F
 refine A13 ?_
 refine R2 (x4 (c_Compare x.kn y.kn) fi58 rfl) rfl rfl ?_
 refine A4 ?_
 exact x3 Plain.mk' rfl rfl Le.refl
theorem c_swapRF (xs:List Fa) {L:Nat} (eL:xs.length=L) (a b n:Nat) {x y u:Int} (ex:x=(a:Int)) (ey:y=(b:Int)) (eu:u=(n:Int)) (h1:a+n≤b) (h2:b+n≤xs.length) (hx:xs.length≤1000000):
  CtG Tryz.prog 150 [(20,⟨30,11,true,rV tFa xs⟩)] [.own (.sl 20 11 0 L),.val (tI x),.val (tI y),.val (tI u),.val (tE (.func (.func 57) #[] #[]))] (.val (tT [])) [(20,⟨30,11,true,rV tFa (swpR fa0 a b n xs)⟩)] []:=by
 subst ex ey eu eL
 refine CtG.intro [20] Tryz.func150 rfl Tryz.ntmps150 rfl rfl ⟨⟨rfl,xa0⟩,trivial⟩ ?_
 intro w F η
 refine A6 ?_
 refine cL (fun (i:Nat)=>i≤n) (fun (i:Nat)=>upd (upd (upd (upd (upd (fun _=>none) 0 (some (.own (.sl 20 11 0 xs.length)))) 1 (some (.val (tI a)))) 2 (some (.val (tI b)))) 3 (some (.val (tI n)))) 10 (some (.val (tI i)))) (fun (i:Nat)=>upd (fun _=>none) 20 (some (⟨30,11,true,rV tFa (swpR fa0 a b i xs)⟩))) [20] (fun (i:Nat)=>n - i) (0) (Nat.zero_le _) (hh:=((SubK.consI rfl (ImpK.of (by rw [swp_zero]))) SubK.nil)) ?_
 intro i hI
 refine A8 ?_
 refine x7 rfl (fun h330=> ?_) (fun h330=> ?_)
 ·
  refine A17 ?_
  refine R2 (xa3 sl36 (by omega) (by omega) rfl) rfl rfl (RE (xb3 (b+i) ti30 (xc4 (f:=tFa) (xs:=(swpR fa0 a b i xs)) (d:=fa0) (by rw [xf4];omega)) (by omega)) ⟨rfl,trivial⟩ ⟨rfl,trivial⟩ trivial ?_)
  refine A4 ?_
  refine R2 (xa3 sl36 (by omega) (by omega) rfl) rfl rfl (RE (xb3 (a+i) ti30 (xc4 (f:=tFa) (xs:=(swpR fa0 a b i xs)) (d:=fa0) (by rw [xf4];omega)) (by omega)) ⟨rfl,trivial⟩ ⟨rfl,trivial⟩ trivial (R2 (xa3 sl36 (by omega) (by omega) rfl) rfl rfl (RE (xb8 (a+i) ti30 (rV_lt (by rw [xf4];omega)) (by omega) (xi6 (m:=((swpR fa0 a b i xs).getD (b+i) fa0)) rfl)) ⟨rfl,rfl,trivial⟩ ⟨rfl,trivial⟩ trivial (R2 (xa3 sl36 (by omega) (by omega) rfl) rfl rfl (RE (xb8 (b+i) ti30 (rV_lt (by rw [List.length_set,xf4];omega)) (by omega) (xi6 (m:=((swpR fa0 a b i xs).getD (a+i) fa0)) rfl)) ⟨rfl,rfl,trivial⟩ ⟨rfl,trivial⟩ trivial ?_)))))
  refine A8 ?_
  exact kF (i+1) ⟨(by omega),(by omega)⟩ (hh:=((SubK.consI rfl (ImpK.of (by rw [(swp_same (d:=fa0) (a:=a) (b:=b) (n:=i) (xs:=xs) (by omega) (by omega)).1,(swp_same (d:=fa0) (a:=a) (b:=b) (n:=i) (xs:=xs) (by omega) (by omega)).2,swp_next (by omega) (by omega)]))) SubK.nil))
 ·
  refine A4 ?_
  exact xj3 LentC.mk' rfl (.inr rfl) ⟨(congrArg some (show (⟨30,11,true,rV tFa (swpR fa0 a b i xs)⟩:HEnt)=⟨30,11,true,rV tFa (swpR fa0 a b n xs)⟩ by rw [show i=n by omega])),trivial⟩ ⟨⟨rfl,xa0⟩,trivial⟩ rfl
theorem c_rotateF (xs:List Fa) {L:Nat} (eL:xs.length=L) (a m b:Nat) {x y u:Int} (ex:x=(a:Int)) (ey:y=(m:Int)) (eu:u=(b:Int)) (h1:a < m) (h2:m < b) (h3:b≤xs.length) (hx:xs.length≤1000000):
  CtG Tryz.prog 132 [(20,⟨30,11,true,rV tFa xs⟩)] [.own (.sl 20 11 0 L),.val (tI x),.val (tI y),.val (tI u),.val (tE (.func (.func 57) #[] #[]))] (.val (tT [])) [(20,⟨30,11,true,rV tFa (rotR a m b xs)⟩)] []:=by
 subst ex ey eu eL
 refine CtG.intro [20] Tryz.func132 rfl Tryz.ntmps132 rfl rfl ⟨⟨rfl,xa0⟩,trivial⟩ ?_
 intro w F η
 refine A18 ?_
 refine cL (fun (fm:(List Fa)×(Nat)×(Nat))=>(fun (ys:List Fa) (i:Nat) (j:Nat)=>ys.length=xs.length∧0 < i∧0 < j∧i≤m∧m+j≤b∧rotR (m - i) m (m+j) ys=rotR a m b xs) fm.1 fm.2.1 fm.2.2) (fun (fm:(List Fa)×(Nat)×(Nat))=>(fun (ys:List Fa) (i:Nat) (j:Nat)=>upd (upd (upd (upd (upd (fun _=>none) 0 (some (.own (.sl 20 11 0 xs.length)))) 2 (some (.val (tI m)))) 4 (some (.val (tE (.func (.func 57) #[] #[]))))) 10 (some (.val (tI i)))) 11 (some (.val (tI j)))) fm.1 fm.2.1 fm.2.2) (fun (fm:(List Fa)×(Nat)×(Nat))=>(fun (ys:List Fa) (i:Nat) (j:Nat)=>upd (fun _=>none) 20 (some (⟨30,11,true,rV tFa ys⟩))) fm.1 fm.2.1 fm.2.2) [20] (fun (fm:(List Fa)×(Nat)×(Nat))=>(fun (ys:List Fa) (i:Nat) (j:Nat)=>i+j) fm.1 fm.2.1 fm.2.2) ((xs,m - a,b - m)) (by dsimp only;exact ⟨rfl,by omega,by omega,by omega,by omega,by rw [show m - (m - a)=a by omega,show m+(b - m)=b by omega]⟩) (hg:=((Sub.consI rfl (Imp.int (by dsimp only;omega))) ((Sub.consI rfl (Imp.int (by dsimp only;omega))) (sC (sI (sC Sub.nil)))))) (hh:=((SubK.consI rfl ImpK.refl) SubK.nil)) ?_
 intro fm hI
 obtain ⟨ys,i,j⟩:=fm
 replace hI:ys.length=xs.length∧0 < i∧0 < j∧i≤m∧m+j≤b∧rotR (m - i) m (m+j) ys=rotR a m b xs:=hI
 show wc _ _ _ _ (upd (upd (upd (upd (upd (fun _=>none) 0 (some (.own (.sl 20 11 0 xs.length)))) 2 (some (.val (tI m)))) 4 (some (.val (tE (.func (.func 57) #[] #[]))))) 10 (some (.val (tI i)))) 11 (some (.val (tI j)))) (upd (fun _=>none) 20 (some (⟨30,11,true,rV tFa ys⟩))) _
 obtain ⟨hl,hi,hj,him,hjb,hr⟩:=hI
 refine A8 ?_
 refine x7 rfl (fun h468=> ?_) (fun h468=> ?_)
 ·
  refine A10 ?_
  refine x7 rfl (fun h469=> ?_) (fun h469=> ?_)
  ·
   refine A9 ?_
   refine RE (xa9 (fun _=>20) (c_swapRF ys hl (m - i) m j (by omega) rfl rfl (by omega) (by omega) (by omega)) fi150 rfl (krC (ρ:=fun _=>20) (k:=20) xa5 (krN (ρ:=fun _=>20))) (krC (ρ:=fun _=>20) (k:=20) xa5 (krN (ρ:=fun _=>20))) ⟨⟨rfl,xa0⟩,trivial⟩ rfl) ⟨rfl,rfl,rfl,rfl,rfl,trivial⟩ ⟨rfl,trivial⟩ trivial ?_
   refine A9 ?_
   exact kF ((swpR fa0 (m - i) m j ys,i - j,j)) ⟨(by dsimp only;exact ⟨by rw [xf4,hl],by omega,hj,by omega,hjb,by rw [rot_left him (by omega) (by omega),hr]⟩),(by dsimp only;omega)⟩ (hg:=(sI ((Sub.consI rfl (Imp.int (by dsimp only;omega))) (sC (sI (sC Sub.nil)))))) (hh:=((SubK.consI rfl ImpK.refl) SubK.nil))
  ·
   refine A13 ?_
   refine RE (xa9 (fun _=>20) (c_swapRF ys hl (m - i) (m+j - i) i (by omega) (by omega) rfl (by omega) (by omega) (by omega)) fi150 rfl (krC (ρ:=fun _=>20) (k:=20) xa5 (krN (ρ:=fun _=>20))) (krC (ρ:=fun _=>20) (k:=20) xa5 (krN (ρ:=fun _=>20))) ⟨⟨rfl,xa0⟩,trivial⟩ rfl) ⟨rfl,rfl,rfl,rfl,rfl,trivial⟩ ⟨rfl,trivial⟩ trivial ?_
   refine A9 ?_
   exact kF ((swpR fa0 (m - i) (m+j - i) i ys,i,j - i)) ⟨(by dsimp only;exact ⟨by rw [xf4,hl],hi,by omega,him,by omega,by rw [rot_right him (by omega) (by omega),hr]⟩),(by dsimp only;omega)⟩ (hg:=((Sub.consI rfl (Imp.int (by dsimp only;omega))) (sI (sC (sI (sC Sub.nil)))))) (hh:=((SubK.consI rfl ImpK.refl) SubK.nil))
 ·
  refine A13 ?_
  refine RE (xa9 (fun _=>20) (c_swapRF ys hl (m - i) m i (by omega) rfl rfl (by omega) (by omega) (by omega)) fi150 rfl (krC (ρ:=fun _=>20) (k:=20) xa5 (krN (ρ:=fun _=>20))) (krC (ρ:=fun _=>20) (k:=20) xa5 (krN (ρ:=fun _=>20))) ⟨⟨rfl,xa0⟩,trivial⟩ rfl) ⟨rfl,rfl,rfl,rfl,rfl,trivial⟩ ⟨rfl,trivial⟩ trivial ?_
  refine A1 ?_
  exact xj3 LentC.mk' rfl (.inr rfl) ⟨(congrArg some (show (⟨30,11,true,rV tFa (swpR fa0 (m - i) m i ys)⟩:HEnt)=⟨30,11,true,rV tFa (rotR a m b xs)⟩ by rw [←hr,show j=i by omega,rot_same him (by omega)])),trivial⟩ ⟨⟨rfl,xa0⟩,trivial⟩ rfl
theorem c_insSortF (xs:List Fa) {L:Nat} (eL:xs.length=L) (a b:Nat) {x y:Int} (ex:x=(a:Int)) (ey:y=(b:Int)) (h1:a≤b) (h2:b≤xs.length) (hx:xs.length≤1000000):
  CtG Tryz.prog 104 [(20,⟨30,11,true,rV tFa xs⟩)] [.own (.sl 20 11 0 L),.val (tI x),.val (tI y),.val (tE (.func (.func 57) #[] #[]))] (.val (tT [])) [(20,⟨30,11,true,rV tFa (srtR Fa.kn a b xs)⟩)] []:=by
 subst ex ey eL
 refine CtG.intro [20] Tryz.func104 rfl Tryz.ntmps104 rfl rfl ⟨⟨rfl,xa0⟩,trivial⟩ ?_
 intro w F η
 refine A8 ?_
 refine cL (fun (fm:(List Fa)×(Nat))=>(fun (ys:List Fa) (i:Nat)=>ys.length=xs.length∧a < i∧(i≤b∨i=a+1)∧Prt Fa.kn fa0 a b xs ys∧SrtP Fa.kn fa0 a i ys) fm.1 fm.2) (fun (fm:(List Fa)×(Nat))=>(fun (ys:List Fa) (i:Nat)=>upd (upd (upd (upd (upd (fun _=>none) 0 (some (.own (.sl 20 11 0 xs.length)))) 1 (some (.val (tI a)))) 2 (some (.val (tI b)))) 3 (some (.val (tE (.func (.func 57) #[] #[]))))) 8 (some (.val (tI i)))) fm.1 fm.2) (fun (fm:(List Fa)×(Nat))=>(fun (ys:List Fa) (i:Nat)=>upd (fun _=>none) 20 (some (⟨30,11,true,rV tFa ys⟩))) fm.1 fm.2) [20] (fun (fm:(List Fa)×(Nat))=>(fun (ys:List Fa) (i:Nat)=>b - i) fm.1 fm.2) ((xs,a+1)) (by dsimp only;exact ⟨rfl,by omega,.inr rfl,Prt.refl ..,fun i j g1 g2 g3=>by omega⟩) (hh:=((SubK.consI rfl ImpK.refl) SubK.nil)) ?_
 intro fm hI
 obtain ⟨ys,i⟩:=fm
 replace hI:ys.length=xs.length∧a < i∧(i≤b∨i=a+1)∧Prt Fa.kn fa0 a b xs ys∧SrtP Fa.kn fa0 a i ys:=hI
 show wc _ _ _ _ (upd (upd (upd (upd (upd (fun _=>none) 0 (some (.own (.sl 20 11 0 xs.length)))) 1 (some (.val (tI a)))) 2 (some (.val (tI b)))) 3 (some (.val (tE (.func (.func 57) #[] #[]))))) 8 (some (.val (tI i)))) (upd (fun _=>none) 20 (some (⟨30,11,true,rV tFa ys⟩))) _
 obtain ⟨hl,hi,hib,hp,hs⟩:=hI
 refine A8 ?_
 refine x7 rfl (fun h11=> ?_) (fun h11=> ?_)
 ·
  refine A11 ?_
  refine cL (fun (fm:(List Fa)×(Nat))=>(fun (zs:List Fa) (j:Nat)=>zs.length=xs.length∧a≤j∧j≤i∧Prt Fa.kn fa0 a b xs zs∧InsP Fa.kn fa0 a i j zs) fm.1 fm.2) (fun (fm:(List Fa)×(Nat))=>(fun (zs:List Fa) (j:Nat)=>upd (upd (upd (upd (upd (upd (fun _=>none) 0 (some (.own (.sl 20 11 0 xs.length)))) 1 (some (.val (tI a)))) 2 (some (.val (tI b)))) 3 (some (.val (tE (.func (.func 57) #[] #[]))))) 8 (some (.val (tI i)))) 9 (some (.val (tI j)))) fm.1 fm.2) (fun (fm:(List Fa)×(Nat))=>(fun (zs:List Fa) (j:Nat)=>upd (fun _=>none) 20 (some (⟨30,11,true,rV tFa zs⟩))) fm.1 fm.2) [20] (fun (fm:(List Fa)×(Nat))=>(fun (zs:List Fa) (j:Nat)=>j) fm.1 fm.2) ((ys,i)) (by dsimp only;exact ⟨hl,by omega,Nat.le_refl _,hp,ins_begin hs⟩) (hh:=((SubK.consI rfl ImpK.refl) SubK.nil)) ?_
  intro fm hI
  obtain ⟨zs,j⟩:=fm
  replace hI:zs.length=xs.length∧a≤j∧j≤i∧Prt Fa.kn fa0 a b xs zs∧InsP Fa.kn fa0 a i j zs:=hI
  show wc _ _ _ _ (upd (upd (upd (upd (upd (upd (fun _=>none) 0 (some (.own (.sl 20 11 0 xs.length)))) 1 (some (.val (tI a)))) 2 (some (.val (tI b)))) 3 (some (.val (tE (.func (.func 57) #[] #[]))))) 8 (some (.val (tI i)))) 9 (some (.val (tI j)))) (upd (fun _=>none) 20 (some (⟨30,11,true,rV tFa zs⟩))) _
  obtain ⟨hzl,haj,hji,hzp,hzi⟩:=hI
  refine A7 ?_
  refine RGcaseD (t:=21) rfl (fun h12=> ?_) (fun h12=> ?_)
  ·
   refine A3 ?_
   refine RGon (decide_eq_true h12) rfl (xa3 sl36 (by omega) (by omega) rfl) rfl ⟨rfl,rfl,trivial⟩ trivial trivial (RGon (decide_eq_true h12) rfl (xb3 (j) ti30 (xc4 (f:=tFa) (xs:=zs) (d:=fa0) (by omega)) (by omega)) rfl ⟨rfl,trivial⟩ ⟨rfl,trivial⟩ trivial ?_)
   refine A2 ?_
   refine RGon (decide_eq_true h12) rfl (xe1 (wr64 (by omega) (by omega))) rfl ⟨rfl,rfl,trivial⟩ trivial trivial (RGon (decide_eq_true h12) rfl (xa3 sl36 (by omega) (by omega) rfl) rfl ⟨rfl,rfl,trivial⟩ trivial trivial (RGon (decide_eq_true h12) rfl (xb3 (j - 1) ti30 (xc4 (f:=tFa) (xs:=zs) (d:=fa0) (by omega)) (by omega)) rfl ⟨rfl,trivial⟩ ⟨rfl,trivial⟩ trivial (RGon (decide_eq_true h12) rfl (xm1 (c_told11 (zs.getD j fa0) (zs.getD (j - 1) fa0)) fi57 rfl) rfl ⟨rfl,rfl,rfl,trivial⟩ trivial trivial ?_)))
   refine A4 ?_
   refine x7 rfl (fun h12_2=> ?_) (fun h12_2=> ?_)
   ·
    refine A13 ?_
    refine R2 (xa3 sl36 (by omega) (by omega) rfl) rfl rfl (RE (xb3 (j - 1) ti30 (xc4 (f:=tFa) (xs:=zs) (d:=fa0) (by omega)) (by omega)) ⟨rfl,trivial⟩ ⟨rfl,trivial⟩ trivial ?_)
    refine A2 ?_
    refine R2 (xa3 sl36 (by omega) (by omega) rfl) rfl rfl (RE (xb3 (j) ti30 (xc4 (f:=tFa) (xs:=zs) (d:=fa0) (by omega)) (by omega)) ⟨rfl,trivial⟩ ⟨rfl,trivial⟩ trivial (R2 (xa3 sl36 (by omega) (by omega) rfl) rfl rfl (RE (xb8 (j) ti30 (rV_lt (by omega)) (by omega) (xi6 (m:=(zs.getD (j - 1) fa0)) rfl)) ⟨rfl,rfl,trivial⟩ ⟨rfl,trivial⟩ trivial (R2 (xa3 sl36 (by omega) (by omega) rfl) rfl rfl (RE (xb8 (j - 1) ti30 (rV_lt (by rw [List.length_set];omega)) (by omega) (xi6 (m:=(zs.getD j fa0)) rfl)) ⟨rfl,rfl,trivial⟩ ⟨rfl,trivial⟩ trivial ?_)))))
    refine A8 ?_
    obtain ⟨q,rfl⟩: ∃q,j=q+1:=⟨j - 1,by omega⟩
    have hlt:=xm0.1 h12_2
    rw [show q+1 - 1=q by omega] at*
    have e1:((zs.set (q+1) (zs.getD q fa0)).set q (zs.getD (q+1) fa0))=swp1 fa0 q zs:=by rw [swp1,List.set_comm _ _ (by omega)]
    exact kF ((swp1 fa0 q zs,q)) ⟨(by dsimp only;exact ⟨by rw [swp1_len,hzl],by omega,by omega,hzp.trans (swp1_prt (by omega) (by omega) (by omega) hlt),ins_step hzi (by omega) (by omega) (by omega) hlt⟩),(by dsimp only;omega)⟩ (hg:=((Sub.consI rfl (Imp.int (by dsimp only;omega))) (sI (sC (sI (sI (sC Sub.nil))))))) (hh:=((SubK.consI rfl (ImpK.of (by rw [e1]))) SubK.nil))
   ·
    refine A11 ?_
    exact kF ((zs,i+1)) ⟨(by dsimp only;exact ⟨hzl,by omega,.inl (by omega),hzp,ins_end hzi (by omega) (fun hh=>by first | omega | exact Int.not_lt.1 (fun hc=>h12_2 (xm0.2 hc)))⟩),(by dsimp only;omega)⟩ (hh:=((SubK.consI rfl ImpK.refl) SubK.nil))
  ·
   refine A18 ?_
   refine A9 ?_
   exact kF ((zs,i+1)) ⟨(by dsimp only;exact ⟨hzl,by omega,.inl (by omega),hzp,ins_end hzi (by omega) (fun hh=>by first | omega | exact Int.not_lt.1 (fun hc=>h12_2 (xm0.2 hc)))⟩),(by dsimp only;omega)⟩ (hh:=((SubK.consI rfl ImpK.refl) SubK.nil))
 ·
  refine A4 ?_
  exact xj3 LentC.mk' rfl (.inr rfl) ⟨(congrArg some (show (⟨30,11,true,rV tFa ys⟩:HEnt)=⟨30,11,true,rV tFa (srtR Fa.kn a b xs)⟩ by rw [srtR_of h1 h2 hp (hs.sub (Nat.le_refl _) (by omega))])),trivial⟩ ⟨⟨rfl,xa0⟩,trivial⟩ rfl
end An.S
