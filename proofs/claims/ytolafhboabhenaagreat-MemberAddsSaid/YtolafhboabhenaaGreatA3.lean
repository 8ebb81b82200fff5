/- Part 3 of a proof: Wh, Wh2, W9, Wh3, W10, Fr, W11, W12, Ref, V16, Ref2, V17, Ref3, V18, V19, Split, U20, Ref4, U34, LibZh, LibZi, LibLk, LibNw, LibOv, LibLw, Tl, LibZa, S1, S2, S3, S4, Tl2, S5, LibZ, S6, LibZb. -/
import Derived.Shelf.SlSortCmp.NoneTotal
import Derived.Test.YtolafhboabhenaaGreatA2
set_option maxHeartbeats 4000000
set_option maxRecDepth 100000
namespace An
open Go
structure Wh where
  neg:Bool
  l:List Nat
deriving DecidableEq
abbrev tWh (x:Wh):Ty:=tS [⟨1,false,tB x.neg⟩,⟨1,false,tLm x.l⟩]
def wh (z:Int):Wh:=⟨decide (z < 0),dig 65536 z.natAbs⟩
def len16 (z:Int):Nat:=(dig 65536 z.natAbs).length
def Wh.valid (x:Wh):Bool:=if x.l.length=0 then !x.neg else decide (x.l.length<=1024) && decide (x.l.getD (x.l.length - 1) 0≠0)
theorem x8:2<=65536:=by decide
theorem val_zero_of_dig {l:List Nat} (hD:Dig 65536 l) (ht:Top l) (h:val 65536 l=0):l=[]:=by
 have:=dig_unique x8 hD ht
 rw [h,xc8] at this;exact this.symm
theorem Wh.of_valid {x:Wh} (hD:Dig 65536 x.l) (h:x.valid=true): ∃z:Int,x=wh z/\len16 z<=1024:=by
 obtain ⟨neg,l⟩:=x
 simp only [Wh.valid] at h
 split at h
 ·rename_i h0
  have hl:l=[]:=List.length_eq_zero_iff.1 h0
  subst hl
  refine ⟨0,?_,by simp [len16,xc8]⟩
  have:neg=false:=by simpa using h
  subst this
  simp [wh,xc8]
 ·rename_i h0
  simp only [Bool.and_eq_true,decide_eq_true_eq] at h
  have ht:Top l:=by
   intro x hx
   have h1:l.getD (l.length - 1) 0=x:=by
    rw [List.getD_eq_getElem?_getD,<-List.getLast?_eq_getElem?,hx];rfl
   rw [<-h1];exact h.2
  have hu:=dig_unique x8 hD ht
  have hv:val 65536 l≠0:=fun h'=>h0 (by have hl0:l=[]:=val_zero_of_dig hD ht h';rw [hl0];rfl)
  refine ⟨if neg then -(val 65536 l:Int) else (val 65536 l:Int),?_,?_⟩
  ·cases neg with
   | true=>
    simp only [wh,↓reduceIte,Int.natAbs_neg,Int.natAbs_natCast]
    rw [hu];congr 1;simp;omega
   | false=>
    simp only [wh,Bool.false_eq_true,↓reduceIte,Int.natAbs_natCast]
    rw [hu];simp
  ·have e:(if neg then -(val 65536 l:Int) else (val 65536 l:Int)).natAbs=val 65536 l:=by cases neg <;> simp
   rw [len16,e,hu];exact h.1
theorem valid_wh {z:Int} (h:len16 z<=1024):(wh z).valid=true:=by
 unfold Wh.valid
 by_cases h0:(wh z).l.length=0
 ·rw [if_pos h0]
  have:z.natAbs=0:=(xi1 x8).1 (List.length_eq_zero_iff.1 h0)
  show (!decide (z < 0))=true
  simp;omega
 ·rw [if_neg h0]
  have h1:(wh z).l.length<=1024:=h
  simp only [Bool.and_eq_true,decide_eq_true_eq]
  refine ⟨h1,?_⟩
  have ht:Top (wh z).l:=dig_Top x8 z.natAbs
  refine ht _ ?_
  rw [List.getLast?_eq_getElem?,List.getD_eq_getElem?_getD]
  rw [List.getElem?_eq_getElem (by omega)];rfl
def sgn (p:Bool) (v:Nat):Int:=if p then -(v:Int) else v
theorem natAbs_sgn (p:Bool) (v:Nat):(sgn p v).natAbs=v:=by cases p <;> simp [sgn]
theorem wh_sgn (p:Bool) (v:Nat):wh (sgn p v)=⟨p && decide (v≠0),dig 65536 v⟩:=by
 simp only [wh,natAbs_sgn]
 congr 1
 cases p
 ·simp [sgn]
 ·simp only [sgn,↓reduceIte,Bool.true_and]
  by_cases h:v=0 <;> simp [h];omega
theorem sgn_wh (z:Int):sgn (wh z).neg z.natAbs=z:=by
 simp only [sgn,wh]
 by_cases h:z < 0 <;> simp [h] <;> omega
theorem wh_inj {x y:Int} (h:wh x=wh y):x=y:=by
 have h1:dig 65536 x.natAbs=dig 65536 y.natAbs:=congrArg Wh.l h
 have h2:(wh x).neg=(wh y).neg:=congrArg Wh.neg h
 have h3:x.natAbs=y.natAbs:=by rw [<-xm9 x8 x.natAbs,h1,xm9 x8]
 rw [<-sgn_wh x,<-sgn_wh y,h2,h3]
theorem pow2k (k:Nat):4294967296 ^ k=65536 ^ (2*k):=by rw [Nat.pow_mul]
theorem len32 (v:Nat):(dig 4294967296 v).length=((dig 65536 v).length+1) / 2:=by
 have h: ∀k,(dig 4294967296 v).length<=k↔(dig 65536 v).length<=2*k:=fun k=>by
  rw [xa8 x9,xa8 x8,pow2k]
 have h1:=(h (dig 4294967296 v).length).1 (Nat.le_refl _)
 have h2:=(h (((dig 65536 v).length+1) / 2)).2 (by omega)
 omega
theorem pack_dig (v:Nat):dgs 4294967296 (((dig 65536 v).length+1) / 2) (val 65536 (dig 65536 v))=dig 4294967296 v:=by
 rw [xm9 x8,<-len32,xo8 x9]
theorem unpack_in {v i n:Nat} {ls:List Nat} (hi:i < n) (hl:ls.length=2*n) (ht:ls.take (2*i)=dgs 65536 (2*i) v):
  ((ls.set (2*i) (v / 4294967296 ^ i%4294967296%65536)).set (2*i+1) (v / 4294967296 ^ i%4294967296 / 2 ^ 16)).length=2*n/\
   ((ls.set (2*i) (v / 4294967296 ^ i%4294967296%65536)).set (2*i+1) (v / 4294967296 ^ i%4294967296 / 2 ^ 16)).take (2*(i+1))=dgs 65536 (2*(i+1)) v:=by
 refine ⟨by simpa using hl,?_⟩
 rw [show 2*(i+1)=2*i+1+1 by omega,xj8 (by simpa using (by omega:2*i+1 < ls.length)),xj8 (by omega),ht,xk6,xk6,pow2k]
 congr 1
 ·congr 2
  exact Nat.mod_mod_of_dvd _ (by decide)
 ·congr 1
  show v / 65536 ^ (2*i)%4294967296 / 65536=_
  rw [Nat.pow_succ 65536 (2*i),<-Nat.div_div_eq_div_mul]
  have: ∀x:Nat,x%4294967296 / 65536=x / 65536%65536:=fun x=>by omega
  exact this _
theorem unpack_end {v n:Nat} {ls:List Nat} (hn:(dig 4294967296 v).length=n) (hv:0 < v) (hl:ls.length=2*n) (ht:ls.take (2*n)=dgs 65536 (2*n) v):
  (ls.getD (2*n - 1) 0=0->ls.take (2*n - 1)=dig 65536 v)/\(ls.getD (2*n - 1) 0≠0->ls=dig 65536 v)/\1<=n:=by
 have h32:=len32 v
 rw [hn] at h32
 have h16:=len_pos x8 hv
 rw [<-hl,List.take_length,hl] at ht
 subst ht
 have hg:(dgs 65536 (2*n) v).getD (2*n - 1) 0=v / 65536 ^ (2*n - 1)%65536:=xs3 (by omega)
 refine ⟨fun h=> ?_,fun h=> ?_,by omega⟩
 ·rw [hg] at h
  rw [take_dgs (by omega)]
  have h1:v < 65536 ^ (2*n - 1):=by
   have h2:=(xa8 x8 v (2*n)).1 (by omega)
   have e:65536 ^ (2*n)=65536 ^ (2*n - 1)*65536:=by rw [<-Nat.pow_succ];congr 1;omega
   rw [e] at h2
   have h3:v / 65536 ^ (2*n - 1) < 65536:=Nat.div_lt_of_lt_mul h2
   rw [Nat.mod_eq_of_lt h3] at h
   exact (Nat.div_eq_zero_iff_lt (Nat.pow_pos (by decide))).1 h
  have h4:=(xa8 x8 v (2*n - 1)).2 h1
  have h5:(dig 65536 v).length=2*n - 1:=by omega
  rw [<-h5,xo8 x8]
 ·rw [hg] at h
  have h4: ¬(dig 65536 v).length<=2*n - 1:=fun h'=>h (by rw [Nat.div_eq_of_lt ((xa8 x8 v _).1 h')])
  have h5:(dig 65536 v).length=2*n:=by omega
  rw [<-h5,xo8 x8]
theorem cut16 {m:Nat}:IntKind.u16.wrap (m:Int)=((m%65536:Nat):Int):=by rw [mu16];omega
end An
namespace An
def resW (z:Int):Wh:=if len16 z<=1024 then wh z else ⟨false,[]⟩
def resE (z:Int):Int:=if len16 z<=1024 then 0 else 3
theorem len32_le {z:Int} {n:Nat} (h:len16 z<=n):(dig 4294967296 z.natAbs).length<=n:=by
 have h1:(dig 65536 z.natAbs).length<=n:=h
 rw [len32];omega
theorem len_add {m n k:Nat} (hm:(dig 4294967296 m).length<=k) (hn:(dig 4294967296 n).length<=k):(dig 4294967296 (m+n)).length<=k+1:=by
 rw [xa8 x9] at*
 rw [Nat.pow_succ];generalize (4294967296:Nat) ^ k=P at*;omega
theorem len_mul {m n k:Nat} (hm:(dig 4294967296 m).length<=k) (hn:(dig 4294967296 n).length<=k):(dig 4294967296 (m*n)).length<=k+k:=by
 rw [xa8 x9] at*
 rw [Nat.pow_add]
 exact Nat.mul_lt_mul'' hm hn
theorem len_gcd {m n k:Nat} (hm:(dig 4294967296 m).length<=k) (hn:(dig 4294967296 n).length<=k):(dig 4294967296 (Nat.gcd m n)).length<=k:=by
 rcases Nat.eq_zero_or_pos m with h | h
 ·subst h;rw [Nat.gcd_zero_left];exact hn
 ·exact Nat.le_trans (xd0 x9 (Nat.gcd_le_left n h)) hm
theorem sgn_add {p:Bool} {m n:Nat}:sgn p (m+n)=sgn p m+sgn p n:=by
 cases p <;> simp only [sgn,Bool.false_eq_true,↓reduceIte] <;> omega
theorem sgn_sub {p:Bool} {m n:Nat} (h:n<=m):sgn p (m - n)=sgn p m+sgn (!p) n:=by
 cases p <;> simp only [sgn,Bool.false_eq_true,↓reduceIte,Bool.not_true,Bool.not_false] <;> omega
theorem sgn_sub' {p:Bool} {m n:Nat} (h:m<=n):sgn (!p) (n - m)=sgn p m+sgn (!p) n:=by
 cases p <;> simp only [sgn,Bool.false_eq_true,↓reduceIte,Bool.not_true,Bool.not_false] <;> omega
theorem sgn_mul {x y:Int}:sgn (!((wh x).neg==(wh y).neg)) (x.natAbs*y.natAbs)=x*y:=by
 have hx:=sgn_wh x
 have hy:=sgn_wh y
 conv=>rhs;rw [<-hx,<-hy]
 generalize (wh x).neg=p
 generalize (wh y).neg=q
 cases p <;> cases q <;> simp [sgn,Int.mul_neg,Int.neg_mul]
def cmpZ (x y:Int):Int:=if x < y then -1 else if x=y then 0 else 1
theorem cmpN_bd (a b:Nat): -1<=cmpN a b/\cmpN a b<=1:=by
 simp only [cmpN];split
 ·omega
 ·split <;> omega
theorem cmpZ_a {x y:Int} (h:(decide (x < 0)==decide (y < 0))=false) (hx:x < 0):cmpZ x y= -1:=by
 have: ¬y < 0:=by intro hy;simp [hx,hy] at h
 rw [cmpZ,if_pos (by omega)]
theorem cmpZ_b {x y:Int} (h:(decide (x < 0)==decide (y < 0))=false) (hx: ¬x < 0):cmpZ x y=1:=by
 have:y < 0:=by
  rcases Int.lt_or_le y 0 with hy | hy
  ·exact hy
  ·simp [hx,show ¬y < 0 by omega] at h
 rw [cmpZ,if_neg (by omega),if_neg (by omega)]
theorem cmpZ_c {x y:Int} (h:decide (x < 0)=decide (y < 0)) (hx:x < 0):cmpZ x y= - cmpN x.natAbs y.natAbs:=by
 have hy:y < 0:=by rw [decide_eq_true hx] at h;exact of_decide_eq_true h.symm
 simp only [cmpZ,cmpN]
 split
 ·rw [if_neg (by omega),if_neg (by omega)]
 ·split
  ·rw [if_neg (by omega),if_pos (by omega)];rfl
  ·rw [if_pos (by omega)];rfl
theorem cmpZ_d {x y:Int} (h:decide (x < 0)=decide (y < 0)) (hx: ¬x < 0):cmpZ x y=cmpN x.natAbs y.natAbs:=by
 have hy: ¬y < 0:=by rw [decide_eq_false hx] at h;exact of_decide_eq_false h.symm
 simp only [cmpZ,cmpN]
 split
 ·rw [if_pos (by omega)]
 ·split
  ·rw [if_neg (by omega),if_pos (by omega)]
  ·rw [if_neg (by omega),if_neg (by omega)]
end An
namespace An.S
open Go Go.Proofs An
instance ti23:TyI Tryz.prog 23 1 false:=⟨by kernel_rfl,by kernel_rfl⟩
instance ti25:TyI Tryz.prog 25 2 true:=⟨by kernel_rfl,by kernel_rfl⟩
instance sl241:SlI Tryz.prog 241 25 2 true:=⟨Tryz.underlying241,ti25⟩
instance fo25_0:FoI Tryz.prog 25 0 0:=⟨by kernel_rfl⟩
instance fo25_1:FoI Tryz.prog 25 1 1:=⟨by kernel_rfl⟩
instance fi176:FnI Tryz.prog 176:=⟨_,Tryz.func176,by kernel_rfl,rfl⟩
instance fi178:FnI Tryz.prog 178:=⟨_,Tryz.func178,by kernel_rfl,rfl⟩
instance fi185:FnI Tryz.prog 185:=⟨_,Tryz.func185,by kernel_rfl,rfl⟩
instance fi213:FnI Tryz.prog 213:=⟨_,Tryz.func213,by kernel_rfl,rfl⟩
instance fi214:FnI Tryz.prog 214:=⟨_,Tryz.func214,by kernel_rfl,rfl⟩
instance fi224:FnI Tryz.prog 224:=⟨_,Tryz.func224,by kernel_rfl,rfl⟩
instance fi228:FnI Tryz.prog 228:=⟨_,Tryz.func228,by kernel_rfl,rfl⟩
instance fi231:FnI Tryz.prog 231:=⟨_,Tryz.func231,by kernel_rfl,rfl⟩
instance fi242:FnI Tryz.prog 242:=⟨_,Tryz.func242,by kernel_rfl,rfl⟩
instance fi243:FnI Tryz.prog 243:=⟨_,Tryz.func243,by kernel_rfl,rfl⟩
theorem el25:ElI Tryz.prog 25 2 32 true (.agg #[.bool false,.slice none 0 0]):=⟨ti25,by kernel_rfl,by kernel_rfl⟩
theorem zr25:(Tryz.prog.info? 25).bind (·.zero)=some (.agg #[.bool false,.slice none 0 0])/\ ∀F w,(tS [⟨1,false,(tE (.bool false))⟩,⟨1,false,(tLm [])⟩]).p F w (.agg #[.bool false,.slice none 0 0]):=⟨by kernel_rfl,fun _ _=>⟨_,rfl,rfl,⟨fun _=>rfl,rfl⟩,⟨fun _=>rfl,⟨none,0,rfl,Nat.le_refl _,by decide,.inl rfl⟩⟩,trivial⟩⟩
theorem bu25:BuI Tryz.prog 25 (fun i=>[(0,1),(1,1)][i]?) (.agg #[.bool false,.slice none 0 0]):=BuI.struct Tryz.underlying25 (by kernel_rfl) (by kernel_rfl)
theorem zf25:Flat 2 true (.agg #[.bool false,.slice none 0 0]):=xo1 (by intro u hu;simp at hu;rcases hu with rfl | rfl <;> rfl)
instance un4:UnI Tryz.prog 4 (.bool):=⟨Tryz.underlying4⟩
instance un241:UnI Tryz.prog 241 (.slice 25):=⟨Tryz.underlying241⟩
theorem all_take_succ {α:Type} {p:α->Bool} {l:List α} {i:Nat} {d:α} (hi:i < l.length):(l.take (i+1)).all p=((l.take i).all p && p (l.getD i d)):=by
 rw [List.take_succ_eq_append_getElem hi,List.all_append]
 simp [hi]
theorem all_stop {α:Type} {p:α->Bool} {l:List α} {i:Nat} {d:α} (hi:i < l.length) (h:p (l.getD i d)=false):l.all p=false:=by
 rw [List.all_eq_false]
 refine ⟨l[i],List.getElem_mem hi,?_⟩
 rw [List.getD_eq_getElem?_getD,List.getElem?_eq_getElem hi] at h
 simpa using h
theorem c_WValid (x:Wh):
  Ct Tryz.prog 185 [tWh x] (tB x.valid):=by
 refine Ct.intro Tryz.func185 rfl Tryz.ntmps185 rfl ?_
 intro w F
 refine A16 ?_
 refine xg9 (s:=5) rfl (fun hl5=> ?_)
 refine A5 ?_
 refine x6 rfl (fun h24=> ?_) (fun h24=> ?_)
 ·
  refine A10 ?_
  exact E1 rfl rfl (Le.bool (by simp only [Wh.valid];rw [if_pos (by omega)]))
 ·
  refine A7 ?_
  refine RGcaseD (t:=14) rfl (fun h27=> ?_) (fun h27=> ?_)
  ·
   refine A3 ?_
   refine Rg (decide_eq_true h27) rfl (xd6 (wr64 (by omega) (by omega))) rfl qB (Rg (decide_eq_true h27) rfl (x4 sl23 (x.l.length - 1) (by omega) (gN (by omega))) rfl qB ?_)
   refine A7 ?_
   exact E1 rfl rfl (Le.bool (by simp only [Wh.valid];rw [if_neg (by omega),decide_eq_true (show x.l.length<=1024 by omega),Bool.true_and];exact decide_eq_decide.2 (by omega)))
  ·
   refine A12 ?_
   exact E1 rfl rfl (Le.bool (by simp only [Wh.valid];rw [if_neg (by omega),decide_eq_false (show ¬x.l.length<=1024 by omega),Bool.false_and]))
theorem c_WallValid (ws:List Wh):
  Ct Tryz.prog 176 [tL 2 true tWh ws] (tB (ws.all Wh.valid)):=by
 refine Ct.intro Tryz.func176 rfl Tryz.ntmps176 rfl ?_
 intro w F
 refine xg9 (s:=0) rfl (fun hl0=> ?_)
 refine A14 ?_
 refine cL (fun (i:Nat)=>i<=ws.length/\(ws.take i).all Wh.valid=true) (fun (i:Nat)=>uV (uV (uV uN 5 (tL 2 true tWh ws)) 6 (tI ws.length)) 7 (tI i)) (fun (i:Nat)=>fun _=>none) [] (fun (i:Nat)=>ws.length - i) (0) ⟨Nat.zero_le _,rfl⟩ ?_
 intro i hI
 obtain ⟨hi,ha⟩:=hI
 refine A6 ?_
 refine x6 rfl (fun h32=> ?_) (fun h32=> ?_)
 ·
  refine A6 ?_
  refine R2 (x4 sl241 i (by omega) (gD (l:=ws) (n:=i) (d:=⟨false,[]⟩) (by omega))) rfl rfl ?_
  refine A1 ?_
  refine RE (x7 (k:=4) (n:=2) (agg:=true) zr25.1 zr25.2 rfl) trivial trivial qA ?_
  refine A6 ?_
  refine R1 (x3 (c_WValid _) fi185 rfl) rfl ?_
  refine A3 ?_
  refine xc2 rfl (fun h33=> ?_) (fun h33=> ?_)
  ·
   refine A11 ?_
   exact E1 rfl rfl (Le.bool (all_stop (l:=ws) (i:=i) (d:=⟨false,[]⟩) (by omega) (by simpa using h33)).symm)
  ·
   refine A7 ?_
   exact kF (i+1) ⟨⟨by omega,by rw [all_take_succ (l:=ws) (i:=i) (d:=⟨false,[]⟩) (by omega),ha];simpa using h33⟩,(by omega)⟩
 ·
  refine A11 ?_
  exact E1 rfl rfl (Le.bool (by rw [<-ha,show i=ws.length by omega,List.take_length]))
theorem xo5 (x y:Int) (hx:len16 x<=1024) (hy:len16 y<=1024):Ct Tryz.prog 176 [tL 2 true tWh [wh x,wh y]] (tB true):=by
 have:=c_WallValid [wh x,wh y]
 simp only [List.all_cons,List.all_nil,valid_wh hx,valid_wh hy,Bool.and_true] at this
 exact this
theorem xn1 (v:Nat) (h:(dig 65536 v).length<=1000000):Ct Tryz.prog 178 [tLm (dig 65536 v)] (tN v):=by
 have:=c_pack (dig 65536 v) (xc3 x8 v) h
 rw [pack_dig] at this;exact this
theorem c_trimN (v:Nat):Ct Tryz.prog 229 [tN v] (tN v):=by
 have:=xp0 (dig 4294967296 v)
 rw [trimL_Top (dig_Top x9 v)] at this;exact this
theorem xr1 (xs:List Nat) (h:xs.length<=1000000):Ct Tryz.prog 98 [tLm xs] (tLm xs):=Ct.ofG (c_clone16 xs h) rfl
theorem c_unpack (p:Bool) (v:Nat) (h:(dig 4294967296 v).length<=100000):
  Ct Tryz.prog 228 [tB p,tN v] (tWh (wh (sgn p v))):=by
 refine Ct.intro Tryz.func228 rfl Tryz.ntmps228 rfl ?_
 intro w F
 refine A2 ?_
 refine RE (x7 (k:=4) (n:=2) (agg:=true) zr25.1 zr25.2 rfl) trivial trivial qA ?_
 refine A5 ?_
 refine R1 (x3 (c_trimN _) fi229 rfl) rfl ?_
 refine A11 ?_
 refine x6 rfl (fun h37=> ?_) (fun h37=> ?_)
 ·
  have hv0:v=0:=(xi1 x9).1 (List.length_eq_zero_iff.1 (by omega))
  subst hv0
  refine A2 ?_
  refine R0 (xb0 (r:=tS [⟨1,false,(tE (.bool false))⟩,⟨1,false,(tLm [])⟩]) (ts:=[]) bu25 zr25.2 Le.refl) ?_
  refine A5 ?_
  exact EC rfl ⟨_,_,_,_,_,rfl,rfl,ti25,(Le.of (by rw [wh_sgn,xc8];simp))⟩
 ·
  have hv0:0 < v:=by
   rcases Nat.eq_zero_or_pos v with h' | h'
   ·subst h';rw [xc8] at h37;simp at h37
   ·exact h'
  refine A6 ?_
  refine R2 (xi2 (wr64 (by omega) (by omega))) rfl rfl (RE (xg0 (k:=17) (t:=tE (.int .u16 0)) (ts:=rW .u16 (List.replicate (2*(dig 4294967296 v).length) 0)) (2*(dig 4294967296 v).length) (2*(dig 4294967296 v).length) Tryz.underlying23 el153 (fun _ _=>rfl) rfl (by omega) (by omega) (Nat.le_refl _) (by omega) (by omega) (xp5 _)) qB trivial qA ?_)
  refine A12 ?_
  refine cL (fun (fm:(Nat)×(List Nat))=>(fun (i:Nat) (ls:List Nat)=>i<=(dig 4294967296 v).length/\ls.length=2*(dig 4294967296 v).length/\ls.take (2*i)=dgs 65536 (2*i) v) fm.1 fm.2) (wB fun (i:Nat) (ls:List Nat)=>uV (uV (uV (uO (uO (uV uN 0 (tB p)) 4 (.ptr 4 0)) 5 (.sl 17 1 0 (2*(dig 4294967296 v).length))) 18 (tN v)) 19 (tI (dig 4294967296 v).length)) 20 (tI i)) (wB fun (i:Nat) (ls:List Nat)=>uK (uK uN 4 25 2 true [.val (tWh ⟨false,[]⟩)]) 17 153 1 false (rW .u16 ls)) [4,17] (fun (fm:(Nat)×(List Nat))=>(fun (i:Nat) (ls:List Nat)=>(dig 4294967296 v).length - i) fm.1 fm.2) ((0,List.replicate (2*(dig 4294967296 v).length) 0)) (by dsimp only;exact ⟨Nat.zero_le _,by simp,rfl⟩) ?_
  intro fm hI
  obtain ⟨i,ls⟩:=fm
  replace hI:i<=(dig 4294967296 v).length/\ls.length=2*(dig 4294967296 v).length/\ls.take (2*i)=dgs 65536 (2*i) v:=hI
  show wc _ _ _ _ (uV (uV (uV (uO (uO (uV uN 0 (tB p)) 4 (.ptr 4 0)) 5 (.sl 17 1 0 (2*(dig 4294967296 v).length))) 18 (tN v)) 19 (tI (dig 4294967296 v).length)) 20 (tI i)) (uK (uK uN 4 25 2 true [.val (tWh ⟨false,[]⟩)]) 17 153 1 false (rW .u16 ls)) _
  obtain ⟨hi,hl,ht⟩:=hI
  have hx:=xc0 x9 v i
  have hxW:=(xc3 x9 v).getD (by decide) i
  refine A6 ?_
  refine x6 rfl (fun h41=> ?_) (fun h41=> ?_)
  ·
   refine A7 ?_
   refine R2 (x4 sl220 (i) (by omega) (gN (by omega))) rfl rfl ?_
   refine A9 ?_
   refine R2 (xi2 (wr64 (by omega) (by omega))) rfl rfl ?_
   refine A1 ?_
   refine R1 (x5 Tryz.underlying153 (isS Tryz.underlying168) cut16) rfl (R2 (xa2 sl23 (by omega) (by omega) rfl) rfl rfl (RE (xb8 (2*i) ti153 (xj0 (by omega)) (by omega) (xh1 (m:=_) rfl)) qB qA trivial ?_))
   refine A5 ?_
   refine R2 (xi2 (wr64 (by omega) (by omega))) rfl rfl ?_
   refine A2 ?_
   refine R2 (xh3 (by decide) (shrN (s:=16) rfl (by decide))) rfl rfl (R1 (x5 Tryz.underlying153 (isS Tryz.underlying168) (wu16 (by omega) (by omega))) rfl (R2 (xa2 sl23 (by omega) (by omega) rfl) rfl rfl (RE (xb8 (2*i+1) ti153 (xj0 (by rw [List.length_set];omega)) (by omega) (xh1 (m:=_) rfl)) qB qA trivial ?_)))
   refine A7 ?_
   obtain ⟨n1,n2⟩:=unpack_in (by omega) hl ht
   rw [<-hx] at n1 n2
   exact kF ((i+1,(ls.set (2*i) ((dig 4294967296 v).getD i 0%65536)).set (2*i+1) ((dig 4294967296 v).getD i 0 / 2 ^ 16))) ⟨(by dsimp only;exact ⟨by omega,n1,n2⟩),(by dsimp only;omega)⟩
  ·
   have him:i=(dig 4294967296 v).length:=by omega
   subst him
   obtain ⟨e1,e2,e3⟩:=unpack_end rfl hv0 hl ht
   refine A12 ?_
   refine R2 (xa2 sl23 (by omega) (by omega) rfl) rfl rfl (RE (xc1 (2*(dig 4294967296 v).length - 1) ti153 (xn7 (by omega)) (by omega)) qA qA trivial ?_)
   refine A3 ?_
   refine x6 rfl (fun h45=> ?_) (fun h45=> ?_)
   ·
    refine A5 ?_
    refine R2 (d_sliceOTo sl23 (2*(dig 4294967296 v).length - 1) (by omega) (by omega) rfl) rfl rfl ?_
    refine A6 ?_
    refine RE (xi6 (f:=fun n:Nat=>tE (.int .u16 n)) (xs:=ls.take (2*(dig 4294967296 v).length - 1)) (fun _ h=>h) rW_take (by rw [List.length_take];omega)) qA qA trivial (R2 (xb0 (r:=tS [⟨1,false,tB p⟩,⟨1,false,tLm (ls.take (2*(dig 4294967296 v).length - 1))⟩]) (ts:=[(0,tB p),(1,tLm (ls.take (2*(dig 4294967296 v).length - 1)))]) bu25 zr25.2 (Bc 0 rfl rfl rfl (Bc 1 rfl rfl rfl Le.refl))) rfl rfl ?_)
    refine A4 ?_
    exact EC rfl ⟨_,_,_,_,_,rfl,rfl,ti25,(Le.of (by rw [wh_sgn,e1 (by omega),decide_eq_true (show v≠0 by omega),Bool.and_true]))⟩
   ·
    refine A5 ?_
    refine RE (xi6 (f:=fun n:Nat=>tE (.int .u16 n)) (xs:=ls) (fun _ h=>h) (xi4 hl) hl) qA qA trivial (R2 (xb0 (r:=tS [⟨1,false,tB p⟩,⟨1,false,tLm ls⟩]) (ts:=[(0,tB p),(1,tLm ls)]) bu25 zr25.2 (Bc 0 rfl rfl rfl (Bc 1 rfl rfl rfl Le.refl))) rfl rfl ?_)
    refine A4 ?_
    exact EC rfl ⟨_,_,_,_,_,rfl,rfl,ti25,(Le.of (by rw [wh_sgn,e2 (by omega),decide_eq_true (show v≠0 by omega),Bool.and_true]))⟩
theorem c_result (p:Bool) (v:Nat) (h:(dig 4294967296 v).length<=100000):
  Ct Tryz.prog 213 [tB p,tN v] (tT [tWh (resW (sgn p v)),tI (resE (sgn p v))]):=by
 refine Ct.intro Tryz.func213 rfl Tryz.ntmps213 rfl ?_
 intro w F
 refine A2 ?_
 refine RE (x7 (k:=4) (n:=2) (agg:=true) zr25.1 zr25.2 rfl) trivial trivial qA ?_
 refine A7 ?_
 refine R2 (x3 (c_unpack _ _ h) fi228 rfl) rfl rfl (RE (x7 (k:=6) (n:=2) (agg:=true) zr25.1 zr25.2 rfl) trivial trivial qA ?_)
 refine A12 ?_
 refine x6 rfl (fun h89=> ?_) (fun h89=> ?_)
 ·
  have hn: ¬len16 (sgn p v)<=1024:=by show ¬(wh (sgn p v)).l.length<=1024;omega
  refine A2 ?_
  refine R0 (xb0 (r:=tS [⟨1,false,(tE (.bool false))⟩,⟨1,false,(tLm [])⟩]) (ts:=[]) bu25 zr25.2 Le.refl) ?_
  refine A6 ?_
  exact EN (rs:=[.cell 4 25,.tmp 5]) rfl rfl ⟨⟨_,_,_,_,_,rfl,rfl,ti25,(Le.of (by rw [resW,if_neg hn]))⟩,⟨_,rfl,(Le.int (by rw [resE,if_neg hn]))⟩,trivial⟩
 ·
  have hn:len16 (sgn p v)<=1024:=by show (wh (sgn p v)).l.length<=1024;omega
  refine A10 ?_
  exact EN (rs:=[.cell 4 25,.tmp 5]) rfl rfl ⟨⟨_,_,_,_,_,rfl,rfl,ti25,(Le.of (by rw [resW,if_pos hn]))⟩,⟨_,rfl,(Le.int (by rw [resE,if_pos hn]))⟩,trivial⟩
theorem c_sum (p:Bool) (m:Nat) (q:Bool) (n:Nat) (hm:(dig 4294967296 m).length<=10000) (hn:(dig 4294967296 n).length<=10000):
  Ct Tryz.prog 224 [tB p,tN m,tB q,tN n] (tT [tWh (resW (sgn p m+sgn q n)),tI (resE (sgn p m+sgn q n))]):=by
 have hmn:=len_add (m:=m) (n:=n) hm hn
 refine Ct.intro Tryz.func224 rfl Tryz.ntmps224 rfl ?_
 intro w F
 refine A2 ?_
 refine RE (x7 (k:=8) (n:=2) (agg:=true) zr25.1 zr25.2 rfl) trivial trivial qA ?_
 refine A11 ?_
 refine xc2 rfl (fun h97=> ?_) (fun h97=> ?_)
 ·
  have hpq:p=q:=by simpa using h97
  subst hpq
  refine A5 ?_
  refine R2 (x3 (c_plus m n (by omega) (by omega)) fi242 rfl) rfl rfl (R2 (x3 (c_result p (m+n) (by omega)) fi213 rfl) rfl rfl ?_)
  refine A8 ?_
  exact EN (rs:=[.cell 8 25,.tmp 9]) rfl rfl ⟨⟨_,_,_,_,_,rfl,rfl,ti25,(Le.of (by rw [sgn_add]))⟩,⟨_,rfl,(Le.int (by rw [sgn_add]))⟩,trivial⟩
 ·
  have hpq:q= !p:=by cases p <;> cases q <;> simp_all
  subst hpq
  refine A7 ?_
  refine R2 (x3 (c_compare m n) fi177 rfl) rfl rfl ?_
  refine A3 ?_
  refine x6 rfl (fun h100=> ?_) (fun h100=> ?_)
  ·
   have hle:n<=m:=by
    have:=mt xs0.2 (by omega: ¬cmpN m n < 0)
    omega
   refine A5 ?_
   refine R2 (x3 (c_minus m n (by omega) (by omega)) fi243 rfl) rfl rfl (R2 (x3 (c_result p (m - n) (by have:=xd0 x9 (Nat.sub_le m n);omega)) fi213 rfl) rfl rfl ?_)
   refine A8 ?_
   exact EN (rs:=[.cell 8 25,.tmp 9]) rfl rfl ⟨⟨_,_,_,_,_,rfl,rfl,ti25,(Le.of (by rw [sgn_sub hle]))⟩,⟨_,rfl,(Le.int (by rw [sgn_sub hle]))⟩,trivial⟩
  ·
   have hle:m < n:=xs0.1 (by omega)
   refine A7 ?_
   refine R2 (x3 (c_minus n m (by omega) (by omega)) fi243 rfl) rfl rfl (R2 (x3 (c_result (!p) (n - m) (by have:=xd0 x9 (Nat.sub_le n m);omega)) fi213 rfl) rfl rfl ?_)
   refine A7 ?_
   exact EN (rs:=[.cell 8 25,.tmp 9]) rfl rfl ⟨⟨_,_,_,_,_,rfl,rfl,ti25,(Le.of (by rw [sgn_sub' (Nat.le_of_lt hle)]))⟩,⟨_,rfl,(Le.int (by rw [sgn_sub' (Nat.le_of_lt hle)]))⟩,trivial⟩
theorem c_Add (x y:Int) (hx:len16 x<=1024) (hy:len16 y<=1024):
  Ct Tryz.prog 203 [tWh (wh x),tWh (wh y)] (tT [tWh (resW (x+y)),tI (resE (x+y))]):=by
 have hx32:=len32_le hx
 have hy32:=len32_le hy
 refine Ct.intro Tryz.func203 rfl Tryz.ntmps203 rfl ?_
 intro w F
 refine A4 ?_
 refine RE (x7 (k:=4) (n:=2) (agg:=true) zr25.1 zr25.2 rfl) trivial trivial qA ?_
 refine A8 ?_
 refine R2 (xb5 (n:=2) (f:=tWh) [wh x,wh y] Tryz.underlying241 el25 zf25 rfl (fun _=>inferInstance) rfl rfl rfl) rfl rfl (R1 (x3 (xo5 x y hx hy) fi176 rfl) rfl ?_)
 refine A12 ?_
 refine R1 (x3 (xn1 (Int.natAbs x) (by show len16 x<=1000000;omega)) fi178 rfl) rfl ?_
 refine A4 ?_
 refine R1 (x3 (xn1 (Int.natAbs y) (by show len16 y<=1000000;omega)) fi178 rfl) rfl (Rt (x3 (c_sum (wh x).neg x.natAbs (wh y).neg y.natAbs (by omega) (by omega)) fi224 rfl) qD ?_)
 refine A7 ?_
 exact EN (rs:=[.cell 4 25,.tmp 5]) rfl rfl ⟨⟨_,_,_,_,_,rfl,rfl,ti25,(Le.of (by rw [sgn_wh,sgn_wh]))⟩,⟨_,rfl,(Le.int (by rw [sgn_wh,sgn_wh]))⟩,trivial⟩
theorem c_Mul (x y:Int) (hx:len16 x<=1024) (hy:len16 y<=1024):
  Ct Tryz.prog 179 [tWh (wh x),tWh (wh y)] (tT [tWh (resW (x*y)),tI (resE (x*y))]):=by
 have hx32:=len32_le hx
 have hy32:=len32_le hy
 have hmul:=len_mul (k:=1024) (m:=x.natAbs) (n:=y.natAbs) (by omega) (by omega)
 refine Ct.intro Tryz.func179 rfl Tryz.ntmps179 rfl ?_
 intro w F
 refine A4 ?_
 refine RE (x7 (k:=4) (n:=2) (agg:=true) zr25.1 zr25.2 rfl) trivial trivial qA ?_
 refine A8 ?_
 refine R2 (xb5 (n:=2) (f:=tWh) [wh x,wh y] Tryz.underlying241 el25 zf25 rfl (fun _=>inferInstance) rfl rfl rfl) rfl rfl (R1 (x3 (xo5 x y hx hy) fi176 rfl) rfl ?_)
 refine A15 ?_
 refine R1 (x3 (xn1 (Int.natAbs x) (by show len16 x<=1000000;omega)) fi178 rfl) rfl ?_
 refine A2 ?_
 refine R1 (x3 (xn1 (Int.natAbs y) (by show len16 y<=1000000;omega)) fi178 rfl) rfl (R2 (x3 (c_times x.natAbs y.natAbs (by omega) (by omega)) fi214 rfl) rfl rfl (R2 (x3 (c_result (!((wh x).neg==(wh y).neg)) (x.natAbs*y.natAbs) (by omega)) fi213 rfl) rfl rfl ?_))
 refine A7 ?_
 exact EN (rs:=[.cell 4 25,.tmp 5]) rfl rfl ⟨⟨_,_,_,_,_,rfl,rfl,ti25,(Le.of (by rw [sgn_mul]))⟩,⟨_,rfl,(Le.int (by rw [sgn_mul]))⟩,trivial⟩
theorem c_Gcd (x y:Int) (hx:len16 x<=1024) (hy:len16 y<=1024):
  Ct Tryz.prog 217 [tWh (wh x),tWh (wh y)] (tT [tWh (wh ((Int.gcd x y:Nat):Int)),tI 0]):=by
 have hx32:=len32_le hx
 have hy32:=len32_le hy
 have hg:=len_gcd (k:=1024) (m:=x.natAbs) (n:=y.natAbs) (by omega) (by omega)
 refine Ct.intro Tryz.func217 rfl Tryz.ntmps217 rfl ?_
 intro w F
 refine A4 ?_
 refine RE (x7 (k:=4) (n:=2) (agg:=true) zr25.1 zr25.2 rfl) trivial trivial qA ?_
 refine A8 ?_
 refine R2 (xb5 (n:=2) (f:=tWh) [wh x,wh y] Tryz.underlying241 el25 zf25 rfl (fun _=>inferInstance) rfl rfl rfl) rfl rfl (R1 (x3 (xo5 x y hx hy) fi176 rfl) rfl ?_)
 refine A10 ?_
 refine R1 (x3 (xn1 (Int.natAbs x) (by show len16 x<=1000000;omega)) fi178 rfl) rfl ?_
 refine A2 ?_
 refine R1 (x3 (xn1 (Int.natAbs y) (by show len16 y<=1000000;omega)) fi178 rfl) rfl (R2 (x3 (c_commonDivisor x.natAbs y.natAbs (by omega) (by omega)) fi231 rfl) rfl rfl (R2 (x3 (c_unpack false (Nat.gcd x.natAbs y.natAbs) (by omega)) fi228 rfl) rfl rfl ?_))
 refine A5 ?_
 exact EN (rs:=[.cell 4 25,.tmp 5]) rfl rfl ⟨⟨_,_,_,_,_,rfl,rfl,ti25,Le.refl⟩,⟨_,rfl,Le.refl⟩,trivial⟩
theorem c_Cmp (x y:Int) (hx:len16 x<=1024) (hy:len16 y<=1024):
  Ct Tryz.prog 140 [tWh (wh x),tWh (wh y)] (tI (cmpZ x y)):=by
 have hx32:=len32_le hx
 have hy32:=len32_le hy
 refine Ct.intro Tryz.func140 rfl Tryz.ntmps140 rfl ?_
 intro w F
 refine A12 ?_
 refine R2 (xb5 (n:=2) (f:=tWh) [wh x,wh y] Tryz.underlying241 el25 zf25 rfl (fun _=>inferInstance) rfl rfl rfl) rfl rfl (R1 (x3 (xo5 x y hx hy) fi176 rfl) rfl ?_)
 refine A16 ?_
 refine xc2 rfl (fun h160=> ?_) (fun h160=> ?_)
 ·
  have hs:(decide (x < 0)==decide (y < 0))=false:=by have h:=h160;rw [Bool.not_eq_true'] at h;exact h
  refine A7 ?_
  refine xc2 rfl (fun h161=> ?_) (fun h161=> ?_)
  ·
   have hx0:x < 0:=of_decide_eq_true h161
   refine A8 ?_
   exact E1 rfl rfl (Le.int (cmpZ_a hs hx0).symm)
  ·
   have hx0: ¬x < 0:=of_decide_eq_false h161
   refine A9 ?_
   exact E1 rfl rfl (Le.int (cmpZ_b hs hx0).symm)
 ·
  have hs:decide (x < 0)=decide (y < 0):=eq_of_beq (by have h:=h160;rw [Bool.not_eq_false'] at h;exact h)
  refine A6 ?_
  refine R1 (x3 (xn1 (Int.natAbs x) (by show len16 x<=1000000;omega)) fi178 rfl) rfl ?_
  refine A2 ?_
  refine R1 (x3 (xn1 (Int.natAbs y) (by show len16 y<=1000000;omega)) fi178 rfl) rfl (R2 (x3 (c_compare x.natAbs y.natAbs) fi177 rfl) rfl rfl ?_)
  refine A10 ?_
  refine xc2 rfl (fun h167=> ?_) (fun h167=> ?_)
  ·
   have hx0:x < 0:=of_decide_eq_true h167
   refine A3 ?_
   refine R1 (d_neg (wr64 (by have:=cmpN_bd x.natAbs y.natAbs;omega) (by have:=cmpN_bd x.natAbs y.natAbs;omega))) rfl ?_
   refine A5 ?_
   exact E1 rfl rfl (Le.int (by rw [cmpZ_c hs hx0];omega))
  ·
   have hx0: ¬x < 0:=of_decide_eq_false h167
   refine A9 ?_
   exact E1 rfl rfl (Le.int (cmpZ_d hs hx0).symm)
end An.S
namespace An
open Go
theorem div_neg {m y:Nat} (hy:0 < y):(-(m:Int)) / (y:Int)=(if m%y=0 then -((m / y:Nat):Int) else -((m / y+1:Nat):Int))/\(-(m:Int))%(y:Int)=(if m%y=0 then 0 else ((y - m%y:Nat):Int)):=by
 have h1:=Nat.div_add_mod m y
 have h2:=Nat.mod_lt m hy
 have hm:(m:Int)=y*((m / y:Nat):Int)+((m%y:Nat):Int):=by
  rw [<-Int.natCast_mul,<-Int.natCast_add,h1]
 generalize m / y=q at*
 generalize m%y=r at*
 have hu:= @Int.ediv_emod_unique (-(m:Int)) (y:Int)
 split
 ·rename_i h0
  refine (hu (by omega)).2 ⟨?_,by omega,by omega⟩
  rw [hm,h0];grind
 ·refine (hu (by omega)).2 ⟨?_,by omega,by omega⟩
  rw [hm,Int.natCast_sub (Nat.le_of_lt h2),Int.natCast_add];grind
theorem dm_quo {x y:Int} (hy:0 < y) {Q R:Nat} (h:(decide (x < 0)=true/\x.natAbs%y.natAbs≠0->Q=x.natAbs / y.natAbs+1/\R=y.natAbs - x.natAbs%y.natAbs)/\(¬(decide (x < 0)=true/\x.natAbs%y.natAbs≠0)->Q=x.natAbs / y.natAbs/\R=x.natAbs%y.natAbs)):
  sgn (!((wh x).neg==(wh y).neg)) Q=x / y/\sgn (wh y).neg R=x%y:=by
 have ey:(wh y).neg=false:=decide_eq_false (by omega)
 have ex:(wh x).neg=decide (x < 0):=rfl
 rw [ey,ex]
 obtain ⟨n,rfl⟩:=Int.eq_ofNat_of_zero_le (Int.le_of_lt hy)
 have hn:0 < n:=by omega
 simp only [Int.natAbs_natCast] at h
 by_cases hx:x < 0
 ·obtain ⟨m,hm⟩:=Int.eq_ofNat_of_zero_le (show 0<= -x by omega)
  have hxm:x= -(m:Int):=by omega
  subst hxm
  obtain ⟨d1,d2⟩:=div_neg (m:=m) hn
  simp only [Int.natAbs_neg,Int.natAbs_natCast] at h
  rw [d1,d2,decide_eq_true hx]
  by_cases h0:m%n=0
  ·obtain ⟨e1,e2⟩:=h.2 (by simp [h0])
   rw [e1,e2,if_pos h0,if_pos h0,h0]
   simp [sgn]
  ·obtain ⟨e1,e2⟩:=h.1 ⟨decide_eq_true hx,h0⟩
   rw [e1,e2,if_neg h0,if_neg h0]
   simp [sgn]
 ·obtain ⟨m,rfl⟩:=Int.eq_ofNat_of_zero_le (show 0<=x by omega)
  simp only [Int.natAbs_natCast] at h
  obtain ⟨e1,e2⟩:=h.2 fun h'=>hx (of_decide_eq_true h'.1)
  rw [e1,e2,decide_eq_false hx]
  simp [sgn]
theorem len_one:(dig 4294967296 1).length<=1:=(xa8 x9 1 1).2 (by decide)
theorem wh_len (v:Nat) (h:v < 18446744073709551616):(dig 65536 v).length<=4:=(xa8 x8 v 4).2 (by simpa using h)
theorem count_step {v i c:Nat} (h:c=(dig 65536 (v%65536 ^ i)).length):(v / 65536 ^ i%65536≠0->i+1=(dig 65536 (v%65536 ^ (i+1))).length)/\(v / 65536 ^ i%65536=0->c=(dig 65536 (v%65536 ^ (i+1))).length):=by
 have e:=xg7 65536 v i
 refine ⟨fun h0=> ?_,fun h0=>by rw [e,h0,Nat.mul_zero,Nat.add_zero];exact h⟩
 have hp:0 < 65536 ^ i:=Nat.pow_pos (by decide)
 have h1:(dig 65536 (v%65536 ^ (i+1))).length<=i+1:=(xa8 x8 _ _).2 (Nat.mod_lt _ (Nat.pow_pos (by decide)))
 have h2: ¬(dig 65536 (v%65536 ^ (i+1))).length<=i:=fun h'=>by
  have h3:=(xa8 x8 _ _).1 h'
  rw [e] at h3
  have h4:65536 ^ i*1<=65536 ^ i*(v / 65536 ^ i%65536):=Nat.mul_le_mul_left _ (by omega)
  omega
 omega
theorem shr16i (v i:Nat):v / 2 ^ (16*i)=v / 65536 ^ i:=by rw [Nat.pow_mul]
theorem toU64 {n:Int}:IntKind.u64.wrap n=(((n%18446744073709551616).toNat:Nat):Int):=by
 rw [mu64];omega
theorem negU64 {v:Nat} (hv:v < 18446744073709551616):IntKind.u64.wrap (0 - (v:Int))=(((18446744073709551616 - v)%18446744073709551616:Nat):Int):=by
 rw [mu64];omega
end An
namespace An.S
open Go Go.Proofs An
instance fi98:FnI Tryz.prog 98:=⟨_,Tryz.func98,by kernel_rfl,rfl⟩
instance fi183:FnI Tryz.prog 183:=⟨_,Tryz.func183,by kernel_rfl,rfl⟩
theorem ar224:ArI Tryz.prog 224 153 4 1 false:=⟨by kernel_rfl,ti153⟩
theorem c_plusOne (a:Nat) (ha:(dig 4294967296 a).length<=10000):Ct Tryz.prog 242 [tN a,tWs [1]] (tN (a+1)):=by
 have e:dig 4294967296 1=[1]:=by rw [xj9 x9 (by decide),show (1:Nat) / 4294967296=0 by decide,xc8]
 have:=c_plus a 1 (by omega) (by rw [e];decide)
 rw [tN,tN,e] at this;exact this
theorem c_DivMod (x y:Int) (hx:len16 x<=1024) (hy:len16 y<=1024) (hy0:0 < y):
  Ct Tryz.prog 223 [tWh (wh x),tWh (wh y)] (tT [tWh (wh (x / y)),tWh (wh (x%y)),tI 0]):=by
 have hx32:=len32_le hx
 have hy32:=len32_le hy
 have hq32:(dig 4294967296 (x.natAbs / y.natAbs)).length<=1024:=Nat.le_trans (xd0 x9 (Nat.div_le_self _ _)) hx32
 have hrl:x.natAbs%y.natAbs < y.natAbs:=Nat.mod_lt _ (by omega)
 have hr32:(dig 4294967296 (x.natAbs%y.natAbs)).length<=1024:=Nat.le_trans (xd0 x9 (Nat.le_of_lt hrl)) hy32
 have hs32:(dig 4294967296 (y.natAbs - x.natAbs%y.natAbs)).length<=1024:=Nat.le_trans (xd0 x9 (Nat.sub_le _ _)) hy32
 have hq1:=len_add (k:=1024) (m:=x.natAbs / y.natAbs) (n:=1) hq32 (Nat.le_trans len_one (by decide))
 have ey:(wh y).neg=false:=decide_eq_false (by omega)
 have ex:(wh x).neg=decide (x < 0):=rfl
 refine Ct.intro Tryz.func223 rfl Tryz.ntmps223 rfl ?_
 intro w F
 refine A4 ?_
 refine RE (x7 (k:=4) (n:=2) (agg:=true) zr25.1 zr25.2 rfl) trivial trivial qA (RE (x7 (k:=5) (n:=2) (agg:=true) zr25.1 zr25.2 rfl) trivial trivial qA ?_)
 refine A8 ?_
 refine R2 (xb5 (n:=2) (f:=tWh) [wh x,wh y] Tryz.underlying241 el25 zf25 rfl (fun _=>inferInstance) rfl rfl rfl) rfl rfl (R1 (x3 (xo5 x y hx hy) fi176 rfl) rfl ?_)
 refine A15 ?_
 refine C_bF rfl (decide_eq_false (by (intro h;have h2:(wh y).l.length=0:=(by omega);have h3:y.natAbs=0:=(xi1 x8).1 (List.length_eq_zero_iff.1 h2);omega))) ?_
 refine A6 ?_
 refine R1 (x3 (xn1 (Int.natAbs y) (by show len16 y<=1000000;omega)) fi178 rfl) rfl ?_
 refine A7 ?_
 refine R1 (x3 (xn1 (Int.natAbs x) (by show len16 x<=1000000;omega)) fi178 rfl) rfl ?_
 refine A1 ?_
 refine R2 (x3 (c_divide x.natAbs y.natAbs (by omega) (by omega) (by omega)) fi241 rfl) rfl rfl ?_
 refine A7 ?_
 refine xf0 (fun (fm:(Nat)×(Nat))=>(fun (Q:Nat) (R:Nat)=>(sgn (!((wh x).neg==(wh y).neg)) Q=x / y/\sgn (wh y).neg R=x%y)/\(dig 4294967296 Q).length<=1025/\(dig 4294967296 R).length<=1024) fm.1 fm.2) (wB fun (Q:Nat) (R:Nat)=>uV (uV (uO (uO (uO (uO uN 2 (.ptr 2 0)) 3 (.ptr 3 0)) 4 (.ptr 4 0)) 5 (.ptr 5 0)) 8 (tN Q)) 9 (tN R)) (wB fun (Q:Nat) (R:Nat)=>uK (uK (uK (uK uN 2 25 2 true [.val (tWh (wh x))]) 3 25 2 true [.val (tWh (wh y))]) 4 25 2 true [.val (tWh ⟨false,[]⟩)]) 5 25 2 true [.val (tWh ⟨false,[]⟩)]) (nm [2,3,4,5]) ?_ ?_
 ·
  refine A8 ?_
  refine RGcase (t:=39) rfl (fun h140=> ?_) (fun h140=> ?_)
  ·
   have hxn:decide (x < 0)=true:=by have h:=h140;rw [ey,ex] at h;simpa using h
   refine A6 ?_
   refine x6 rfl (fun h140_2=> ?_) (fun h140_2=> ?_)
   ·
    have hr0:x.natAbs%y.natAbs≠0:=fun h=>by rw [h,xc8] at h140_2;simp at h140_2
    refine A3 ?_
    refine R1 (xk9 (n:=1) [1] Tryz.underlying220 el168 zf168 rfl rfl rfl) rfl (R2 (x3 (c_plusOne _ (by omega)) fi242 rfl) rfl rfl ?_)
    refine A6 ?_
    refine R2 (x3 (c_minus y.natAbs (x.natAbs%y.natAbs) (by omega) (by omega)) fi243 rfl) rfl rfl ?_
    refine A2 ?_
    exact kF ((x.natAbs / y.natAbs+1,y.natAbs - x.natAbs%y.natAbs)) (by dsimp only;exact ⟨dm_quo hy0 ⟨fun _=>⟨rfl,rfl⟩,fun h=>(h ⟨hxn,hr0⟩).elim⟩,hq1,hs32⟩)
   ·
    have hr0:x.natAbs%y.natAbs=0:=(xi1 x9).1 (List.length_eq_zero_iff.1 (by omega))
    refine A1 ?_
    exact kF ((x.natAbs / y.natAbs,x.natAbs%y.natAbs)) (by dsimp only;exact ⟨dm_quo hy0 ⟨fun h=>(h.2 hr0).elim,fun _=>⟨rfl,rfl⟩⟩,by omega,hr32⟩)
  ·
   have hxn: ¬decide (x < 0)=true:=by have h:=h140;rw [ey,ex] at h;simpa using h
   refine A8 ?_
   exact kF ((x.natAbs / y.natAbs,x.natAbs%y.natAbs)) (by dsimp only;exact ⟨dm_quo hy0 ⟨fun h=>(hxn h.1).elim,fun _=>⟨rfl,rfl⟩⟩,by omega,hr32⟩)
 ·
  intro fm hj
  obtain ⟨Q,R⟩:=fm
  replace hj:(sgn (!((wh x).neg==(wh y).neg)) Q=x / y/\sgn (wh y).neg R=x%y)/\(dig 4294967296 Q).length<=1025/\(dig 4294967296 R).length<=1024:=hj
  show wc _ _ _ _ (uV (uV (uO (uO (uO (uO uN 2 (.ptr 2 0)) 3 (.ptr 3 0)) 4 (.ptr 4 0)) 5 (.ptr 5 0)) 8 (tN Q)) 9 (tN R)) (uK (uK (uK (uK uN 2 25 2 true [.val (tWh (wh x))]) 3 25 2 true [.val (tWh (wh y))]) 4 25 2 true [.val (tWh ⟨false,[]⟩)]) 5 25 2 true [.val (tWh ⟨false,[]⟩)]) _
  obtain ⟨⟨hQ,hR⟩,hQl,hRl⟩:=hj
  refine A8 ?_
  refine R2 (x3 (c_unpack (!((wh x).neg==(wh y).neg)) Q (by omega)) fi228 rfl) rfl rfl ?_
  refine A3 ?_
  refine R2 (x3 (c_unpack (wh y).neg R (by omega)) fi228 rfl) rfl rfl ?_
  refine A6 ?_
  exact EN (rs:=[.cell 4 25,.cell 5 25,.tmp 6]) rfl rfl ⟨⟨_,_,_,_,_,rfl,rfl,ti25,(Le.of (by rw [hQ]))⟩,⟨_,_,_,_,_,rfl,rfl,ti25,(Le.of (by rw [hR]))⟩,⟨_,rfl,Le.refl⟩,trivial⟩
theorem rW_take0 {k:IntKind} {xs:List Nat} {n:Nat}:(rW k xs).take n=(xs.take n).map fun x:Nat=> .val (tE (.int k (x:Int))):=by
 rw [rW,List.map_take]
theorem c_FromInt (n:Int) (h1: -9223372036854775808<=n) (h2:n<=9223372036854775807):
  Ct Tryz.prog 142 [tI n] (tWh (wh n)):=by
 refine Ct.intro Tryz.func142 rfl Tryz.ntmps142 rfl ?_
 intro w F
 refine A2 ?_
 refine RE (x7 (k:=2) (n:=2) (agg:=true) zr25.1 zr25.2 rfl) trivial trivial qA ?_
 refine A5 ?_
 refine R1 (x5 Tryz.underlying157 (isS Tryz.underlying3) toU64) rfl ?_
 refine A3 ?_
 refine xf0 (fun (v:Nat)=>v=n.natAbs) (fun (v:Nat)=>uV (uO (uV uN 0 (tI n)) 2 (.ptr 2 0)) 3 (tE (.int .u64 ((v:Nat):Int)))) (fun (v:Nat)=>uK uN 2 25 2 true [.val (tWh ⟨false,[]⟩)]) (nm [2]) ?_ ?_
 ·
  refine A6 ?_
  refine x6 rfl (fun h48=> ?_) (fun h48=> ?_)
  ·
   refine A2 ?_
   refine R1 (d_neg (negU64 (by omega))) rfl ?_
   refine A2 ?_
   exact kF ((18446744073709551616 - (n%18446744073709551616).toNat)%18446744073709551616) (by omega)
  ·
   refine A1 ?_
   exact kF ((n%18446744073709551616).toNat) (by omega)
 ·
  intro v hv
  refine A2 ?_
  refine RE (d_allocA (k:=4) (len:=4) (u:= .int .u16 0) Tryz.underlying224 (z:= .agg #[.int .u16 0,.int .u16 0,.int .u16 0,.int .u16 0]) (by kernel_rfl) rfl rfl) trivial trivial qA ?_
  refine A14 ?_
  refine cL (fun (fm:(Nat)×(List Nat)×(Nat))=>(fun (i:Nat) (ls:List Nat) (c:Nat)=>i<=4/\ls.length=4/\ls.take i=dgs 65536 i v/\c=(dig 65536 (v%65536 ^ i)).length) fm.1 fm.2.1 fm.2.2) (wC fun (i:Nat) (ls:List Nat) (c:Nat)=>uV (uV (uO (uV (uO (uV uN 0 (tI n)) 2 (.ptr 2 0)) 3 (tE (.int .u64 ((v:Nat):Int)))) 4 (.ptr 4 0)) 5 (tI c)) 13 (tI i)) (wC fun (i:Nat) (ls:List Nat) (c:Nat)=>uK (uK uN 2 25 2 true [.val (tWh ⟨false,[]⟩)]) 4 224 1 false (rW .u16 ls)) [2,4] (fun (fm:(Nat)×(List Nat)×(Nat))=>(fun (i:Nat) (ls:List Nat) (c:Nat)=>4 - i) fm.1 fm.2.1 fm.2.2) ((0,[0,0,0,0],0)) (by dsimp only;exact ⟨by omega,rfl,rfl,by rw [Nat.pow_zero,Nat.mod_one,xc8];rfl⟩) ?_
  intro fm hI
  obtain ⟨i,ls,c⟩:=fm
  replace hI:i<=4/\ls.length=4/\ls.take i=dgs 65536 i v/\c=(dig 65536 (v%65536 ^ i)).length:=hI
  show wc _ _ _ _ (uV (uV (uO (uV (uO (uV uN 0 (tI n)) 2 (.ptr 2 0)) 3 (tE (.int .u64 ((v:Nat):Int)))) 4 (.ptr 4 0)) 5 (tI c)) 13 (tI i)) (uK (uK uN 2 25 2 true [.val (tWh ⟨false,[]⟩)]) 4 224 1 false (rW .u16 ls)) _
  obtain ⟨hi,hl,ht,hc⟩:=hI
  obtain ⟨k1,k2⟩:=count_step hc
  have hcl:c<=i:=by rw [hc];exact (xa8 x8 _ _).2 (Nat.mod_lt _ (Nat.pow_pos (by decide)))
  refine A6 ?_
  refine x6 rfl (fun h53=> ?_) (fun h53=> ?_)
  ·
   refine A15 ?_
   refine R2 (xi2 (wr64 (by omega) (by omega))) rfl rfl (R2 (xh3 (by omega) (shrN (s:=16*i) (by omega) (by show 16*i<=64;omega))) rfl rfl (R1 (x5 Tryz.underlying153 (isS Tryz.underlying157) cut16) rfl (R2 (d_indexA ar224 (by omega) (by omega) rfl) rfl rfl (RE (xb8 (i) ti153 (xj0 (by omega)) (by omega) (xh1 (m:=_) rfl)) qB qA trivial ?_))))
   refine A5 ?_
   refine R2 (d_indexA ar224 (by omega) (by omega) rfl) rfl rfl (RE (xc1 (i) ti153 (xn7 (by rw [List.length_set];omega)) (by omega)) qA qA trivial ?_)
   refine A3 ?_
   refine x6 rfl (fun h55=> ?_) (fun h55=> ?_)
   ·
    have hd:(ls.set i (v / 2 ^ (16*i)%65536)).getD i 0=v / 65536 ^ i%65536:=by rw [xm8 (by omega),shr16i]
    refine A11 ?_
    rw [hd] at h55
    exact kF ((i+1,ls.set i (v / 2 ^ (16*i)%65536),i+1)) ⟨(by dsimp only;exact ⟨by omega,by simpa using hl,by rw [xj8 (by omega),ht,xk6,shr16i],k1 (by omega)⟩),(by dsimp only;omega)⟩
   ·
    have hd:(ls.set i (v / 2 ^ (16*i)%65536)).getD i 0=v / 65536 ^ i%65536:=by rw [xm8 (by omega),shr16i]
    refine A7 ?_
    rw [hd] at h55
    exact kF ((i+1,ls.set i (v / 2 ^ (16*i)%65536),c)) ⟨(by dsimp only;exact ⟨by omega,by simpa using hl,by rw [xj8 (by omega),ht,xk6,shr16i],k2 (by omega)⟩),(by dsimp only;omega)⟩
  ·
   refine A10 ?_
   refine RE (d_sliceAS (f:=fun n:Nat=>tE (.int .u16 n)) (ys:=ls.take c) (u:=c) ar224 (fun _ h=>h) (fun h=>by cases h) (by omega) rW_take0 (by rw [xj4];exact hl) (by rw [List.length_take];omega) rfl) qB qA trivial (R1 (x3 (xr1 (ls.take c) (by rw [List.length_take];omega)) fi98 rfl) rfl (R2 (xb0 (r:=tS [⟨1,false,tB (decide (n < 0))⟩,⟨1,false,tLm (ls.take c)⟩]) (ts:=[(0,tB (decide (n < 0))),(1,tLm (ls.take c))]) bu25 zr25.2 (Bc 0 rfl rfl rfl (Bc 1 rfl rfl rfl Le.refl))) rfl rfl ?_))
   refine A4 ?_
   have hi4:i=4:=by omega
   subst hi4
   have hfin:ls.take c=dig 65536 n.natAbs:=by
    rw [<-hl,List.take_length,hl] at ht
    rw [ht,take_dgs (by omega),<-hv]
    rw [Nat.mod_eq_of_lt (by show v < 18446744073709551616;omega)] at hc
    rw [hc,xo8 x8]
   exact EC rfl ⟨_,_,_,_,_,rfl,rfl,ti25,(Le.of (by rw [hfin];rfl))⟩
theorem c_Equal16 (xs ys:List Nat):
  Ct Tryz.prog 183 [tLm xs,tLm ys] (tB (decide (xs=ys))):=by
 refine Ct.intro Tryz.func183 rfl Tryz.ntmps183 rfl ?_
 intro w F
 refine xg9 (s:=0) rfl (fun hl0=> ?_)
 refine A15 ?_
 refine x6 rfl (fun h21=> ?_) (fun h21=> ?_)
 ·
  refine A7 ?_
  exact E1 rfl rfl (Le.bool (decide_eq_false (fun h=>by rw [h] at h21;omega)).symm)
 ·
  have hll:xs.length=ys.length:=by omega
  refine A11 ?_
  refine cL (fun (i:Nat)=>i<=xs.length/\xs.take i=ys.take i) (fun (i:Nat)=>uV (uV (uV (uV uN 0 (tLm xs)) 1 (tLm ys)) 12 (tI xs.length)) 13 (tI i)) (fun (i:Nat)=>fun _=>none) [] (fun (i:Nat)=>xs.length - i) (0) ⟨Nat.zero_le _,rfl⟩ ?_
  intro i hI
  obtain ⟨hi,ht⟩:=hI
  refine A6 ?_
  refine x6 rfl (fun h24=> ?_) (fun h24=> ?_)
  ·
   refine A14 ?_
   refine R2 (x4 sl23 (i) (by omega) (gN (by omega))) rfl rfl ?_
   refine A3 ?_
   refine R2 (x4 sl23 (i) (by omega) (gN (by omega))) rfl rfl ?_
   refine A4 ?_
   refine x6 rfl (fun h25=> ?_) (fun h25=> ?_)
   ·
    refine A11 ?_
    exact E1 rfl rfl (Le.bool (decide_eq_false (fun h=>by rw [h] at h25;omega)).symm)
   ·
    refine A7 ?_
    exact kF (i+1) ⟨⟨by omega,by rw [xf8 xs i (by omega),xf8 ys i (by omega),ht,show xs.getD i 0=ys.getD i 0 by omega]⟩,(by omega)⟩
  ·
   refine A11 ?_
   exact E1 rfl rfl (Le.bool (decide_eq_true (by rw [show i=xs.length by omega,List.take_length,hll,List.take_length] at ht;exact ht)).symm)
theorem c_WSame (x y:Wh):
  Ct Tryz.prog 148 [tWh x,tWh y] (tB (decide (x=y))):=by
 refine Ct.intro Tryz.func148 rfl Tryz.ntmps148 rfl ?_
 intro w F
 refine A15 ?_
 refine RGcase (t:=10) rfl (fun h42=> ?_) (fun h42=> ?_)
 ·
  have hn:x.neg=y.neg:=eq_of_beq h42
  refine A4 ?_
  refine Rg h42 rfl (x3 (c_Equal16 _ _) fi183 rfl) rfl qB ?_
  refine A5 ?_
  exact E1 rfl rfl (Le.bool (by obtain ⟨a,b⟩:=x;obtain ⟨c,d⟩:=y;simp only at hn;subst hn;simp))
 ·
  have hn:x.neg≠y.neg:=fun h=>by rw [h] at h42;simp at h42
  refine A10 ?_
  exact E1 rfl rfl (Le.bool (decide_eq_false (fun h=>hn (by rw [h]))).symm)
end An.S
namespace An
open Go
structure Fr where
  n:Wh
  d:Wh
deriving DecidableEq
abbrev tFr (f:Fr):Ty:=tS [⟨2,true,tWh f.n⟩,⟨2,true,tWh f.d⟩]
abbrev tTm (f:Fr):Ty:=tS [⟨4,true,tFr f⟩]
def fr (q:Rat):Fr:=⟨wh q.num,wh q.den⟩
def fr0:Fr:=⟨⟨false,[]⟩,⟨false,[]⟩⟩
def Fr.sh (f:Fr):Bool:=decide (f.n.l.length<=256) && decide (f.d.l.length<=256)
def short (q:Rat):Prop:=len16 q.num<=256/\len16 q.den<=256
instance (q:Rat):Decidable (short q):=inferInstanceAs (Decidable (_/\_))
def resF (q:Rat):Fr:=if short q then fr q else fr0
def resFE (q:Rat):Int:=if short q then 0 else 3
theorem sh_fr (q:Rat):(fr q).sh=decide (short q):=by
 show (decide (len16 q.num<=256) && decide (len16 q.den<=256))=_
 exact (Bool.decide_and _ _).symm
def Wh.int (x:Wh):Int:=sgn x.neg (val 65536 x.l)
theorem xo4 (z:Int):(wh z).int=z:=by
 show sgn (wh z).neg (val 65536 (dig 65536 z.natAbs))=z
 rw [xm9 x8];exact sgn_wh z
def Fr.valid (f:Fr):Bool:=f.sh && f.n.valid && f.d.valid && decide (0 < f.d.int) && decide (Int.gcd f.n.int f.d.int=1)
theorem Fr.of_valid {f:Fr} (hn:Dig 65536 f.n.l) (hd:Dig 65536 f.d.l) (h:f.valid=true): ∃q:Rat,f=fr q/\short q:=by
 obtain ⟨n,d⟩:=f
 simp only [Fr.valid,Bool.and_eq_true,decide_eq_true_eq] at h
 obtain ⟨⟨⟨⟨h1,h2⟩,h3⟩,h4⟩,h5⟩:=h
 obtain ⟨x,hx,hxl⟩:=Wh.of_valid hn h2
 obtain ⟨y,hy,hyl⟩:=Wh.of_valid hd h3
 simp only at hx hy
 subst hx;subst hy
 rw [xo4] at h4;rw [xo4,xo4] at h5
 obtain ⟨m,rfl⟩:=Int.eq_ofNat_of_zero_le (Int.le_of_lt h4)
 have hm:m≠0:=by omega
 have hq: ∃q:Rat,q.num=x/\q.den=m:=⟨⟨x,m,hm,by simpa [Int.gcd] using h5⟩,rfl,rfl⟩
 obtain ⟨q,q1,q2⟩:=hq
 have e:(⟨wh x,wh m⟩:Fr)=fr q:=by rw [fr,q1,q2]
 refine ⟨q,e,?_⟩
 rw [e,sh_fr] at h1
 exact of_decide_eq_true h1
theorem valid_fr {q:Rat} (h:short q):(fr q).valid=true:=by
 have h1:(wh q.num).valid=true:=valid_wh (Nat.le_trans h.1 (by decide))
 have h2:(wh (q.den:Int)).valid=true:=valid_wh (Nat.le_trans h.2 (by decide))
 have hd:=q.den_nz
 have hg:Int.gcd q.num (q.den:Int)=1:=by simpa [Int.gcd] using q.reduced
 have e1:(fr q).n.int=q.num:=xo4 _
 have e2:(fr q).d.int=(q.den:Int):=xo4 _
 simp only [Fr.valid,Bool.and_eq_true,decide_eq_true_eq]
 rw [e1,e2]
 exact ⟨⟨⟨⟨by rw [sh_fr];exact decide_eq_true h,h1⟩,h2⟩,by omega⟩,hg⟩
theorem wh_one:wh 1=⟨false,[1]⟩:=by
 have e:dig 65536 1=[1]:=by rw [xj9 x8 (by decide),show (1:Nat) / 65536=0 by decide,xc8]
 show (⟨decide ((1:Int) < 0),dig 65536 1⟩:Wh)=_
 rw [e];rfl
theorem wh_zero:wh 0=⟨false,[]⟩:=by
 show (⟨decide ((0:Int) < 0),dig 65536 0⟩:Wh)=_
 rw [xc8];rfl
theorem len16_mul {x y:Int} {k l:Nat} (hx:len16 x<=k) (hy:len16 y<=l):len16 (x*y)<=k+l:=by
 have h1:=(xa8 x8 x.natAbs k).1 hx
 have h2:=(xa8 x8 y.natAbs l).1 hy
 refine (xa8 x8 _ _).2 ?_
 rw [Int.natAbs_mul,Nat.pow_add]
 exact Nat.mul_lt_mul'' h1 h2
theorem len16_add {x y:Int} {k:Nat} (hx:len16 x<=k) (hy:len16 y<=k):len16 (x+y)<=k+1:=by
 have h1:=(xa8 x8 x.natAbs k).1 hx
 have h2:=(xa8 x8 y.natAbs k).1 hy
 refine (xa8 x8 _ _).2 ?_
 rw [Nat.pow_succ]
 generalize 65536 ^ k=P at*
 omega
theorem len16_neg (x:Int):len16 (-x)=len16 x:=by rw [len16,len16,Int.natAbs_neg]
theorem len16_le {x y:Int} (h:x.natAbs<=y.natAbs):len16 x<=len16 y:=xd0 x8 h
theorem len16_div {x y:Int} {k:Nat} (hx:len16 x<=k):len16 (x / y)<=k:=by
 refine Nat.le_trans (len16_le ?_) hx
 exact Int.natAbs_ediv_le_natAbs x y
theorem lowest_eq {n d:Int} (hd:0 < d):fr (Rat.divInt n d)=⟨wh (n / (Int.gcd n d:Int)),wh (d / (Int.gcd n d:Int))⟩:=by
 obtain ⟨m,rfl⟩:=Int.eq_ofNat_of_zero_le (Int.le_of_lt hd)
 have hm:m≠0:=by omega
 rw [Rat.divInt_ofNat,<-Rat.normalize_eq_mkRat hm,Rat.normalize_eq]
 simp only [fr]
 have e:Int.gcd n (m:Int)=n.natAbs.gcd m:=by simp [Int.gcd]
 rw [e,<-Int.natCast_ediv]
def cmpQ (a b:Rat):Int:=if a < b then -1 else if a=b then 0 else 1
theorem cmpQ_eq (a b:Rat):cmpZ (a.num*b.den) (b.num*a.den)=cmpQ a b:=by
 simp only [cmpZ,cmpQ,Rat.lt_iff]
 split
 ·rfl
 ·rename_i h
  by_cases hab:a=b
  ·subst hab;rw [if_pos rfl,if_pos rfl]
  ·rw [if_neg hab,if_neg]
   intro he
   apply hab
   have h1:a<=b:=(Rat.le_iff a b).2 (by omega)
   have h2:b<=a:=(Rat.le_iff b a).2 (by omega)
   exact Rat.le_antisymm h1 h2
end An
namespace An.S
open Go Go.Proofs An
instance ti27:TyI Tryz.prog 27 4 true:=⟨by kernel_rfl,by kernel_rfl⟩
instance ti198:TyI Tryz.prog 198 4 true:=⟨by kernel_rfl,by kernel_rfl⟩
instance fo27_0:FoI Tryz.prog 27 0 0:=⟨by kernel_rfl⟩
instance fo27_1:FoI Tryz.prog 27 1 2:=⟨by kernel_rfl⟩
instance fo198_0:FoI Tryz.prog 198 0 0:=⟨by kernel_rfl⟩
instance fi179:FnI Tryz.prog 179:=⟨_,Tryz.func179,by kernel_rfl,rfl⟩
instance fi184:FnI Tryz.prog 184:=⟨_,Tryz.func184,by kernel_rfl,rfl⟩
instance fi187:FnI Tryz.prog 187:=⟨_,Tryz.func187,by kernel_rfl,rfl⟩
instance fi188:FnI Tryz.prog 188:=⟨_,Tryz.func188,by kernel_rfl,rfl⟩
instance fi201:FnI Tryz.prog 201:=⟨_,Tryz.func201,by kernel_rfl,rfl⟩
instance fi202:FnI Tryz.prog 202:=⟨_,Tryz.func202,by kernel_rfl,rfl⟩
instance fi203:FnI Tryz.prog 203:=⟨_,Tryz.func203,by kernel_rfl,rfl⟩
instance fi217:FnI Tryz.prog 217:=⟨_,Tryz.func217,by kernel_rfl,rfl⟩
instance fi223:FnI Tryz.prog 223:=⟨_,Tryz.func223,by kernel_rfl,rfl⟩
theorem zr27:(Tryz.prog.info? 27).bind (·.zero)=some (.agg #[.bool false,.slice none 0 0,.bool false,.slice none 0 0])/\ ∀F w,(tS [⟨2,true,(tS [⟨1,false,(tE (.bool false))⟩,⟨1,false,(tLm [])⟩])⟩,⟨2,true,(tS [⟨1,false,(tE (.bool false))⟩,⟨1,false,(tLm [])⟩])⟩]).p F w (.agg #[.bool false,.slice none 0 0,.bool false,.slice none 0 0]):=⟨by kernel_rfl,fun _ _=>⟨_,rfl,rfl,⟨fun h=>Bool.noConfusion h,⟨_,rfl,rfl,⟨fun _=>rfl,rfl⟩,⟨fun _=>rfl,⟨none,0,rfl,Nat.le_refl _,by decide,.inl rfl⟩⟩,trivial⟩⟩,⟨fun h=>Bool.noConfusion h,⟨_,rfl,rfl,⟨fun _=>rfl,rfl⟩,⟨fun _=>rfl,⟨none,0,rfl,Nat.le_refl _,by decide,.inl rfl⟩⟩,trivial⟩⟩,trivial⟩⟩
theorem zr198:(Tryz.prog.info? 198).bind (·.zero)=some (.agg #[.bool false,.slice none 0 0,.bool false,.slice none 0 0])/\ ∀F w,(tS [⟨4,true,(tS [⟨2,true,(tS [⟨1,false,(tE (.bool false))⟩,⟨1,false,(tLm [])⟩])⟩,⟨2,true,(tS [⟨1,false,(tE (.bool false))⟩,⟨1,false,(tLm [])⟩])⟩])⟩]).p F w (.agg #[.bool false,.slice none 0 0,.bool false,.slice none 0 0]):=⟨by kernel_rfl,fun _ _=>⟨_,rfl,rfl,⟨fun h=>Bool.noConfusion h,⟨_,rfl,rfl,⟨fun h=>Bool.noConfusion h,⟨_,rfl,rfl,⟨fun _=>rfl,rfl⟩,⟨fun _=>rfl,⟨none,0,rfl,Nat.le_refl _,by decide,.inl rfl⟩⟩,trivial⟩⟩,⟨fun h=>Bool.noConfusion h,⟨_,rfl,rfl,⟨fun _=>rfl,rfl⟩,⟨fun _=>rfl,⟨none,0,rfl,Nat.le_refl _,by decide,.inl rfl⟩⟩,trivial⟩⟩,trivial⟩⟩,trivial⟩⟩
theorem bu27:BuI Tryz.prog 27 (fun i=>[(0,2),(2,2)][i]?) (.agg #[.bool false,.slice none 0 0,.bool false,.slice none 0 0]):=BuI.struct Tryz.underlying27 (by kernel_rfl) (by kernel_rfl)
theorem bu198:BuI Tryz.prog 198 (fun i=>[(0,4)][i]?) (.agg #[.bool false,.slice none 0 0,.bool false,.slice none 0 0]):=BuI.struct Tryz.underlying198 (by kernel_rfl) (by kernel_rfl)
theorem isOne_iff {x:Wh} (hn:x.neg=false) (hl:x.l.length=1):decide (((x.l.getD 0 0:Nat):Int)=1)=decide (x=⟨false,[1]⟩):=by
 obtain ⟨n,l⟩:=x
 simp only at hn hl
 subst hn
 obtain ⟨a,rfl⟩:=List.length_eq_one_iff.1 hl
 simp
 omega
theorem neg_wh (z:Int):wh (-z)=⟨!(wh z).neg && decide (0 < (wh z).l.length),(wh z).l⟩:=by
 have h:(wh z).l.length=0↔z=0:=by
  show (dig 65536 z.natAbs).length=0↔z=0
  rw [List.length_eq_zero_iff,xi1 x8];omega
 have e1:(wh (-z)).l=(wh z).l:=by show dig 65536 (-z).natAbs=dig 65536 z.natAbs;rw [Int.natAbs_neg]
 have e2:(wh (-z)).neg=(!(wh z).neg && decide (0 < (wh z).l.length)):=by
  show decide (-z < 0)=(!decide (z < 0) && decide (0 < (wh z).l.length))
  by_cases h0:z=0
  ·subst h0;simp [wh_zero]
  ·have:0 < (wh z).l.length:=by omega
   rw [decide_eq_true this,Bool.and_true,<-decide_not]
   exact decide_eq_decide.2 (by omega)
 have e3: ∀a:Wh,a=⟨a.neg,a.l⟩:=fun _=>rfl
 rw [e3 (wh (-z)),e1,e2]
theorem c_isOne (x:Wh):
  Ct Tryz.prog 187 [tWh x] (tB (decide (x=⟨false,[1]⟩))):=by
 refine Ct.intro Tryz.func187 rfl Tryz.ntmps187 rfl ?_
 intro w F
 refine A12 ?_
 refine RGcase (t:=6) rfl (fun h54=> ?_) (fun h54=> ?_)
 ·
  refine A6 ?_
  refine RGcaseD (t:=12) rfl (fun h54_2=> ?_) (fun h54_2=> ?_)
  ·
   refine A2 ?_
   refine Rg (decide_eq_true h54_2) rfl (x4 sl23 (0) (by omega) (gN (by omega))) rfl qB ?_
   refine A7 ?_
   exact E1 rfl rfl (Le.bool (isOne_iff (by simpa using h54) (by omega)))
  ·
   refine A10 ?_
   exact E1 rfl rfl (Le.bool (decide_eq_false (fun h=>h54_2 (by rw [h];rfl))).symm)
 ·
  refine A16 ?_
  exact E1 rfl rfl (Le.bool (decide_eq_false (fun h=>by rw [h] at h54;simp at h54)).symm)
theorem c_Tlong (f:Fr):
  Ct Tryz.prog 184 [tTm f] (tB (!f.sh)):=by
 refine Ct.intro Tryz.func184 rfl Tryz.ntmps184 rfl ?_
 intro w F
 refine A11 ?_
 refine xe1 (0) ti23 rfl rfl rfl (At.t (At.g 0 rfl rfl) (At.t (At.g 0 rfl rfl) (At.g 1 rfl rfl))) rfl ?_
 refine A3 ?_
 refine RGcaseD (t:=9) rfl (fun h33=> ?_) (fun h33=> ?_)
 ·
  refine A11 ?_
  exact E1 rfl rfl (Le.bool (by rw [Fr.sh,decide_eq_false (show ¬f.n.l.length<=256 by omega)];rfl))
 ·
  refine A3 ?_
  refine xb2 (decide_eq_false h33) rfl rfl (0) ti23 rfl rfl rfl (At.t (At.g 0 rfl rfl) (At.t (At.g 1 rfl rfl) (At.g 1 rfl rfl))) rfl ?_
  refine A7 ?_
  exact E1 rfl rfl (Le.bool (by rw [Fr.sh,decide_eq_true (show f.n.l.length<=256 by omega),Bool.true_and,<-decide_not];exact decide_eq_decide.2 (by omega)))
theorem c_Tresult (f:Fr):
  Ct Tryz.prog 171 [tTm f] (tT [tFr (if f.sh then f else fr0),tI (if f.sh then 0 else 3)]):=by
 refine Ct.intro Tryz.func171 rfl Tryz.ntmps171 rfl ?_
 intro w F
 refine A3 ?_
 refine RE (x7 (k:=2) (n:=4) (agg:=true) zr27.1 zr27.2 rfl) trivial trivial qA ?_
 refine A7 ?_
 refine R1 (x3 (c_Tlong f) fi184 rfl) rfl ?_
 refine A2 ?_
 refine xc2 rfl (fun h46=> ?_) (fun h46=> ?_)
 ·
  have hs:f.sh=false:=by simpa using h46
  refine A2 ?_
  refine R0 (xb0 (r:=tS [⟨2,true,(tS [⟨1,false,(tE (.bool false))⟩,⟨1,false,(tLm [])⟩])⟩,⟨2,true,(tS [⟨1,false,(tE (.bool false))⟩,⟨1,false,(tLm [])⟩])⟩]) (ts:=[]) bu27 zr27.2 Le.refl) ?_
  refine A6 ?_
  exact EN (rs:=[.cell 2 27,.tmp 3]) rfl rfl ⟨⟨_,_,_,_,_,rfl,rfl,ti27,(Le.of (by rw [hs];rfl))⟩,⟨_,rfl,(Le.int (by rw [hs];rfl))⟩,trivial⟩
 ·
  have hs:f.sh=true:=by simpa using h46
  refine A5 ?_
  refine xe1 (0) ti27 rfl rfl rfl (At.g 0 rfl (rfl)) rfl ?_
  refine A5 ?_
  exact EN (rs:=[.cell 2 27,.tmp 3]) rfl rfl ⟨⟨_,_,_,_,_,rfl,rfl,ti27,(Le.of (by rw [hs];rfl))⟩,⟨_,rfl,(Le.int (by rw [hs];rfl))⟩,trivial⟩
theorem c_Tintegral (f:Fr):
  Ct Tryz.prog 186 [tTm f] (tB (decide (f.d=⟨false,[1]⟩))):=by
 refine Ct.intro Tryz.func186 rfl Tryz.ntmps186 rfl ?_
 intro w F
 refine A10 ?_
 refine xe1 (0) ti25 rfl rfl rfl (At.t (At.g 0 rfl rfl) (At.g 1 rfl rfl)) rfl (R1 (x3 (c_isOne _) fi187 rfl) rfl ?_)
 refine A4 ?_
 exact E1 rfl rfl Le.refl
theorem c_divisor (x y:Int) (hx:len16 x<=1024) (hy:len16 y<=1024):
  Ct Tryz.prog 188 [tWh (wh x),tWh (wh y)] (tWh (wh ((Int.gcd x y:Nat):Int))):=by
 refine Ct.intro Tryz.func188 rfl Tryz.ntmps188 rfl ?_
 intro w F
 refine A4 ?_
 refine RE (x7 (k:=4) (n:=2) (agg:=true) zr25.1 zr25.2 rfl) trivial trivial qA ?_
 refine A6 ?_
 refine R2 (x3 (c_Gcd x y hx hy) fi217 rfl) rfl rfl ?_
 refine A3 ?_
 refine RE (x7 (k:=5) (n:=2) (agg:=true) zr25.1 zr25.2 rfl) trivial trivial qA ?_
 refine A11 ?_
 exact EC rfl ⟨_,_,_,_,_,rfl,rfl,ti25,Le.refl⟩
theorem c_fplus (x y:Int) (hx:len16 x<=1024) (hy:len16 y<=1024) (hz:len16 (x+y)<=1024):
  Ct Tryz.prog 170 [tWh (wh x),tWh (wh y)] (tWh (wh (x+y))):=by
 refine Ct.intro Tryz.func170 rfl Tryz.ntmps170 rfl ?_
 intro w F
 refine A4 ?_
 refine RE (x7 (k:=4) (n:=2) (agg:=true) zr25.1 zr25.2 rfl) trivial trivial qA ?_
 refine A6 ?_
 refine R2 (x3 (c_Add x y hx hy) fi203 rfl) rfl rfl ?_
 refine A3 ?_
 refine RE (x7 (k:=5) (n:=2) (agg:=true) zr25.1 zr25.2 rfl) trivial trivial qA ?_
 refine A11 ?_
 exact EC rfl ⟨_,_,_,_,_,rfl,rfl,ti25,(Le.of (by rw [resW,if_pos hz]))⟩
theorem c_ftimes (x y:Int) (hx:len16 x<=1024) (hy:len16 y<=1024) (hz:len16 (x*y)<=1024):
  Ct Tryz.prog 141 [tWh (wh x),tWh (wh y)] (tWh (wh (x*y))):=by
 refine Ct.intro Tryz.func141 rfl Tryz.ntmps141 rfl ?_
 intro w F
 refine A4 ?_
 refine RE (x7 (k:=4) (n:=2) (agg:=true) zr25.1 zr25.2 rfl) trivial trivial qA ?_
 refine A6 ?_
 refine R2 (x3 (c_Mul x y hx hy) fi179 rfl) rfl rfl ?_
 refine A3 ?_
 refine RE (x7 (k:=5) (n:=2) (agg:=true) zr25.1 zr25.2 rfl) trivial trivial qA ?_
 refine A11 ?_
 exact EC rfl ⟨_,_,_,_,_,rfl,rfl,ti25,(Le.of (by rw [resW,if_pos hz]))⟩
theorem c_fdivide (x y:Int) (hx:len16 x<=1024) (hy:len16 y<=1024) (hy0:0 < y):
  Ct Tryz.prog 202 [tWh (wh x),tWh (wh y)] (tT [tWh (wh (x / y)),tWh (wh (x%y))]):=by
 refine Ct.intro Tryz.func202 rfl Tryz.ntmps202 rfl ?_
 intro w F
 refine A4 ?_
 refine RE (x7 (k:=4) (n:=2) (agg:=true) zr25.1 zr25.2 rfl) trivial trivial qA (RE (x7 (k:=5) (n:=2) (agg:=true) zr25.1 zr25.2 rfl) trivial trivial qA ?_)
 refine A6 ?_
 refine R2 (x3 (c_DivMod x y hx hy hy0) fi223 rfl) rfl rfl ?_
 refine A17 ?_
 exact EN (rs:=[.cell 4 25,.cell 5 25]) rfl rfl ⟨⟨_,_,_,_,_,rfl,rfl,ti25,Le.refl⟩,⟨_,_,_,_,_,rfl,rfl,ti25,Le.refl⟩,trivial⟩
theorem c_opposite (z:Int) (hz:len16 z<=10000):
  Ct Tryz.prog 201 [tWh (wh z)] (tWh (wh (-z))):=by
 have hzl:(wh z).l.length<=10000:=hz
 refine Ct.intro Tryz.func201 rfl Tryz.ntmps201 rfl ?_
 intro w F
 refine A3 ?_
 refine RE (x7 (k:=2) (n:=2) (agg:=true) zr25.1 zr25.2 rfl) trivial trivial qA ?_
 refine A8 ?_
 refine RGcase (t:=6) rfl (fun h81=> ?_) (fun h81=> ?_)
 ·
  refine A7 ?_
  refine R1 (x3 (xr1 _ (by omega)) fi98 rfl) rfl (R2 (xb0 (r:=tS [⟨1,false,tB (decide ((0:Int) < ((wh z).l.length:Nat)))⟩,⟨1,false,tLm (wh z).l⟩]) (ts:=[(0,tB (decide ((0:Int) < ((wh z).l.length:Nat)))),(1,tLm (wh z).l)]) bu25 zr25.2 (Bc 0 rfl rfl rfl (Bc 1 rfl rfl rfl Le.refl))) rfl rfl ?_)
  refine A4 ?_
  exact EC rfl ⟨_,_,_,_,_,rfl,rfl,ti25,(Le.of (by rw [neg_wh,h81,Bool.true_and,decide_eq_decide.2 (show (0:Int) < ((wh z).l.length:Nat)↔0 < (wh z).l.length by omega)]))⟩
 ·
  refine A7 ?_
  refine R1 (x3 (xr1 _ (by omega)) fi98 rfl) rfl (R2 (xb0 (r:=tS [⟨1,false,tB false⟩,⟨1,false,tLm (wh z).l⟩]) (ts:=[(0,tB false),(1,tLm (wh z).l)]) bu25 zr25.2 (Bc 0 rfl rfl rfl (Bc 1 rfl rfl rfl Le.refl))) rfl rfl ?_)
  refine A4 ?_
  exact EC rfl ⟨_,_,_,_,_,rfl,rfl,ti25,(Le.of (by rw [neg_wh,h81,Bool.false_and]))⟩
theorem c_lowest (n d:Int) (hn:len16 n<=1024) (hd:len16 d<=1024) (hd0:d≠0):
  Ct Tryz.prog 169 [tWh (wh n),tWh (wh d)] (tTm (fr (Rat.divInt n d))):=by
 refine Ct.intro Tryz.func169 rfl Tryz.ntmps169 rfl ?_
 intro w F
 refine A4 ?_
 refine RE (x7 (k:=4) (n:=4) (agg:=true) zr198.1 zr198.2 rfl) trivial trivial qA ?_
 refine A2 ?_
 refine xf0 (fun (fm:(Int)×(Int))=>(fun (m:Int) (e:Int)=>(0 < e/\Rat.divInt m e=Rat.divInt n d)/\len16 m<=1024/\len16 e<=1024) fm.1 fm.2) (wB fun (m:Int) (e:Int)=>uO (uO (uO uN 2 (.ptr 2 0)) 3 (.ptr 3 0)) 4 (.ptr 4 0)) (wB fun (m:Int) (e:Int)=>uK (uK (uK uN 2 25 2 true [.val (tWh (wh m))]) 3 25 2 true [.val (tWh (wh e))]) 4 198 4 true [.val (tTm fr0)]) (nm [2,3,4]) ?_ ?_
 ·
  refine A6 ?_
  refine xc2 rfl (fun h86=> ?_) (fun h86=> ?_)
  ·
   refine A2 ?_
   refine R1 (x3 (c_opposite n (by omega)) fi201 rfl) rfl ?_
   refine A1 ?_
   refine R1 (x3 (c_opposite d (by omega)) fi201 rfl) rfl ?_
   refine A3 ?_
   exact kF ((-n, -d)) (by dsimp only;exact ⟨⟨by have:=of_decide_eq_true h86;omega,Rat.neg_divInt_neg _ _⟩,by rw [len16_neg];exact hn,by rw [len16_neg];exact hd⟩)
  ·
   refine A1 ?_
   exact kF ((n,d)) (by dsimp only;exact ⟨⟨by have:=of_decide_eq_false h86;omega,rfl⟩,hn,hd⟩)
 ·
  intro fm hj
  obtain ⟨m,e⟩:=fm
  replace hj:(0 < e/\Rat.divInt m e=Rat.divInt n d)/\len16 m<=1024/\len16 e<=1024:=hj
  show wc _ _ _ _ (uO (uO (uO uN 2 (.ptr 2 0)) 3 (.ptr 3 0)) 4 (.ptr 4 0)) (uK (uK (uK uN 2 25 2 true [.val (tWh (wh m))]) 3 25 2 true [.val (tWh (wh e))]) 4 198 4 true [.val (tTm fr0)]) _
  obtain ⟨⟨he,hq⟩,hm,hel⟩:=hj
  have hg0:0 < Int.gcd m e:=Int.gcd_pos_of_ne_zero_right m (by omega)
  have hgl:len16 ((Int.gcd m e:Nat):Int)<=1024:=Nat.le_trans (len16_le (by simpa using Nat.le_of_dvd (by omega) (Int.gcd_dvd_natAbs_right m e))) hel
  refine A4 ?_
  refine R2 (x3 (c_divisor m e hm hel) fi188 rfl) rfl rfl (RE (x7 (k:=5) (n:=2) (agg:=true) zr25.1 zr25.2 rfl) trivial trivial qA ?_)
  refine A7 ?_
  refine R2 (x3 (c_fdivide m _ hm hgl (by omega)) fi202 rfl) rfl rfl ?_
  refine A10 ?_
  refine R2 (x3 (c_fdivide e _ hel hgl (by omega)) fi202 rfl) rfl rfl ?_
  refine A10 ?_
  refine R2 (xb0 (r:=tS [⟨2,true,tWh (wh (m / ((Int.gcd m e:Nat):Int)))⟩,⟨2,true,tWh (wh (e / ((Int.gcd m e:Nat):Int)))⟩]) (ts:=[(0,tWh (wh (m / ((Int.gcd m e:Nat):Int)))),(1,tWh (wh (e / ((Int.gcd m e:Nat):Int))))]) bu27 zr27.2 (Bc 0 rfl rfl rfl (Bc 1 rfl rfl rfl Le.refl))) rfl rfl (R1 (xb0 (r:=tS [⟨4,true,tFr ⟨wh (m / ((Int.gcd m e:Nat):Int)),wh (e / ((Int.gcd m e:Nat):Int))⟩⟩]) (ts:=[(0,tFr ⟨wh (m / ((Int.gcd m e:Nat):Int)),wh (e / ((Int.gcd m e:Nat):Int))⟩)]) bu198 zr198.2 (Bc 0 rfl rfl rfl Le.refl)) rfl ?_)
  refine A4 ?_
  exact EC rfl ⟨_,_,_,_,_,rfl,rfl,ti198,(Le.of (by rw [<-hq,lowest_eq he]))⟩
instance sl216:SlI Tryz.prog 216 27 4 true:=⟨Tryz.underlying216,ti27⟩
instance fi94:FnI Tryz.prog 94:=⟨_,Tryz.func94,by kernel_rfl,rfl⟩
instance fi139:FnI Tryz.prog 139:=⟨_,Tryz.func139,by kernel_rfl,rfl⟩
instance fi140:FnI Tryz.prog 140:=⟨_,Tryz.func140,by kernel_rfl,rfl⟩
instance fi141:FnI Tryz.prog 141:=⟨_,Tryz.func141,by kernel_rfl,rfl⟩
instance fi142:FnI Tryz.prog 142:=⟨_,Tryz.func142,by kernel_rfl,rfl⟩
instance fi148:FnI Tryz.prog 148:=⟨_,Tryz.func148,by kernel_rfl,rfl⟩
instance fi149:FnI Tryz.prog 149:=⟨_,Tryz.func149,by kernel_rfl,rfl⟩
instance fi169:FnI Tryz.prog 169:=⟨_,Tryz.func169,by kernel_rfl,rfl⟩
instance fi170:FnI Tryz.prog 170:=⟨_,Tryz.func170,by kernel_rfl,rfl⟩
instance fi171:FnI Tryz.prog 171:=⟨_,Tryz.func171,by kernel_rfl,rfl⟩
instance fi174:FnI Tryz.prog 174:=⟨_,Tryz.func174,by kernel_rfl,rfl⟩
instance fi175:FnI Tryz.prog 175:=⟨_,Tryz.func175,by kernel_rfl,rfl⟩
instance fi186:FnI Tryz.prog 186:=⟨_,Tryz.func186,by kernel_rfl,rfl⟩
instance fi212:FnI Tryz.prog 212:=⟨_,Tryz.func212,by kernel_rfl,rfl⟩
theorem el27:ElI Tryz.prog 27 4 64 true (.agg #[.bool false,.slice none 0 0,.bool false,.slice none 0 0]):=⟨ti27,by kernel_rfl,by kernel_rfl⟩
theorem zf27:Flat 4 true (.agg #[.bool false,.slice none 0 0,.bool false,.slice none 0 0]):=xo1 (by intro u hu;simp at hu;rcases hu with rfl | rfl | rfl | rfl <;> rfl)
instance un216:UnI Tryz.prog 216 (.slice 27):=⟨Tryz.underlying216⟩
theorem gcd_one_dec {x y:Int}:decide (wh ((Int.gcd x y:Nat):Int)=⟨false,[1]⟩)=decide (Int.gcd x y=1):=by
 rw [<-wh_one]
 refine decide_eq_decide.2 ⟨fun h'=> ?_,fun h'=>by rw [h'];rfl⟩
 have:=wh_inj h';omega
theorem pos_of_wh {y:Int} (h1:(wh y).neg=false) (h2: ¬(wh y).l.length=0):0 < y:=by
 have h3: ¬y < 0:=of_decide_eq_false h1
 have h4:y≠0:=fun h=>h2 (by rw [h,wh_zero];rfl)
 omega
theorem c_Tvalid (f:Fr) (hn:Dig 65536 f.n.l) (hd:Dig 65536 f.d.l):
  Ct Tryz.prog 149 [tTm f] (tB f.valid):=by
 obtain ⟨n,d⟩:=f
 replace hn:Dig 65536 n.l:=hn
 replace hd:Dig 65536 d.l:=hd
 refine Ct.intro Tryz.func149 rfl Tryz.ntmps149 rfl ?_
 intro w F
 refine A10 ?_
 refine R1 (x3 (c_Tlong _) fi184 rfl) rfl ?_
 refine A1 ?_
 refine RGcase (t:=5) rfl (fun h38=> ?_) (fun h38=> ?_)
 ·
  have hs:(⟨n,d⟩:Fr).sh=false:=by simpa using h38
  refine A18 ?_
  refine A18 ?_
  refine A1 ?_
  exact E1 rfl rfl (Le.bool (by simp only [Fr.valid,hs,Bool.false_and]))
 ·
  have hs:(⟨n,d⟩:Fr).sh=true:=by simpa using h38
  refine A2 ?_
  refine xb2 h38 rfl rfl (0) ti25 rfl rfl rfl (At.t (At.g 0 rfl rfl) (At.g 0 rfl rfl)) rfl (Rg h38 rfl (x3 (c_WValid n) fi185 rfl) rfl qA ?_)
  refine A3 ?_
  refine RGcase (t:=12) rfl (fun h38_2=> ?_) (fun h38_2=> ?_)
  ·
   have hv1:n.valid=false:=by simpa using h38_2
   refine A18 ?_
   refine A12 ?_
   exact E1 rfl rfl (Le.bool (by simp only [Fr.valid,hv1,Bool.and_false,Bool.false_and]))
  ·
   have hv1:n.valid=true:=by simpa using h38_2
   refine A2 ?_
   refine xb2 h38_2 rfl rfl (0) ti25 rfl rfl rfl (At.t (At.g 0 rfl rfl) (At.g 1 rfl rfl)) rfl (Rg h38_2 rfl (x3 (c_WValid d) fi185 rfl) rfl qA ?_)
   refine A3 ?_
   refine RGcase (t:=19) rfl (fun h38_3=> ?_) (fun h38_3=> ?_)
   ·
    have hv2:d.valid=false:=by simpa using h38_3
    refine A18 ?_
    refine A5 ?_
    exact E1 rfl rfl (Le.bool (by simp only [Fr.valid,hv2,Bool.and_false,Bool.false_and]))
   ·
    have hv2:d.valid=true:=by simpa using h38_3
    obtain ⟨x,rfl,hxl⟩:=Wh.of_valid hn hv1
    obtain ⟨y,rfl,hyl⟩:=Wh.of_valid hd hv2
    have ix:=xo4 x
    have iy:=xo4 y
    refine A3 ?_
    refine xb2 h38_3 rfl rfl (0) ti4 rfl rfl rfl (At.t (At.g 0 rfl rfl) (At.t (At.g 1 rfl rfl) (At.g 0 rfl rfl))) rfl ?_
    refine A2 ?_
    refine RGcase (t:=25) rfl (fun h38_4=> ?_) (fun h38_4=> ?_)
    ·
     have hy0: ¬0 < y:=by have:y < 0:=of_decide_eq_true h38_4;omega
     refine A17 ?_
     exact E1 rfl rfl (Le.bool (by simp only [Fr.valid,ix,iy,decide_eq_false hy0,Bool.and_false,Bool.false_and]))
    ·
     refine A3 ?_
     refine xb2 h38_4 rfl rfl (0) ti23 rfl rfl rfl (At.t (At.g 0 rfl rfl) (At.t (At.g 1 rfl rfl) (At.g 1 rfl rfl))) rfl ?_
     refine A5 ?_
     refine x6 rfl (fun h38_5=> ?_) (fun h38_5=> ?_)
     ·
      have hy0: ¬0 < y:=fun h=>by
       have h5:(((wh y).l.length:Nat):Int)=0:=h38_5
       have h2:(wh y).l.length=0:=by omega
       have h3:y.natAbs=0:=(xi1 x8).1 (List.length_eq_zero_iff.1 h2)
       omega
      refine A7 ?_
      exact E1 rfl rfl (Le.bool (by simp only [Fr.valid,ix,iy,decide_eq_false hy0,Bool.and_false,Bool.false_and]))
     ·
      have h5: ¬(((wh y).l.length:Nat):Int)=0:=h38_5
      have hy0:0 < y:=pos_of_wh h38_4 (by omega)
      refine A3 ?_
      refine C_key (k:=1) (e':=⟨198,4,true,[.val (tTm ⟨wh x,wh y⟩)]⟩) rfl rfl ?_
      refine A2 ?_
      refine R1 (x3 (c_Tintegral _) fi186 rfl) rfl ?_
      refine A1 ?_
      refine RGcase (t:=35) rfl (fun h41=> ?_) (fun h41=> ?_)
      ·
       have hy1:y=1:=by have h:=of_decide_eq_true h41;exact wh_inj (h.trans wh_one.symm)
       refine A13 ?_
       exact E1 rfl rfl (Le.bool (by simp only [Fr.valid,ix,iy,hs,hv1,hv2,Bool.true_and];rw [hy1];simp))
      ·
       have hy1: ¬y=1:=fun h=>of_decide_eq_false h41 (by show wh y=_;rw [h,wh_one])
       refine A2 ?_
       refine xb2 h41 rfl rfl (0) ti25 rfl rfl rfl (At.t (At.g 0 rfl rfl) (At.g 0 rfl rfl)) rfl ?_
       refine A2 ?_
       refine xb2 h41 rfl rfl (0) ti25 rfl rfl rfl (At.t (At.g 0 rfl rfl) (At.g 1 rfl rfl)) rfl (Rg h41 rfl (x3 (c_divisor x y hxl hyl) fi188 rfl) rfl qB (Rg h41 rfl (x3 (c_isOne _) fi187 rfl) rfl qA ?_))
       refine A5 ?_
       exact E1 rfl rfl (Le.bool (by simp only [Fr.valid,ix,iy,hs,hv1,hv2,decide_eq_true hy0,Bool.true_and];exact gcd_one_dec))
theorem c_FValid (f:Fr) (hn:Dig 65536 f.n.l) (hd:Dig 65536 f.d.l):
  Ct Tryz.prog 94 [tFr f] (tB f.valid):=by
 refine Ct.intro Tryz.func94 rfl Tryz.ntmps94 rfl ?_
 intro w F
 refine A9 ?_
 refine R1 (xb0 (r:=tS [⟨4,true,tFr f⟩]) (ts:=[(0,tFr f)]) bu198 zr198.2 (Bc 0 rfl rfl rfl Le.refl)) rfl (R1 (x3 (c_Tvalid f hn hd) fi149 rfl) rfl ?_)
 refine A4 ?_
 exact E1 rfl rfl Le.refl
theorem c_FValidQ (q:Rat) (h:short q):Ct Tryz.prog 94 [tFr (fr q)] (tB true):=by
 have:=c_FValid (fr q) (xc3 x8 _) (xc3 x8 _)
 rw [valid_fr h] at this;exact this
theorem c_FallValid1 (q:Rat) (h:short q):
  Ct Tryz.prog 175 [tFr (fr q)] (tB false):=by
 refine Ct.intro Tryz.func175 rfl Tryz.ntmps175 rfl ?_
 intro w F
 refine A9 ?_
 refine R1 (x3 (c_FValidQ q h) fi94 rfl) rfl ?_
 refine A5 ?_
 exact E1 rfl rfl Le.refl
theorem getD_mem {α:Type} {l:List α} {i:Nat} {d:α} (h:i < l.length):l.getD i d∈l:=by
 rw [List.getD_eq_getElem?_getD,List.getElem?_eq_getElem h];exact List.getElem_mem h
theorem c_FIndex (qs:List Rat) (h: ∀q∈qs,short q):
  Ct Tryz.prog 212 [tL 4 true (fun q:Rat=>tFr (fr q)) qs,tE (.func (.func 175) #[] #[])] (tI (-1)):=by
 refine Ct.intro Tryz.func212 rfl Tryz.ntmps212 rfl ?_
 intro w F
 refine xg9 (s:=0) rfl (fun hl0=> ?_)
 refine A14 ?_
 refine cL (fun (i:Nat)=>i<=qs.length) (fun (i:Nat)=>uV (uV (uV (uV uN 0 (tL 4 true (fun q:Rat=>tFr (fr q)) qs)) 1 (tE (.func (.func 175) #[] #[]))) 7 (tI qs.length)) 8 (tI i)) (fun (i:Nat)=>fun _=>none) [] (fun (i:Nat)=>qs.length - i) (0) (Nat.zero_le _) ?_
 intro i hI
 refine A6 ?_
 refine x6 rfl (fun h108=> ?_) (fun h108=> ?_)
 ·
  refine A15 ?_
  refine R2 (x4 sl216 i (by omega) (gD (l:=qs) (n:=i) (d:=0) (by omega))) rfl rfl ?_
  refine A1 ?_
  refine R2 (xh7 (c_FallValid1 (qs.getD i 0) (h _ (getD_mem (by omega)))) fi175 rfl) rfl rfl ?_
  refine A10 ?_
  exact kF (i+1) ⟨(by omega),(by omega)⟩
 ·
  refine A11 ?_
  exact E1 rfl rfl Le.refl
theorem c_FContains (qs:List Rat) (h: ∀q∈qs,short q):
  Ct Tryz.prog 174 [tL 4 true (fun q:Rat=>tFr (fr q)) qs,tE (.func (.func 175) #[] #[])] (tB false):=by
 refine Ct.intro Tryz.func174 rfl Tryz.ntmps174 rfl ?_
 intro w F
 refine A9 ?_
 refine R2 (x3 (c_FIndex qs h) fi212 rfl) rfl rfl ?_
 refine A5 ?_
 exact E1 rfl rfl (Le.bool rfl)
theorem c_FallValid (qs:List Rat) (h: ∀q∈qs,short q):
  Ct Tryz.prog 139 [tL 4 true (fun q:Rat=>tFr (fr q)) qs] (tB true):=by
 refine Ct.intro Tryz.func139 rfl Tryz.ntmps139 rfl ?_
 intro w F
 refine A8 ?_
 refine R2 (x3 (c_FContains qs h) fi174 rfl) rfl rfl ?_
 refine A5 ?_
 exact E1 rfl rfl Le.refl
theorem add_divInt (a b:Rat):Rat.divInt (a.num*(b.den:Int)+b.num*(a.den:Int)) ((a.den:Int)*(b.den:Int))=a+b:=by
 rw [Rat.add_def,<-Int.natCast_mul,Rat.divInt_ofNat,Rat.normalize_eq_mkRat]
theorem den_mul_ne {a b:Rat}:((a.den:Int)*(b.den:Int))≠0:=by
 have h1:=a.den_nz;have h2:=b.den_nz
 exact Int.mul_ne_zero (by omega) (by omega)
theorem c_FAdd (a b:Rat) (ha:short a) (hb:short b):
  Ct Tryz.prog 127 [tFr (fr a),tFr (fr b)] (tT [tFr (resF (a+b)),tI (resFE (a+b))]):=by
 obtain ⟨an,ad⟩:=ha
 obtain ⟨bn,bd⟩:=hb
 have hbd:=b.den_nz
 have had:=a.den_nz
 have m1:len16 (a.num*(b.den:Int))<=256+256:=len16_mul an bd
 have m2:len16 (b.num*(a.den:Int))<=256+256:=len16_mul bn ad
 have m3:len16 ((a.den:Int)*(b.den:Int))<=256+256:=len16_mul ad bd
 have m4:=len16_add m1 m2
 have ha:short a:=⟨an,ad⟩
 have hb:short b:=⟨bn,bd⟩
 refine Ct.intro Tryz.func127 rfl Tryz.ntmps127 rfl ?_
 intro w F
 refine A4 ?_
 refine RE (x7 (k:=4) (n:=4) (agg:=true) zr27.1 zr27.2 rfl) trivial trivial qA ?_
 refine A8 ?_
 refine R2 (xb5 (n:=2) (f:=fun q:Rat=>tFr (fr q)) [a,b] Tryz.underlying216 el27 zf27 rfl (fun _=>inferInstance) rfl rfl rfl) rfl rfl (R1 (x3 (c_FallValid [a,b] (by simp;exact ⟨ha,hb⟩)) fi139 rfl) rfl ?_)
 refine A12 ?_
 refine R2 (x3 (c_ftimes (a.num) ((b.den:Int)) (by omega) (by omega) (by omega)) fi141 rfl) rfl rfl ?_
 refine A4 ?_
 refine R2 (x3 (c_ftimes (b.num) ((a.den:Int)) (by omega) (by omega) (by omega)) fi141 rfl) rfl rfl (R2 (x3 (c_fplus (a.num*(b.den:Int)) (b.num*(a.den:Int)) (by omega) (by omega) (by omega)) fi170 rfl) rfl rfl ?_)
 refine A4 ?_
 refine R2 (x3 (c_ftimes ((a.den:Int)) ((b.den:Int)) (by omega) (by omega) (by omega)) fi141 rfl) rfl rfl (R2 (x3 (c_lowest _ _ (by omega) (by omega) den_mul_ne) fi169 rfl) rfl rfl (R1 (x3 (c_Tresult _) fi171 rfl) rfl ?_))
 refine A7 ?_
 exact EN (rs:=[.cell 4 27,.tmp 5]) rfl rfl ⟨⟨_,_,_,_,_,rfl,rfl,ti27,(Le.of (by rw [sh_fr,add_divInt];by_cases hs:short (a+b) <;> simp [resF,hs]))⟩,⟨_,rfl,(Le.int (by rw [sh_fr,add_divInt];by_cases hs:short (a+b) <;> simp [resFE,hs]))⟩,trivial⟩
theorem c_FCmp (a b:Rat) (ha:short a) (hb:short b):
  Ct Tryz.prog 85 [tFr (fr a),tFr (fr b)] (tI (cmpQ a b)):=by
 obtain ⟨an,ad⟩:=ha
 obtain ⟨bn,bd⟩:=hb
 have hbd:=b.den_nz
 have had:=a.den_nz
 have m1:len16 (a.num*(b.den:Int))<=256+256:=len16_mul an bd
 have m2:len16 (b.num*(a.den:Int))<=256+256:=len16_mul bn ad
 have ha:short a:=⟨an,ad⟩
 have hb:short b:=⟨bn,bd⟩
 refine Ct.intro Tryz.func85 rfl Tryz.ntmps85 rfl ?_
 intro w F
 refine A12 ?_
 refine R2 (xb5 (n:=2) (f:=fun q:Rat=>tFr (fr q)) [a,b] Tryz.underlying216 el27 zf27 rfl (fun _=>inferInstance) rfl rfl rfl) rfl rfl (R1 (x3 (c_FallValid [a,b] (by simp;exact ⟨ha,hb⟩)) fi139 rfl) rfl ?_)
 refine A12 ?_
 refine R2 (x3 (c_ftimes (a.num) ((b.den:Int)) (by omega) (by omega) (by omega)) fi141 rfl) rfl rfl ?_
 refine A4 ?_
 refine R2 (x3 (c_ftimes (b.num) ((a.den:Int)) (by omega) (by omega) (by omega)) fi141 rfl) rfl rfl (R2 (x3 (c_Cmp (a.num*(b.den:Int)) (b.num*(a.den:Int)) (by omega) (by omega)) fi140 rfl) rfl rfl ?_)
 refine A4 ?_
 exact E1 rfl rfl (Le.int (cmpQ_eq a b))
theorem xk8 (f g:Fr):
  Ct Tryz.prog 92 [tFr f,tFr g] (tB (decide (f=g))):=by
 refine Ct.intro Tryz.func92 rfl Tryz.ntmps92 rfl ?_
 intro w F
 refine A13 ?_
 refine R2 (x3 (c_WSame _ _) fi148 rfl) rfl rfl ?_
 refine A1 ?_
 refine RGcase (t:=10) rfl (fun h107=> ?_) (fun h107=> ?_)
 ·
  have hn:f.n=g.n:=of_decide_eq_true h107
  refine A4 ?_
  refine Rg h107 rfl (x3 (c_WSame _ _) fi148 rfl) rfl qB ?_
  refine A5 ?_
  exact E1 rfl rfl (Le.bool (by obtain ⟨a,b⟩:=f;obtain ⟨c,d⟩:=g;simp only at hn;subst hn;simp))
 ·
  have hn:f.n≠g.n:=of_decide_eq_false h107
  refine A10 ?_
  exact E1 rfl rfl (Le.bool (decide_eq_false (fun h=>hn (by rw [h]))).symm)
theorem xm5 (n:Int) (h1: -9223372036854775808<=n) (h2:n<=9223372036854775807):
  Ct Tryz.prog 86 [tI n] (tFr (fr (n:Rat))):=by
 refine Ct.intro Tryz.func86 rfl Tryz.ntmps86 rfl ?_
 intro w F
 refine A2 ?_
 refine RE (x7 (k:=2) (n:=4) (agg:=true) zr27.1 zr27.2 rfl) trivial trivial qA ?_
 refine A5 ?_
 refine R1 (x3 (c_FromInt n h1 h2) fi142 rfl) rfl (R1 (x3 (c_FromInt 1 (by decide) (by decide)) fi142 rfl) rfl (R2 (xb0 (r:=tS [⟨2,true,tWh (wh n)⟩,⟨2,true,tWh (wh 1)⟩]) (ts:=[(0,tWh (wh n)),(1,tWh (wh 1))]) bu27 zr27.2 (Bc 0 rfl rfl rfl (Bc 1 rfl rfl rfl Le.refl))) rfl rfl ?_))
 refine A4 ?_
 exact EC rfl ⟨_,_,_,_,_,rfl,rfl,ti27,(Le.of (by rw [fr,Rat.num_intCast,Rat.den_intCast];rfl))⟩
end An.S
namespace An
open Go
abbrev tM (v:Nat):Ty:=tLm (dig 65536 v)
theorem trim_step' {a:List Nat} {k:Nat} (hk:k<=a.length) (h0:0 < k) (hz:a.getD (k - 1) 0=0):trimL (a.take (k - 1))=trimL (a.take k):=by
 have h1:=xf8 a (k - 1) (by omega)
 rw [show k - 1+1=k from by omega] at h1
 rw [h1,hz,xq8]
theorem trim_stop' {a:List Nat} {k:Nat} (hk:k<=a.length) (h0:0 < k) (hz: ¬a.getD (k - 1) 0=0):trimL (a.take k)=a.take k:=by
 refine trimL_Top fun x hx=> ?_
 have h1:=xf8 a (k - 1) (by omega)
 rw [show k - 1+1=k from by omega] at h1
 rw [h1,List.getLast?_append] at hx
 simp at hx
 rw [<-hx]
 simpa [List.getD_eq_getElem?_getD] using hz
theorem short_in {a d r k q n:Nat} {qs:List Nat} (hk:k < n) (hl:qs.length=n) (hD:Dig 65536 qs) (hd:0 < d) (hr:r=a / 65536 ^ (k+1)%d) (hv:val 65536 (qs.drop (k+1))=a / 65536 ^ (k+1) / d) (hq:(r*65536+a / 65536 ^ k%65536) / d=q):
  (qs.set k q).length=n/\Dig 65536 (qs.set k q)/\(r*65536+a / 65536 ^ k%65536)%d=a / 65536 ^ k%d/\val 65536 ((qs.set k q).drop k)=a / 65536 ^ k / d/\q < 65536:=by
 have e0:a / 65536 ^ k=65536*(a / 65536 ^ (k+1))+a / 65536 ^ k%65536:=xs5 65536 a k (by decide)
 have hrd:r < d:=by rw [hr];exact Nat.mod_lt _ hd
 have e1:a / 65536 ^ k=(r*65536+a / 65536 ^ k%65536)+d*(65536*(a / 65536 ^ (k+1) / d)):=by
  have h1:=Nat.div_add_mod (a / 65536 ^ (k+1)) d
  rw [<-hr] at h1
  have h2:65536*(a / 65536 ^ (k+1))=d*(65536*(a / 65536 ^ (k+1) / d))+65536*r:=by
   conv=>lhs;rw [<-h1]
   rw [Nat.mul_add,Nat.mul_left_comm]
  omega
 have hqW:q < 65536:=by
  rw [<-hq];refine Nat.div_lt_of_lt_mul ?_
  have h4:a / 65536 ^ k%65536 < 65536:=Nat.mod_lt _ (by decide)
  have h5:(r+1)*65536<=d*65536:=Nat.mul_le_mul_right _ hrd
  omega
 refine ⟨by simpa using hl,hD.set hqW,?_,?_,hqW⟩
 ·conv=>rhs;rw [e1,Nat.add_mul_mod_self_left]
 ·rw [xm7 _ _ _ (by simpa using (by omega:k < qs.length)),xm8 (by omega),xe0,hv]
  conv=>rhs;rw [e1,Nat.add_mul_div_left _ _ hd,hq]
theorem one_limb {b:Nat} (h:(dig 65536 b).length=1):(dig 65536 b).getD 0 0=b:=by
 rw [xc0 x8,Nat.pow_zero,Nat.div_one]
 have:=(xa8 x8 b 1).1 (Nat.le_of_eq h)
 rw [Nat.pow_one] at this
 exact Nat.mod_eq_of_lt this
theorem trim1L {x:Nat} (hx:x < 65536):trimL [x]=dig 65536 x:=by
 rw [xd7 x8 (Dig.cons hx (Dig.nil _)),xj3,val_nil];simp
theorem dig_lt_of {B a b k:Nat} (hB:2<=B) (h:a / B ^ (k+1)=b / B ^ (k+1)) (hd:(dig B a).getD k 0 < (dig B b).getD k 0):a < b:=cmp_lt (by omega) h (by rw [<-xc0 hB,<-xc0 hB];exact hd)
end An
namespace An.S
open Go Go.Proofs An
instance fi250:FnI Tryz.prog 250:=⟨_,Tryz.func250,by kernel_rfl,rfl⟩
theorem c_RTrim (a:List Nat):
  Ct Tryz.prog 250 [tLm a] (tLm (trimL a)):=by
 refine Ct.intro Tryz.func250 rfl Tryz.ntmps250 rfl ?_
 intro w F
 refine xg9 (s:=0) rfl (fun hl0=> ?_)
 refine A14 ?_
 refine cL (fun (k:Nat)=>k<=a.length/\trimL (a.take k)=trimL a) (fun (k:Nat)=>uV (uV uN 0 (tLm a)) 3 (tI k)) (fun (k:Nat)=>fun _=>none) [] (fun (k:Nat)=>k) (a.length) ⟨Nat.le_refl _,by rw [List.take_length]⟩ ?_
 intro k hI
 obtain ⟨hk,hc⟩:=hI
 refine A6 ?_
 refine RGcaseD (t:=8) rfl (fun h12=> ?_) (fun h12=> ?_)
 ·
  refine A2 ?_
  refine Rg (decide_eq_true h12) rfl (xd6 (wr64 (by omega) (by omega))) rfl qB (Rg (decide_eq_true h12) rfl (x4 sl23 (k - 1) (by omega) (gN (by omega))) rfl qB ?_)
  refine A5 ?_
  refine x6 rfl (fun h12_2=> ?_) (fun h12_2=> ?_)
  ·
   refine A9 ?_
   exact kF (k - 1) ⟨⟨by omega,by rw [trim_step' hk (by omega) (by omega)];exact hc⟩,(by omega)⟩
  ·
   refine A9 ?_
   refine R2 (d_sliceTo sl23 k (by omega) (by omega) rfl) rfl rfl ?_
   refine A4 ?_
   exact E1 rfl rfl (Le.of (congrArg tLm (by rw [<-hc,trim_stop' hk (by omega) (by omega)])))
 ·
  refine A18 ?_
  refine A1 ?_
  refine R2 (d_sliceTo sl23 k (by omega) (by omega) rfl) rfl rfl ?_
  refine A4 ?_
  exact E1 rfl rfl (Le.of (congrArg tLm (by rw [<-hc,show k=0 by omega,List.take_zero];rfl)))
theorem c_RLess (a b:Nat):
  Ct Tryz.prog 236 [tM a,tM b] (tB (decide (a < b))):=by
 refine Ct.intro Tryz.func236 rfl Tryz.ntmps236 rfl ?_
 intro w F
 refine xg9 (s:=0) rfl (fun hl0=> ?_)
 refine xg9 (s:=1) rfl (fun hl1=> ?_)
 have ha:=xf6 x8 a
 have hb:=xf6 x8 b
 refine A15 ?_
 refine x6 rfl (fun h20=> ?_) (fun h20=> ?_)
 ·
  refine A12 ?_
  exact E1 rfl rfl (Le.bool (decide_eq_decide.2 ⟨fun h=>len_lt x8 (by omega),fun h=>by have:=xd0 x8 (Nat.le_of_lt h);omega⟩))
 ·
  refine A12 ?_
  have hlen:(dig 65536 a).length=(dig 65536 b).length:=by omega
  rw [<-hlen] at hb
  refine cL (fun (k:Nat)=>k<=(dig 65536 a).length/\a / 65536 ^ k=b / 65536 ^ k) (fun (k:Nat)=>uV (uV (uV uN 0 (tM a)) 1 (tM b)) 5 (tI ((k:Int) - 1))) (fun (k:Nat)=>fun _=>none) [] (fun (k:Nat)=>k) ((dig 65536 a).length) ⟨Nat.le_refl _,by rw [Nat.div_eq_of_lt ha,Nat.div_eq_of_lt hb]⟩ ?_
  intro k hI
  obtain ⟨hk,hc⟩:=hI
  refine A7 ?_
  refine x6 rfl (fun h23=> ?_) (fun h23=> ?_)
  ·
   obtain ⟨j,rfl⟩: ∃j,k=j+1:=⟨k - 1,by omega⟩
   refine A8 ?_
   refine R2 (x4 sl23 (j) (by omega) (gN (by omega))) rfl rfl ?_
   refine A3 ?_
   refine R2 (x4 sl23 (j) (by omega) (gN (by omega))) rfl rfl ?_
   refine A4 ?_
   refine x6 rfl (fun h24=> ?_) (fun h24=> ?_)
   ·
    refine A4 ?_
    refine R2 (x4 sl23 (j) (by omega) (gN (by omega))) rfl rfl ?_
    refine A3 ?_
    refine R2 (x4 sl23 (j) (by omega) (gN (by omega))) rfl rfl ?_
    refine A11 ?_
    exact E1 rfl rfl (Le.bool (decide_eq_decide.2 ⟨fun h=>dig_lt_of x8 hc (by omega),fun h=>Classical.byContradiction fun h2=>by have:=dig_lt_of x8 hc.symm (show (dig 65536 b).getD j 0 < (dig 65536 a).getD j 0 by omega);omega⟩))
   ·
    refine A8 ?_
    exact kF (j) ⟨⟨by omega,cmp_step (by decide) hc (by rw [<-xc0 x8,<-xc0 x8];omega)⟩,(by omega)⟩
  ·
   refine A11 ?_
   exact E1 rfl rfl (Le.bool (decide_eq_false (by have h0:=hc;rw [show k=0 by omega] at h0;simp at h0;omega)).symm)
theorem len_ne {v:Nat}:(0:Int) < ((dig 65536 v).length:Nat)↔v≠0:=by
 have h:(dig 65536 v).length=0↔v=0:=by rw [List.length_eq_zero_iff,xi1 x8]
 omega
theorem c_RMake (p:Bool) (v:Nat):
  Ct Tryz.prog 220 [tB p,tM v] (tWh (wh (sgn p v))):=by
 refine Ct.intro Tryz.func220 rfl Tryz.ntmps220 rfl ?_
 intro w F
 refine A2 ?_
 refine RE (x7 (k:=4) (n:=2) (agg:=true) zr25.1 zr25.2 rfl) trivial trivial qA ?_
 refine A6 ?_
 refine RGcase (t:=6) rfl (fun h129=> ?_) (fun h129=> ?_)
 ·
  refine A5 ?_
  refine R2 (xb0 (r:=tS [⟨1,false,tB (decide ((0:Int) < ((dig 65536 v).length:Nat)))⟩,⟨1,false,tM v⟩]) (ts:=[(0,tB (decide ((0:Int) < ((dig 65536 v).length:Nat)))),(1,tM v)]) bu25 zr25.2 (Bc 0 rfl rfl rfl (Bc 1 rfl rfl rfl Le.refl))) rfl rfl ?_
  refine A4 ?_
  exact EC rfl ⟨_,_,_,_,_,rfl,rfl,ti25,(Le.of (by rw [wh_sgn,h129,Bool.true_and,decide_eq_decide.2 (show (0:Int) < ((dig 65536 v).length:Nat)↔v≠0 from len_ne)]))⟩
 ·
  refine A5 ?_
  refine R2 (xb0 (r:=tS [⟨1,false,tB false⟩,⟨1,false,tM v⟩]) (ts:=[(0,tB false),(1,tM v)]) bu25 zr25.2 (Bc 0 rfl rfl rfl (Bc 1 rfl rfl rfl Le.refl))) rfl rfl ?_
  refine A4 ?_
  exact EC rfl ⟨_,_,_,_,_,rfl,rfl,ti25,(Le.of (by rw [wh_sgn,h129,Bool.false_and]))⟩
theorem iquo64 {a b:Nat} (ha:a < 9223372036854775808):IntKind.i64.wrap ((a:Int).tdiv (b:Int))=((a / b:Nat):Int):=by
 rw [Int.tdiv_eq_ediv_of_nonneg (by omega)]
 have h:(a:Int) / (b:Int)=((a / b:Nat):Int):=(Int.natCast_ediv a b).symm
 rw [h]
 have:=Nat.div_le_self a b
 generalize a / b=q at*
 exact wr64 (by omega) (by omega)
theorem c_RShort (a d:Nat) (ha:(dig 65536 a).length<=100000) (hd:0 < d) (hdW:d < 65536):
  Ct Tryz.prog 235 [tM a,tI d] (tT [tM (a / d),tM (a%d)]):=by
 refine Ct.intro Tryz.func235 rfl Tryz.ntmps235 rfl ?_
 intro w F
 refine A10 ?_
 refine RE (xg0 (k:=11) (t:=tE (.int .u16 0)) (ts:=rW .u16 (List.replicate ((dig 65536 a).length) 0)) ((dig 65536 a).length) ((dig 65536 a).length) Tryz.underlying23 el153 (fun _ _=>rfl) rfl (by omega) (by omega) (Nat.le_refl _) (by omega) (by omega) (xp5 _)) qB trivial qA ?_
 refine A18 ?_
 refine cL (fun (fm:(Nat)×(List Nat))=>(fun (k:Nat) (qs:List Nat)=>k<=(dig 65536 a).length/\qs.length=(dig 65536 a).length/\Dig 65536 qs/\val 65536 (qs.drop k)=a / 65536 ^ k / d) fm.1 fm.2) (wB fun (k:Nat) (qs:List Nat)=>uV (uV (uO (uV (uV uN 0 (tM a)) 1 (tI d)) 6 (.sl 11 1 0 (dig 65536 a).length)) 7 (tI ((a / 65536 ^ k%d:Nat):Int))) 8 (tI ((k:Int) - 1))) (wB fun (k:Nat) (qs:List Nat)=>uK uN 11 153 1 false (rW .u16 qs)) [11] (fun (fm:(Nat)×(List Nat))=>(fun (k:Nat) (qs:List Nat)=>k) fm.1 fm.2) (((dig 65536 a).length,List.replicate (dig 65536 a).length 0)) (by dsimp only;exact ⟨Nat.le_refl _,by simp,Dig.rep (by decide) _,by rw [Nat.div_eq_of_lt (xf6 x8 a),Nat.zero_div,List.drop_replicate,xf1]⟩) (hg:=(sI (Sub.le rfl (Le.int (by dsimp only;rw [Nat.div_eq_of_lt (xf6 x8 a),Nat.zero_mod];rfl)) (sC (sI (sC Sub.nil)))))) ?_
 intro fm hI
 obtain ⟨k,qs⟩:=fm
 replace hI:k<=(dig 65536 a).length/\qs.length=(dig 65536 a).length/\Dig 65536 qs/\val 65536 (qs.drop k)=a / 65536 ^ k / d:=hI
 show wc _ _ _ _ (uV (uV (uO (uV (uV uN 0 (tM a)) 1 (tI d)) 6 (.sl 11 1 0 (dig 65536 a).length)) 7 (tI ((a / 65536 ^ k%d:Nat):Int))) 8 (tI ((k:Int) - 1))) (uK uN 11 153 1 false (rW .u16 qs)) _
 obtain ⟨hk,hl,hD,hv⟩:=hI
 have hr:a / 65536 ^ k%d < d:=Nat.mod_lt _ hd
 refine A7 ?_
 refine x6 rfl (fun h93=> ?_) (fun h93=> ?_)
 ·
  obtain ⟨j,rfl⟩: ∃j,k=j+1:=⟨k - 1,by omega⟩
  have hx:=xc0 x8 a j
  have hx1:=(xc3 x8 a).getD (by decide) j
  obtain ⟨n1,n2,n3,n4,n5⟩:=short_in (k:=j) (by omega) hl hD hd rfl hv (by rw [<-hx])
  have hq0:=Nat.zero_le (((a / 65536 ^ (j+1)%d)*65536+(dig 65536 a).getD j 0) / d)
  refine A7 ?_
  refine R2 (xi2 (r:=(((a / 65536 ^ (j+1)%d)*65536:Nat):Int)) (by rw [wr64 (by omega) (by omega)];omega)) rfl rfl ?_
  refine A2 ?_
  refine R2 (x4 sl23 (j) (by omega) (gN (by omega))) rfl rfl ?_
  refine A1 ?_
  refine R1 (x5 Tryz.underlying3 (isS Tryz.underlying153) (wr64 (by omega) (by omega))) rfl (R2 (xd8 (r:=((((a / 65536 ^ (j+1)%d)*65536+(dig 65536 a).getD j 0):Nat):Int)) (by rw [wr64 (by omega) (by omega)];omega)) rfl rfl ?_)
  refine A9 ?_
  refine R2 (d_quo (r:=((((a / 65536 ^ (j+1)%d)*65536+(dig 65536 a).getD j 0) / d:Nat):Int)) (by omega) (iquo64 (by omega))) rfl rfl (R1 (x5 Tryz.underlying153 (isS Tryz.underlying3) (wu16 (by omega) (by omega))) rfl (R2 (xa2 sl23 (by omega) (by omega) rfl) rfl rfl (RE (xb8 (j) ti153 (xj0 (by omega)) (by omega) (xh1 (m:=_) rfl)) qB qA trivial ?_)))
  refine A5 ?_
  refine R2 (d_rem (by omega) wrem64) rfl rfl ?_
  refine A9 ?_
  exact kF ((j,qs.set j (((a / 65536 ^ (j+1)%d)*65536+(dig 65536 a).getD j 0) / d))) ⟨(by dsimp only;exact ⟨by omega,n1,n2,n4⟩),(by dsimp only;omega)⟩ (hg:=(sI (Sub.le rfl (Le.int (by dsimp only;rw [hx,n3])) (sC (sI (sC Sub.nil))))))
 ·
  have hk0:k=0:=by omega
  subst hk0
  rw [List.drop_zero,Nat.pow_zero,Nat.div_one] at hv
  refine A7 ?_
  refine RE (xi6 (f:=fun n:Nat=>tE (.int .u16 n)) (fun _ h=>h) (xi4 hl) hl) qA qA trivial (R1 (x3 (c_RTrim _) fi250 rfl) rfl ?_)
  refine A1 ?_
  refine R1 (x5 Tryz.underlying153 (isS Tryz.underlying3) (wu16 (by omega) (by omega))) rfl (R1 (xk9 (n:=1) [a / 65536 ^ 0%d] Tryz.underlying23 el153 zf153 rfl rfl rfl) rfl (R1 (x3 (c_RTrim _) fi250 rfl) rfl ?_))
  refine A5 ?_
  exact E2 rfl rfl rfl (Le.of (congrArg tLm (by rw [xd7 x8 hD,hv]))) (Le.of (congrArg tLm (by rw [trim1L (by omega),Nat.pow_zero,Nat.div_one])))
end An.S
namespace An
open Go
theorem xu7 {a i:Nat} (h:i < (dig 65536 a).length):65536 ^ i<=a:=by
 rcases Nat.lt_or_ge a (65536 ^ i) with h' | h'
 ·have:=(xa8 x8 a i).2 h';omega
 ·exact h'
theorem rplus_in {a b i n s:Nat} (hn:n=(a%65536 ^ i+b%65536 ^ i) / 65536 ^ i) (hs:s=n+a / 65536 ^ i%65536+b / 65536 ^ i%65536):
  dgs 65536 i (a+b)++[s%65536]=dgs 65536 (i+1) (a+b)/\s / 65536=(a%65536 ^ (i+1)+b%65536 ^ (i+1)) / 65536 ^ (i+1):=by
 have hp:0 < 65536 ^ i:=Nat.pow_pos (by decide)
 have ea:=Nat.div_add_mod a (65536 ^ i)
 have eb:=Nat.div_add_mod b (65536 ^ i)
 have e1:(a+b) / 65536 ^ i=n+a / 65536 ^ i+b / 65536 ^ i:=by
  have:a+b=(a%65536 ^ i+b%65536 ^ i)+65536 ^ i*(a / 65536 ^ i+b / 65536 ^ i):=by rw [Nat.mul_add];omega
  rw [this,Nat.add_mul_div_left _ _ hp,<-hn];omega
 refine ⟨?_,?_⟩
 ·rw [xk6,e1,hs]
  congr 2
  omega
 ·rw [Nat.pow_succ,<-Nat.div_div_eq_div_mul,<-Nat.pow_succ,xg7,xg7]
  have e2:a%65536 ^ i+65536 ^ i*(a / 65536 ^ i%65536)+(b%65536 ^ i+65536 ^ i*(b / 65536 ^ i%65536))=(a%65536 ^ i+b%65536 ^ i)+65536 ^ i*(a / 65536 ^ i%65536+b / 65536 ^ i%65536):=by rw [Nat.mul_add];omega
  rw [e2,Nat.add_mul_div_left _ _ hp,<-hn,hs]
  congr 1;omega
theorem rplus_more {a b i n:Nat} (hn:n=(a%65536 ^ i+b%65536 ^ i) / 65536 ^ i) (h:i < (dig 65536 a).length∨i < (dig 65536 b).length∨0 < n):i+1<=(dig 65536 (a+b)).length:=by
 have hp:0 < 65536 ^ i:=Nat.pow_pos (by decide)
 have h1:65536 ^ i<=a+b:=by
  rcases h with h | h | h
  ·have:=xu7 h;omega
  ·have:=xu7 h;omega
  ·have h2:65536 ^ i<=a%65536 ^ i+b%65536 ^ i:=by
    rcases Nat.lt_or_ge (a%65536 ^ i+b%65536 ^ i) (65536 ^ i) with h' | h'
    ·rw [Nat.div_eq_of_lt h'] at hn;omega
    ·exact h'
   have:=Nat.mod_le a (65536 ^ i);have:=Nat.mod_le b (65536 ^ i)
   omega
 rcases Nat.lt_or_ge i (dig 65536 (a+b)).length with h' | h'
 ·exact h'
 ·have:=(xa8 x8 (a+b) i).1 h';omega
theorem rplus_end {a b i n:Nat} (hn:n=(a%65536 ^ i+b%65536 ^ i) / 65536 ^ i) (h0:n=0) (ha:(dig 65536 a).length<=i) (hb:(dig 65536 b).length<=i) (hi:i<=(dig 65536 (a+b)).length):dgs 65536 i (a+b)=dig 65536 (a+b):=by
 have hp:0 < 65536 ^ i:=Nat.pow_pos (by decide)
 rw [mod_all x8 ha,mod_all x8 hb,h0] at hn
 have h1:a+b < 65536 ^ i:=(Nat.div_eq_zero_iff_lt hp).1 hn.symm
 have h2:=(xa8 x8 (a+b) i).2 h1
 rw [show i=(dig 65536 (a+b)).length by omega,xo8 x8]
theorem rplus_small {a b i n:Nat} (hn:n=(a%65536 ^ i+b%65536 ^ i) / 65536 ^ i):n<=1:=by
 have hp:0 < 65536 ^ i:=Nat.pow_pos (by decide)
 have h1:=Nat.mod_lt a hp;have h2:=Nat.mod_lt b hp
 rw [hn]
 exact Nat.le_of_lt_succ (Nat.div_lt_of_lt_mul (by omega))
theorem rminus_in {a b i br n:Nat} {cs:List Nat} (hl:cs.length=i) (hv:val 65536 cs+b%65536 ^ i=a%65536 ^ i+br*65536 ^ i) (hbr:br<=1) (hn:n+br+b / 65536 ^ i%65536=65536+a / 65536 ^ i%65536):
  val 65536 (cs++[n%65536])+b%65536 ^ (i+1)=a%65536 ^ (i+1)+(1 - n / 65536)*65536 ^ (i+1)/\n / 65536<=1/\1 - n / 65536<=1:=by
 have h1:a / 65536 ^ i%65536 < 65536:=Nat.mod_lt _ (by decide)
 have h2:b / 65536 ^ i%65536 < 65536:=Nat.mod_lt _ (by decide)
 refine ⟨?_,by omega,by omega⟩
 rw [xq2,hl]
 exact sub_step hv rfl rfl (by omega)
theorem rminus_end {n a b br:Nat} {ws:List Nat} (hl:ws.length=n) (hD:Dig 65536 ws) (ha:a < 65536 ^ n) (hba:b<=a) (h:val 65536 ws+b%65536 ^ n=a%65536 ^ n+br*65536 ^ n):trimL ws=dig 65536 (a - b):=by
 rw [Nat.mod_eq_of_lt ha,Nat.mod_eq_of_lt (by omega)] at h
 have h1:=xp2 hD
 rw [hl] at h1
 rw [xd7 x8 hD]
 congr 1
 rcases Nat.eq_zero_or_pos br with h0 | h0
 ·subst h0;omega
 ·have:65536 ^ n<=br*65536 ^ n:=Nat.le_mul_of_pos_left _ h0
  omega
theorem len_dbl {a b k:Nat} (ha:(dig 65536 a).length<=k) (hb:(dig 65536 b).length<=k):(dig 65536 (a+b)).length<=k+1:=by
 rw [xa8 x8] at*
 rw [Nat.pow_succ];generalize 65536 ^ k=P at*;omega
end An
namespace An.S
open Go Go.Proofs An
theorem c_RPlus (a b:Nat) (ha:(dig 65536 a).length<=100000) (hb:(dig 65536 b).length<=100000):
  Ct Tryz.prog 237 [tM a,tM b] (tM (a+b)):=by
 have hab:=len_dbl ha hb
 refine Ct.intro Tryz.func237 rfl Tryz.ntmps237 rfl ?_
 intro w F
 refine A7 ?_
 refine RE (xe3 (k:=5) 153 1 false rfl (fun _=>rfl)) trivial trivial qA ?_
 refine A14 ?_
 refine cL (fun (fm:(Nat)×(Nat)×(List Nat))=>(fun (i:Nat) (n:Nat) (cs:List Nat)=>i<=(dig 65536 (a+b)).length/\n=(a%65536 ^ i+b%65536 ^ i) / 65536 ^ i/\cs=dgs 65536 i (a+b)) fm.1 fm.2.1 fm.2.2) (wC fun (i:Nat) (n:Nat) (cs:List Nat)=>uV (uV (uO (uV (uV uN 0 (tM a)) 1 (tM b)) 5 (.sl 5 1 0 cs.length)) 7 (tI i)) 6 (tI n)) (wC fun (i:Nat) (n:Nat) (cs:List Nat)=>uK uN 5 153 1 false (rW .u16 cs)) [5] (fun (fm:(Nat)×(Nat)×(List Nat))=>(fun (i:Nat) (n:Nat) (cs:List Nat)=>(dig 65536 (a+b)).length - i) fm.1 fm.2.1 fm.2.2) ((0,0,[])) (by dsimp only;exact ⟨Nat.zero_le _,by simp [Nat.mod_one],rfl⟩) ?_
 intro fm hI
 obtain ⟨i,n,cs⟩:=fm
 replace hI:i<=(dig 65536 (a+b)).length/\n=(a%65536 ^ i+b%65536 ^ i) / 65536 ^ i/\cs=dgs 65536 i (a+b):=hI
 show wc _ _ _ _ (uV (uV (uO (uV (uV uN 0 (tM a)) 1 (tM b)) 5 (.sl 5 1 0 cs.length)) 7 (tI i)) 6 (tI n)) (uK uN 5 153 1 false (rW .u16 cs)) _
 obtain ⟨hi,hn,hcs⟩:=hI
 have hcl:cs.length=i:=by rw [hcs,xe9]
 have hn1:=rplus_small hn
 have xa:=xc0 x8 a i
 have xb:=xc0 x8 b i
 have xa1:=(xc3 x8 a).getD (by decide) i
 have xb1:=(xc3 x8 b).getD (by decide) i
 refine A8 ?_
 refine RGcaseD (t:=12) rfl (fun h35=> ?_) (fun h35=> ?_)
 ·
  have hmore:=rplus_more hn (.inl (by omega))
  refine A16 ?_
  refine xf0 (fun (m1:Nat)=>m1=(n+a / 65536 ^ i%65536)) (fun (m1:Nat)=>uV (uV (uO (uV (uV uN 0 (tM a)) 1 (tM b)) 5 (.sl 5 1 0 cs.length)) 7 (tI i)) 6 (tI m1)) (fun (m1:Nat)=>uK uN 5 153 1 false (rW .u16 cs)) (nm [5]) ?_ ?_
  ·
   refine A8 ?_
   refine x6 rfl (fun h36=> ?_) (fun h36=> ?_)
   ·
    refine A4 ?_
    refine R2 (x4 sl23 (i) (by omega) (gN (by omega))) rfl rfl ?_
    refine A1 ?_
    refine R1 (x5 Tryz.underlying3 (isS Tryz.underlying153) (wr64 (by omega) (by omega))) rfl (R2 (xd8 (r:=((n+(dig 65536 a).getD i 0:Nat):Int)) (by rw [wr64 (by omega) (by omega)];omega)) rfl rfl ?_)
    refine A2 ?_
    exact kF (n+(dig 65536 a).getD i 0) (by rw [xa])
   ·
    refine A1 ?_
    exact kF (n) (by rw [xm2 x8 (by omega),Nat.add_zero])
  ·
   intro m1 hm1
   refine xf0 (fun (m2:Nat)=>m2=(m1+b / 65536 ^ i%65536)) (fun (m2:Nat)=>uV (uV (uO (uV (uV uN 0 (tM a)) 1 (tM b)) 5 (.sl 5 1 0 cs.length)) 7 (tI i)) 6 (tI m2)) (fun (m2:Nat)=>uK uN 5 153 1 false (rW .u16 cs)) (nm [5]) ?_ ?_
   ·
    refine A8 ?_
    refine x6 rfl (fun h39=> ?_) (fun h39=> ?_)
    ·
     refine A4 ?_
     refine R2 (x4 sl23 (i) (by omega) (gN (by omega))) rfl rfl ?_
     refine A1 ?_
     refine R1 (x5 Tryz.underlying3 (isS Tryz.underlying153) (wr64 (by omega) (by omega))) rfl (R2 (xd8 (r:=((m1+(dig 65536 b).getD i 0:Nat):Int)) (by rw [wr64 (by omega) (by omega)];omega)) rfl rfl ?_)
     refine A2 ?_
     exact kF (m1+(dig 65536 b).getD i 0) (by rw [xb])
    ·
     refine A1 ?_
     exact kF (m1) (by rw [xm2 x8 (by omega),Nat.add_zero])
   ·
    intro m2 hm2
    refine A4 ?_
    refine R2 (d_rem (r:=((m2%65536:Nat):Int)) (by decide) (wrem64 (b:=65536))) rfl rfl (R1 (x5 Tryz.underlying153 (isS Tryz.underlying3) (wu16 (by omega) (by omega))) rfl (R1 (xk9 (n:=1) [m2%65536] Tryz.underlying23 el153 zf153 rfl rfl rfl) rfl (RE (xb3 (k:=5) (k':=51) (ts':=rW .u16 (cs++[m2%65536])) Tryz.underlying23 el153 zf153 rfl rfl (fun _=>inferInstance) xj4 (by simp;omega) (by simp;omega) (by simp [rW]) (n':=cs.length+1) rfl) ⟨rfl,rfl,trivial⟩ ⟨rfl,trivial⟩ ⟨rfl,trivial⟩ ?_)))
    refine A5 ?_
    refine R2 (d_quo (r:=((m2 / 65536:Nat):Int)) (by decide) (iquo64 (b:=65536) (by omega))) rfl rfl ?_
    refine A9 ?_
    obtain ⟨n1,n2⟩:=rplus_in (s:=m2) hn (by rw [hm2,hm1])
    exact xc6 (l:=[5]) (fun j=>cond (Nat.beq j 5) 51 (j)) ((i+1,m2 / 65536,cs++[m2%65536])) ⟨(by dsimp only;exact ⟨hmore,n2,by rw [hcs];exact n1⟩),(by dsimp only;omega)⟩ (SubR.int rfl (by first | omega | rfl | (dsimp only;omega)) (SubR.int rfl (by first | omega | rfl | (dsimp only;omega)) ((SubR.consI rfl (Imp.of (by dsimp only;rw [List.length_append];rfl))) (SubR.cons rfl (SubR.cons rfl SubR.nil))))) ((SubKR.consI rfl (ImpK.of xf7.symm)) SubKR.nil) (SupG.val (SupG.val (SupG.own rfl (SupG.val (SupG.val SupG.nil))))) (SupH.cons rfl (supJ xd1) SupH.nil) (lkOk rfl) rfl rfl (fun _ h=>by cases h)
 ·
  refine A6 ?_
  refine RGcaseD (t:=18) rfl (fun h35_2=> ?_) (fun h35_2=> ?_)
  ·
   have hmore:=rplus_more hn (.inr (.inl (by omega)))
   refine A10 ?_
   refine xf0 (fun (m1:Nat)=>m1=(n+a / 65536 ^ i%65536)) (fun (m1:Nat)=>uV (uV (uO (uV (uV uN 0 (tM a)) 1 (tM b)) 5 (.sl 5 1 0 cs.length)) 7 (tI i)) 6 (tI m1)) (fun (m1:Nat)=>uK uN 5 153 1 false (rW .u16 cs)) (nm [5]) ?_ ?_
   ·
    refine A8 ?_
    refine x6 rfl (fun h36=> ?_) (fun h36=> ?_)
    ·
     refine A4 ?_
     refine R2 (x4 sl23 (i) (by omega) (gN (by omega))) rfl rfl ?_
     refine A1 ?_
     refine R1 (x5 Tryz.underlying3 (isS Tryz.underlying153) (wr64 (by omega) (by omega))) rfl (R2 (xd8 (r:=((n+(dig 65536 a).getD i 0:Nat):Int)) (by rw [wr64 (by omega) (by omega)];omega)) rfl rfl ?_)
     refine A2 ?_
     exact kF (n+(dig 65536 a).getD i 0) (by rw [xa])
    ·
     refine A1 ?_
     exact kF (n) (by rw [xm2 x8 (by omega),Nat.add_zero])
   ·
    intro m1 hm1
    refine xf0 (fun (m2:Nat)=>m2=(m1+b / 65536 ^ i%65536)) (fun (m2:Nat)=>uV (uV (uO (uV (uV uN 0 (tM a)) 1 (tM b)) 5 (.sl 5 1 0 cs.length)) 7 (tI i)) 6 (tI m2)) (fun (m2:Nat)=>uK uN 5 153 1 false (rW .u16 cs)) (nm [5]) ?_ ?_
    ·
     refine A8 ?_
     refine x6 rfl (fun h39=> ?_) (fun h39=> ?_)
     ·
      refine A4 ?_
      refine R2 (x4 sl23 (i) (by omega) (gN (by omega))) rfl rfl ?_
      refine A1 ?_
      refine R1 (x5 Tryz.underlying3 (isS Tryz.underlying153) (wr64 (by omega) (by omega))) rfl (R2 (xd8 (r:=((m1+(dig 65536 b).getD i 0:Nat):Int)) (by rw [wr64 (by omega) (by omega)];omega)) rfl rfl ?_)
      refine A2 ?_
      exact kF (m1+(dig 65536 b).getD i 0) (by rw [xb])
     ·
      refine A1 ?_
      exact kF (m1) (by rw [xm2 x8 (by omega),Nat.add_zero])
    ·
     intro m2 hm2
     refine A4 ?_
     refine R2 (d_rem (r:=((m2%65536:Nat):Int)) (by decide) (wrem64 (b:=65536))) rfl rfl (R1 (x5 Tryz.underlying153 (isS Tryz.underlying3) (wu16 (by omega) (by omega))) rfl (R1 (xk9 (n:=1) [m2%65536] Tryz.underlying23 el153 zf153 rfl rfl rfl) rfl (RE (xb3 (k:=5) (k':=51) (ts':=rW .u16 (cs++[m2%65536])) Tryz.underlying23 el153 zf153 rfl rfl (fun _=>inferInstance) xj4 (by simp;omega) (by simp;omega) (by simp [rW]) (n':=cs.length+1) rfl) ⟨rfl,rfl,trivial⟩ ⟨rfl,trivial⟩ ⟨rfl,trivial⟩ ?_)))
     refine A5 ?_
     refine R2 (d_quo (r:=((m2 / 65536:Nat):Int)) (by decide) (iquo64 (b:=65536) (by omega))) rfl rfl ?_
     refine A9 ?_
     obtain ⟨n1,n2⟩:=rplus_in (s:=m2) hn (by rw [hm2,hm1])
     exact xc6 (l:=[5]) (fun j=>cond (Nat.beq j 5) 51 (j)) ((i+1,m2 / 65536,cs++[m2%65536])) ⟨(by dsimp only;exact ⟨hmore,n2,by rw [hcs];exact n1⟩),(by dsimp only;omega)⟩ (SubR.int rfl (by first | omega | rfl | (dsimp only;omega)) (SubR.int rfl (by first | omega | rfl | (dsimp only;omega)) ((SubR.consI rfl (Imp.of (by dsimp only;rw [List.length_append];rfl))) (SubR.cons rfl (SubR.cons rfl SubR.nil))))) ((SubKR.consI rfl (ImpK.of xf7.symm)) SubKR.nil) (SupG.val (SupG.val (SupG.own rfl (SupG.val (SupG.val SupG.nil))))) (SupH.cons rfl (supJ xd1) SupH.nil) (lkOk rfl) rfl rfl (fun _ h=>by cases h)
  ·
   refine A5 ?_
   refine x6 rfl (fun h35_3=> ?_) (fun h35_3=> ?_)
   ·
    have hmore:=rplus_more hn (.inr (.inr (by omega)))
    refine A4 ?_
    refine xf0 (fun (m1:Nat)=>m1=(n+a / 65536 ^ i%65536)) (fun (m1:Nat)=>uV (uV (uO (uV (uV uN 0 (tM a)) 1 (tM b)) 5 (.sl 5 1 0 cs.length)) 7 (tI i)) 6 (tI m1)) (fun (m1:Nat)=>uK uN 5 153 1 false (rW .u16 cs)) (nm [5]) ?_ ?_
    ·
     refine A8 ?_
     refine x6 rfl (fun h36=> ?_) (fun h36=> ?_)
     ·
      refine A4 ?_
      refine R2 (x4 sl23 (i) (by omega) (gN (by omega))) rfl rfl ?_
      refine A1 ?_
      refine R1 (x5 Tryz.underlying3 (isS Tryz.underlying153) (wr64 (by omega) (by omega))) rfl (R2 (xd8 (r:=((n+(dig 65536 a).getD i 0:Nat):Int)) (by rw [wr64 (by omega) (by omega)];omega)) rfl rfl ?_)
      refine A2 ?_
      exact kF (n+(dig 65536 a).getD i 0) (by rw [xa])
     ·
      refine A1 ?_
      exact kF (n) (by rw [xm2 x8 (by omega),Nat.add_zero])
    ·
     intro m1 hm1
     refine xf0 (fun (m2:Nat)=>m2=(m1+b / 65536 ^ i%65536)) (fun (m2:Nat)=>uV (uV (uO (uV (uV uN 0 (tM a)) 1 (tM b)) 5 (.sl 5 1 0 cs.length)) 7 (tI i)) 6 (tI m2)) (fun (m2:Nat)=>uK uN 5 153 1 false (rW .u16 cs)) (nm [5]) ?_ ?_
     ·
      refine A8 ?_
      refine x6 rfl (fun h39=> ?_) (fun h39=> ?_)
      ·
       refine A4 ?_
       refine R2 (x4 sl23 (i) (by omega) (gN (by omega))) rfl rfl ?_
       refine A1 ?_
       refine R1 (x5 Tryz.underlying3 (isS Tryz.underlying153) (wr64 (by omega) (by omega))) rfl (R2 (xd8 (r:=((m1+(dig 65536 b).getD i 0:Nat):Int)) (by rw [wr64 (by omega) (by omega)];omega)) rfl rfl ?_)
       refine A2 ?_
       exact kF (m1+(dig 65536 b).getD i 0) (by rw [xb])
      ·
       refine A1 ?_
       exact kF (m1) (by rw [xm2 x8 (by omega),Nat.add_zero])
     ·
      intro m2 hm2
      refine A4 ?_
      refine R2 (d_rem (r:=((m2%65536:Nat):Int)) (by decide) (wrem64 (b:=65536))) rfl rfl (R1 (x5 Tryz.underlying153 (isS Tryz.underlying3) (wu16 (by omega) (by omega))) rfl (R1 (xk9 (n:=1) [m2%65536] Tryz.underlying23 el153 zf153 rfl rfl rfl) rfl (RE (xb3 (k:=5) (k':=51) (ts':=rW .u16 (cs++[m2%65536])) Tryz.underlying23 el153 zf153 rfl rfl (fun _=>inferInstance) xj4 (by simp;omega) (by simp;omega) (by simp [rW]) (n':=cs.length+1) rfl) ⟨rfl,rfl,trivial⟩ ⟨rfl,trivial⟩ ⟨rfl,trivial⟩ ?_)))
      refine A5 ?_
      refine R2 (d_quo (r:=((m2 / 65536:Nat):Int)) (by decide) (iquo64 (b:=65536) (by omega))) rfl rfl ?_
      refine A9 ?_
      obtain ⟨n1,n2⟩:=rplus_in (s:=m2) hn (by rw [hm2,hm1])
      exact xc6 (l:=[5]) (fun j=>cond (Nat.beq j 5) 51 (j)) ((i+1,m2 / 65536,cs++[m2%65536])) ⟨(by dsimp only;exact ⟨hmore,n2,by rw [hcs];exact n1⟩),(by dsimp only;omega)⟩ (SubR.int rfl (by first | omega | rfl | (dsimp only;omega)) (SubR.int rfl (by first | omega | rfl | (dsimp only;omega)) ((SubR.consI rfl (Imp.of (by dsimp only;rw [List.length_append];rfl))) (SubR.cons rfl (SubR.cons rfl SubR.nil))))) ((SubKR.consI rfl (ImpK.of xf7.symm)) SubKR.nil) (SupG.val (SupG.val (SupG.own rfl (SupG.val (SupG.val SupG.nil))))) (SupH.cons rfl (supJ xd1) SupH.nil) (lkOk rfl) rfl rfl (fun _ h=>by cases h)
   ·
    refine A7 ?_
    refine RE (xi6 (f:=fun n:Nat=>tE (.int .u16 n)) (xs:=cs) (fun _ h=>h) (xi4 rfl) rfl) qA qA trivial ?_
    refine A4 ?_
    exact E1 rfl rfl (Le.of (congrArg tLm (by rw [hcs,rplus_end hn (by omega) (by omega) (by omega) hi])))
end An.S
namespace An
open Go
theorem half_in {a k n q m:Nat} {qs:List Nat} (hk:k < m) (hl:qs.length=m) (hD:Dig 65536 qs) (hn:n%2=a / 65536 ^ (k+1)%2) (hv:val 65536 (qs.drop (k+1))=a / 65536 ^ (k+1) / 2) (hq:(n%2*65536+a / 65536 ^ k%65536) / 2=q):
  (qs.set k q).length=m/\Dig 65536 (qs.set k q)/\(n%2*65536+a / 65536 ^ k%65536)%2=a / 65536 ^ k%2/\val 65536 ((qs.set k q).drop k)=a / 65536 ^ k / 2/\q < 65536:=short_in hk hl hD (by decide) hn hv hq
theorem from_more {v i u:Nat} (hu:u=v / 65536 ^ i) (h0:0 < u):i+1<=(dig 65536 v).length/\u / 65536=v / 65536 ^ (i+1)/\dgs 65536 i v++[u%65536]=dgs 65536 (i+1) v:=by
 refine ⟨?_,by rw [hu,Nat.div_div_eq_div_mul,<-Nat.pow_succ],by rw [xk6,hu]⟩
 rcases Nat.lt_or_ge i (dig 65536 v).length with h' | h'
 ·exact h'
 ·have:=(xa8 x8 v i).1 h'
  rw [Nat.div_eq_of_lt this] at hu;omega
theorem from_end {v i:Nat} (h:v / 65536 ^ i=0) (hi:i<=(dig 65536 v).length):dgs 65536 i v=dig 65536 v:=by
 have h1:v < 65536 ^ i:=(Nat.div_eq_zero_iff_lt (Nat.pow_pos (by decide))).1 h
 have h2:=(xa8 x8 v i).2 h1
 rw [show i=(dig 65536 v).length by omega,xo8 x8]
theorem bits_le {a n k:Nat} (h:2 ^ n<=a) (hk:(dig 65536 a).length<=k):n < 16*k:=by
 have h1:=(xa8 x8 a k).1 hk
 have e:65536 ^ k=2 ^ (16*k):=by rw [Nat.pow_mul]
 rw [e] at h1
 exact (Nat.pow_lt_pow_iff_right (by decide)).1 (Nat.lt_of_le_of_lt h h1)
theorem div_bit {a b n i q r d:Nat} (hi:i < n) (hd:d=b*2 ^ (n - i)) (ha:a=q*d+r) (hr:r < d):
  d / 2=b*2 ^ (n - (i+1))/\(r < d / 2->a=(q+q)*(d / 2)+r)/\(¬r < d / 2->a=(q+q+1)*(d / 2)+(r - d / 2)/\r - d / 2 < d / 2/\d / 2<=r):=by
 have e:d=2*(b*2 ^ (n - (i+1))):=by rw [hd,show n - i=n - (i+1)+1 by omega,Nat.pow_succ];grind
 have h1:d / 2=b*2 ^ (n - (i+1)):=by omega
 refine ⟨h1,fun h=> ?_,fun h=>⟨?_,by omega,by omega⟩⟩
 ·rw [h1,ha,e];grind
 ·rw [h1] at h ⊢
  generalize b*2 ^ (n - (i+1))=c at*
  rw [ha,e]
  have:(q+q+1)*c=q*(2*c)+c:=by grind
  rw [this];omega
theorem div_done {a b q r:Nat} (ha:a=q*b+r) (hr:r < b):q=a / b/\r=a%b:=by
 have hb:0 < b:=by omega
 constructor
 ·rw [ha,Nat.mul_comm,Nat.mul_add_div hb,Nat.div_eq_of_lt hr,Nat.add_zero]
 ·rw [ha,Nat.mul_comm,Nat.mul_add_mod,Nat.mod_eq_of_lt hr]
end An
namespace An.S
open Go Go.Proofs An
instance fi220:FnI Tryz.prog 220:=⟨_,Tryz.func220,by kernel_rfl,rfl⟩
theorem c_RMinus (a b:Nat) (hab:b<=a) (ha:(dig 65536 a).length<=100000):
  Ct Tryz.prog 239 [tM a,tM b] (tM (a - b)):=by
 refine Ct.intro Tryz.func239 rfl Tryz.ntmps239 rfl ?_
 intro w F
 refine A7 ?_
 refine RE (xe3 (k:=5) 153 1 false rfl (fun _=>rfl)) trivial trivial qA ?_
 refine A14 ?_
 refine cL (fun (fm:(Nat)×(Nat)×(List Nat))=>(fun (i:Nat) (br:Nat) (cs:List Nat)=>i<=(dig 65536 a).length/\cs.length=i/\Dig 65536 cs/\val 65536 cs+b%65536 ^ i=a%65536 ^ i+br*65536 ^ i/\br<=1) fm.1 fm.2.1 fm.2.2) (wC fun (i:Nat) (br:Nat) (cs:List Nat)=>uV (uV (uO (uV (uV uN 0 (tM a)) 1 (tM b)) 5 (.sl 5 1 0 cs.length)) 6 (tI br)) 7 (tI i)) (wC fun (i:Nat) (br:Nat) (cs:List Nat)=>uK uN 5 153 1 false (rW .u16 cs)) [5] (fun (fm:(Nat)×(Nat)×(List Nat))=>(fun (i:Nat) (br:Nat) (cs:List Nat)=>(dig 65536 a).length - i) fm.1 fm.2.1 fm.2.2) ((0,0,[])) (by dsimp only;exact ⟨Nat.zero_le _,rfl,Dig.nil _,by simp [val,Nat.mod_one],by omega⟩) ?_
 intro fm hI
 obtain ⟨i,br,cs⟩:=fm
 replace hI:i<=(dig 65536 a).length/\cs.length=i/\Dig 65536 cs/\val 65536 cs+b%65536 ^ i=a%65536 ^ i+br*65536 ^ i/\br<=1:=hI
 show wc _ _ _ _ (uV (uV (uO (uV (uV uN 0 (tM a)) 1 (tM b)) 5 (.sl 5 1 0 cs.length)) 6 (tI br)) 7 (tI i)) (uK uN 5 153 1 false (rW .u16 cs)) _
 obtain ⟨hi,hl,hD,hv,hbr⟩:=hI
 have xa:=xc0 x8 a i
 have xb:=xc0 x8 b i
 have xa1:=(xc3 x8 a).getD (by decide) i
 have xb1:=(xc3 x8 b).getD (by decide) i
 refine A9 ?_
 refine x6 rfl (fun h52=> ?_) (fun h52=> ?_)
 ·
  refine A8 ?_
  refine R2 (x4 sl23 (i) (by omega) (gN (by omega))) rfl rfl ?_
  refine A1 ?_
  refine R1 (x5 Tryz.underlying3 (isS Tryz.underlying153) (wr64 (by omega) (by omega))) rfl (R2 (xd8 (r:=((65536+((dig 65536 a).getD i 0):Nat):Int)) (by rw [wr64 (by omega) (by omega)];omega)) rfl rfl ?_)
  refine A1 ?_
  refine R2 (xd6 (r:=((65536+((dig 65536 a).getD i 0) - br:Nat):Int)) (by rw [wr64 (by omega) (by omega)];omega)) rfl rfl ?_
  refine A3 ?_
  refine xf0 (fun (m:Nat)=>m+br+b / 65536 ^ i%65536=65536+a / 65536 ^ i%65536) (fun (m:Nat)=>uV (uV (uV (uO (uV (uV uN 0 (tM a)) 1 (tM b)) 5 (.sl 5 1 0 cs.length)) 6 (tI br)) 7 (tI i)) 8 (tI m)) (fun (m:Nat)=>uK uN 5 153 1 false (rW .u16 cs)) (nm [5]) ?_ ?_
  ·
   refine A8 ?_
   refine x6 rfl (fun h54=> ?_) (fun h54=> ?_)
   ·
    refine A4 ?_
    refine R2 (x4 sl23 (i) (by omega) (gN (by omega))) rfl rfl ?_
    refine A1 ?_
    refine R1 (x5 Tryz.underlying3 (isS Tryz.underlying153) (wr64 (by omega) (by omega))) rfl (R2 (xd6 (r:=((65536+((dig 65536 a).getD i 0) - br - ((dig 65536 b).getD i 0):Nat):Int)) (by rw [wr64 (by omega) (by omega)];omega)) rfl rfl ?_)
    refine A2 ?_
    exact kF (65536+((dig 65536 a).getD i 0) - br - ((dig 65536 b).getD i 0)) (by omega)
   ·
    refine A1 ?_
    exact kF (65536+((dig 65536 a).getD i 0) - br) (by rw [xm2 x8 (v:=b) (i:=i) (by omega)];omega)
  ·
   intro m hm
   refine A4 ?_
   refine R2 (d_rem (r:=((m%65536:Nat):Int)) (by decide) (wrem64 (b:=65536))) rfl rfl (R1 (x5 Tryz.underlying153 (isS Tryz.underlying3) (wu16 (by omega) (by omega))) rfl (R1 (xk9 (n:=1) [m%65536] Tryz.underlying23 el153 zf153 rfl rfl rfl) rfl (RE (xb3 (k:=5) (k':=39) (ts':=rW .u16 (cs++[m%65536])) Tryz.underlying23 el153 zf153 rfl rfl (fun _=>inferInstance) xj4 (by simp;omega) (by simp;omega) (by simp [rW]) (n':=cs.length+1) rfl) ⟨rfl,rfl,trivial⟩ ⟨rfl,trivial⟩ ⟨rfl,trivial⟩ ?_)))
   refine A5 ?_
   refine R2 (d_quo (r:=((m / 65536:Nat):Int)) (by decide) (iquo64 (b:=65536) (by omega))) rfl rfl (R2 (xd6 (r:=((1 - m / 65536:Nat):Int)) (by rw [wr64 (by omega) (by omega)];omega)) rfl rfl ?_)
   refine A9 ?_
   obtain ⟨n1,n2,n3⟩:=rminus_in hl hv hbr hm
   exact xc6 (l:=[5]) (fun j=>cond (Nat.beq j 5) 39 (j)) ((i+1,1 - m / 65536,cs++[m%65536])) ⟨(by dsimp only;exact ⟨by omega,by rw [List.length_append,hl];rfl,hD.append (Dig.cons (Nat.mod_lt _ (by decide)) (Dig.nil _)),n1,n3⟩),(by dsimp only;omega)⟩ (SubR.int rfl (by first | omega | rfl | (dsimp only;omega)) (SubR.int rfl (by first | omega | rfl | (dsimp only;omega)) ((SubR.consI rfl (Imp.of (by dsimp only;rw [List.length_append];rfl))) (SubR.cons rfl (SubR.cons rfl SubR.nil))))) ((SubKR.consI rfl (ImpK.of xf7.symm)) SubKR.nil) (SupG.val (SupG.val (SupG.own rfl (SupG.val (SupG.val SupG.nil))))) (SupH.cons rfl (supJ xd1) SupH.nil) (lkOk rfl) rfl rfl (fun _ h=>by cases h)
 ·
  refine A7 ?_
  refine RE (xi6 (f:=fun n:Nat=>tE (.int .u16 n)) (xs:=cs) (fun _ h=>h) (xi4 rfl) rfl) qA qA trivial (R1 (x3 (c_RTrim _) fi250 rfl) rfl ?_)
  refine A4 ?_
  exact E1 rfl rfl (Le.of (congrArg tLm (by rw [show i=(dig 65536 a).length by omega] at hv hl;exact rminus_end hl hD (xf6 x8 a) hab hv)))
theorem c_RHalf (a:Nat) (ha:(dig 65536 a).length<=200000):
  Ct Tryz.prog 238 [tM a] (tM (a / 2)):=by
 refine Ct.intro Tryz.func238 rfl Tryz.ntmps238 rfl ?_
 intro w F
 refine A9 ?_
 refine RE (xg0 (k:=8) (t:=tE (.int .u16 0)) (ts:=rW .u16 (List.replicate ((dig 65536 a).length) 0)) ((dig 65536 a).length) ((dig 65536 a).length) Tryz.underlying23 el153 (fun _ _=>rfl) rfl (by omega) (by omega) (Nat.le_refl _) (by omega) (by omega) (xp5 _)) qB trivial qA ?_
 refine A18 ?_
 refine cL (fun (fm:(Nat)×(Nat)×(List Nat))=>(fun (k:Nat) (n:Nat) (qs:List Nat)=>k<=(dig 65536 a).length/\qs.length=(dig 65536 a).length/\Dig 65536 qs/\n%2=a / 65536 ^ k%2/\val 65536 (qs.drop k)=a / 65536 ^ k / 2) fm.1 fm.2.1 fm.2.2) (wC fun (k:Nat) (n:Nat) (qs:List Nat)=>uV (uV (uO (uV uN 0 (tM a)) 3 (.sl 8 1 0 (dig 65536 a).length)) 4 (tI n)) 5 (tI ((k:Int) - 1))) (wC fun (k:Nat) (n:Nat) (qs:List Nat)=>uK uN 8 153 1 false (rW .u16 qs)) [8] (fun (fm:(Nat)×(Nat)×(List Nat))=>(fun (k:Nat) (n:Nat) (qs:List Nat)=>k) fm.1 fm.2.1 fm.2.2) (((dig 65536 a).length,0,List.replicate (dig 65536 a).length 0)) (by dsimp only;exact ⟨Nat.le_refl _,by simp,Dig.rep (by decide) _,by rw [Nat.div_eq_of_lt (xf6 x8 a)],by rw [Nat.div_eq_of_lt (xf6 x8 a),Nat.zero_div,List.drop_replicate,xf1]⟩) ?_
 intro fm hI
 obtain ⟨k,n,qs⟩:=fm
 replace hI:k<=(dig 65536 a).length/\qs.length=(dig 65536 a).length/\Dig 65536 qs/\n%2=a / 65536 ^ k%2/\val 65536 (qs.drop k)=a / 65536 ^ k / 2:=hI
 show wc _ _ _ _ (uV (uV (uO (uV uN 0 (tM a)) 3 (.sl 8 1 0 (dig 65536 a).length)) 4 (tI n)) 5 (tI ((k:Int) - 1))) (uK uN 8 153 1 false (rW .u16 qs)) _
 obtain ⟨hk,hl,hD,hn,hv⟩:=hI
 refine A7 ?_
 refine x6 rfl (fun h82=> ?_) (fun h82=> ?_)
 ·
  obtain ⟨j,rfl⟩: ∃j,k=j+1:=⟨k - 1,by omega⟩
  have hx:=xc0 x8 a j
  have hx1:=(xc3 x8 a).getD (by decide) j
  obtain ⟨n1,n2,n3,n4,n5⟩:=half_in (k:=j) (by omega) hl hD hn hv rfl
  rw [<-hx] at n1 n2 n3 n4 n5
  refine A7 ?_
  refine R2 (d_rem (r:=((n%2:Nat):Int)) (by decide) (wrem64 (b:=2))) rfl rfl (R2 (xi2 (r:=((n%2*65536:Nat):Int)) (by rw [wr64 (by omega) (by omega)];omega)) rfl rfl ?_)
  refine A2 ?_
  refine R2 (x4 sl23 (j) (by omega) (gN (by omega))) rfl rfl ?_
  refine A1 ?_
  refine R1 (x5 Tryz.underlying3 (isS Tryz.underlying153) (wr64 (by omega) (by omega))) rfl (R2 (xd8 (r:=(((n%2*65536+(dig 65536 a).getD j 0):Nat):Int)) (by rw [wr64 (by omega) (by omega)];omega)) rfl rfl ?_)
  refine A7 ?_
  refine R2 (d_quo (r:=(((n%2*65536+(dig 65536 a).getD j 0) / 2:Nat):Int)) (by decide) (iquo64 (b:=2) (by omega))) rfl rfl (R1 (x5 Tryz.underlying153 (isS Tryz.underlying3) (wu16 (by omega) (by omega))) rfl (R2 (xa2 sl23 (by omega) (by omega) rfl) rfl rfl (RE (xb8 (j) ti153 (xj0 (by omega)) (by omega) (xh1 (m:=_) rfl)) qB qA trivial ?_)))
  refine A8 ?_
  exact kF ((j,(n%2*65536+(dig 65536 a).getD j 0),qs.set j ((n%2*65536+(dig 65536 a).getD j 0) / 2))) ⟨(by dsimp only;exact ⟨by omega,n1,n2,n3,n4⟩),(by dsimp only;omega)⟩
 ·
  have hk0:k=0:=by omega
  subst hk0
  rw [List.drop_zero,Nat.pow_zero,Nat.div_one] at hv
  refine A7 ?_
  refine RE (xi6 (f:=fun n:Nat=>tE (.int .u16 n)) (xs:=qs) (fun _ h=>h) (xi4 hl) hl) qA qA trivial (R1 (x3 (c_RTrim _) fi250 rfl) rfl ?_)
  refine A4 ?_
  exact E1 rfl rfl (Le.of (congrArg tLm (by rw [xd7 x8 hD,hv])))
theorem c_RFromInt (n:Int) (h1: -9223372036854775808<=n) (h2:n<=9223372036854775807):
  Ct Tryz.prog 190 [tI n] (tWh (wh n)):=by
 refine Ct.intro Tryz.func190 rfl Tryz.ntmps190 rfl ?_
 intro w F
 refine A2 ?_
 refine RE (x7 (k:=2) (n:=2) (agg:=true) zr25.1 zr25.2 rfl) trivial trivial qA ?_
 refine A5 ?_
 refine R1 (x5 Tryz.underlying157 (isS Tryz.underlying3) toU64) rfl ?_
 refine A3 ?_
 refine xf0 (fun (v:Nat)=>v=n.natAbs) (fun (v:Nat)=>uV (uO (uV uN 0 (tI n)) 2 (.ptr 2 0)) 3 (tE (.int .u64 ((v:Nat):Int)))) (fun (v:Nat)=>uK uN 2 25 2 true [.val (tWh ⟨false,[]⟩)]) (nm [2]) ?_ ?_
 ·
  refine A6 ?_
  refine x6 rfl (fun h164=> ?_) (fun h164=> ?_)
  ·
   refine A2 ?_
   refine R1 (d_neg (negU64 (by omega))) rfl ?_
   refine A2 ?_
   exact kF ((18446744073709551616 - (n%18446744073709551616).toNat)%18446744073709551616) (by omega)
  ·
   refine A1 ?_
   exact kF ((n%18446744073709551616).toNat) (by omega)
 ·
  intro v hv
  have hvl:=wh_len v (by omega)
  refine A2 ?_
  refine RE (xe3 (k:=4) 153 1 false rfl (fun _=>rfl)) trivial trivial qA ?_
  refine A4 ?_
  refine cL (fun (fm:(Nat)×(Nat)×(List Nat))=>(fun (i:Nat) (u:Nat) (cs:List Nat)=>i<=(dig 65536 v).length/\u=v / 65536 ^ i/\cs=dgs 65536 i v/\u < 18446744073709551616) fm.1 fm.2.1 fm.2.2) (wC fun (i:Nat) (u:Nat) (cs:List Nat)=>uO (uV (uO (uV uN 0 (tI n)) 2 (.ptr 2 0)) 3 (tE (.int .u64 ((u:Nat):Int)))) 4 (.sl 4 1 0 cs.length)) (wC fun (i:Nat) (u:Nat) (cs:List Nat)=>uK (uK uN 2 25 2 true [.val (tWh ⟨false,[]⟩)]) 4 153 1 false (rW .u16 cs)) [2,4] (fun (fm:(Nat)×(Nat)×(List Nat))=>(fun (i:Nat) (u:Nat) (cs:List Nat)=>u) fm.1 fm.2.1 fm.2.2) ((0,v,[])) (by dsimp only;exact ⟨Nat.zero_le _,by simp,rfl,by omega⟩) ?_
  intro fm hI
  obtain ⟨i,u,cs⟩:=fm
  replace hI:i<=(dig 65536 v).length/\u=v / 65536 ^ i/\cs=dgs 65536 i v/\u < 18446744073709551616:=hI
  show wc _ _ _ _ (uO (uV (uO (uV uN 0 (tI n)) 2 (.ptr 2 0)) 3 (tE (.int .u64 ((u:Nat):Int)))) 4 (.sl 4 1 0 cs.length)) (uK (uK uN 2 25 2 true [.val (tWh ⟨false,[]⟩)]) 4 153 1 false (rW .u16 cs)) _
  obtain ⟨hi,hu,hcs,hu64⟩:=hI
  have hcl:cs.length=i:=by rw [hcs,xe9]
  refine A7 ?_
  refine x6 rfl (fun h168=> ?_) (fun h168=> ?_)
  ·
   refine A7 ?_
   refine R2 (d_rem (r:=((u%65536:Nat):Int)) (by decide) (wrem64 (b:=65536))) rfl rfl (R1 (x5 Tryz.underlying153 (isS Tryz.underlying157) (wu16 (by omega) (by omega))) rfl (R1 (xk9 (n:=1) [u%65536] Tryz.underlying23 el153 zf153 rfl rfl rfl) rfl (RE (xb3 (k:=4) (k':=18) (ts':=rW .u16 (cs++[u%65536])) Tryz.underlying23 el153 zf153 rfl rfl (fun _=>inferInstance) xj4 (by simp;omega) (by simp;omega) (by simp [rW]) (n':=cs.length+1) rfl) ⟨rfl,rfl,trivial⟩ ⟨rfl,trivial⟩ ⟨rfl,trivial⟩ ?_)))
   refine A5 ?_
   refine R2 (d_quo (r:=((u / 65536:Nat):Int)) (by decide) (wquo64 (b:=65536) (by omega))) rfl rfl ?_
   refine A3 ?_
   obtain ⟨n1,n2,n3⟩:=from_more hu (by omega)
   exact xc6 (l:=[2,4]) (fun j=>cond (Nat.beq j 4) 18 (j)) ((i+1,u / 65536,cs++[u%65536])) ⟨(by dsimp only;exact ⟨n1,n2,by rw [hcs];exact n3,by omega⟩),(by dsimp only;omega)⟩ ((SubR.consI rfl (Imp.of (by dsimp only;rw [List.length_append];rfl))) (SubR.int rfl (by first | omega | rfl | (dsimp only;omega)) (SubR.cons rfl (SubR.int rfl (by first | omega | rfl | (dsimp only;omega)) SubR.nil)))) ((SubKR.consI rfl (ImpK.of xf7.symm)) ((SubKR.consI rfl ImpK.refl) SubKR.nil)) (SupG.own rfl (SupG.val (SupG.own rfl (SupG.val SupG.nil)))) (SupH.cons rfl (supJ xd1) (SupH.cons rfl (supJL rfl) SupH.nil)) (lkOk rfl) rfl rfl (fun _ h=>by cases h)
  ·
   refine A9 ?_
   have hfin:cs=dig 65536 v:=by rw [hcs];exact from_end (by rw [<-hu];omega) hi
   subst hfin
   refine RE (xi6 (f:=fun n:Nat=>tE (.int .u16 n)) (xs:=(dig 65536 v)) (fun _ h=>h) (xi4 rfl) rfl) qA qA trivial (R2 (x3 (c_RMake _ v) fi220 rfl) rfl rfl ?_)
   refine A4 ?_
   exact EC rfl ⟨_,_,_,_,_,rfl,rfl,ti25,(Le.of (by rw [wh_sgn,hv,wh];congr 2;by_cases h:n < 0 <;> simp [h];omega))⟩
instance fi221:FnI Tryz.prog 221:=⟨_,Tryz.func221,by kernel_rfl,rfl⟩
instance fi235:FnI Tryz.prog 235:=⟨_,Tryz.func235,by kernel_rfl,rfl⟩
instance fi236:FnI Tryz.prog 236:=⟨_,Tryz.func236,by kernel_rfl,rfl⟩
instance fi237:FnI Tryz.prog 237:=⟨_,Tryz.func237,by kernel_rfl,rfl⟩
instance fi238:FnI Tryz.prog 238:=⟨_,Tryz.func238,by kernel_rfl,rfl⟩
instance fi239:FnI Tryz.prog 239:=⟨_,Tryz.func239,by kernel_rfl,rfl⟩
theorem c_RPlusOne (q:Nat) (h:(dig 65536 q).length<=100000):Ct Tryz.prog 237 [tM q,tLm [1]] (tM (q+1)):=by
 have e:dig 65536 1=[1]:=by rw [xj9 x8 (by decide),show (1:Nat) / 65536=0 by decide,xc8]
 have:=c_RPlus q 1 h (by rw [e];decide)
 rw [tM,tM,e] at this;exact this
theorem lenM {a b k:Nat} (h:a<=b) (hb:(dig 65536 b).length<=k):(dig 65536 a).length<=k:=Nat.le_trans (xd0 x8 h) hb
theorem one_dec {l:List Nat} (h:l.length=1):decide (((l.getD 0 0:Nat):Int)=1)=decide (l=[1]):=by
 obtain ⟨a,rfl⟩:=List.length_eq_one_iff.1 h
 simp
 omega
theorem c_RDivided (a b:Nat) (hb:0 < b) (ha:(dig 65536 a).length<=4000) (hbl:(dig 65536 b).length<=4000):
  Ct Tryz.prog 221 [tM a,tM b] (tT [tM (a / b),tM (a%b)]):=by
 refine Ct.intro Tryz.func221 rfl Tryz.ntmps221 rfl ?_
 intro w F
 refine A14 ?_
 refine x6 rfl (fun h103=> ?_) (fun h103=> ?_)
 ·
  have hb0:=one_limb (b:=b) (by omega)
  have hbW:=(xc3 x8 b).getD (by decide) 0
  refine A4 ?_
  refine R2 (x4 sl23 (0) (by omega) (gN (by omega))) rfl rfl ?_
  refine A1 ?_
  refine R1 (x5 Tryz.underlying3 (isS Tryz.underlying153) (wr64 (by omega) (by omega))) rfl (R2 (x3 (c_RShort a _ (by omega) (by omega) (by omega)) fi235 rfl) rfl rfl ?_)
  refine A8 ?_
  exact E2 rfl rfl rfl (Le.of (by rw [hb0])) (Le.of (by rw [hb0]))
 ·
  refine A15 ?_
  refine cL (fun (n:Nat)=>n=0∨b*2 ^ n<=a+a) (fun (n:Nat)=>uV (uV (uV (uV uN 0 (tM a)) 1 (tM b)) 6 (tI n)) 7 (tM (b*2 ^ n))) (fun (n:Nat)=>fun _=>none) [] (fun (n:Nat)=>a+1 - b*2 ^ n) (0) (.inl rfl) (hg:=(Sub.le rfl (Le.of (by first | rw [Nat.pow_zero,Nat.mul_one] | (dsimp only;rw [Nat.pow_zero,Nat.mul_one]))) (sI (sC (sC Sub.nil))))) ?_
  intro n hI
  have hn:n < 16*4001:=by
   rcases hI with h | h
   ·omega
   ·refine bits_le (a:=a+a) ?_ (by have:=len_dbl ha ha;omega)
    exact Nat.le_trans (Nat.le_mul_of_pos_left _ hb) h
  refine A5 ?_
  refine R2 (x3 (c_RLess a (b*2 ^ n)) fi236 rfl) rfl rfl ?_
  refine A3 ?_
  refine xc2 rfl (fun h107=> ?_) (fun h107=> ?_)
  ·
   have hle:b*2 ^ n<=a:=by
    have h:=h107
    simp at h;exact h
   have hnl:=lenM hle ha
   refine A7 ?_
   refine R2 (x3 (c_RPlus (b*2 ^ n) (b*2 ^ n) (by omega) (by omega)) fi237 rfl) rfl rfl ?_
   refine A9 ?_
   have he:b*2 ^ n+b*2 ^ n=b*2 ^ (n+1):=by rw [Nat.pow_succ,<-Nat.mul_assoc,Nat.mul_two]
   have hp:0 < b*2 ^ n:=Nat.mul_pos hb (Nat.pow_pos (by decide))
   exact kF (n+1) ⟨(.inr (by omega)),(by show a+1 - b*2 ^ (n+1) < a+1 - b*2 ^ n;omega)⟩ (hg:=(Sub.le rfl (Le.of (by rw [he])) (sI (sC (sC Sub.nil)))))
  ·
   have hlt:a < b*2 ^ n:=by
    have h:=h107
    simp at h;exact h
   have hnl:(dig 65536 (b*2 ^ n)).length<=4001:=by
    rcases hI with h | h
    ·rw [h,Nat.pow_zero,Nat.mul_one];omega
    ·exact lenM h (len_dbl ha ha)
   refine A18 ?_
   refine cL (fun (i:Nat)=>i<=n) (fun (i:Nat)=>uV (uV (uV (uV (uV uN 0 (tM a)) 1 (tM b)) 6 (tI n)) 8 (tM (b*2 ^ i))) 9 (tI i)) (fun (i:Nat)=>fun _=>none) [] (fun (i:Nat)=>n - i) (0) (Nat.zero_le _) (hg:=(sI (Sub.le rfl (Le.of (by first | rw [Nat.pow_zero,Nat.mul_one] | (dsimp only;rw [Nat.pow_zero,Nat.mul_one]))) (sI (sC (sC Sub.nil)))))) ?_
   intro i hJ
   refine A8 ?_
   refine x6 rfl (fun h111=> ?_) (fun h111=> ?_)
   ·
    have hil:(dig 65536 (b*2 ^ i)).length<=4001:=lenM (Nat.mul_le_mul_left _ (Nat.pow_le_pow_right (by decide) (by omega))) hnl
    refine A7 ?_
    refine R2 (x3 (c_RPlus (b*2 ^ i) (b*2 ^ i) (by omega) (by omega)) fi237 rfl) rfl rfl ?_
    refine A9 ?_
    have he:b*2 ^ i+b*2 ^ i=b*2 ^ (i+1):=by rw [Nat.pow_succ,<-Nat.mul_assoc,Nat.mul_two]
    exact kF (i+1) ⟨(by omega),(by omega)⟩ (hg:=(sI (Sub.le rfl (Le.of (by rw [he])) (sI (sC (sC Sub.nil))))))
   ·
    refine A12 ?_
    refine RE (d_sliceOfO (k:=43) (ents:=[]) Tryz.underlying23 el153 zf153 rfl (by simp) rfl rfl rfl) trivial trivial qA ?_
    refine A1 ?_
    refine RE (xb3 (k:=43) (k':=45) (ts':=rW .u16 (dig 65536 a)) Tryz.underlying23 el153 zf153 rfl rfl (fun _=>inferInstance) rfl (by simp;omega) (by simp;omega) (by simp [rW]) (n':=(dig 65536 a).length) (by simp)) ⟨rfl,rfl,trivial⟩ ⟨rfl,trivial⟩ ⟨rfl,trivial⟩ (RE (xk0 (f:=fun n:Nat=>tE (.int .u16 n)) (xs:=dig 65536 a) (fun _ h=>h) (xi4 rfl) rfl) ⟨rfl,trivial⟩ ⟨rfl,trivial⟩ trivial ?_)
    refine A9 ?_
    refine cL (fun (fm:(Nat)×(Nat)×(Nat)×(Nat))=>(fun (j:Nat) (q:Nat) (r:Nat) (d:Nat)=>j<=n/\d=b*2 ^ (n - j)/\a=q*d+r/\r < d) fm.1 fm.2.1 fm.2.2.1 fm.2.2.2) (wD fun (j:Nat) (q:Nat) (r:Nat) (d:Nat)=>uV (uV (uV (uV (uV uN 6 (tI n)) 8 (tM d)) 10 (tM q)) 11 (tM r)) 12 (tI j)) (wD fun (j:Nat) (q:Nat) (r:Nat) (d:Nat)=>fun _=>none) [] (fun (fm:(Nat)×(Nat)×(Nat)×(Nat))=>(fun (j:Nat) (q:Nat) (r:Nat) (d:Nat)=>n - j) fm.1 fm.2.1 fm.2.2.1 fm.2.2.2) ((0,0,a,b*2 ^ n)) (by dsimp only;exact ⟨Nat.zero_le _,rfl,by omega,by omega⟩) (hg:=(sI (sC (Sub.le rfl (leNil (xc8 _)) (Sub.le rfl (Le.of (by first | rw [show i=n by omega] | (dsimp only;rw [show i=n by omega]))) (sI Sub.nil)))))) ?_
    intro fm hK
    obtain ⟨j,q,r,d⟩:=fm
    replace hK:j<=n/\d=b*2 ^ (n - j)/\a=q*d+r/\r < d:=hK
    show wc _ _ _ _ (uV (uV (uV (uV (uV uN 6 (tI n)) 8 (tM d)) 10 (tM q)) 11 (tM r)) 12 (tI j)) (fun _=>none) _
    obtain ⟨hj,hd,hq,hr⟩:=hK
    have hqa:q<=a:=by
     have h1:q*1<=q*d:=Nat.mul_le_mul_left _ (by omega)
     omega
    have hql:=lenM hqa ha
    have hdn:b*2 ^ (n - j)<=b*2 ^ n:=Nat.mul_le_mul_left _ (Nat.pow_le_pow_right (by decide) (by omega))
    have hdl:(dig 65536 d).length<=4001:=by rw [<-hd] at hdn;exact lenM hdn hnl
    have hqq:=len_dbl hql hql
    refine A8 ?_
    refine x6 rfl (fun h116=> ?_) (fun h116=> ?_)
    ·
     refine A7 ?_
     refine R1 (x3 (c_RHalf d (by omega)) fi238 rfl) rfl ?_
     refine A7 ?_
     refine R2 (x3 (c_RPlus q q (by omega) (by omega)) fi237 rfl) rfl rfl ?_
     refine A7 ?_
     refine R2 (x3 (c_RLess r (d / 2)) fi236 rfl) rfl rfl ?_
     refine A3 ?_
     refine xc2 rfl (fun h119=> ?_) (fun h119=> ?_)
     ·
      have hge:d / 2<=r:=by
       have h:=h119
       simp at h;exact h
      refine A4 ?_
      refine R2 (x3 (c_RMinus r (d / 2) (by omega) (by have:=lenM (Nat.le_of_lt hr) hdl;omega)) fi239 rfl) rfl rfl ?_
      refine A5 ?_
      refine R1 (xk9 (n:=1) [1] Tryz.underlying23 el153 zf153 rfl rfl rfl) rfl (R2 (x3 (c_RPlusOne (q+q) (by omega)) fi237 rfl) rfl rfl ?_)
      refine A9 ?_
      obtain ⟨b1,b2,b3⟩:=div_bit (by omega) hd hq hr
      obtain ⟨b4,b5,b6⟩:=b3 (by omega)
      exact kF ((j+1,q+q+1,r - d / 2,d / 2)) ⟨(by dsimp only;exact ⟨by omega,b1,b4,b5⟩),(by dsimp only;omega)⟩
     ·
      have hge:r < d / 2:=by
       have h:=h119
       simp at h;exact h
      refine A8 ?_
      obtain ⟨b1,b2,b3⟩:=div_bit (by omega) hd hq hr
      exact kF ((j+1,q+q,r,d / 2)) ⟨(by dsimp only;exact ⟨by omega,b1,b2 (by omega),by omega⟩),(by dsimp only;omega)⟩
    ·
     have hdb:d=b:=by rw [hd,show n - j=0 by omega,Nat.pow_zero,Nat.mul_one]
     rw [hdb] at hq hr
     obtain ⟨e1,e2⟩:=div_done hq hr
     refine A14 ?_
     exact E2 rfl rfl rfl (Le.of (by rw [e1])) (Le.of (by rw [e2]))
theorem c_RCommon (a b:Nat) (ha:(dig 65536 a).length<=4000) (hb:(dig 65536 b).length<=4000):
  Ct Tryz.prog 194 [tM a,tM b] (tM (Nat.gcd a b)):=by
 refine Ct.intro Tryz.func194 rfl Tryz.ntmps194 rfl ?_
 intro w F
 refine A7 ?_
 refine cL (fun (fm:(Nat)×(Nat))=>(fun (x:Nat) (y:Nat)=>Nat.gcd x y=Nat.gcd a b/\(dig 65536 x).length<=4000/\(dig 65536 y).length<=4000) fm.1 fm.2) (wB fun (x:Nat) (y:Nat)=>uV (uV uN 0 (tM x)) 1 (tM y)) (wB fun (x:Nat) (y:Nat)=>fun _=>none) [] (fun (fm:(Nat)×(Nat))=>(fun (x:Nat) (y:Nat)=>y) fm.1 fm.2) ((a,b)) (by dsimp only;exact ⟨rfl,ha,hb⟩) ?_
 intro fm hI
 obtain ⟨x,y⟩:=fm
 replace hI:Nat.gcd x y=Nat.gcd a b/\(dig 65536 x).length<=4000/\(dig 65536 y).length<=4000:=hI
 show wc _ _ _ _ (uV (uV uN 0 (tM x)) 1 (tM y)) (fun _=>none) _
 obtain ⟨hg,hx,hy⟩:=hI
 refine A8 ?_
 refine x6 rfl (fun h261=> ?_) (fun h261=> ?_)
 ·
  have hy0:0 < y:=by have:=len_ne.1 h261;omega
  refine A7 ?_
  refine R2 (x3 (c_RDivided x y hy0 hx hy) fi221 rfl) rfl rfl ?_
  refine A18 ?_
  have hlt:x%y < y:=Nat.mod_lt _ hy0
  exact kF ((y,x%y)) ⟨(by dsimp only;exact ⟨by rw [Nat.gcd_comm,<-Nat.gcd_rec,Nat.gcd_comm];exact hg,hy,lenM (Nat.le_of_lt hlt) hy⟩),(by dsimp only;omega)⟩
 ·
  have hy0:y=0:=Classical.byContradiction fun h=>h261 (len_ne.2 h)
  refine A12 ?_
  exact E1 rfl rfl (Le.of (by rw [<-hg,hy0,Nat.gcd_zero_right]))
theorem c_Rone (l:List Nat):
  Ct Tryz.prog 193 [tLm l] (tB (decide (l=[1]))):=by
 refine Ct.intro Tryz.func193 rfl Tryz.ntmps193 rfl ?_
 intro w F
 refine A11 ?_
 refine RGcaseD (t:=6) rfl (fun h24=> ?_) (fun h24=> ?_)
 ·
  refine A1 ?_
  refine Rg (decide_eq_true h24) rfl (x4 sl23 (0) (by omega) (gN (by omega))) rfl qB ?_
  refine A7 ?_
  exact E1 rfl rfl (Le.bool (one_dec (by omega)))
 ·
  refine A9 ?_
  exact E1 rfl rfl (Le.bool (decide_eq_false (fun h=>h24 (by rw [h];rfl))).symm)
end An.S
namespace An
open Go
def Fr.dig (f:Fr):Prop:=Dig 65536 f.n.l/\Dig 65536 f.d.l
def Fr.rat (f:Fr):Rat:=Rat.divInt f.n.int f.d.int
theorem xp4 (q:Rat):(fr q).rat=q:=by
 have e1:(fr q).n.int=q.num:=xo4 _
 have e2:(fr q).d.int=(q.den:Int):=xo4 _
 rw [Fr.rat,e1,e2,Rat.divInt_ofNat,Rat.mkRat_self]
theorem Fr.of_valid' {f:Fr} (hD:f.dig) (h:f.valid=true):f=fr f.rat/\short f.rat:=by
 obtain ⟨q,hq,hs⟩:=Fr.of_valid hD.1 hD.2 h
 subst hq
 rw [xp4];exact ⟨rfl,hs⟩
def take (q:Rat) (n:Int):Int:=(q*(n:Rat)).floor
theorem len16_64 {n:Int} (h1: -9223372036854775808<=n) (h2:n<=9223372036854775807):len16 n<=4:=wh_len _ (by omega)
end An
namespace An.S
open Go Go.Proofs An
end An.S
namespace An
open Go
theorem mul_lt16 {x y:Nat} (hx:x < 65536) (hy:y < 65536):x*y<=4294836225:=by
 have:=Nat.mul_le_mul (show x<=65535 by omega) (show y<=65535 by omega)
 omega
theorem rtimes_in {b i j c x y s la:Nat} {w0 vs:List Nat} (hl:vs.length=la) (hD:Dig 65536 vs) (hw:w0.length=la) (hdr:vs.drop (i+j)=w0.drop (i+j)) (hij:i+j < la) (hc:c < 65536) (hx:x < 65536) (hy:y=b / 65536 ^ j%65536)
  (hs:s=x*y+vs.getD (i+j) 0+c) (h:val 65536 (vs.take (i+j))+c*65536 ^ (i+j)=val 65536 (w0.take (i+j))+x*65536 ^ i*(b%65536 ^ j)):
  (vs.set (i+j) (s%65536)).length=la/\Dig 65536 (vs.set (i+j) (s%65536))/\(vs.set (i+j) (s%65536)).drop (i+(j+1))=w0.drop (i+(j+1))/\s / 65536 < 65536/\
   val 65536 ((vs.set (i+j) (s%65536)).take (i+(j+1)))+s / 65536*65536 ^ (i+(j+1))=val 65536 (w0.take (i+(j+1)))+x*65536 ^ i*(b%65536 ^ (j+1)):=by
 have hyW:y < 65536:=by rw [hy];exact Nat.mod_lt _ (by decide)
 have hg:vs.getD (i+j) 0 < 65536:=hD.getD (by decide) _
 refine ⟨by simpa using hl,hD.set (Nat.mod_lt _ (by decide)),by rw [<-Nat.add_assoc,xe0];exact xi5 hdr (by omega),?_,?_⟩
 ·have:=mul_lt16 hx hyW
  refine Nat.div_lt_of_lt_mul ?_
  show s < 65536*65536
  have:vs.getD (i+j) 0 < 65536:=hg
  have:c < 65536:=hc
  omega
 ·rw [<-Nat.add_assoc,xe7 (by omega),xd4 _ w0 _ (by omega),<-xg5 hdr (Nat.le_refl _)]
  exact mul_step h hs hy
theorem rtimes_out {a b i c la lb:Nat} {w0 vs:List Nat} (hi:i < la) (hw:w0.length=la+lb) (hl:vs.length=la+lb) (hD:Dig 65536 vs) (hdr:vs.drop (i+lb)=w0.drop (i+lb)) (hz:w0.drop (i+lb)=List.replicate (la - i) 0) (hc:c < 65536)
  (h0:val 65536 (w0.take (i+lb))=a%65536 ^ i*b) (hb:b < 65536 ^ lb) (h:val 65536 (vs.take (i+lb))+c*65536 ^ (i+lb)=val 65536 (w0.take (i+lb))+a / 65536 ^ i%65536*65536 ^ i*(b%65536 ^ lb)):
  (vs.set (i+lb) c).length=la+lb/\Dig 65536 (vs.set (i+lb) c)/\(vs.set (i+lb) c).drop (i+1+lb)=List.replicate (la - (i+1)) 0/\val 65536 ((vs.set (i+lb) c).take (i+1+lb))=a%65536 ^ (i+1)*b:=by
 refine ⟨by simpa using hl,hD.set hc,?_,?_⟩
 ·rw [show i+1+lb=i+lb+1 by omega,xe0,xi5 (j:=i+lb+1) hdr (by omega),<-List.drop_drop,hz,List.drop_replicate];congr 1
 ·rw [show i+1+lb=i+lb+1 by omega,xe7 (by omega),Nat.mul_comm _ c,h,h0,xg7,Nat.mod_eq_of_lt hb,Nat.add_mul]
  congr 1
  rw [Nat.mul_comm (65536 ^ i)]
theorem rtimes_end {a b la lb:Nat} {ws:List Nat} (hl:ws.length=la+lb) (hD:Dig 65536 ws) (ha:a < 65536 ^ la) (h:val 65536 (ws.take (la+lb))=a%65536 ^ la*b):trimL ws=dig 65536 (a*b):=by
 rw [xd7 x8 hD]
 rw [<-hl,List.take_length,Nat.mod_eq_of_lt ha] at h
 rw [h]
end An
namespace An.S
open Go Go.Proofs An
instance fi190:FnI Tryz.prog 190:=⟨_,Tryz.func190,by kernel_rfl,rfl⟩
instance fi191:FnI Tryz.prog 191:=⟨_,Tryz.func191,by kernel_rfl,rfl⟩
instance fi192:FnI Tryz.prog 192:=⟨_,Tryz.func192,by kernel_rfl,rfl⟩
instance fi193:FnI Tryz.prog 193:=⟨_,Tryz.func193,by kernel_rfl,rfl⟩
instance fi194:FnI Tryz.prog 194:=⟨_,Tryz.func194,by kernel_rfl,rfl⟩
instance fi218:FnI Tryz.prog 218:=⟨_,Tryz.func218,by kernel_rfl,rfl⟩
instance fi219:FnI Tryz.prog 219:=⟨_,Tryz.func219,by kernel_rfl,rfl⟩
instance fi232:FnI Tryz.prog 232:=⟨_,Tryz.func232,by kernel_rfl,rfl⟩
instance fi233:FnI Tryz.prog 233:=⟨_,Tryz.func233,by kernel_rfl,rfl⟩
instance fi234:FnI Tryz.prog 234:=⟨_,Tryz.func234,by kernel_rfl,rfl⟩
theorem c_RTimes (a b:Nat) (ha:(dig 65536 a).length<=100000) (hb:(dig 65536 b).length<=100000):
  Ct Tryz.prog 234 [tM a,tM b] (tM (a*b)):=by
 refine Ct.intro Tryz.func234 rfl Tryz.ntmps234 rfl ?_
 intro w F
 have hbW:=xf6 x8 b
 refine A12 ?_
 refine RE (xg0 (k:=14) (t:=tE (.int .u16 0)) (ts:=rW .u16 (List.replicate (((dig 65536 a).length+(dig 65536 b).length)) 0)) (((dig 65536 a).length+(dig 65536 b).length)) (((dig 65536 a).length+(dig 65536 b).length)) Tryz.underlying23 el153 (fun _ _=>rfl) rfl (by omega) (by omega) (Nat.le_refl _) (by omega) (by omega) (xp5 _)) qB trivial qA ?_
 refine A10 ?_
 refine cL (fun (fm:(Nat)×(List Nat))=>(fun (i:Nat) (ws:List Nat)=>i<=(dig 65536 a).length/\ws.length=(dig 65536 a).length+(dig 65536 b).length/\Dig 65536 ws/\ws.drop (i+(dig 65536 b).length)=List.replicate ((dig 65536 a).length - i) 0/\val 65536 (ws.take (i+(dig 65536 b).length))=a%65536 ^ i*b) fm.1 fm.2) (wB fun (i:Nat) (ws:List Nat)=>uV (uO (uV (uV uN 0 (tM a)) 1 (tM b)) 5 (.sl 14 1 0 ((dig 65536 a).length+(dig 65536 b).length))) 6 (tI i)) (wB fun (i:Nat) (ws:List Nat)=>uK uN 14 153 1 false (rW .u16 ws)) [14] (fun (fm:(Nat)×(List Nat))=>(fun (i:Nat) (ws:List Nat)=>(dig 65536 a).length - i) fm.1 fm.2) ((0,List.replicate ((dig 65536 a).length+(dig 65536 b).length) 0)) (by dsimp only;exact ⟨Nat.zero_le _,by simp,Dig.rep (by decide) _,by rw [List.drop_replicate];congr 1;omega,by rw [List.take_replicate,xf1,Nat.pow_zero,Nat.mod_one,Nat.zero_mul]⟩) ?_
 intro fm hI
 obtain ⟨i,ws⟩:=fm
 replace hI:i<=(dig 65536 a).length/\ws.length=(dig 65536 a).length+(dig 65536 b).length/\Dig 65536 ws/\ws.drop (i+(dig 65536 b).length)=List.replicate ((dig 65536 a).length - i) 0/\val 65536 (ws.take (i+(dig 65536 b).length))=a%65536 ^ i*b:=hI
 show wc _ _ _ _ (uV (uO (uV (uV uN 0 (tM a)) 1 (tM b)) 5 (.sl 14 1 0 ((dig 65536 a).length+(dig 65536 b).length))) 6 (tI i)) (uK uN 14 153 1 false (rW .u16 ws)) _
 obtain ⟨hi,hl,hD,hz,hv⟩:=hI
 have hx:=xc0 x8 a i
 have hx1:=(xc3 x8 a).getD (by omega) i
 refine A9 ?_
 refine x6 rfl (fun h66=> ?_) (fun h66=> ?_)
 ·
  refine A16 ?_
  refine cL (fun (fm:(Nat)×(List Nat)×(Nat))=>(fun (j:Nat) (vs:List Nat) (c:Nat)=>j<=(dig 65536 b).length/\vs.length=(dig 65536 a).length+(dig 65536 b).length/\Dig 65536 vs/\vs.drop (i+j)=ws.drop (i+j)/\c < 65536/\val 65536 (vs.take (i+j))+c*65536 ^ (i+j)=val 65536 (ws.take (i+j))+(dig 65536 a).getD i 0*65536 ^ i*(b%65536 ^ j)) fm.1 fm.2.1 fm.2.2) (wC fun (j:Nat) (vs:List Nat) (c:Nat)=>uV (uV (uV (uO (uV (uV uN 0 (tM a)) 1 (tM b)) 5 (.sl 14 1 0 ((dig 65536 a).length+(dig 65536 b).length))) 6 (tI i)) 7 (tI c)) 8 (tI j)) (wC fun (j:Nat) (vs:List Nat) (c:Nat)=>uK uN 14 153 1 false (rW .u16 vs)) [14] (fun (fm:(Nat)×(List Nat)×(Nat))=>(fun (j:Nat) (vs:List Nat) (c:Nat)=>(dig 65536 b).length - j) fm.1 fm.2.1 fm.2.2) ((0,ws,0)) (by dsimp only;exact ⟨Nat.zero_le _,hl,hD,rfl,by omega,by rw [Nat.pow_zero,Nat.mod_one];omega⟩) ?_
  intro fm hJ
  obtain ⟨j,vs,c⟩:=fm
  replace hJ:j<=(dig 65536 b).length/\vs.length=(dig 65536 a).length+(dig 65536 b).length/\Dig 65536 vs/\vs.drop (i+j)=ws.drop (i+j)/\c < 65536/\val 65536 (vs.take (i+j))+c*65536 ^ (i+j)=val 65536 (ws.take (i+j))+(dig 65536 a).getD i 0*65536 ^ i*(b%65536 ^ j):=hJ
  show wc _ _ _ _ (uV (uV (uV (uO (uV (uV uN 0 (tM a)) 1 (tM b)) 5 (.sl 14 1 0 ((dig 65536 a).length+(dig 65536 b).length))) 6 (tI i)) 7 (tI c)) 8 (tI j)) (uK uN 14 153 1 false (rW .u16 vs)) _
  obtain ⟨hj,kl,kD,kdr,kc,kv⟩:=hJ
  have hy:=xc0 x8 b j
  have hy1:=(xc3 x8 b).getD (by omega) j
  have hw1:=kD.getD (by omega) (i+j)
  have hxy:=mul_lt16 hx1 hy1
  refine A9 ?_
  refine x6 rfl (fun h68=> ?_) (fun h68=> ?_)
  ·
   refine A9 ?_
   refine R2 (x4 sl23 (i) (by omega) (gN (by omega))) rfl rfl ?_
   refine A1 ?_
   refine R1 (x5 Tryz.underlying3 (isS Tryz.underlying153) (wr64 (by omega) (by omega))) rfl ?_
   refine A2 ?_
   refine R2 (x4 sl23 (j) (by omega) (gN (by omega))) rfl rfl ?_
   refine A1 ?_
   refine R1 (x5 Tryz.underlying3 (isS Tryz.underlying153) (wr64 (by omega) (by omega))) rfl (R2 (xi2 (r:=(((dig 65536 a).getD i 0*(dig 65536 b).getD j 0:Nat):Int)) (by rw [<-Int.natCast_mul,wr64 (by omega) (by omega)])) rfl rfl (R2 (xd8 (r:=((c+(dig 65536 a).getD i 0*(dig 65536 b).getD j 0:Nat):Int)) (by rw [wr64 (by omega) (by omega)];omega)) rfl rfl ?_))
   refine A4 ?_
   refine R2 (xa2 sl23 (by omega) (by omega) rfl) rfl rfl (RE (xc1 (i+j) ti153 (xn7 (by omega)) (by omega)) qA qA trivial (R1 (x5 Tryz.underlying3 (isS Tryz.underlying153) (wr64 (by omega) (by omega))) rfl (R2 (xd8 (r:=(((c+(dig 65536 a).getD i 0*(dig 65536 b).getD j 0+vs.getD (i+j) 0):Nat):Int)) (by rw [wr64 (by omega) (by omega)];omega)) rfl rfl ?_)))
   refine A10 ?_
   refine R2 (d_rem (r:=(((c+(dig 65536 a).getD i 0*(dig 65536 b).getD j 0+vs.getD (i+j) 0)%65536:Nat):Int)) (by decide) (wrem64 (b:=65536))) rfl rfl (R1 (x5 Tryz.underlying153 (isS Tryz.underlying3) (wu16 (by omega) (by omega))) rfl (R2 (xa2 sl23 (by omega) (by omega) rfl) rfl rfl (RE (xb8 (i+j) ti153 (xj0 (by omega)) (by omega) (xh1 (m:=_) rfl)) qB qA trivial ?_)))
   refine A4 ?_
   refine R2 (d_quo (r:=(((c+(dig 65536 a).getD i 0*(dig 65536 b).getD j 0+vs.getD (i+j) 0) / 65536:Nat):Int)) (by decide) (iquo64 (b:=65536) (by omega))) rfl rfl ?_
   refine A9 ?_
   obtain ⟨n1,n2,n3,n4,n5⟩:=rtimes_in (s:=(c+(dig 65536 a).getD i 0*(dig 65536 b).getD j 0+vs.getD (i+j) 0)) kl kD hl kdr (by omega) kc hx1 hy (by omega) kv
   exact kF ((j+1,vs.set (i+j) ((c+(dig 65536 a).getD i 0*(dig 65536 b).getD j 0+vs.getD (i+j) 0)%65536),(c+(dig 65536 a).getD i 0*(dig 65536 b).getD j 0+vs.getD (i+j) 0) / 65536)) ⟨(by dsimp only;exact ⟨by omega,n1,n2,n3,n4,n5⟩),(by dsimp only;omega)⟩
  ·
   have hjb:j=(dig 65536 b).length:=by omega
   refine A12 ?_
   refine R1 (x5 Tryz.underlying153 (isS Tryz.underlying3) (wu16 (by omega) (by omega))) rfl (R2 (xa2 sl23 (by omega) (by omega) rfl) rfl rfl (RE (xb8 (i+(dig 65536 b).length) ti153 (xj0 (by omega)) (by omega) (xh1 (m:=_) rfl)) qB qA trivial ?_))
   refine A8 ?_
   obtain ⟨n1,n2,n3,n4⟩:=rtimes_out (by omega) hl kl kD (by rw [<-hjb];exact kdr) hz kc hv hbW (by rw [<-hjb,<-hx];exact kv)
   exact kF ((i+1,vs.set (i+(dig 65536 b).length) c)) ⟨(by dsimp only;exact ⟨by omega,n1,n2,n3,n4⟩),(by dsimp only;omega)⟩
 ·
  refine A7 ?_
  refine RE (xi6 (f:=fun n:Nat=>tE (.int .u16 n)) (xs:=ws) (fun _ h=>h) (xi4 hl) hl) qA qA trivial (R1 (x3 (c_RTrim _) fi250 rfl) rfl ?_)
  refine A4 ?_
  exact E1 rfl rfl (Le.of (congrArg tLm (rtimes_end hl hD (xf6 x8 a) (by rw [<-show i=(dig 65536 a).length by omega];exact hv))))
theorem c_RValid (x:Wh):
  Ct Tryz.prog 191 [tWh x] (tB x.valid):=by
 refine Ct.intro Tryz.func191 rfl Tryz.ntmps191 rfl ?_
 intro w F
 refine A15 ?_
 refine x6 rfl (fun h142=> ?_) (fun h142=> ?_)
 ·
  refine A10 ?_
  exact E1 rfl rfl (Le.bool (by simp only [Wh.valid];rw [if_pos (by omega)]))
 ·
  refine A3 ?_
  refine xg9 (s:=4) rfl (fun hl4=> ?_)
  refine A6 ?_
  refine RGcaseD (t:=14) rfl (fun h145=> ?_) (fun h145=> ?_)
  ·
   refine A5 ?_
   refine Rg (decide_eq_true h145) rfl (xd6 (wr64 (by omega) (by omega))) rfl qB (Rg (decide_eq_true h145) rfl (x4 sl23 (x.l.length - 1) (by omega) (gN (by omega))) rfl qB ?_)
   refine A7 ?_
   exact E1 rfl rfl (Le.bool (by simp only [Wh.valid];rw [if_neg (by omega),decide_eq_true (show x.l.length<=1024 by omega),Bool.true_and];exact decide_eq_decide.2 (by omega)))
  ·
   refine A14 ?_
   exact E1 rfl rfl (Le.bool (by simp only [Wh.valid];rw [if_neg (by omega),decide_eq_false (show ¬x.l.length<=1024 by omega),Bool.false_and]))
theorem rsum1 {x y:Int} (h:((wh x).neg==(wh y).neg)=true):sgn (wh x).neg (x.natAbs+y.natAbs)=x+y:=by
 have h:decide (x < 0)=decide (y < 0):=eq_of_beq h
 show sgn (decide (x < 0)) _=_
 by_cases hx:x < 0 <;> by_cases hy:y < 0 <;> simp [hx,hy] at h <;> simp [sgn,hx] <;> omega
theorem rsum2 {x y:Int} (h:((wh x).neg==(wh y).neg)=false) (hl:x.natAbs < y.natAbs):sgn (wh y).neg (y.natAbs - x.natAbs)=x+y:=by
 have h:(decide (x < 0)==decide (y < 0))=false:=h
 show sgn (decide (y < 0)) _=_
 by_cases hx:x < 0 <;> by_cases hy:y < 0 <;> simp [hx,hy] at h <;> simp [sgn,hy] <;> omega
theorem rsum3 {x y:Int} (h:((wh x).neg==(wh y).neg)=false) (hl: ¬x.natAbs < y.natAbs):sgn (wh x).neg (x.natAbs - y.natAbs)=x+y:=by
 have h:(decide (x < 0)==decide (y < 0))=false:=h
 show sgn (decide (x < 0)) _=_
 by_cases hx:x < 0 <;> by_cases hy:y < 0 <;> simp [hx,hy] at h <;> simp [sgn,hx] <;> omega
theorem rneg1 {x:Int}:sgn (!(wh x).neg) x.natAbs= -x:=by
 show sgn (!decide (x < 0)) _=_
 by_cases hx:x < 0 <;> simp [sgn,hx] <;> omega
theorem len_nil {x:Int}:(wh x).l.length=0↔x=0:=by
 show (dig 65536 x.natAbs).length=0↔_
 rw [List.length_eq_zero_iff,xi1 x8];omega
theorem c_RSum (x y:Int) (hx:len16 x<=4001) (hy:len16 y<=4001):
  Ct Tryz.prog 232 [tWh (wh x),tWh (wh y)] (tWh (wh (x+y))):=by
 refine Ct.intro Tryz.func232 rfl Tryz.ntmps232 rfl ?_
 intro w F
 refine A4 ?_
 refine RE (x7 (k:=4) (n:=2) (agg:=true) zr25.1 zr25.2 rfl) trivial trivial qA ?_
 refine A12 ?_
 refine xc2 rfl (fun h198=> ?_) (fun h198=> ?_)
 ·
  refine A8 ?_
  refine R2 (x3 (c_RPlus x.natAbs y.natAbs (by show len16 x<=100000;omega) (by show len16 y<=100000;omega)) fi237 rfl) rfl rfl (R2 (x3 (c_RMake _ _) fi220 rfl) rfl rfl ?_)
  refine A5 ?_
  exact EC rfl ⟨_,_,_,_,_,rfl,rfl,ti25,(Le.of (by rw [rsum1 h198]))⟩
 ·
  refine A9 ?_
  refine R2 (x3 (c_RLess x.natAbs y.natAbs) fi236 rfl) rfl rfl ?_
  refine A2 ?_
  refine x6 rfl (fun h201=> ?_) (fun h201=> ?_)
  ·
   refine A8 ?_
   refine R2 (x3 (c_RMinus y.natAbs x.natAbs (by omega) (by show len16 y<=100000;omega)) fi239 rfl) rfl rfl (R2 (x3 (c_RMake _ _) fi220 rfl) rfl rfl ?_)
   refine A5 ?_
   exact EC rfl ⟨_,_,_,_,_,rfl,rfl,ti25,(Le.of (by rw [rsum2 h198 h201]))⟩
  ·
   refine A10 ?_
   refine R2 (x3 (c_RMinus x.natAbs y.natAbs (by omega) (by show len16 x<=100000;omega)) fi239 rfl) rfl rfl (R2 (x3 (c_RMake _ _) fi220 rfl) rfl rfl ?_)
   refine A4 ?_
   exact EC rfl ⟨_,_,_,_,_,rfl,rfl,ti25,(Le.of (by rw [rsum3 h198 h201]))⟩
theorem c_RNeg (x:Int):
  Ct Tryz.prog 233 [tWh (wh x)] (tWh (wh (-x))):=by
 refine Ct.intro Tryz.func233 rfl Tryz.ntmps233 rfl ?_
 intro w F
 refine A3 ?_
 refine RE (x7 (k:=2) (n:=2) (agg:=true) zr25.1 zr25.2 rfl) trivial trivial qA ?_
 refine A9 ?_
 refine R2 (x3 (c_RMake _ x.natAbs) fi220 rfl) rfl rfl ?_
 refine A4 ?_
 exact EC rfl ⟨_,_,_,_,_,rfl,rfl,ti25,(Le.of (by rw [rneg1]))⟩
theorem c_RProduct (x y:Int) (hx:len16 x<=4001) (hy:len16 y<=4001):
  Ct Tryz.prog 219 [tWh (wh x),tWh (wh y)] (tWh (wh (x*y))):=by
 refine Ct.intro Tryz.func219 rfl Tryz.ntmps219 rfl ?_
 intro w F
 refine A4 ?_
 refine RE (x7 (k:=4) (n:=2) (agg:=true) zr25.1 zr25.2 rfl) trivial trivial qA ?_
 refine A13 ?_
 refine R2 (x3 (c_RTimes x.natAbs y.natAbs (by show len16 x<=100000;omega) (by show len16 y<=100000;omega)) fi234 rfl) rfl rfl (R2 (x3 (c_RMake _ _) fi220 rfl) rfl rfl ?_)
 refine A4 ?_
 exact EC rfl ⟨_,_,_,_,_,rfl,rfl,ti25,(Le.of (by rw [sgn_mul]))⟩
theorem c_ROrder (x y:Int) (hx:len16 x<=4000) (hy:len16 y<=4000):
  Ct Tryz.prog 218 [tWh (wh x),tWh (wh y)] (tI (cmpZ x y)):=by
 have hny:=len16_neg y
 refine Ct.intro Tryz.func218 rfl Tryz.ntmps218 rfl ?_
 intro w F
 refine A11 ?_
 refine R1 (x3 (c_RNeg y) fi233 rfl) rfl (R2 (x3 (c_RSum x (-y) (by omega) (by omega)) fi232 rfl) rfl rfl (RE (x7 (k:=5) (n:=2) (agg:=true) zr25.1 zr25.2 rfl) trivial trivial qA ?_))
 refine A10 ?_
 refine xc2 rfl (fun h280=> ?_) (fun h280=> ?_)
 ·
  have hlt:x+ -y < 0:=of_decide_eq_true h280
  refine A7 ?_
  exact E1 rfl rfl (Le.int (by rw [cmpZ,if_pos (by omega)]))
 ·
  have hlt: ¬x+ -y < 0:=of_decide_eq_false h280
  refine A11 ?_
  refine x6 rfl (fun h283=> ?_) (fun h283=> ?_)
  ·
   have hne:x+ -y≠0:=fun h=>by have:=len_nil.2 h;omega
   refine A7 ?_
   exact E1 rfl rfl (Le.int (by rw [cmpZ,if_neg (by omega),if_neg (by omega)]))
  ·
   have hne:x+ -y=0:=len_nil.1 (by omega)
   refine A8 ?_
   exact E1 rfl rfl (Le.int (by rw [cmpZ,if_neg (by omega),if_pos (by omega)]))
theorem c_RFits (f:Fr):
  Ct Tryz.prog 192 [tFr f] (tB f.sh):=by
 refine Ct.intro Tryz.func192 rfl Tryz.ntmps192 rfl ?_
 intro w F
 refine A10 ?_
 refine xe1 (0) ti23 rfl rfl rfl (At.t (At.g 0 rfl rfl) (At.g 1 rfl rfl)) rfl ?_
 refine A3 ?_
 refine RGcaseD (t:=8) rfl (fun h27=> ?_) (fun h27=> ?_)
 ·
  refine A2 ?_
  refine xb2 (decide_eq_true h27) rfl rfl (0) ti23 rfl rfl rfl (At.t (At.g 1 rfl rfl) (At.g 1 rfl rfl)) rfl ?_
  refine A7 ?_
  exact E1 rfl rfl (Le.bool (by rw [Fr.sh,decide_eq_true (show f.n.l.length<=256 by omega),Bool.true_and];exact decide_eq_decide.2 (by omega)))
 ·
  refine A10 ?_
  exact E1 rfl rfl (Le.bool (by rw [Fr.sh,decide_eq_false (show ¬f.n.l.length<=256 by omega)];rfl))
theorem one_dec2 {x y:Int}:decide (dig 65536 (Nat.gcd x.natAbs y.natAbs)=[1])=decide (Int.gcd x y=1):=by
 have h1:dig 65536 1=[1]:=by rw [xj9 x8 (by decide),show (1:Nat) / 65536=0 by decide,xc8]
 refine decide_eq_decide.2 ⟨fun h=> ?_,fun h=> ?_⟩
 ·rw [<-h1] at h
  have h2:=congrArg (val 65536) h
  rw [xm9 x8,xm9 x8] at h2
  exact h2
 ·have h:Nat.gcd x.natAbs y.natAbs=1:=h
  rw [h,h1]
theorem c_R2Valid (f:Fr) (hn:Dig 65536 f.n.l) (hd:Dig 65536 f.d.l):
  Ct Tryz.prog 153 [tFr f] (tB f.valid):=by
 obtain ⟨n,d⟩:=f
 replace hn:Dig 65536 n.l:=hn
 replace hd:Dig 65536 d.l:=hd
 refine Ct.intro Tryz.func153 rfl Tryz.ntmps153 rfl ?_
 intro w F
 refine A11 ?_
 refine R1 (x3 (c_RValid n) fi191 rfl) rfl ?_
 refine A2 ?_
 refine RGcase (t:=7) rfl (fun h39=> ?_) (fun h39=> ?_)
 ·
  have hv1:n.valid=false:=by simpa using h39
  refine A18 ?_
  refine A14 ?_
  exact E1 rfl rfl (Le.bool (by simp only [Fr.valid,hv1,Bool.and_false,Bool.false_and]))
 ·
  have hv1:n.valid=true:=by simpa using h39
  refine A2 ?_
  refine Rg h39 rfl (x3 (c_RValid d) fi191 rfl) rfl qA ?_
  refine A3 ?_
  refine RGcase (t:=13) rfl (fun h39_2=> ?_) (fun h39_2=> ?_)
  ·
   have hv2:d.valid=false:=by simpa using h39_2
   refine A18 ?_
   refine A8 ?_
   exact E1 rfl rfl (Le.bool (by simp only [Fr.valid,hv2,Bool.and_false,Bool.false_and]))
  ·
   have hv2:d.valid=true:=by simpa using h39_2
   obtain ⟨x,rfl,hxl⟩:=Wh.of_valid hn hv1
   obtain ⟨y,rfl,hyl⟩:=Wh.of_valid hd hv2
   have ix:=xo4 x
   have iy:=xo4 y
   refine A1 ?_
   refine Rg h39_2 rfl (x3 (c_RFits _) fi192 rfl) rfl qA ?_
   refine A3 ?_
   refine RGcase (t:=18) rfl (fun h39_3=> ?_) (fun h39_3=> ?_)
   ·
    have hs:(⟨wh x,wh y⟩:Fr).sh=false:=by simpa using h39_3
    refine A18 ?_
    refine A3 ?_
    exact E1 rfl rfl (Le.bool (by simp only [Fr.valid,hs,Bool.false_and]))
   ·
    have hs:(⟨wh x,wh y⟩:Fr).sh=true:=by simpa using h39_3
    refine A2 ?_
    refine xb2 h39_3 rfl rfl (0) ti4 rfl rfl rfl (At.t (At.g 1 rfl rfl) (At.g 0 rfl rfl)) rfl ?_
    refine A2 ?_
    refine RGcase (t:=23) rfl (fun h39_4=> ?_) (fun h39_4=> ?_)
    ·
     have hy0: ¬0 < y:=by have:y < 0:=of_decide_eq_true h39_4;omega
     refine A16 ?_
     exact E1 rfl rfl (Le.bool (by simp only [Fr.valid,ix,iy,decide_eq_false hy0,Bool.and_false,Bool.false_and]))
    ·
     refine A2 ?_
     refine xb2 h39_4 rfl rfl (0) ti23 rfl rfl rfl (At.t (At.g 1 rfl rfl) (At.g 1 rfl rfl)) rfl ?_
     refine A5 ?_
     refine x6 rfl (fun h39_5=> ?_) (fun h39_5=> ?_)
     ·
      have h5:(((wh y).l.length:Nat):Int)=0:=h39_5
      have hy0: ¬0 < y:=fun h=>by have:=len_nil.1 (show (wh y).l.length=0 by omega);omega
      refine A7 ?_
      exact E1 rfl rfl (Le.bool (by simp only [Fr.valid,ix,iy,decide_eq_false hy0,Bool.and_false,Bool.false_and]))
     ·
      have h5: ¬(((wh y).l.length:Nat):Int)=0:=h39_5
      have hy0:0 < y:=pos_of_wh h39_4 (by omega)
      refine A6 ?_
      refine xe1 (0) ti23 rfl rfl rfl (At.t (At.g 0 rfl rfl) (At.g 1 rfl rfl)) rfl ?_
      refine A2 ?_
      refine xe1 (0) ti23 rfl rfl rfl (At.t (At.g 1 rfl rfl) (At.g 1 rfl rfl)) rfl (R2 (x3 (c_RCommon x.natAbs y.natAbs (by show len16 x<=4000;omega) (by show len16 y<=4000;omega)) fi194 rfl) rfl rfl (R1 (x3 (c_Rone _) fi193 rfl) rfl ?_))
      refine A4 ?_
      exact E1 rfl rfl (Le.bool (by simp only [Fr.valid,ix,iy,hs,hv1,hv2,decide_eq_true hy0,Bool.true_and];exact one_dec2))
theorem c_R2Order (a b:Rat) (ha:short a) (hb:short b):
  Ct Tryz.prog 189 [tFr (fr a),tFr (fr b)] (tI (cmpQ a b)):=by
 obtain ⟨an,ad⟩:=ha
 obtain ⟨bn,bd⟩:=hb
 have ha:short a:=⟨an,ad⟩
 have hb:short b:=⟨bn,bd⟩
 have da:=a.den_nz
 have db:=b.den_nz
 have l1:=len16_mul an bd
 have l2:=len16_mul bn ad
 refine Ct.intro Tryz.func189 rfl Tryz.ntmps189 rfl ?_
 intro w F
 refine A13 ?_
 refine R2 (x3 (c_RProduct a.num (b.den:Int) (by omega) (by omega)) fi219 rfl) rfl rfl ?_
 refine A4 ?_
 refine R2 (x3 (c_RProduct b.num (a.den:Int) (by omega) (by omega)) fi219 rfl) rfl rfl (R2 (x3 (c_ROrder (a.num*(b.den:Int)) (b.num*(a.den:Int)) (by omega) (by omega)) fi218 rfl) rfl rfl ?_)
 refine A4 ?_
 exact E1 rfl rfl (Le.int (cmpQ_eq a b))
theorem c_R2FromInt (n:Int) (h1: -9223372036854775808<=n) (h2:n<=9223372036854775807):
  Ct Tryz.prog 152 [tI n] (tFr (fr (n:Rat))):=by
 refine Ct.intro Tryz.func152 rfl Tryz.ntmps152 rfl ?_
 intro w F
 refine A2 ?_
 refine RE (x7 (k:=2) (n:=4) (agg:=true) zr27.1 zr27.2 rfl) trivial trivial qA ?_
 refine A5 ?_
 refine R1 (x3 (c_RFromInt n h1 h2) fi190 rfl) rfl (R1 (x3 (c_RFromInt 1 (by decide) (by decide)) fi190 rfl) rfl (R2 (xb0 (r:=tS [⟨2,true,tWh (wh n)⟩,⟨2,true,tWh (wh 1)⟩]) (ts:=[(0,tWh (wh n)),(1,tWh (wh 1))]) bu27 zr27.2 (Bc 0 rfl rfl rfl (Bc 1 rfl rfl rfl Le.refl))) rfl rfl ?_))
 refine A4 ?_
 exact EC rfl ⟨_,_,_,_,_,rfl,rfl,ti27,(Le.of (by rw [fr,Rat.num_intCast,Rat.den_intCast];rfl))⟩
end An.S
namespace An
open Go
section
variable {P:Program} {c:Base} {g:Slots} {h:Keys} {al:Names} {d ty:Nat} {pos:String} {af:Array Edge} {gd:Option (Nat×Bool)}
end
section
variable {P:Program} {c:Base} {d ty:Nat} {pos:String} {af:Array Edge} {gd:Option (Nat×Bool)}
def ArgsR (k es len:Nat) (t0:Ty):List Ent->List Ty->Prop
 | [],[]=>True
 | e::r,t::s=>(e= .val t∨(e= .own (.sl k es 0 len)/\t=t0))/\ArgsR k es len t0 r s
 | _,_=>False
theorem ArgsR.all {g:Slots} {h:Keys} {al:Names} {a:Act} {w:World} {η:Env} {k T es len:Nat} {agg:Bool} {ts:List Ent} {α:Type} {f:α->Ty} {zs:List α} (st:St' c g h al a w η) (hk:h k=some ⟨T,es,agg,ts⟩) (hlb:NoLb c) (hts:(ts.drop 0).take len=zs.map fun x=> .val (f x)) (hl:zs.length=len):
  ∀{xs:List Operand} {es':List Ent} {us:List Ty},Rd g (xs.zip es')->xs.length=us.length->ArgsR k es len (tL es agg f zs) es' us->Tup.all (c.dom (upd h k none) η) w us (xs.map a.eval)
 | [],_,[],_,_,_=>trivial
 | x::xs,e::es',u::us,hr,hn,ha=>by
  refine ⟨?_,ArgsR.all st hk hlb hts hl hr.2 (by simpa using hn) ha.2⟩
  rcases ha.1 with e1 | ⟨e1,e2⟩
  ·subst e1
   exact (xa0 (st.drop k) hr.1).1
  ·subst e1;subst e2
   exact st.give hk hlb hts hl (xa0 st hr.1).1
 | [],_,_::_,_,hn,_=>by simp at hn
 | _::_,_,[],_,hn,_=>by simp at hn
 | _::_,[],_::_,_,_,ha=>ha.elim
theorem d_callR {f:FuncId} {xs:List Operand} {aT:Array TypeId} {us:List Ty} {r:Ty} {α:Type} {ft:α->Ty} {zs:List α} {ts:List Ent} {agg:Bool} (k T es len:Nat) (ents:List Ent) (hsc: ∀F F' w v,r.p F w v->r.p F' w v) (hc:Ct P f us r) (hf:FnI P f) (hlb:NoLb c)
  (hts:(ts.drop 0).take len=zs.map fun x=> .val (ft x)) (hzl:zs.length=len) (ha:ArgsR k es len (tL es agg ft zs) ents us) (hl:xs.length=us.length):
  Does P c ⟨some d,.call {callee:= .value (.func f),args:=xs.toArray,argTypes:=aT},ty,pos,af,gd⟩ ⟨xs.zip ents,[(k,⟨T,es,agg,ts⟩)],some (d,some (.val r)),[],[]⟩:=by
 intro g h al a w hp ⟨η,st⟩
 obtain ⟨fn,h1,h2,h3⟩:=hf
 have hargs:=ArgsR.all st hp.kr.1 hlb hts hzl hp.rd hl ha
 have hrun:(execOp a.eval ⟨some d,.call {callee:= .value (.func f),args:=xs.toArray,argTypes:=aT},ty,pos,af,gd⟩).run P w= .ok (.enter f (xs.map a.eval).toArray) w:=by
  simp only [execOp,resolve,Act.eval,Deferred.ofValue,Sem.run_bind,Sem.run_pure,Result.andThen_ok,invoke]
  simp only [Array.append_empty,Array.empty_append,List.map_toArray]
  exact xh4 h1 h2 h3 _ w
 refine xm3 hrun (Calls.mono (hc _ w (xs.map a.eval) hargs) ?_)
 rintro e w' ⟨v,rfl,hext,hr⟩
 exact ⟨v,rfl,η,(st.ext hext).put (hp.d _ rfl) (e:= .val r) (hsc _ _ _ _ hr) (fun k hk=>by cases hk)⟩
end
def tLK {α:Type} (es:Nat) (agg:Bool) (f:α->Ty) (xs ms:List α):Ty:=
 ⟨fun F w v=> ∃A c,v= .slice A xs.length c/\(tL es agg f (xs++ms)).p F w (.slice A (xs.length+ms.length) c),fun ⟨A,c,h1,h2⟩ hk=>⟨A,c,h1,(tL es agg f (xs++ms)).mono h2 hk⟩⟩
theorem tLK_le {α:Type} {es:Nat} {agg:Bool} {f:α->Ty} {xs ms:List α}:Le (tLK es agg f xs ms) (tL es agg f xs):=fun F w v ⟨A,c,h1,h2⟩=>by
 obtain ⟨A',c',e,h3,h4,h5⟩:=h2
 injection e with e1 e2 e3
 subst e1 e3
 refine ⟨A,c,h1,by simp at h3;omega,h4,?_⟩
 rcases h5 with h5 | ⟨b,o,h6,h7,h8⟩
 ·exact .inl (List.append_eq_nil_iff.1 h5).1
 ·exact .inr ⟨b,o,h6,h7,fun i x hi=>h8 i x (by rw [List.getElem?_append_left (List.getElem?_eq_some_iff.1 hi).1];exact hi)⟩
instance {α:Type} {es:Nat} {agg:Bool} {f:α->Ty} {xs ms:List α}:Shape (tLK es agg f xs ms) 1 false:=⟨fun ⟨_,_,h,_⟩=>by rw [h];exact xd3 rfl⟩
def LeFs:List Fd->List Fd->Prop
 | [],[]=>True
 | f::r,g::s=>(f.n=g.n/\f.agg=g.agg/\Le f.t g.t)/\LeFs r s
 | _,_=>False
theorem LeFs.sum: ∀{fs gs:List Fd},LeFs fs gs->Fd.sum fs=Fd.sum gs
 | [],[],_=>rfl
 | _::_,_::_,h=>by rw [Fd.sum,Fd.sum,h.1.1,LeFs.sum h.2]
 | [],_::_,h=>h.elim
 | _::_,[],h=>h.elim
theorem LeFs.all {F:Dom} {w:World} {cs:Array Value}: ∀{fs gs:List Fd} {o:Nat},LeFs fs gs->Fd.all F w cs o fs->Fd.all F w cs o gs
 | [],[],_,_,h=>h
 | f::r,g::s,o,h,ha=>by
  obtain ⟨⟨h1,h2,h3⟩,h4⟩:=h
  refine ⟨⟨by rw [<-h1,<-h2];exact ha.1.1,by rw [<-h1,<-h2];exact h3 _ _ _ ha.1.2⟩,?_⟩
  rw [<-h1];exact LeFs.all h4 ha.2
 | [],_::_,_,h,_=>h.elim
 | _::_,[],_,h,_=>h.elim
theorem Le.tS {fs gs:List Fd} (h:LeFs fs gs):Le (tS fs) (tS gs):=fun _ _ _ ⟨cs,h1,h2,h3⟩=>⟨cs,h1,h2.trans h.sum,h.all h3⟩
theorem add0 {A:Option Addr} {es:Nat}:A.map (·.add (0*es))=A:=by cases A <;> simp [Addr.add]
section
variable {P:Program} {c:Base} {d ty:Nat} {pos:String} {af:Array Edge} {gd:Option (Nat×Bool)}
theorem d_lenK {T:TypeId} {x:Operand} {α:Type} {es:Nat} {agg:Bool} {f:α->Ty} {xs ms:List α} {E:TypeId} (hT:P.underlying T=some (.slice E)):
  Does P c ⟨some d,.call {callee:= .builtin .len,args:= #[x],argTypes:= #[T]},ty,pos,af,gd⟩ ⟨[(x,.val (tLK es agg f xs ms))],[],some (d,some (.val (tI xs.length))),[],[]⟩:=
 Does.value rfl fun g h al a w η hrd _ s=>by
  obtain ⟨A,cc,h1,_⟩:=(xa0 s hrd.1).1
  have h1:a.eval x= .slice A xs.length cc:=h1
  exact ⟨_,w,by simp only [execOp,resolve,invoke,builtin,List.map_toArray,List.map_cons,List.map_nil,h1];simp [Builtin.len_,run_underlying hT,goInt,go_sem],Ext.refl w,rfl,fun k hk=>by cases hk⟩
theorem d_sliceK {T E es:Nat} {agg:Bool} {α:Type} {f:α->Ty} {xs ms:List α} {x y:Operand} {v:Int} (sl:SlI P T E es agg) (hv:v=((xs.length+ms.length:Nat):Int)):
  Does P c ⟨some d,.slice T x none (some y) none,ty,pos,af,gd⟩ ⟨[(x,.val (tLK es agg f xs ms)),(y,.val (tI v))],[],some (d,some (.val (tL es agg f (xs++ms)))),[],[]⟩:=by
 subst hv
 exact Does.value rfl fun g h al a w η hrd _ s=>by
  obtain ⟨A,cap,hA,hm⟩:=(xa0 s hrd.1).1
  have hA:a.eval x= .slice A xs.length cap:=hA
  have hle:xs.length+ms.length<=cap:=by
   obtain ⟨_,_,e,h1,_⟩:=hm
   injection e with e1 e2 e3
   subst e3;simpa using h1
  have hb:=xk7 (P:=P) (b:=true) (len:=xs.length) (cap:=cap) s (lo:=none) (hi:=some y) (l:=0) (u:=xs.length+ms.length) (fun _=>rfl) (fun h=>by cases h) hrd.2 (Nat.zero_le _) hle
  simp only [Option.map_none] at hb
  refine ⟨.slice (if cap=0 then A else A.map (·.add (0*es))) (xs.length+ms.length - 0) (cap - 0),w,?_,Ext.refl w,?_,fun j hj=>by cases hj⟩
  ·simp only [execOp,hA,Instr.sliceAt,Sem.run_bind,run_underlying sl.und,Result.andThen_ok,Instr.slice,Option.map_none,hb,sl.el.size_run w,Sem.run_pure]
  ·have e:(if cap=0 then A else A.map (·.add (0*es)))=A:=by
    split
    ·rfl
    ·exact add0
   rw [e];exact hm
end
def tG (G:Dom) (t:Ty):Ty:=⟨fun F w v=>t.p (fun b=>F b/\G b) w v,fun h hk=>t.mono h fun b o hb hl hd=>⟨⟨(hk b o hb.1 hl hd).1,hb.2⟩,(hk b o hb.1 hl hd).2⟩⟩
theorem tG_le {G:Dom} {t:Ty}:Le (tG G t) t:=fun _ _ _ h=>t.mono h fun _ _ hb hl _=>⟨hb.1,hl⟩
theorem tG_sub {G G':Dom} {t:Ty} (h: ∀b,G b->G' b):Le (tG G t) (tG G' t):=fun _ _ _ hp=>t.mono hp fun _ _ hb hl _=>⟨⟨hb.1,h _ hb.2⟩,hl⟩
theorem tG_mono {G:Dom} {t u:Ty} (h:Le t u):Le (tG G t) (tG G u):=fun _ _ _ hp=>h _ _ _ hp
theorem tG_E {G:Dom} {v:Value}:Le (tE v) (tG G (tE v)):=fun _ _ _ h=>h
theorem Le.trans {t u v:Ty} (h:Le t u) (k:Le u v):Le t v:=fun _ _ _ hp=>k _ _ _ (h _ _ _ hp)
def LeGs (G:Dom):List Fd->List Fd->Prop
 | [],[]=>True
 | f::r,g::s=>(f.n=g.n/\f.agg=g.agg/\Le f.t (tG G g.t))/\LeGs G r s
 | _,_=>False
theorem LeGs.sum {G:Dom}: ∀{fs gs:List Fd},LeGs G fs gs->Fd.sum fs=Fd.sum gs
 | [],[],_=>rfl
 | _::_,_::_,h=>by rw [Fd.sum,Fd.sum,h.1.1,LeGs.sum h.2]
 | [],_::_,h=>h.elim
 | _::_,[],h=>h.elim
theorem LeGs.all {G F:Dom} {w:World} {cs:Array Value}: ∀{fs gs:List Fd} {o:Nat},LeGs G fs gs->Fd.all F w cs o fs->Fd.all (fun b=>F b/\G b) w cs o gs
 | [],[],_,_,_=>trivial
 | f::r,g::s,o,h,ha=>by
  obtain ⟨⟨h1,h2,h3⟩,h4⟩:=h
  refine ⟨⟨by rw [<-h1,<-h2];exact ha.1.1,by rw [<-h1,<-h2];exact h3 _ _ _ ha.1.2⟩,?_⟩
  rw [<-h1];exact LeGs.all h4 ha.2
 | [],_::_,_,h,_=>h.elim
 | _::_,[],_,h,_=>h.elim
theorem leG_S {G:Dom} {fs gs:List Fd} (h:LeGs G fs gs):Le (tS fs) (tG G (tS gs)):=fun _ _ _ ⟨cs,h1,h2,h3⟩=>⟨cs,h1,h2.trans h.sum,h.all h3⟩
theorem le_L {α:Type} {es:Nat} {agg:Bool} {f g:α->Ty} {xs:List α} (h: ∀x,Le (f x) (g x)):Le (tL es agg f xs) (tL es agg g xs):=fun _ _ _ ⟨A,c,h1,h2,h3,h4⟩=>
 ⟨A,c,h1,h2,h3,h4.imp id fun ⟨b,o,e,hb,hx⟩=>⟨b,o,e,hb,fun i x hi=>let ⟨u,hm,hu⟩:=hx i x hi;⟨u,hm,h x _ _ _ hu⟩⟩⟩
instance {G:Dom} {t:Ty} {n:Nat} {agg:Bool} [h:Shape t n agg]:Shape (tG G t) n agg:=⟨fun hp=>h.flat (F:=fun b=>_/\G b) hp⟩
theorem leG_nil {G:Dom} {α:Type} {es:Nat} {agg:Bool} {f:α->Ty}:Le (tL es agg f []) (tG G (tL es agg f [])):=fun _ _ _ ⟨A,c,h1,h2,h3,_⟩=>⟨A,c,h1,h2,h3,.inl rfl⟩
def Free (t:Ty):Prop:= ∀F F' w w' v,t.p F w v->t.p F' w' v
def Frees:List Ty->Prop
 | []=>True
 | t::r=>Free t/\Frees r
theorem Free.E {u:Value}:Free (tE u):=fun _ _ _ _ _ h=>h
def CtN (P:Program) (f:FuncId) (ts:List Ty) (rr:Nat->Ty):Prop:=
 ∀(F:Dom) (w:World) (vs:List Value),Tup.all F w ts vs->Calls P f vs.toArray w fun e w'=> ∃v,e= .returned v/\Ext w w'/\(rr w.heap.size).p (fun b=>w.heap.size<=b∨F b) w' v
abbrev up (n:Nat):Dom:=fun b=>n<=b
theorem CtN.toCt {P:Program} {f:FuncId} {ts:List Ty} {rr:Nat->Ty} {r:Ty} (h:CtN P f ts rr) (hr: ∀n,Le (rr n) r):Ct P f ts r:=fun F w vs hv=>(h F w vs hv).mono fun _ _ ⟨v,h1,h2,h3⟩=>⟨v,h1,h2,hr _ _ _ _ h3⟩
section
variable {P:Program}
theorem CtN.intro' {f:FuncId} {fn:Func} {x:Code} {N:Nat} {ts:List Ty} (tt:Nat->List Ty) {rr:Nat->Ty} (hf:P.funcs[f]? =some fn) (hb:fn.body=some x) (hN:fn.ntmps=N) (hlb:Nat.ble ts.length N=true)
  (hl2: ∀n,(tt n).length=ts.length) (htt: ∀F w vs,Tup.all F w ts vs->Tup.all F w (tt w.heap.size) vs)
  (H: ∀w F,wc P (Base.plain N w F) x (Post P w F fn (rr w.heap.size)) (args 0 (tt w.heap.size)) (fun _=>none) (fun _=>false)):CtN P f ts rr:=by
 intro F w vs hvs0
 have hvs:=htt F w vs hvs0
 have hl:(tt w.heap.size).length<=N:=by rw [hl2];exact Nat.le_of_ble_eq_true hlb
 generalize htq:tt w.heap.size=tq at*
 have hlen:vs.length=tq.length:=by
  clear H hlb hl hl2 htt hvs0 htq
  induction tq generalizing vs with
  | nil=>cases vs with
   | nil=>rfl
   | cons=>exact hvs.elim
  | cons t r ih=>cases vs with
   | nil=>exact hvs.elim
   | cons v s=>simp [ih s hvs.2]
 have H':=H w F
 rw [htq] at H'
 refine xj7 hf hb (H' _ w ⟨⟨fun _=>0,fun _=>0,fun _=>False⟩,?_⟩)
 refine ⟨?_,rfl,fun s e hs=> ?_,fun k x hx=>(by cases hx),fun k k' x x' hx=>(by cases hx),⟨rfl,rfl,rfl,Nat.le_refl _,fun _ _ _ _=>rfl,fun _ hb=>hb,fun _ hb=>hb.elim⟩,fun x hx=>(by cases hx),fun x hx=>(by cases hx),fun b hb=>hb.elim,fun k hk=>(by cases hk),fun k x hk=>(by cases hk),fun b hb=>hb.elim⟩
 ·simp [hlen,hN,Base.plain];omega
 ·obtain ⟨j,t,h1,h2,h3⟩:=args_spec tq 0 s e hs
  subst h3
  have hj:j < tq.length:=(List.getElem?_eq_some_iff.1 h2).1
  obtain ⟨v,hv,hp⟩:=Tup.get tq vs j t hvs h2
  refine ⟨by show s < N;omega,fun k hk=>(by cases hk),?_⟩
  have e1:(vs.toArray++Array.replicate (fn.ntmps - vs.toArray.size) undef).getD s undef=v:=by
   rw [Array.getD_eq_getD_getElem?,Array.getElem?_append,if_pos (by simp;omega)]
   rw [h1,Nat.zero_add,List.getElem?_toArray,hv];rfl
  show t.p _ w _
  simp only [e1]
  exact t.mono hp fun b o hb hl _=>⟨⟨.inr ⟨hb,fun hv=>hv⟩,fun ⟨k,x,hk,_⟩=>(by cases hk),fun hv=>hv,fun hv=>hv⟩,hl⟩
theorem CtN.intro {f:FuncId} {fn:Func} {x:Code} {N:Nat} {ts:List Ty} {rr:Nat->Ty} (hf:P.funcs[f]? =some fn) (hb:fn.body=some x) (hN:fn.ntmps=N) (hlb:Nat.ble ts.length N=true)
  (H: ∀w F,wc P (Base.plain N w F) x (Post P w F fn (rr w.heap.size)) (args 0 ts) (fun _=>none) (fun _=>false)):CtN P f ts rr:=CtN.intro' (fun _=>ts) hf hb hN hlb (fun _=>rfl) (fun _ _ _ h=>h) H
theorem old_all {F:Dom} {w:World}: ∀{ts:List Ty} {vs:List Value},Tup.all F w ts vs->Tup.all F w (ts.map (tG fun b=>b < w.heap.size)) vs
 | [],[],_=>trivial
 | t::_,_::_,h=>⟨t.mono h.1 fun _ _ hb hl _=>⟨⟨hb,xa7 hl⟩,hl⟩,old_all h.2⟩
 | [],_::_,h=>h.elim
 | _::_,[],h=>h.elim
theorem Ct.introO {f:FuncId} {fn:Func} {x:Code} {N:Nat} {ts:List Ty} {r:Ty} (hf:P.funcs[f]? =some fn) (hb:fn.body=some x) (hN:fn.ntmps=N) (hlb:Nat.ble ts.length N=true)
  (H: ∀w F,wc P (Base.plain N w F) x (Post P w F fn r) (args 0 (ts.map (tG fun b=>b < w.heap.size))) (fun _=>none) (fun _=>false)):Ct P f ts r:=
 CtN.toCt (rr:=fun _=>r) (CtN.intro' (fun n=>ts.map (tG fun b=>b < n)) hf hb hN hlb (fun _=>List.length_map ..) (fun _ _ _ h=>old_all h) H) fun _=>Le.refl
variable {c:Base} {d ty:Nat} {pos:String} {af:Array Edge} {gd:Option (Nat×Bool)}
theorem dom_new {g:Slots} {h:Keys} {al:Nat->Bool} {a:Act} {w:World} {η:Env} (s:St' c g h al a w η) {b:Nat} (hb:w.heap.size<=b):c.dom h η b:=by
 refine ⟨.inl (Nat.le_trans s.fr.size hb),fun ho=> ?_,fun hv=> ?_,fun hv=> ?_⟩
 ·have:=s.olt ho;omega
 ·have:=(s.fr.vnew b hv).1;omega
 ·have:=s.vol b hv;omega
theorem xj1 {f:FuncId} {xs:List Operand} {aT:Array TypeId} {ts us:List Ty} {rr:Nat->Ty} {r:Ty} (hc:CtN P f us rr) (hf:FnI P f) (hr: ∀m,c.w0.heap.size<=m->Le (rr m) r) (hle:LeL ts us) (hl:xs.length=ts.length):
  Does P c ⟨some d,.call {callee:= .value (.func f),args:=xs.toArray,argTypes:=aT},ty,pos,af,gd⟩ ⟨xs.zip (ts.map Ent.val),[],some (d,some (.val r)),[],[]⟩:=by
 intro g h al a w hp ⟨η,s⟩
 obtain ⟨fn,h1,h2,h3⟩:=hf
 have hargs:=hle.all (Tup.all_of s xs ts hp.rd hl)
 have hrun:(execOp a.eval ⟨some d,.call {callee:= .value (.func f),args:=xs.toArray,argTypes:=aT},ty,pos,af,gd⟩).run P w= .ok (.enter f (xs.map a.eval).toArray) w:=by
  simp only [execOp,resolve,Act.eval,Deferred.ofValue,Sem.run_bind,Sem.run_pure,Result.andThen_ok,invoke]
  simp only [Array.append_empty,Array.empty_append,List.map_toArray]
  exact xh4 h1 h2 h3 _ w
 refine xm3 hrun (Calls.mono (hc _ w (xs.map a.eval) hargs) ?_)
 rintro e w' ⟨v,rfl,hext,hv⟩
 refine ⟨v,rfl,η,(s.ext hext).put (hp.d _ rfl) (e:= .val r) (hr _ s.fr.size _ _ _ ((rr _).mono hv fun b o hb hl _=>⟨?_,hl⟩)) (fun k hk=>by cases hk)⟩
 rcases hb with hb | hb
 ·exact dom_new s hb
 ·exact hb
end
section
variable {P:Program} {c:Base} {d ty:Nat} {pos:String} {af:Array Edge} {gd:Option (Nat×Bool)}
end
section
variable {P:Program} {c:Base} {g:Slots} {h:Keys} {al:Names} {d ty:Nat} {pos:String} {af:Array Edge} {gd:Option (Nat×Bool)}
end
structure OvJ where
  D:Dom
  J:Nat->World->Prop
  loc: ∀n w w',J n w->w.heap.size<=w'.heap.size->(∀b,D b->b < w.heap.size->w'.heap[b]? =w.heap[b]?)->J n w'
def OvJ.JO (X:OvJ) (n:Nat) (O V:Dom) (w:World):Prop:=X.J n w/\ ∀b,X.D b->V b/\ ¬O b/\b < w.heap.size
theorem OvJ.Jc (X:OvJ):JcOf X.JO:=by
 rintro n O O' V w w' ⟨h1,h2⟩ hs hO
 refine ⟨X.loc n w w' h1 hs.size fun b hb hlt=>hs.block b hlt (h2 b hb).2.1,fun b hb=>⟨(h2 b hb).1,fun h'=> ?_,Nat.lt_of_lt_of_le (h2 b hb).2.2 hs.size⟩⟩
 rcases (hO b h').2 with h3 | h3
 ·exact (h2 b hb).2.1 h3
 ·have:=(h2 b hb).2.2;omega
def envK (η:Env) (K:Nat):Env:=⟨η.b,fun k=>if k=K then 0 else η.c k,fun _=>False⟩
def Base.over (N:Nat) (w:World) (F:Dom) (η:Env) (l0:List Nat) (H:List (Nat×HEnt)) (K:Nat) (X:OvJ):Base:=⟨N,w,F,K::l0,envK η K,OwnK η H,none,[],[],fun _=>False,some K,X.D,X.JO,X.Jc⟩
def CtV (P:Program) (X:OvJ) (f:FuncId) (H:List (Nat×HEnt)) (ps:List Ent) (n m:Nat):Prop:=
 ∀(w:World) (η:Env) (vs:List Value),SatL (fun _=>False) w η ps vs->AllK (fun _=>False) w η H->InjK η H->(∀b,X.D b->b < w.heap.size/\ ¬OwnK η H b)->X.J n w->
  Calls P f vs.toArray w fun e w'=>e= .returned (.tuple #[])/\Stp (fun b=>OwnK η H b∨X.D b) w w'/\X.J m w'
def PostV (P:Program) (X:OvJ) (w:World) (η:Env) (fn:Func) (H:List (Nat×HEnt)) (m:Nat):Exit->Act->World->Prop:=PostR P fn fun v w'=>v= .tuple #[]/\Stp (fun b=>OwnK η H b∨X.D b) w w'/\X.J m w'
structure OvC (c:Base) (w:World) (η:Env) (H:List (Nat×HEnt)) (K:Nat) (X:OvJ):Prop where
  w0:c.w0=w
  lb:c.lb=OwnK η H
  yk:c.yk=some K
  V0:c.V0=X.D
  J:c.J=X.JO
  df:dfB c.df c.pn
  ln:K∈c.ln
  c0:c.lη.c K=0
theorem OvC.mk' {N:Nat} {w:World} {F:Dom} {η:Env} {l0:List Nat} {H:List (Nat×HEnt)} {K:Nat} {X:OvJ}:OvC (Base.over N w F η l0 H K X) w η H K X:=⟨rfl,rfl,rfl,rfl,rfl,trivial,by simp [Base.over],by simp [Base.over,envK]⟩
section
variable {P:Program} {X:OvJ}
theorem CtV.intro {f:FuncId} {fn:Func} {x:Code} {N n m:Nat} {H:List (Nat×HEnt)} {ps:List Ent} (K:Nat) (l0:List Nat) (hf:P.funcs[f]? =some fn) (hb:fn.body=some x) (hN:fn.ntmps=N) (hlb:Nat.ble ps.length N=true) (hl0:subN (suppE ps) l0=true) (hlH:SupHs H l0) (hK:memN K l0=false)
  (hw: ∀w η,OvC (Base.over N w (fun _=>False) η l0 H K X) w η H K X->wc P (Base.over N w (fun _=>False) η l0 H K X) x (PostV P X w η fn H m) (argsE 0 ps) (keysOf ((K,⟨n,1,false,[]⟩)::H)) (nm (K::l0))):CtV P X f H ps n m:=by
 intro w η vs hvs hAK hinj hD hJ
 have hl:ps.length<=N:=Nat.le_of_ble_eq_true hlb
 have hlen:=hvs.len
 have hKl: ∀k∈l0,k≠K:=fun k hk e=>by subst e;rw [xb6.2 hk] at hK;cases hK
 have hmem: ∀k∈suppE ps++suppH H,k∈l0:=fun k hk=>by
  rcases List.mem_append.1 hk with hk | hk
  ·exact xk1 hl0 k hk
  ·exact hlH.spec k hk
 have hKH: ∀x∈H,x.1≠K:=fun x hx=>hKl _ (hmem _ (List.mem_append.2 (.inr (List.mem_flatMap.2 ⟨x,hx,by simp⟩))))
 have hc: ∀k,k≠K->(envK η K).c k=η.c k:=fun k hk=>by simp [envK,hk]
 have hcK:(envK η K).c K=0:=by simp [envK]
 have hal: ∀k∈l0,nm (K::l0) k=true:=fun k hk=>xb6.2 (by simp [hk])
 refine Calls.mono (xj7 (R:=fun v w'=>v= .tuple #[]/\Stp (fun b=>OwnK η H b∨X.D b) w w'/\X.J m w') hf hb (hw w η OvC.mk' _ w ⟨⟨η.b,(envK η K).c,X.D⟩,?_⟩)) (fun e w' ⟨v,he,hv,hr⟩=>⟨by rw [he,hv],hr⟩)
 have hKp: ∀F',Keep (fun _=>False) F' w w:=fun F' b o hb=>hb.elim
 have hown: ∀b,Own (keysOf ((K,⟨n,1,false,[]⟩)::H)) ⟨η.b,(envK η K).c,X.D⟩ b->OwnK η H b:=by
  rintro b ⟨k,x,hk,hck,rfl⟩
  rcases List.mem_cons.1 (xg4 hk) with e | hm
  ·cases e;simp only [hcK] at hck;omega
  ·have hne:=hKH _ hm
   simp only at hne hck
   exact ⟨(k,x),hm,by rw [<-hc k hne];exact hck,rfl⟩
 refine ⟨?_,rfl,fun s e hs=> ?_,fun k x hx=> ?_,fun k k' x x' hx hx' hne hck hck'=> ?_,⟨rfl,rfl,rfl,Nat.le_refl _,fun _ _ _ _=>rfl,fun _ hb=>hb,fun b hb=>⟨(hD b hb).1,rfl,.inl hb⟩⟩,fun k hk=>⟨xb6.2 hk,rfl,rfl⟩,fun x hx=>(by cases hx),fun b hb=>hb.elim,fun k hk=>(by cases hk;exact xb6.2 (by simp)),fun k x hk hx=> ?_,fun b hb=> ?_⟩
 ·simp [hlen,hN,Base.over];omega
 ·obtain ⟨j,h1,h2⟩:=xu6 ps 0 s e hs
  have hj:j < ps.length:=(List.getElem?_eq_some_iff.1 h2).1
  obtain ⟨v,hv,hp⟩:=SatL.get ps vs j e hvs h2
  have hsup: ∀k∈e.supp,k∈l0:=fun k hk=>hmem k (List.mem_append.2 (.inl (List.mem_flatMap.2 ⟨e,List.mem_of_getElem? h2,hk⟩)))
  refine ⟨by show s < N;omega,fun k hk=>hal k (hsup k hk),?_⟩
  have e1:(vs.toArray++Array.replicate (fn.ntmps - vs.toArray.size) undef).getD s undef=v:=by
   rw [Array.getD_eq_getD_getElem?,Array.getElem?_append,if_pos (by simp;omega)]
   rw [h1,Nat.zero_add,List.getElem?_toArray,hv];rfl
  simp only [e1]
  exact Ent.sat_go hp (hKp _) fun k hk=>⟨rfl,hc k (hKl k (hsup k hk))⟩
 ·rcases List.mem_cons.1 (xg4 hx) with e | hm
  ·cases e
   exact ⟨xb6.2 (by simp),fun j hj=>(by cases hj),⟨by simp,by simp,fun _=>rfl,by simp only [hcK];omega,fun hck=>by simp only [hcK] at hck;omega⟩,fun hck=>by simp only [hcK] at hck;omega⟩
  ·have hsup: ∀j∈x.supp,j∈l0:=fun j hj=>hmem j (List.mem_append.2 (.inr (List.mem_flatMap.2 ⟨_,hm,by simp [hj]⟩)))
   have hk0:k∈l0:=hmem k (List.mem_append.2 (.inr (List.mem_flatMap.2 ⟨_,hm,by simp⟩)))
   exact ⟨hal k hk0,fun j hj=>hal j (hsup j hj),HEnt.sat_go (hAK _ hm) (fun _=>rfl) (hKp _) ⟨rfl,hc k (hKl k hk0)⟩ fun j hj=>⟨rfl,hc j (hKl j (hsup j hj))⟩,
    fun hck=>⟨.inr ⟨_,hm,by rw [<-hc k (hKl k hk0)];exact hck,rfl⟩,fun hv=>(hD _ hv).2 ⟨_,hm,by rw [<-hc k (hKl k hk0)];exact hck,rfl⟩,fun hv=>hv⟩⟩
 ·rcases List.mem_cons.1 (xg4 hx) with e | hm
  ·cases e;simp only [hcK] at hck;omega
  ·rcases List.mem_cons.1 (xg4 hx') with e | hm'
   ·cases e;simp only [hcK] at hck';omega
   ·have h1:=hKH _ hm
    have h2:=hKH _ hm'
    simp only at h1 h2 hck hck'
    exact hinj _ hm _ hm' hne (by rw [<-hc k h1];exact hck) (by rw [<-hc k' h2];exact hck')
 ·have hk:some K=some k:=hk
  cases hk
  have hxn:x=⟨n,1,false,[]⟩:=by
   rcases List.mem_cons.1 (xg4 hx) with e | hm
   ·cases e;rfl
   ·exact absurd rfl (hKH _ hm)
  subst hxn
  refine ⟨hJ,fun b hb=>⟨hb,?_,(hD b hb).1⟩⟩
  rintro (hb' | hb' | ⟨y,hy,_⟩)
  ·exact (hD b hb).2 (hown b hb')
  ·exact hb'
  ·cases hy
 ·obtain ⟨x,hx,hcx,rfl⟩:=hb
  exact HEnt.lt (hAK x hx) hcx
variable {c:Base} {g:Slots} {h:Keys} {al:Names} {d ty:Nat} {pos:String} {af:Array Edge} {gd:Option (Nat×Bool)}
theorem E_retV {fn:Func} {w0:World} {η0:Env} {H:List (Nat×HEnt)} {K m:Nat} {e:Exit} (hp:OvC c w0 η0 H K X) (hr:fn.results= #[]) (he:e= .ret∨e= .normal) (hK:h K=some ⟨m,1,false,[]⟩):wk c e (PostV P X w0 η0 fn H m) g h al:=
 K_endR he hp.df fun df pn a w η s=>by
  refine ⟨_,results_none hr a.tmps P w,rfl,?_,?_⟩
  ·have e0:(c.with df pn).w0=w0:=hp.w0
   refine ⟨e0▸s.fr.os,e0▸s.fr.tape,e0▸s.fr.output,e0▸s.fr.size,fun b hb hn=> ?_⟩
   have:=s.fr.block b (by rw [e0];exact hb) (fun hl=>hn (.inl (by have hl:c.lb b:=hl;rwa [hp.lb] at hl))) (fun hv=>by
    rcases (s.fr.vnew b hv).2.2 with h3 | h3
    ·have h3:c.V0 b:=h3
     rw [hp.V0] at h3;exact hn (.inr h3)
    ·rw [e0] at h3;omega)
   rwa [e0] at this
  ·have hj:=s.jj K _ hp.yk hK
   have hj:c.J m _ _ w:=hj
   rw [hp.J] at hj
   exact hj.1
theorem Frees.all {F:Dom} {w:World} {η:Env}: ∀{us:List Ty} {vs:List Value},Frees us->Tup.all F w us vs->SatL (fun _=>False) w η (us.map Ent.val) vs
 | [],[],_,_=>trivial
 | _::_,_::_,h,hv=>⟨h.1 _ _ _ _ _ hv.1,Frees.all h.2 hv.2⟩
 | [],_::_,_,hv=>hv.elim
 | _::_,[],_,hv=>hv.elim
theorem xq5 {f:FuncId} {xs:List Operand} {aT:Array TypeId} {us:List Ty} {w0:World} {η0:Env} {H:List (Nat×HEnt)} {K n m:Nat} (hp:OvC c w0 η0 H K X) (hc:CtV P X f [] (us.map Ent.val) n m) (hf:FnI P f) (hfr:Frees us) (hl:xs.length=us.length):
  Does P c ⟨some d,.call {callee:= .value (.func f),args:=xs.toArray,argTypes:=aT},ty,pos,af,gd⟩ ⟨xs.zip (us.map Ent.val),[(K,⟨n,1,false,[]⟩)],some (d,some (.val (tE (.tuple #[])))),[(K,some ⟨m,1,false,[]⟩)],[]⟩:=by
 intro g h al a w hpre ⟨η,s⟩
 obtain ⟨fn,h1,h2,h3⟩:=hf
 have hargs:=hfr.all (η:=⟨fun _=>0,fun _=>0,fun _=>False⟩) (Tup.all_of s xs us hpre.rd hl)
 have hrun:(execOp a.eval ⟨some d,.call {callee:= .value (.func f),args:=xs.toArray,argTypes:=aT},ty,pos,af,gd⟩).run P w= .ok (.enter f (xs.map a.eval).toArray) w:=by
  simp only [execOp,resolve,Act.eval,Deferred.ofValue,Sem.run_bind,Sem.run_pure,Result.andThen_ok,invoke]
  simp only [Array.append_empty,Array.empty_append,List.map_toArray]
  exact xh4 h1 h2 h3 _ w
 have hKk:=hpre.kr.1
 have hj:=s.jj K _ hp.yk hKk
 have hj:c.J n _ _ w:=hj
 rw [hp.J] at hj
 have hno: ∀b,¬OwnK (⟨fun _=>0,fun _=>0,fun _=>False⟩:Env) [] b:=fun b ⟨x,hx,_⟩=>by cases hx
 refine xm3 hrun (Calls.mono (hc w _ (xs.map a.eval) hargs (fun x hx=>by cases hx) (fun x hx=>by cases hx) (fun b hb=>⟨(hj.2 b hb).2.2,hno b⟩) hj.1) ?_)
 rintro e w' ⟨rfl,hst,hJ⟩
 refine ⟨_,rfl,?_⟩
 have hst':Stp η.vo w w':=hst.mono fun b _ hb=>by
  rcases hb with hb | hb
  ·exact absurd hb (hno b)
  ·exact (hj.2 b hb).1
 have hk:Kept η.vo η.vo w w':=⟨hst',fun _ hb=>hb,fun b hb=>⟨Nat.lt_of_lt_of_le (s.fr.vnew b hb).1 hst.size,.inl hb⟩⟩
 have s2:=s.fed hp.yk hp.ln hp.c0 hKk hk (m:=m) (by rw [hp.J];exact ⟨hJ,fun b hb=>⟨(hj.2 b hb).1,(hj.2 b hb).2.1,Nat.lt_of_lt_of_le (hj.2 b hb).2.2 hst.size⟩⟩)
 exact ⟨_,s2.put (hpre.d _ rfl) (e:= .val (tE (.tuple #[]))) rfl fun k hk=>by cases hk⟩
structure RBase (c:Base) (w0:World):Prop where
  ext:Ext w0 c.w0
  lb: ∀b,c.lb b->w0.heap.size<=b
  V0: ∀b,c.V0 b->w0.heap.size<=b
theorem RBase.now {w0 w:World} {a:Act} {η:Env} (hr:RBase c w0) (s:St' c g h al a w η):Ext w0 w:=by
 have hv: ∀b,b < w0.heap.size-> ¬η.vo b:=fun b hb hv=>by
  rcases (s.fr.vnew b hv).2.2 with h1 | h1
  ·have:=hr.V0 b h1;omega
  ·have:=hr.ext.size;omega
 refine ⟨s.fr.os.trans hr.ext.os,s.fr.tape.trans hr.ext.tape,s.fr.output.trans hr.ext.output,Nat.le_trans hr.ext.size s.fr.size,fun b hb=>(s.fr.block b (Nat.lt_of_lt_of_le hb hr.ext.size) (fun hl=> ?_) (hv b hb)).trans (hr.ext.block b hb)⟩
 have:=hr.lb b hl;omega
theorem E_retB {fn:Func} {u:Value} {t:Nat} {w0:World} {F:Dom} (hp:RBase c w0) (hdf:dfB c.df c.pn) (hr:fn.results= #[.tmp t]) (hx:g t=some (.val (tE u))):wk c .ret (Post P w0 F fn (tE u)) g h al:=
 K_endR (.inl rfl) hdf fun df pn a w η s=>by
  have hp':RBase (c.with df pn) w0:=⟨hp.ext,hp.lb,hp.V0⟩
  exact ⟨_,results_tmp hr a.tmps P w,hp'.now s,xr2 s hx⟩
theorem C_at {x:Code} {Q:Exit->Act->World->Prop} (H: ∀a w,St c g h al a w-> ∃(c':Base) (g':Slots) (h':Keys) (al':Names),c'.ro=c.ro/\St c' g' h' al' a w/\wc P c' x Q g' h' al'):wc P c x Q g h al:=fun a w hs=>by
 obtain ⟨c',g',h',al',h1,h2,h3⟩:=H a w hs
 rw [<-h1];exact h3 a w h2
def kval (w:World) (η:Env) (k:Nat) (x:HEnt) (i:Nat):Value:=match w.heap[η.b k]? with
 | some (.cells cs _ _)=>pick x.agg x.es cs (i*x.es)
 | _=>undef
def Cnv (G:Dom) (v:Value) (e e':Ent):Prop:=(e'=e/\ ∃k off,e= .own (.ptr k off))∨(∃t t',e= .val t/\e'= .val t'/\Le t (tG G t'))∨((∃t,e= .val t)/\e'= .val (tE v))
theorem Cnv.own {G:Dom} {v:Value} {k off:Nat}:Cnv G v (.own (.ptr k off)) (.own (.ptr k off)):= .inl ⟨rfl,k,off,rfl⟩
theorem Cnv.val {G:Dom} {v:Value} {t t':Ty} (h:Le t (tG G t')):Cnv G v (.val t) (.val t'):= .inr (.inl ⟨t,t',rfl,rfl,h⟩)
theorem Cnv.cst {G:Dom} {v:Value} {t:Ty}:Cnv G v (.val t) (.val (tE v)):= .inr (.inr ⟨⟨t,rfl⟩,rfl⟩)
def SlC (G:Dom) (a:Act) (g g':Slots):Prop:= ∀s e',g' s=some e'-> ∃e,g s=some e/\Cnv G (a.tmps.getD s undef) e e'
theorem SlC.nil {G:Dom} {a:Act}:SlC G a g (fun _=>none):=fun _ _ h=>by cases h
theorem SlC.cons {G:Dom} {a:Act} {g':Slots} {s:Nat} {e e':Ent} (hs:g s=some e) (hl:Cnv G (a.tmps.getD s undef) e e') (hr:SlC G a g g'):SlC G a g (upd g' s (some e')):=fun s' e1 he=>by
 by_cases hss:s'=s
 ·subst hss;rw [xa9] at he;cases he;exact ⟨e,hs,hl⟩
 ·rw [xa4 _ _ _ hss] at he;exact hr s' e1 he
def KyC (G:Dom) (w:World) (η:Env) (h h':Keys):Prop:= ∀k x',h' k=some x'-> ∃T es agg e e',h k=some ⟨T,es,agg,[e]⟩/\x'=⟨T,es,agg,[e']⟩/\Cnv G (kval w η k ⟨T,es,agg,[e]⟩ 0) e e'/\ ∀j∈e'.supp,j∈e.supp
theorem KyC.nil {G:Dom} {w:World} {η:Env}:KyC G w η h (fun _=>none):=fun _ _ h=>by cases h
theorem KyC.cons {G:Dom} {w:World} {η:Env} {h':Keys} {k T es:Nat} {agg:Bool} {t:Ty} {e':Ent} (hs:h k=some ⟨T,es,agg,[.val t]⟩) (hl:Cnv G (kval w η k ⟨T,es,agg,[.val t]⟩ 0) (.val t) e') (hr:KyC G w η h h'):KyC G w η h (upd h' k (some ⟨T,es,agg,[e']⟩)):=fun k' x' hx=>by
 by_cases hkk:k'=k
 ·subst hkk;rw [xa9] at hx;cases hx
  refine ⟨T,es,agg,_,_,hs,rfl,hl,fun j hj=> ?_⟩
  rcases hl with ⟨rfl,_⟩ | ⟨t1,t2,_,rfl,_⟩ | ⟨_,rfl⟩
  ·exact hj
  ·cases hj
  ·cases hj
 ·rw [xa4 _ _ _ hkk] at hx;exact hr k' x' hx
theorem St'.slotv {a:Act} {w:World} {η:Env} (s:St' c g h al a w η) {t:Nat} {u:Ty} (hx:g t=some (.val u)):u.p (fun b=>b < w.heap.size/\ ¬Own h η b) w (a.tmps.getD t undef):=
 u.mono (xr2 s hx) fun _ _ hb hl _=>⟨⟨xa7 hl,hb.2.1⟩,hl⟩
theorem St'.keyv {a:Act} {w:World} {η:Env} (s:St' c g h al a w η) {k T es:Nat} {agg:Bool} {u:Ty} (hx:h k=some ⟨T,es,agg,[.val u]⟩):u.p (fun b=>b < w.heap.size/\ ¬Own h η b) w (kval w η k ⟨T,es,agg,[.val u]⟩ 0):=by
 obtain ⟨_,_,⟨h3,h4,h5,h6,h7⟩,_⟩:=s.key k _ hx
 have h3:1<=η.c k:=h3
 obtain ⟨cs,e1,e2,e3⟩:=h7 (by omega)
 have h8:=e3 0 (.val u) rfl
 have e0:kval w η k ⟨T,es,agg,[.val u]⟩ 0=pick agg es cs (0*es):=by simp only [kval,e1]
 rw [e0]
 exact u.mono h8 fun _ _ hb hl _=>⟨⟨xa7 hl,hb.2.1⟩,hl⟩
theorem St'.over {N:Nat} {a:Act} {w w0:World} {F:Dom} {η:Env} {g':Slots} {h':Keys} (K:Nat) (X:OvJ) (s:St' (Base.plain N w0 F) g h al a w η) (hX: ∀b,X.D b->w0.heap.size<=b/\b < w.heap.size/\ ¬Own h η b) (hJ:X.J 0 w) (hK:al K=false) (hg:SlC (fun b=> ¬X.D b) a g g') (hh:KyC (fun b=> ¬X.D b) w η h h'):
  St (Base.over N w0 F ⟨fun _=>0,fun _=>0,fun _=>False⟩ [] [] K X) g' (upd h' K (some ⟨0,1,false,[]⟩)) (fun j=>al j || Nat.beq j K) a w:=by
 have hKm:(al K || Nat.beq K K)=true:=by simp
 have hal: ∀k,al k=true->(al k || Nat.beq k K)=true:=fun k hk=>by rw [hk];rfl
 have hne: ∀k,al k=true->k≠K:=fun k hk e=>by subst e;rw [hk] at hK;cases hK
 obtain ⟨η',hη⟩: ∃η':Env,η'=⟨fun k=>if k=K then 0 else η.b k,fun k=>if k=K then 0 else η.c k,X.D⟩:=⟨_,rfl⟩
 have eb: ∀k,k≠K->η'.b k=η.b k:=fun k hk=>by rw [hη];simp [hk]
 have ebK:η'.b K=0:=by rw [hη];simp
 have ec: ∀k,k≠K->η'.c k=η.c k:=fun k hk=>by rw [hη];simp [hk]
 have ecK:η'.c K=0:=by rw [hη];simp
 have evo:η'.vo=X.D:=by rw [hη]
 have hh0: ∀k x',k≠K->upd h' K (some ⟨0,1,false,[]⟩) k=some x'-> ∃x,h k=some x/\x'.T=x.T:=fun k x' hk hx=>by
  rw [xa4 _ _ _ hk] at hx
  obtain ⟨T,es,agg,e,e',h1,rfl,_⟩:=hh k x' hx
  exact ⟨_,h1,rfl⟩
 have hown: ∀b,Own (upd h' K (some ⟨0,1,false,[]⟩)) η' b->Own h η b:=by
  rintro b ⟨k,x',hx,hc,rfl⟩
  by_cases hk:k=K
  ·subst hk;omega
  ·obtain ⟨x,h1,_⟩:=hh0 k x' hk hx
   exact ⟨k,x,h1,by rw [<-ec k hk];exact hc,eb k hk⟩
 have hKp:Keep (fun b=>(Base.plain N w0 F).dom h η b/\ ¬X.D b) ((Base.over N w0 F ⟨fun _=>0,fun _=>0,fun _=>False⟩ [] [] K X).dom (upd h' K (some ⟨0,1,false,[]⟩)) η') w w:=fun b o hb hl _=>
  ⟨⟨hb.1.1.imp id fun hf=>⟨hf.1,fun ⟨x,hx,_⟩=>(by cases hx)⟩,fun ho=>hb.1.2.1 (hown b ho),fun hv=>hb.2 (by rw [evo] at hv;exact hv),fun hv=>hv⟩,hl⟩
 have cnv: ∀(v v':Value) (e e':Ent),e.sat ((Base.plain N w0 F).dom h η) w η v->v'=v->(∀k∈e.supp,al k=true)->Cnv (fun b=> ¬X.D b) v' e e'->(∀k∈e'.supp,al k=true)/\e'.sat ((Base.over N w0 F ⟨fun _=>0,fun _=>0,fun _=>False⟩ [] [] K X).dom (upd h' K (some ⟨0,1,false,[]⟩)) η') w η' v:=by
  intro v v' e e' hs hv hsup hc
  subst hv
  rcases hc with ⟨rfl,k,off,rfl⟩ | ⟨t,t',rfl,rfl,hl⟩ | ⟨_,rfl⟩
  ·refine ⟨hsup,?_⟩
   have hs:v'= .pointer (some ⟨η.b k,off,none⟩):=hs
   show v'= .pointer (some ⟨η'.b k,off,none⟩)
   rw [eb k (hne k (hsup k (by simp [Ent.supp,VP.supp])))];exact hs
  ·exact ⟨fun _ hk=>(by cases hk),t'.mono (hl _ _ _ hs) hKp⟩
  ·exact ⟨fun _ hk=>(by cases hk),rfl⟩
 refine ⟨η',s.tn,s.df,fun t e' he=> ?_,fun k x' hx=> ?_,fun k k' x x' hx hx' hkk hck hck'=> ?_,⟨s.fr.os,s.fr.tape,s.fr.output,s.fr.size,fun b hb _ _=> ?_,fun b hb=>(by rw [evo];exact hb),fun b hb=> ?_⟩,fun k hk=> ?_,fun x hx=>(by cases hx),fun b hb=>hb.elim,fun k hk=>(by cases hk;exact hKm),fun k x hk hx=> ?_,fun b ⟨x,hx,_⟩=>(by cases hx)⟩
 ·obtain ⟨e,h1,h2⟩:=hg t e' he
  obtain ⟨n1,n2,n3⟩:=s.slot t e h1
  obtain ⟨m1,m2⟩:=cnv _ _ e e' n3 rfl n2 h2
  exact ⟨n1,fun k hk=>hal k (m1 k hk),m2⟩
 ·by_cases hk:k=K
  ·subst hk
   rw [xa9] at hx;cases hx
   exact ⟨hKm,fun j hj=>(by cases hj),⟨by simp,by simp,fun _=>rfl,by omega,fun hc=>by omega⟩,fun hc=>by omega⟩
  ·rw [xa4 _ _ _ hk] at hx
   obtain ⟨T,es,agg,e,e1,h1,rfl,h2,h3⟩:=hh k x' hx
   obtain ⟨q1,q2,⟨r1,r2,r3,r4,r5⟩,q4⟩:=s.key k _ h1
   have hsupe: ∀j∈e.supp,al j=true:=fun j hj=>q2 j (by simpa [HEnt.supp] using hj)
   have r1:1<=η.c k:=r1
   obtain ⟨cs,c1,c2,c3⟩:=r5 (by omega)
   have c4:=c3 0 e rfl
   have hkv:kval w η k ⟨T,es,agg,[e]⟩ 0=pick agg es cs (0*es):=by simp only [kval,c1]
   obtain ⟨m1,m2⟩:=cnv _ _ e e1 c4 hkv hsupe h2
   refine ⟨hal k q1,fun j hj=>hal j (m1 j (by simpa [HEnt.supp] using hj)),⟨by rw [ec k hk];exact r1,r2,r3,by rw [ec k hk];exact r4,fun _=>⟨cs,by rw [eb k hk];exact c1,by rw [ec k hk];exact c2,fun i e0 hi=> ?_⟩⟩,fun _=> ?_⟩
   ·cases i with
    | zero=>cases hi;exact m2
    | succ i=>simp at hi
   ·obtain ⟨p1,p2,p3⟩:=q4 (by omega)
    rw [eb k hk,evo]
    exact ⟨.inl (p1.resolve_right fun h=>h),fun hD=>(hX _ hD).2.2 ⟨k,_,h1,by omega,rfl⟩,p3⟩
 ·by_cases hk:k=K
  ·subst hk;omega
  ·by_cases hk':k'=K
   ·subst hk';omega
   ·obtain ⟨y,h1,_⟩:=hh0 k x hk hx
    obtain ⟨y',h1',_⟩:=hh0 k' x' hk' hx'
    rw [eb k hk,eb k' hk']
    exact s.inj k k' y y' h1 h1' hkk (by rw [<-ec k hk];exact hck) (by rw [<-ec k' hk'];exact hck')
 ·refine s.fr.block b hb (fun h=>h) fun hv=> ?_
  have:=(s.fr.vnew b hv).2.1
  cases this
 ·rw [evo] at hb
  exact ⟨(hX b hb).2.1,rfl,.inl hb⟩
 ·have hk:k∈[K]:=hk
  rw [List.mem_singleton.1 hk]
  refine ⟨hKm,?_,?_⟩
  ·rw [ebK];rfl
  ·rw [ecK];simp [Base.over,envK]
 ·have hk:some K=some k:=hk
  cases hk
  rw [xa9] at hx;cases hx
  refine ⟨hJ,fun b hb=>⟨by rw [evo];exact hb,?_,(hX b hb).2.1⟩⟩
  rintro (hb' | hb' | ⟨y,hy,_⟩)
  ·exact (hX b hb).2.2 (hown b hb')
  ·exact hb'
  ·cases hy
theorem d_callX {X:OvJ} {f:FuncId} {xs:List Operand} {aT:Array TypeId} {us us':List Ty} {rr:Nat->Ty} {r:Ty} {w0:World} {η0:Env} {H:List (Nat×HEnt)} {K n:Nat} (hp:OvC c w0 η0 H K X) (hc:CtN P f us rr) (hf:FnI P f) (hr: ∀m F w v,(rr m).p F w v->r.p (fun b=>F b/\m<=b) w v)
  (ha: ∀F w vs,X.J n w->Tup.all F w us' vs->Tup.all (fun b=>F b∨X.D b) w us vs) (hl:xs.length=us'.length):
  Does P c ⟨some d,.call {callee:= .value (.func f),args:=xs.toArray,argTypes:=aT},ty,pos,af,gd⟩ ⟨xs.zip (us'.map Ent.val),[(K,⟨n,1,false,[]⟩)],some (d,some (.val r)),[],[]⟩:=by
 intro g h al a w hpre ⟨η,s⟩
 obtain ⟨fn,h1,h2,h3⟩:=hf
 have hj:=s.jj K _ hp.yk hpre.kr.1
 have hj:c.J n _ _ w:=hj
 rw [hp.J] at hj
 have hargs:=ha _ _ _ hj.1 (Tup.all_of s xs us' hpre.rd hl)
 have hrun:(execOp a.eval ⟨some d,.call {callee:= .value (.func f),args:=xs.toArray,argTypes:=aT},ty,pos,af,gd⟩).run P w= .ok (.enter f (xs.map a.eval).toArray) w:=by
  simp only [execOp,resolve,Act.eval,Deferred.ofValue,Sem.run_bind,Sem.run_pure,Result.andThen_ok,invoke]
  simp only [Array.append_empty,Array.empty_append,List.map_toArray]
  exact xh4 h1 h2 h3 _ w
 refine xm3 hrun (Calls.mono (hc _ w (xs.map a.eval) hargs) ?_)
 rintro e w' ⟨v,rfl,hext,hv⟩
 refine ⟨v,rfl,η,(s.ext hext).put (hpre.d _ rfl) (e:= .val r) (r.mono (hr _ _ _ _ hv) fun b o hb hl _=>⟨?_,hl⟩) (fun k hk=>by cases hk)⟩
 exact dom_new s hb.2
end
def tLW {α:Type} (T es:Nat) (agg:Bool) (f:α->Ty) (xs ms:List α):Ty:=
  ⟨fun F w v=> ∃b c cs,v= .slice (some ⟨b,0,none⟩) xs.length c/\F b/\w.heap[b]? =some (.cells cs T (0,0))/\cs.size=c*es/\0 < es/\(agg=false->es=1)/\xs.length+ms.length<=c/\c<=9223372036854775807/\
      ∀i x,(xs++ms)[i]? =some x->(f x).p (fun b'=>F b'/\b'≠b) w (pick agg es cs (i*es)),
   fun ⟨b,c,cs,h1,hF,hh,h2,h3,h4,h5,h6,hx⟩ hk=>⟨b,c,cs,h1,(hk b _ hF hh rfl).1,(hk b _ hF hh rfl).2,h2,h3,h4,h5,h6,fun i x hi=>(f x).mono (hx i x hi) fun b' o hb hl hd=>⟨⟨(hk b' o hb.1 hl hd).1,hb.2⟩,(hk b' o hb.1 hl hd).2⟩⟩⟩
theorem tLW_le {α:Type} {T es:Nat} {agg:Bool} {f:α->Ty} {xs ms:List α}:Le (tLW T es agg f xs ms) (tLK es agg f xs ms):=fun F w v ⟨b,c,cs,h1,hF,hh,h2,h3,h4,h5,h6,hx⟩=>by
 refine ⟨some ⟨b,0,none⟩,c,h1,some ⟨b,0,none⟩,c,by rw [List.length_append],by rw [List.length_append];exact h5,h6,.inr ⟨b,0,rfl,hF,fun i x hi=> ?_⟩⟩
 have hi':i < (xs++ms).length:=(List.getElem?_eq_some_iff.1 hi).1
 have h7:(i+1)*es<=c*es:=Nat.mul_le_mul_right _ (by rw [List.length_append] at hi';omega)
 rw [Nat.add_mul,Nat.one_mul] at h7
 refine ⟨_,⟨cs,T,(0,0),hh,by omega,h3,h4,rfl⟩,?_⟩
 rw [Nat.zero_add]
 exact (f x).mono (hx i x hi) fun _ _ hb hl _=>⟨hb.1,hl⟩
theorem tLW_leL {α:Type} {T es:Nat} {agg:Bool} {f:α->Ty} {xs ms:List α}:Le (tLW T es agg f xs ms) (tL es agg f xs):=Le.trans tLW_le tLK_le
theorem leLW {α:Type} {T es:Nat} {agg:Bool} {f g:α->Ty} {xs ms:List α} (h: ∀x,Le (f x) (g x)):Le (tLW T es agg f xs ms) (tLW T es agg g xs ms):=fun _ _ _ ⟨b,c,cs,h1,hF,hh,h2,h3,h4,h5,h6,hx⟩=>⟨b,c,cs,h1,hF,hh,h2,h3,h4,h5,h6,fun i x hi=>h x _ _ _ (hx i x hi)⟩
theorem tG_idem {G:Dom} {t:Ty}:Le (tG G t) (tG G (tG G t)):=fun _ _ _ h=>t.mono h fun _ _ hb hl _=>⟨⟨hb,hb.2⟩,hl⟩
instance {α:Type} {T es:Nat} {agg:Bool} {f:α->Ty} {xs ms:List α}:Shape (tLW T es agg f xs ms) 1 false:=⟨fun ⟨_,_,_,h,_⟩=>by rw [h];exact xd3 rfl⟩
section
variable {P:Program} {c:Base} {d ty:Nat} {pos:String} {af:Array Edge} {gd:Option (Nat×Bool)}
theorem d_keepOW {T T0 E es k n:Nat} {agg:Bool} {α:Type} {f:α->Ty} {xs ms:List α} {ts:List Ent} {x y:Operand} {v:Int} (G:Dom) (hG: ∀b,c.w0.heap.size<=b->G b) (sl:SlI P T E es agg) (hlb:NoLb c) (hf: ∀x,x∈xs++ms->Le (f x) (tG G (f x))) (hts:ts=(xs++ms).map fun x=> .val (f x)) (hn:n=xs.length+ms.length) (h0:0 < n) (hv:v=(xs.length:Int)):
  Does P c ⟨some d,.slice T x none (some y) none,ty,pos,af,gd⟩ ⟨[(x,.own (.sl k es 0 n)),(y,.val (tI v))],[(k,⟨T0,es,agg,ts⟩)],some (d,some (.val (tG G (tLW T0 es agg f xs ms)))),[(k,none)],[]⟩:=by
 subst hv hn hts
 exact Does.give rfl fun g h al a w η hrd hk s=>by
  have hx:=(xa0 s hrd.1).1
  obtain ⟨A,hA,hcap,hadr⟩:=hx
  have hA:a.eval x= .slice A (xs.length+ms.length) (η.c k - 0):=hA
  have hb:=xk7 (P:=P) (b:=true) (len:=xs.length+ms.length) (cap:=η.c k - 0) s (lo:=none) (hi:=some y) (l:=0) (u:=xs.length) (fun _=>rfl) (fun h=>by cases h) hrd.2 (Nat.zero_le _) (by omega)
  simp only [Option.map_none] at hb
  have hc:0 < η.c k:=by omega
  have hA2:=hadr hc
  obtain ⟨_,_,⟨r1,r2,r3,r4,r5⟩,q4⟩:=s.key k _ hk
  simp only at r1 r2 r3 r4 r5
  obtain ⟨cs,c1,c2,c3⟩:=r5 hc
  obtain ⟨p1,p2,p3⟩:=q4 hc
  have hnew:c.w0.heap.size<=η.b k:=p1.resolve_right (hlb _)
  refine ⟨.slice (if η.c k - 0=0 then A else A.map (·.add (0*es))) (xs.length - 0) (η.c k - 0 - 0),?_,η.b k,η.c k,cs,?_,⟨⟨.inl hnew,?_,p2,p3⟩,hG _ hnew⟩,c1,c2,r2,r3,by omega,r4,fun i y hi=> ?_⟩
  ·simp only [execOp,hA,Instr.sliceAt,Sem.run_bind,run_underlying sl.und,Result.andThen_ok,Instr.slice,Option.map_none,hb,sl.el.size_run w,Sem.run_pure]
  ·rw [hA2];simp [Addr.add,Nat.ne_of_gt hc]
  ·rintro ⟨j,y,hj,hcj,e⟩
   by_cases hjk:j=k
   ·subst hjk;rw [xa9] at hj;cases hj
   ·rw [xa4 _ _ _ hjk] at hj
    exact s.inj j k y _ hj hk hjk hcj hc e.symm
  ·have h1:=c3 i (.val (f y)) (by rw [List.getElem?_map,hi];rfl)
   have h2:=hf y (List.mem_of_getElem? hi) _ _ _ h1
   refine (f y).mono h2 fun b o hb hl hd=>⟨⟨⟨(Keep.drop k b o hb.1 hl hd).1,hb.2⟩,fun e=>hb.1.2.1 ⟨k,_,hk,hc,e⟩⟩,hl⟩
theorem d_lenW {T:TypeId} {x:Operand} {α:Type} {T0 es n:Nat} {agg:Bool} {f:α->Ty} {xs ms:List α} {E:TypeId} (hT:P.underlying T=some (.slice E)) (hn:xs.length=n):
  Does P c ⟨some d,.call {callee:= .builtin .len,args:= #[x],argTypes:= #[T]},ty,pos,af,gd⟩ ⟨[(x,.val (tLW T0 es agg f xs ms))],[],some (d,some (.val (tI n))),[],[]⟩:=
 Does.value rfl fun g h al a w η hrd _ s=>by
  subst hn
  obtain ⟨A,cc,h1,_⟩:=tLW_le _ _ _ (xa0 s hrd.1).1
  have h1:a.eval x= .slice A xs.length cc:=h1
  exact ⟨_,w,by simp only [execOp,resolve,invoke,builtin,List.map_toArray,List.map_cons,List.map_nil,h1];simp [Builtin.len_,run_underlying hT,goInt,go_sem],Ext.refl w,rfl,fun k hk=>by cases hk⟩
theorem d_sliceW {T E es T0:Nat} {agg:Bool} {α:Type} {f:α->Ty} {xs ms:List α} {x y:Operand} {v:Int} (sl:SlI P T E es agg) (hv:v=((xs.length+ms.length:Nat):Int)):
  Does P c ⟨some d,.slice T x none (some y) none,ty,pos,af,gd⟩ ⟨[(x,.val (tLW T0 es agg f xs ms)),(y,.val (tI v))],[],some (d,some (.val (tL es agg f (xs++ms)))),[],[]⟩:=by
 subst hv
 exact Does.value rfl fun g h al a w η hrd _ s=>by
  obtain ⟨A,cap,hA,hm⟩:=tLW_le _ _ _ (xa0 s hrd.1).1
  have hA:a.eval x= .slice A xs.length cap:=hA
  have hle:xs.length+ms.length<=cap:=by
   obtain ⟨_,_,e,h1,_⟩:=hm
   injection e with e1 e2 e3
   subst e3;simpa using h1
  have hb:=xk7 (P:=P) (b:=true) (len:=xs.length) (cap:=cap) s (lo:=none) (hi:=some y) (l:=0) (u:=xs.length+ms.length) (fun _=>rfl) (fun h=>by cases h) hrd.2 (Nat.zero_le _) hle
  simp only [Option.map_none] at hb
  refine ⟨.slice (if cap=0 then A else A.map (·.add (0*es))) (xs.length+ms.length - 0) (cap - 0),w,?_,Ext.refl w,?_,fun j hj=>by cases hj⟩
  ·simp only [execOp,hA,Instr.sliceAt,Sem.run_bind,run_underlying sl.und,Result.andThen_ok,Instr.slice,Option.map_none,hb,sl.el.size_run w,Sem.run_pure]
  ·have e:(if cap=0 then A else A.map (·.add (0*es)))=A:=by
    split
    ·rfl
    ·exact add0
   rw [e];exact hm
theorem d_sliceOX {T E es k len:Nat} {agg agg':Bool} {x y:Operand} {v:Int} {ts:List Ent} {T0:Nat} (sl:SlI P T E es agg) (u:Nat) (hv:v=(u:Int)) (h2:u<=ts.length):
  Does P c ⟨some d,.slice T x none (some y) none,ty,pos,af,gd⟩ ⟨[(x,.own (.sl k es 0 len)),(y,.val (tI v))],[(k,⟨T0,es,agg',ts⟩)],some (d,some (.own (.sl k es 0 u))),[],[]⟩:=
 Does.value rfl fun g h al a w η hrd hkr s=>by
  subst hv
  obtain ⟨hx,hs⟩:=xa0 s hrd.1
  obtain ⟨A,hA,hcap,hadr⟩:=hx
  have hA:a.eval x= .slice A len (η.c k - 0):=hA
  obtain ⟨_,_,⟨r1,_⟩,_⟩:=s.key k _ hkr.1
  have r1:ts.length<=η.c k:=r1
  have hb:=xk7 (P:=P) (b:=true) (len:=len) (cap:=η.c k - 0) s (lo:=none) (hi:=some y) (l:=0) (u:=u) (fun _=>rfl) (fun h=>by cases h) hrd.2 (Nat.zero_le _) (by omega)
  simp only [Option.map_none] at hb
  refine ⟨.slice (if η.c k - 0=0 then A else A.map (·.add (0*es))) (u - 0) (η.c k - 0 - 0),w,?_,Ext.refl w,?_,hs⟩
  ·simp only [execOp,hA,Instr.sliceAt,Sem.run_bind,run_underlying sl.und,Result.andThen_ok,Instr.slice,Option.map_none,hb,sl.el.size_run w,Sem.run_pure]
  ·refine ⟨_,rfl,by omega,fun hlt=> ?_⟩
   rw [if_neg (by omega),hadr (by omega)]
   simp [Addr.add]
theorem d_capO {T E es k off n:Nat} {agg:Bool} {x:Operand} {ts:List Ent} {T0:Nat} (hT:P.underlying T=some (.slice E)):
  Does P c ⟨some d,.call {callee:= .builtin .cap,args:= #[x],argTypes:= #[T]},ty,pos,af,gd⟩ ⟨[(x,.own (.sl k es off n))],[(k,⟨T0,es,agg,ts⟩)],some (d,some (.val (tX (fun q:Nat=>ts.length - off<=q) fun q=>tI q))),[],[]⟩:=
 Does.value rfl fun g h al a w η hrd hkr s=>by
  obtain ⟨A,h1,h2,h3⟩:=(xa0 s hrd.1).1
  have h1:a.eval x= .slice A n (η.c k - off):=h1
  obtain ⟨_,_,⟨r1,_⟩,_⟩:=s.key k _ hkr.1
  have r1:ts.length<=η.c k:=r1
  exact ⟨.int .i64 ((η.c k - off:Nat):Int),w,by simp only [execOp,resolve,invoke,builtin,List.map_toArray,List.map_cons,List.map_nil,h1];simp [Builtin.cap_,run_underlying hT,goInt,go_sem],Ext.refl w,⟨η.c k - off,by omega,rfl⟩,fun j hj=>by cases hj⟩
theorem d_minX {x y:Operand} {aT:Array TypeId} {pre:Nat->Prop} {v:Int} (h: ∀q:Nat,pre q->v<=q):
  Does P c ⟨some d,.call {callee:= .builtin .min,args:= #[x,y],argTypes:=aT},ty,pos,af,gd⟩ ⟨[(x,.val (tX pre fun q=>tI q)),(y,.val (tI v))],[],some (d,some (.val (tI v))),[],[]⟩:=
 Does.value rfl fun g hh al a w η hrd _ s=>by
  obtain ⟨q,hq,h1⟩:=(xa0 s hrd.1).1
  have h1:a.eval x= .int .i64 q:=h1
  have h2:a.eval y= .int .i64 v:=(xa0 s hrd.2.1).1
  have:=h q hq
  refine ⟨_,w,?_,Ext.refl w,rfl,fun j hj=>by cases hj⟩
  have e:(if v < (q:Int) then v else (q:Int))=v:=by split <;> omega
  simp only [execOp,resolve,invoke,builtin,List.map_toArray,List.map_cons,List.map_nil,h1,h2]
  simp [Builtin.min_,Builtin.min2,go_sem,e]
end
abbrev VM:=Nat->Option (Nat×Nat)
def JV (T:Nat) (V:VM) (w:World):Prop:= ∀b m c,V b=some (m,c)-> ∃cs,w.heap[b]? =some (.cells cs T (0,0))/\cs.size=c/\m<=c/\c<=9223372036854775807/\ ∀i,i < m-> ∃x:Nat,cs[i]? =some (.int .u16 x)
def VM.D (V:VM):Dom:=fun b=> ∃x,V b=some x
def XV (T:Nat) (V:VM):OvJ:=⟨V.D,fun _=>JV T V,fun _ w w' h _ hk b m c hV=>by
 obtain ⟨cs,h1,h2⟩:=h b m c hV
 exact ⟨cs,(hk b ⟨_,hV⟩ (xa7 h1)).trans h1,h2⟩⟩
def tSlV (V:VM) (n:Nat):Ty:=⟨fun _ _ v=> ∃b m c,v= .slice (some ⟨b,0,none⟩) n c/\V b=some (m,c)/\n+12<=m,fun h _=>h⟩
theorem free_tSlV {V:VM} {n:Nat}:Free (tSlV V n):=fun _ _ _ _ _ h=>h
instance {V:VM} {n:Nat}:Shape (tSlV V n) 1 false:=⟨fun ⟨_,_,_,h,_⟩=>by rw [h];exact xd3 rfl⟩
def FreeF:List Fd->Prop
 | []=>True
 | f::r=>Free f.t/\FreeF r
theorem FreeF.all {F F':Dom} {w w':World} {cs:Array Value}: ∀{fs:List Fd} {o:Nat},FreeF fs->Fd.all F w cs o fs->Fd.all F' w' cs o fs
 | [],_,_,_=>trivial
 | _::_,_,h,ha=>⟨⟨ha.1.1,h.1 _ _ _ _ _ ha.1.2⟩,h.2.all ha.2⟩
theorem Free.S {fs:List Fd} (h:FreeF fs):Free (tS fs):=fun _ _ _ _ _ ⟨cs,h1,h2,h3⟩=>⟨cs,h1,h2,h.all h3⟩
def lead:List Value->Nat
 | .int .u16 (.ofNat _)::r=>lead r+1
 | _=>0
theorem lead_get: ∀(l:List Value) (i:Nat),i < lead l-> ∃x:Nat,l[i]? =some (.int .u16 x)
 | [],i,h=>by simp [lead] at h
 | v::r,i,h=>by
  unfold lead at h
  split at h
  ·rename_i a b e
   cases e
   cases i with
   | zero=>exact ⟨_,rfl⟩
   | succ i=>exact lead_get _ i (by omega)
  ·omega
theorem lead_ge: ∀(m:Nat) (l:List Value),(∀i,i < m-> ∃x:Nat,l[i]? =some (.int .u16 x))->m<=lead l
 | 0,_,_=>Nat.zero_le _
 | m+1,[],h=>by obtain ⟨x,hx⟩:=h 0 (by omega);simp at hx
 | m+1,v::r,h=>by
  obtain ⟨x,hx⟩:=h 0 (by omega)
  simp only [List.getElem?_cons_zero,Option.some.injEq] at hx
  subst hx
  have:=lead_ge m r fun i hi=>by obtain ⟨y,hy⟩:=h (i+1) (by omega);exact ⟨y,by simpa using hy⟩
  show m+1<=lead r+1
  omega
theorem lead_le: ∀(l:List Value),lead l<=l.length
 | []=>by simp [lead]
 | v::r=>by
  have:=lead_le r
  unfold lead
  split
  ·rename_i e;cases e;simp;omega
  ·omega
open Classical in
noncomputable def vOf (T:Nat) (L:Dom) (w:World):VM:=fun b=>if L b then (match w.heap[b]? with
  | some (.cells cs T' fr)=>if T'=T/\fr=(0,0)/\cs.size<=9223372036854775807 then some (lead cs.toList,cs.size) else none
  | _=>none) else none
theorem xp8 {T:Nat} {L:Dom} {w:World} {b m c:Nat} (h:vOf T L w b=some (m,c)):L b/\ ∃cs,w.heap[b]? =some (.cells cs T (0,0))/\cs.size=c/\m<=c/\c<=9223372036854775807/\ ∀i,i < m-> ∃x:Nat,cs[i]? =some (.int .u16 x):=by
 unfold vOf at h
 split at h
 ·rename_i hL
  refine ⟨hL,?_⟩
  split at h
  ·rename_i cs T' fr hb
   split at h
   ·rename_i hc
    obtain ⟨rfl,rfl,h3⟩:=hc
    cases h
    refine ⟨cs,hb,rfl,?_,h3,fun i hi=> ?_⟩
    ·have:=lead_le cs.toList;simpa using this
    ·obtain ⟨x,hx⟩:=lead_get cs.toList i hi
     exact ⟨x,by simpa using hx⟩
   ·cases h
  ·cases h
 ·cases h
theorem vOf_mk {T:Nat} {L:Dom} {w:World} {b n:Nat} {cs:Array Value} (hL:L b) (hb:w.heap[b]? =some (.cells cs T (0,0))) (hc:cs.size<=9223372036854775807) (hn: ∀i,i < n-> ∃x:Nat,cs[i]? =some (.int .u16 x)): ∃m,vOf T L w b=some (m,cs.size)/\n<=m:=by
 refine ⟨lead cs.toList,?_,lead_ge n _ fun i hi=>by obtain ⟨x,hx⟩:=hn i hi;exact ⟨x,by simpa using hx⟩⟩
 unfold vOf
 rw [if_pos hL,hb]
 simp [hc]
theorem vOf_JV {T:Nat} {L:Dom} {w w1:World} (h: ∀b,L b->w.heap[b]? =w1.heap[b]?):JV T (vOf T L w1) w:=fun b m c hV=>by
 obtain ⟨hL,cs,h1,h2⟩:=xp8 hV
 exact ⟨cs,(h b hL).trans h1,h2⟩
noncomputable def XL (T:Nat) (L:Dom) (w1:World):OvJ:=⟨L,fun n w=>(n=0-> ∀b,L b->w.heap[b]? =w1.heap[b]?)/\(n=1->JV T (vOf T L w1) w)/\(∀b,L b->b < w.heap.size),
  fun n w w' h hs hk=>⟨fun hn b hb=>(hk b hb (h.2.2 b hb)).trans (h.1 hn b hb),fun hn b m c hV=>by
    obtain ⟨cs,h1,h2⟩:=h.2.1 hn b m c hV
    exact ⟨cs,(hk b (xp8 hV).1 (xa7 h1)).trans h1,h2⟩,fun b hb=>Nat.lt_of_lt_of_le (h.2.2 b hb) hs⟩⟩
structure Va where
  kind:Nat
  f:Fr
  i:Int
deriving DecidableEq
structure Sn where
  lo:Int
  hi:Int
deriving DecidableEq
structure Tst where
  lo:Int
  hi:Int
  v:Va
deriving DecidableEq
instance:Inhabited Sn:=⟨⟨0,0⟩⟩
def va0:Va:=⟨0,fr0,0⟩
def sn0:Sn:=⟨0,0⟩
def tst0:Tst:=⟨0,0,va0⟩
abbrev tVa (v:Va):Ty:=tS [⟨1,false,tE (.int .u8 (v.kind:Int))⟩,⟨4,true,tFr v.f⟩,⟨1,false,tI v.i⟩]
abbrev tSn (s:Sn):Ty:=tS [⟨1,false,tI s.lo⟩,⟨1,false,tI s.hi⟩]
abbrev tTs (s:Tst):Ty:=tS [⟨1,false,tI s.lo⟩,⟨1,false,tI s.hi⟩,⟨6,true,tVa s.v⟩]
def Va.valid (v:Va):Bool:=
 if v.kind=2∨v.kind=3 then decide (v.i=0) && v.f.valid
 else if v.kind=1 then decide (v.f=fr0) && decide (0<=v.i) && decide (v.i<=1)
 else if v.kind=4 then decide (v.f=fr0) && decide (0<=v.i) && decide (v.i < 65536)
 else if v.kind=5∨v.kind=6 then decide (v.f=fr0) && decide (-1048576<=v.i) && decide (v.i<=1048576)
 else false
def tOk (l:List Tst) (i:Nat):Bool:=
 decide (0<=(l.getD i tst0).lo) && decide ((l.getD i tst0).lo < (l.getD i tst0).hi) && decide ((l.getD i tst0).hi<=65536) &&
  (decide (i=0) || decide ((l.getD (i - 1) tst0).hi<=(l.getD i tst0).lo) && decide ((l.getD (i - 1) tst0).v.kind=(l.getD i tst0).v.kind) && !(decide ((l.getD (i - 1) tst0).hi=(l.getD i tst0).lo) && decide ((l.getD (i - 1) tst0).v=(l.getD i tst0).v)))
def tRight (l:List Tst):Bool:=(List.range l.length).all (tOk l) && l.all fun s=>s.v.valid
def Sn.ok (s:Sn):Bool:=decide (0<=s.lo) && decide (s.lo<=s.hi) && decide (s.hi<=65536)
def mrg1 (acc:List Sn) (s:Sn):List Sn:=
 if 0 < acc.length/\s.lo<=(acc.getD (acc.length - 1) sn0).hi then acc.set (acc.length - 1) ⟨(acc.getD (acc.length - 1) sn0).lo,max (acc.getD (acc.length - 1) sn0).hi s.hi⟩ else acc++[s]
def mrg (xs:List Sn):List Sn:=xs.foldl mrg1 []
theorem tSn_val {F:Dom} {w:World} {s:Sn} {v:Value} (h:(tSn s).p F w v):v= .agg #[.int .i64 s.lo,.int .i64 s.hi]:=by
 obtain ⟨cs,rfl,h2,h3,h4,_⟩:=h
 have h2:cs.size=2:=h2
 obtain ⟨l⟩:=cs
 match l,h2 with
 | [x,y],_=>
  have e1:x= .int .i64 s.lo:=h3.2
  have e2:y= .int .i64 s.hi:=h4.2
  subst e1;subst e2;rfl
theorem tSn_mk {F:Dom} {w:World} {s:Sn}:(tSn s).p F w (.agg #[.int .i64 s.lo,.int .i64 s.hi]):=⟨_,rfl,rfl,⟨fun _=>rfl,rfl⟩,⟨fun _=>rfl,rfl⟩,trivial⟩
theorem St.recast {c:Base} {g:Slots} {h:Keys} {al:Names} {a:Act} {w:World} {t:Nat} {e e':Ent} (hs:St c g h al a w) (hg:g t=some e) (hi: ∀F η v,e.sat F w η v->e'.sat F w η v) (hsup:e'.supp=[]):St c (upd g t (some e')) h al a w:=by
 obtain ⟨η,s⟩:=hs
 have s2:=s.put (s.slot t _ hg).1 (e:=e') (hi _ _ _ (s.slot t _ hg).2.2) fun j hj=>by rw [hsup] at hj;cases hj
 refine ⟨η,?_⟩
 have ea:a.put (some t) (a.tmps.getD t undef)=a:=by
  have hlt:t < a.tmps.size:=by rw [s.tn];exact (s.slot t _ hg).1
  have:a.tmps.setIfInBounds t (a.tmps.getD t undef)=a.tmps:=by
   apply Array.ext_getElem?
   intro i
   rw [Array.getElem?_setIfInBounds]
   by_cases hi:t=i
   ·subst hi;simp [hlt]
   ·simp [hi]
  simp only [Act.put,this]
 rw [<-ea];exact s2
theorem fdOne_row {F:Dom} {w:World} {η:Env} {cs:Array Value}: ∀(ts:List Ty) (o:Nat),Fd.all F w cs o (fdOne ts)->RowOk F w η cs o (ts.map Ent.val)
 | [],_,_=>fun i e hi=>by simp at hi
 | t::r,o,h=>fun i e hi=>by
  cases i with
  | zero=>
   simp only [List.map_cons,List.getElem?_cons_zero,Option.some.injEq] at hi
   subst hi
   exact h.1.2
  | succ i=>
   have:=fdOne_row (η:=η) r (o+1) h.2 i e (by simpa using hi)
   rwa [show o+1+i=o+(i+1) by omega] at this
theorem Does.rowV {P:Program} {c:Base} {o:Oper} {rd:List (Operand×Ent)} {kr:List (Nat×HEnt)} {d:Nat} {ts:List Ty} {kw:List (Nat×Option HEnt)} {nk:List Nat} {es:List Ent} (he:ts.map Ent.val=es) (hd:Does P c o ⟨rd,kr,some (d,some (.val (tS (fdOne ts)))),kw,nk⟩):
  Does P c o ⟨rd,kr,some (d,some (.own (An.rowV es))),kw,nk⟩:=by
 subst he
 intro g h al a w hp hs
 refine Oper.wpIn_mono (fun a' w' hs'=> ?_) (hd g h al a w ⟨hp.rd,hp.kr,hp.nk,fun x hx=>by cases hx;exact hp.d (d,some (.own (An.rowV (ts.map Ent.val)))) rfl⟩ hs)
 have:=hs'.recast (t:=d) (e':= .own (An.rowV (ts.map Ent.val))) (xa9 _ _ _) (fun F η v hv=> ?_) (by rw [rowV_supp];simp [List.flatMap_map,Ent.supp])
 ·simp only [Eff.g,upd_twice] at this ⊢
  exact this
 ·obtain ⟨cs,h1,h2,h3⟩:=hv
  exact rowV_sat.2 ⟨cs,h1,by rw [h2,fdOne_sum];simp,fdOne_row ts 0 h3⟩
theorem C_nilC {P:Program} {c:Base} {g:Slots} {h:Keys} {al:Names} {Q:Exit->Act->World->Prop} {x:Code} {q Tq:Nat} {us us':List Ent} (k T es:Nat) (agg:Bool) (i:Nat) (hq:h q=some ⟨Tq,1,false,us⟩) (hi:us[i]? =some (.val (tE (.slice none 0 0)))) (hk:al k=false) (hes:Nat.blt 0 es=true) (hagg:agg=false->es=1) (hne:Nat.beq q k=false)
  (hus:us.set i (.own (.sl k es 0 0))=us') (H:wc P c x Q g (upd (upd h k (some ⟨T,es,agg,[]⟩)) q (some ⟨Tq,1,false,us'⟩)) (fun j=>Nat.beq j k || al j)):wc P c x Q g h al:=fun a w hs=>by
 obtain ⟨η,s⟩:=hs
 subst hus
 obtain ⟨η',s',hc,hoth⟩:=s.ghost k hk T es agg (by simpa using hes) hagg
 have hqk:q≠k:=fun e=>by rw [e] at hne;simp at hne
 have hq':upd h k (some ⟨T,es,agg,[]⟩) q=some ⟨Tq,1,false,us⟩:=by rw [xa4 _ _ _ hqk];exact hq
 refine H a w ⟨η',s'.same hq' rfl ?_ ?_⟩
 ·intro j hj
  simp only [HEnt.supp,List.mem_flatMap] at hj
  obtain ⟨e,he,hj⟩:=hj
  obtain ⟨n,hn⟩:=List.getElem?_of_mem he
  rcases List.getElem?_set_cases hn with ⟨_,rfl,_⟩ | ⟨_,hn'⟩
  ·simp only [Ent.supp,VP.supp,List.mem_singleton] at hj
   subst hj;simp
  ·exact (s'.key q _ hq').2.1 j (HEnt.mem_supp hn' hj)
 ·obtain ⟨k1,k2,k3,k4,k5⟩:=(s'.key q _ hq').2.2.1
  refine ⟨by simpa using k1,k2,k3,k4,fun hc0=> ?_⟩
  obtain ⟨cs,c1,c2,c3⟩:=k5 hc0
  refine ⟨cs,c1,c2,fun n e hn=> ?_⟩
  rcases List.getElem?_set_cases hn with ⟨rfl,rfl,_⟩ | ⟨_,hn'⟩
  ·have h6:_=_:=c3 n _ hi
   refine ⟨none,?_,by simp [hc],fun hlt=>by rw [hc] at hlt;omega⟩
   rw [hc]
   exact h6
  ·exact c3 n e hn'
end An
namespace An.S
open Go Go.Proofs An
instance ti3:TyI Tryz.prog 3 1 false:=⟨by kernel_rfl,by kernel_rfl⟩
instance ti5:TyI Tryz.prog 5 1 false:=⟨by kernel_rfl,by kernel_rfl⟩
instance ti51:TyI Tryz.prog 51 6 true:=⟨by kernel_rfl,by kernel_rfl⟩
instance fo51_0:FoI Tryz.prog 51 0 0:=⟨by kernel_rfl⟩
instance fo51_1:FoI Tryz.prog 51 1 1:=⟨by kernel_rfl⟩
instance fo51_2:FoI Tryz.prog 51 2 5:=⟨by kernel_rfl⟩
instance fi102:FnI Tryz.prog 102:=⟨_,Tryz.func102,by kernel_rfl,rfl⟩
instance fi154:FnI Tryz.prog 154:=⟨_,Tryz.func154,by kernel_rfl,rfl⟩
instance fi195:FnI Tryz.prog 195:=⟨_,Tryz.func195,by kernel_rfl,rfl⟩
theorem xv8 (l:List Nat) (k:Nat) (hk:k < l.length):l.take (k+1)=l.take k++[l.getD k 0]:=by
 rw [List.take_succ_eq_append_getElem hk,List.getD_eq_getElem?_getD,List.getElem?_eq_getElem hk];rfl
theorem c_SameLimbs (xs ys:List Nat):
  Ct Tryz.prog 195 [tLm xs,tLm ys] (tB (decide (xs=ys))):=by
 refine Ct.intro Tryz.func195 rfl Tryz.ntmps195 rfl ?_
 intro w F
 refine xg9 (s:=0) rfl (fun hl0=> ?_)
 refine A15 ?_
 refine x6 rfl (fun h9=> ?_) (fun h9=> ?_)
 ·
  refine A7 ?_
  exact E1 rfl rfl (Le.bool (decide_eq_false (fun h=>by rw [h] at h9;omega)).symm)
 ·
  have hll:xs.length=ys.length:=by omega
  refine A9 ?_
  refine cL (fun (i:Nat)=>i<=xs.length/\xs.take i=ys.take i) (fun (i:Nat)=>uV (uV (uV uN 0 (tLm xs)) 1 (tLm ys)) 5 (tI i)) (fun (i:Nat)=>fun _=>none) [] (fun (i:Nat)=>xs.length - i) (0) ⟨Nat.zero_le _,rfl⟩ ?_
  intro i hI
  obtain ⟨hi,ht⟩:=hI
  refine A9 ?_
  refine x6 rfl (fun h12=> ?_) (fun h12=> ?_)
  ·
   refine A8 ?_
   refine R2 (x4 sl23 (i) (by omega) (gN (by omega))) rfl rfl ?_
   refine A3 ?_
   refine R2 (x4 sl23 (i) (by omega) (gN (by omega))) rfl rfl ?_
   refine A4 ?_
   refine x6 rfl (fun h13=> ?_) (fun h13=> ?_)
   ·
    refine A11 ?_
    exact E1 rfl rfl (Le.bool (decide_eq_false (fun h=>by rw [h] at h13;exact (h13 rfl))).symm)
   ·
    refine A8 ?_
    exact kF (i+1) ⟨⟨by omega,by rw [xv8 xs i (by omega),xv8 ys i (by omega),ht,show xs.getD i 0=ys.getD i 0 from (by omega)]⟩,(by omega)⟩
  ·
   refine A11 ?_
   exact E1 rfl rfl (Le.bool (decide_eq_true (by rw [show i=xs.length by omega,List.take_length,hll,List.take_length] at ht;exact ht)).symm)
theorem xv1 (x y:Wh):
  Ct Tryz.prog 154 [tWh x,tWh y] (tB (decide (x=y))):=by
 refine Ct.intro Tryz.func154 rfl Tryz.ntmps154 rfl ?_
 intro w F
 refine A15 ?_
 refine RGcase (t:=10) rfl (fun h81=> ?_) (fun h81=> ?_)
 ·
  refine A4 ?_
  refine Rg h81 rfl (x3 (c_SameLimbs _ _) fi195 rfl) rfl qB ?_
  refine A5 ?_
  exact E1 rfl rfl (Le.bool (by obtain ⟨a,b⟩:=x;obtain ⟨c,d⟩:=y;simp_all))
 ·
  refine A10 ?_
  exact E1 rfl rfl (Le.bool (by obtain ⟨a,b⟩:=x;obtain ⟨c,d⟩:=y;simp_all))
theorem xu1 (x y:Fr):
  Ct Tryz.prog 102 [tFr x,tFr y] (tB (decide (x=y))):=by
 refine Ct.intro Tryz.func102 rfl Tryz.ntmps102 rfl ?_
 intro w F
 refine A13 ?_
 refine R2 (x3 (xv1 _ _) fi154 rfl) rfl rfl ?_
 refine A1 ?_
 refine RGcaseD (t:=10) rfl (fun h113=> ?_) (fun h113=> ?_)
 ·
  refine A4 ?_
  refine Rg (decide_eq_true h113) rfl (x3 (xv1 _ _) fi154 rfl) rfl qB ?_
  refine A5 ?_
  exact E1 rfl rfl (Le.bool (by obtain ⟨a,b⟩:=x;obtain ⟨c,d⟩:=y;simp_all))
 ·
  refine A10 ?_
  exact E1 rfl rfl (Le.bool (by obtain ⟨a,b⟩:=x;obtain ⟨c,d⟩:=y;simp_all))
theorem c_SameValue (x y:Va):
  Ct Tryz.prog 95 [tVa x,tVa y] (tB (decide (x=y))):=by
 refine Ct.intro Tryz.func95 rfl Tryz.ntmps95 rfl ?_
 intro w F
 refine A15 ?_
 refine RGcaseD (t:=10) rfl (fun h146=> ?_) (fun h146=> ?_)
 ·
  refine A4 ?_
  refine Rg (decide_eq_true h146) rfl (x3 (xu1 _ _) fi102 rfl) rfl qB ?_
  refine A2 ?_
  refine RGcaseD (t:=17) rfl (fun h146_2=> ?_) (fun h146_2=> ?_)
  ·
   refine A10 ?_
   exact E1 rfl rfl (Le.bool (by obtain ⟨a,b,e⟩:=x;obtain ⟨c,d,f⟩:=y;simp only [Va.mk.injEq] at*;simp_all <;> omega))
  ·
   refine A10 ?_
   exact E1 rfl rfl (Le.bool (by obtain ⟨a,b,e⟩:=x;obtain ⟨c,d,f⟩:=y;simp only [Va.mk.injEq] at*;simp_all <;> omega))
 ·
  refine A17 ?_
  exact E1 rfl rfl (Le.bool (by obtain ⟨a,b,e⟩:=x;obtain ⟨c,d,f⟩:=y;simp only [Va.mk.injEq] at*;simp_all <;> omega))
theorem c_Limbs (x:Fr) (h1:x.n.l.length<=4611686018427387903) (h2:x.d.l.length<=4611686018427387903):
  Ct Tryz.prog 18 [tFr x] (tI ((x.n.l.length:Int)+(x.d.l.length:Int))):=by
 refine Ct.intro Tryz.func18 rfl Tryz.ntmps18 rfl ?_
 intro w F
 refine A10 ?_
 refine xe1 (0) ti23 rfl rfl rfl (At.t (At.g 0 rfl rfl) (At.g 1 rfl rfl)) rfl ?_
 refine A3 ?_
 refine xe1 (0) ti23 rfl rfl rfl (At.t (At.g 1 rfl rfl) (At.g 1 rfl rfl)) rfl ?_
 refine A6 ?_
 exact E1 rfl rfl Le.refl
theorem shr16 {u:Nat} (_h:u < 18446744073709551616):((u:Int)).fdiv (2 ^ (min (16:Int).toNat (IntKind.bits .u64)))=((u / 65536:Nat):Int):=by
 show ((u:Int)).fdiv 65536=_
 rw [Int.fdiv_eq_ediv_of_nonneg _ (by decide)];omega
theorem wh_of {n:Int}:(⟨decide (n < 0),dig 65536 n.natAbs⟩:Wh)=wh n:=rfl
theorem c_KWhole (n:Int) (h1: -9223372036854775808<=n) (h2:n<=9223372036854775807):
  Ct Tryz.prog 105 [tI n] (tWh (wh n)):=by
 refine Ct.intro Tryz.func105 rfl Tryz.ntmps105 rfl ?_
 intro w F
 refine A2 ?_
 refine RE (x7 (k:=2) (n:=2) (agg:=true) zr25.1 zr25.2 rfl) trivial trivial qA ?_
 refine A6 ?_
 refine R1 (Does.rowV (ts:=[tB (decide (n < 0)),tE (.slice none 0 0)]) (es:=[.val (tB (decide (n < 0))),.val (tE (.slice none 0 0))]) rfl (d_build (r:=tS [⟨1,false,tB (decide (n < 0))⟩,⟨1,false,tE (.slice none 0 0)⟩]) (ts:=[(0,tB (decide (n < 0)))]) bu25 (z:= .agg #[.bool false,.slice none 0 0]) (t:=tS [⟨1,false,tE (.bool false)⟩,⟨1,false,tE (.slice none 0 0)⟩]) (fun _ _=>⟨_,rfl,rfl,⟨fun _=>rfl,rfl⟩,⟨fun _=>rfl,rfl⟩,trivial⟩) ⟨_,rfl⟩ rfl ⟨_,_,_,_,rfl,Up.f (fs:=[⟨1,false,tE (.bool false)⟩,⟨1,false,tE (.slice none 0 0)⟩]) (f:=⟨1,false,tE (.bool false)⟩) (fs':=[⟨1,false,tB (decide (n < 0))⟩,⟨1,false,tE (.slice none 0 0)⟩]) 0 rfl rfl rfl,inferInstance,Le.refl⟩)) rfl (RE (d_allocC (k:=3) (n:=2) [.bool false,.slice none 0 0] zr25.1 rfl rfl rfl rfl) trivial trivial qA (RE (d_storeM ti25 rfl rfl rfl) qB qA trivial ?_))
 refine A3 ?_
 refine C_nilC (q:=3) 103 153 1 false 1 rfl rfl rfl rfl (fun _=>rfl) rfl rfl ?_
 refine A2 ?_
 refine R1 (x5 Tryz.underlying157 (isS Tryz.underlying3) toU64) rfl ?_
 refine A3 ?_
 refine xf0 (fun (v:Nat)=>v=n.natAbs) (fun (v:Nat)=>uV (uO (uO uN 2 (.ptr 2 0)) 3 (.ptr 3 0)) 4 (tE (.int .u64 ((v:Nat):Int)))) (fun (v:Nat)=>uK (uK (uK uN 2 25 2 true [.val (tWh ⟨false,[]⟩)]) 3 25 1 false [.val (tB (decide (n < 0))),.own (.sl 103 1 0 0)]) 103 153 1 false (rW .u16 [])) (nm [2,3,103]) ?_ ?_
 ·
  refine A6 ?_
  refine x6 rfl (fun h11=> ?_) (fun h11=> ?_)
  ·
   refine A2 ?_
   refine R1 (d_neg (negU64 (by omega))) rfl ?_
   refine A2 ?_
   exact kF ((18446744073709551616 - (n%18446744073709551616).toNat)%18446744073709551616) (by omega)
  ·
   refine A1 ?_
   exact kF ((n%18446744073709551616).toNat) (by omega)
 ·
  intro v hv
  have hvl:=wh_len v (by omega)
  refine A2 ?_
  refine cL (fun (fm:(Nat)×(Nat)×(List Nat))=>(fun (i:Nat) (u:Nat) (cs:List Nat)=>i<=(dig 65536 v).length/\u=v / 65536 ^ i/\cs=dgs 65536 i v/\u < 18446744073709551616) fm.1 fm.2.1 fm.2.2) (wC fun (i:Nat) (u:Nat) (cs:List Nat)=>uV (uO (uO uN 2 (.ptr 2 0)) 3 (.ptr 3 0)) 4 (tE (.int .u64 ((u:Nat):Int)))) (wC fun (i:Nat) (u:Nat) (cs:List Nat)=>uK (uK (uK uN 2 25 2 true [.val (tWh ⟨false,[]⟩)]) 3 25 1 false [.val (tB (decide (n < 0))),.own (.sl 103 1 0 cs.length)]) 103 153 1 false (rW .u16 cs)) [2,3,103] (fun (fm:(Nat)×(Nat)×(List Nat))=>(fun (i:Nat) (u:Nat) (cs:List Nat)=>u) fm.1 fm.2.1 fm.2.2) ((0,v,[])) (by dsimp only;exact ⟨Nat.zero_le _,by simp,rfl,by omega⟩) ?_
  intro fm hI
  obtain ⟨i,u,cs⟩:=fm
  replace hI:i<=(dig 65536 v).length/\u=v / 65536 ^ i/\cs=dgs 65536 i v/\u < 18446744073709551616:=hI
  show wc _ _ _ _ (uV (uO (uO uN 2 (.ptr 2 0)) 3 (.ptr 3 0)) 4 (tE (.int .u64 ((u:Nat):Int)))) (uK (uK (uK uN 2 25 2 true [.val (tWh ⟨false,[]⟩)]) 3 25 1 false [.val (tB (decide (n < 0))),.own (.sl 103 1 0 cs.length)]) 103 153 1 false (rW .u16 cs)) _
  obtain ⟨hi,hu,hcs,hu64⟩:=hI
  have hcl:cs.length=i:=by rw [hcs,xe9]
  refine A7 ?_
  refine x6 rfl (fun h14=> ?_) (fun h14=> ?_)
  ·
   refine A6 ?_
   refine RE (xc1 (1) ti23 rfl rfl) qA qA trivial ?_
   refine A1 ?_
   refine R1 (x5 (r:=((u%65536:Nat):Int)) Tryz.underlying153 (isS Tryz.underlying157) (by rw [mu16];omega)) rfl (R1 (xk9 (n:=1) [u%65536] Tryz.underlying23 el153 zf153 rfl rfl rfl) rfl (RE (xb3 (k:=103) (k':=23) (ts':=rW .u16 (cs++[u%65536])) Tryz.underlying23 el153 zf153 rfl rfl (fun _=>inferInstance) xj4 (by simp;omega) (by simp;omega) (by simp [rW]) (n':=cs.length+1) rfl) ⟨rfl,rfl,trivial⟩ ⟨rfl,trivial⟩ ⟨rfl,trivial⟩ ?_))
   refine A1 ?_
   refine RE (xb8 (es:=1) (agg:=false) (1) ti23 rfl rfl rfl) qB qA trivial ?_
   refine A5 ?_
   refine R2 (xh3 (by decide) (shr16 hu64)) rfl rfl ?_
   refine A2 ?_
   obtain ⟨n1,n2,n3⟩:=from_more hu (by omega)
   exact xc6 (l:=[2,3,103]) (fun j=>cond (Nat.beq j 103) 23 (j)) ((i+1,u / 65536,cs++[u%65536])) ⟨(by dsimp only;exact ⟨n1,n2,by rw [hcs];exact n3,by omega⟩),(by dsimp only;omega)⟩ (SubR.int rfl (by first | omega | rfl | (dsimp only;omega)) (SubR.cons rfl (SubR.cons rfl SubR.nil))) ((SubKR.consI rfl (ImpK.of xf7.symm)) ((SubKR.consI rfl (ImpK.of (by dsimp only;rw [List.length_append];rfl))) ((SubKR.consI rfl ImpK.refl) SubKR.nil))) (SupG.val (SupG.own rfl (SupG.own rfl SupG.nil))) (SupH.cons rfl (supJ xd1) (SupH.cons rfl (supJL rfl) (SupH.cons rfl (supJL rfl) SupH.nil))) (lkOk rfl) rfl rfl (fun _ h=>by cases h)
  ·
   refine A6 ?_
   refine C_giveC (q:=3) (j:=103) (f:=fun n:Nat=>tE (.int .u16 n)) (xs:=cs) 1 rfl rfl rfl rfl (NoLbK.of fun _ h=>h) (xi4 rfl) rfl rfl ?_
   refine A1 ?_
   refine RE (d_loadM (us:=[tB (decide (n < 0)),tLm cs]) (t:=tWh ⟨(decide (n < 0)),cs⟩) ti25 rfl rfl rfl rfl) qA qA trivial ?_
   refine A4 ?_
   exact EC rfl ⟨_,_,_,_,_,rfl,rfl,ti25,(Le.of (by rw [<-wh_of,hcs,from_end (by rw [<-hu];omega) hi,hv]))⟩
instance fi105:FnI Tryz.prog 105:=⟨_,Tryz.func105,by kernel_rfl,rfl⟩
def kfr (n d:Int):Rat:=if d < 1 then 0 else Rat.divInt n d
theorem kfr_small {n d:Int} (h:d < 1∨n=0):kfr n d=0:=by
 rw [kfr]
 rcases h with h | h
 ·rw [if_pos h]
 ·subst h;split
  ·rfl
  ·exact Rat.zero_divInt d
theorem kfr_big {n d:Int} (h: ¬d < 1):kfr n d=Rat.divInt n d:=if_neg h
theorem fr_zero:fr 0=⟨⟨false,[]⟩,wh 1⟩:=by
 have e1:(0:Rat).num=0:=rfl
 have e2:(((0:Rat).den:Nat):Int)=1:=rfl
 rw [fr,e1,e2,wh_zero]
theorem gcd_facts {n d:Int} {a:Nat} (hd: ¬d < 1) (ha:a=Nat.gcd n.natAbs d.natAbs):0 < a/\(a:Int)<=d/\n.tdiv a=n / (a:Int)/\d.tdiv a=d / (a:Int)/\fr (Rat.divInt n d)=⟨wh (n / (a:Int)),wh (d / (a:Int))⟩/\(n / (a:Int)).natAbs<=n.natAbs/\(d / (a:Int)).natAbs<=d.natAbs/\(n<=0->n / (a:Int)<=0)/\(0<=n->0<=n / (a:Int))/\0<=d / (a:Int):=by
 have h0:0 < a:=by rw [ha];exact Nat.gcd_pos_of_pos_right _ (by omega)
 have h1:a<=d.natAbs:=by rw [ha];exact Nat.le_of_dvd (by omega) (Nat.gcd_dvd_right _ _)
 have h2:(a:Int) ∣ n:=Int.dvd_natAbs.1 (Int.natCast_dvd_natCast.2 (ha▸Nat.gcd_dvd_left _ _))
 have h3:(a:Int) ∣ d:=Int.dvd_natAbs.1 (Int.natCast_dvd_natCast.2 (ha▸Nat.gcd_dvd_right _ _))
 refine ⟨h0,by omega,Int.tdiv_eq_ediv_of_dvd h2,Int.tdiv_eq_ediv_of_dvd h3,?_,Int.natAbs_ediv_le_natAbs _ _,Int.natAbs_ediv_le_natAbs _ _,fun h=> ?_,fun h=>Int.ediv_nonneg h (by omega),Int.ediv_nonneg (by omega) (by omega)⟩
 ·have h4:=lowest_eq (n:=n) (d:=d) (by omega)
  have h5:(Int.gcd n d)=a:=by rw [ha];rfl
  rw [h5] at h4;exact h4
 ·have:=Int.ediv_le_ediv (show 0 < (a:Int) by omega) h
  simpa using this
theorem c_KFrac (n d:Int) (h1: -9223372036854775808<=n) (h2:n<=9223372036854775807) (h3: -9223372036854775808<=d) (h4:d<=9223372036854775807):
  Ct Tryz.prog 69 [tI n,tI d] (tFr (fr (kfr n d))):=by
 refine Ct.intro Tryz.func69 rfl Tryz.ntmps69 rfl ?_
 intro w F
 refine A2 ?_
 refine RE (x7 (k:=4) (n:=4) (agg:=true) zr27.1 zr27.2 rfl) trivial trivial qA ?_
 refine A8 ?_
 refine RGcaseD (t:=9) rfl (fun h22=> ?_) (fun h22=> ?_)
 ·
  have hK:=kfr_small (n:=n) (d:=d) (.inl h22)
  refine A8 ?_
  refine R1 (x3 (c_KWhole 1 (by decide) (by decide)) fi105 rfl) rfl (R1 (xb0 (r:=tS [⟨2,true,(tS [⟨1,false,(tE (.bool false))⟩,⟨1,false,(tLm [])⟩])⟩,⟨2,true,tWh (wh 1)⟩]) (ts:=[(1,tWh (wh 1))]) bu27 zr27.2 (Bc 1 rfl rfl rfl Le.refl)) rfl ?_)
  refine A5 ?_
  exact EC rfl ⟨_,_,_,_,_,rfl,rfl,ti27,(Le.of (by rw [hK,fr_zero]))⟩
 ·
  have hd: ¬d < 1:=h22
  refine A5 ?_
  refine x6 rfl (fun h22_2=> ?_) (fun h22_2=> ?_)
  ·
   have hK:=kfr_small (n:=n) (d:=d) (.inr h22_2)
   refine A2 ?_
   refine R1 (x3 (c_KWhole 1 (by decide) (by decide)) fi105 rfl) rfl (R1 (xb0 (r:=tS [⟨2,true,(tS [⟨1,false,(tE (.bool false))⟩,⟨1,false,(tLm [])⟩])⟩,⟨2,true,tWh (wh 1)⟩]) (ts:=[(1,tWh (wh 1))]) bu27 zr27.2 (Bc 1 rfl rfl rfl Le.refl)) rfl ?_)
   refine A5 ?_
   exact EC rfl ⟨_,_,_,_,_,rfl,rfl,ti27,(Le.of (by rw [hK,fr_zero]))⟩
  ·
   refine A5 ?_
   refine R1 (x5 Tryz.underlying157 (isS Tryz.underlying3) toU64) rfl ?_
   refine A1 ?_
   refine R1 (x5 (r:=((d.natAbs:Nat):Int)) Tryz.underlying157 (isS Tryz.underlying3) (by rw [mu64];omega)) rfl ?_
   refine A4 ?_
   refine xf0 (fun (v:Nat)=>v=n.natAbs) (fun (v:Nat)=>uV (uV (uO (uV (uV uN 0 (tI n)) 1 (tI d)) 4 (.ptr 4 0)) 5 (tE (.int .u64 ((v:Nat):Int)))) 6 (tE (.int .u64 ((d.natAbs:Nat):Int)))) (fun (v:Nat)=>uK uN 4 27 4 true [.val (tFr fr0)]) (nm [4]) ?_ ?_
   ·
    refine A6 ?_
    refine x6 rfl (fun h26=> ?_) (fun h26=> ?_)
    ·
     refine A2 ?_
     refine R1 (d_neg (negU64 (by omega))) rfl ?_
     refine A2 ?_
     exact kF ((18446744073709551616 - (n%18446744073709551616).toNat)%18446744073709551616) (by omega)
    ·
     refine A1 ?_
     exact kF ((n%18446744073709551616).toNat) (by omega)
   ·
    intro v hv
    refine A2 ?_
    refine cL (fun (fm:(Nat)×(Nat))=>(fun (a:Nat) (b:Nat)=>Nat.gcd a b=Nat.gcd v d.natAbs/\a < 18446744073709551616/\b < 18446744073709551616) fm.1 fm.2) (wB fun (a:Nat) (b:Nat)=>uV (uV (uO (uV (uV uN 0 (tI n)) 1 (tI d)) 4 (.ptr 4 0)) 5 (tE (.int .u64 ((a:Nat):Int)))) 6 (tE (.int .u64 ((b:Nat):Int)))) (wB fun (a:Nat) (b:Nat)=>uK uN 4 27 4 true [.val (tFr fr0)]) [4] (fun (fm:(Nat)×(Nat))=>(fun (a:Nat) (b:Nat)=>b) fm.1 fm.2) ((v,d.natAbs)) (by dsimp only;exact ⟨rfl,by omega,by omega⟩) ?_
    intro fm hI
    obtain ⟨a,b⟩:=fm
    replace hI:Nat.gcd a b=Nat.gcd v d.natAbs/\a < 18446744073709551616/\b < 18446744073709551616:=hI
    show wc _ _ _ _ (uV (uV (uO (uV (uV uN 0 (tI n)) 1 (tI d)) 4 (.ptr 4 0)) 5 (tE (.int .u64 ((a:Nat):Int)))) 6 (tE (.int .u64 ((b:Nat):Int)))) (uK uN 4 27 4 true [.val (tFr fr0)]) _
    obtain ⟨hg,ha64,hb64⟩:=hI
    refine A7 ?_
    refine x6 rfl (fun h29=> ?_) (fun h29=> ?_)
    ·
     refine A7 ?_
     refine R2 (d_rem (r:=((a%b:Nat):Int)) (by omega) wrem64) rfl rfl ?_
     refine A4 ?_
     have hbp:0 < b:=by omega
     have hlt:=Nat.mod_lt a hbp
     exact kF ((b,a%b)) ⟨(by dsimp only;exact ⟨by rw [Nat.gcd_comm b,<-Nat.gcd_rec,Nat.gcd_comm];exact hg,hb64,by omega⟩),(by dsimp only;omega)⟩
    ·
     refine A6 ?_
     have hb0:b=0:=by omega
     subst hb0
     rw [Nat.gcd_zero_right,hv] at hg
     obtain ⟨g1,g2,g3,g4,g5,g6,g7,g8,g9,g10⟩:=gcd_facts (n:=n) hd hg
     refine A3 ?_
     refine R1 (x5 (r:=(a:Int)) Tryz.underlying3 (isS Tryz.underlying157) (wr64 (by omega) (by omega))) rfl (R2 (d_quo (r:=n / (a:Int)) (by omega) (by rw [g3];exact wr64 (by omega) (by omega))) rfl rfl (R1 (x3 (c_KWhole _ (by omega) (by omega)) fi105 rfl) rfl ?_))
     refine A2 ?_
     refine R1 (x5 (r:=(a:Int)) Tryz.underlying3 (isS Tryz.underlying157) (wr64 (by omega) (by omega))) rfl (R2 (d_quo (r:=d / (a:Int)) (by omega) (by rw [g4];exact wr64 (by omega) (by omega))) rfl rfl (R1 (x3 (c_KWhole _ (by omega) (by omega)) fi105 rfl) rfl (R2 (xb0 (r:=tS [⟨2,true,tWh (wh (n / (a:Int)))⟩,⟨2,true,tWh (wh (d / (a:Int)))⟩]) (ts:=[(0,tWh (wh (n / (a:Int)))),(1,tWh (wh (d / (a:Int))))]) bu27 zr27.2 (Bc 0 rfl rfl rfl (Bc 1 rfl rfl rfl Le.refl))) rfl rfl ?_)))
     refine A4 ?_
     exact EC rfl ⟨_,_,_,_,_,rfl,rfl,ti27,(Le.of (by rw [kfr_big hd,g5]))⟩
instance fi69:FnI Tryz.prog 69:=⟨_,Tryz.func69,by kernel_rfl,rfl⟩
instance fi92:FnI Tryz.prog 92:=⟨_,Tryz.func92,by kernel_rfl,rfl⟩
theorem zr51:(Tryz.prog.info? 51).bind (·.zero)=some (.agg #[.int .u8 0,.bool false,.slice none 0 0,.bool false,.slice none 0 0,.int .i64 0])/\ ∀F w,(tS [⟨1,false,(tE (.int .u8 0))⟩,⟨4,true,(tS [⟨2,true,(tS [⟨1,false,(tE (.bool false))⟩,⟨1,false,(tLm [])⟩])⟩,⟨2,true,(tS [⟨1,false,(tE (.bool false))⟩,⟨1,false,(tLm [])⟩])⟩])⟩,⟨1,false,(tE (.int .i64 0))⟩]).p F w (.agg #[.int .u8 0,.bool false,.slice none 0 0,.bool false,.slice none 0 0,.int .i64 0]):=⟨by kernel_rfl,fun _ _=>⟨_,rfl,rfl,⟨fun _=>rfl,rfl⟩,⟨fun h=>Bool.noConfusion h,⟨_,rfl,rfl,⟨fun h=>Bool.noConfusion h,⟨_,rfl,rfl,⟨fun _=>rfl,rfl⟩,⟨fun _=>rfl,⟨none,0,rfl,Nat.le_refl _,by decide,.inl rfl⟩⟩,trivial⟩⟩,⟨fun h=>Bool.noConfusion h,⟨_,rfl,rfl,⟨fun _=>rfl,rfl⟩,⟨fun _=>rfl,⟨none,0,rfl,Nat.le_refl _,by decide,.inl rfl⟩⟩,trivial⟩⟩,trivial⟩⟩,⟨fun _=>rfl,rfl⟩,trivial⟩⟩
theorem bu51:BuI Tryz.prog 51 (fun i=>[(0,1),(1,4),(5,1)][i]?) (.agg #[.int .u8 0,.bool false,.slice none 0 0,.bool false,.slice none 0 0,.int .i64 0]):=BuI.struct Tryz.underlying51 (by kernel_rfl) (by kernel_rfl)
theorem c_Num (n d:Int) (h1: -9223372036854775808<=n) (h2:n<=9223372036854775807) (h3: -9223372036854775808<=d) (h4:d<=9223372036854775807):
  Ct Tryz.prog 32 [tI n,tI d] (tVa ⟨2,fr (kfr n d),0⟩):=by
 refine Ct.intro Tryz.func32 rfl Tryz.ntmps32 rfl ?_
 intro w F
 refine A2 ?_
 refine RE (x7 (k:=4) (n:=6) (agg:=true) zr51.1 zr51.2 rfl) trivial trivial qA ?_
 refine A6 ?_
 refine R2 (x3 (c_KFrac n d h1 h2 h3 h4) fi69 rfl) rfl rfl (R2 (xb0 (r:=tS [⟨1,false,tE (.int .u8 2)⟩,⟨4,true,tFr (fr (kfr n d))⟩,⟨1,false,(tE (.int .i64 0))⟩]) (ts:=[(0,tE (.int .u8 2)),(1,tFr (fr (kfr n d)))]) bu51 zr51.2 (Bc 0 rfl rfl rfl (Bc 1 rfl rfl rfl Le.refl))) rfl rfl ?_)
 refine A4 ?_
 exact EC rfl ⟨_,_,_,_,_,rfl,rfl,ti51,(Le.of rfl)⟩
theorem c_Cash (n d:Int) (h1: -9223372036854775808<=n) (h2:n<=9223372036854775807) (h3: -9223372036854775808<=d) (h4:d<=9223372036854775807):
  Ct Tryz.prog 70 [tI n,tI d] (tVa ⟨3,fr (kfr n d),0⟩):=by
 refine Ct.intro Tryz.func70 rfl Tryz.ntmps70 rfl ?_
 intro w F
 refine A2 ?_
 refine RE (x7 (k:=4) (n:=6) (agg:=true) zr51.1 zr51.2 rfl) trivial trivial qA ?_
 refine A6 ?_
 refine R2 (x3 (c_KFrac n d h1 h2 h3 h4) fi69 rfl) rfl rfl (R2 (xb0 (r:=tS [⟨1,false,tE (.int .u8 3)⟩,⟨4,true,tFr (fr (kfr n d))⟩,⟨1,false,(tE (.int .i64 0))⟩]) (ts:=[(0,tE (.int .u8 3)),(1,tFr (fr (kfr n d)))]) bu51 zr51.2 (Bc 0 rfl rfl rfl (Bc 1 rfl rfl rfl Le.refl))) rfl rfl ?_)
 refine A4 ?_
 exact EC rfl ⟨_,_,_,_,_,rfl,rfl,ti51,(Le.of rfl)⟩
theorem c_TSame (x y:Va):
  Ct Tryz.prog 56 [tVa x,tVa y] (tB (decide (x=y))):=by
 refine Ct.intro Tryz.func56 rfl Tryz.ntmps56 rfl ?_
 intro w F
 refine A15 ?_
 refine RGcaseD (t:=10) rfl (fun h34=> ?_) (fun h34=> ?_)
 ·
  refine A7 ?_
  refine RGcaseD (t:=17) rfl (fun h34_2=> ?_) (fun h34_2=> ?_)
  ·
   refine A4 ?_
   refine Rg (decide_eq_true h34_2) rfl (x3 (xk8 _ _) fi92 rfl) rfl qB ?_
   refine A5 ?_
   exact E1 rfl rfl (Le.bool (by obtain ⟨a,b,e⟩:=x;obtain ⟨c,d,f⟩:=y;simp only [Va.mk.injEq] at*;simp_all <;> omega))
  ·
   refine A10 ?_
   exact E1 rfl rfl (Le.bool (by obtain ⟨a,b,e⟩:=x;obtain ⟨c,d,f⟩:=y;simp only [Va.mk.injEq] at*;simp_all <;> omega))
 ·
  refine A17 ?_
  exact E1 rfl rfl (Le.bool (by obtain ⟨a,b,e⟩:=x;obtain ⟨c,d,f⟩:=y;simp only [Va.mk.injEq] at*;simp_all <;> omega))
theorem c_isPart (a b:Int):
  Ct Tryz.prog 135 [tI a,tI b] (tB (Sn.ok ⟨a,b⟩)):=by
 refine Ct.intro Tryz.func135 rfl Tryz.ntmps135 rfl ?_
 intro w F
 refine A10 ?_
 refine RGcaseD (t:=7) rfl (fun h56=> ?_) (fun h56=> ?_)
 ·
  refine A5 ?_
  refine RGcaseD (t:=12) rfl (fun h56_2=> ?_) (fun h56_2=> ?_)
  ·
   refine A7 ?_
   exact E1 rfl rfl (Le.bool (by simp [Sn.ok, *]))
  ·
   refine A7 ?_
   exact E1 rfl rfl (Le.bool (by simp [Sn.ok, *]))
 ·
  refine A12 ?_
  exact E1 rfl rfl (Le.bool (by simp [Sn.ok, *]))
theorem upN (v:Va):Up (tVa v) (1+(0+1)) 1 false (tLm v.f.n.l) (tVa v):=
 Up.t (t1:=tFr v.f) (t1':=tFr v.f) (At.g 1 rfl rfl) (Up.f (f:=⟨4,true,tFr v.f⟩) 1 rfl rfl rfl) (Up.t (t1:=tWh v.f.n) (t1':=tWh v.f.n) (At.g 0 rfl rfl) (Up.f (f:=⟨2,true,tWh v.f.n⟩) 0 rfl rfl rfl) (Up.f (f:=⟨1,false,tLm v.f.n.l⟩) 1 rfl rfl rfl))
theorem upD (v:Va):Up (tVa v) (1+(2+1)) 1 false (tLm v.f.d.l) (tVa v):=
 Up.t (t1:=tFr v.f) (t1':=tFr v.f) (At.g 1 rfl rfl) (Up.f (f:=⟨4,true,tFr v.f⟩) 1 rfl rfl rfl) (Up.t (t1:=tWh v.f.d) (t1':=tWh v.f.d) (At.g 1 rfl rfl) (Up.f (f:=⟨2,true,tWh v.f.d⟩) 1 rfl rfl rfl) (Up.f (f:=⟨1,false,tLm v.f.d.l⟩) 1 rfl rfl rfl))
theorem c_copied (v:Va) (h1:v.f.n.l.length<=1000000) (h2:v.f.d.l.length<=1000000):
  Ct Tryz.prog 173 [tVa v] (tVa v):=by
 refine Ct.intro Tryz.func173 rfl Tryz.ntmps173 rfl ?_
 intro w F
 refine A3 ?_
 refine RE (x7 (k:=2) (n:=6) (agg:=true) zr51.1 zr51.2 rfl) trivial trivial qA ?_
 refine A7 ?_
 refine xe1 (0) ti23 rfl rfl rfl (At.t (At.g 1 rfl rfl) (At.t (At.g 0 rfl rfl) (At.g 1 rfl rfl))) rfl (R1 (x3 (xr1 _ h1) fi98 rfl) rfl ?_)
 refine A3 ?_
 refine RE (xj2 (k:=1) (T0:=51) (es:=6) (ts:=[.val (tVa v)]) (0) ti23 rfl (upN v) rfl rfl) qB qA trivial ?_
 refine A7 ?_
 refine xe1 (0) ti23 rfl rfl rfl (At.t (At.g 1 rfl rfl) (At.t (At.g 1 rfl rfl) (At.g 1 rfl rfl))) rfl (R1 (x3 (xr1 _ h2) fi98 rfl) rfl ?_)
 refine A3 ?_
 refine RE (xj2 (k:=1) (T0:=51) (es:=6) (ts:=[.val (tVa v)]) (0) ti23 rfl (upD v) rfl rfl) qB qA trivial ?_
 refine A9 ?_
 exact EC rfl ⟨_,_,_,_,_,rfl,rfl,ti51,Le.refl⟩
theorem va23 {v:Va} {b:Bool} (h:(v.kind:Int)=2∨(v.kind:Int)=3) (hb:b=(decide (v.i=0) && v.f.valid)):b=v.valid:=by
 rw [Va.valid,if_pos (by omega)];exact hb
theorem va1 {v:Va} {b:Bool} (h:(v.kind:Int)=1) (hb:b=(decide (v.f=fr0) && decide (0<=v.i) && decide (v.i<=1))):b=v.valid:=by
 rw [Va.valid,if_neg (by omega),if_pos (by omega)];exact hb
theorem va4 {v:Va} {b:Bool} (h:(v.kind:Int)=4) (hb:b=(decide (v.f=fr0) && decide (0<=v.i) && decide (v.i < 65536))):b=v.valid:=by
 rw [Va.valid,if_neg (by omega),if_neg (by omega),if_pos (by omega)];exact hb
theorem va56 {v:Va} {b:Bool} (h:(v.kind:Int)=5∨(v.kind:Int)=6) (hb:b=(decide (v.f=fr0) && decide (-1048576<=v.i) && decide (v.i<=1048576))):b=v.valid:=by
 rw [Va.valid,if_neg (by omega),if_neg (by omega),if_neg (by omega),if_pos (by omega)];exact hb
theorem va0 {v:Va} (h1: ¬((v.kind:Int)=2∨(v.kind:Int)=3)) (h2: ¬(v.kind:Int)=1) (h3: ¬(v.kind:Int)=4) (h4: ¬((v.kind:Int)=5∨(v.kind:Int)=6)):false=v.valid:=by
 rw [Va.valid,if_neg (by omega),if_neg (by omega),if_neg (by omega),if_neg (by omega)]
theorem c_TValid (v:Va) (hD:v.f.dig):
  Ct Tryz.prog 59 [tVa v] (tB v.valid):=by
 refine Ct.intro Tryz.func59 rfl Tryz.ntmps59 rfl ?_
 intro w F
 refine A18 ?_
 refine A3 ?_
 refine x6 rfl (fun h20=> ?_) (fun h20=> ?_)
 ·
  refine A2 ?_
  refine x6 rfl (fun h20_2=> ?_) (fun h20_2=> ?_)
  ·
   refine A6 ?_
   refine RGcaseD (t:=11) rfl (fun h21=> ?_) (fun h21=> ?_)
   ·
    refine A2 ?_
    refine Rg (decide_eq_true h21) rfl (x3 (c_FValid _ hD.1 hD.2) fi94 rfl) rfl qA ?_
    refine A7 ?_
    exact E1 rfl rfl (Le.bool (va23 (by omega) (by first | (simp [*];done) | simp [*])))
   ·
    refine A10 ?_
    exact E1 rfl rfl (Le.bool (va23 (by omega) (by first | (simp [*];done) | simp [*])))
  ·
   refine A6 ?_
   refine x6 rfl (fun h22=> ?_) (fun h22=> ?_)
   ·
    refine A4 ?_
    refine R0 (xb0 (r:=tS [⟨2,true,(tS [⟨1,false,(tE (.bool false))⟩,⟨1,false,(tLm [])⟩])⟩,⟨2,true,(tS [⟨1,false,(tE (.bool false))⟩,⟨1,false,(tLm [])⟩])⟩]) (ts:=[]) bu27 zr27.2 Le.refl) (R2 (x3 (xk8 _ fr0) fi92 rfl) rfl rfl ?_)
    refine A1 ?_
    refine RGcaseD (t:=22) rfl (fun h23=> ?_) (fun h23=> ?_)
    ·
     refine A5 ?_
     refine RGcaseD (t:=27) rfl (fun h23_2=> ?_) (fun h23_2=> ?_)
     ·
      refine A10 ?_
      exact E1 rfl rfl (Le.bool (va1 (by omega) (by simp [*])))
     ·
      refine A10 ?_
      exact E1 rfl rfl (Le.bool (va1 (by omega) (by simp [*])))
    ·
     refine A15 ?_
     exact E1 rfl rfl (Le.bool (va1 (by omega) (by simp [*])))
   ·
    refine A6 ?_
    refine x6 rfl (fun h24=> ?_) (fun h24=> ?_)
    ·
     refine A4 ?_
     refine R0 (xb0 (r:=tS [⟨2,true,(tS [⟨1,false,(tE (.bool false))⟩,⟨1,false,(tLm [])⟩])⟩,⟨2,true,(tS [⟨1,false,(tE (.bool false))⟩,⟨1,false,(tLm [])⟩])⟩]) (ts:=[]) bu27 zr27.2 Le.refl) (R2 (x3 (xk8 _ fr0) fi92 rfl) rfl rfl ?_)
     refine A1 ?_
     refine RGcaseD (t:=38) rfl (fun h25=> ?_) (fun h25=> ?_)
     ·
      refine A5 ?_
      refine RGcaseD (t:=43) rfl (fun h25_2=> ?_) (fun h25_2=> ?_)
      ·
       refine A10 ?_
       exact E1 rfl rfl (Le.bool (va4 (by omega) (by simp [*])))
      ·
       refine A10 ?_
       exact E1 rfl rfl (Le.bool (va4 (by omega) (by simp [*])))
     ·
      refine A15 ?_
      exact E1 rfl rfl (Le.bool (va4 (by omega) (by simp [*])))
    ·
     refine A7 ?_
     refine x6 rfl (fun h26=> ?_) (fun h26=> ?_)
     ·
      refine A2 ?_
      refine x6 rfl (fun h26_2=> ?_) (fun h26_2=> ?_)
      ·
       refine A4 ?_
       refine R0 (xb0 (r:=tS [⟨2,true,(tS [⟨1,false,(tE (.bool false))⟩,⟨1,false,(tLm [])⟩])⟩,⟨2,true,(tS [⟨1,false,(tE (.bool false))⟩,⟨1,false,(tLm [])⟩])⟩]) (ts:=[]) bu27 zr27.2 Le.refl) (R2 (x3 (xk8 _ fr0) fi92 rfl) rfl rfl ?_)
       refine A1 ?_
       refine RGcaseD (t:=55) rfl (fun h27=> ?_) (fun h27=> ?_)
       ·
        refine A5 ?_
        refine RGcaseD (t:=60) rfl (fun h27_2=> ?_) (fun h27_2=> ?_)
        ·
         refine A10 ?_
         exact E1 rfl rfl (Le.bool (va56 (by omega) (by simp [*])))
        ·
         refine A10 ?_
         exact E1 rfl rfl (Le.bool (va56 (by omega) (by simp [*])))
       ·
        refine A15 ?_
        exact E1 rfl rfl (Le.bool (va56 (by omega) (by simp [*])))
      ·
       refine A9 ?_
       exact E1 rfl rfl (Le.bool (va0 (by omega) (by omega) (by omega) (by omega)))
     ·
      refine A5 ?_
      refine x6 rfl (fun h26_2=> ?_) (fun h26_2=> ?_)
      ·
       refine A4 ?_
       refine R0 (xb0 (r:=tS [⟨2,true,(tS [⟨1,false,(tE (.bool false))⟩,⟨1,false,(tLm [])⟩])⟩,⟨2,true,(tS [⟨1,false,(tE (.bool false))⟩,⟨1,false,(tLm [])⟩])⟩]) (ts:=[]) bu27 zr27.2 Le.refl) (R2 (x3 (xk8 _ fr0) fi92 rfl) rfl rfl ?_)
       refine A1 ?_
       refine RGcaseD (t:=55) rfl (fun h27=> ?_) (fun h27=> ?_)
       ·
        refine A5 ?_
        refine RGcaseD (t:=60) rfl (fun h27_2=> ?_) (fun h27_2=> ?_)
        ·
         refine A10 ?_
         exact E1 rfl rfl (Le.bool (va56 (by omega) (by simp [*])))
        ·
         refine A10 ?_
         exact E1 rfl rfl (Le.bool (va56 (by omega) (by simp [*])))
       ·
        refine A15 ?_
        exact E1 rfl rfl (Le.bool (va56 (by omega) (by simp [*])))
      ·
       refine A9 ?_
       exact E1 rfl rfl (Le.bool (va0 (by omega) (by omega) (by omega) (by omega)))
 ·
  refine A5 ?_
  refine x6 rfl (fun h20_2=> ?_) (fun h20_2=> ?_)
  ·
   refine A6 ?_
   refine RGcaseD (t:=11) rfl (fun h21=> ?_) (fun h21=> ?_)
   ·
    refine A2 ?_
    refine Rg (decide_eq_true h21) rfl (x3 (c_FValid _ hD.1 hD.2) fi94 rfl) rfl qA ?_
    refine A7 ?_
    exact E1 rfl rfl (Le.bool (va23 (by omega) (by first | (simp [*];done) | simp [*])))
   ·
    refine A10 ?_
    exact E1 rfl rfl (Le.bool (va23 (by omega) (by first | (simp [*];done) | simp [*])))
  ·
   refine A6 ?_
   refine x6 rfl (fun h22=> ?_) (fun h22=> ?_)
   ·
    refine A4 ?_
    refine R0 (xb0 (r:=tS [⟨2,true,(tS [⟨1,false,(tE (.bool false))⟩,⟨1,false,(tLm [])⟩])⟩,⟨2,true,(tS [⟨1,false,(tE (.bool false))⟩,⟨1,false,(tLm [])⟩])⟩]) (ts:=[]) bu27 zr27.2 Le.refl) (R2 (x3 (xk8 _ fr0) fi92 rfl) rfl rfl ?_)
    refine A1 ?_
    refine RGcaseD (t:=22) rfl (fun h23=> ?_) (fun h23=> ?_)
    ·
     refine A5 ?_
     refine RGcaseD (t:=27) rfl (fun h23_2=> ?_) (fun h23_2=> ?_)
     ·
      refine A10 ?_
      exact E1 rfl rfl (Le.bool (va1 (by omega) (by simp [*])))
     ·
      refine A10 ?_
      exact E1 rfl rfl (Le.bool (va1 (by omega) (by simp [*])))
    ·
     refine A15 ?_
     exact E1 rfl rfl (Le.bool (va1 (by omega) (by simp [*])))
   ·
    refine A6 ?_
    refine x6 rfl (fun h24=> ?_) (fun h24=> ?_)
    ·
     refine A4 ?_
     refine R0 (xb0 (r:=tS [⟨2,true,(tS [⟨1,false,(tE (.bool false))⟩,⟨1,false,(tLm [])⟩])⟩,⟨2,true,(tS [⟨1,false,(tE (.bool false))⟩,⟨1,false,(tLm [])⟩])⟩]) (ts:=[]) bu27 zr27.2 Le.refl) (R2 (x3 (xk8 _ fr0) fi92 rfl) rfl rfl ?_)
     refine A1 ?_
     refine RGcaseD (t:=38) rfl (fun h25=> ?_) (fun h25=> ?_)
     ·
      refine A5 ?_
      refine RGcaseD (t:=43) rfl (fun h25_2=> ?_) (fun h25_2=> ?_)
      ·
       refine A10 ?_
       exact E1 rfl rfl (Le.bool (va4 (by omega) (by simp [*])))
      ·
       refine A10 ?_
       exact E1 rfl rfl (Le.bool (va4 (by omega) (by simp [*])))
     ·
      refine A15 ?_
      exact E1 rfl rfl (Le.bool (va4 (by omega) (by simp [*])))
    ·
     refine A7 ?_
     refine x6 rfl (fun h26=> ?_) (fun h26=> ?_)
     ·
      refine A2 ?_
      refine x6 rfl (fun h26_2=> ?_) (fun h26_2=> ?_)
      ·
       refine A4 ?_
       refine R0 (xb0 (r:=tS [⟨2,true,(tS [⟨1,false,(tE (.bool false))⟩,⟨1,false,(tLm [])⟩])⟩,⟨2,true,(tS [⟨1,false,(tE (.bool false))⟩,⟨1,false,(tLm [])⟩])⟩]) (ts:=[]) bu27 zr27.2 Le.refl) (R2 (x3 (xk8 _ fr0) fi92 rfl) rfl rfl ?_)
       refine A1 ?_
       refine RGcaseD (t:=55) rfl (fun h27=> ?_) (fun h27=> ?_)
       ·
        refine A5 ?_
        refine RGcaseD (t:=60) rfl (fun h27_2=> ?_) (fun h27_2=> ?_)
        ·
         refine A10 ?_
         exact E1 rfl rfl (Le.bool (va56 (by omega) (by simp [*])))
        ·
         refine A10 ?_
         exact E1 rfl rfl (Le.bool (va56 (by omega) (by simp [*])))
       ·
        refine A15 ?_
        exact E1 rfl rfl (Le.bool (va56 (by omega) (by simp [*])))
      ·
       refine A9 ?_
       exact E1 rfl rfl (Le.bool (va0 (by omega) (by omega) (by omega) (by omega)))
     ·
      refine A5 ?_
      refine x6 rfl (fun h26_2=> ?_) (fun h26_2=> ?_)
      ·
       refine A4 ?_
       refine R0 (xb0 (r:=tS [⟨2,true,(tS [⟨1,false,(tE (.bool false))⟩,⟨1,false,(tLm [])⟩])⟩,⟨2,true,(tS [⟨1,false,(tE (.bool false))⟩,⟨1,false,(tLm [])⟩])⟩]) (ts:=[]) bu27 zr27.2 Le.refl) (R2 (x3 (xk8 _ fr0) fi92 rfl) rfl rfl ?_)
       refine A1 ?_
       refine RGcaseD (t:=55) rfl (fun h27=> ?_) (fun h27=> ?_)
       ·
        refine A5 ?_
        refine RGcaseD (t:=60) rfl (fun h27_2=> ?_) (fun h27_2=> ?_)
        ·
         refine A10 ?_
         exact E1 rfl rfl (Le.bool (va56 (by omega) (by simp [*])))
        ·
         refine A10 ?_
         exact E1 rfl rfl (Le.bool (va56 (by omega) (by simp [*])))
       ·
        refine A15 ?_
        exact E1 rfl rfl (Le.bool (va56 (by omega) (by simp [*])))
      ·
       refine A9 ?_
       exact E1 rfl rfl (Le.bool (va0 (by omega) (by omega) (by omega) (by omega)))
end An.S
namespace An
open Go
theorem xv4 {n i:Nat} {f:Nat->Bool} (hi:i < n) (h:f i=false):(List.range n).all f=false:=by
 rw [List.all_eq_false]
 exact ⟨i,List.mem_range.2 hi,by simp [h]⟩
theorem xp6 {i:Nat} {f:Nat->Bool}:(List.range (i+1)).all f=((List.range i).all f && f i):=by
 rw [List.range_succ,List.all_append];simp
theorem tOk_iff {l:List Tst} {i:Nat}:tOk l i=true↔0<=(l.getD i tst0).lo/\(l.getD i tst0).lo < (l.getD i tst0).hi/\(l.getD i tst0).hi<=65536/\(i=0∨(l.getD (i - 1) tst0).hi<=(l.getD i tst0).lo/\(l.getD (i - 1) tst0).v.kind=(l.getD i tst0).v.kind/\ ¬((l.getD (i - 1) tst0).hi=(l.getD i tst0).lo/\(l.getD (i - 1) tst0).v=(l.getD i tst0).v)):=by
 simp only [tOk,Bool.and_eq_true,Bool.or_eq_true,Bool.not_eq_true',Bool.and_eq_false_iff,decide_eq_true_eq,decide_eq_false_iff_not,and_assoc,Decidable.not_and_iff_not_or_not]
theorem xo7 {l:List Tst} {i:Nat} (hi:i < l.length) (h: ¬(0<=(l.getD i tst0).lo/\(l.getD i tst0).lo < (l.getD i tst0).hi/\(l.getD i tst0).hi<=65536/\(i=0∨(l.getD (i - 1) tst0).hi<=(l.getD i tst0).lo/\(l.getD (i - 1) tst0).v.kind=(l.getD i tst0).v.kind/\ ¬((l.getD (i - 1) tst0).hi=(l.getD i tst0).lo/\(l.getD (i - 1) tst0).v=(l.getD i tst0).v)))):false=tRight l:=by
 rw [tRight,xv4 hi (Bool.eq_false_iff.2 fun h'=>h (tOk_iff.1 h'))];rfl
def ixF (p:Tst->Bool) (l:List Tst):Int:=if l.any p then ((l.takeWhile fun s=> !p s).length:Int) else -1
theorem ixF_at {p:Tst->Bool}: ∀{l:List Tst} {i:Nat},i < l.length->(l.take i).any p=false->p (l.getD i tst0)=true->(i:Int)=ixF p l
 | [],i,hi,_,_=>by simp at hi
 | x::xs,0,_,_,h=>by
  have h:p x=true:=h
  simp [ixF,h]
 | x::xs,i+1,hi,ha,h=>by
  simp only [List.take_succ_cons,List.any_cons,Bool.or_eq_false_iff] at ha
  have h2:p (xs.getD i tst0)=true:=by simpa using h
  have hi2:i < xs.length:=by simpa using hi
  have ih:=ixF_at hi2 ha.2 h2
  have hany:xs.any p=true:=List.any_eq_true.2 ⟨xs.getD i tst0,by rw [List.getD_eq_getElem?_getD,List.getElem?_eq_getElem hi2];exact List.getElem_mem hi2,h2⟩
  rw [ixF,if_pos hany] at ih
  simp only [ixF,List.any_cons,ha.1,hany,Bool.or_true,if_true,Bool.not_false,List.takeWhile_cons,List.length_cons]
  omega
theorem ixF_end {p:Tst->Bool} {l:List Tst} (h:l.any p=false): -1=ixF p l:=by simp [ixF,h]
theorem ixF_any {p:Tst->Bool} {l:List Tst}:decide (ixF p l≥0)=l.any p:=by
 rw [ixF]
 cases l.any p with
 | true=>simp
 | false=>simp
theorem any_next {p:Tst->Bool} {l:List Tst} {i:Nat} (hi:i < l.length):(l.take (i+1)).any p=((l.take i).any p || p (l.getD i tst0)):=by
 rw [List.take_succ_eq_append_getElem hi,List.any_append,List.getD_eq_getElem?_getD,List.getElem?_eq_getElem hi];simp
theorem all_any {l:List Tst}:(!l.any fun s=> !s.v.valid)=l.all fun s=>s.v.valid:=by
 rw [List.not_any_eq_all_not];simp
theorem xi0 {l:List Tst} {i:Nat} (hi:i < l.length):l.getD i tst0∈l:=by
 rw [List.getD_eq_getElem?_getD,List.getElem?_eq_getElem hi];exact List.getElem_mem hi
theorem tRight_valid {l:List Tst} (h:tRight l=true): ∀s∈l,s.v.valid=true:=by
 simp only [tRight,Bool.and_eq_true,List.all_eq_true] at h;exact h.2
theorem va_len {v:Va} (h:v.valid=true):v.f.n.l.length<=256/\v.f.d.l.length<=256:=by
 have z:fr0.n.l.length<=256/\fr0.d.l.length<=256:=by decide
 rw [Va.valid] at h
 split at h
 ·simp only [Bool.and_eq_true,Fr.valid,Fr.sh,decide_eq_true_eq] at h
  exact h.2.1.1.1.1
 ·split at h
  ·simp only [Bool.and_eq_true,decide_eq_true_eq] at h;rw [h.1.1];exact z
  ·split at h
   ·simp only [Bool.and_eq_true,decide_eq_true_eq] at h;rw [h.1.1];exact z
   ·split at h
    ·simp only [Bool.and_eq_true,decide_eq_true_eq] at h;rw [h.1.1];exact z
    ·cases h
def pst1 (acc:List Tst) (s:Tst):List Tst:=
 if s.hi<=s.lo then acc
 else if 0 < acc.length/\(acc.getD (acc.length - 1) tst0).hi=s.lo/\(acc.getD (acc.length - 1) tst0).v=s.v then acc.set (acc.length - 1) ⟨(acc.getD (acc.length - 1) tst0).lo,s.hi,(acc.getD (acc.length - 1) tst0).v⟩
 else acc++[s]
def pst (acc ps:List Tst):List Tst:=ps.foldl pst1 acc
def clip (a b:Int) (s:Tst):Tst:=⟨max s.lo a,min s.hi b,s.v⟩
def cutT (l:List Tst) (a b:Int):List Tst:=pst [] (l.map (clip a b))
theorem pst1_len (acc:List Tst) (s:Tst):(pst1 acc s).length<=acc.length+1:=by
 rw [pst1];split
 ·omega
 ·split
  ·simp
  ·simp
theorem pst_len: ∀(ps acc:List Tst),(pst acc ps).length<=acc.length+ps.length
 | [],acc=>by simp [pst]
 | s::r,acc=>by
  have h1:=pst_len r (pst1 acc s)
  have h2:=pst1_len acc s
  simp only [pst,List.foldl_cons,List.length_cons] at*
  omega
theorem xs1 {l:List Tst} {i:Nat} (acc:List Tst) (hi:i < l.length):pst acc (l.take (i+1))=pst1 (pst acc (l.take i)) (l.getD i tst0):=by
 rw [List.take_succ_eq_append_getElem hi,pst,List.foldl_append,List.getD_eq_getElem?_getD,List.getElem?_eq_getElem hi];rfl
end An
namespace An.S
open Go Go.Proofs An
instance ti69:TyI Tryz.prog 69 8 true:=⟨by kernel_rfl,by kernel_rfl⟩
instance sl44:SlI Tryz.prog 44 69 8 true:=⟨Tryz.underlying44,ti69⟩
instance fo69_0:FoI Tryz.prog 69 0 0:=⟨by kernel_rfl⟩
instance fo69_1:FoI Tryz.prog 69 1 1:=⟨by kernel_rfl⟩
instance fo69_2:FoI Tryz.prog 69 2 2:=⟨by kernel_rfl⟩
instance fi56:FnI Tryz.prog 56:=⟨_,Tryz.func56,by kernel_rfl,rfl⟩
instance fi57:FnI Tryz.prog 57:=⟨_,Tryz.func57,by kernel_rfl,rfl⟩
instance fi58:FnI Tryz.prog 58:=⟨_,Tryz.func58,by kernel_rfl,rfl⟩
instance fi59:FnI Tryz.prog 59:=⟨_,Tryz.func59,by kernel_rfl,rfl⟩
instance fi93:FnI Tryz.prog 93:=⟨_,Tryz.func93,by kernel_rfl,rfl⟩
theorem zr69:(Tryz.prog.info? 69).bind (·.zero)=some (.agg #[.int .i64 0,.int .i64 0,.int .u8 0,.bool false,.slice none 0 0,.bool false,.slice none 0 0,.int .i64 0])/\ ∀F w,(tS [⟨1,false,(tE (.int .i64 0))⟩,⟨1,false,(tE (.int .i64 0))⟩,⟨6,true,(tS [⟨1,false,(tE (.int .u8 0))⟩,⟨4,true,(tS [⟨2,true,(tS [⟨1,false,(tE (.bool false))⟩,⟨1,false,(tLm [])⟩])⟩,⟨2,true,(tS [⟨1,false,(tE (.bool false))⟩,⟨1,false,(tLm [])⟩])⟩])⟩,⟨1,false,(tE (.int .i64 0))⟩])⟩]).p F w (.agg #[.int .i64 0,.int .i64 0,.int .u8 0,.bool false,.slice none 0 0,.bool false,.slice none 0 0,.int .i64 0]):=⟨by kernel_rfl,fun _ _=>⟨_,rfl,rfl,⟨fun _=>rfl,rfl⟩,⟨fun _=>rfl,rfl⟩,⟨fun h=>Bool.noConfusion h,⟨_,rfl,rfl,⟨fun _=>rfl,rfl⟩,⟨fun h=>Bool.noConfusion h,⟨_,rfl,rfl,⟨fun h=>Bool.noConfusion h,⟨_,rfl,rfl,⟨fun _=>rfl,rfl⟩,⟨fun _=>rfl,⟨none,0,rfl,Nat.le_refl _,by decide,.inl rfl⟩⟩,trivial⟩⟩,⟨fun h=>Bool.noConfusion h,⟨_,rfl,rfl,⟨fun _=>rfl,rfl⟩,⟨fun _=>rfl,⟨none,0,rfl,Nat.le_refl _,by decide,.inl rfl⟩⟩,trivial⟩⟩,trivial⟩⟩,⟨fun _=>rfl,rfl⟩,trivial⟩⟩,trivial⟩⟩
instance un44:UnI Tryz.prog 44 (.slice 69):=⟨Tryz.underlying44⟩
theorem c_TRight1 (s:Tst) (hD:s.v.f.dig):
  Ct Tryz.prog 58 [tTs s] (tB (!s.v.valid)):=by
 refine Ct.intro Tryz.func58 rfl Tryz.ntmps58 rfl ?_
 intro w F
 refine A10 ?_
 refine R1 (x3 (c_TValid s.v hD) fi59 rfl) rfl ?_
 refine A5 ?_
 exact E1 rfl rfl Le.refl
theorem c_TIndex (l:List Tst) (hD: ∀s∈l,s.v.f.dig):
  Ct Tryz.prog 93 [tL 8 true tTs l,tE (.func (.func 58) #[] #[])] (tI (ixF (fun s:Tst=> !s.v.valid) l)):=by
 refine Ct.intro Tryz.func93 rfl Tryz.ntmps93 rfl ?_
 intro w F
 refine xg9 (s:=0) rfl (fun hl0=> ?_)
 refine A14 ?_
 refine cL (fun (i:Nat)=>i<=l.length/\(l.take i).any (fun s:Tst=> !s.v.valid)=false) (fun (i:Nat)=>uV (uV (uV (uV uN 0 (tL 8 true tTs l)) 1 (tE (.func (.func 58) #[] #[]))) 7 (tI l.length)) 8 (tI i)) (fun (i:Nat)=>fun _=>none) [] (fun (i:Nat)=>l.length - i) (0) ⟨Nat.zero_le _,rfl⟩ ?_
 intro i hI
 obtain ⟨hi,ha⟩:=hI
 refine A6 ?_
 refine x6 rfl (fun h108=> ?_) (fun h108=> ?_)
 ·
  refine A15 ?_
  refine R2 (x4 sl44 (i) (by omega) (gD (l:=l) (n:=i) (d:=tst0) (by omega))) rfl rfl ?_
  refine A1 ?_
  refine R2 (xh7 (c_TRight1 (l.getD i tst0) (hD _ (xi0 (by omega)))) fi58 rfl) rfl rfl ?_
  refine A2 ?_
  refine xc2 rfl (fun h109=> ?_) (fun h109=> ?_)
  ·
   refine A12 ?_
   exact E1 rfl rfl (Le.int (ixF_at (by omega) ha h109))
  ·
   refine A7 ?_
   exact kF (i+1) ⟨⟨by omega,by rw [any_next (by omega),ha,h109];rfl⟩,(by omega)⟩
 ·
  refine A11 ?_
  exact E1 rfl rfl (Le.int (ixF_end (by rw [<-ha,show i=l.length by omega,List.take_length])))
theorem c_TContains (l:List Tst) (hD: ∀s∈l,s.v.f.dig):
  Ct Tryz.prog 57 [tL 8 true tTs l,tE (.func (.func 58) #[] #[])] (tB (l.any (fun s:Tst=> !s.v.valid))):=by
 refine Ct.intro Tryz.func57 rfl Tryz.ntmps57 rfl ?_
 intro w F
 refine A9 ?_
 refine R2 (x3 (c_TIndex l hD) fi93 rfl) rfl rfl ?_
 refine A5 ?_
 exact E1 rfl rfl (Le.bool ixF_any)
theorem c_TRight (l:List Tst) (hD: ∀s∈l,s.v.f.dig):
  Ct Tryz.prog 16 [tL 8 true tTs l] (tB (tRight l)):=by
 refine Ct.intro Tryz.func16 rfl Tryz.ntmps16 rfl ?_
 intro w F
 refine xg9 (s:=0) rfl (fun hl0=> ?_)
 refine A14 ?_
 refine cL (fun (i:Nat)=>i<=l.length/\(List.range i).all (tOk l)=true) (fun (i:Nat)=>uV (uV (uV (uV uN 0 (tL 8 true tTs l)) 6 (tL 8 true tTs l)) 7 (tI l.length)) 8 (tI i)) (fun (i:Nat)=>fun _=>none) [] (fun (i:Nat)=>l.length - i) (0) ⟨Nat.zero_le _,rfl⟩ ?_
 intro i hI
 obtain ⟨hi,ha⟩:=hI
 refine A6 ?_
 refine x6 rfl (fun h39=> ?_) (fun h39=> ?_)
 ·
  refine A7 ?_
  refine R2 (x4 sl44 (i) (by omega) (gD (l:=l) (n:=i) (d:=tst0) (by omega))) rfl rfl ?_
  refine A1 ?_
  refine RE (x7 (k:=4) (n:=8) (agg:=true) zr69.1 zr69.2 rfl) trivial trivial qA ?_
  refine A11 ?_
  refine RGcaseD (t:=16) rfl (fun h40=> ?_) (fun h40=> ?_)
  ·
   refine A18 ?_
   refine A8 ?_
   exact E1 rfl rfl (Le.bool (xo7 (i:=i) (by omega) (by omega)))
  ·
   refine A7 ?_
   refine RGcaseD (t:=23) rfl (fun h40_2=> ?_) (fun h40_2=> ?_)
   ·
    refine A18 ?_
    refine A1 ?_
    exact E1 rfl rfl (Le.bool (xo7 (i:=i) (by omega) (by omega)))
   ·
    refine A6 ?_
    refine x6 rfl (fun h40_3=> ?_) (fun h40_3=> ?_)
    ·
     refine A12 ?_
     exact E1 rfl rfl (Le.bool (xo7 (i:=i) (by omega) (by omega)))
    ·
     refine A9 ?_
     refine x6 rfl (fun h43=> ?_) (fun h43=> ?_)
     ·
      refine A8 ?_
      have hok:tOk l i=true:=tOk_iff.2 ⟨by omega,by omega,by omega,.inl (by omega)⟩
      exact kF (i+1) ⟨⟨by omega,by rw [xp6,ha,Bool.true_and];exact hok⟩,(by omega)⟩
     ·
      refine A7 ?_
      refine R2 (x4 sl44 (i - 1) (by omega) (gD (l:=l) (n:=i - 1) (d:=tst0) (by omega))) rfl rfl ?_
      refine A1 ?_
      refine RE (x7 (k:=5) (n:=8) (agg:=true) zr69.1 zr69.2 rfl) trivial trivial qA ?_
      refine A11 ?_
      refine RGcaseD (t:=40) rfl (fun h47=> ?_) (fun h47=> ?_)
      ·
       refine A18 ?_
       refine A18 ?_
       exact E1 rfl rfl (Le.bool (xo7 (i:=i) (by omega) (by omega)))
      ·
       refine A2 ?_
       refine xb2 (decide_eq_false h47) rfl rfl (0) ti5 rfl rfl rfl (At.t (At.g 2 rfl rfl) (At.g 0 rfl rfl)) rfl ?_
       refine A2 ?_
       refine xb2 (decide_eq_false h47) rfl rfl (0) ti5 rfl rfl rfl (At.t (At.g 2 rfl rfl) (At.g 0 rfl rfl)) rfl ?_
       refine A3 ?_
       refine RGcaseD (t:=49) rfl (fun h47_2=> ?_) (fun h47_2=> ?_)
       ·
        refine A18 ?_
        refine A9 ?_
        exact E1 rfl rfl (Le.bool (xo7 (i:=i) (by omega) (by omega)))
       ·
        refine A6 ?_
        refine RGcaseD (t:=55) rfl (fun h47_3=> ?_) (fun h47_3=> ?_)
        ·
         refine A4 ?_
         refine Rg (decide_eq_true h47_3) rfl (x3 (c_TSame _ _) fi56 rfl) rfl qB (Rg (decide_eq_false h47_2) rfl (xc9 (decide_eq_true h47_3)) rfl qB ?_)
         refine A3 ?_
         refine x6 rfl (fun h47_4=> ?_) (fun h47_4=> ?_)
         ·
          refine A11 ?_
          exact E1 rfl rfl (Le.bool (xo7 (i:=i) (by omega) (by rintro ⟨_,_,_,h | ⟨_,_,h⟩⟩;omega;exact h ⟨by omega,h47_4⟩)))
         ·
          refine A7 ?_
          have hok:tOk l i=true:=tOk_iff.2 ⟨by omega,by omega,by omega,.inr ⟨by omega,by omega,fun h=>h47_4 h.2⟩⟩
          exact kF (i+1) ⟨⟨by omega,by rw [xp6,ha,Bool.true_and];exact hok⟩,(by omega)⟩
        ·
         refine A5 ?_
         refine Rg (decide_eq_false h47_2) rfl (xc7 (decide_eq_false h47_3)) rfl qB ?_
         refine A11 ?_
         have hok:tOk l i=true:=tOk_iff.2 ⟨by omega,by omega,by omega,.inr ⟨by omega,by omega,fun h=>h47_3 h.1⟩⟩
         exact kF (i+1) ⟨⟨by omega,by rw [xp6,ha,Bool.true_and];exact hok⟩,(by omega)⟩
 ·
  refine A8 ?_
  refine R2 (x3 (c_TContains l hD) fi57 rfl) rfl rfl ?_
  refine A5 ?_
  exact E1 rfl rfl (Le.bool (by rw [tRight,<-all_any,<-show i=l.length by omega,ha,Bool.true_and]))
end An.S
namespace An
open Go Go.Proofs Go.Shelf Go.Sort
section
variable {α:Type} [Inhabited α]
def srt (cf:α->α->Int) (xs:List α):List α:=(pdq (ltOf cf) xs.toArray 0 xs.toArray.size (Go.Lib.bitLen xs.toArray.size) true true).toList
theorem srt_spec {cf:α->α->Int} (hO:SWO (ltOf cf)) (xs:List α):(srt cf xs).length=xs.length/\(srt cf xs).Perm xs/\(srt cf xs).Pairwise fun a b=>ltOf cf b a=false:=by
 obtain ⟨⟨h1,_,h2⟩,h3⟩:=pdq_sorts (ltOf cf) hO xs.toArray 0 xs.toArray.size (Go.Lib.bitLen xs.toArray.size) true true (Nat.zero_le _) (Nat.le_refl _) (Or.inl rfl)
 rw [srt]
 generalize pdq (ltOf cf) xs.toArray 0 xs.toArray.size (Go.Lib.bitLen xs.toArray.size) true true=D at*
 have e1:D.size=xs.length:=by simpa using h1
 have x1:D.extract 0 xs.toArray.size=D:=by rw [<-h1];simp
 have x2:xs.toArray.extract 0 xs.toArray.size=xs.toArray:=by simp
 rw [x1,x2] at h2
 refine ⟨by simpa using e1,by simpa using h2,?_⟩
 rw [List.pairwise_iff_getElem]
 intro i j hi hj hij
 have hi':i < D.size:=by simpa using hi
 have hj':j < D.size:=by simpa using hj
 have h6:=h3 i j (Nat.zero_le _) hij (by rw [<-h1];exact hj')
 rw [getElem!_pos _ i hi',getElem!_pos _ j hj'] at h6
 simpa using h6
theorem srt_asc {cf:α->α->Int} (hO:SWO (ltOf cf)) {xs:List α} (h:xs.Pairwise fun a b=>ltOf cf a b=true):srt cf xs=xs:=by
 have hp:=(srt_spec hO xs).2.1
 have hs:=(srt_spec hO xs).2.2
 generalize srt cf xs=ys at*
 induction xs generalizing ys with
 | nil=>exact hp.eq_nil
 | cons x xs ih=>
  cases ys with
  | nil=>exact absurd hp.symm.eq_nil (by simp)
  | cons y ys=>
   obtain ⟨h1,h2⟩:=List.pairwise_cons.1 h
   obtain ⟨s1,s2⟩:=List.pairwise_cons.1 hs
   have hxy:y=x:=by
    have hy:y∈x::xs:=hp.mem_iff.1 (by simp)
    rcases List.mem_cons.1 hy with e | hy
    ·exact e
    ·have hx:x∈y::ys:=hp.mem_iff.2 (by simp)
     rcases List.mem_cons.1 hx with e | hx
     ·exact e.symm
     ·have a1:=s1 x hx
      have a2:=h1 y hy
      rw [a2] at a1;cases a1
   subst hxy
   rw [ih h2 ys (List.perm_cons y |>.1 hp) s2]
end
theorem flat_at {α:Type} [Inhabited α] {enc:α->List Value} {k:Nat} (_hk: ∀x,(enc x).length=k) (d:Array α) {i j:Nat} (hi:i < d.size) (hj:j < k):(flatK enc k d)[i*k+j]! =(enc d[i]!)[j]! :=by
 have lt:i*k+j < d.size*k:=by
  have:=Nat.mul_le_mul_right k (show i+1<=d.size from hi);rw [Nat.add_mul,Nat.one_mul] at this;omega
 rw [get_flatK _ _ _ _ lt]
 have e1:(i*k+j) / k=i:=by rw [Nat.mul_comm,Nat.mul_add_div (by omega),Nat.div_eq_of_lt hj];omega
 have e2:(i*k+j)%k=j:=by rw [Nat.mul_comm,Nat.mul_add_mod,Nat.mod_eq_of_lt hj]
 rw [e1,e2]
theorem sortG {P:Program} {ρ:Ren} {α:Type} [Inhabited α] (L:SlLaysF0.n6 P ρ) {T k:Nat} {f:α->Ty} {enc:α->List Value} {cf:α->α->Int} {g:Nat} (aE: ∀w,(isAgg (ρ.t 24)).run P w= .ok true w) (zE: ∀w,(Go.sizeOf (ρ.t 24)).run P w= .ok k w)
  (hk: ∀x,(enc x).length=k) (h1: ∀x,∀v∈enc x,v.oneCell'=true) (hf1: ∀F w x v,(f x).p F w v->v= .agg (enc x).toArray) (hf2: ∀F w x,(f x).p F w (.agg (enc x).toArray)) (hO:SWO (ltOf cf))
  (eg: ∀args w,(callFunc g args).run P w= .ok (.enter g args) w) (hcmp: ∀(x y:α) (W:World),Calls P g #[.agg (enc x).toArray,.agg (enc y).toArray] W fun e w'=>e= .returned (.int .i64 (cf x y))/\ ∃q os',w'=grow (W.drewN q) os') (xs:List α) (hn:xs.length < 4611686018427387904):
  CtG P (ρ.f 6) [(1,⟨T,k,true,rV f xs⟩)] [.own (.sl 1 k 0 xs.length),.val (tE (.func (.func g) #[] #[]))] (.val (tE (.tuple #[]))) [(1,⟨T,k,true,rV f (srt cf xs)⟩)] []:=by
 intro F w η vs hS hA hI hF
 match vs,hS with
 | [v0,v1],hS=>
 obtain ⟨⟨A,rfl,hle,hadr⟩,h2,_⟩:=hS
 have h2:v1= .func (.func g) #[] #[]:=h2
 subst h2
 obtain ⟨k1,k2,k3,k4,k5⟩:=hA (1,⟨T,k,true,rV f xs⟩) (by simp)
 have k1:(rV f xs).length<=η.c 1:=k1
 have k2:0 < k:=k2
 have k4:η.c 1<=9223372036854775807:=k4
 rw [xd2] at k1
 obtain ⟨s1,s2,_⟩:=srt_spec hO xs
 by_cases h0:xs.length=0
 ·have hx:xs=[]:=List.length_eq_zero_iff.1 h0
  subst hx
  have e0:srt cf ([]:List α)=[]:=List.length_eq_zero_iff.1 s1
  rw [e0]
  refine (AnyF.slices_SortFunc_none L A (η.c 1 - 0) (.func (.func g) #[] #[]) w).mono ?_
  rintro e w' ⟨rfl,rfl⟩
  refine ⟨_,η,rfl,⟨Stp.refl _ _,fun _ _=>⟨rfl,rfl⟩,rfl,fun x hx=> ?_,hI,fun b hb=> .inl hb⟩⟩
  simp only [List.mem_singleton] at hx
  subst hx
  refine ⟨by simp [rV],k2,k3,k4,fun hc=> ?_⟩
  obtain ⟨cs,c1,c2,_⟩:=k5 hc
  exact ⟨cs,c1,c2,fun i e hi=>by simp [rV] at hi⟩
 ·have hc0:0 < η.c 1:=by omega
  obtain ⟨cs,c1,c2,c3⟩:=k5 hc0
  have c1:w.heap[η.b 1]? =some (.cells cs T (0,0)):=c1
  have c2:cs.size=η.c 1*k:=c2
  have hA':=hadr hc0
  rw [Nat.zero_mul] at hA'
  subst hA'
  have hblk:η.b 1 < w.heap.size:=xa7 c1
  have hmul: ∀i,i < xs.length->i*k+k<=cs.size:=fun i hi=>by
   rw [c2,<-Nat.succ_mul];exact Nat.mul_le_mul_right _ (by omega)
  have hget: ∀i (hi:i < xs.length) j,j < k->cs[i*k+j]? =(enc xs[i])[j]? :=fun i hi j hj=>by
   have h3:=c3 i (.val (f xs[i])) (by rw [rV,List.getElem?_map,List.getElem?_eq_getElem hi];rfl)
   have h4:=hf1 _ _ _ _ h3
   simp only [pick,cond_true,Value.agg.injEq] at h4
   have h5:=congrArg (fun a:Array Value=>a[j]?) h4
   simp only [Array.getElem?_extract,List.getElem?_toArray] at h5
   have:=hmul i hi
   rw [if_pos (by omega)] at h5
   exact h5
  have hsize:xs.toArray.size=xs.length:=by simp
  have hH:HoldsK enc k w (η.b 1) 0 xs.toArray:=by
   intro j hj
   rw [size_flatK,hsize] at hj
   have hj1:j / k < xs.length:=by rw [Nat.div_lt_iff_lt_mul k2];exact hj
   have hj2:j%k < k:=Nat.mod_lt _ k2
   have hje:j / k*k+j%k=j:=by rw [Nat.mul_comm];exact Nat.div_add_mod j k
   have h6:=hget (j / k) hj1 (j%k) hj2
   rw [hje] at h6
   have h7:=flat_at hk xs.toArray (i:=j / k) (j:=j%k) (by rw [hsize];exact hj1) hj2
   rw [hje] at h7
   have hlen:j%k < (enc xs[j / k]).length:=by rw [hk];exact hj2
   have h8:xs.toArray[j / k]! =xs[j / k]:=by rw [getElem!_pos _ _ (by rw [hsize];exact hj1)];simp
   refine ⟨?_,?_⟩
   ·show w.cell? ⟨η.b 1,0+j,none⟩=some (flatK enc k xs.toArray)[j]!
    rw [h7,h8,getElem!_pos (enc xs[j / k]) (j%k) hlen]
    simp only [World.cell?,c1,Nat.zero_add,Option.isSome_none,Bool.false_eq_true,if_false]
    rw [h6,List.getElem?_eq_getElem hlen]
   ·simp [World.frozen?,c1]
  have hcon:=AnyQ.slices_SortFunc_eq L k aE zE enc hk h1 cf hO g #[] (η.b 1) 0 (η.c 1 - 0) xs.toArray w eg (fun m os dk _ x y=>hcmp x y _) hH hblk (by rw [hsize];exact hn)
  rw [hsize] at hcon
  refine hcon.mono ?_
  rintro e w' ⟨rfl,m,os,rfl⟩
  have hd:(pdq (ltOf cf) xs.toArray 0 xs.length (Go.Lib.bitLen xs.length) true true).size=xs.length:=by
   have:(srt cf xs).length=xs.length:=s1
   simpa [srt] using this
  have hl:(pdq (ltOf cf) xs.toArray 0 xs.length (Go.Lib.bitLen xs.length) true true).toList=srt cf xs:=by simp [srt]
  generalize pdq (ltOf cf) xs.toArray 0 xs.length (Go.Lib.bitLen xs.length) true true=d at hd hl
  have hheap: ∀b',b' < w.heap.size->(sortWorldK enc k w (η.b 1) 0 m d os).heap[b']? =if b'=η.b 1 then some (.cells (putCells id 0 (flatK enc k d) cs) T (0,0)) else w.heap[b']? :=fun b' hb'=>by
   show (grow (putRowK enc k (Sort.ahead w m) (η.b 1) 0 d) os).heap[b']? =_
   rw [heap_grow_old _ _ (by simp [putRowK];exact hb')]
   simp only [putRowK,putRow,mapBlock,Array.getElem?_modify]
   by_cases hb:b'=η.b 1
   ·subst hb
    rw [if_pos rfl,if_pos rfl]
    show Option.map _ (w.heap[η.b 1]?)=_
    rw [c1];rfl
   ·rw [if_neg (fun h=>hb h.symm),if_neg hb];rfl
  have hsz:w.heap.size<=(sortWorldK enc k w (η.b 1) 0 m d os).heap.size:=by
   show w.heap.size<=(grow (putRowK enc k (Sort.ahead w m) (η.b 1) 0 d) os).heap.size
   simp [grow,putRowK,putRow,mapBlock,Sort.ahead]
  refine ⟨_,η,rfl,⟨⟨rfl,rfl,rfl,hsz,fun b' hb' hn'=> ?_⟩,fun _ _=>⟨rfl,rfl⟩,rfl,fun x hx=> ?_,fun x hx y hy hne=> ?_,fun b' hb'=> .inl ?_⟩⟩
  ·rw [hheap b' hb',if_neg]
   intro hb;exact hn' ⟨(1,⟨T,k,true,rV f xs⟩),by simp,hc0,hb⟩
  ·simp only [List.mem_singleton] at hx
   subst hx
   refine ⟨by rw [xd2,s1];exact k1,k2,k3,k4,fun _=>⟨putCells id 0 (flatK enc k d) cs,?_,?_,fun i e hi=> ?_⟩⟩
   ·rw [hheap _ hblk,if_pos rfl]
   ·simp only [putCells,Array.size_mapIdx];exact c2
   ·have hil:i < (srt cf xs).length:=by
     have:=(List.getElem?_eq_some_iff.1 hi).1;rwa [xd2] at this
    have hi2:i < xs.length:=by rw [<-s1];exact hil
    rw [rV,List.getElem?_map,List.getElem?_eq_getElem hil] at hi
    simp only [Option.map_some,Option.some.injEq] at hi
    subst hi
    have hdi:d[i]! =(srt cf xs)[i]:=by
     rw [getElem!_pos d i (by rw [hd];exact hi2)]
     simp only [<-hl,Array.getElem_toList]
    have:pick true k (putCells id 0 (flatK enc k d) cs) (i*k)= .agg (enc (srt cf xs)[i]).toArray:=by
     simp only [pick,cond_true,Value.agg.injEq]
     apply Array.ext_getElem?
     intro j
     rw [Array.getElem?_extract]
     have hm:=hmul i hi2
     simp only [List.getElem?_toArray]
     by_cases hj:j < k
     ·rw [if_pos (by simp only [putCells,Array.size_mapIdx];omega)]
      have hlt:i*k+j < d.size*k:=by
       rw [hd]
       have:=Nat.mul_le_mul_right k (show i+1<=xs.length from hi2);rw [Nat.add_mul,Nat.one_mul] at this;omega
      simp only [putCells,Array.getElem?_mapIdx,size_flatK]
      have hcs:cs[i*k+j]? =some (cs[i*k+j]'(by omega)):=by rw [Array.getElem?_eq_getElem]
      rw [hcs]
      simp only [Option.map_some]
      rw [if_pos ⟨Nat.zero_le _,by omega⟩,Nat.sub_zero,flat_at hk d (by rw [hd];exact hi2) hj,hdi]
      have hjl:j < (enc (srt cf xs)[i]).length:=by rw [hk];exact hj
      rw [getElem!_pos (enc (srt cf xs)[i]) j hjl,List.getElem?_eq_getElem hjl];rfl
     ·rw [if_neg (by simp only [putCells,Array.size_mapIdx];omega),List.getElem?_eq_none (by rw [hk];omega)]
    simp only []
    rw [this]
    exact hf2 _ _ _
  ·simp only [List.mem_singleton] at hx hy
   subst hx;subst hy
   exact absurd rfl hne
  ·obtain ⟨x,hx,hc,rfl⟩:=hb'
   simp only [List.mem_singleton] at hx
   subst hx
   exact ⟨(1,⟨T,k,true,rV f xs⟩),by simp,hc,rfl⟩
end An
namespace An.S
open Go Go.Proofs An
open Go.RowKit Go.Sort
instance ti94:TyI Tryz.prog 94 2 true:=⟨by kernel_rfl,by kernel_rfl⟩
instance sl90:SlI Tryz.prog 90 94 2 true:=⟨Tryz.underlying90,ti94⟩
instance fo94_0:FoI Tryz.prog 94 0 0:=⟨by kernel_rfl⟩
instance fo94_1:FoI Tryz.prog 94 1 1:=⟨by kernel_rfl⟩
instance fi131:FnI Tryz.prog 131:=⟨_,Tryz.func131,by kernel_rfl,rfl⟩
instance fi132:FnI Tryz.prog 132:=⟨_,Tryz.func132,by kernel_rfl,rfl⟩
theorem el94:ElI Tryz.prog 94 2 16 true (.agg #[.int .i64 0,.int .i64 0]):=⟨ti94,by kernel_rfl,by kernel_rfl⟩
theorem zr94:(Tryz.prog.info? 94).bind (·.zero)=some (.agg #[.int .i64 0,.int .i64 0])/\ ∀F w,(tS [⟨1,false,(tE (.int .i64 0))⟩,⟨1,false,(tE (.int .i64 0))⟩]).p F w (.agg #[.int .i64 0,.int .i64 0]):=⟨by kernel_rfl,fun _ _=>⟨_,rfl,rfl,⟨fun _=>rfl,rfl⟩,⟨fun _=>rfl,rfl⟩,trivial⟩⟩
theorem zf94:Flat 2 true (.agg #[.int .i64 0,.int .i64 0]):=xo1 (by intro u hu;simp at hu;rcases hu with rfl | rfl <;> rfl)
instance un90:UnI Tryz.prog 90 (.slice 94):=⟨Tryz.underlying90⟩
def cmpI (a b:Int):Int:=if a < b then -1 else if b < a then 1 else 0
theorem cmpInt (a b:Int) (W:World):Calls Tryz.prog 134 #[.int .i64 a,.int .i64 b] W fun e w'=>e= .returned (.int .i64 (cmpI a b))/\w'=W:=by
 have hn: ∀(x:Int) (W:World),Calls Tryz.prog 162 #[.int .i64 x] W fun e w'=>e= .returned (.bool false)/\w'=W:=fun x W=>by
  have h1:(x==x)=true:=by simp
  go_enter Tryz.func162,Tryz.ntmps162
  go_wp2
  go_ret
  exact ⟨by simp,rfl⟩
 by_cases h1:a < b
 ·rw [show cmpI a b= -1 by simp [cmpI,h1]]
  go_enter Tryz.func134,Tryz.ntmps134
  go_wp2_with (go_at_call 162;refine (hn _ _).mono ?_;rintro e w' ⟨rfl,rfl⟩)
  go_ret
  exact ⟨rfl,rfl⟩
 ·by_cases h2:b < a
  ·rw [show cmpI a b=1 by simp [cmpI,h1,h2]]
   go_enter Tryz.func134,Tryz.ntmps134
   go_wp2_with (go_at_call 162;refine (hn _ _).mono ?_;rintro e w' ⟨rfl,rfl⟩)
   go_ret
   exact ⟨rfl,rfl⟩
  ·rw [show cmpI a b=0 by simp [cmpI,h1,h2]]
   go_enter Tryz.func134,Tryz.ntmps134
   go_wp2_with (go_at_call 162;refine (hn _ _).mono ?_;rintro e w' ⟨rfl,rfl⟩)
   go_ret
   exact ⟨rfl,rfl⟩
def sortSpanR:Go.Shelf.Ren:=⟨fun n=>match n with | 6=>132 | 14=>172 | 15=>73 | 20=>204 | 21=>205 | 22=>206 | 23=>207 | 24=>208 | 25=>209 | 26=>210 | 27=>211 | 28=>115 | 29=>116 | 46=>225 | 47=>158 | 48=>159 | 49=>226 | 50=>227 | 57=>244 | n=>n,fun n=>match n with | 0=>0 | 3=>3 | 4=>4 | 5=>5 | 9=>9 | 22=>90 | 24=>94 | 25=>187 | 39=>119 | 45=>159 | 46=>160 | 50=>165 | 53=>168 | 55=>157 | 66=>201 | 70=>205 | 76=>229 | 77=>145 | n=>n,fun n=>n⟩
theorem sortSpan:Go.Proofs.SlLaysF0.n6 Tryz.prog sortSpanR where
 mixed:=by kernel_rfl
 f6:=⟨Tryz.f132.name,by kernel_rfl,by kernel_rfl⟩
 f14:=⟨Tryz.f172.name,by kernel_rfl,by kernel_rfl⟩
 f15:=by kernel_rfl
 f20:=⟨Tryz.f204.name,by kernel_rfl,by kernel_rfl⟩
 f21:=⟨Tryz.f205.name,by kernel_rfl,by kernel_rfl⟩
 f22:=⟨Tryz.f206.name,by kernel_rfl,by kernel_rfl⟩
 f23:=⟨Tryz.f207.name,by kernel_rfl,by kernel_rfl⟩
 f24:=⟨Tryz.f208.name,by kernel_rfl,by kernel_rfl⟩
 f25:=⟨Tryz.f209.name,by kernel_rfl,by kernel_rfl⟩
 f26:=⟨Tryz.f210.name,by kernel_rfl,by kernel_rfl⟩
 f27:=⟨Tryz.f211.name,by kernel_rfl,by kernel_rfl⟩
 f28:=by kernel_rfl
 f29:=by kernel_rfl
 f46:=⟨Tryz.f225.name,by kernel_rfl,by kernel_rfl⟩
 f47:=by kernel_rfl
 f48:=by kernel_rfl
 f49:=⟨Tryz.f226.name,by kernel_rfl,by kernel_rfl⟩
 f50:=⟨Tryz.f227.name,by kernel_rfl,by kernel_rfl⟩
 f57:=⟨Tryz.f244.name,by kernel_rfl,by kernel_rfl⟩
 t0:=by kernel_rfl
 a0:=fun w=>by kernel_rfl
 z0:=fun w=>by kernel_rfl
 v0:=fun w=>by kernel_rfl
 t3:=by kernel_rfl
 a3:=fun w=>by kernel_rfl
 z3:=fun w=>by kernel_rfl
 v3:=fun w=>by kernel_rfl
 t4:=by kernel_rfl
 a4:=fun w=>by kernel_rfl
 z4:=fun w=>by kernel_rfl
 v4:=fun w=>by kernel_rfl
 t5:=by kernel_rfl
 a5:=fun w=>by kernel_rfl
 z5:=fun w=>by kernel_rfl
 v5:=fun w=>by kernel_rfl
 t9:=by kernel_rfl
 a9:=fun w=>by kernel_rfl
 z9:=fun w=>by kernel_rfl
 v9:=fun w=>by kernel_rfl
 t22:=by kernel_rfl
 a22:=fun w=>by kernel_rfl
 z22:=fun w=>by kernel_rfl
 v22:=fun w=>by kernel_rfl
 t25:=by kernel_rfl
 a25:=fun w=>by kernel_rfl
 z25:=fun w=>by kernel_rfl
 v25:=fun w=>by kernel_rfl
 t39:=by kernel_rfl
 a39:=fun w=>by kernel_rfl
 z39:=fun w=>by kernel_rfl
 v39:=fun w=>by kernel_rfl
 t45:=by kernel_rfl
 a45:=fun w=>by kernel_rfl
 z45:=fun w=>by kernel_rfl
 v45:=fun w=>by kernel_rfl
 t46:=by kernel_rfl
 a46:=fun w=>by kernel_rfl
 z46:=fun w=>by kernel_rfl
 v46:=fun w=>by kernel_rfl
 t50:=by kernel_rfl
 a50:=fun w=>by kernel_rfl
 z50:=fun w=>by kernel_rfl
 v50:=fun w=>by kernel_rfl
 t53:=by kernel_rfl
 a53:=fun w=>by kernel_rfl
 z53:=fun w=>by kernel_rfl
 v53:=fun w=>by kernel_rfl
 t55:=by kernel_rfl
 a55:=fun w=>by kernel_rfl
 z55:=fun w=>by kernel_rfl
 v55:=fun w=>by kernel_rfl
 t66:=by kernel_rfl
 a66:=fun w=>by kernel_rfl
 z66:=fun w=>by kernel_rfl
 v66:=fun w=>by kernel_rfl
 t70:=by kernel_rfl
 a70:=fun w=>by kernel_rfl
 z70:=fun w=>by kernel_rfl
 v70:=fun w=>by kernel_rfl
 t76:=by kernel_rfl
 a76:=fun w=>by kernel_rfl
 z76:=fun w=>by kernel_rfl
 v76:=fun w=>by kernel_rfl
 t77:=by kernel_rfl
 a77:=fun w=>by kernel_rfl
 z77:=fun w=>by kernel_rfl
 v77:=fun w=>by kernel_rfl
def cfSn (x y:Sn):Int:=cmpI x.lo y.lo
def encSn (x:Sn):List Value:=[.int .i64 x.lo,.int .i64 x.hi]
theorem ltSn (x y:Sn):Go.Proofs.ltOf cfSn x y=decide (x.lo < y.lo):=by
 unfold Go.Proofs.ltOf cfSn cmpI
 by_cases h1:x.lo < y.lo
 ·simp [h1]
 ·by_cases h2:y.lo < x.lo <;> simp [h1,h2]
theorem swoSn:SWO (Go.Proofs.ltOf cfSn) where
 irrefl x:=by rw [ltSn];simp
 trans x y z h1 h2:=by rw [ltSn] at*;simp at*;omega
 ntrans x y z h1 h2:=by rw [ltSn] at*;simp at*;omega
theorem closSn (x y:Sn) (W:World):Calls Tryz.prog 133 #[.agg (encSn x).toArray,.agg (encSn y).toArray] W fun e w'=>e= .returned (.int .i64 (cfSn x y))/\ ∃q os',w'=grow (W.drewN q) os':=by
 have hcon:=fun W'=>cmpInt x.lo y.lo W'
 show Calls Tryz.prog 133 #[.agg #[.int .i64 x.lo,.int .i64 x.hi],.agg #[.int .i64 y.lo,.int .i64 y.hi]] W fun e w'=>e= .returned (.int .i64 (cmpI x.lo y.lo))/\ ∃q os',w'=grow (W.drewN q) os'
 generalize cmpI x.lo y.lo=r at hcon ⊢
 go_enter Tryz.func133,Tryz.ntmps133
 go_wp2_with (go_at_call 134;refine (hcon _).mono ?_;rintro e w' ⟨rfl,rfl⟩)
 go_ret
 exact ⟨rfl,0,_,by rw [alloc_eq_grow,alloc_eq_grow,grow_grow];rfl⟩
theorem c_sortSn (xs:List Sn) (hn:xs.length < 4611686018427387904):CtG Tryz.prog 132 [(1,⟨94,2,true,rV tSn xs⟩)] [.own (.sl 1 2 0 xs.length),.val (tE (.func (.func 133) #[] #[]))] (.val (tE (.tuple #[]))) [(1,⟨94,2,true,rV tSn (srt cfSn xs)⟩)] []:=
 sortG sortSpan (enc:=encSn) (cf:=cfSn) (fun w=>by kernel_rfl) (fun w=>by kernel_rfl) (fun _=>rfl) (fun x v hv=>by simp [encSn] at hv;rcases hv with rfl | rfl <;> rfl) (fun F w x v h=>tSn_val h) (fun F w x=>tSn_mk) swoSn (enters_of Tryz.func133 (by kernel_rfl) rfl) closSn xs hn
theorem srtSn_len {xs:List Sn}:(srt cfSn xs).length=xs.length:=(srt_spec swoSn xs).1
def pos (s:Sn):Bool:=decide (s.lo < s.hi)
def mkS (l:List Sn):List Sn:=mrg (srt cfSn (l.filter pos))
theorem filter_next {l:List Sn} {i:Nat} (hi:i < l.length):(l.take (i+1)).filter pos=(l.take i).filter pos++(if pos (l.getD i sn0) then [l.getD i sn0] else []):=by
 rw [List.take_succ_eq_append_getElem hi,List.filter_append,List.getD_eq_getElem?_getD,List.getElem?_eq_getElem hi]
 by_cases h:pos l[i]=true <;> simp [h]
theorem mrg_next {l:List Sn} {i:Nat} (hi:i < l.length):mrg (l.take (i+1))=mrg1 (mrg (l.take i)) (l.getD i sn0):=by
 rw [List.take_succ_eq_append_getElem hi,mrg,List.foldl_append,List.getD_eq_getElem?_getD,List.getElem?_eq_getElem hi];rfl
theorem allS_next {p:Sn->Bool} {l:List Sn} {i:Nat} (hi:i < l.length):(l.take (i+1)).all p=((l.take i).all p && p (l.getD i sn0)):=by
 rw [List.take_succ_eq_append_getElem hi,List.all_append,List.getD_eq_getElem?_getD,List.getElem?_eq_getElem hi];simp
theorem allS_stop {p:Sn->Bool} {l:List Sn} {i:Nat} (hi:i < l.length) (h:p (l.getD i sn0)=false):l.all p=false:=by
 rw [List.all_eq_false]
 exact ⟨l.getD i sn0,by rw [List.getD_eq_getElem?_getD,List.getElem?_eq_getElem hi];exact List.getElem_mem hi,by rw [h];exact Bool.false_ne_true⟩
theorem mrg1_len (acc:List Sn) (s:Sn):(mrg1 acc s).length<=acc.length+1:=by
 rw [mrg1];split <;> simp
theorem mrg_len: ∀(xs acc:List Sn),(xs.foldl mrg1 acc).length<=acc.length+xs.length
 | [],acc=>by simp
 | s::r,acc=>by
  have h1:=mrg_len r (mrg1 acc s)
  have h2:=mrg1_len acc s
  simp only [List.foldl_cons,List.length_cons]
  omega
theorem filter_le {l:List Sn} {i:Nat}:((l.take i).filter pos).length<=i:=by
 have h1:=List.length_filter_le pos (l.take i)
 rw [List.length_take] at h1;omega
theorem c_isSpan (s:Sn):
  Ct Tryz.prog 131 [tSn s] (tB s.ok):=by
 refine Ct.intro Tryz.func131 rfl Tryz.ntmps131 rfl ?_
 intro w F
 refine A12 ?_
 refine RGcaseD (t:=6) rfl (fun h15=> ?_) (fun h15=> ?_)
 ·
  refine A7 ?_
  refine RGcaseD (t:=13) rfl (fun h15_2=> ?_) (fun h15_2=> ?_)
  ·
   refine A8 ?_
   exact E1 rfl rfl (Le.bool (by simp [Sn.ok, *]))
  ·
   refine A8 ?_
   exact E1 rfl rfl (Le.bool (by simp [Sn.ok, *]))
 ·
  refine A15 ?_
  exact E1 rfl rfl (Le.bool (by simp [Sn.ok, *]))
theorem c_SnMake (l:List Sn) (hl:l.length<=1000000):
  Ct Tryz.prog 78 [tL 2 true tSn l] (tT [tL 2 true tSn (if l.all Sn.ok=true then mkS l else []),tI (if l.all Sn.ok=true then 0 else 2)]):=by
 refine Ct.intro Tryz.func78 rfl Tryz.ntmps78 rfl ?_
 intro w F
 refine A8 ?_
 refine RE (xe3 (k:=4) 94 2 true rfl (fun h=>by cases h)) trivial trivial qA ?_
 refine A11 ?_
 refine cL (fun (fm:(Nat)×(List Sn))=>(fun (i:Nat) (xs:List Sn)=>i<=l.length/\(l.take i).all Sn.ok=true/\xs=(l.take i).filter pos) fm.1 fm.2) (wB fun (i:Nat) (xs:List Sn)=>uV (uV (uV (uO (uV uN 0 (tL 2 true tSn l)) 4 (.sl 4 2 0 xs.length)) 11 (tL 2 true tSn l)) 12 (tI l.length)) 13 (tI i)) (wB fun (i:Nat) (xs:List Sn)=>uK uN 4 94 2 true (rV tSn xs)) [4] (fun (fm:(Nat)×(List Sn))=>(fun (i:Nat) (xs:List Sn)=>l.length - i) fm.1 fm.2) ((0,[])) (by dsimp only;exact ⟨Nat.zero_le _,rfl,rfl⟩) ?_
 intro fm hI
 obtain ⟨i,xs⟩:=fm
 replace hI:i<=l.length/\(l.take i).all Sn.ok=true/\xs=(l.take i).filter pos:=hI
 show wc _ _ _ _ (uV (uV (uV (uO (uV uN 0 (tL 2 true tSn l)) 4 (.sl 4 2 0 xs.length)) 11 (tL 2 true tSn l)) 12 (tI l.length)) 13 (tI i)) (uK uN 4 94 2 true (rV tSn xs)) _
 obtain ⟨hi,ha,hx⟩:=hI
 have hxl:xs.length<=i:=hx▸filter_le
 refine A6 ?_
 refine x6 rfl (fun h31=> ?_) (fun h31=> ?_)
 ·
  refine A6 ?_
  refine R2 (x4 sl90 (i) (by omega) (gD (l:=l) (n:=i) (d:=sn0) (by omega))) rfl rfl ?_
  refine A1 ?_
  refine RE (x7 (k:=6) (n:=2) (agg:=true) zr94.1 zr94.2 rfl) trivial trivial qA ?_
  refine A7 ?_
  refine R1 (x3 (c_isSpan _) fi131 rfl) rfl ?_
  refine A3 ?_
  refine xc2 rfl (fun h32=> ?_) (fun h32=> ?_)
  ·
   have hbad:l.all Sn.ok=false:=allS_stop (i:=i) (by omega) (by rw [Bool.not_eq_true'] at h32;exact h32)
   refine A13 ?_
   exact E2 rfl rfl rfl (leNil (by rw [if_neg (by rw [hbad];exact Bool.false_ne_true)])) (Le.int (by rw [if_neg (by rw [hbad];exact Bool.false_ne_true)]))
  ·
   rw [Bool.not_eq_false'] at h32
   refine A11 ?_
   refine x6 rfl (fun h35=> ?_) (fun h35=> ?_)
   ·
    refine A3 ?_
    refine R1 (xb5 (n:=1) (f:=tSn) [(l.getD i sn0)] Tryz.underlying90 el94 zf94 rfl (fun _=>inferInstance) rfl rfl rfl) rfl (RE (xb3 (k:=4) (k':=28) (f:=tSn) (ys:=[(l.getD i sn0)]) (ts':=rV tSn (xs++[(l.getD i sn0)])) Tryz.underlying90 el94 zf94 rfl rfl (fun _=>inferInstance) xd2 (by simp;omega) (by simp;omega) (by simp [rV]) (n':=xs.length+1) rfl) qB qA qA ?_)
    refine A8 ?_
    exact xc6 (l:=[4]) (fun j=>cond (Nat.beq j 4) 28 (j)) ((i+1,xs++[(l.getD i sn0)])) ⟨(by dsimp only;exact ⟨by omega,by rw [allS_next (by omega),ha,h32];rfl,by rw [filter_next (by omega),<-hx,if_pos (show pos _=true from decide_eq_true h35)]⟩),(by dsimp only;omega)⟩ (SubR.int rfl (by first | omega | rfl | (dsimp only;omega)) (SubR.int rfl (by first | omega | rfl | (dsimp only;omega)) (SubR.cons rfl ((SubR.consI rfl (Imp.of (by dsimp only;rw [List.length_append];rfl))) (SubR.cons rfl SubR.nil))))) ((SubKR.consI rfl (ImpK.of xa6.symm)) SubKR.nil) (SupG.val (SupG.val (SupG.val (SupG.own rfl (SupG.val SupG.nil))))) (SupH.cons rfl (supJ xa5) SupH.nil) (lkOk rfl) rfl rfl (fun _ h=>by cases h)
   ·
    refine A7 ?_
    exact kF ((i+1,xs)) ⟨(by dsimp only;exact ⟨by omega,by rw [allS_next (by omega),ha,h32];rfl,by rw [filter_next (by omega),<-hx,if_neg (by rw [pos,decide_eq_false h35];exact Bool.false_ne_true),List.append_nil]⟩),(by dsimp only;omega)⟩
 ·
  refine A6 ?_
  have hil:i=l.length:=by omega
  subst hil
  rw [List.take_length] at ha hx
  have hall:=ha
  have hmk:mkS l=mrg (srt cfSn xs):=by rw [mkS,hx]
  refine A2 ?_
  refine RE (xb7 (fun _=>4) (c_sortSn xs (by omega)) fi132 rfl (krC (ρ:=fun _=>4) (k:=1) xa6 (krN (ρ:=fun _=>4))) (krC (ρ:=fun _=>4) (k:=1) xa6 (krN (ρ:=fun _=>4))) ⟨⟨rfl,xa5⟩,trivial⟩ rfl) qB qA trivial ?_
  refine A4 ?_
  refine RE (xe3 (k:=7) 94 2 true rfl (fun h=>by cases h)) trivial trivial qA ?_
  refine A11 ?_
  refine cL (fun (fm:(Nat)×(List Sn))=>(fun (i:Nat) (zs:List Sn)=>i<=xs.length/\zs=mrg ((srt cfSn xs).take i)) fm.1 fm.2) (wB fun (i:Nat) (zs:List Sn)=>uV (uV (uO (uO (uO uN 4 (.sl 4 2 0 xs.length)) 7 (.sl 7 2 0 zs.length)) 32 (.sl 4 2 0 xs.length)) 33 (tI xs.length)) 34 (tI i)) (wB fun (i:Nat) (zs:List Sn)=>uK (uK uN 4 94 2 true (rV tSn (srt cfSn xs))) 7 94 2 true (rV tSn zs)) [4,7] (fun (fm:(Nat)×(List Sn))=>(fun (i:Nat) (zs:List Sn)=>xs.length - i) fm.1 fm.2) ((0,[])) (by dsimp only;exact ⟨Nat.zero_le _,rfl⟩) ?_
  intro fm hI
  obtain ⟨i,zs⟩:=fm
  replace hI:i<=xs.length/\zs=mrg ((srt cfSn xs).take i):=hI
  show wc _ _ _ _ (uV (uV (uO (uO (uO uN 4 (.sl 4 2 0 xs.length)) 7 (.sl 7 2 0 zs.length)) 32 (.sl 4 2 0 xs.length)) 33 (tI xs.length)) 34 (tI i)) (uK (uK uN 4 94 2 true (rV tSn (srt cfSn xs))) 7 94 2 true (rV tSn zs)) _
  obtain ⟨hi',hz⟩:=hI
  have hsl:=srtSn_len (xs:=xs)
  have hzl:zs.length<=i:=by
   have h:=mrg_len ((srt cfSn xs).take i) []
   rw [List.length_take] at h
   have h2:zs.length<=([]:List Sn).length+min i (srt cfSn xs).length:=by rw [hz];exact h
   simp at h2;omega
  refine A6 ?_
  refine x6 rfl (fun h41=> ?_) (fun h41=> ?_)
  ·
   refine A6 ?_
   refine R2 (xa2 sl90 (by omega) (by omega) rfl) rfl rfl (RE (xc1 (i) ti94 (xc4 (d:=sn0) (by omega)) (by omega)) qA qA trivial (RE (x7 (k:=9) (n:=2) (agg:=true) zr94.1 zr94.2 rfl) trivial trivial qA ?_))
   refine A15 ?_
   refine RGcaseD (t:=42) rfl (fun h42=> ?_) (fun h42=> ?_)
   ·
    refine A2 ?_
    refine Rg (decide_eq_true h42) rfl (xd6 (wr64 (by omega) (by omega))) rfl qB (Rg (decide_eq_true h42) rfl (xa2 sl90 (by omega) (by omega) rfl) rfl qB ?_)
    refine A1 ?_
    refine RGon (decide_eq_true h42) rfl (xj6 (es:=2) (o:=1) (zs.length - 1) ti3 (xc4 (d:=sn0) (by omega)) (At.g 1 rfl rfl) (by omega)) rfl qA qA trivial ?_
    refine A6 ?_
    refine x6 rfl (fun h42_2=> ?_) (fun h42_2=> ?_)
    ·
     refine A7 ?_
     refine R2 (xa2 sl90 (by omega) (by omega) rfl) rfl rfl ?_
     refine A1 ?_
     refine RE (xj6 (es:=2) (o:=1) (zs.length - 1) ti3 (xc4 (d:=sn0) (by omega)) (At.g 1 rfl rfl) (by omega)) qA qA trivial ?_
     refine A2 ?_
     refine R2 d_max2 rfl rfl (R2 (xa2 sl90 (by omega) (by omega) rfl) rfl rfl ?_)
     refine A1 ?_
     refine RE (xj2 (es:=2) (o:=1) (t2:=tSn ⟨(zs.getD (zs.length - 1) sn0).lo,max (zs.getD (zs.length - 1) sn0).hi ((srt cfSn xs).getD i sn0).hi⟩) (zs.length - 1) ti3 (xc4 (d:=sn0) (by omega)) (Up.f (f:=⟨1,false,tI (zs.getD (zs.length - 1) sn0).hi⟩) 1 rfl rfl rfl) (by omega) (xi3 rfl)) qB qA trivial ?_
     refine A7 ?_
     exact kF ((i+1,(zs.set (zs.length - 1) ⟨(zs.getD (zs.length - 1) sn0).lo,max (zs.getD (zs.length - 1) sn0).hi ((srt cfSn xs).getD i sn0).hi⟩))) ⟨(by dsimp only;exact ⟨by omega,by rw [mrg_next (by omega),<-hz,mrg1,if_pos ⟨by omega,by omega⟩]⟩),(by dsimp only;omega)⟩ (hg:=(sI (sI (sC ((Sub.consI rfl (Imp.of (by dsimp only;rw [List.length_set]))) (sC Sub.nil))))))
    ·
     refine A3 ?_
     refine R1 (xb5 (n:=1) (f:=tSn) [((srt cfSn xs).getD i sn0)] Tryz.underlying90 el94 zf94 rfl (fun _=>inferInstance) rfl rfl rfl) rfl (RE (xb3 (k:=7) (k':=70) (f:=tSn) (ys:=[((srt cfSn xs).getD i sn0)]) (ts':=rV tSn (zs++[((srt cfSn xs).getD i sn0)])) Tryz.underlying90 el94 zf94 rfl rfl (fun _=>inferInstance) xd2 (by simp;omega) (by simp;omega) (by simp [rV]) (n':=zs.length+1) rfl) qB qA qA ?_)
     refine A8 ?_
     exact xc6 (l:=[4,7]) (fun j=>cond (Nat.beq j 7) 70 (j)) ((i+1,zs++[((srt cfSn xs).getD i sn0)])) ⟨(by dsimp only;exact ⟨by omega,by rw [mrg_next (by omega),<-hz,mrg1,if_neg (by omega)]⟩),(by dsimp only;omega)⟩ (SubR.int rfl (by first | omega | rfl | (dsimp only;omega)) (SubR.int rfl (by first | omega | rfl | (dsimp only;omega)) (SubR.cons rfl ((SubR.consI rfl (Imp.of (by dsimp only;rw [List.length_append];rfl))) (SubR.cons rfl SubR.nil))))) ((SubKR.consI rfl (ImpK.of xa6.symm)) ((SubKR.consI rfl (ImpK.of xa6.symm)) SubKR.nil)) (SupG.val (SupG.val (SupG.own rfl (SupG.own rfl (SupG.own rfl SupG.nil))))) (SupH.cons rfl (supJ xa5) (SupH.cons rfl (supJ xa5) SupH.nil)) (lkOk rfl) rfl rfl (fun _ h=>by cases h)
   ·
    refine A16 ?_
    refine R1 (xb5 (n:=1) (f:=tSn) [((srt cfSn xs).getD i sn0)] Tryz.underlying90 el94 zf94 rfl (fun _=>inferInstance) rfl rfl rfl) rfl (RE (xb3 (k:=7) (k':=70) (f:=tSn) (ys:=[((srt cfSn xs).getD i sn0)]) (ts':=rV tSn (zs++[((srt cfSn xs).getD i sn0)])) Tryz.underlying90 el94 zf94 rfl rfl (fun _=>inferInstance) xd2 (by simp;omega) (by simp;omega) (by simp [rV]) (n':=zs.length+1) rfl) qB qA qA ?_)
    refine A8 ?_
    exact xc6 (l:=[4,7]) (fun j=>cond (Nat.beq j 7) 70 (j)) ((i+1,zs++[((srt cfSn xs).getD i sn0)])) ⟨(by dsimp only;exact ⟨by omega,by rw [mrg_next (by omega),<-hz,mrg1,if_neg (by omega)]⟩),(by dsimp only;omega)⟩ (SubR.int rfl (by first | omega | rfl | (dsimp only;omega)) (SubR.int rfl (by first | omega | rfl | (dsimp only;omega)) (SubR.cons rfl ((SubR.consI rfl (Imp.of (by dsimp only;rw [List.length_append];rfl))) (SubR.cons rfl SubR.nil))))) ((SubKR.consI rfl (ImpK.of xa6.symm)) ((SubKR.consI rfl (ImpK.of xa6.symm)) SubKR.nil)) (SupG.val (SupG.val (SupG.own rfl (SupG.own rfl (SupG.own rfl SupG.nil))))) (SupH.cons rfl (supJ xa5) (SupH.cons rfl (supJ xa5) SupH.nil)) (lkOk rfl) rfl rfl (fun _ h=>by cases h)
  ·
   refine A8 ?_
   refine RE (xk0 (f:=tSn) (xs:=zs) (fun _ h=>h) (xg2 rfl) rfl) qA qA trivial ?_
   refine A4 ?_
   exact E2 rfl rfl rfl (Le.of (by rw [if_pos hall,hmk,hz,show i=(srt cfSn xs).length by omega,List.take_length])) (Le.int (by rw [if_pos hall]))
end An.S
namespace An
open Go
theorem C_renS {P:Program} {c:Base} {g:Slots} {h:Keys} {al:Names} {Q:Exit->Act->World->Prop} {x:Code} {t k es off len:Nat} {y:HEnt} (k':Nat) (hs:g t=some (.own (.sl k es off len))) (hk:h k=some y) (hk':al k'=false)
  (H:wc P c x Q (upd g t (some (.own (.sl k' es off len)))) (upd (upd h k none) k' (some y)) (fun j=>Nat.beq j k' || al j)):wc P c x Q g h al:=fun a w hst=>by
 obtain ⟨η,s⟩:=hst
 have s2:=s.rename hk hk'
 have h1:=(s2.slot t _ hs).2.2
 have hk1:k≠k':=fun e=>by have:=(s.key k _ hk).1;rw [e,hk'] at this;cases this
 obtain ⟨hb,hc⟩:=η.set_other (k:=k') (j:=k) (η.b k) (η.c k) hk1
 have h2:Ent.sat (c.dom (upd (upd h k none) k' (some y)) (η.set k' (η.b k) (η.c k))) w (η.set k' (η.b k) (η.c k)) (.own (.sl k' es off len)) (a.tmps.getD t undef):=by
  obtain ⟨A,e1,e2,e3⟩:=h1
  rw [hc] at e1 e2 e3;rw [hb] at e3
  exact ⟨A,by rw [Env.set_c];exact e1,by rw [Env.set_c];exact e2,by rw [Env.set_c,Env.set_b];exact e3⟩
 have s3:=s2.put (s2.slot t _ hs).1 h2 fun j hj=>by
  simp only [Ent.supp,VP.supp,List.mem_singleton] at hj
  subst hj;simp
 have ea:a.put (some t) (a.tmps.getD t undef)=a:=by
  have hlt:t < a.tmps.size:=by rw [s.tn];exact (s.slot t _ hs).1
  have:a.tmps.setIfInBounds t (a.tmps.getD t undef)=a.tmps:=by
   apply Array.ext_getElem?
   intro i
   rw [Array.getElem?_setIfInBounds]
   by_cases hi:t=i
   ·subst hi;simp [hlt]
   ·simp [hi]
  simp only [Act.put,this]
 rw [ea] at s3
 exact H a w ⟨_,s3⟩
end An
