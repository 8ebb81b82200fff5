/- Part 4 of a proof: N1, Sv, Tv, Tv2, Tv3, LibZe, LibZd, Tw, LibZf, P1, Gs, Tx, Chg, Chg2a, Ty, LibZc, P2, LibZg, P3, P4, V16, V17, V18, V19, U20, Ref4, U34, X1, X2, X3, LibLx, X4, Y0, R5, Y1, X5, LibKn, Cal, Q1, O28, Q2, Sal. -/
import Derived.Shelf.Sort.Plain
import Derived.Shelf.Slices.In.SortNone
import Derived.Shelf.Slices.CompactI
import Derived.Lib.LaidTab
import Derived.Test.YtjcoiplkcabipaaGreatDoorChecked
import Derived.Test.YtjcoiplkcabipaaGreatDoorTie
import Derived.Test.YtjcoiplkcabipaaGreatDoorR3
set_option maxHeartbeats 4000000
set_option maxRecDepth 100000
namespace An.S
open Go Go.Proofs An
theorem xi2 {m n:Nat} {t:Ty} (h:n≤m):Le (tG (up m) t) (tG (up n) t):=tG_sub fun _ hb=>Nat.le_trans h hb
theorem le_T {ts us:List Ty} (h:LeL ts us):Le (tT ts) (tT us):=fun _ _ _ ⟨vs,h1,h2⟩=>⟨vs,h1,h.all h2⟩
theorem fr0N {G:Dom}:Le (tFr fr0) (tG G (tFr fr0)):=leG_S ⟨⟨rfl,rfl,leG_S ⟨⟨rfl,rfl,tG_E⟩,⟨rfl,rfl,leG_nil⟩,trivial⟩⟩,⟨rfl,rfl,leG_S ⟨⟨rfl,rfl,tG_E⟩,⟨rfl,rfl,leG_nil⟩,trivial⟩⟩,trivial⟩
theorem fr0L {G:Dom} {f:Fr} (h:f=fr0):Le (tFr fr0) (tG G (tFr f)):=h▸fr0N
theorem c_packW (l:List Nat) (hl:Dig 65536 l) (hn:l.length≤1000000):
  CtN Tryz.prog 155 [tLm l] (fun nw=>tG (up nw) (tWs (dgs 4294967296 ((l.length+1) / 2) (val 65536 l)))):=by
 refine CtN.intro Tryz.func155 rfl Tryz.ntmps155 rfl ?_
 intro w F
 refine A10 ?_
 refine R2 (d_quoP (by omega) (by omega) (wr64 (by omega) (by omega))) rfl rfl (RE (xh1 (k:=10) (t:=tE (.int .u32 0)) (ts:=rW .u32 (dgs 4294967296 ((l.length+1) / 2) 0)) ((l.length+1) / 2) ((l.length+1) / 2) Tryz.underlying144 el157 (fun _ _=>rfl) rfl (by omega) (by omega) (Nat.le_refl _) (by omega) (by omega) (by rw [dgs_zeros];exact xo6 _)) ⟨rfl,rfl,trivial⟩ trivial ⟨rfl,trivial⟩ ?_)
 refine A12 ?_
 refine cL (fun (i:Nat)=>i≤l.length) (fun (i:Nat)=>upd (upd (upd (upd (fun _=>none) 3 (some (.own (.sl 10 1 0 ((l.length+1) / 2))))) 11 (some (.val (tLm l)))) 12 (some (.val (tI l.length)))) 13 (some (.val (tI i)))) (fun (i:Nat)=>upd (fun _=>none) 10 (some (⟨157,1,false,rW .u32 (dgs 4294967296 ((l.length+1) / 2) (val 65536 (l.take i)))⟩))) [10] (fun (i:Nat)=>l.length - i) (0) (Nat.zero_le _) (hh:=(SubK.consI rfl (ImpK.ofTs (by simp [val])) SubK.nil)) ?_
 intro i hI
 refine A6 ?_
 refine x9 rfl (fun h28=> ?_) (fun h28=> ?_)
 ·
  have hx:=hl.getD (by omega) i
  have hw:(dgs 4294967296 ((l.length+1) / 2) (val 65536 (l.take i))).getD (i / 2) 0 < 65536 ^ (i%2):=by rw [xq3 (by omega)];exact pack_word hl i (by omega)
  refine A7 ?_
  refine R2 (x6 sl29 (i) (by omega) (gN (by omega))) rfl rfl ?_
  refine A8 ?_
  refine R2 (d_quoP (by omega) (by omega) (wr64 (by omega) (by omega))) rfl rfl (R2 (xa5 sl144 (by omega) (by omega) rfl) rfl rfl (RE (xd8 (i / 2) ti157 (xn6 (by rw [xe1];omega)) (by omega)) ⟨rfl,trivial⟩ ⟨rfl,trivial⟩ trivial ?_))
  refine A1 ?_
  refine R1 (x7 Tryz.underlying157 (isS Tryz.underlying42) (by first | exact wu32 (by omega) (by omega) | exact mu32)) rfl ?_
  refine A1 ?_
  refine R2 (xi6 (by omega) (by omega)) rfl rfl (R2 (xi5 (wr64 (by omega) (by omega))) rfl rfl (R2 (d_shl (by omega) (shl16 hx)) rfl rfl (R2 (d_or (pack_or hw hx)) rfl rfl (R2 (xa5 sl144 (by omega) (by omega) rfl) rfl rfl (RE (xc3 (i / 2) ti157 (xj5 (by rw [xe1];omega)) (by omega) (xh3 (m:=_) rfl)) ⟨rfl,rfl,trivial⟩ ⟨rfl,trivial⟩ trivial ?_)))))
  refine A7 ?_
  exact kF (i+1) ⟨(by omega),(by omega)⟩ (hh:=(SubK.consI rfl (ImpK.ofTs (by rw [pack_step hl (by omega) (by omega)])) SubK.nil))
 ·
  refine A7 ?_
  refine RE (d_moveSN (up w.heap.size) (fun _ h=>h) (fun _=>Free.E) (fun _ h=>h) (xi7 (xe1 _ _ _)) (xe1 _ _ _)) ⟨rfl,trivial⟩ ⟨rfl,trivial⟩ trivial ?_
  refine A4 ?_
  exact x4 Plain.mk' rfl rfl (Le.of (by rw [show i=l.length by omega,List.take_length]))
theorem c_packNN (v:Nat) (h:(dig 65536 v).length≤1000000):CtN Tryz.prog 155 [tLm (dig 65536 v)] (fun nw=>tG (up nw) (tN v)):=by
 have:=c_packW (dig 65536 v) (xb6 x8 v) h
 rw [pack_dig] at this;exact this
theorem c_MulN (x y:Int) (hx:len16 x≤1024) (hy:len16 y≤1024):
  CtN Tryz.prog 146 [tWh (wh x),tWh (wh y)] (fun nw=>tT [tG (up nw) (tWh (resW (x*y))),tI (resE (x*y))]):=by
 have hx32:=len32_le hx
 have hy32:=len32_le hy
 have hmul:=len_mul (k:=1024) (m:=x.natAbs) (n:=y.natAbs) (by omega) (by omega)
 refine CtN.intro Tryz.func146 rfl Tryz.ntmps146 rfl ?_
 intro w F
 refine A4 ?_
 refine RE (x5 (k:=4) (n:=2) (agg:=true) zr31.1 zr31.2 rfl) trivial trivial ⟨rfl,trivial⟩ ?_
 refine A8 ?_
 refine R2 (xc6 (n:=2) (f:=tWh) [wh x,wh y] Tryz.underlying164 el31 zf31 rfl (fun _=>inferInstance) rfl rfl rfl) rfl rfl (R1 (x3 (xm4 x y hx hy) fi153 rfl) rfl ?_)
 refine A15 ?_
 refine R1 (xe9 (ts:=[_]) (r:=tG (up w.heap.size) _) (c_packNN (Int.natAbs x) (by show len16 x≤1000000;omega)) fi155 (fun m hm=>xi2 hm) ⟨Le.refl,trivial⟩ rfl) rfl ?_
 refine A2 ?_
 refine R1 (xe9 (ts:=[_]) (r:=tG (up w.heap.size) _) (c_packNN (Int.natAbs y) (by show len16 y≤1000000;omega)) fi155 (fun m hm=>xi2 hm) ⟨Le.refl,trivial⟩ rfl) rfl (R2 (xr2 (ts:=[_,_]) (up w.heap.size) (c_times x.natAbs y.natAbs (by omega) (by omega)) fi180 (fun _ h=>h) ⟨Le.refl,Le.refl,trivial⟩ Le.refl rfl) rfl rfl (R2 (xr2 (ts:=[_,_]) (r':=tT [_,_]) (up w.heap.size) (c_result (!((wh x).neg==(wh y).neg)) (x.natAbs*y.natAbs) (by omega)) fi179 (fun _ h=>h) ⟨tG_E,Le.refl,trivial⟩ (geG_T ⟨Le.refl,tG_E',trivial⟩) rfl) rfl rfl ?_))
 refine A7 ?_
 exact xa8 Plain.mk' (rs:=[.cell 4 31,.tmp 5]) rfl rfl ⟨⟨_,_,_,_,_,rfl,rfl,ti31,(Le.of (by rw [sgn_mul]))⟩,⟨_,rfl,(Le.int (by rw [sgn_mul]))⟩,trivial⟩
theorem c_ftimesN (x y:Int) (hx:len16 x≤1024) (hy:len16 y≤1024) (hz:len16 (x*y)≤1024):
  CtN Tryz.prog 112 [tWh (wh x),tWh (wh y)] (fun nw=>tG (up nw) (tWh (wh (x*y)))):=by
 refine CtN.intro Tryz.func112 rfl Tryz.ntmps112 rfl ?_
 intro w F
 refine A4 ?_
 refine RE (x5 (k:=4) (n:=2) (agg:=true) zr31.1 zr31.2 rfl) trivial trivial ⟨rfl,trivial⟩ ?_
 refine A6 ?_
 refine R2 (xe9 (ts:=[_,_]) (r:=tT [tG (up w.heap.size) _,_]) (c_MulN x y hx hy) fi146 (fun m hm=>le_T ⟨xi2 hm,Le.refl,trivial⟩) ⟨Le.refl,Le.refl,trivial⟩ rfl) rfl rfl ?_
 refine A3 ?_
 refine RE (x5 (k:=5) (n:=2) (agg:=true) zr31.1 zr31.2 rfl) trivial trivial ⟨rfl,trivial⟩ ?_
 refine A11 ?_
 exact xc1 Plain.mk' rfl ⟨_,_,_,_,_,rfl,rfl,ti31,(Le.of (by rw [resW,if_pos hz]))⟩
theorem c_FMulN (a b:Rat) (ha:short a) (hb:short b):
  CtN Tryz.prog 107 [tFr (fr a),tFr (fr b)] (fun nw=>tT [tG (up nw) (tFr (resF (a*b))),tI (resFE (a*b))]):=by
 obtain ⟨an,ad⟩:=ha
 obtain ⟨bn,bd⟩:=hb
 have hbd:=b.den_nz
 have had:=a.den_nz
 have m1:len16 (a.num*b.num)≤256+256:=len16_mul an bn
 have m2:len16 ((a.den:Int)*(b.den:Int))≤256+256:=len16_mul ad bd
 have ha:short a:=⟨an,ad⟩
 have hb:short b:=⟨bn,bd⟩
 refine CtN.intro Tryz.func107 rfl Tryz.ntmps107 rfl ?_
 intro w F
 refine A4 ?_
 refine RE (x5 (k:=4) (n:=4) (agg:=true) zr33.1 zr33.2 rfl) trivial trivial ⟨rfl,trivial⟩ ?_
 refine A8 ?_
 refine R2 (xc6 (n:=2) (f:=fun q:Rat=>tFr (fr q)) [a,b] Tryz.underlying133 el33 zf33 rfl (fun _=>inferInstance) rfl rfl rfl) rfl rfl (R1 (x3 (xo2 [a,b] (by simp;exact ⟨ha,hb⟩)) fi109 rfl) rfl ?_)
 refine A12 ?_
 refine R2 (xe9 (ts:=[_,_]) (r:=tG (up w.heap.size) _) (c_ftimesN (a.num) (b.num) (by omega) (by omega) (by omega)) fi112 (fun m hm=>xi2 hm) ⟨Le.refl,Le.refl,trivial⟩ rfl) rfl rfl ?_
 refine A4 ?_
 refine R2 (xe9 (ts:=[_,_]) (r:=tG (up w.heap.size) _) (c_ftimesN ((a.den:Int)) ((b.den:Int)) (by omega) (by omega) (by omega)) fi112 (fun m hm=>xi2 hm) ⟨Le.refl,Le.refl,trivial⟩ rfl) rfl rfl (R2 (xr2 (ts:=[_,_]) (up w.heap.size) (c_lowest _ _ (by omega) (by omega) den_mul_ne) fi111 (fun _ h=>h) ⟨Le.refl,Le.refl,trivial⟩ Le.refl rfl) rfl rfl (R1 (xr2 (ts:=[_]) (r':=tT [_,_]) (up w.heap.size) (xt8 _) fi113 (fun _ h=>h) ⟨Le.refl,trivial⟩ (geG_T ⟨Le.refl,tG_E',trivial⟩) rfl) rfl ?_))
 refine A7 ?_
 exact xa8 Plain.mk' (rs:=[.cell 4 33,.tmp 5]) rfl rfl ⟨⟨_,_,_,_,_,rfl,rfl,ti33,(Le.of (by rw [sh_fr,xu5];by_cases hs:short (a*b) <;> simp [resF,hs]))⟩,⟨_,rfl,(Le.int (by rw [sh_fr,xu5];by_cases hs:short (a*b) <;> simp [resFE,hs]))⟩,trivial⟩
theorem c_FMulTN (f:Fr) (n:Int) (hf:f=fr f.rat) (hs:short f.rat) (hn:short (n:Rat)):CtN Tryz.prog 107 [tFr f,tFr (fr (n:Rat))] (fun nw=>tT [tG (up nw) (tFr (resF (f.rat*(n:Rat)))),tI (resFE (f.rat*(n:Rat)))]):=by
 have h:=c_FMulN f.rat n hs hn
 rw [←hf] at h;exact h
theorem c_TSumN (l:List Tst) (a b:Int) (hl:l.length≤500000) (hD: ∀s∈l,s.v.f.dig):
  CtN Tryz.prog 73 [tL 8 true tTs l,tI a,tI b] (fun nw=>tT [tG (up nw) (tFr (if sumC l a b then sumF (sumT (cutT l a b)) else fr0)),tI (if sumC l a b then sumE (sumT (cutT l a b)) else 2)]):=by
 have hcut:=c_Cut l a b hl hD
 obtain ⟨part,hpart⟩: ∃p:List Tst,p=(if (tRight l=true∧Sn.ok ⟨a,b⟩=true) then cutT l a b else []):=⟨_,rfl⟩
 obtain ⟨er,her⟩: ∃e:Int,e=(if (tRight l=true∧Sn.ok ⟨a,b⟩=true) then 0 else 2):=⟨_,rfl⟩
 rw [←hpart,←her] at hcut
 refine CtN.intro Tryz.func73 rfl Tryz.ntmps73 rfl ?_
 intro w F
 refine A2 ?_
 refine RE (x5 (k:=6) (n:=4) (agg:=true) zr33.1 zr33.2 rfl) trivial trivial ⟨rfl,trivial⟩ ?_
 refine A8 ?_
 refine R3 (x3 hcut fi106 rfl) rfl rfl rfl ?_
 refine A14 ?_
 refine x9 rfl (fun h181=> ?_) (fun h181=> ?_)
 ·
  have hb0: ¬(tRight l=true∧Sn.ok ⟨a,b⟩=true):=fun h=>h181 (by rw [her,if_pos h])
  have hb: ¬sumC l a b:=fun h=>hb0 h.1
  refine A2 ?_
  refine R0 (xa7 (r:=tS [⟨2,true,(tS [⟨1,false,(tE (.bool false))⟩,⟨1,false,(tLm [])⟩])⟩,⟨2,true,(tS [⟨1,false,(tE (.bool false))⟩,⟨1,false,(tLm [])⟩])⟩]) (ts:=[]) bu33 zr33.2 Le.refl) ?_
  refine A7 ?_
  exact xa8 Plain.mk' (rs:=[.cell 6 33,.tmp 7]) rfl rfl ⟨⟨_,_,_,_,_,rfl,rfl,ti33,(fr0L (by rw [if_neg hb];try rfl))⟩,⟨_,rfl,(Le.int (by rw [if_neg hb,her,if_neg hb0]))⟩,trivial⟩
 ·
  have hok:(tRight l=true∧Sn.ok ⟨a,b⟩=true):=Classical.byContradiction fun h=>h181 (by rw [her,if_neg h];decide)
  refine A2 ?_
  refine xg0 (fun (_j:Unit)=>numK l) (fun (_j:Unit)=>upd (upd (fun _=>none) 6 (some (.own (.ptr 6 0)))) 8 (some (.val (tL 8 true tTs part)))) (fun (_j:Unit)=>upd (fun _=>none) 6 (some (⟨33,4,true,[.val (tFr fr0)]⟩))) (nm [6]) ?_ ?_
  ·
   refine A6 ?_
   refine RGcaseD (t:=29) rfl (fun h184=> ?_) (fun h184=> ?_)
   ·
    refine A1 ?_
    refine RGon (decide_eq_true h184) rfl (x6 sl22 (0) (by omega) (gD (l:=l) (n:=0) (d:=tst0) (by omega))) rfl ⟨rfl,rfl,trivial⟩ trivial trivial (RGon (decide_eq_true h184) rfl (xb4 fo37_2.h (At.f 2 rfl rfl) rfl) rfl ⟨rfl,trivial⟩ trivial trivial (RGon (decide_eq_true h184) rfl (xb4 fo35_0.h (At.f 0 rfl rfl) rfl) rfl ⟨rfl,trivial⟩ trivial trivial ?_))
    refine A4 ?_
    refine RGcaseD (t:=37) rfl (fun h184_2=> ?_) (fun h184_2=> ?_)
    ·
     refine A1 ?_
     refine RGon (decide_eq_true h184_2) rfl (x6 sl22 (0) (by omega) (gD (l:=l) (n:=0) (d:=tst0) (by omega))) rfl ⟨rfl,rfl,trivial⟩ trivial trivial (RGon (decide_eq_true h184_2) rfl (xb4 fo37_2.h (At.f 2 rfl rfl) rfl) rfl ⟨rfl,trivial⟩ trivial trivial (RGon (decide_eq_true h184_2) rfl (xb4 fo35_0.h (At.f 0 rfl rfl) rfl) rfl ⟨rfl,trivial⟩ trivial trivial ?_))
     refine A5 ?_
     refine x9 rfl (fun h184_3=> ?_) (fun h184_3=> ?_)
     ·
      refine A2 ?_
      refine R0 (xa7 (r:=tS [⟨2,true,(tS [⟨1,false,(tE (.bool false))⟩,⟨1,false,(tLm [])⟩])⟩,⟨2,true,(tS [⟨1,false,(tE (.bool false))⟩,⟨1,false,(tLm [])⟩])⟩]) (ts:=[]) bu33 zr33.2 Le.refl) ?_
      refine A6 ?_
      exact xa8 Plain.mk' (rs:=[.cell 6 33,.tmp 7]) rfl rfl ⟨⟨_,_,_,_,_,rfl,rfl,ti33,(fr0L (by rw [if_neg (fun h=>by have:=h.2;simp only [numK] at this;omega)];try rfl))⟩,⟨_,rfl,(Le.int (by rw [if_neg (fun h=>by have:=h.2;simp only [numK] at this;omega)]))⟩,trivial⟩
     ·
      refine A1 ?_
      exact kF (()) (by simp only [numK];omega) (hh:=((SubK.consI rfl ImpK.refl) SubK.nil))
    ·
     refine A11 ?_
     exact kF (()) (by simp only [numK];omega) (hh:=((SubK.consI rfl ImpK.refl) SubK.nil))
   ·
    refine A18 ?_
    refine A1 ?_
    exact kF (()) (by simp only [numK];omega) (hh:=((SubK.consI rfl ImpK.refl) SubK.nil))
  ·
   intro _j hnk
   refine A2 ?_
   refine R1 (xr2 (ts:=[_]) (up w.heap.size) (xp1 0 (by decide) (by decide)) fi75 (fun _ h=>h) ⟨tG_E,trivial⟩ Le.refl rfl) rfl (RE (x5 (k:=10) (n:=4) (agg:=true) zr33.1 zr33.2 rfl) trivial trivial ⟨rfl,trivial⟩ ?_)
   refine A12 ?_
   have hc:sumC l a b:=⟨hok,hnk⟩
   have hnum:=cut_num (a:=a) (b:=b) hok.1 hD hc.2
   rw [if_pos hok] at hpart
   rw [←hpart] at hnum
   refine xk1 (s:=47) rfl (fun hl0=> ?_)
   refine cL (fun (fm:(Nat)×(Rat))=>(fun (i:Nat) (q:Rat)=>i≤part.length∧sumT (part.take i)=some q∧short q) fm.1 fm.2) (fun (fm:(Nat)×(Rat))=>(fun (i:Nat) (q:Rat)=>upd (upd (upd (upd (upd (fun _=>none) 6 (some (.own (.ptr 6 0)))) 10 (some (.own (.ptr 10 0)))) 47 (some (.val (tL 8 true tTs part)))) 48 (some (.val (tI part.length)))) 49 (some (.val (tI i)))) fm.1 fm.2) (fun (fm:(Nat)×(Rat))=>(fun (i:Nat) (q:Rat)=>upd (upd (fun _=>none) 6 (some (⟨33,4,true,[.val (tFr fr0)]⟩))) 10 (some (⟨33,4,true,[.val (tG (up w.heap.size) (tFr (fr q)))]⟩))) fm.1 fm.2) [6,10] (fun (fm:(Nat)×(Rat))=>(fun (i:Nat) (q:Rat)=>part.length - i) fm.1 fm.2) ((0,((0:Int):Rat))) (by dsimp only;exact ⟨Nat.zero_le _,rfl,xn2 (Nat.le_trans (len16_64 (by decide) (by decide)) (by decide))⟩) (hh:=((SubK.consI rfl ImpK.refl) ((SubK.consI rfl ImpK.refl) SubK.nil))) ?_
   intro fm hI
   obtain ⟨i,q⟩:=fm
   replace hI:i≤part.length∧sumT (part.take i)=some q∧short q:=hI
   show wc _ _ _ _ (upd (upd (upd (upd (upd (fun _=>none) 6 (some (.own (.ptr 6 0)))) 10 (some (.own (.ptr 10 0)))) 47 (some (.val (tL 8 true tTs part)))) 48 (some (.val (tI part.length)))) 49 (some (.val (tI i)))) (upd (upd (fun _=>none) 6 (some (⟨33,4,true,[.val (tFr fr0)]⟩))) 10 (some (⟨33,4,true,[.val (tG (up w.heap.size) (tFr (fr q)))]⟩))) _
   obtain ⟨hi,hq,hs⟩:=hI
   refine A6 ?_
   refine x9 rfl (fun h188=> ?_) (fun h188=> ?_)
   ·
    refine A6 ?_
    obtain ⟨n1,n2,n3,n4,n5⟩:=hnum _ (xb9 (l:=part) (i:=i) (by omega))
    refine R2 (x6 sl22 (i) (by omega) (gD (l:=part) (n:=i) (d:=tst0) (by omega))) rfl rfl ?_
    refine A1 ?_
    refine RE (x5 (k:=12) (n:=8) (agg:=true) zr37.1 zr37.2 rfl) trivial trivial ⟨rfl,trivial⟩ ?_
    refine A7 ?_
    refine xj6 (0) ti33 rfl rfl rfl (At.t (At.g 2 rfl rfl) (At.g 1 rfl rfl)) rfl ?_
    refine A5 ?_
    refine R1 (x3 (xp1 ((part.getD i tst0).hi - (part.getD i tst0).lo) (by omega) (by omega)) fi75 rfl) rfl (R2 (xe9 (ts:=[_,_]) (r:=tT [tG (up w.heap.size) _,_]) (c_FMulTN (part.getD i tst0).v.f ((part.getD i tst0).hi - (part.getD i tst0).lo) n4 n5 (xn2 (Nat.le_trans (len16_64 (by omega) (by omega)) (by decide)))) fi107 (fun m hm=>le_T ⟨xi2 hm,Le.refl,trivial⟩) ⟨Le.refl,Le.refl,trivial⟩ rfl) rfl rfl ?_)
    refine A3 ?_
    refine RE (x5 (k:=13) (n:=4) (agg:=true) zr33.1 zr33.2 rfl) trivial trivial ⟨rfl,trivial⟩ ?_
    refine A11 ?_
    refine x9 rfl (fun h190=> ?_) (fun h190=> ?_)
    ·
     have hp:=xg8 h190
     refine A3 ?_
     refine R2 (xr2 (ts:=[_,_]) (r':=tT [_,_]) (up w.heap.size) (c_FAddR q ((part.getD i tst0).v.f.rat*(((part.getD i tst0).hi - (part.getD i tst0).lo:Int):Rat)) hs hp) fi108 (fun _ h=>h) ⟨Le.refl,Le.refl,trivial⟩ (geG_T ⟨Le.refl,tG_E',trivial⟩) rfl) rfl rfl ?_
     refine A13 ?_
     refine x9 rfl (fun h193=> ?_) (fun h193=> ?_)
     ·
      refine A2 ?_
      refine R0 (xa7 (r:=tS [⟨2,true,(tS [⟨1,false,(tE (.bool false))⟩,⟨1,false,(tLm [])⟩])⟩,⟨2,true,(tS [⟨1,false,(tE (.bool false))⟩,⟨1,false,(tLm [])⟩])⟩]) (ts:=[]) bu33 zr33.2 Le.refl) ?_
      refine A11 ?_
      exact xa8 Plain.mk' (rs:=[.cell 6 33,.tmp 7]) rfl rfl ⟨⟨_,_,_,_,_,rfl,rfl,ti33,(fr0L (by rw [if_pos hc,←hpart,xj7 (i:=i+1) (by rw [xg4 (by omega),hq,sumStep,if_neg (fun h=>xe7 h193 h.2)])];try rfl))⟩,⟨_,rfl,(Le.int (by rw [if_pos hc,←hpart,xj7 (i:=i+1) (by rw [xg4 (by omega),hq,sumStep,if_neg (fun h=>xe7 h193 h.2)]),resFE,if_neg (xe7 h193)];rfl))⟩,trivial⟩
     ·
      have h193z:=Decidable.not_not.1 h193
      refine A7 ?_
      exact kF ((i+1,q+((part.getD i tst0).v.f.rat*(((part.getD i tst0).hi - (part.getD i tst0).lo:Int):Rat)))) ⟨(by dsimp only;exact ⟨by omega,by rw [xg4 (by omega),hq,sumStep,if_pos ⟨hp,xg8 h193z⟩],xg8 h193z⟩),(by dsimp only;omega)⟩ (hh:=((SubK.consI rfl (ImpK.of (by dsimp only;rw [resF,if_pos (xg8 h193z)];rfl))) ((SubK.consI rfl ImpK.refl) SubK.nil)))
    ·
     refine A8 ?_
     refine x9 rfl (fun h193=> ?_) (fun h193=> ?_)
     ·
      refine A2 ?_
      refine R0 (xa7 (r:=tS [⟨2,true,(tS [⟨1,false,(tE (.bool false))⟩,⟨1,false,(tLm [])⟩])⟩,⟨2,true,(tS [⟨1,false,(tE (.bool false))⟩,⟨1,false,(tLm [])⟩])⟩]) (ts:=[]) bu33 zr33.2 Le.refl) ?_
      refine A11 ?_
      exact xa8 Plain.mk' (rs:=[.cell 6 33,.tmp 7]) rfl rfl ⟨⟨_,_,_,_,_,rfl,rfl,ti33,(fr0L (by rw [if_pos hc,←hpart,xj7 (i:=i+1) (by rw [xg4 (by omega),hq,sumStep,if_neg (fun h=>xe7 h193 h.1)])];try rfl))⟩,⟨_,rfl,(Le.int (by rw [if_pos hc,←hpart,xj7 (i:=i+1) (by rw [xg4 (by omega),hq,sumStep,if_neg (fun h=>xe7 h193 h.1)]),resFE,if_neg (xe7 h193)];rfl))⟩,trivial⟩
     ·
      have h193z:=Decidable.not_not.1 h193
      refine A7 ?_
      exact kF ((i+1,q)) ⟨(by dsimp only;exact absurd h193z h190),(by dsimp only;omega)⟩ (hh:=((SubK.consI rfl ImpK.refl) ((SubK.consI rfl ImpK.refl) SubK.nil)))
   ·
    refine A13 ?_
    exact xa8 Plain.mk' (rs:=[.cell 6 33,.tmp 7]) rfl rfl ⟨⟨_,_,_,_,_,rfl,rfl,ti33,(Le.of (by rw [if_pos hc,←hpart,←List.take_length (l:=part),←show i=part.length by omega,hq];rfl))⟩,⟨_,rfl,(Le.int (by rw [if_pos hc,←hpart,←List.take_length (l:=part),←show i=part.length by omega,hq];rfl))⟩,trivial⟩
theorem c_TSumOkN (l:List Tst) (a b:Int) (hl:l.length≤500000) (hD: ∀s∈l,s.v.f.dig) (h:sumC l a b):CtN Tryz.prog 73 [tL 8 true tTs l,tI a,tI b] (fun nw=>tT [tG (up nw) (tFr (sumF (sumT (cutT l a b)))),tI (sumE (sumT (cutT l a b)))]):=by
 have:=c_TSumN l a b hl hD
 rw [if_pos h,if_pos h] at this;exact this
end An.S
namespace An.S
open Go
theorem tRight_iff {l:List Tst}:tRight l=true↔(∀i,i < l.length→tOk l i=true)∧ ∀s∈l,s.v.valid=true:=by
 simp only [tRight,Bool.and_eq_true,List.all_eq_true,List.mem_range]
theorem xq9 {l:List Tst} (h:tRight l=true): ∀{j i:Nat},i < j→j < l.length→(l.getD i tst0).hi≤(l.getD j tst0).lo
 | j+1,i,hij,hj=>by
  have h1:=(xi4 h hj).2.2.2.resolve_left (by omega)
  have h1:(l.getD j tst0).hi≤(l.getD (j+1) tst0).lo:=h1.1
  rcases Nat.lt_or_ge i j with h2 | h2
  ·have h3:=xq9 h h2 (by omega)
   have h4:=(xi4 h (i:=j) (by omega)).2.1
   omega
  ·have:i=j:=by omega
   subst this;exact h1
theorem tRight_pair {l:List Tst} (h:tRight l=true):l.Pairwise fun s t=>s.hi≤t.lo:=by
 refine List.pairwise_iff_getElem.2 fun i j hi hj hij=> ?_
 have:=xq9 h hij hj
 rwa [List.getD_eq_getElem?_getD,List.getD_eq_getElem?_getD,List.getElem?_eq_getElem hi,List.getElem?_eq_getElem hj] at this
def okS (s:Sn):Prop:=0≤s.lo∧s.lo < s.hi∧s.hi≤65536
def ascS (l:List Sn):Prop:=(∀s∈l,okS s)∧l.Pairwise fun s t=>s.hi≤t.lo
theorem ascS_pos {l:List Sn} (h:ascS l):l.filter pos=l:=List.filter_eq_self.2 fun s hs=>by
 have:=h.1 s hs
 simp only [pos,decide_eq_true_eq];exact this.2.1
theorem ascS_srt {l:List Sn} (h:ascS l):srt cfSn l=l:=by
 refine srt_asc swoSn ?_
 refine List.pairwise_iff_forall_sublist.2 fun {s t} hst=> ?_
 have h1:=List.pairwise_iff_forall_sublist.1 h.2 hst
 have h2:=(h.1 s (hst.subset (List.mem_cons_self ..))).2.1
 rw [ltSn];simp;omega
theorem ascS_ok {l:List Sn} (h:ascS l):l.all Sn.ok=true:=List.all_eq_true.2 fun s hs=>by
 have:=h.1 s hs
 simp only [Sn.ok,Bool.and_eq_true,decide_eq_true_eq];simp only [okS] at this;omega
def lastS (l:List Sn):Sn:=l.getD (l.length - 1) sn0
theorem sVal_iff {l:List Sn}:sVal l=true↔ ∀i,i < l.length→sOkA l i=true:=by
 simp only [sVal,List.all_eq_true,List.mem_range]
theorem xu7 {l:List Sn} {s:Sn} {i:Nat}:(l++[s]).getD i sn0=if i < l.length then l.getD i sn0 else if i=l.length then s else sn0:=by
 simp only [List.getD_eq_getElem?_getD,List.getElem?_append]
 by_cases h:i < l.length
 ·simp [h]
 ·by_cases h2:i=l.length
  ·simp [h2]
  ·have:i - l.length≠0:=by omega
   simp only [h,h2,if_false]
   rw [List.getElem?_eq_none (by simp;omega)];rfl
theorem getD_setS {l:List Sn} {s:Sn} {i j:Nat} (hj:j < l.length):(l.set j s).getD i sn0=if i=j then s else l.getD i sn0:=by
 simp only [List.getD_eq_getElem?_getD]
 by_cases h:i=j
 ·subst h;rw [List.getElem?_set_self hj];simp
 ·rw [List.getElem?_set_ne (Ne.symm h)];simp [h]
theorem sVal_snoc {l:List Sn} {s:Sn} (h:sVal l=true) (hs:okS s) (hl:0 < l.length→(lastS l).hi < s.lo):sVal (l++[s])=true:=by
 refine sVal_iff.2 fun i hi=>xt0.2 ?_
 rw [List.length_append,List.length_singleton] at hi
 rw [xu7,xu7]
 by_cases e:i < l.length
 ·have ho:=xt0.1 (sVal_iff.1 h i e)
  rw [if_pos e,if_pos (by omega)];exact ho
 ·have e2:i=l.length:=by omega
  subst e2
  rw [if_neg (by omega),if_pos rfl]
  obtain ⟨h1,h2,h3⟩:=hs
  refine ⟨by simp [Sn.ok];omega,by omega,?_⟩
  by_cases e0:l.length=0
  ·exact .inl e0
  ·rw [if_pos (by omega)];exact .inr (hl (by omega))
theorem sVal_long {l:List Sn} {e:Int} (h:sVal l=true) (hl:0 < l.length) (h1:(lastS l).hi≤e) (h2:e≤65536):sVal (l.set (l.length - 1) ⟨(lastS l).lo,e⟩)=true:=by
 refine sVal_iff.2 fun i hi=>xt0.2 ?_
 rw [List.length_set] at hi
 have ho:=xt0.1 (sVal_iff.1 h i hi)
 rw [getD_setS (by omega),getD_setS (by omega)]
 by_cases e1:i=l.length - 1
 ·subst e1
  have ho1:(lastS l).ok=true∧(lastS l).lo≠(lastS l).hi∧(l.length - 1=0∨(l.getD (l.length - 1 - 1) sn0).hi < (lastS l).lo):=ho
  rw [if_pos rfl]
  have h3:=ho1.1
  simp only [Sn.ok,Bool.and_eq_true,decide_eq_true_eq] at h3
  refine ⟨by simp [Sn.ok];omega,by have:=ho1.2.1;dsimp only;omega,?_⟩
  by_cases e0:l.length - 1=0
  ·exact .inl e0
  ·rw [if_neg (by omega)];exact .inr (ho1.2.2.resolve_left e0)
 ·rw [if_neg e1]
  by_cases e0:i=0
  ·exact ⟨ho.1,ho.2.1,.inl e0⟩
  ·rw [if_neg (by omega)];exact ho
def dayS (l:List Sn):Int:=(l.map fun s=>s.hi - s.lo).sum
theorem dayS_snoc {l:List Sn} {s:Sn}:dayS (l++[s])=dayS l+(s.hi - s.lo):=by simp [dayS]
theorem split_last {l:List Sn} (h:0 < l.length):l=l.take (l.length - 1)++[lastS l]:=by
 have e:l.take (l.length - 1+1)=l.take (l.length - 1)++[l[l.length - 1]]:=List.take_succ_eq_append_getElem (by omega)
 rw [show l.length - 1+1=l.length by omega,List.take_length] at e
 rw [lastS,List.getD_eq_getElem?_getD,List.getElem?_eq_getElem (by omega)];exact e
theorem set_lastE {l:List Sn} {x:Sn} (h:0 < l.length):l.set (l.length - 1) x=l.take (l.length - 1)++[x]:=by
 have e:=List.set_eq_take_append_cons_drop (l:=l) (i:=l.length - 1) (a:=x)
 rw [if_pos (by omega),show l.length - 1+1=l.length by omega,List.drop_length] at e
 exact e
theorem dayS_long {l:List Sn} {e:Int} (h:0 < l.length):dayS (l.set (l.length - 1) ⟨(lastS l).lo,e⟩)=dayS l+(e - (lastS l).hi):=by
 have h1:dayS l=dayS (l.take (l.length - 1))+((lastS l).hi - (lastS l).lo):=by rw [←dayS_snoc,←split_last h]
 rw [h1,set_lastE h,dayS_snoc];dsimp only;omega
theorem mrg_asc: ∀(xs acc:List Sn),ascS xs→sVal acc=true→(0 < acc.length→ ∀s∈xs,(lastS acc).hi≤s.lo)→sVal (xs.foldl mrg1 acc)=true∧dayS (xs.foldl mrg1 acc)=dayS acc+dayS xs
 | [],acc,_,hv,_=>⟨hv,by simp [dayS]⟩
 | s::r,acc,hx,hv,hl=>by
  have hs:=hx.1 s (List.mem_cons_self ..)
  have hp:=List.pairwise_cons.1 hx.2
  have hr:ascS r:=⟨fun t ht=>hx.1 t (List.mem_cons_of_mem _ ht),hp.2⟩
  have key:sVal (mrg1 acc s)=true∧dayS (mrg1 acc s)=dayS acc+(s.hi - s.lo)∧0 < (mrg1 acc s).length∧(lastS (mrg1 acc s)).hi=s.hi:=by
   rw [mrg1]
   split
   ·rename_i hm
    have h1:(lastS acc).hi=s.lo:=by have:=hl hm.1 s (List.mem_cons_self ..);have h2:s.lo≤(lastS acc).hi:=hm.2;omega
    have hmax:max (acc.getD (acc.length - 1) sn0).hi s.hi=s.hi:=by
     have h2:(acc.getD (acc.length - 1) sn0).hi=s.lo:=h1
     have:=hs.2.1;omega
    rw [hmax]
    refine ⟨sVal_long hv hm.1 (by have:=hs.2.1;omega) hs.2.2,by rw [show (acc.getD (acc.length - 1) sn0).lo=(lastS acc).lo from rfl,dayS_long hm.1];omega,by rw [List.length_set];exact hm.1,?_⟩
    rw [lastS,List.length_set,getD_setS (by omega),if_pos rfl]
   ·rename_i hm
    refine ⟨sVal_snoc hv hs fun h0=> ?_,by rw [dayS_snoc],by simp,?_⟩
    ·have:=hl h0 s (List.mem_cons_self ..)
     have h2: ¬s.lo≤(lastS acc).hi:=fun h'=>hm ⟨h0,h'⟩
     omega
    ·rw [lastS,xu7,List.length_append,List.length_singleton,if_neg (by omega),if_pos (by omega)]
  have ih:=mrg_asc r (mrg1 acc s) hr key.1 fun _ t ht=>by rw [key.2.2.2];exact hp.1 t ht
  refine ⟨ih.1,?_⟩
  rw [List.foldl_cons,ih.2,key.2.1]
  have:dayS (s::r)=(s.hi - s.lo)+dayS r:=by simp [dayS]
  omega
def hasD (d:Int) (s:Tst):Bool:=decide (s.lo≤d) && decide (d < s.hi)
theorem hasD_iff {d:Int} {s:Tst}:hasD d s=true↔s.lo≤d∧d < s.hi:=by simp [hasD]
def valT (l:List Tst) (d:Int):Option Va:=(l.find? (hasD d)).map (·.v)
theorem xk8 {s:Tst} {r:List Tst} {d:Int}:valT (s::r) d=if s.lo≤d∧d < s.hi then some s.v else valT r d:=by
 by_cases h:s.lo≤d∧d < s.hi
 ·rw [if_pos h,valT,List.find?_cons_of_pos (hasD_iff.2 h)];rfl
 ·rw [if_neg h,valT,List.find?_cons_of_neg (fun h'=>h (hasD_iff.1 h'))];rfl
theorem valT_none {l:List Tst} {d:Int}:valT l d=none↔ ∀s∈l,¬(s.lo≤d∧d < s.hi):=by
 rw [valT,Option.map_eq_none_iff,List.find?_eq_none]
 simp only [hasD_iff]
theorem xt4 {a b:List Tst} {d:Int}:valT (a++b) d=(valT a d).or (valT b d):=by
 rw [valT,List.find?_append,valT,valT]
 cases a.find? (hasD d) <;> rfl
theorem valT_some {l:List Tst} {d:Int} {v:Va} (h:valT l d=some v): ∃s∈l,(s.lo≤d∧d < s.hi)∧s.v=v:=by
 obtain ⟨s,h1,h2⟩:=Option.map_eq_some_iff.1 h
 exact ⟨s,List.mem_of_find?_eq_some h1,hasD_iff.1 (List.find?_some h1),h2⟩
def ascT (l:List Tst):Prop:=(∀s∈l,s.lo < s.hi)∧l.Pairwise fun s t=>s.hi≤t.lo
def nbT:List Tst→Prop
 | []=>True
 | [_]=>True
 | s::t::r=> ¬(s.hi=t.lo∧s.v=t.v)∧nbT (t::r)
theorem nb_snoc {s:Tst}: ∀{l:List Tst} {x:Tst},nbT (l++[x])→ ¬(x.hi=s.lo∧x.v=s.v)→nbT (l++[x]++[s])
 | [],_,_,h=>⟨h,trivial⟩
 | [_],_,h1,h=>⟨h1.1,h,trivial⟩
 | _::z::r,_,h1,h=>⟨h1.1,nb_snoc (l:=z::r) h1.2 h⟩
theorem nb_set {x':Tst}: ∀{l:List Tst} {x:Tst},nbT (l++[x])→x'.lo=x.lo→x'.v=x.v→nbT (l++[x'])
 | [],_,_,_,_=>trivial
 | [_],_,h1,e1,e2=>⟨by rw [e1,e2];exact h1.1,trivial⟩
 | _::z::r,_,h1,e1,e2=>⟨h1.1,nb_set (l:=z::r) h1.2 e1 e2⟩
theorem asc_snoc {l:List Tst} {s:Tst} (h:ascT l) (hs:s.lo < s.hi) (hl: ∀x∈l,x.hi≤s.lo):ascT (l++[s]):=by
 refine ⟨fun x hx=> ?_,List.pairwise_append.2 ⟨h.2,List.pairwise_singleton ..,fun x hx y hy=>by rw [List.mem_singleton.1 hy];exact hl x hx⟩⟩
 rcases List.mem_append.1 hx with hx | hx
 ·exact h.1 x hx
 ·rw [List.mem_singleton.1 hx];exact hs
theorem split_lastT {l:List Tst} (h:0 < l.length):l=l.take (l.length - 1)++[l.getD (l.length - 1) tst0]:=by
 have e:l.take (l.length - 1+1)=l.take (l.length - 1)++[l[l.length - 1]]:=List.take_succ_eq_append_getElem (by omega)
 rw [show l.length - 1+1=l.length by omega,List.take_length] at e
 rw [List.getD_eq_getElem?_getD,List.getElem?_eq_getElem (by omega)];exact e
theorem set_lastT {l:List Tst} {x:Tst} (h:0 < l.length):l.set (l.length - 1) x=l.take (l.length - 1)++[x]:=by
 have e:=List.set_eq_take_append_cons_drop (l:=l) (i:=l.length - 1) (a:=x)
 rw [if_pos (by omega),show l.length - 1+1=l.length by omega,List.drop_length] at e
 exact e
theorem pst1_val {acc:List Tst} {s:Tst} (h:ascT acc) (hn:nbT acc) (hs:s.lo < s.hi) (hl: ∀x∈acc,x.hi≤s.lo):ascT (pst1 acc s)∧nbT (pst1 acc s)∧(∀x∈pst1 acc s,x.hi≤s.hi)∧ ∀d,valT (pst1 acc s) d=(valT acc d).or (if s.lo≤d∧d < s.hi then some s.v else none):=by
 have e1: ∀d,valT [s] d=if s.lo≤d∧d < s.hi then some s.v else none:=fun d=>by rw [xk8];rfl
 rw [pst1,if_neg (by omega)]
 split
 ·rename_i hm
  have ea:=split_lastT hm.1
  rw [set_lastT hm.1]
  generalize acc.getD (acc.length - 1) tst0=x at*
  generalize acc.take (acc.length - 1)=q at*
  subst ea
  have hp:=List.pairwise_append.1 h.2
  have hx:=h.1 x (List.mem_append_right _ (List.mem_singleton.2 rfl))
  have hq:ascT q:=⟨fun y hy=>h.1 y (List.mem_append_left _ hy),hp.1⟩
  have hqx: ∀y∈q,y.hi≤x.lo:=fun y hy=>hp.2.2 y hy x (List.mem_singleton.2 rfl)
  refine ⟨asc_snoc hq (by dsimp only;omega) hqx,nb_set hn rfl rfl,fun y hy=> ?_,fun d=> ?_⟩
  ·rcases List.mem_append.1 hy with hy | hy
   ·have:=hqx y hy;omega
   ·rw [List.mem_singleton.1 hy];exact Int.le_refl _
  ·rw [xt4,xt4,xk8,xk8]
   cases hv:valT q d with
   | some v=>rfl
   | none=>
    simp only [Option.none_or]
    have h1:=hm.2.1
    by_cases c1:x.lo≤d∧d < x.hi
    ·rw [if_pos (by omega),if_pos c1];rfl
    ·by_cases c2:s.lo≤d∧d < s.hi
     ·rw [if_pos (by omega),if_neg c1,if_pos c2,hm.2.2];rfl
     ·rw [if_neg (by omega),if_neg c1,if_neg c2];rfl
 ·rename_i hm
  refine ⟨asc_snoc h hs hl,?_,fun y hy=> ?_,fun d=>by rw [xt4,e1]⟩
  ·rcases Nat.eq_zero_or_pos acc.length with h0 | h0
   ·rw [List.eq_nil_of_length_eq_zero h0];trivial
   ·have ea:=split_lastT h0
    have h2: ¬((acc.getD (acc.length - 1) tst0).hi=s.lo∧(acc.getD (acc.length - 1) tst0).v=s.v):=fun h'=>hm ⟨h0,h'.1,h'.2⟩
    rw [ea] at hn ⊢
    exact nb_snoc hn h2
  ·rcases List.mem_append.1 hy with hy | hy
   ·have:=hl y hy;omega
   ·rw [List.mem_singleton.1 hy];exact Int.le_refl _
theorem pst_val: ∀(ps acc:List Tst),ascT acc→nbT acc→(ps.Pairwise fun s t=>s.lo < s.hi→s.hi≤t.lo)→(∀x∈acc,∀s∈ps,s.lo < s.hi→x.hi≤s.lo)→ascT (pst acc ps)∧nbT (pst acc ps)∧ ∀d,valT (pst acc ps) d=(valT acc d).or (valT ps d)
 | [],acc,h,hn,_,_=>⟨h,hn,fun d=>by show valT acc d=_;cases valT acc d <;> rfl⟩
 | s::r,acc,h,hn,hp,hl=>by
  have hp1:=List.pairwise_cons.1 hp
  have e:pst acc (s::r)=pst (pst1 acc s) r:=rfl
  rw [e]
  by_cases hs:s.lo < s.hi
  ·obtain ⟨k1,k2,k3,k4⟩:=pst1_val h hn hs fun x hx=>hl x hx s (List.mem_cons_self ..) hs
   have ih:=pst_val r (pst1 acc s) k1 k2 hp1.2 fun x hx t ht htl=>by
    have:=k3 x hx
    have:=hp1.1 t ht hs;omega
   refine ⟨ih.1,ih.2.1,fun d=> ?_⟩
   rw [ih.2.2,k4,xk8,Option.or_assoc]
   congr 1
   split <;> rfl
  ·have e1:pst1 acc s=acc:=by rw [pst1,if_pos (by omega)]
   rw [e1]
   have ih:=pst_val r acc h hn hp1.2 fun x hx t ht=>hl x hx t (List.mem_cons_of_mem _ ht)
   refine ⟨ih.1,ih.2.1,fun d=> ?_⟩
   rw [ih.2.2,xk8,if_neg (by omega)]
theorem cut_val {l:List Tst} {a b:Int} (h:ascT l):ascT (cutT l a b)∧nbT (cutT l a b)∧ ∀d,valT (cutT l a b) d=if a≤d∧d < b then valT l d else none:=by
 have hp:(l.map (clip a b)).Pairwise fun s t=>s.lo < s.hi→s.hi≤t.lo:=h.2.map (clip a b) fun s t hst _=>by simp only [clip];omega
 have:=pst_val (l.map (clip a b)) [] ⟨fun s hs=>(by cases hs),.nil⟩ trivial hp fun x hx=>by cases hx
 refine ⟨this.1,this.2.1,fun d=> ?_⟩
 rw [cutT,this.2.2]
 show valT (l.map (clip a b)) d=_
 clear this hp h
 induction l with
 | nil=>simp [valT]
 | cons s r ih=>
  rw [List.map_cons,xk8,xk8,ih]
  show (if max s.lo a≤d∧d < min s.hi b then some s.v else if a≤d∧d < b then valT r d else none)=if a≤d∧d < b then (if s.lo≤d∧d < s.hi then some s.v else valT r d) else none
  by_cases c1:a≤d∧d < b
  ·rw [if_pos c1,if_pos c1]
   by_cases c2:s.lo≤d∧d < s.hi
   ·rw [if_pos c2,if_pos ⟨by omega,by omega⟩]
   ·rw [if_neg c2,if_neg (fun h=>c2 ⟨by omega,by omega⟩)]
  ·rw [if_neg c1,if_neg c1,if_neg (fun h=>c1 ⟨by omega,by omega⟩)]
theorem nb_of: ∀{l:List Tst},(∀i,i+1 < l.length→ ¬((l.getD i tst0).hi=(l.getD (i+1) tst0).lo∧(l.getD i tst0).v=(l.getD (i+1) tst0).v))→nbT l
 | [],_=>trivial
 | [_],_=>trivial
 | s::t::r,h=>⟨h 0 (by simp),nb_of (l:=t::r) fun i hi=>h (i+1) (by simpa using hi)⟩
theorem nb_at: ∀{l:List Tst} {i:Nat},nbT l→i+1 < l.length→ ¬((l.getD i tst0).hi=(l.getD (i+1) tst0).lo∧(l.getD i tst0).v=(l.getD (i+1) tst0).v)
 | [],_,_,hi=>by simp at hi
 | [_],_,_,hi=>by simp at hi
 | s::t::r,0,h,_=>h.1
 | s::t::r,i+1,h,hi=>nb_at (l:=t::r) h.2 (by simpa using hi)
theorem xp3 {l:List Tst} (h:tRight l=true):ascT l:=⟨fun s hs=>by
 obtain ⟨i,hi,rfl⟩:=xp7 hs
 exact (xi4 h hi).2.1,tRight_pair h⟩
theorem tRight_nb {l:List Tst} (h:tRight l=true):nbT l:=nb_of fun i hi=>by
 have:=(xi4 h hi).2.2.2.resolve_left (by omega)
 exact this.2.2
theorem asc_lt {l:List Tst} (h:ascT l) {i j:Nat} (hij:i < j) (hj:j < l.length):(l.getD i tst0).hi≤(l.getD j tst0).lo:=by
 have:=List.pairwise_iff_getElem.1 h.2 i j (by omega) hj hij
 rwa [List.getD_eq_getElem?_getD,List.getD_eq_getElem?_getD,List.getElem?_eq_getElem (show i < l.length by omega),List.getElem?_eq_getElem hj]
theorem right_of {l:List Tst} {K:Nat} (h:ascT l) (hn:nbT l) (hv: ∀s∈l,0≤s.lo∧s.hi≤65536∧s.v.valid=true∧s.v.kind=K):tRight l=true:=by
 refine tRight_iff.2 ⟨fun i hi=>xt2.2 ?_,fun s hs=>(hv s hs).2.2.1⟩
 have h1:=hv _ (xb9 (l:=l) hi)
 refine ⟨h1.1,h.1 _ (xb9 hi),h1.2.1,?_⟩
 by_cases h0:i=0
 ·exact .inl h0
 ·have h2:=hv _ (xb9 (l:=l) (i:=i - 1) (by omega))
  have h3:=nb_at hn (i:=i - 1) (by omega)
  rw [show i - 1+1=i by omega] at h3
  exact .inr ⟨asc_lt h (by omega) hi,by rw [h2.2.2.2,h1.2.2.2],h3⟩
end An.S
namespace An
open Go
def tO {α:Type} (n:Nat) (agg:Bool) (f:α→Ty):Option α→Ty
 | none=>tE (.pointer none)
 | some x=>tP n agg (f x)
instance {α:Type} {n:Nat} {agg:Bool} {f:α→Ty} {o:Option α}:Shape (tO n agg f o) 1 false:=⟨fun h=>by
 cases o with
 | none=>have h:_=_:=h;rw [h];exact xf1 rfl
 | some x=>obtain ⟨_,_,_,h,_⟩:=h;rw [h];exact xf1 rfl⟩
section
variable {P:Program} {c:Base} {d ty:Nat} {pos:String} {af:Array Edge} {gd:Option (Nat×Bool)} {α:Type} {n:Nat} {agg:Bool} {f:α→Ty}
end
end An
namespace An
open Go Go.Proofs Go.Shelf Go.Sort
end An
namespace An.S
open Go
def dfB (a b:List Tst) (d:Int):Bool:=decide (valT a d≠valT b d)
end An.S
namespace An
open Go
section
variable {P:Program} {c:Base}
end
section
variable {P:Program} {c:Base} {Q:Exit→Act→World→Prop} {g:Slots} {h:Keys} {al:Names}
end
end An
namespace An.S
open Go Go.Proofs An
end An.S
namespace An.S
open Go
theorem sum_nxT {f:Tst→Int} {l:List Tst} {i:Nat} (hi:i < l.length):((l.take (i+1)).map f).sum=((l.take i).map f).sum+f (l.getD i tst0):=by
 rw [List.take_succ_eq_append_getElem hi,List.map_append,List.sum_append,List.getD_eq_getElem?_getD,List.getElem?_eq_getElem hi];simp
def dyG (a b:Int) (s:Tst):Int:=min s.hi b - max s.lo a
def wt (D:Int) (v:Va):Int:=(v.f.rat*(D:Rat)).num
theorem int_div (n:Int):(n:Rat)=Rat.divInt n 1:=by
 have:=Rat.num_divInt_den (n:Rat)
 rw [Rat.num_intCast,Rat.den_intCast] at this;exact this.symm
theorem wt_is {D k:Int} (hD:0 < D) {v:Va} (h:v.f.rat=Rat.divInt k D):wt D v=k:=by
 have e:Rat.divInt k D*(D:Rat)=(k:Rat):=by
  rw [int_div D,int_div k,Rat.divInt_mul_divInt]
  exact (Rat.divInt_eq_divInt_iff (by omega) (by decide)).2 (by rw [Int.mul_one,Int.mul_one])
 rw [wt,h,e,Rat.num_intCast]
theorem mulG (D:Int) (a n:Int):Rat.divInt a D*(n:Rat)=Rat.divInt (a*n) D:=by
 rw [int_div n,Rat.divInt_mul_divInt,Int.mul_one]
theorem addG {D:Int} (hD:0 < D) (a b:Int):Rat.divInt a D+Rat.divInt b D=Rat.divInt (a+b) D:=by
 rw [Rat.divInt_add_divInt a b (by omega) (by omega)]
 exact (Rat.divInt_eq_divInt_iff (Int.ne_of_gt (Int.mul_pos hD hD)) (by omega)).2 (by rw [←Int.add_mul,Int.mul_assoc])
theorem xt3 {n d:Int} (hd:0 < d) (h1: -9223372036854775808≤n) (h2:n≤9223372036854775807) (h3:d≤9223372036854775807):short (Rat.divInt n d):=by
 have l16: ∀{n:Int}, -9223372036854775808≤n→n≤9223372036854775807→len16 n≤256:=fun h1 h2=>Nat.le_trans (len16_64 h1 h2) (by decide)
 have e:=xt7 (n:=n) hd
 have e1:(wh (Rat.divInt n d).num).l.length=(wh (n / (Int.gcd n d:Int))).l.length:=congrArg (fun f:Fr=>f.n.l.length) e
 have e2:(wh ((Rat.divInt n d).den:Int)).l.length=(wh (d / (Int.gcd n d:Int))).l.length:=congrArg (fun f:Fr=>f.d.l.length) e
 refine ⟨?_,?_⟩
 ·show (wh (Rat.divInt n d).num).l.length≤256
  rw [e1];exact len16_div (l16 h1 h2)
 ·show (wh ((Rat.divInt n d).den:Int)).l.length≤256
  rw [e2];exact len16_div (l16 (by omega) h3)
def wsG (w:Va→Int) (xs:List Tst):Int:=(xs.map fun s=>w s.v*(s.hi - s.lo)).sum
theorem wsG_snoc {w:Va→Int} {xs:List Tst} {s:Tst}:wsG w (xs++[s])=wsG w xs+w s.v*(s.hi - s.lo):=by simp [wsG]
theorem splitG {l:List Tst} (h:0 < l.length):l=l.take (l.length - 1)++[l.getD (l.length - 1) tst0]:=by
 have e:l.take (l.length - 1+1)=l.take (l.length - 1)++[l[l.length - 1]]:=List.take_succ_eq_append_getElem (by omega)
 rw [show l.length - 1+1=l.length by omega,List.take_length] at e
 rw [List.getD_eq_getElem?_getD,List.getElem?_eq_getElem (by omega)];exact e
theorem setG {l:List Tst} {x:Tst} (h:0 < l.length):l.set (l.length - 1) x=l.take (l.length - 1)++[x]:=by
 have e:=List.set_eq_take_append_cons_drop (l:=l) (i:=l.length - 1) (a:=x)
 rw [if_pos (by omega),show l.length - 1+1=l.length by omega,List.drop_length] at e
 exact e
theorem wsG_pst1 {w:Va→Int} {acc:List Tst} {s:Tst}:wsG w (pst1 acc s)=wsG w acc+if s.hi≤s.lo then 0 else w s.v*(s.hi - s.lo):=by
 rw [pst1]
 split
 ·omega
 ·split
  ·rename_i hm
   have h1:wsG w acc=wsG w (acc.take (acc.length - 1))+w (acc.getD (acc.length - 1) tst0).v*((acc.getD (acc.length - 1) tst0).hi - (acc.getD (acc.length - 1) tst0).lo):=by rw [←wsG_snoc,←splitG hm.1]
   rw [setG hm.1,wsG_snoc,h1,←hm.2.2,hm.2.1]
   simp only [Int.mul_sub];omega
  ·rw [wsG_snoc]
theorem wsG_pst {w:Va→Int}: ∀(ps acc:List Tst),wsG w (pst acc ps)=wsG w acc+(ps.map fun s=>if s.hi≤s.lo then 0 else w s.v*(s.hi - s.lo)).sum
 | [],acc=>by simp [pst]
 | s::r,acc=>by
  have ih:=wsG_pst (w:=w) r (pst1 acc s)
  rw [wsG_pst1] at ih
  simp only [pst,List.foldl_cons,List.map_cons,List.sum_cons] at*
  omega
def gS1 (w:Va→Int) (a b:Int) (s:Tst):Int:=if dyG a b s≤0 then 0 else w s.v*dyG a b s
def gS (w:Va→Int) (l:List Tst) (a b:Int):Int:=(l.map (gS1 w a b)).sum
theorem wsG_cut {w:Va→Int} {l:List Tst} {a b:Int}:wsG w (cutT l a b)=gS w l a b:=by
 rw [cutT,wsG_pst]
 simp only [wsG,List.map_nil,List.sum_nil,Int.zero_add,List.map_map,gS]
 congr 1
 refine List.map_congr_left fun s _=> ?_
 have e1:(clip a b s).hi=min s.hi b:=rfl
 have e2:(clip a b s).lo=max s.lo a:=rfl
 show (if (clip a b s).hi≤(clip a b s).lo then (0:Int) else w s.v*((clip a b s).hi - (clip a b s).lo))=gS1 w a b s
 by_cases h:(clip a b s).hi≤(clip a b s).lo
 ·rw [if_pos h,gS1,if_pos (by simp only [dyG];omega)]
 ·rw [if_neg h,gS1,if_neg (by simp only [dyG];omega)];rfl
theorem gS_zero {w:Va→Int} {l:List Tst} {a b:Int} (h:b≤a):gS w l a b=0:=by
 rw [gS]
 induction l with
 | nil=>rfl
 | cons s r ih=>rw [List.map_cons,List.sum_cons,ih,gS1,if_pos (by simp only [dyG];omega)];rfl
theorem gS_add {w:Va→Int} {l:List Tst} {a c b:Int} (h: ∀s∈l,s.lo < s.hi) (h1:a≤c) (h2:c≤b):gS w l a c+gS w l c b=gS w l a b:=by
 induction l with
 | nil=>rfl
 | cons s r ih=>
  have ih:=ih fun x hx=>h x (List.mem_cons_of_mem _ hx)
  have hs:=h s (List.mem_cons_self ..)
  have e: ∀x y,gS w (s::r) x y=gS1 w x y s+gS w r x y:=fun _ _=>rfl
  rw [e,e,e,←ih]
  have k:gS1 w a c s+gS1 w c b s=gS1 w a b s:=by
   simp only [gS1]
   generalize w s.v=q
   by_cases d1:dyG a c s≤0
   ·by_cases d2:dyG c b s≤0
    ·rw [if_pos d1,if_pos d2,if_pos (by simp only [dyG] at*;omega)];rfl
    ·rw [if_pos d1,if_neg d2,if_neg (by simp only [dyG] at*;omega),show dyG a b s=dyG c b s by simp only [dyG] at*;omega];omega
   ·by_cases d2:dyG c b s≤0
    ·rw [if_neg d1,if_pos d2,if_neg (by simp only [dyG] at*;omega),show dyG a b s=dyG a c s by simp only [dyG] at*;omega];omega
    ·rw [if_neg d1,if_neg d2,if_neg (by simp only [dyG] at*;omega),show dyG a b s=dyG a c s+dyG c b s by simp only [dyG] at*;omega,Int.mul_add]
  omega
def dsG (xs:List Tst):Int:=(xs.map fun s=>s.hi - s.lo).sum
theorem dsG_le: ∀{xs:List Tst} {c e:Int},ascT xs→(∀s∈xs,c≤s.lo∧s.hi≤e)→c≤e→0≤dsG xs∧dsG xs≤e - c
 | [],c,e,_,_,h=>by simp [dsG];omega
 | s::r,c,e,ha,hb,h=>by
  have hs:=ha.1 s (List.mem_cons_self ..)
  have hsb:=hb s (List.mem_cons_self ..)
  have hp:=List.pairwise_cons.1 ha.2
  have ih:=dsG_le (xs:=r) (c:=s.hi) (e:=e) ⟨fun x hx=>ha.1 x (List.mem_cons_of_mem _ hx),hp.2⟩ (fun x hx=>⟨hp.1 x hx,(hb x (List.mem_cons_of_mem _ hx)).2⟩) hsb.2
  have e1:dsG (s::r)=(s.hi - s.lo)+dsG r:=rfl
  omega
theorem wsG_bd {w:Va→Int} {B:Int}: ∀{xs:List Tst},(∀s∈xs,s.lo < s.hi∧ -B≤w s.v∧w s.v≤B)→ -(B*dsG xs)≤wsG w xs∧wsG w xs≤B*dsG xs
 | [],_=>by simp [dsG,wsG]
 | s::r,h=>by
  obtain ⟨h1,h2,h3⟩:=h s (List.mem_cons_self ..)
  have ih:=wsG_bd (w:=w) (B:=B) (xs:=r) fun x hx=>h x (List.mem_cons_of_mem _ hx)
  have e1:dsG (s::r)=(s.hi - s.lo)+dsG r:=rfl
  have e2:wsG w (s::r)=w s.v*(s.hi - s.lo)+wsG w r:=rfl
  rw [e1,e2,Int.mul_add]
  have m1:=Int.mul_le_mul_of_nonneg_right h2 (show 0≤s.hi - s.lo by omega)
  have m2:=Int.mul_le_mul_of_nonneg_right h3 (show 0≤s.hi - s.lo by omega)
  rw [Int.neg_mul] at m1
  omega
def wtOk (D B:Int) (l:List Tst):Prop:= ∀s∈l,s.v.f.rat=Rat.divInt (wt D s.v) D∧ -B≤wt D s.v∧wt D s.v≤B
theorem sum_G {D B:Int} {l:List Tst} (hD:0 < D) (hDb:D≤9223372036854775807) (hB0:0≤B) (hB:B≤140737488355327) (ha:ascT l) (hb: ∀s∈l,0≤s.lo∧s.hi≤65536) (hw:wtOk D B l): ∀i,i≤l.length→sumT (l.take i)=some (Rat.divInt (wsG (wt D) (l.take i)) D)
 | 0,_=>by
  rw [List.take_zero]
  show some ((0:Int):Rat)=some (Rat.divInt 0 D)
  rw [Rat.zero_divInt];rfl
 | i+1,hi=>by
  have ih:=sum_G hD hDb hB0 hB ha hb hw i (by omega)
  have hm:=xb9 (l:=l) (i:=i) (by omega)
  have h1:=ha.1 _ hm
  have h2:=hb _ hm
  obtain ⟨w1,w2,w3⟩:=hw _ hm
  have sub: ∀s∈l.take (i+1),s∈l:=fun s hs=>List.mem_of_mem_take hs
  have hd:=dsG_le (xs:=l.take (i+1)) (c:=0) (e:=65536) ⟨fun s hs=>ha.1 s (sub s hs),ha.2.sublist (List.take_sublist ..)⟩ (fun s hs=>hb s (sub s hs)) (by decide)
  have hbd:=wsG_bd (w:=wt D) (B:=B) (xs:=l.take (i+1)) fun s hs=>⟨ha.1 s (sub s hs),(hw s (sub s hs)).2⟩
  have e:wsG (wt D) (l.take (i+1))=wsG (wt D) (l.take i)+wt D (l.getD i tst0).v*((l.getD i tst0).hi - (l.getD i tst0).lo):=sum_nxT (by omega)
  have big:B*dsG (l.take (i+1))≤9223372036854775807:=by
   have h3:=Int.mul_le_mul hB hd.2 hd.1 (by decide)
   omega
  have m1:=Int.mul_le_mul_of_nonneg_right w2 (show 0≤(l.getD i tst0).hi - (l.getD i tst0).lo by omega)
  have m2:=Int.mul_le_mul_of_nonneg_right w3 (show 0≤(l.getD i tst0).hi - (l.getD i tst0).lo by omega)
  have m3:=Int.mul_le_mul hB (show (l.getD i tst0).hi - (l.getD i tst0).lo≤65536 by omega) (by omega) (by decide)
  rw [Int.neg_mul] at m1
  rw [xg4 (by omega),ih,sumStep,w1,mulG,addG hD,←e,if_pos ⟨xt3 hD (by omega) (by omega) hDb,xt3 hD (by omega) (by omega) hDb⟩]
theorem cut_pieces {l:List Tst} {a b:Int} {P:Va→Prop} (h: ∀s∈l,(0≤s.lo∧s.hi≤65536)∧P s.v): ∀s∈cutT l a b,(0≤s.lo∧s.hi≤65536)∧P s.v:=by
 refine pst_all (P:=fun s=>(0≤s.lo∧s.hi≤65536)∧P s.v) (fun x s hx hs e=>⟨⟨hx.1.1,hs.1.2⟩,hx.2⟩) _ _ (fun s hs=>by cases hs) fun s hs hlt=> ?_
 obtain ⟨x,hx,rfl⟩:=List.mem_map.1 hs
 have h1:=h x hx
 refine ⟨?_,h1.2⟩
 simp only [clip] at*
 omega
theorem sum_cut {D B:Int} {l:List Tst} {a b:Int} (hD:0 < D) (hDb:D≤9223372036854775807) (hB0:0≤B) (hB:B≤140737488355327) (hr:ascT l) (hb: ∀s∈l,0≤s.lo∧s.hi≤65536) (hw:wtOk D B l):sumT (cutT l a b)=some (Rat.divInt (gS (wt D) l a b) D):=by
 have hp:=cut_pieces (a:=a) (b:=b) (P:=fun v=>v.f.rat=Rat.divInt (wt D v) D∧ -B≤wt D v∧wt D v≤B) fun s hs=>⟨hb s hs,hw s hs⟩
 have:=sum_G (l:=cutT l a b) hD hDb hB0 hB (cut_val hr).1 (fun s hs=>(hp s hs).1) (fun s hs=>(hp s hs).2) _ (Nat.le_refl _)
 rwa [List.take_length,wsG_cut] at this
theorem gS_bd {D B:Int} {l:List Tst} {a b:Int} (hB0:0≤B) (hr:ascT l) (_hb: ∀s∈l,0≤s.lo∧s.hi≤65536) (hw:wtOk D B l) (hab:a≤b): -(B*(b - a))≤gS (wt D) l a b∧gS (wt D) l a b≤B*(b - a):=by
 have hp: ∀s∈cutT l a b,(a≤s.lo∧s.hi≤b)∧(-B≤wt D s.v∧wt D s.v≤B):=by
  refine pst_all (P:=fun s=>(a≤s.lo∧s.hi≤b)∧(-B≤wt D s.v∧wt D s.v≤B)) (fun x s hx hs e=>⟨⟨hx.1.1,hs.1.2⟩,hx.2⟩) _ _ (fun s hs=>by cases hs) fun s hs hlt=> ?_
  obtain ⟨x,hx,rfl⟩:=List.mem_map.1 hs
  exact ⟨by simp only [clip];omega,(hw x hx).2⟩
 have h1:=dsG_le (xs:=cutT l a b) (c:=a) (e:=b) (cut_val hr).1 (fun s hs=>(hp s hs).1) hab
 have h2:=wsG_bd (w:=wt D) (B:=B) (xs:=cutT l a b) fun s hs=>⟨(cut_val hr).1.1 s hs,(hp s hs).2⟩
 have h3:=Int.mul_le_mul_of_nonneg_left h1.2 hB0
 rw [wsG_cut] at h2
 omega
theorem dig_frG (q:Rat):(fr q).dig:=⟨xb6 x8 _,xb6 x8 _⟩
def gOk (K:Nat) (D B:Int) (v:Va):Prop:=(v.valid=true∧v.kind=K∧v.i=0∧v.f=fr v.f.rat∧short v.f.rat)∧v.f.rat=Rat.divInt (wt D v) D∧ -B≤wt D v∧wt D v≤B
theorem gOk.dig {K:Nat} {D B:Int} {v:Va} (h:gOk K D B v):v.f.dig:=by rw [h.1.2.2.2.1];exact dig_frG _
theorem gOk.mk {K:Nat} {D B k:Int} (hK:K=2∨K=3) (hD:0 < D) (hDb:D≤9223372036854775807) (h1: -B≤k) (h2:k≤B) (hB:B≤9223372036854775807):gOk K D B ⟨K,fr (Rat.divInt k D),0⟩:=by
 have hs:short (Rat.divInt k D):=xt3 hD (by omega) (by omega) hDb
 have hw:wt D ⟨K,fr (Rat.divInt k D),0⟩=k:=wt_is hD (rat_fr _)
 refine ⟨⟨?_,rfl,rfl,by rw [rat_fr],by rw [rat_fr];exact hs⟩,?_,?_,?_⟩
 ·rw [Va.valid,if_pos hK]
  simp only [Bool.and_eq_true,decide_eq_true_eq]
  exact ⟨trivial,valid_fr hs⟩
 ·rw [hw];exact rat_fr _
 ·rw [hw];exact h1
 ·rw [hw];exact h2
def isG (K:Nat) (D B:Int) (l:List Tst):Prop:=tRight l=true∧ ∀s∈l,gOk K D B s.v
section
variable {K:Nat} {D B:Int} {l a b:List Tst}
theorem isG.dig (h:isG K D B l): ∀s∈l,s.v.f.dig:=fun s hs=>(h.2 s hs).dig
theorem isG.bd (h:isG K D B l): ∀s∈l,0≤s.lo∧s.lo < s.hi∧s.hi≤65536:=fun s hs=>by
 obtain ⟨i,hi,rfl⟩:=xp7 hs
 have:=xi4 h.1 hi
 exact ⟨this.1,this.2.1,this.2.2.1⟩
theorem isG.asc (h:isG K D B l):ascT l:=xp3 h.1
theorem isG.nb (h:isG K D B l):nbT l:=tRight_nb h.1
theorem isG.wt (h:isG K D B l):wtOk D B l:=fun s hs=>(h.2 s hs).2
theorem isG.out (h:isG K D B l): ∀s∈l,0≤s.lo∧s.hi≤65536:=fun s hs=>by have:=h.bd s hs;omega
theorem isG_of (h:ascT l) (hn:nbT l) (hv: ∀s∈l,(0≤s.lo∧s.hi≤65536)∧gOk K D B s.v):isG K D B l:=
 ⟨right_of (K:=K) h hn fun s hs=>⟨(hv s hs).1.1,(hv s hs).1.2,(hv s hs).2.1.1,(hv s hs).2.1.2.1⟩,fun s hs=>(hv s hs).2⟩
theorem isG.sum {x y:Int} (hK:K=2∨K=3) (hD:0 < D) (hDb:D≤9223372036854775807) (hB0:0≤B) (hB:B≤140737488355327) (h:isG K D B l) (hxy:Sn.ok ⟨x,y⟩=true):sumC l x y∧sumT (cutT l x y)=some (Rat.divInt (gS (An.S.wt D) l x y) D):=by
 refine ⟨⟨⟨h.1,hxy⟩,?_⟩,sum_cut hD hDb hB0 hB h.asc h.out h.wt⟩
 rcases Nat.eq_zero_or_pos l.length with h0 | h0
 ·exact .inl h0
 ·have:=(h.2 _ (xb9 (l:=l) h0)).1.2.1
  rcases hK with rfl | rfl
  ·exact .inr (.inl this)
  ·exact .inr (.inr this)
end
def bd (l:List Sn) (i:Nat):Int:=if i%2=0 then (l.getD (i / 2) sn0).lo else (l.getD (i / 2) sn0).hi
theorem bd_succ {l:List Sn} {i:Nat} (h:sVal l=true) (hi:i+1 < 2*l.length):bd l i < bd l (i+1):=by
 rcases Nat.mod_two_eq_zero_or_one i with h0 | h0
 ·have:=sVal_at h (i:=i / 2) (by omega)
  rw [bd,bd,if_pos h0,if_neg (by omega),show (i+1) / 2=i / 2 by omega];exact this.2.1
 ·have:=(xt0.1 (sVal_iff.1 h ((i+1) / 2) (by omega))).2.2.resolve_left (by omega)
  rw [bd,bd,if_neg (by omega),if_pos (by omega)]
  rw [show (i+1) / 2 - 1=i / 2 by omega] at this;exact this
theorem bd_lt {l:List Sn} (h:sVal l=true): ∀{j i:Nat},i < j→j < 2*l.length→bd l i < bd l j
 | j+1,i,hij,hj=>by
  have h1:=bd_succ h hj
  rcases Nat.lt_or_ge i j with h2 | h2
  ·have:=bd_lt h h2 (by omega);omega
  ·have:i=j:=by omega
   subst this;exact h1
def mem (l:List Sn) (d:Int):Bool:=l.any fun s=>decide (s.lo≤d) && decide (d < s.hi)
theorem mem_iff {l:List Sn} {d:Int}:mem l d=true↔ ∃s∈l,s.lo≤d∧d < s.hi:=by simp [mem]
theorem mem_snoc {l:List Sn} {s:Sn} {d:Int}:mem (l++[s]) d=(mem l d || (decide (s.lo≤d) && decide (d < s.hi))):=by simp [mem]
theorem exists_getS {l:List Sn} {s:Sn} (hs:s∈l): ∃i,i < l.length∧s=l.getD i sn0:=by
 obtain ⟨i,hi,e⟩:=List.getElem_of_mem hs
 exact ⟨i,hi,by rw [List.getD_eq_getElem?_getD,List.getElem?_eq_getElem hi];exact e.symm⟩
theorem mem_getS {l:List Sn} {i:Nat} (hi:i < l.length):l.getD i sn0∈l:=by
 rw [List.getD_eq_getElem?_getD,List.getElem?_eq_getElem hi];exact List.getElem_mem hi
theorem bd_even (l:List Sn) (p:Nat):bd l (2*p)=(l.getD p sn0).lo:=by rw [bd,if_pos (by omega),show 2*p / 2=p by omega]
theorem bd_odd (l:List Sn) (p:Nat):bd l (2*p+1)=(l.getD p sn0).hi:=by rw [bd,if_neg (by omega),show (2*p+1) / 2=p by omega]
theorem sVal_lt {l:List Sn} (h:sVal l=true) {i j:Nat} (hij:i < j) (hj:j < l.length):(l.getD i sn0).hi < (l.getD j sn0).lo:=by
 have:=bd_lt h (show 2*i+1 < 2*j by omega) (by omega)
 rwa [bd_odd,bd_even] at this
theorem mem_cons {s:Sn} {r:List Sn} {d:Int}:mem (s::r) d=((decide (s.lo≤d) && decide (d < s.hi)) || mem r d):=by simp [mem]
theorem mem_mrg {d:Int}: ∀(xs acc:List Sn),ascS xs→sVal acc=true→(0 < acc.length→ ∀s∈xs,(lastS acc).hi≤s.lo)→mem (xs.foldl mrg1 acc) d=(mem acc d || mem xs d)
 | [],acc,_,_,_=>by simp [mem]
 | s::r,acc,hx,hv,hl=>by
  have hs:=hx.1 s (List.mem_cons_self ..)
  have hp:=List.pairwise_cons.1 hx.2
  have hr:ascS r:=⟨fun t ht=>hx.1 t (List.mem_cons_of_mem _ ht),hp.2⟩
  have h1:=mrg_asc [s] acc ⟨fun t ht=>hx.1 t (by rw [List.mem_singleton.1 ht];exact List.mem_cons_self ..),List.pairwise_singleton ..⟩ hv fun h0 t ht=>hl h0 t (by rw [List.mem_singleton.1 ht];exact List.mem_cons_self ..)
  have key:mem (mrg1 acc s) d=(mem acc d || (decide (s.lo≤d) && decide (d < s.hi)))∧(lastS (mrg1 acc s)).hi=s.hi:=by
   rw [mrg1]
   split
   ·rename_i hm
    have h2:(lastS acc).hi=s.lo:=by have:=hl hm.1 s (List.mem_cons_self ..);have h2:s.lo≤(lastS acc).hi:=hm.2;omega
    have hmax:max (acc.getD (acc.length - 1) sn0).hi s.hi=s.hi:=by
     have h3:(acc.getD (acc.length - 1) sn0).hi=s.lo:=h2
     have:=hs.2.1;omega
    rw [hmax]
    refine ⟨?_,by rw [lastS,List.length_set,getD_setS (by omega),if_pos rfl]⟩
    rw [set_lastE hm.1,mem_snoc]
    have e3:mem acc d=(mem (acc.take (acc.length - 1)) d || (decide ((lastS acc).lo≤d) && decide (d < (lastS acc).hi))):=by rw [←mem_snoc,←split_last hm.1]
    rw [e3,h2]
    have h4:=sVal_at hv (i:=acc.length - 1) (by omega)
    have h5:(lastS acc).lo < s.lo:=by rw [←h2];exact h4.2.1
    have h6:(acc.getD (acc.length - 1) sn0).lo=(lastS acc).lo:=rfl
    have:=hs.2.1
    dsimp only
    rw [h6,Bool.or_assoc]
    congr 1
    rw [Bool.eq_iff_iff];simp;omega
   ·rename_i hm
    exact ⟨mem_snoc,by rw [lastS,xu7,List.length_append,List.length_singleton,if_neg (by omega),if_pos (by omega)]⟩
  have ih:=mem_mrg (d:=d) r (mrg1 acc s) hr h1.1 fun _ t ht=>by rw [key.2];exact hp.1 t ht
  rw [List.foldl_cons,ih,key.1,mem_cons,Bool.or_assoc]
def spT (s:Tst):Sn:=⟨s.lo,s.hi⟩
def cvS (l:List Tst):List Sn:=l.map spT
def cvL (l:List Tst) (i:Nat):List Sn:=(l.take i).map spT++List.replicate (l.length - i) sn0
theorem cvL_len {l:List Tst} {i:Nat} (hi:i≤l.length):(cvL l i).length=l.length:=by simp [cvL];omega
theorem cvL_set {l:List Tst} {i:Nat} (hi:i < l.length):(cvL l i).set i (spT (l.getD i tst0))=cvL l (i+1):=by
 have h1:((l.take i).map spT).length=i:=by simp;omega
 rw [cvL,List.set_append_right _ _ (by omega),h1,Nat.sub_self,show l.length - i=(l.length - (i+1))+1 by omega,List.replicate_succ,List.set_cons_zero,cvL,List.take_succ_eq_append_getElem hi,List.map_append,List.append_assoc,List.getD_eq_getElem?_getD,List.getElem?_eq_getElem hi]
 rfl
theorem cvL_all (l:List Tst):cvL l l.length=cvS l:=by simp [cvL,cvS]
theorem cvS_asc {l:List Tst} (h:tRight l=true):ascS (cvS l):=by
 refine ⟨fun s hs=> ?_,(tRight_pair h).map spT fun s t hst=>hst⟩
 obtain ⟨x,hx,rfl⟩:=List.mem_map.1 hs
 obtain ⟨i,hi,rfl⟩:=xp7 hx
 have:=xi4 h hi
 exact ⟨this.1,this.2.1,this.2.2.1⟩
theorem mkS_asc {l:List Sn} (h:ascS l):mkS l=mrg l:=by rw [mkS,ascS_pos h,ascS_srt h]
def cvT (l:List Tst):List Sn:=mkS (cvS l)
theorem mem_cvS {l:List Tst} {d:Int}:mem (cvS l) d=(valT l d).isSome:=by
 rw [Bool.eq_iff_iff,mem_iff]
 constructor
 ·rintro ⟨s,hs,h⟩
  obtain ⟨x,hx,rfl⟩:=List.mem_map.1 hs
  cases hv:valT l d with
  | some v=>rfl
  | none=>exact absurd h (valT_none.1 hv x hx)
 ·intro h
  obtain ⟨v,hv⟩:=Option.isSome_iff_exists.1 h
  obtain ⟨s,hs,h2,_⟩:=valT_some hv
  exact ⟨spT s,List.mem_map_of_mem hs,h2⟩
theorem mk_set {l:List Sn} (h:ascS l):sVal (mkS l)=true∧ ∀d,mem (mkS l) d=mem l d:=by
 rw [mkS_asc h]
 have h1:=mrg_asc l [] h rfl fun h'=>by cases h'
 refine ⟨h1.1,fun d=> ?_⟩
 have:=mem_mrg (d:=d) l [] h rfl fun h'=>by cases h'
 rw [mrg,this];rfl
theorem cvT_set {l:List Tst} (h:tRight l=true):sVal (cvT l)=true∧ ∀d,mem (cvT l) d=(valT l d).isSome:=by
 have:=mk_set (cvS_asc h)
 exact ⟨this.1,fun d=>by rw [cvT,this.2,mem_cvS]⟩
theorem cvT_len {l:List Tst}:(cvT l).length≤l.length:=by
 rw [cvT,mkS,mrg]
 have h1:=mrg_len (srt cfSn ((cvS l).filter pos)) []
 have h2:=(srt_spec swoSn ((cvS l).filter pos)).1
 have h3:=List.length_filter_le pos (cvS l)
 have h4:(cvS l).length=l.length:=by simp [cvS]
 simp only [List.length_nil] at h1
 omega
def jnC (a b:List Tst):Prop:=(tRight a=true∧tRight b=true)∧ ¬(0 < a.length∧0 < b.length∧(a.getD 0 tst0).v.kind≠(b.getD 0 tst0).v.kind)
instance (a b:List Tst):Decidable (jnC a b):=inferInstanceAs (Decidable (_∧_))
end An.S
namespace An
open Go
section
variable {P:Program} {c:Base} {d ty:Nat} {pos:String} {af:Array Edge} {gd:Option (Nat×Bool)}
end
end An
namespace An.S
open Go Go.Proofs An
instance fi70:FnI Tryz.prog 70:=⟨_,Tryz.func70,by kernel_rfl,rfl⟩
theorem bu96:BuI Tryz.prog 96 (fun i=>[(0,1),(1,1)][i]?) (.agg #[.int .i64 0,.int .i64 0]):=BuI.struct Tryz.underlying96 (by kernel_rfl) (by kernel_rfl)
theorem c_Covers (l:List Tst) (hl:l.length≤200000) (hD: ∀s∈l,s.v.f.dig):
  Ct Tryz.prog 48 [tL 8 true tTs l] (tL 2 true tSn (if tRight l=true then cvT l else [])):=by
 refine Ct.intro Tryz.func48 rfl Tryz.ntmps48 rfl ?_
 intro w F
 refine A9 ?_
 refine R1 (x3 (c_TRight l hD) fi51 rfl) rfl ?_
 refine A3 ?_
 refine xc0 rfl (fun h202=> ?_) (fun h202=> ?_)
 ·
  refine A7 ?_
  exact x4 Plain.mk' rfl rfl (leNil (by rw [if_neg (by simpa using h202)]))
 ·
  refine A6 ?_
  refine RE (xh1 (k:=13) (t:=tSn sn0) (ts:=rV tSn (List.replicate l.length sn0)) l.length l.length Tryz.underlying79 el96 (fun F w=>tSn_mk) rfl (by omega) (by omega) (Nat.le_refl _) (by omega) (by omega) (rV_rep _ _ rfl)) ⟨rfl,rfl,trivial⟩ trivial ⟨rfl,trivial⟩ ?_
  refine A12 ?_
  have hok:tRight l=true:=by simpa using h202
  refine cL (fun (i:Nat)=>i≤l.length) (fun (i:Nat)=>upd (upd (upd (upd (fun _=>none) 3 (some (.own (.sl 13 2 0 l.length)))) 14 (some (.val (tL 8 true tTs l)))) 15 (some (.val (tI l.length)))) 16 (some (.val (tI i)))) (fun (i:Nat)=>upd (fun _=>none) 13 (some (⟨96,2,true,rV tSn (cvL l i)⟩))) [13] (fun (i:Nat)=>l.length - i) (0) (Nat.zero_le _) (hh:=((SubK.consI rfl (ImpK.of (by simp [cvL]))) SubK.nil)) ?_
  intro i hI
  have hcl:=cvL_len (l:=l) (i:=i) hI
  refine A6 ?_
  refine x9 rfl (fun h206=> ?_) (fun h206=> ?_)
  ·
   refine A7 ?_
   refine R2 (x6 sl22 (i) (by omega) (gD (l:=l) (n:=i) (d:=tst0) (by omega))) rfl rfl ?_
   refine A1 ?_
   refine RE (x5 (k:=5) (n:=8) (agg:=true) zr37.1 zr37.2 rfl) trivial trivial ⟨rfl,trivial⟩ ?_
   refine A11 ?_
   refine R2 (xa7 (r:=tS [⟨1,false,tI (l.getD i tst0).lo⟩,⟨1,false,tI (l.getD i tst0).hi⟩]) (ts:=[(0,tI (l.getD i tst0).lo),(1,tI (l.getD i tst0).hi)]) bu96 zr96.2 (Bc 0 rfl rfl rfl (Bc 1 rfl rfl rfl Le.refl))) rfl rfl (R2 (xa5 sl79 (by omega) (by omega) rfl) rfl rfl (RE (xc3 (i) ti96 (rV_lt (by omega)) (by omega) (rV_set (m:=(spT (l.getD i tst0))) rfl)) ⟨rfl,rfl,trivial⟩ ⟨rfl,trivial⟩ trivial ?_))
   refine A7 ?_
   exact kF (i+1) ⟨(by omega),(by omega)⟩ (hh:=((SubK.consI rfl (ImpK.of (by rw [cvL_set (by omega)]))) SubK.nil))
  ·
   refine A6 ?_
   have hil:i=l.length:=by omega
   subst hil
   refine C_key (k:=13) (e':=⟨96,2,true,rV tSn (cvS l)⟩) rfl (by rw [cvL_all]) ?_
   refine A1 ?_
   refine RE (xf8 (f:=tSn) (xs:=cvS l) (fun _ h=>h) (xn8 (by simp [cvS])) (by simp [cvS])) ⟨rfl,trivial⟩ ⟨rfl,trivial⟩ trivial (R1 (x3 (c_SnMake (cvS l) (by simp [cvS];omega)) fi70 rfl) rfl ?_)
   refine A14 ?_
   exact x4 Plain.mk' rfl rfl (Le.of (by rw [if_pos hok,if_pos (ascS_ok (cvS_asc hok))];rfl))
end An.S
namespace An
open Go
section
variable {P:Program} {c:Base} {d ty:Nat} {pos:String} {af:Array Edge} {gd:Option (Nat×Bool)}
end
end An
namespace An.S
open Go Go.Proofs An
instance sl27:SlI Tryz.prog 27 3 1 false:=⟨Tryz.underlying27,ti3⟩
instance fi9:FnI Tryz.prog 9:=⟨_,Tryz.func9,by kernel_rfl,rfl⟩
instance un27:UnI Tryz.prog 27 (.slice 3):=⟨Tryz.underlying27⟩
theorem c_SameStep (x y:Tst):
  Ct Tryz.prog 44 [tTs x,tTs y] (tB (decide (x=y))):=by
 refine Ct.intro Tryz.func44 rfl Tryz.ntmps44 rfl ?_
 intro w F
 refine A15 ?_
 refine RGcaseD (t:=10) rfl (fun h196=> ?_) (fun h196=> ?_)
 ·
  refine A7 ?_
  refine RGcaseD (t:=17) rfl (fun h196_2=> ?_) (fun h196_2=> ?_)
  ·
   refine A4 ?_
   refine RGon (decide_eq_true h196_2) rfl (x3 (xw1 _ _) fi9 rfl) rfl ⟨rfl,rfl,trivial⟩ trivial trivial ?_
   refine A5 ?_
   exact x4 Plain.mk' rfl rfl (Le.bool (by obtain ⟨a,b,e⟩:=x;obtain ⟨c,d,f⟩:=y;simp only [Tst.mk.injEq] at*;simp_all <;> omega))
  ·
   refine A10 ?_
   exact x4 Plain.mk' rfl rfl (Le.bool (by obtain ⟨a,b,e⟩:=x;obtain ⟨c,d,f⟩:=y;simp only [Tst.mk.injEq] at*;simp_all <;> omega))
 ·
  refine A17 ?_
  exact x4 Plain.mk' rfl rfl (Le.bool (by obtain ⟨a,b,e⟩:=x;obtain ⟨c,d,f⟩:=y;simp only [Tst.mk.injEq] at*;simp_all <;> omega))
theorem xw4 (l:List Int) (k:Nat) (hk:k < l.length):l.take (k+1)=l.take k++[l.getD k 0]:=by
 rw [List.take_succ_eq_append_getElem hk,List.getD_eq_getElem?_getD,List.getElem?_eq_getElem hk];rfl
theorem c_SameInts (xs ys:List Int):
  Ct Tryz.prog 23 [tL 1 false tI xs,tL 1 false tI ys] (tB (decide (xs=ys))):=by
 refine Ct.intro Tryz.func23 rfl Tryz.ntmps23 rfl ?_
 intro w F
 refine xk1 (s:=0) rfl (fun hl0=> ?_)
 refine A15 ?_
 refine x9 rfl (fun h27=> ?_) (fun h27=> ?_)
 ·
  refine A7 ?_
  exact x4 Plain.mk' rfl rfl (Le.bool (decide_eq_false (fun h=>by rw [h] at h27;omega)).symm)
 ·
  have hll:xs.length=ys.length:=by omega
  refine A9 ?_
  refine cL (fun (i:Nat)=>i≤xs.length∧xs.take i=ys.take i) (fun (i:Nat)=>upd (upd (upd (fun _=>none) 0 (some (.val (tL 1 false tI xs)))) 1 (some (.val (tL 1 false tI ys)))) 5 (some (.val (tI i)))) (fun (i:Nat)=>fun _=>none) [] (fun (i:Nat)=>xs.length - i) (0) ⟨Nat.zero_le _,rfl⟩ ?_
  intro i hI
  obtain ⟨hi,ht⟩:=hI
  refine A9 ?_
  refine x9 rfl (fun h30=> ?_) (fun h30=> ?_)
  ·
   refine A8 ?_
   refine R2 (x6 sl27 i (by omega) (gD (d:=0) (by omega))) rfl rfl ?_
   refine A3 ?_
   refine R2 (x6 sl27 i (by omega) (gD (d:=0) (by omega))) rfl rfl ?_
   refine A4 ?_
   refine x9 rfl (fun h31=> ?_) (fun h31=> ?_)
   ·
    refine A11 ?_
    exact x4 Plain.mk' rfl rfl (Le.bool (decide_eq_false (fun h=>by rw [h] at h31;exact (h31 rfl))).symm)
   ·
    refine A8 ?_
    exact kF (i+1) ⟨⟨by omega,by rw [xw4 xs i (by omega),xw4 ys i (by omega),ht,show xs.getD i 0=ys.getD i 0 from (Decidable.of_not_not h31)]⟩,(by omega)⟩
  ·
   refine A11 ?_
   exact x4 Plain.mk' rfl rfl (Le.bool (decide_eq_true (by rw [show i=xs.length by omega,List.take_length,hll,List.take_length] at ht;exact ht)).symm)
instance fi161:FnI Tryz.prog 161:=⟨_,Tryz.func161,by kernel_rfl,rfl⟩
theorem c_RTrim (a:List Nat):
  Ct Tryz.prog 161 [tLm a] (tLm (trimL a)):=by
 refine Ct.intro Tryz.func161 rfl Tryz.ntmps161 rfl ?_
 intro w F
 refine xk1 (s:=0) rfl (fun hl0=> ?_)
 refine A14 ?_
 refine cL (fun (k:Nat)=>k≤a.length∧trimL (a.take k)=trimL a) (fun (k:Nat)=>upd (upd (fun _=>none) 0 (some (.val (tLm a)))) 3 (some (.val (tI k)))) (fun (k:Nat)=>fun _=>none) [] (fun (k:Nat)=>k) (a.length) ⟨Nat.le_refl _,by rw [List.take_length]⟩ ?_
 intro k hI
 obtain ⟨hk,hc⟩:=hI
 refine A6 ?_
 refine RGcaseD (t:=8) rfl (fun h12=> ?_) (fun h12=> ?_)
 ·
  refine A2 ?_
  refine RGon (decide_eq_true h12) rfl (xe4 (wr64 (by omega) (by omega))) rfl ⟨rfl,rfl,trivial⟩ trivial trivial (RGon (decide_eq_true h12) rfl (x6 sl29 (k - 1) (by omega) (gN (by omega))) rfl ⟨rfl,rfl,trivial⟩ trivial trivial ?_)
  refine A5 ?_
  refine x9 rfl (fun h12_2=> ?_) (fun h12_2=> ?_)
  ·
   refine A9 ?_
   exact kF (k - 1) ⟨⟨by omega,by rw [trim_step' hk (by omega) (by omega)];exact hc⟩,(by omega)⟩
  ·
   refine A9 ?_
   refine R2 (d_sliceTo sl29 k (by omega) (by omega) rfl) rfl rfl ?_
   refine A4 ?_
   exact x4 Plain.mk' rfl rfl (Le.of (congrArg tLm (by rw [←hc,trim_stop' hk (by omega) (by omega)])))
 ·
  refine A18 ?_
  refine A1 ?_
  refine R2 (d_sliceTo sl29 k (by omega) (by omega) rfl) rfl rfl ?_
  refine A4 ?_
  exact x4 Plain.mk' rfl rfl (Le.of (congrArg tLm (by rw [←hc,show k=0 by omega,List.take_zero];rfl)))
theorem c_RLess (a b:Nat):
  Ct Tryz.prog 157 [tM a,tM b] (tB (decide (a < b))):=by
 refine Ct.intro Tryz.func157 rfl Tryz.ntmps157 rfl ?_
 intro w F
 refine xk1 (s:=0) rfl (fun hl0=> ?_)
 refine xk1 (s:=1) rfl (fun hl1=> ?_)
 have ha:=xg7 x8 a
 have hb:=xg7 x8 b
 refine A15 ?_
 refine x9 rfl (fun h20=> ?_) (fun h20=> ?_)
 ·
  refine A12 ?_
  exact x4 Plain.mk' rfl rfl (Le.bool (decide_eq_decide.2 ⟨fun h=>len_lt x8 (by omega),fun h=>by have:=xe0 x8 (Nat.le_of_lt h);omega⟩))
 ·
  refine A12 ?_
  have hlen:(dig 65536 a).length=(dig 65536 b).length:=by omega
  rw [←hlen] at hb
  refine cL (fun (k:Nat)=>k≤(dig 65536 a).length∧a / 65536 ^ k=b / 65536 ^ k) (fun (k:Nat)=>upd (upd (upd (fun _=>none) 0 (some (.val (tM a)))) 1 (some (.val (tM b)))) 5 (some (.val (tI ((k:Int) - 1))))) (fun (k:Nat)=>fun _=>none) [] (fun (k:Nat)=>k) ((dig 65536 a).length) ⟨Nat.le_refl _,by rw [Nat.div_eq_of_lt ha,Nat.div_eq_of_lt hb]⟩ ?_
  intro k hI
  obtain ⟨hk,hc⟩:=hI
  refine A7 ?_
  refine x9 rfl (fun h23=> ?_) (fun h23=> ?_)
  ·
   obtain ⟨j,rfl⟩: ∃j,k=j+1:=⟨k - 1,by omega⟩
   refine A8 ?_
   refine R2 (x6 sl29 (j) (by omega) (gN (by omega))) rfl rfl ?_
   refine A3 ?_
   refine R2 (x6 sl29 (j) (by omega) (gN (by omega))) rfl rfl ?_
   refine A4 ?_
   refine x9 rfl (fun h24=> ?_) (fun h24=> ?_)
   ·
    refine A4 ?_
    refine R2 (x6 sl29 (j) (by omega) (gN (by omega))) rfl rfl ?_
    refine A3 ?_
    refine R2 (x6 sl29 (j) (by omega) (gN (by omega))) rfl rfl ?_
    refine A11 ?_
    exact x4 Plain.mk' rfl rfl (Le.bool (decide_eq_decide.2 ⟨fun h=>dig_lt_of x8 hc (by omega),fun h=>Classical.byContradiction fun h2=>by have:=dig_lt_of x8 hc.symm (show (dig 65536 b).getD j 0 < (dig 65536 a).getD j 0 by omega);omega⟩))
   ·
    refine A8 ?_
    exact kF (j) ⟨⟨by omega,cmp_step (by decide) hc (by rw [←xb7 x8,←xb7 x8];omega)⟩,(by omega)⟩
  ·
   refine A11 ?_
   exact x4 Plain.mk' rfl rfl (Le.bool (decide_eq_false (by have h0:=hc;rw [show k=0 by omega] at h0;simp at h0;omega)).symm)
theorem len_ne {v:Nat}:(0:Int) < ((dig 65536 v).length:Nat)↔v≠0:=by
 have h:(dig 65536 v).length=0↔v=0:=by rw [List.length_eq_zero_iff,xi0 x8]
 omega
theorem xo1 (p:Bool) (v:Nat):
  Ct Tryz.prog 128 [tB p,tM v] (tWh (wh (sgn p v))):=by
 refine Ct.intro Tryz.func128 rfl Tryz.ntmps128 rfl ?_
 intro w F
 refine A2 ?_
 refine RE (x5 (k:=4) (n:=2) (agg:=true) zr31.1 zr31.2 rfl) trivial trivial ⟨rfl,trivial⟩ ?_
 refine A6 ?_
 refine RGcase (t:=6) rfl (fun h129=> ?_) (fun h129=> ?_)
 ·
  refine A5 ?_
  refine R2 (xa7 (r:=tS [⟨1,false,tB (decide ((0:Int) < ((dig 65536 v).length:Nat)))⟩,⟨1,false,tM v⟩]) (ts:=[(0,tB (decide ((0:Int) < ((dig 65536 v).length:Nat)))),(1,tM v)]) bu31 zr31.2 (Bc 0 rfl rfl rfl (Bc 1 rfl rfl rfl Le.refl))) rfl rfl ?_
  refine A4 ?_
  exact xc1 Plain.mk' rfl ⟨_,_,_,_,_,rfl,rfl,ti31,(Le.of (by rw [wh_sgn,h129,Bool.true_and,decide_eq_decide.2 (show (0:Int) < ((dig 65536 v).length:Nat)↔v≠0 from len_ne)]))⟩
 ·
  refine A5 ?_
  refine R2 (xa7 (r:=tS [⟨1,false,tB false⟩,⟨1,false,tM v⟩]) (ts:=[(0,tB false),(1,tM v)]) bu31 zr31.2 (Bc 0 rfl rfl rfl (Bc 1 rfl rfl rfl Le.refl))) rfl rfl ?_
  refine A4 ?_
  exact xc1 Plain.mk' rfl ⟨_,_,_,_,_,rfl,rfl,ti31,(Le.of (by rw [wh_sgn,h129,Bool.false_and]))⟩
theorem iquo64 {a b:Nat} (ha:a < 9223372036854775808):IntKind.i64.wrap ((a:Int).tdiv (b:Int))=((a / b:Nat):Int):=by
 rw [Int.tdiv_eq_ediv_of_nonneg (by omega)]
 have h:(a:Int) / (b:Int)=((a / b:Nat):Int):=(Int.natCast_ediv a b).symm
 rw [h]
 have:=Nat.div_le_self a b
 generalize a / b=q at*
 exact wr64 (by omega) (by omega)
theorem c_RShort (a d:Nat) (ha:(dig 65536 a).length≤100000) (hd:0 < d) (hdW:d < 65536):
  Ct Tryz.prog 156 [tM a,tI d] (tT [tM (a / d),tM (a%d)]):=by
 refine Ct.intro Tryz.func156 rfl Tryz.ntmps156 rfl ?_
 intro w F
 refine A10 ?_
 refine RE (xh1 (k:=11) (t:=tE (.int .u16 0)) (ts:=rW .u16 (List.replicate ((dig 65536 a).length) 0)) ((dig 65536 a).length) ((dig 65536 a).length) Tryz.underlying29 el42 (fun _ _=>rfl) rfl (by omega) (by omega) (Nat.le_refl _) (by omega) (by omega) (xo6 _)) ⟨rfl,rfl,trivial⟩ trivial ⟨rfl,trivial⟩ ?_
 refine A18 ?_
 refine cL (fun (fm:(Nat)×(List Nat))=>(fun (k:Nat) (qs:List Nat)=>k≤(dig 65536 a).length∧qs.length=(dig 65536 a).length∧Dig 65536 qs∧val 65536 (qs.drop k)=a / 65536 ^ k / d) fm.1 fm.2) (fun (fm:(Nat)×(List Nat))=>(fun (k:Nat) (qs:List Nat)=>upd (upd (upd (upd (upd (fun _=>none) 0 (some (.val (tM a)))) 1 (some (.val (tI d)))) 6 (some (.own (.sl 11 1 0 (dig 65536 a).length)))) 7 (some (.val (tI ((a / 65536 ^ k%d:Nat):Int))))) 8 (some (.val (tI ((k:Int) - 1))))) fm.1 fm.2) (fun (fm:(Nat)×(List Nat))=>(fun (k:Nat) (qs:List Nat)=>upd (fun _=>none) 11 (some (⟨42,1,false,rW .u16 qs⟩))) fm.1 fm.2) [11] (fun (fm:(Nat)×(List Nat))=>(fun (k:Nat) (qs:List Nat)=>k) fm.1 fm.2) (((dig 65536 a).length,List.replicate (dig 65536 a).length 0)) (by dsimp only;exact ⟨Nat.le_refl _,by simp,Dig.rep (by decide) _,by rw [Nat.div_eq_of_lt (xg7 x8 a),Nat.zero_div,List.drop_replicate,xg1]⟩) (hg:=(sI (Sub.le rfl (Le.int (by dsimp only;rw [Nat.div_eq_of_lt (xg7 x8 a),Nat.zero_mod];rfl)) (sC (sI (sC Sub.nil)))))) (hh:=((SubK.consI rfl ImpK.refl) SubK.nil)) ?_
 intro fm hI
 obtain ⟨k,qs⟩:=fm
 replace hI:k≤(dig 65536 a).length∧qs.length=(dig 65536 a).length∧Dig 65536 qs∧val 65536 (qs.drop k)=a / 65536 ^ k / d:=hI
 show wc _ _ _ _ (upd (upd (upd (upd (upd (fun _=>none) 0 (some (.val (tM a)))) 1 (some (.val (tI d)))) 6 (some (.own (.sl 11 1 0 (dig 65536 a).length)))) 7 (some (.val (tI ((a / 65536 ^ k%d:Nat):Int))))) 8 (some (.val (tI ((k:Int) - 1))))) (upd (fun _=>none) 11 (some (⟨42,1,false,rW .u16 qs⟩))) _
 obtain ⟨hk,hl,hD,hv⟩:=hI
 have hr:a / 65536 ^ k%d < d:=Nat.mod_lt _ hd
 refine A7 ?_
 refine x9 rfl (fun h93=> ?_) (fun h93=> ?_)
 ·
  obtain ⟨j,rfl⟩: ∃j,k=j+1:=⟨k - 1,by omega⟩
  have hx:=xb7 x8 a j
  have hx1:=(xb6 x8 a).getD (by decide) j
  obtain ⟨n1,n2,n3,n4,n5⟩:=short_in (k:=j) (by omega) hl hD hd rfl hv (by rw [←hx])
  have hq0:=Nat.zero_le (((a / 65536 ^ (j+1)%d)*65536+(dig 65536 a).getD j 0) / d)
  refine A7 ?_
  refine R2 (xi5 (r:=(((a / 65536 ^ (j+1)%d)*65536:Nat):Int)) (by rw [wr64 (by omega) (by omega)];omega)) rfl rfl ?_
  refine A2 ?_
  refine R2 (x6 sl29 (j) (by omega) (gN (by omega))) rfl rfl ?_
  refine A1 ?_
  refine R1 (x7 Tryz.underlying3 (isS Tryz.underlying42) (wr64 (by omega) (by omega))) rfl (R2 (xc9 (r:=((((a / 65536 ^ (j+1)%d)*65536+(dig 65536 a).getD j 0):Nat):Int)) (by rw [wr64 (by omega) (by omega)];omega)) rfl rfl ?_)
  refine A9 ?_
  refine R2 (d_quo (r:=((((a / 65536 ^ (j+1)%d)*65536+(dig 65536 a).getD j 0) / d:Nat):Int)) (by omega) (iquo64 (by omega))) rfl rfl (R1 (x7 Tryz.underlying42 (isS Tryz.underlying3) (wu16 (by omega) (by omega))) rfl (R2 (xa5 sl29 (by omega) (by omega) rfl) rfl rfl (RE (xc3 (j) ti42 (xj5 (by omega)) (by omega) (xh3 (m:=_) rfl)) ⟨rfl,rfl,trivial⟩ ⟨rfl,trivial⟩ trivial ?_)))
  refine A5 ?_
  refine R2 (d_rem (by omega) wrem64) rfl rfl ?_
  refine A9 ?_
  exact kF ((j,qs.set j (((a / 65536 ^ (j+1)%d)*65536+(dig 65536 a).getD j 0) / d))) ⟨(by dsimp only;exact ⟨by omega,n1,n2,n4⟩),(by dsimp only;omega)⟩ (hg:=(sI (Sub.le rfl (Le.int (by dsimp only;rw [hx,n3])) (sC (sI (sC Sub.nil)))))) (hh:=((SubK.consI rfl ImpK.refl) SubK.nil))
 ·
  have hk0:k=0:=by omega
  subst hk0
  rw [List.drop_zero,Nat.pow_zero,Nat.div_one] at hv
  refine A7 ?_
  refine RE (xf8 (f:=fun n:Nat=>tE (.int .u16 n)) (fun _ h=>h) (xi7 hl) hl) ⟨rfl,trivial⟩ ⟨rfl,trivial⟩ trivial (R1 (x3 (c_RTrim _) fi161 rfl) rfl ?_)
  refine A1 ?_
  refine R1 (x7 Tryz.underlying42 (isS Tryz.underlying3) (wu16 (by omega) (by omega))) rfl (R1 (xm9 (n:=1) [a / 65536 ^ 0%d] Tryz.underlying29 el42 zf42 rfl rfl rfl) rfl (R1 (x3 (c_RTrim _) fi161 rfl) rfl ?_))
  refine A5 ?_
  exact xc5 Plain.mk' rfl rfl rfl (Le.of (congrArg tLm (by rw [xe6 x8 hD,hv]))) (Le.of (congrArg tLm (by rw [trim1L (by omega),Nat.pow_zero,Nat.div_one])))
theorem c_RPlus (a b:Nat) (ha:(dig 65536 a).length≤100000) (hb:(dig 65536 b).length≤100000):
  Ct Tryz.prog 158 [tM a,tM b] (tM (a+b)):=by
 have hab:=len_dbl ha hb
 refine Ct.intro Tryz.func158 rfl Tryz.ntmps158 rfl ?_
 intro w F
 refine A7 ?_
 refine RE (xj2 (k:=5) 42 1 false rfl (fun _=>rfl)) trivial trivial ⟨rfl,trivial⟩ ?_
 refine A14 ?_
 refine cL (fun (fm:(Nat)×(Nat)×(List Nat))=>(fun (i:Nat) (n:Nat) (cs:List Nat)=>i≤(dig 65536 (a+b)).length∧n=(a%65536 ^ i+b%65536 ^ i) / 65536 ^ i∧cs=dgs 65536 i (a+b)) fm.1 fm.2.1 fm.2.2) (fun (fm:(Nat)×(Nat)×(List Nat))=>(fun (i:Nat) (n:Nat) (cs:List Nat)=>upd (upd (upd (upd (upd (fun _=>none) 0 (some (.val (tM a)))) 1 (some (.val (tM b)))) 5 (some (.own (.sl 5 1 0 cs.length)))) 7 (some (.val (tI i)))) 6 (some (.val (tI n)))) fm.1 fm.2.1 fm.2.2) (fun (fm:(Nat)×(Nat)×(List Nat))=>(fun (i:Nat) (n:Nat) (cs:List Nat)=>upd (fun _=>none) 5 (some (⟨42,1,false,rW .u16 cs⟩))) fm.1 fm.2.1 fm.2.2) [5] (fun (fm:(Nat)×(Nat)×(List Nat))=>(fun (i:Nat) (n:Nat) (cs:List Nat)=>(dig 65536 (a+b)).length - i) fm.1 fm.2.1 fm.2.2) ((0,0,[])) (by dsimp only;exact ⟨Nat.zero_le _,by simp [Nat.mod_one],rfl⟩) (hh:=((SubK.consI rfl ImpK.refl) SubK.nil)) ?_
 intro fm hI
 obtain ⟨i,n,cs⟩:=fm
 replace hI:i≤(dig 65536 (a+b)).length∧n=(a%65536 ^ i+b%65536 ^ i) / 65536 ^ i∧cs=dgs 65536 i (a+b):=hI
 show wc _ _ _ _ (upd (upd (upd (upd (upd (fun _=>none) 0 (some (.val (tM a)))) 1 (some (.val (tM b)))) 5 (some (.own (.sl 5 1 0 cs.length)))) 7 (some (.val (tI i)))) 6 (some (.val (tI n)))) (upd (fun _=>none) 5 (some (⟨42,1,false,rW .u16 cs⟩))) _
 obtain ⟨hi,hn,hcs⟩:=hI
 have hcl:cs.length=i:=by rw [hcs,xe1]
 have hn1:=rplus_small hn
 have xa:=xb7 x8 a i
 have xb:=xb7 x8 b i
 have xa1:=(xb6 x8 a).getD (by decide) i
 have xb1:=(xb6 x8 b).getD (by decide) i
 refine A8 ?_
 refine RGcaseD (t:=12) rfl (fun h35=> ?_) (fun h35=> ?_)
 ·
  have hmore:=rplus_more hn (.inl (by omega))
  refine A16 ?_
  refine xg0 (fun (m1:Nat)=>m1=(n+a / 65536 ^ i%65536)) (fun (m1:Nat)=>upd (upd (upd (upd (upd (fun _=>none) 0 (some (.val (tM a)))) 1 (some (.val (tM b)))) 5 (some (.own (.sl 5 1 0 cs.length)))) 7 (some (.val (tI i)))) 6 (some (.val (tI m1)))) (fun (m1:Nat)=>upd (fun _=>none) 5 (some (⟨42,1,false,rW .u16 cs⟩))) (nm [5]) ?_ ?_
  ·
   refine A8 ?_
   refine x9 rfl (fun h36=> ?_) (fun h36=> ?_)
   ·
    refine A4 ?_
    refine R2 (x6 sl29 (i) (by omega) (gN (by omega))) rfl rfl ?_
    refine A1 ?_
    refine R1 (x7 Tryz.underlying3 (isS Tryz.underlying42) (wr64 (by omega) (by omega))) rfl (R2 (xc9 (r:=((n+(dig 65536 a).getD i 0:Nat):Int)) (by rw [wr64 (by omega) (by omega)];omega)) rfl rfl ?_)
    refine A2 ?_
    exact kF (n+(dig 65536 a).getD i 0) (by rw [xa]) (hh:=((SubK.consI rfl ImpK.refl) SubK.nil))
   ·
    refine A1 ?_
    exact kF (n) (by rw [xn0 x8 (by omega),Nat.add_zero]) (hh:=((SubK.consI rfl ImpK.refl) SubK.nil))
  ·
   intro m1 hm1
   refine xg0 (fun (m2:Nat)=>m2=(m1+b / 65536 ^ i%65536)) (fun (m2:Nat)=>upd (upd (upd (upd (upd (fun _=>none) 0 (some (.val (tM a)))) 1 (some (.val (tM b)))) 5 (some (.own (.sl 5 1 0 cs.length)))) 7 (some (.val (tI i)))) 6 (some (.val (tI m2)))) (fun (m2:Nat)=>upd (fun _=>none) 5 (some (⟨42,1,false,rW .u16 cs⟩))) (nm [5]) ?_ ?_
   ·
    refine A8 ?_
    refine x9 rfl (fun h39=> ?_) (fun h39=> ?_)
    ·
     refine A4 ?_
     refine R2 (x6 sl29 (i) (by omega) (gN (by omega))) rfl rfl ?_
     refine A1 ?_
     refine R1 (x7 Tryz.underlying3 (isS Tryz.underlying42) (wr64 (by omega) (by omega))) rfl (R2 (xc9 (r:=((m1+(dig 65536 b).getD i 0:Nat):Int)) (by rw [wr64 (by omega) (by omega)];omega)) rfl rfl ?_)
     refine A2 ?_
     exact kF (m1+(dig 65536 b).getD i 0) (by rw [xb]) (hh:=((SubK.consI rfl ImpK.refl) SubK.nil))
    ·
     refine A1 ?_
     exact kF (m1) (by rw [xn0 x8 (by omega),Nat.add_zero]) (hh:=((SubK.consI rfl ImpK.refl) SubK.nil))
   ·
    intro m2 hm2
    refine A4 ?_
    refine R2 (d_rem (r:=((m2%65536:Nat):Int)) (by decide) (wrem64 (b:=65536))) rfl rfl (R1 (x7 Tryz.underlying42 (isS Tryz.underlying3) (wu16 (by omega) (by omega))) rfl (R1 (xm9 (n:=1) [m2%65536] Tryz.underlying29 el42 zf42 rfl rfl rfl) rfl (RE (xc2 (k:=5) (k':=51) (ts':=rW .u16 (cs++[m2%65536])) Tryz.underlying29 el42 zf42 rfl rfl (fun _=>inferInstance) xk2 (by simp;omega) (by simp;omega) (by simp [rW]) (n':=cs.length+1) rfl) ⟨rfl,rfl,trivial⟩ ⟨rfl,trivial⟩ ⟨rfl,trivial⟩ ?_)))
    refine A5 ?_
    refine R2 (d_quo (r:=((m2 / 65536:Nat):Int)) (by decide) (iquo64 (b:=65536) (by omega))) rfl rfl ?_
    refine A9 ?_
    obtain ⟨n1,n2⟩:=rplus_in (s:=m2) hn (by rw [hm2,hm1])
    exact xf7 (l:=[5]) (fun j=>cond (Nat.beq j 5) 51 (j)) ((i+1,m2 / 65536,cs++[m2%65536])) ⟨(by dsimp only;exact ⟨hmore,n2,by rw [hcs];exact n1⟩),(by dsimp only;omega)⟩ (SubR.int rfl (by first | omega | rfl | (dsimp only;omega)) (SubR.int rfl (by first | omega | rfl | (dsimp only;omega)) ((SubR.consI rfl (Imp.of (by dsimp only;rw [List.length_append];rfl))) (SubR.cons rfl (SubR.cons rfl SubR.nil))))) ((SubKR.consI rfl (ImpK.of xg6.symm)) SubKR.nil) (SupG.val (SupG.val (SupG.own rfl (SupG.val (SupG.val SupG.nil))))) (SupH.cons rfl (supJ xd6) SupH.nil) (lkOk rfl) rfl rfl (fun _ h=>by cases h)
 ·
  refine A6 ?_
  refine RGcaseD (t:=18) rfl (fun h35_2=> ?_) (fun h35_2=> ?_)
  ·
   have hmore:=rplus_more hn (.inr (.inl (by omega)))
   refine A10 ?_
   refine xg0 (fun (m1:Nat)=>m1=(n+a / 65536 ^ i%65536)) (fun (m1:Nat)=>upd (upd (upd (upd (upd (fun _=>none) 0 (some (.val (tM a)))) 1 (some (.val (tM b)))) 5 (some (.own (.sl 5 1 0 cs.length)))) 7 (some (.val (tI i)))) 6 (some (.val (tI m1)))) (fun (m1:Nat)=>upd (fun _=>none) 5 (some (⟨42,1,false,rW .u16 cs⟩))) (nm [5]) ?_ ?_
   ·
    refine A8 ?_
    refine x9 rfl (fun h36=> ?_) (fun h36=> ?_)
    ·
     refine A4 ?_
     refine R2 (x6 sl29 (i) (by omega) (gN (by omega))) rfl rfl ?_
     refine A1 ?_
     refine R1 (x7 Tryz.underlying3 (isS Tryz.underlying42) (wr64 (by omega) (by omega))) rfl (R2 (xc9 (r:=((n+(dig 65536 a).getD i 0:Nat):Int)) (by rw [wr64 (by omega) (by omega)];omega)) rfl rfl ?_)
     refine A2 ?_
     exact kF (n+(dig 65536 a).getD i 0) (by rw [xa]) (hh:=((SubK.consI rfl ImpK.refl) SubK.nil))
    ·
     refine A1 ?_
     exact kF (n) (by rw [xn0 x8 (by omega),Nat.add_zero]) (hh:=((SubK.consI rfl ImpK.refl) SubK.nil))
   ·
    intro m1 hm1
    refine xg0 (fun (m2:Nat)=>m2=(m1+b / 65536 ^ i%65536)) (fun (m2:Nat)=>upd (upd (upd (upd (upd (fun _=>none) 0 (some (.val (tM a)))) 1 (some (.val (tM b)))) 5 (some (.own (.sl 5 1 0 cs.length)))) 7 (some (.val (tI i)))) 6 (some (.val (tI m2)))) (fun (m2:Nat)=>upd (fun _=>none) 5 (some (⟨42,1,false,rW .u16 cs⟩))) (nm [5]) ?_ ?_
    ·
     refine A8 ?_
     refine x9 rfl (fun h39=> ?_) (fun h39=> ?_)
     ·
      refine A4 ?_
      refine R2 (x6 sl29 (i) (by omega) (gN (by omega))) rfl rfl ?_
      refine A1 ?_
      refine R1 (x7 Tryz.underlying3 (isS Tryz.underlying42) (wr64 (by omega) (by omega))) rfl (R2 (xc9 (r:=((m1+(dig 65536 b).getD i 0:Nat):Int)) (by rw [wr64 (by omega) (by omega)];omega)) rfl rfl ?_)
      refine A2 ?_
      exact kF (m1+(dig 65536 b).getD i 0) (by rw [xb]) (hh:=((SubK.consI rfl ImpK.refl) SubK.nil))
     ·
      refine A1 ?_
      exact kF (m1) (by rw [xn0 x8 (by omega),Nat.add_zero]) (hh:=((SubK.consI rfl ImpK.refl) SubK.nil))
    ·
     intro m2 hm2
     refine A4 ?_
     refine R2 (d_rem (r:=((m2%65536:Nat):Int)) (by decide) (wrem64 (b:=65536))) rfl rfl (R1 (x7 Tryz.underlying42 (isS Tryz.underlying3) (wu16 (by omega) (by omega))) rfl (R1 (xm9 (n:=1) [m2%65536] Tryz.underlying29 el42 zf42 rfl rfl rfl) rfl (RE (xc2 (k:=5) (k':=51) (ts':=rW .u16 (cs++[m2%65536])) Tryz.underlying29 el42 zf42 rfl rfl (fun _=>inferInstance) xk2 (by simp;omega) (by simp;omega) (by simp [rW]) (n':=cs.length+1) rfl) ⟨rfl,rfl,trivial⟩ ⟨rfl,trivial⟩ ⟨rfl,trivial⟩ ?_)))
     refine A5 ?_
     refine R2 (d_quo (r:=((m2 / 65536:Nat):Int)) (by decide) (iquo64 (b:=65536) (by omega))) rfl rfl ?_
     refine A9 ?_
     obtain ⟨n1,n2⟩:=rplus_in (s:=m2) hn (by rw [hm2,hm1])
     exact xf7 (l:=[5]) (fun j=>cond (Nat.beq j 5) 51 (j)) ((i+1,m2 / 65536,cs++[m2%65536])) ⟨(by dsimp only;exact ⟨hmore,n2,by rw [hcs];exact n1⟩),(by dsimp only;omega)⟩ (SubR.int rfl (by first | omega | rfl | (dsimp only;omega)) (SubR.int rfl (by first | omega | rfl | (dsimp only;omega)) ((SubR.consI rfl (Imp.of (by dsimp only;rw [List.length_append];rfl))) (SubR.cons rfl (SubR.cons rfl SubR.nil))))) ((SubKR.consI rfl (ImpK.of xg6.symm)) SubKR.nil) (SupG.val (SupG.val (SupG.own rfl (SupG.val (SupG.val SupG.nil))))) (SupH.cons rfl (supJ xd6) SupH.nil) (lkOk rfl) rfl rfl (fun _ h=>by cases h)
  ·
   refine A5 ?_
   refine x9 rfl (fun h35_3=> ?_) (fun h35_3=> ?_)
   ·
    have hmore:=rplus_more hn (.inr (.inr (by omega)))
    refine A4 ?_
    refine xg0 (fun (m1:Nat)=>m1=(n+a / 65536 ^ i%65536)) (fun (m1:Nat)=>upd (upd (upd (upd (upd (fun _=>none) 0 (some (.val (tM a)))) 1 (some (.val (tM b)))) 5 (some (.own (.sl 5 1 0 cs.length)))) 7 (some (.val (tI i)))) 6 (some (.val (tI m1)))) (fun (m1:Nat)=>upd (fun _=>none) 5 (some (⟨42,1,false,rW .u16 cs⟩))) (nm [5]) ?_ ?_
    ·
     refine A8 ?_
     refine x9 rfl (fun h36=> ?_) (fun h36=> ?_)
     ·
      refine A4 ?_
      refine R2 (x6 sl29 (i) (by omega) (gN (by omega))) rfl rfl ?_
      refine A1 ?_
      refine R1 (x7 Tryz.underlying3 (isS Tryz.underlying42) (wr64 (by omega) (by omega))) rfl (R2 (xc9 (r:=((n+(dig 65536 a).getD i 0:Nat):Int)) (by rw [wr64 (by omega) (by omega)];omega)) rfl rfl ?_)
      refine A2 ?_
      exact kF (n+(dig 65536 a).getD i 0) (by rw [xa]) (hh:=((SubK.consI rfl ImpK.refl) SubK.nil))
     ·
      refine A1 ?_
      exact kF (n) (by rw [xn0 x8 (by omega),Nat.add_zero]) (hh:=((SubK.consI rfl ImpK.refl) SubK.nil))
    ·
     intro m1 hm1
     refine xg0 (fun (m2:Nat)=>m2=(m1+b / 65536 ^ i%65536)) (fun (m2:Nat)=>upd (upd (upd (upd (upd (fun _=>none) 0 (some (.val (tM a)))) 1 (some (.val (tM b)))) 5 (some (.own (.sl 5 1 0 cs.length)))) 7 (some (.val (tI i)))) 6 (some (.val (tI m2)))) (fun (m2:Nat)=>upd (fun _=>none) 5 (some (⟨42,1,false,rW .u16 cs⟩))) (nm [5]) ?_ ?_
     ·
      refine A8 ?_
      refine x9 rfl (fun h39=> ?_) (fun h39=> ?_)
      ·
       refine A4 ?_
       refine R2 (x6 sl29 (i) (by omega) (gN (by omega))) rfl rfl ?_
       refine A1 ?_
       refine R1 (x7 Tryz.underlying3 (isS Tryz.underlying42) (wr64 (by omega) (by omega))) rfl (R2 (xc9 (r:=((m1+(dig 65536 b).getD i 0:Nat):Int)) (by rw [wr64 (by omega) (by omega)];omega)) rfl rfl ?_)
       refine A2 ?_
       exact kF (m1+(dig 65536 b).getD i 0) (by rw [xb]) (hh:=((SubK.consI rfl ImpK.refl) SubK.nil))
      ·
       refine A1 ?_
       exact kF (m1) (by rw [xn0 x8 (by omega),Nat.add_zero]) (hh:=((SubK.consI rfl ImpK.refl) SubK.nil))
     ·
      intro m2 hm2
      refine A4 ?_
      refine R2 (d_rem (r:=((m2%65536:Nat):Int)) (by decide) (wrem64 (b:=65536))) rfl rfl (R1 (x7 Tryz.underlying42 (isS Tryz.underlying3) (wu16 (by omega) (by omega))) rfl (R1 (xm9 (n:=1) [m2%65536] Tryz.underlying29 el42 zf42 rfl rfl rfl) rfl (RE (xc2 (k:=5) (k':=51) (ts':=rW .u16 (cs++[m2%65536])) Tryz.underlying29 el42 zf42 rfl rfl (fun _=>inferInstance) xk2 (by simp;omega) (by simp;omega) (by simp [rW]) (n':=cs.length+1) rfl) ⟨rfl,rfl,trivial⟩ ⟨rfl,trivial⟩ ⟨rfl,trivial⟩ ?_)))
      refine A5 ?_
      refine R2 (d_quo (r:=((m2 / 65536:Nat):Int)) (by decide) (iquo64 (b:=65536) (by omega))) rfl rfl ?_
      refine A9 ?_
      obtain ⟨n1,n2⟩:=rplus_in (s:=m2) hn (by rw [hm2,hm1])
      exact xf7 (l:=[5]) (fun j=>cond (Nat.beq j 5) 51 (j)) ((i+1,m2 / 65536,cs++[m2%65536])) ⟨(by dsimp only;exact ⟨hmore,n2,by rw [hcs];exact n1⟩),(by dsimp only;omega)⟩ (SubR.int rfl (by first | omega | rfl | (dsimp only;omega)) (SubR.int rfl (by first | omega | rfl | (dsimp only;omega)) ((SubR.consI rfl (Imp.of (by dsimp only;rw [List.length_append];rfl))) (SubR.cons rfl (SubR.cons rfl SubR.nil))))) ((SubKR.consI rfl (ImpK.of xg6.symm)) SubKR.nil) (SupG.val (SupG.val (SupG.own rfl (SupG.val (SupG.val SupG.nil))))) (SupH.cons rfl (supJ xd6) SupH.nil) (lkOk rfl) rfl rfl (fun _ h=>by cases h)
   ·
    refine A7 ?_
    refine RE (xf8 (f:=fun n:Nat=>tE (.int .u16 n)) (xs:=cs) (fun _ h=>h) (xi7 rfl) rfl) ⟨rfl,trivial⟩ ⟨rfl,trivial⟩ trivial ?_
    refine A4 ?_
    exact x4 Plain.mk' rfl rfl (Le.of (congrArg tLm (by rw [hcs,rplus_end hn (by omega) (by omega) (by omega) hi])))
instance fi128:FnI Tryz.prog 128:=⟨_,Tryz.func128,by kernel_rfl,rfl⟩
theorem c_RMinus (a b:Nat) (hab:b≤a) (ha:(dig 65536 a).length≤100000):
  Ct Tryz.prog 160 [tM a,tM b] (tM (a - b)):=by
 refine Ct.intro Tryz.func160 rfl Tryz.ntmps160 rfl ?_
 intro w F
 refine A7 ?_
 refine RE (xj2 (k:=5) 42 1 false rfl (fun _=>rfl)) trivial trivial ⟨rfl,trivial⟩ ?_
 refine A14 ?_
 refine cL (fun (fm:(Nat)×(Nat)×(List Nat))=>(fun (i:Nat) (br:Nat) (cs:List Nat)=>i≤(dig 65536 a).length∧cs.length=i∧Dig 65536 cs∧val 65536 cs+b%65536 ^ i=a%65536 ^ i+br*65536 ^ i∧br≤1) fm.1 fm.2.1 fm.2.2) (fun (fm:(Nat)×(Nat)×(List Nat))=>(fun (i:Nat) (br:Nat) (cs:List Nat)=>upd (upd (upd (upd (upd (fun _=>none) 0 (some (.val (tM a)))) 1 (some (.val (tM b)))) 5 (some (.own (.sl 5 1 0 cs.length)))) 6 (some (.val (tI br)))) 7 (some (.val (tI i)))) fm.1 fm.2.1 fm.2.2) (fun (fm:(Nat)×(Nat)×(List Nat))=>(fun (i:Nat) (br:Nat) (cs:List Nat)=>upd (fun _=>none) 5 (some (⟨42,1,false,rW .u16 cs⟩))) fm.1 fm.2.1 fm.2.2) [5] (fun (fm:(Nat)×(Nat)×(List Nat))=>(fun (i:Nat) (br:Nat) (cs:List Nat)=>(dig 65536 a).length - i) fm.1 fm.2.1 fm.2.2) ((0,0,[])) (by dsimp only;exact ⟨Nat.zero_le _,rfl,Dig.nil _,by simp [val,Nat.mod_one],by omega⟩) (hh:=((SubK.consI rfl ImpK.refl) SubK.nil)) ?_
 intro fm hI
 obtain ⟨i,br,cs⟩:=fm
 replace hI:i≤(dig 65536 a).length∧cs.length=i∧Dig 65536 cs∧val 65536 cs+b%65536 ^ i=a%65536 ^ i+br*65536 ^ i∧br≤1:=hI
 show wc _ _ _ _ (upd (upd (upd (upd (upd (fun _=>none) 0 (some (.val (tM a)))) 1 (some (.val (tM b)))) 5 (some (.own (.sl 5 1 0 cs.length)))) 6 (some (.val (tI br)))) 7 (some (.val (tI i)))) (upd (fun _=>none) 5 (some (⟨42,1,false,rW .u16 cs⟩))) _
 obtain ⟨hi,hl,hD,hv,hbr⟩:=hI
 have xa:=xb7 x8 a i
 have xb:=xb7 x8 b i
 have xa1:=(xb6 x8 a).getD (by decide) i
 have xb1:=(xb6 x8 b).getD (by decide) i
 refine A9 ?_
 refine x9 rfl (fun h52=> ?_) (fun h52=> ?_)
 ·
  refine A8 ?_
  refine R2 (x6 sl29 (i) (by omega) (gN (by omega))) rfl rfl ?_
  refine A1 ?_
  refine R1 (x7 Tryz.underlying3 (isS Tryz.underlying42) (wr64 (by omega) (by omega))) rfl (R2 (xc9 (r:=((65536+((dig 65536 a).getD i 0):Nat):Int)) (by rw [wr64 (by omega) (by omega)];omega)) rfl rfl ?_)
  refine A1 ?_
  refine R2 (xe4 (r:=((65536+((dig 65536 a).getD i 0) - br:Nat):Int)) (by rw [wr64 (by omega) (by omega)];omega)) rfl rfl ?_
  refine A3 ?_
  refine xg0 (fun (m:Nat)=>m+br+b / 65536 ^ i%65536=65536+a / 65536 ^ i%65536) (fun (m:Nat)=>upd (upd (upd (upd (upd (upd (fun _=>none) 0 (some (.val (tM a)))) 1 (some (.val (tM b)))) 5 (some (.own (.sl 5 1 0 cs.length)))) 6 (some (.val (tI br)))) 7 (some (.val (tI i)))) 8 (some (.val (tI m)))) (fun (m:Nat)=>upd (fun _=>none) 5 (some (⟨42,1,false,rW .u16 cs⟩))) (nm [5]) ?_ ?_
  ·
   refine A8 ?_
   refine x9 rfl (fun h54=> ?_) (fun h54=> ?_)
   ·
    refine A4 ?_
    refine R2 (x6 sl29 (i) (by omega) (gN (by omega))) rfl rfl ?_
    refine A1 ?_
    refine R1 (x7 Tryz.underlying3 (isS Tryz.underlying42) (wr64 (by omega) (by omega))) rfl (R2 (xe4 (r:=((65536+((dig 65536 a).getD i 0) - br - ((dig 65536 b).getD i 0):Nat):Int)) (by rw [wr64 (by omega) (by omega)];omega)) rfl rfl ?_)
    refine A2 ?_
    exact kF (65536+((dig 65536 a).getD i 0) - br - ((dig 65536 b).getD i 0)) (by omega) (hh:=((SubK.consI rfl ImpK.refl) SubK.nil))
   ·
    refine A1 ?_
    exact kF (65536+((dig 65536 a).getD i 0) - br) (by rw [xn0 x8 (v:=b) (i:=i) (by omega)];omega) (hh:=((SubK.consI rfl ImpK.refl) SubK.nil))
  ·
   intro m hm
   refine A4 ?_
   refine R2 (d_rem (r:=((m%65536:Nat):Int)) (by decide) (wrem64 (b:=65536))) rfl rfl (R1 (x7 Tryz.underlying42 (isS Tryz.underlying3) (wu16 (by omega) (by omega))) rfl (R1 (xm9 (n:=1) [m%65536] Tryz.underlying29 el42 zf42 rfl rfl rfl) rfl (RE (xc2 (k:=5) (k':=39) (ts':=rW .u16 (cs++[m%65536])) Tryz.underlying29 el42 zf42 rfl rfl (fun _=>inferInstance) xk2 (by simp;omega) (by simp;omega) (by simp [rW]) (n':=cs.length+1) rfl) ⟨rfl,rfl,trivial⟩ ⟨rfl,trivial⟩ ⟨rfl,trivial⟩ ?_)))
   refine A5 ?_
   refine R2 (d_quo (r:=((m / 65536:Nat):Int)) (by decide) (iquo64 (b:=65536) (by omega))) rfl rfl (R2 (xe4 (r:=((1 - m / 65536:Nat):Int)) (by rw [wr64 (by omega) (by omega)];omega)) rfl rfl ?_)
   refine A9 ?_
   obtain ⟨n1,n2,n3⟩:=rminus_in hl hv hbr hm
   exact xf7 (l:=[5]) (fun j=>cond (Nat.beq j 5) 39 (j)) ((i+1,1 - m / 65536,cs++[m%65536])) ⟨(by dsimp only;exact ⟨by omega,by rw [List.length_append,hl];rfl,hD.append (Dig.cons (Nat.mod_lt _ (by decide)) (Dig.nil _)),n1,n3⟩),(by dsimp only;omega)⟩ (SubR.int rfl (by first | omega | rfl | (dsimp only;omega)) (SubR.int rfl (by first | omega | rfl | (dsimp only;omega)) ((SubR.consI rfl (Imp.of (by dsimp only;rw [List.length_append];rfl))) (SubR.cons rfl (SubR.cons rfl SubR.nil))))) ((SubKR.consI rfl (ImpK.of xg6.symm)) SubKR.nil) (SupG.val (SupG.val (SupG.own rfl (SupG.val (SupG.val SupG.nil))))) (SupH.cons rfl (supJ xd6) SupH.nil) (lkOk rfl) rfl rfl (fun _ h=>by cases h)
 ·
  refine A7 ?_
  refine RE (xf8 (f:=fun n:Nat=>tE (.int .u16 n)) (xs:=cs) (fun _ h=>h) (xi7 rfl) rfl) ⟨rfl,trivial⟩ ⟨rfl,trivial⟩ trivial (R1 (x3 (c_RTrim _) fi161 rfl) rfl ?_)
  refine A4 ?_
  exact x4 Plain.mk' rfl rfl (Le.of (congrArg tLm (by rw [show i=(dig 65536 a).length by omega] at hv hl;exact rminus_end hl hD (xg7 x8 a) hab hv)))
theorem c_RHalf (a:Nat) (ha:(dig 65536 a).length≤200000):
  Ct Tryz.prog 159 [tM a] (tM (a / 2)):=by
 refine Ct.intro Tryz.func159 rfl Tryz.ntmps159 rfl ?_
 intro w F
 refine A9 ?_
 refine RE (xh1 (k:=8) (t:=tE (.int .u16 0)) (ts:=rW .u16 (List.replicate ((dig 65536 a).length) 0)) ((dig 65536 a).length) ((dig 65536 a).length) Tryz.underlying29 el42 (fun _ _=>rfl) rfl (by omega) (by omega) (Nat.le_refl _) (by omega) (by omega) (xo6 _)) ⟨rfl,rfl,trivial⟩ trivial ⟨rfl,trivial⟩ ?_
 refine A18 ?_
 refine cL (fun (fm:(Nat)×(Nat)×(List Nat))=>(fun (k:Nat) (n:Nat) (qs:List Nat)=>k≤(dig 65536 a).length∧qs.length=(dig 65536 a).length∧Dig 65536 qs∧n%2=a / 65536 ^ k%2∧val 65536 (qs.drop k)=a / 65536 ^ k / 2) fm.1 fm.2.1 fm.2.2) (fun (fm:(Nat)×(Nat)×(List Nat))=>(fun (k:Nat) (n:Nat) (qs:List Nat)=>upd (upd (upd (upd (fun _=>none) 0 (some (.val (tM a)))) 3 (some (.own (.sl 8 1 0 (dig 65536 a).length)))) 4 (some (.val (tI n)))) 5 (some (.val (tI ((k:Int) - 1))))) fm.1 fm.2.1 fm.2.2) (fun (fm:(Nat)×(Nat)×(List Nat))=>(fun (k:Nat) (n:Nat) (qs:List Nat)=>upd (fun _=>none) 8 (some (⟨42,1,false,rW .u16 qs⟩))) fm.1 fm.2.1 fm.2.2) [8] (fun (fm:(Nat)×(Nat)×(List Nat))=>(fun (k:Nat) (n:Nat) (qs:List Nat)=>k) fm.1 fm.2.1 fm.2.2) (((dig 65536 a).length,0,List.replicate (dig 65536 a).length 0)) (by dsimp only;exact ⟨Nat.le_refl _,by simp,Dig.rep (by decide) _,by rw [Nat.div_eq_of_lt (xg7 x8 a)],by rw [Nat.div_eq_of_lt (xg7 x8 a),Nat.zero_div,List.drop_replicate,xg1]⟩) (hh:=((SubK.consI rfl ImpK.refl) SubK.nil)) ?_
 intro fm hI
 obtain ⟨k,n,qs⟩:=fm
 replace hI:k≤(dig 65536 a).length∧qs.length=(dig 65536 a).length∧Dig 65536 qs∧n%2=a / 65536 ^ k%2∧val 65536 (qs.drop k)=a / 65536 ^ k / 2:=hI
 show wc _ _ _ _ (upd (upd (upd (upd (fun _=>none) 0 (some (.val (tM a)))) 3 (some (.own (.sl 8 1 0 (dig 65536 a).length)))) 4 (some (.val (tI n)))) 5 (some (.val (tI ((k:Int) - 1))))) (upd (fun _=>none) 8 (some (⟨42,1,false,rW .u16 qs⟩))) _
 obtain ⟨hk,hl,hD,hn,hv⟩:=hI
 refine A7 ?_
 refine x9 rfl (fun h82=> ?_) (fun h82=> ?_)
 ·
  obtain ⟨j,rfl⟩: ∃j,k=j+1:=⟨k - 1,by omega⟩
  have hx:=xb7 x8 a j
  have hx1:=(xb6 x8 a).getD (by decide) j
  obtain ⟨n1,n2,n3,n4,n5⟩:=half_in (k:=j) (by omega) hl hD hn hv rfl
  rw [←hx] at n1 n2 n3 n4 n5
  refine A7 ?_
  refine R2 (d_rem (r:=((n%2:Nat):Int)) (by decide) (wrem64 (b:=2))) rfl rfl (R2 (xi5 (r:=((n%2*65536:Nat):Int)) (by rw [wr64 (by omega) (by omega)];omega)) rfl rfl ?_)
  refine A2 ?_
  refine R2 (x6 sl29 (j) (by omega) (gN (by omega))) rfl rfl ?_
  refine A1 ?_
  refine R1 (x7 Tryz.underlying3 (isS Tryz.underlying42) (wr64 (by omega) (by omega))) rfl (R2 (xc9 (r:=(((n%2*65536+(dig 65536 a).getD j 0):Nat):Int)) (by rw [wr64 (by omega) (by omega)];omega)) rfl rfl ?_)
  refine A7 ?_
  refine R2 (d_quo (r:=(((n%2*65536+(dig 65536 a).getD j 0) / 2:Nat):Int)) (by decide) (iquo64 (b:=2) (by omega))) rfl rfl (R1 (x7 Tryz.underlying42 (isS Tryz.underlying3) (wu16 (by omega) (by omega))) rfl (R2 (xa5 sl29 (by omega) (by omega) rfl) rfl rfl (RE (xc3 (j) ti42 (xj5 (by omega)) (by omega) (xh3 (m:=_) rfl)) ⟨rfl,rfl,trivial⟩ ⟨rfl,trivial⟩ trivial ?_)))
  refine A8 ?_
  exact kF ((j,(n%2*65536+(dig 65536 a).getD j 0),qs.set j ((n%2*65536+(dig 65536 a).getD j 0) / 2))) ⟨(by dsimp only;exact ⟨by omega,n1,n2,n3,n4⟩),(by dsimp only;omega)⟩ (hh:=((SubK.consI rfl ImpK.refl) SubK.nil))
 ·
  have hk0:k=0:=by omega
  subst hk0
  rw [List.drop_zero,Nat.pow_zero,Nat.div_one] at hv
  refine A7 ?_
  refine RE (xf8 (f:=fun n:Nat=>tE (.int .u16 n)) (xs:=qs) (fun _ h=>h) (xi7 hl) hl) ⟨rfl,trivial⟩ ⟨rfl,trivial⟩ trivial (R1 (x3 (c_RTrim _) fi161 rfl) rfl ?_)
  refine A4 ?_
  exact x4 Plain.mk' rfl rfl (Le.of (congrArg tLm (by rw [xe6 x8 hD,hv])))
theorem c_RFromInt (n:Int) (h1: -9223372036854775808≤n) (h2:n≤9223372036854775807):
  Ct Tryz.prog 93 [tI n] (tWh (wh n)):=by
 refine Ct.intro Tryz.func93 rfl Tryz.ntmps93 rfl ?_
 intro w F
 refine A2 ?_
 refine RE (x5 (k:=2) (n:=2) (agg:=true) zr31.1 zr31.2 rfl) trivial trivial ⟨rfl,trivial⟩ ?_
 refine A5 ?_
 refine R1 (x7 Tryz.underlying82 (isS Tryz.underlying3) toU64) rfl ?_
 refine A3 ?_
 refine xg0 (fun (v:Nat)=>v=n.natAbs) (fun (v:Nat)=>upd (upd (upd (fun _=>none) 0 (some (.val (tI n)))) 2 (some (.own (.ptr 2 0)))) 3 (some (.val (tE (.int .u64 ((v:Nat):Int)))))) (fun (v:Nat)=>upd (fun _=>none) 2 (some (⟨31,2,true,[.val (tWh ⟨false,[]⟩)]⟩))) (nm [2]) ?_ ?_
 ·
  refine A6 ?_
  refine x9 rfl (fun h164=> ?_) (fun h164=> ?_)
  ·
   refine A2 ?_
   refine R1 (d_neg (negU64 (by omega))) rfl ?_
   refine A2 ?_
   exact kF ((18446744073709551616 - (n%18446744073709551616).toNat)%18446744073709551616) (by omega) (hh:=((SubK.consI rfl ImpK.refl) SubK.nil))
  ·
   refine A1 ?_
   exact kF ((n%18446744073709551616).toNat) (by omega) (hh:=((SubK.consI rfl ImpK.refl) SubK.nil))
 ·
  intro v hv
  have hvl:=wh_len v (by omega)
  refine A2 ?_
  refine RE (xj2 (k:=4) 42 1 false rfl (fun _=>rfl)) trivial trivial ⟨rfl,trivial⟩ ?_
  refine A4 ?_
  refine cL (fun (fm:(Nat)×(Nat)×(List Nat))=>(fun (i:Nat) (u:Nat) (cs:List Nat)=>i≤(dig 65536 v).length∧u=v / 65536 ^ i∧cs=dgs 65536 i v∧u < 18446744073709551616) fm.1 fm.2.1 fm.2.2) (fun (fm:(Nat)×(Nat)×(List Nat))=>(fun (i:Nat) (u:Nat) (cs:List Nat)=>upd (upd (upd (upd (fun _=>none) 0 (some (.val (tI n)))) 2 (some (.own (.ptr 2 0)))) 3 (some (.val (tE (.int .u64 ((u:Nat):Int)))))) 4 (some (.own (.sl 4 1 0 cs.length)))) fm.1 fm.2.1 fm.2.2) (fun (fm:(Nat)×(Nat)×(List Nat))=>(fun (i:Nat) (u:Nat) (cs:List Nat)=>upd (upd (fun _=>none) 2 (some (⟨31,2,true,[.val (tWh ⟨false,[]⟩)]⟩))) 4 (some (⟨42,1,false,rW .u16 cs⟩))) fm.1 fm.2.1 fm.2.2) [2,4] (fun (fm:(Nat)×(Nat)×(List Nat))=>(fun (i:Nat) (u:Nat) (cs:List Nat)=>u) fm.1 fm.2.1 fm.2.2) ((0,v,[])) (by dsimp only;exact ⟨Nat.zero_le _,by simp,rfl,by omega⟩) (hh:=((SubK.consI rfl ImpK.refl) ((SubK.consI rfl ImpK.refl) SubK.nil))) ?_
  intro fm hI
  obtain ⟨i,u,cs⟩:=fm
  replace hI:i≤(dig 65536 v).length∧u=v / 65536 ^ i∧cs=dgs 65536 i v∧u < 18446744073709551616:=hI
  show wc _ _ _ _ (upd (upd (upd (upd (fun _=>none) 0 (some (.val (tI n)))) 2 (some (.own (.ptr 2 0)))) 3 (some (.val (tE (.int .u64 ((u:Nat):Int)))))) 4 (some (.own (.sl 4 1 0 cs.length)))) (upd (upd (fun _=>none) 2 (some (⟨31,2,true,[.val (tWh ⟨false,[]⟩)]⟩))) 4 (some (⟨42,1,false,rW .u16 cs⟩))) _
  obtain ⟨hi,hu,hcs,hu64⟩:=hI
  have hcl:cs.length=i:=by rw [hcs,xe1]
  refine A7 ?_
  refine x9 rfl (fun h168=> ?_) (fun h168=> ?_)
  ·
   refine A7 ?_
   refine R2 (d_rem (r:=((u%65536:Nat):Int)) (by decide) (wrem64 (b:=65536))) rfl rfl (R1 (x7 Tryz.underlying42 (isS Tryz.underlying82) (wu16 (by omega) (by omega))) rfl (R1 (xm9 (n:=1) [u%65536] Tryz.underlying29 el42 zf42 rfl rfl rfl) rfl (RE (xc2 (k:=4) (k':=18) (ts':=rW .u16 (cs++[u%65536])) Tryz.underlying29 el42 zf42 rfl rfl (fun _=>inferInstance) xk2 (by simp;omega) (by simp;omega) (by simp [rW]) (n':=cs.length+1) rfl) ⟨rfl,rfl,trivial⟩ ⟨rfl,trivial⟩ ⟨rfl,trivial⟩ ?_)))
   refine A5 ?_
   refine R2 (d_quo (r:=((u / 65536:Nat):Int)) (by decide) (wquo64 (b:=65536) (by omega))) rfl rfl ?_
   refine A3 ?_
   obtain ⟨n1,n2,n3⟩:=from_more hu (by omega)
   exact xf7 (l:=[2,4]) (fun j=>cond (Nat.beq j 4) 18 (j)) ((i+1,u / 65536,cs++[u%65536])) ⟨(by dsimp only;exact ⟨n1,n2,by rw [hcs];exact n3,by omega⟩),(by dsimp only;omega)⟩ ((SubR.consI rfl (Imp.of (by dsimp only;rw [List.length_append];rfl))) (SubR.int rfl (by first | omega | rfl | (dsimp only;omega)) (SubR.cons rfl (SubR.int rfl (by first | omega | rfl | (dsimp only;omega)) SubR.nil)))) ((SubKR.consI rfl (ImpK.of xg6.symm)) ((SubKR.consI rfl ImpK.refl) SubKR.nil)) (SupG.own rfl (SupG.val (SupG.own rfl (SupG.val SupG.nil)))) (SupH.cons rfl (supJ xd6) (SupH.cons rfl (supJL rfl) SupH.nil)) (lkOk rfl) rfl rfl (fun _ h=>by cases h)
  ·
   refine A9 ?_
   have hfin:cs=dig 65536 v:=by rw [hcs];exact from_end (by rw [←hu];omega) hi
   subst hfin
   refine RE (xf8 (f:=fun n:Nat=>tE (.int .u16 n)) (xs:=(dig 65536 v)) (fun _ h=>h) (xi7 rfl) rfl) ⟨rfl,trivial⟩ ⟨rfl,trivial⟩ trivial (R2 (x3 (xo1 _ v) fi128 rfl) rfl rfl ?_)
   refine A4 ?_
   exact xc1 Plain.mk' rfl ⟨_,_,_,_,_,rfl,rfl,ti31,(Le.of (by rw [wh_sgn,hv,wh];congr 2;by_cases h:n < 0 <;> simp [h];omega))⟩
instance fi129:FnI Tryz.prog 129:=⟨_,Tryz.func129,by kernel_rfl,rfl⟩
instance fi156:FnI Tryz.prog 156:=⟨_,Tryz.func156,by kernel_rfl,rfl⟩
instance fi157:FnI Tryz.prog 157:=⟨_,Tryz.func157,by kernel_rfl,rfl⟩
instance fi158:FnI Tryz.prog 158:=⟨_,Tryz.func158,by kernel_rfl,rfl⟩
instance fi159:FnI Tryz.prog 159:=⟨_,Tryz.func159,by kernel_rfl,rfl⟩
instance fi160:FnI Tryz.prog 160:=⟨_,Tryz.func160,by kernel_rfl,rfl⟩
theorem c_RPlusOne (q:Nat) (h:(dig 65536 q).length≤100000):Ct Tryz.prog 158 [tM q,tLm [1]] (tM (q+1)):=by
 have e:dig 65536 1=[1]:=by rw [xk6 x8 (by decide),show (1:Nat) / 65536=0 by decide,xd0]
 have:=c_RPlus q 1 h (by rw [e];decide)
 rw [tM,tM,e] at this;exact this
theorem lenM {a b k:Nat} (h:a≤b) (hb:(dig 65536 b).length≤k):(dig 65536 a).length≤k:=Nat.le_trans (xe0 x8 h) hb
theorem one_dec {l:List Nat} (h:l.length=1):decide (((l.getD 0 0:Nat):Int)=1)=decide (l=[1]):=by
 obtain ⟨a,rfl⟩:=List.length_eq_one_iff.1 h
 simp
 omega
theorem low_sgn {n d:Int} (hd:d≠0):fr (Rat.divInt n d)=⟨wh (sgn (!((wh n).neg==(wh d).neg)) (n.natAbs / Nat.gcd n.natAbs d.natAbs)),wh (sgn false (d.natAbs / Nat.gcd n.natAbs d.natAbs))⟩:=by
 have key: ∀(n d:Int),0 < d→fr (Rat.divInt n d)=⟨wh (sgn (decide (n < 0)) (n.natAbs / Nat.gcd n.natAbs d.natAbs)),wh (sgn false (d.natAbs / Nat.gcd n.natAbs d.natAbs))⟩:=fun n d h=>by
  rw [xt7 h]
  have hg:(Int.gcd n d:Nat)=Nat.gcd n.natAbs d.natAbs:=rfl
  rw [hg]
  have hdn:Nat.gcd n.natAbs d.natAbs ∣ n.natAbs:=Nat.gcd_dvd_left _ _
  have hdd:Nat.gcd n.natAbs d.natAbs ∣ d.natAbs:=Nat.gcd_dvd_right _ _
  generalize Nat.gcd n.natAbs d.natAbs=g at*
  have e2:d / (g:Int)=sgn false (d.natAbs / g):=by
   show _=((d.natAbs / g:Nat):Int)
   rw [Int.natCast_ediv];congr 1;omega
  have e1:n / (g:Int)=sgn (decide (n < 0)) (n.natAbs / g):=by
   by_cases hn:n < 0
   ·rw [decide_eq_true hn]
    show _= -((n.natAbs / g:Nat):Int)
    have:n= -(n.natAbs:Int):=by omega
    conv=>lhs;rw [this]
    rw [Int.neg_ediv_of_dvd (Int.natCast_dvd_natCast.2 hdn),Int.natCast_ediv]
   ·rw [decide_eq_false hn]
    show _=((n.natAbs / g:Nat):Int)
    rw [Int.natCast_ediv];congr 1;omega
  rw [e1,e2]
 rcases Int.lt_or_gt_of_ne hd with h | h
 ·have e:Rat.divInt n d=Rat.divInt (-n) (-d):=(Rat.neg_divInt_neg n d).symm
  rw [e,key (-n) (-d) (by omega),Int.natAbs_neg,Int.natAbs_neg]
  have e3:(wh d).neg=true:=decide_eq_true h
  have e4:(wh n).neg=decide (n < 0):=rfl
  rw [e3,e4]
  by_cases h0:n=0
  ·subst h0;simp [sgn]
  ·have:decide (-n < 0)= !(decide (n < 0)==true):=by
    by_cases hn:n < 0
    ·simp [hn];omega
    ·simp [hn];omega
   rw [this]
 ·rw [key n d h]
  have e3:(wh d).neg=false:=decide_eq_false (by omega)
  have e4:(wh n).neg=decide (n < 0):=rfl
  rw [e3,e4];simp
theorem c_RDivided (a b:Nat) (hb:0 < b) (ha:(dig 65536 a).length≤4000) (hbl:(dig 65536 b).length≤4000):
  Ct Tryz.prog 129 [tM a,tM b] (tT [tM (a / b),tM (a%b)]):=by
 refine Ct.intro Tryz.func129 rfl Tryz.ntmps129 rfl ?_
 intro w F
 refine A14 ?_
 refine x9 rfl (fun h103=> ?_) (fun h103=> ?_)
 ·
  have hb0:=one_limb (b:=b) (by omega)
  have hbW:=(xb6 x8 b).getD (by decide) 0
  refine A4 ?_
  refine R2 (x6 sl29 (0) (by omega) (gN (by omega))) rfl rfl ?_
  refine A1 ?_
  refine R1 (x7 Tryz.underlying3 (isS Tryz.underlying42) (wr64 (by omega) (by omega))) rfl (R2 (x3 (c_RShort a _ (by omega) (by omega) (by omega)) fi156 rfl) rfl rfl ?_)
  refine A8 ?_
  exact xc5 Plain.mk' rfl rfl rfl (Le.of (by rw [hb0])) (Le.of (by rw [hb0]))
 ·
  refine A15 ?_
  refine cL (fun (n:Nat)=>n=0∨b*2 ^ n≤a+a) (fun (n:Nat)=>upd (upd (upd (upd (fun _=>none) 0 (some (.val (tM a)))) 1 (some (.val (tM b)))) 6 (some (.val (tI n)))) 7 (some (.val (tM (b*2 ^ n))))) (fun (n:Nat)=>fun _=>none) [] (fun (n:Nat)=>a+1 - b*2 ^ n) (0) (.inl rfl) (hg:=(Sub.le rfl (Le.of (by first | rw [Nat.pow_zero,Nat.mul_one] | (dsimp only;rw [Nat.pow_zero,Nat.mul_one]))) (sI (sC (sC Sub.nil))))) ?_
  intro n hI
  have hn:n < 16*4001:=by
   rcases hI with h | h
   ·omega
   ·refine bits_le (a:=a+a) ?_ (by have:=len_dbl ha ha;omega)
    exact Nat.le_trans (Nat.le_mul_of_pos_left _ hb) h
  refine A5 ?_
  refine R2 (x3 (c_RLess a (b*2 ^ n)) fi157 rfl) rfl rfl ?_
  refine A3 ?_
  refine xc0 rfl (fun h107=> ?_) (fun h107=> ?_)
  ·
   have hle:b*2 ^ n≤a:=by
    have h:=h107
    simp at h;exact h
   have hnl:=lenM hle ha
   refine A7 ?_
   refine R2 (x3 (c_RPlus (b*2 ^ n) (b*2 ^ n) (by omega) (by omega)) fi158 rfl) rfl rfl ?_
   refine A9 ?_
   have he:b*2 ^ n+b*2 ^ n=b*2 ^ (n+1):=by rw [Nat.pow_succ,←Nat.mul_assoc,Nat.mul_two]
   have hp:0 < b*2 ^ n:=Nat.mul_pos hb (Nat.pow_pos (by decide))
   exact kF (n+1) ⟨(.inr (by omega)),(by show a+1 - b*2 ^ (n+1) < a+1 - b*2 ^ n;omega)⟩ (hg:=(Sub.le rfl (Le.of (by rw [he])) (sI (sC (sC Sub.nil)))))
  ·
   have hlt:a < b*2 ^ n:=by
    have h:=h107
    simp at h;exact h
   have hnl:(dig 65536 (b*2 ^ n)).length≤4001:=by
    rcases hI with h | h
    ·rw [h,Nat.pow_zero,Nat.mul_one];omega
    ·exact lenM h (len_dbl ha ha)
   refine A18 ?_
   refine cL (fun (i:Nat)=>i≤n) (fun (i:Nat)=>upd (upd (upd (upd (upd (fun _=>none) 0 (some (.val (tM a)))) 1 (some (.val (tM b)))) 6 (some (.val (tI n)))) 8 (some (.val (tM (b*2 ^ i))))) 9 (some (.val (tI i)))) (fun (i:Nat)=>fun _=>none) [] (fun (i:Nat)=>n - i) (0) (Nat.zero_le _) (hg:=(sI (Sub.le rfl (Le.of (by first | rw [Nat.pow_zero,Nat.mul_one] | (dsimp only;rw [Nat.pow_zero,Nat.mul_one]))) (sI (sC (sC Sub.nil)))))) ?_
   intro i hJ
   refine A8 ?_
   refine x9 rfl (fun h111=> ?_) (fun h111=> ?_)
   ·
    have hil:(dig 65536 (b*2 ^ i)).length≤4001:=lenM (Nat.mul_le_mul_left _ (Nat.pow_le_pow_right (by decide) (by omega))) hnl
    refine A7 ?_
    refine R2 (x3 (c_RPlus (b*2 ^ i) (b*2 ^ i) (by omega) (by omega)) fi158 rfl) rfl rfl ?_
    refine A9 ?_
    have he:b*2 ^ i+b*2 ^ i=b*2 ^ (i+1):=by rw [Nat.pow_succ,←Nat.mul_assoc,Nat.mul_two]
    exact kF (i+1) ⟨(by omega),(by omega)⟩ (hg:=(sI (Sub.le rfl (Le.of (by rw [he])) (sI (sC (sC Sub.nil))))))
   ·
    refine A12 ?_
    refine RE (d_sliceOfO (k:=43) (ents:=[]) Tryz.underlying29 el42 zf42 rfl (by simp) rfl rfl rfl) trivial trivial ⟨rfl,trivial⟩ ?_
    refine A1 ?_
    refine RE (xc2 (k:=43) (k':=45) (ts':=rW .u16 (dig 65536 a)) Tryz.underlying29 el42 zf42 rfl rfl (fun _=>inferInstance) rfl (by simp;omega) (by simp;omega) (by simp [rW]) (n':=(dig 65536 a).length) (by simp)) ⟨rfl,rfl,trivial⟩ ⟨rfl,trivial⟩ ⟨rfl,trivial⟩ (RE (xt9 (f:=fun n:Nat=>tE (.int .u16 n)) (xs:=dig 65536 a) (fun _ h=>h) (xi7 rfl) rfl) ⟨rfl,trivial⟩ ⟨rfl,trivial⟩ trivial ?_)
    refine A9 ?_
    refine cL (fun (fm:(Nat)×(Nat)×(Nat)×(Nat))=>(fun (j:Nat) (q:Nat) (r:Nat) (d:Nat)=>j≤n∧d=b*2 ^ (n - j)∧a=q*d+r∧r < d) fm.1 fm.2.1 fm.2.2.1 fm.2.2.2) (fun (fm:(Nat)×(Nat)×(Nat)×(Nat))=>(fun (j:Nat) (q:Nat) (r:Nat) (d:Nat)=>upd (upd (upd (upd (upd (fun _=>none) 6 (some (.val (tI n)))) 8 (some (.val (tM d)))) 10 (some (.val (tM q)))) 11 (some (.val (tM r)))) 12 (some (.val (tI j)))) fm.1 fm.2.1 fm.2.2.1 fm.2.2.2) (fun (fm:(Nat)×(Nat)×(Nat)×(Nat))=>(fun (j:Nat) (q:Nat) (r:Nat) (d:Nat)=>fun _=>none) fm.1 fm.2.1 fm.2.2.1 fm.2.2.2) [] (fun (fm:(Nat)×(Nat)×(Nat)×(Nat))=>(fun (j:Nat) (q:Nat) (r:Nat) (d:Nat)=>n - j) fm.1 fm.2.1 fm.2.2.1 fm.2.2.2) ((0,0,a,b*2 ^ n)) (by dsimp only;exact ⟨Nat.zero_le _,rfl,by omega,by omega⟩) (hg:=(sI (sC (Sub.le rfl (leNil (xd0 _)) (Sub.le rfl (Le.of (by first | rw [show i=n by omega] | (dsimp only;rw [show i=n by omega]))) (sI Sub.nil)))))) ?_
    intro fm hK
    obtain ⟨j,q,r,d⟩:=fm
    replace hK:j≤n∧d=b*2 ^ (n - j)∧a=q*d+r∧r < d:=hK
    show wc _ _ _ _ (upd (upd (upd (upd (upd (fun _=>none) 6 (some (.val (tI n)))) 8 (some (.val (tM d)))) 10 (some (.val (tM q)))) 11 (some (.val (tM r)))) 12 (some (.val (tI j)))) (fun _=>none) _
    obtain ⟨hj,hd,hq,hr⟩:=hK
    have hqa:q≤a:=by
     have h1:q*1≤q*d:=Nat.mul_le_mul_left _ (by omega)
     omega
    have hql:=lenM hqa ha
    have hdn:b*2 ^ (n - j)≤b*2 ^ n:=Nat.mul_le_mul_left _ (Nat.pow_le_pow_right (by decide) (by omega))
    have hdl:(dig 65536 d).length≤4001:=by rw [←hd] at hdn;exact lenM hdn hnl
    have hqq:=len_dbl hql hql
    refine A8 ?_
    refine x9 rfl (fun h116=> ?_) (fun h116=> ?_)
    ·
     refine A7 ?_
     refine R1 (x3 (c_RHalf d (by omega)) fi159 rfl) rfl ?_
     refine A7 ?_
     refine R2 (x3 (c_RPlus q q (by omega) (by omega)) fi158 rfl) rfl rfl ?_
     refine A7 ?_
     refine R2 (x3 (c_RLess r (d / 2)) fi157 rfl) rfl rfl ?_
     refine A3 ?_
     refine xc0 rfl (fun h119=> ?_) (fun h119=> ?_)
     ·
      have hge:d / 2≤r:=by
       have h:=h119
       simp at h;exact h
      refine A4 ?_
      refine R2 (x3 (c_RMinus r (d / 2) (by omega) (by have:=lenM (Nat.le_of_lt hr) hdl;omega)) fi160 rfl) rfl rfl ?_
      refine A5 ?_
      refine R1 (xm9 (n:=1) [1] Tryz.underlying29 el42 zf42 rfl rfl rfl) rfl (R2 (x3 (c_RPlusOne (q+q) (by omega)) fi158 rfl) rfl rfl ?_)
      refine A9 ?_
      obtain ⟨b1,b2,b3⟩:=div_bit (by omega) hd hq hr
      obtain ⟨b4,b5,b6⟩:=b3 (by omega)
      exact kF ((j+1,q+q+1,r - d / 2,d / 2)) ⟨(by dsimp only;exact ⟨by omega,b1,b4,b5⟩),(by dsimp only;omega)⟩
     ·
      have hge:r < d / 2:=by
       have h:=h119
       simp at h;exact h
      refine A8 ?_
      obtain ⟨b1,b2,b3⟩:=div_bit (by omega) hd hq hr
      exact kF ((j+1,q+q,r,d / 2)) ⟨(by dsimp only;exact ⟨by omega,b1,b2 (by omega),by omega⟩),(by dsimp only;omega)⟩
    ·
     have hdb:d=b:=by rw [hd,show n - j=0 by omega,Nat.pow_zero,Nat.mul_one]
     rw [hdb] at hq hr
     obtain ⟨e1,e2⟩:=div_done hq hr
     refine A14 ?_
     exact xc5 Plain.mk' rfl rfl rfl (Le.of (by rw [e1])) (Le.of (by rw [e2]))
theorem c_RCommon (a b:Nat) (ha:(dig 65536 a).length≤4000) (hb:(dig 65536 b).length≤4000):
  Ct Tryz.prog 97 [tM a,tM b] (tM (Nat.gcd a b)):=by
 refine Ct.intro Tryz.func97 rfl Tryz.ntmps97 rfl ?_
 intro w F
 refine A7 ?_
 refine cL (fun (fm:(Nat)×(Nat))=>(fun (x:Nat) (y:Nat)=>Nat.gcd x y=Nat.gcd a b∧(dig 65536 x).length≤4000∧(dig 65536 y).length≤4000) fm.1 fm.2) (fun (fm:(Nat)×(Nat))=>(fun (x:Nat) (y:Nat)=>upd (upd (fun _=>none) 0 (some (.val (tM x)))) 1 (some (.val (tM y)))) fm.1 fm.2) (fun (fm:(Nat)×(Nat))=>(fun (x:Nat) (y:Nat)=>fun _=>none) fm.1 fm.2) [] (fun (fm:(Nat)×(Nat))=>(fun (x:Nat) (y:Nat)=>y) fm.1 fm.2) ((a,b)) (by dsimp only;exact ⟨rfl,ha,hb⟩) ?_
 intro fm hI
 obtain ⟨x,y⟩:=fm
 replace hI:Nat.gcd x y=Nat.gcd a b∧(dig 65536 x).length≤4000∧(dig 65536 y).length≤4000:=hI
 show wc _ _ _ _ (upd (upd (fun _=>none) 0 (some (.val (tM x)))) 1 (some (.val (tM y)))) (fun _=>none) _
 obtain ⟨hg,hx,hy⟩:=hI
 refine A8 ?_
 refine x9 rfl (fun h261=> ?_) (fun h261=> ?_)
 ·
  have hy0:0 < y:=by have:=len_ne.1 h261;omega
  refine A7 ?_
  refine R2 (x3 (c_RDivided x y hy0 hx hy) fi129 rfl) rfl rfl ?_
  refine A18 ?_
  have hlt:x%y < y:=Nat.mod_lt _ hy0
  exact kF ((y,x%y)) ⟨(by dsimp only;exact ⟨by rw [Nat.gcd_comm,←Nat.gcd_rec,Nat.gcd_comm];exact hg,hy,lenM (Nat.le_of_lt hlt) hy⟩),(by dsimp only;omega)⟩
 ·
  have hy0:y=0:=Classical.byContradiction fun h=>h261 (len_ne.2 h)
  refine A12 ?_
  exact x4 Plain.mk' rfl rfl (Le.of (by rw [←hg,hy0,Nat.gcd_zero_right]))
theorem c_Rone (l:List Nat):
  Ct Tryz.prog 96 [tLm l] (tB (decide (l=[1]))):=by
 refine Ct.intro Tryz.func96 rfl Tryz.ntmps96 rfl ?_
 intro w F
 refine A11 ?_
 refine RGcaseD (t:=6) rfl (fun h24=> ?_) (fun h24=> ?_)
 ·
  refine A1 ?_
  refine RGon (decide_eq_true h24) rfl (x6 sl29 (0) (by omega) (gN (by omega))) rfl ⟨rfl,rfl,trivial⟩ trivial trivial ?_
  refine A7 ?_
  exact x4 Plain.mk' rfl rfl (Le.bool (one_dec (by omega)))
 ·
  refine A9 ?_
  exact x4 Plain.mk' rfl rfl (Le.bool (decide_eq_false (fun h=>h24 (by rw [h];rfl))).symm)
instance fi96:FnI Tryz.prog 96:=⟨_,Tryz.func96,by kernel_rfl,rfl⟩
instance fi97:FnI Tryz.prog 97:=⟨_,Tryz.func97,by kernel_rfl,rfl⟩
theorem c_RLowest (n d:Int) (hn:len16 n≤4000) (hd:len16 d≤4000) (hd0:d≠0):
  Ct Tryz.prog 127 [tWh (wh n),tWh (wh d)] (tFr (fr (Rat.divInt n d))):=by
 have hg0:0 < (Nat.gcd n.natAbs d.natAbs):=Nat.gcd_pos_of_pos_right _ (by omega)
 have hgl:=lenM (Nat.le_of_dvd (by omega) (Nat.gcd_dvd_right n.natAbs d.natAbs)) hd
 refine Ct.intro Tryz.func127 rfl Tryz.ntmps127 rfl ?_
 intro w F
 refine A4 ?_
 refine RE (x5 (k:=4) (n:=4) (agg:=true) zr33.1 zr33.2 rfl) trivial trivial ⟨rfl,trivial⟩ ?_
 refine A8 ?_
 refine R2 (x3 (c_RCommon n.natAbs d.natAbs hn hd) fi97 rfl) rfl rfl ?_
 refine A7 ?_
 refine R1 (x3 (c_Rone _) fi96 rfl) rfl ?_
 refine A2 ?_
 refine xc0 rfl (fun h15=> ?_) (fun h15=> ?_)
 ·
  have hg1:(Nat.gcd n.natAbs d.natAbs)=1:=by
   have h:=of_decide_eq_true h15
   rw [←xm7 x8 (Nat.gcd n.natAbs d.natAbs),h];rfl
  refine A9 ?_
  refine R2 (x3 (xo1 (!((wh n).neg==(wh d).neg)) n.natAbs) fi128 rfl) rfl rfl ?_
  refine A2 ?_
  refine R2 (x3 (xo1 false d.natAbs) fi128 rfl) rfl rfl (R2 (xa7 (r:=tS [⟨2,true,tWh (wh (sgn (!((wh n).neg==(wh d).neg)) n.natAbs))⟩,⟨2,true,tWh (wh (sgn false d.natAbs))⟩]) (ts:=[(0,tWh (wh (sgn (!((wh n).neg==(wh d).neg)) n.natAbs))),(1,tWh (wh (sgn false d.natAbs)))]) bu33 zr33.2 (Bc 0 rfl rfl rfl (Bc 1 rfl rfl rfl Le.refl))) rfl rfl ?_)
  refine A5 ?_
  exact xc1 Plain.mk' rfl ⟨_,_,_,_,_,rfl,rfl,ti33,(Le.of (by rw [low_sgn hd0,hg1,Nat.div_one,Nat.div_one]))⟩
 ·
  refine A7 ?_
  refine R2 (x3 (c_RDivided n.natAbs (Nat.gcd n.natAbs d.natAbs) hg0 hn hgl) fi129 rfl) rfl rfl ?_
  refine A12 ?_
  refine R2 (x3 (c_RDivided d.natAbs (Nat.gcd n.natAbs d.natAbs) hg0 hd hgl) fi129 rfl) rfl rfl ?_
  refine A15 ?_
  refine R2 (x3 (xo1 (!((wh n).neg==(wh d).neg)) (n.natAbs / (Nat.gcd n.natAbs d.natAbs))) fi128 rfl) rfl rfl ?_
  refine A1 ?_
  refine R2 (x3 (xo1 false (d.natAbs / (Nat.gcd n.natAbs d.natAbs))) fi128 rfl) rfl rfl (R2 (xa7 (r:=tS [⟨2,true,tWh (wh (sgn (!((wh n).neg==(wh d).neg)) (n.natAbs / (Nat.gcd n.natAbs d.natAbs))))⟩,⟨2,true,tWh (wh (sgn false (d.natAbs / (Nat.gcd n.natAbs d.natAbs))))⟩]) (ts:=[(0,tWh (wh (sgn (!((wh n).neg==(wh d).neg)) (n.natAbs / (Nat.gcd n.natAbs d.natAbs))))),(1,tWh (wh (sgn false (d.natAbs / (Nat.gcd n.natAbs d.natAbs)))))]) bu33 zr33.2 (Bc 0 rfl rfl rfl (Bc 1 rfl rfl rfl Le.refl))) rfl rfl ?_)
  refine A4 ?_
  exact xc1 Plain.mk' rfl ⟨_,_,_,_,_,rfl,rfl,ti33,(Le.of (by rw [low_sgn hd0]))⟩
theorem any_next {i:Nat} {f:Nat→Bool}:(List.range (i+1)).any f=((List.range i).any f || f i):=by
 rw [List.range_succ,List.any_append];simp
end An.S
namespace An
open Go
theorem mul_lt16 {x y:Nat} (hx:x < 65536) (hy:y < 65536):x*y≤4294836225:=by
 have:=Nat.mul_le_mul (show x≤65535 by omega) (show y≤65535 by omega)
 omega
theorem rtimes_in {b i j c x y s la:Nat} {w0 vs:List Nat} (hl:vs.length=la) (hD:Dig 65536 vs) (hw:w0.length=la) (hdr:vs.drop (i+j)=w0.drop (i+j)) (hij:i+j < la) (hc:c < 65536) (hx:x < 65536) (hy:y=b / 65536 ^ j%65536)
  (hs:s=x*y+vs.getD (i+j) 0+c) (h:val 65536 (vs.take (i+j))+c*65536 ^ (i+j)=val 65536 (w0.take (i+j))+x*65536 ^ i*(b%65536 ^ j)):
  (vs.set (i+j) (s%65536)).length=la∧Dig 65536 (vs.set (i+j) (s%65536))∧(vs.set (i+j) (s%65536)).drop (i+(j+1))=w0.drop (i+(j+1))∧s / 65536 < 65536∧
   val 65536 ((vs.set (i+j) (s%65536)).take (i+(j+1)))+s / 65536*65536 ^ (i+(j+1))=val 65536 (w0.take (i+(j+1)))+x*65536 ^ i*(b%65536 ^ (j+1)):=by
 have hyW:y < 65536:=by rw [hy];exact Nat.mod_lt _ (by decide)
 have hg:vs.getD (i+j) 0 < 65536:=hD.getD (by decide) _
 refine ⟨by simpa using hl,hD.set (Nat.mod_lt _ (by decide)),by rw [←Nat.add_assoc,xe8];exact xj1 hdr (by omega),?_,?_⟩
 ·have:=mul_lt16 hx hyW
  refine Nat.div_lt_of_lt_mul ?_
  show s < 65536*65536
  have:vs.getD (i+j) 0 < 65536:=hg
  have:c < 65536:=hc
  omega
 ·rw [←Nat.add_assoc,xf3 (by omega),xe2 _ w0 _ (by omega),←xh8 hdr (Nat.le_refl _)]
  exact mul_step h hs hy
theorem rtimes_out {a b i c la lb:Nat} {w0 vs:List Nat} (hi:i < la) (hw:w0.length=la+lb) (hl:vs.length=la+lb) (hD:Dig 65536 vs) (hdr:vs.drop (i+lb)=w0.drop (i+lb)) (hz:w0.drop (i+lb)=List.replicate (la - i) 0) (hc:c < 65536)
  (h0:val 65536 (w0.take (i+lb))=a%65536 ^ i*b) (hb:b < 65536 ^ lb) (h:val 65536 (vs.take (i+lb))+c*65536 ^ (i+lb)=val 65536 (w0.take (i+lb))+a / 65536 ^ i%65536*65536 ^ i*(b%65536 ^ lb)):
  (vs.set (i+lb) c).length=la+lb∧Dig 65536 (vs.set (i+lb) c)∧(vs.set (i+lb) c).drop (i+1+lb)=List.replicate (la - (i+1)) 0∧val 65536 ((vs.set (i+lb) c).take (i+1+lb))=a%65536 ^ (i+1)*b:=by
 refine ⟨by simpa using hl,hD.set hc,?_,?_⟩
 ·rw [show i+1+lb=i+lb+1 by omega,xe8,xj1 (j:=i+lb+1) hdr (by omega),←List.drop_drop,hz,List.drop_replicate];congr 1
 ·rw [show i+1+lb=i+lb+1 by omega,xf3 (by omega),Nat.mul_comm _ c,h,h0,xh7,Nat.mod_eq_of_lt hb,Nat.add_mul]
  congr 1
  rw [Nat.mul_comm (65536 ^ i)]
theorem rtimes_end {a b la lb:Nat} {ws:List Nat} (hl:ws.length=la+lb) (hD:Dig 65536 ws) (ha:a < 65536 ^ la) (h:val 65536 (ws.take (la+lb))=a%65536 ^ la*b):trimL ws=dig 65536 (a*b):=by
 rw [xe6 x8 hD]
 rw [←hl,List.take_length,Nat.mod_eq_of_lt ha] at h
 rw [h]
end An
namespace An.S
open Go Go.Proofs An
instance fi63:FnI Tryz.prog 63:=⟨_,Tryz.func63,by kernel_rfl,rfl⟩
instance fi91:FnI Tryz.prog 91:=⟨_,Tryz.func91,by kernel_rfl,rfl⟩
instance fi93:FnI Tryz.prog 93:=⟨_,Tryz.func93,by kernel_rfl,rfl⟩
instance fi94:FnI Tryz.prog 94:=⟨_,Tryz.func94,by kernel_rfl,rfl⟩
instance fi95:FnI Tryz.prog 95:=⟨_,Tryz.func95,by kernel_rfl,rfl⟩
instance fi98:FnI Tryz.prog 98:=⟨_,Tryz.func98,by kernel_rfl,rfl⟩
instance fi99:FnI Tryz.prog 99:=⟨_,Tryz.func99,by kernel_rfl,rfl⟩
instance fi125:FnI Tryz.prog 125:=⟨_,Tryz.func125,by kernel_rfl,rfl⟩
instance fi127:FnI Tryz.prog 127:=⟨_,Tryz.func127,by kernel_rfl,rfl⟩
instance fi130:FnI Tryz.prog 130:=⟨_,Tryz.func130,by kernel_rfl,rfl⟩
instance fi131:FnI Tryz.prog 131:=⟨_,Tryz.func131,by kernel_rfl,rfl⟩
instance fi132:FnI Tryz.prog 132:=⟨_,Tryz.func132,by kernel_rfl,rfl⟩
theorem c_RTimes (a b:Nat) (ha:(dig 65536 a).length≤100000) (hb:(dig 65536 b).length≤100000):
  Ct Tryz.prog 132 [tM a,tM b] (tM (a*b)):=by
 refine Ct.intro Tryz.func132 rfl Tryz.ntmps132 rfl ?_
 intro w F
 have hbW:=xg7 x8 b
 refine A12 ?_
 refine RE (xh1 (k:=14) (t:=tE (.int .u16 0)) (ts:=rW .u16 (List.replicate (((dig 65536 a).length+(dig 65536 b).length)) 0)) (((dig 65536 a).length+(dig 65536 b).length)) (((dig 65536 a).length+(dig 65536 b).length)) Tryz.underlying29 el42 (fun _ _=>rfl) rfl (by omega) (by omega) (Nat.le_refl _) (by omega) (by omega) (xo6 _)) ⟨rfl,rfl,trivial⟩ trivial ⟨rfl,trivial⟩ ?_
 refine A10 ?_
 refine cL (fun (fm:(Nat)×(List Nat))=>(fun (i:Nat) (ws:List Nat)=>i≤(dig 65536 a).length∧ws.length=(dig 65536 a).length+(dig 65536 b).length∧Dig 65536 ws∧ws.drop (i+(dig 65536 b).length)=List.replicate ((dig 65536 a).length - i) 0∧val 65536 (ws.take (i+(dig 65536 b).length))=a%65536 ^ i*b) fm.1 fm.2) (fun (fm:(Nat)×(List Nat))=>(fun (i:Nat) (ws:List Nat)=>upd (upd (upd (upd (fun _=>none) 0 (some (.val (tM a)))) 1 (some (.val (tM b)))) 5 (some (.own (.sl 14 1 0 ((dig 65536 a).length+(dig 65536 b).length))))) 6 (some (.val (tI i)))) fm.1 fm.2) (fun (fm:(Nat)×(List Nat))=>(fun (i:Nat) (ws:List Nat)=>upd (fun _=>none) 14 (some (⟨42,1,false,rW .u16 ws⟩))) fm.1 fm.2) [14] (fun (fm:(Nat)×(List Nat))=>(fun (i:Nat) (ws:List Nat)=>(dig 65536 a).length - i) fm.1 fm.2) ((0,List.replicate ((dig 65536 a).length+(dig 65536 b).length) 0)) (by dsimp only;exact ⟨Nat.zero_le _,by simp,Dig.rep (by decide) _,by rw [List.drop_replicate];congr 1;omega,by rw [List.take_replicate,xg1,Nat.pow_zero,Nat.mod_one,Nat.zero_mul]⟩) (hh:=((SubK.consI rfl ImpK.refl) SubK.nil)) ?_
 intro fm hI
 obtain ⟨i,ws⟩:=fm
 replace hI:i≤(dig 65536 a).length∧ws.length=(dig 65536 a).length+(dig 65536 b).length∧Dig 65536 ws∧ws.drop (i+(dig 65536 b).length)=List.replicate ((dig 65536 a).length - i) 0∧val 65536 (ws.take (i+(dig 65536 b).length))=a%65536 ^ i*b:=hI
 show wc _ _ _ _ (upd (upd (upd (upd (fun _=>none) 0 (some (.val (tM a)))) 1 (some (.val (tM b)))) 5 (some (.own (.sl 14 1 0 ((dig 65536 a).length+(dig 65536 b).length))))) 6 (some (.val (tI i)))) (upd (fun _=>none) 14 (some (⟨42,1,false,rW .u16 ws⟩))) _
 obtain ⟨hi,hl,hD,hz,hv⟩:=hI
 have hx:=xb7 x8 a i
 have hx1:=(xb6 x8 a).getD (by omega) i
 refine A9 ?_
 refine x9 rfl (fun h66=> ?_) (fun h66=> ?_)
 ·
  refine A16 ?_
  refine cL (fun (fm:(Nat)×(List Nat)×(Nat))=>(fun (j:Nat) (vs:List Nat) (c:Nat)=>j≤(dig 65536 b).length∧vs.length=(dig 65536 a).length+(dig 65536 b).length∧Dig 65536 vs∧vs.drop (i+j)=ws.drop (i+j)∧c < 65536∧val 65536 (vs.take (i+j))+c*65536 ^ (i+j)=val 65536 (ws.take (i+j))+(dig 65536 a).getD i 0*65536 ^ i*(b%65536 ^ j)) fm.1 fm.2.1 fm.2.2) (fun (fm:(Nat)×(List Nat)×(Nat))=>(fun (j:Nat) (vs:List Nat) (c:Nat)=>upd (upd (upd (upd (upd (upd (fun _=>none) 0 (some (.val (tM a)))) 1 (some (.val (tM b)))) 5 (some (.own (.sl 14 1 0 ((dig 65536 a).length+(dig 65536 b).length))))) 6 (some (.val (tI i)))) 7 (some (.val (tI c)))) 8 (some (.val (tI j)))) fm.1 fm.2.1 fm.2.2) (fun (fm:(Nat)×(List Nat)×(Nat))=>(fun (j:Nat) (vs:List Nat) (c:Nat)=>upd (fun _=>none) 14 (some (⟨42,1,false,rW .u16 vs⟩))) fm.1 fm.2.1 fm.2.2) [14] (fun (fm:(Nat)×(List Nat)×(Nat))=>(fun (j:Nat) (vs:List Nat) (c:Nat)=>(dig 65536 b).length - j) fm.1 fm.2.1 fm.2.2) ((0,ws,0)) (by dsimp only;exact ⟨Nat.zero_le _,hl,hD,rfl,by omega,by rw [Nat.pow_zero,Nat.mod_one];omega⟩) (hh:=((SubK.consI rfl ImpK.refl) SubK.nil)) ?_
  intro fm hJ
  obtain ⟨j,vs,c⟩:=fm
  replace hJ:j≤(dig 65536 b).length∧vs.length=(dig 65536 a).length+(dig 65536 b).length∧Dig 65536 vs∧vs.drop (i+j)=ws.drop (i+j)∧c < 65536∧val 65536 (vs.take (i+j))+c*65536 ^ (i+j)=val 65536 (ws.take (i+j))+(dig 65536 a).getD i 0*65536 ^ i*(b%65536 ^ j):=hJ
  show wc _ _ _ _ (upd (upd (upd (upd (upd (upd (fun _=>none) 0 (some (.val (tM a)))) 1 (some (.val (tM b)))) 5 (some (.own (.sl 14 1 0 ((dig 65536 a).length+(dig 65536 b).length))))) 6 (some (.val (tI i)))) 7 (some (.val (tI c)))) 8 (some (.val (tI j)))) (upd (fun _=>none) 14 (some (⟨42,1,false,rW .u16 vs⟩))) _
  obtain ⟨hj,kl,kD,kdr,kc,kv⟩:=hJ
  have hy:=xb7 x8 b j
  have hy1:=(xb6 x8 b).getD (by omega) j
  have hw1:=kD.getD (by omega) (i+j)
  have hxy:=mul_lt16 hx1 hy1
  refine A9 ?_
  refine x9 rfl (fun h68=> ?_) (fun h68=> ?_)
  ·
   refine A9 ?_
   refine R2 (x6 sl29 (i) (by omega) (gN (by omega))) rfl rfl ?_
   refine A1 ?_
   refine R1 (x7 Tryz.underlying3 (isS Tryz.underlying42) (wr64 (by omega) (by omega))) rfl ?_
   refine A2 ?_
   refine R2 (x6 sl29 (j) (by omega) (gN (by omega))) rfl rfl ?_
   refine A1 ?_
   refine R1 (x7 Tryz.underlying3 (isS Tryz.underlying42) (wr64 (by omega) (by omega))) rfl (R2 (xi5 (r:=(((dig 65536 a).getD i 0*(dig 65536 b).getD j 0:Nat):Int)) (by rw [←Int.natCast_mul,wr64 (by omega) (by omega)])) rfl rfl (R2 (xc9 (r:=((c+(dig 65536 a).getD i 0*(dig 65536 b).getD j 0:Nat):Int)) (by rw [wr64 (by omega) (by omega)];omega)) rfl rfl ?_))
   refine A4 ?_
   refine R2 (xa5 sl29 (by omega) (by omega) rfl) rfl rfl (RE (xd8 (i+j) ti42 (xn6 (by omega)) (by omega)) ⟨rfl,trivial⟩ ⟨rfl,trivial⟩ trivial (R1 (x7 Tryz.underlying3 (isS Tryz.underlying42) (wr64 (by omega) (by omega))) rfl (R2 (xc9 (r:=(((c+(dig 65536 a).getD i 0*(dig 65536 b).getD j 0+vs.getD (i+j) 0):Nat):Int)) (by rw [wr64 (by omega) (by omega)];omega)) rfl rfl ?_)))
   refine A10 ?_
   refine R2 (d_rem (r:=(((c+(dig 65536 a).getD i 0*(dig 65536 b).getD j 0+vs.getD (i+j) 0)%65536:Nat):Int)) (by decide) (wrem64 (b:=65536))) rfl rfl (R1 (x7 Tryz.underlying42 (isS Tryz.underlying3) (wu16 (by omega) (by omega))) rfl (R2 (xa5 sl29 (by omega) (by omega) rfl) rfl rfl (RE (xc3 (i+j) ti42 (xj5 (by omega)) (by omega) (xh3 (m:=_) rfl)) ⟨rfl,rfl,trivial⟩ ⟨rfl,trivial⟩ trivial ?_)))
   refine A4 ?_
   refine R2 (d_quo (r:=(((c+(dig 65536 a).getD i 0*(dig 65536 b).getD j 0+vs.getD (i+j) 0) / 65536:Nat):Int)) (by decide) (iquo64 (b:=65536) (by omega))) rfl rfl ?_
   refine A9 ?_
   obtain ⟨n1,n2,n3,n4,n5⟩:=rtimes_in (s:=(c+(dig 65536 a).getD i 0*(dig 65536 b).getD j 0+vs.getD (i+j) 0)) kl kD hl kdr (by omega) kc hx1 hy (by omega) kv
   exact kF ((j+1,vs.set (i+j) ((c+(dig 65536 a).getD i 0*(dig 65536 b).getD j 0+vs.getD (i+j) 0)%65536),(c+(dig 65536 a).getD i 0*(dig 65536 b).getD j 0+vs.getD (i+j) 0) / 65536)) ⟨(by dsimp only;exact ⟨by omega,n1,n2,n3,n4,n5⟩),(by dsimp only;omega)⟩ (hh:=((SubK.consI rfl ImpK.refl) SubK.nil))
  ·
   have hjb:j=(dig 65536 b).length:=by omega
   refine A12 ?_
   refine R1 (x7 Tryz.underlying42 (isS Tryz.underlying3) (wu16 (by omega) (by omega))) rfl (R2 (xa5 sl29 (by omega) (by omega) rfl) rfl rfl (RE (xc3 (i+(dig 65536 b).length) ti42 (xj5 (by omega)) (by omega) (xh3 (m:=_) rfl)) ⟨rfl,rfl,trivial⟩ ⟨rfl,trivial⟩ trivial ?_))
   refine A8 ?_
   obtain ⟨n1,n2,n3,n4⟩:=rtimes_out (by omega) hl kl kD (by rw [←hjb];exact kdr) hz kc hv hbW (by rw [←hjb,←hx];exact kv)
   exact kF ((i+1,vs.set (i+(dig 65536 b).length) c)) ⟨(by dsimp only;exact ⟨by omega,n1,n2,n3,n4⟩),(by dsimp only;omega)⟩ (hh:=((SubK.consI rfl ImpK.refl) SubK.nil))
 ·
  refine A7 ?_
  refine RE (xf8 (f:=fun n:Nat=>tE (.int .u16 n)) (xs:=ws) (fun _ h=>h) (xi7 hl) hl) ⟨rfl,trivial⟩ ⟨rfl,trivial⟩ trivial (R1 (x3 (c_RTrim _) fi161 rfl) rfl ?_)
  refine A4 ?_
  exact x4 Plain.mk' rfl rfl (Le.of (congrArg tLm (rtimes_end hl hD (xg7 x8 a) (by rw [←show i=(dig 65536 a).length by omega];exact hv))))
theorem c_RValid (x:Wh):
  Ct Tryz.prog 94 [tWh x] (tB x.valid):=by
 refine Ct.intro Tryz.func94 rfl Tryz.ntmps94 rfl ?_
 intro w F
 refine A15 ?_
 refine x9 rfl (fun h142=> ?_) (fun h142=> ?_)
 ·
  refine A10 ?_
  exact x4 Plain.mk' rfl rfl (Le.bool (by simp only [Wh.valid];rw [if_pos (by omega)]))
 ·
  refine A3 ?_
  refine xk1 (s:=4) rfl (fun hl4=> ?_)
  refine A6 ?_
  refine RGcaseD (t:=14) rfl (fun h145=> ?_) (fun h145=> ?_)
  ·
   refine A5 ?_
   refine RGon (decide_eq_true h145) rfl (xe4 (wr64 (by omega) (by omega))) rfl ⟨rfl,rfl,trivial⟩ trivial trivial (RGon (decide_eq_true h145) rfl (x6 sl29 (x.l.length - 1) (by omega) (gN (by omega))) rfl ⟨rfl,rfl,trivial⟩ trivial trivial ?_)
   refine A7 ?_
   exact x4 Plain.mk' rfl rfl (Le.bool (by simp only [Wh.valid];rw [if_neg (by omega),decide_eq_true (show x.l.length≤1024 by omega),Bool.true_and];exact decide_eq_decide.2 (by omega)))
  ·
   refine A14 ?_
   exact x4 Plain.mk' rfl rfl (Le.bool (by simp only [Wh.valid];rw [if_neg (by omega),decide_eq_false (show ¬x.l.length≤1024 by omega),Bool.false_and]))
theorem rsum1 {x y:Int} (h:((wh x).neg==(wh y).neg)=true):sgn (wh x).neg (x.natAbs+y.natAbs)=x+y:=by
 have h:decide (x < 0)=decide (y < 0):=eq_of_beq h
 show sgn (decide (x < 0)) _=_
 by_cases hx:x < 0 <;> by_cases hy:y < 0 <;> simp [hx,hy] at h <;> simp [sgn,hx] <;> omega
theorem rsum2 {x y:Int} (h:((wh x).neg==(wh y).neg)=false) (hl:x.natAbs < y.natAbs):sgn (wh y).neg (y.natAbs - x.natAbs)=x+y:=by
 have h:(decide (x < 0)==decide (y < 0))=false:=h
 show sgn (decide (y < 0)) _=_
 by_cases hx:x < 0 <;> by_cases hy:y < 0 <;> simp [hx,hy] at h <;> simp [sgn,hy] <;> omega
theorem rsum3 {x y:Int} (h:((wh x).neg==(wh y).neg)=false) (hl: ¬x.natAbs < y.natAbs):sgn (wh x).neg (x.natAbs - y.natAbs)=x+y:=by
 have h:(decide (x < 0)==decide (y < 0))=false:=h
 show sgn (decide (x < 0)) _=_
 by_cases hx:x < 0 <;> by_cases hy:y < 0 <;> simp [hx,hy] at h <;> simp [sgn,hx] <;> omega
theorem rneg1 {x:Int}:sgn (!(wh x).neg) x.natAbs= -x:=by
 show sgn (!decide (x < 0)) _=_
 by_cases hx:x < 0 <;> simp [sgn,hx] <;> omega
theorem len_nil {x:Int}:(wh x).l.length=0↔x=0:=by
 show (dig 65536 x.natAbs).length=0↔_
 rw [List.length_eq_zero_iff,xi0 x8];omega
theorem c_RSum (x y:Int) (hx:len16 x≤4001) (hy:len16 y≤4001):
  Ct Tryz.prog 130 [tWh (wh x),tWh (wh y)] (tWh (wh (x+y))):=by
 refine Ct.intro Tryz.func130 rfl Tryz.ntmps130 rfl ?_
 intro w F
 refine A4 ?_
 refine RE (x5 (k:=4) (n:=2) (agg:=true) zr31.1 zr31.2 rfl) trivial trivial ⟨rfl,trivial⟩ ?_
 refine A12 ?_
 refine xc0 rfl (fun h198=> ?_) (fun h198=> ?_)
 ·
  refine A8 ?_
  refine R2 (x3 (c_RPlus x.natAbs y.natAbs (by show len16 x≤100000;omega) (by show len16 y≤100000;omega)) fi158 rfl) rfl rfl (R2 (x3 (xo1 _ _) fi128 rfl) rfl rfl ?_)
  refine A5 ?_
  exact xc1 Plain.mk' rfl ⟨_,_,_,_,_,rfl,rfl,ti31,(Le.of (by rw [rsum1 h198]))⟩
 ·
  refine A9 ?_
  refine R2 (x3 (c_RLess x.natAbs y.natAbs) fi157 rfl) rfl rfl ?_
  refine A2 ?_
  refine x9 rfl (fun h201=> ?_) (fun h201=> ?_)
  ·
   refine A8 ?_
   refine R2 (x3 (c_RMinus y.natAbs x.natAbs (by omega) (by show len16 y≤100000;omega)) fi160 rfl) rfl rfl (R2 (x3 (xo1 _ _) fi128 rfl) rfl rfl ?_)
   refine A5 ?_
   exact xc1 Plain.mk' rfl ⟨_,_,_,_,_,rfl,rfl,ti31,(Le.of (by rw [rsum2 h198 h201]))⟩
  ·
   refine A10 ?_
   refine R2 (x3 (c_RMinus x.natAbs y.natAbs (by omega) (by show len16 x≤100000;omega)) fi160 rfl) rfl rfl (R2 (x3 (xo1 _ _) fi128 rfl) rfl rfl ?_)
   refine A4 ?_
   exact xc1 Plain.mk' rfl ⟨_,_,_,_,_,rfl,rfl,ti31,(Le.of (by rw [rsum3 h198 h201]))⟩
theorem c_RNeg (x:Int):
  Ct Tryz.prog 131 [tWh (wh x)] (tWh (wh (-x))):=by
 refine Ct.intro Tryz.func131 rfl Tryz.ntmps131 rfl ?_
 intro w F
 refine A3 ?_
 refine RE (x5 (k:=2) (n:=2) (agg:=true) zr31.1 zr31.2 rfl) trivial trivial ⟨rfl,trivial⟩ ?_
 refine A9 ?_
 refine R2 (x3 (xo1 _ x.natAbs) fi128 rfl) rfl rfl ?_
 refine A4 ?_
 exact xc1 Plain.mk' rfl ⟨_,_,_,_,_,rfl,rfl,ti31,(Le.of (by rw [rneg1]))⟩
theorem xk0 (x y:Int) (hx:len16 x≤4001) (hy:len16 y≤4001):
  Ct Tryz.prog 99 [tWh (wh x),tWh (wh y)] (tWh (wh (x*y))):=by
 refine Ct.intro Tryz.func99 rfl Tryz.ntmps99 rfl ?_
 intro w F
 refine A4 ?_
 refine RE (x5 (k:=4) (n:=2) (agg:=true) zr31.1 zr31.2 rfl) trivial trivial ⟨rfl,trivial⟩ ?_
 refine A13 ?_
 refine R2 (x3 (c_RTimes x.natAbs y.natAbs (by show len16 x≤100000;omega) (by show len16 y≤100000;omega)) fi132 rfl) rfl rfl (R2 (x3 (xo1 _ _) fi128 rfl) rfl rfl ?_)
 refine A4 ?_
 exact xc1 Plain.mk' rfl ⟨_,_,_,_,_,rfl,rfl,ti31,(Le.of (by rw [sgn_mul]))⟩
theorem c_ROrder (x y:Int) (hx:len16 x≤4000) (hy:len16 y≤4000):
  Ct Tryz.prog 98 [tWh (wh x),tWh (wh y)] (tI (cmpZ x y)):=by
 have hny:=len16_neg y
 refine Ct.intro Tryz.func98 rfl Tryz.ntmps98 rfl ?_
 intro w F
 refine A11 ?_
 refine R1 (x3 (c_RNeg y) fi131 rfl) rfl (R2 (x3 (c_RSum x (-y) (by omega) (by omega)) fi130 rfl) rfl rfl (RE (x5 (k:=5) (n:=2) (agg:=true) zr31.1 zr31.2 rfl) trivial trivial ⟨rfl,trivial⟩ ?_))
 refine A10 ?_
 refine xc0 rfl (fun h280=> ?_) (fun h280=> ?_)
 ·
  have hlt:x+ -y < 0:=of_decide_eq_true h280
  refine A7 ?_
  exact x4 Plain.mk' rfl rfl (Le.int (by rw [cmpZ,if_pos (by omega)]))
 ·
  have hlt: ¬x+ -y < 0:=of_decide_eq_false h280
  refine A11 ?_
  refine x9 rfl (fun h283=> ?_) (fun h283=> ?_)
  ·
   have hne:x+ -y≠0:=fun h=>by have:=len_nil.2 h;omega
   refine A7 ?_
   exact x4 Plain.mk' rfl rfl (Le.int (by rw [cmpZ,if_neg (by omega),if_neg (by omega)]))
  ·
   have hne:x+ -y=0:=len_nil.1 (by omega)
   refine A8 ?_
   exact x4 Plain.mk' rfl rfl (Le.int (by rw [cmpZ,if_neg (by omega),if_pos (by omega)]))
theorem c_RFits (f:Fr):
  Ct Tryz.prog 95 [tFr f] (tB f.sh):=by
 refine Ct.intro Tryz.func95 rfl Tryz.ntmps95 rfl ?_
 intro w F
 refine A10 ?_
 refine xj6 (0) ti29 rfl rfl rfl (At.t (At.g 0 rfl rfl) (At.g 1 rfl rfl)) rfl ?_
 refine A3 ?_
 refine RGcaseD (t:=8) rfl (fun h27=> ?_) (fun h27=> ?_)
 ·
  refine A2 ?_
  refine xc7 (decide_eq_true h27) rfl rfl (0) ti29 rfl rfl rfl (At.t (At.g 1 rfl rfl) (At.g 1 rfl rfl)) rfl ?_
  refine A7 ?_
  exact x4 Plain.mk' rfl rfl (Le.bool (by rw [Fr.sh,decide_eq_true (show f.n.l.length≤256 by omega),Bool.true_and];exact decide_eq_decide.2 (by omega)))
 ·
  refine A10 ?_
  exact x4 Plain.mk' rfl rfl (Le.bool (by rw [Fr.sh,decide_eq_false (show ¬f.n.l.length≤256 by omega)];rfl))
theorem one_dec2 {x y:Int}:decide (dig 65536 (Nat.gcd x.natAbs y.natAbs)=[1])=decide (Int.gcd x y=1):=by
 have h1:dig 65536 1=[1]:=by rw [xk6 x8 (by decide),show (1:Nat) / 65536=0 by decide,xd0]
 refine decide_eq_decide.2 ⟨fun h=> ?_,fun h=> ?_⟩
 ·rw [←h1] at h
  have h2:=congrArg (val 65536) h
  rw [xm7 x8,xm7 x8] at h2
  exact h2
 ·have h:Nat.gcd x.natAbs y.natAbs=1:=h
  rw [h,h1]
theorem prod_fr {a b:Rat}:Rat.divInt (a.num*b.num) ((a.den:Int)*(b.den:Int))=a*b:=by
 rw [Rat.mul_def,←Int.natCast_mul,Rat.divInt_ofNat,Rat.normalize_eq_mkRat]
theorem xu1 (f:Fr) (hn:Dig 65536 f.n.l) (hd:Dig 65536 f.d.l):
  Ct Tryz.prog 63 [tFr f] (tB f.valid):=by
 obtain ⟨n,d⟩:=f
 replace hn:Dig 65536 n.l:=hn
 replace hd:Dig 65536 d.l:=hd
 refine Ct.intro Tryz.func63 rfl Tryz.ntmps63 rfl ?_
 intro w F
 refine A11 ?_
 refine R1 (x3 (c_RValid n) fi94 rfl) rfl ?_
 refine A2 ?_
 refine RGcase (t:=7) rfl (fun h39=> ?_) (fun h39=> ?_)
 ·
  have hv1:n.valid=false:=by simpa using h39
  refine A18 ?_
  refine A14 ?_
  exact x4 Plain.mk' rfl rfl (Le.bool (by simp only [Fr.valid,hv1,Bool.and_false,Bool.false_and]))
 ·
  have hv1:n.valid=true:=by simpa using h39
  refine A2 ?_
  refine RGon h39 rfl (x3 (c_RValid d) fi94 rfl) rfl ⟨rfl,trivial⟩ trivial trivial ?_
  refine A3 ?_
  refine RGcase (t:=13) rfl (fun h39_2=> ?_) (fun h39_2=> ?_)
  ·
   have hv2:d.valid=false:=by simpa using h39_2
   refine A18 ?_
   refine A8 ?_
   exact x4 Plain.mk' rfl rfl (Le.bool (by simp only [Fr.valid,hv2,Bool.and_false,Bool.false_and]))
  ·
   have hv2:d.valid=true:=by simpa using h39_2
   obtain ⟨x,rfl,hxl⟩:=Wh.of_valid hn hv1
   obtain ⟨y,rfl,hyl⟩:=Wh.of_valid hd hv2
   have ix:=xo7 x
   have iy:=xo7 y
   refine A1 ?_
   refine RGon h39_2 rfl (x3 (c_RFits _) fi95 rfl) rfl ⟨rfl,trivial⟩ trivial trivial ?_
   refine A3 ?_
   refine RGcase (t:=18) rfl (fun h39_3=> ?_) (fun h39_3=> ?_)
   ·
    have hs:(⟨wh x,wh y⟩:Fr).sh=false:=by simpa using h39_3
    refine A18 ?_
    refine A3 ?_
    exact x4 Plain.mk' rfl rfl (Le.bool (by simp only [Fr.valid,hs,Bool.false_and]))
   ·
    have hs:(⟨wh x,wh y⟩:Fr).sh=true:=by simpa using h39_3
    refine A2 ?_
    refine xc7 h39_3 rfl rfl (0) ti4 rfl rfl rfl (At.t (At.g 1 rfl rfl) (At.g 0 rfl rfl)) rfl ?_
    refine A2 ?_
    refine RGcase (t:=23) rfl (fun h39_4=> ?_) (fun h39_4=> ?_)
    ·
     have hy0: ¬0 < y:=by have:y < 0:=of_decide_eq_true h39_4;omega
     refine A16 ?_
     exact x4 Plain.mk' rfl rfl (Le.bool (by simp only [Fr.valid,ix,iy,decide_eq_false hy0,Bool.and_false,Bool.false_and]))
    ·
     refine A2 ?_
     refine xc7 h39_4 rfl rfl (0) ti29 rfl rfl rfl (At.t (At.g 1 rfl rfl) (At.g 1 rfl rfl)) rfl ?_
     refine A5 ?_
     refine x9 rfl (fun h39_5=> ?_) (fun h39_5=> ?_)
     ·
      have h5:(((wh y).l.length:Nat):Int)=0:=h39_5
      have hy0: ¬0 < y:=fun h=>by have:=len_nil.1 (show (wh y).l.length=0 by omega);omega
      refine A7 ?_
      exact x4 Plain.mk' rfl rfl (Le.bool (by simp only [Fr.valid,ix,iy,decide_eq_false hy0,Bool.and_false,Bool.false_and]))
     ·
      have h5: ¬(((wh y).l.length:Nat):Int)=0:=h39_5
      have hy0:0 < y:=pos_of_wh h39_4 (by omega)
      refine A6 ?_
      refine xj6 (0) ti29 rfl rfl rfl (At.t (At.g 0 rfl rfl) (At.g 1 rfl rfl)) rfl ?_
      refine A2 ?_
      refine xj6 (0) ti29 rfl rfl rfl (At.t (At.g 1 rfl rfl) (At.g 1 rfl rfl)) rfl (R2 (x3 (c_RCommon x.natAbs y.natAbs (by show len16 x≤4000;omega) (by show len16 y≤4000;omega)) fi97 rfl) rfl rfl (R1 (x3 (c_Rone _) fi96 rfl) rfl ?_))
      refine A4 ?_
      exact x4 Plain.mk' rfl rfl (Le.bool (by simp only [Fr.valid,ix,iy,hs,hv1,hv2,decide_eq_true hy0,Bool.true_and];exact one_dec2))
theorem xp2 (q:Rat) (h:short q):Ct Tryz.prog 63 [tFr (fr q)] (tB true):=by
 have:=xu1 (fr q) (xb6 x8 _) (xb6 x8 _)
 rw [valid_fr h] at this;exact this
theorem c_R2told (q:Rat):
  Ct Tryz.prog 91 [tFr (fr q)] (tT [tFr (resF q),tI (resFE q)]):=by
 refine Ct.intro Tryz.func91 rfl Tryz.ntmps91 rfl ?_
 intro w F
 refine A3 ?_
 refine RE (x5 (k:=2) (n:=4) (agg:=true) zr33.1 zr33.2 rfl) trivial trivial ⟨rfl,trivial⟩ ?_
 refine A7 ?_
 refine R1 (x3 (c_RFits (fr q)) fi95 rfl) rfl ?_
 refine A3 ?_
 refine xc0 rfl (fun h31=> ?_) (fun h31=> ?_)
 ·
  have hk: ¬short q:=by rw [sh_fr] at h31;simpa using h31
  refine A2 ?_
  refine R0 (xa7 (r:=tS [⟨2,true,(tS [⟨1,false,(tE (.bool false))⟩,⟨1,false,(tLm [])⟩])⟩,⟨2,true,(tS [⟨1,false,(tE (.bool false))⟩,⟨1,false,(tLm [])⟩])⟩]) (ts:=[]) bu33 zr33.2 Le.refl) ?_
  refine A6 ?_
  exact xa8 Plain.mk' (rs:=[.cell 2 33,.tmp 3]) rfl rfl ⟨⟨_,_,_,_,_,rfl,rfl,ti33,(Le.of (by rw [resF,if_neg hk];rfl))⟩,⟨_,rfl,(Le.int (by rw [resFE,if_neg hk]))⟩,trivial⟩
 ·
  have hk:short q:=by rw [sh_fr] at h31;simpa using h31
  refine A10 ?_
  exact xa8 Plain.mk' (rs:=[.cell 2 33,.tmp 3]) rfl rfl ⟨⟨_,_,_,_,_,rfl,rfl,ti33,(Le.of (by rw [resF,if_pos hk]))⟩,⟨_,rfl,(Le.int (by rw [resFE,if_pos hk]))⟩,trivial⟩
theorem c_R2Times (a b:Rat) (ha:short a) (hb:short b):
  Ct Tryz.prog 125 [tFr (fr a),tFr (fr b)] (tFr (fr (a*b))):=by
 obtain ⟨an,ad⟩:=ha
 obtain ⟨bn,bd⟩:=hb
 have ha:short a:=⟨an,ad⟩
 have hb:short b:=⟨bn,bd⟩
 have da:=a.den_nz
 have db:=b.den_nz
 have l1:=len16_mul an bn
 have l2:=len16_mul ad bd
 refine Ct.intro Tryz.func125 rfl Tryz.ntmps125 rfl ?_
 intro w F
 refine A4 ?_
 refine RE (x5 (k:=4) (n:=4) (agg:=true) zr33.1 zr33.2 rfl) trivial trivial ⟨rfl,trivial⟩ ?_
 refine A8 ?_
 refine R2 (x3 (xk0 a.num b.num (by omega) (by omega)) fi99 rfl) rfl rfl ?_
 refine A4 ?_
 refine R2 (x3 (xk0 (a.den:Int) (b.den:Int) (by omega) (by omega)) fi99 rfl) rfl rfl (R2 (x3 (c_RLowest (a.num*b.num) ((a.den:Int)*(b.den:Int)) (by omega) (by omega) (Int.mul_ne_zero (by omega) (by omega))) fi127 rfl) rfl rfl ?_)
 refine A4 ?_
 exact xc1 Plain.mk' rfl ⟨_,_,_,_,_,rfl,rfl,ti33,(Le.of (by rw [prod_fr]))⟩
theorem c_R2Mul (a b:Rat) (ha:short a) (hb:short b):
  Ct Tryz.prog 88 [tFr (fr a),tFr (fr b)] (tT [tFr (resF (a*b)),tI (resFE (a*b))]):=by
 refine Ct.intro Tryz.func88 rfl Tryz.ntmps88 rfl ?_
 intro w F
 refine A4 ?_
 refine RE (x5 (k:=4) (n:=4) (agg:=true) zr33.1 zr33.2 rfl) trivial trivial ⟨rfl,trivial⟩ ?_
 refine A7 ?_
 refine R1 (x3 (xp2 a ha) fi63 rfl) rfl ?_
 refine A3 ?_
 refine RGon rfl rfl (x3 (xp2 b hb) fi63 rfl) rfl ⟨rfl,trivial⟩ trivial trivial ?_
 refine A11 ?_
 refine R2 (x3 (c_R2Times a b ha hb) fi125 rfl) rfl rfl (R1 (x3 (c_R2told (a*b)) fi91 rfl) rfl ?_)
 refine A7 ?_
 exact xa8 Plain.mk' (rs:=[.cell 4 33,.tmp 5]) rfl rfl ⟨⟨_,_,_,_,_,rfl,rfl,ti33,Le.refl⟩,⟨_,rfl,Le.refl⟩,trivial⟩
theorem c_R2Order (a b:Rat) (ha:short a) (hb:short b):
  Ct Tryz.prog 64 [tFr (fr a),tFr (fr b)] (tI (cmpQ a b)):=by
 obtain ⟨an,ad⟩:=ha
 obtain ⟨bn,bd⟩:=hb
 have ha:short a:=⟨an,ad⟩
 have hb:short b:=⟨bn,bd⟩
 have da:=a.den_nz
 have db:=b.den_nz
 have l1:=len16_mul an bd
 have l2:=len16_mul bn ad
 refine Ct.intro Tryz.func64 rfl Tryz.ntmps64 rfl ?_
 intro w F
 refine A13 ?_
 refine R2 (x3 (xk0 a.num (b.den:Int) (by omega) (by omega)) fi99 rfl) rfl rfl ?_
 refine A4 ?_
 refine R2 (x3 (xk0 b.num (a.den:Int) (by omega) (by omega)) fi99 rfl) rfl rfl (R2 (x3 (c_ROrder (a.num*(b.den:Int)) (b.num*(a.den:Int)) (by omega) (by omega)) fi98 rfl) rfl rfl ?_)
 refine A4 ?_
 exact x4 Plain.mk' rfl rfl (Le.int (cmpQ_eq a b))
theorem xv8 (n:Int) (h1: -9223372036854775808≤n) (h2:n≤9223372036854775807):
  Ct Tryz.prog 62 [tI n] (tFr (fr (n:Rat))):=by
 refine Ct.intro Tryz.func62 rfl Tryz.ntmps62 rfl ?_
 intro w F
 refine A2 ?_
 refine RE (x5 (k:=2) (n:=4) (agg:=true) zr33.1 zr33.2 rfl) trivial trivial ⟨rfl,trivial⟩ ?_
 refine A5 ?_
 refine R1 (x3 (c_RFromInt n h1 h2) fi93 rfl) rfl (R1 (x3 (c_RFromInt 1 (by decide) (by decide)) fi93 rfl) rfl (R2 (xa7 (r:=tS [⟨2,true,tWh (wh n)⟩,⟨2,true,tWh (wh 1)⟩]) (ts:=[(0,tWh (wh n)),(1,tWh (wh 1))]) bu33 zr33.2 (Bc 0 rfl rfl rfl (Bc 1 rfl rfl rfl Le.refl))) rfl rfl ?_))
 refine A4 ?_
 exact xc1 Plain.mk' rfl ⟨_,_,_,_,_,rfl,rfl,ti33,(Le.of (by rw [fr,Rat.num_intCast,Rat.den_intCast];rfl))⟩
instance fi31:FnI Tryz.prog 31:=⟨_,Tryz.func31,by kernel_rfl,rfl⟩
instance fi32:FnI Tryz.prog 32:=⟨_,Tryz.func32,by kernel_rfl,rfl⟩
instance fi53:FnI Tryz.prog 53:=⟨_,Tryz.func53,by kernel_rfl,rfl⟩
instance fi54:FnI Tryz.prog 54:=⟨_,Tryz.func54,by kernel_rfl,rfl⟩
instance fi82:FnI Tryz.prog 82:=⟨_,Tryz.func82,by kernel_rfl,rfl⟩
instance fi119:FnI Tryz.prog 119:=⟨_,Tryz.func119,by kernel_rfl,rfl⟩
instance fi151:FnI Tryz.prog 151:=⟨_,Tryz.func151,by kernel_rfl,rfl⟩
def mk16:List Nat:=(List.range 12).map fun i=>(8000024+i)%65536
theorem mk16_len:mk16.length=12:=rfl
theorem mk16_at {j:Nat} (h:j < 12):mk16.getD j 0=(8000024+j)%65536:=by
 have: ∀j,j < 12→mk16.getD j 0=(8000024+j)%65536:=by decide
 exact this j h
theorem mk16_take {i:Nat} (h:i < 12):mk16.take (i+1)=mk16.take i++[(8000024+i)%65536]:=by
 rw [List.take_succ_eq_append_getElem (by rw [mk16_len];exact h)]
 congr 2
 have:=mk16_at h
 rw [List.getD_eq_getElem?_getD,List.getElem?_eq_getElem (by rw [mk16_len];exact h)] at this
 exact this
theorem cutM {i:Nat}:IntKind.u16.wrap (1000003*(1+7)+(i:Int))=(((8000024+i)%65536:Nat):Int):=by rw [mu16];omega
abbrev tLmK (l:List Nat):Ty:=tLK 1 false (fun n:Nat=>tE (.int .u16 (n:Int))) l mk16
abbrev tWhK (x:Wh):Ty:=tS [⟨1,false,tB x.neg⟩,⟨1,false,tLmK x.l⟩]
abbrev tFrK (f:Fr):Ty:=tS [⟨2,true,tWhK f.n⟩,⟨2,true,tWhK f.d⟩]
abbrev tVaK (v:Va):Ty:=tS [⟨1,false,tE (.int .u8 (v.kind:Int))⟩,⟨4,true,tFrK v.f⟩,⟨1,false,tI v.i⟩]
theorem whK_le {x:Wh}:Le (tWhK x) (tWh x):=Le.tS ⟨⟨rfl,rfl,Le.refl⟩,⟨rfl,rfl,tLK_le⟩,trivial⟩
theorem frK_le {f:Fr}:Le (tFrK f) (tFr f):=Le.tS ⟨⟨rfl,rfl,whK_le⟩,⟨rfl,rfl,whK_le⟩,trivial⟩
theorem vaK_le {v:Va}:Le (tVaK v) (tVa v):=Le.tS ⟨⟨rfl,rfl,Le.refl⟩,⟨rfl,rfl,frK_le⟩,⟨rfl,rfl,Le.refl⟩,trivial⟩
theorem app_l {l m:List Nat} {i:Nat} (h:i < l.length):(l++m).getD i 0=l.getD i 0:=by
 rw [List.getD_eq_getElem?_getD,List.getElem?_append_left h,←List.getD_eq_getElem?_getD]
theorem app_r {l m:List Nat} {i:Nat} (h:l.length≤i):(l++m).getD i 0=m.getD (i - l.length) 0:=by
 rw [List.getD_eq_getElem?_getD,List.getElem?_append_right h,←List.getD_eq_getElem?_getD]
theorem c_mark1 (i:Nat) (h:i < 12):
  Ct Tryz.prog 54 [tI 1,tI i] (tI (1000003*(1+7)+(i:Int))):=by
 refine Ct.intro Tryz.func54 rfl Tryz.ntmps54 rfl ?_
 intro w F
 refine A9 ?_
 refine R2 (xi5 (wr64 (by omega) (by omega))) rfl rfl ?_
 refine A6 ?_
 exact x4 Plain.mk' rfl rfl Le.refl
abbrev tLmW (l:List Nat):Ty:=tLW 42 1 false (fun n:Nat=>tE (.int .u16 (n:Int))) l mk16
abbrev tWhW (x:Wh):Ty:=tS [⟨1,false,tB x.neg⟩,⟨1,false,tLmW x.l⟩]
abbrev tFrW (f:Fr):Ty:=tS [⟨2,true,tWhW f.n⟩,⟨2,true,tWhW f.d⟩]
abbrev tVaW (v:Va):Ty:=tS [⟨1,false,tE (.int .u8 (v.kind:Int))⟩,⟨4,true,tFrW v.f⟩,⟨1,false,tI v.i⟩]
abbrev tTsW (s:Tst):Ty:=tS [⟨1,false,tI s.lo⟩,⟨1,false,tI s.hi⟩,⟨6,true,tVaW s.v⟩]
theorem whWK {x:Wh}:Le (tWhW x) (tWhK x):=Le.tS ⟨⟨rfl,rfl,Le.refl⟩,⟨rfl,rfl,tLW_le⟩,trivial⟩
theorem frWK {f:Fr}:Le (tFrW f) (tFrK f):=Le.tS ⟨⟨rfl,rfl,whWK⟩,⟨rfl,rfl,whWK⟩,trivial⟩
theorem vaWK {v:Va}:Le (tVaW v) (tVaK v):=Le.tS ⟨⟨rfl,rfl,Le.refl⟩,⟨rfl,rfl,frWK⟩,⟨rfl,rfl,Le.refl⟩,trivial⟩
theorem vaW_le {v:Va}:Le (tVaW v) (tVa v):=Le.trans vaWK vaK_le
theorem tsW_le {s:Tst}:Le (tTsW s) (tTs s):=Le.tS ⟨⟨rfl,rfl,Le.refl⟩,⟨rfl,rfl,Le.refl⟩,⟨rfl,rfl,vaW_le⟩,trivial⟩
abbrev tTsM (x:Tst×Bool):Ty:=cond x.2 (tTsW x.1) (tTs x.1)
instance {x:Tst×Bool}:Shape (tTsM x) 8 true:=by
 obtain ⟨s,b⟩:=x
 cases b
 ·exact (inferInstance:Shape (tTs s) 8 true)
 ·exact (inferInstance:Shape (tTsW s) 8 true)
theorem tsM_le {x:Tst×Bool}:Le (tTsM x) (tTs x.1):=by
 obtain ⟨s,b⟩:=x
 cases b
 ·exact Le.refl
 ·exact tsW_le
def va00:Va:=⟨0,fr0,0⟩
def smk (k i:Nat):Tst:=⟨1000003*((k:Int)+7)+(i:Int),0,va00⟩
def mkT:List Tst:=(List.range 12).map (smk 1)
theorem xm5:mkT.length=12:=rfl
theorem mkT_at {j:Nat} (h:j < 12):mkT.getD j tst0=smk 1 j:=by
 have hl:j < mkT.length:=by rw [xm5];exact h
 rw [List.getD_eq_getElem?_getD,List.getElem?_eq_getElem hl,Option.getD_some]
 simp [mkT]
theorem mkT_take {i:Nat} (h:i < 12):mkT.take (i+1)=mkT.take i++[smk 1 i]:=by
 rw [List.take_succ_eq_append_getElem (by rw [xm5];exact h)]
 congr 2
 have:=mkT_at h
 rw [List.getD_eq_getElem?_getD,List.getElem?_eq_getElem (by rw [xm5];exact h)] at this
 exact this
def lmT (l:List Tst):List (Tst×Bool):=l.map (·,true)
def mmT (m:List Tst):List (Tst×Bool):=m.map (·,false)
abbrev tStW (l:List Tst):Ty:=tLW 37 8 true tTsM (lmT l) (mmT mkT)
theorem xi9 {l:List Tst}:(lmT l).length=l.length:=List.length_map ..
theorem xs7 {l:List Tst}:(mmT l).length=l.length:=List.length_map ..
theorem lmT_take {l:List Tst} {i:Nat} (h:i < l.length):lmT (l.take (i+1))=lmT (l.take i)++[(l.getD i tst0,true)]:=by
 rw [lmT,lmT,List.take_succ_eq_append_getElem h,List.map_append,List.getD_eq_getElem?_getD,List.getElem?_eq_getElem h];rfl
theorem mmT_snoc {l:List Tst} {x:Tst}:mmT (l++[x])=mmT l++[(x,false)]:=by rw [mmT,List.map_append];rfl
def tm0:Tst×Bool:=(tst0,false)
theorem lm_l {l m:List Tst} {i:Nat} (h:i < l.length):(lmT l++mmT m).getD i tm0=(l.getD i tst0,true):=by
 rw [List.getD_eq_getElem?_getD,List.getElem?_append_left (by rw [xi9];exact h),lmT,List.getElem?_map,List.getElem?_eq_getElem h,List.getD_eq_getElem?_getD,List.getElem?_eq_getElem h];rfl
theorem lm_r {l m:List Tst} {i:Nat} (h:l.length≤i) (h2:i - l.length < m.length):(lmT l++mmT m).getD i tm0=(m.getD (i - l.length) tst0,false):=by
 rw [List.getD_eq_getElem?_getD,List.getElem?_append_right (by rw [xi9];exact h),xi9,mmT,List.getElem?_map,List.getElem?_eq_getElem h2,List.getD_eq_getElem?_getD,List.getElem?_eq_getElem h2];rfl
theorem va00N {G:Dom}:Le (tVa va00) (tG G (tVa va00)):=leG_S ⟨⟨rfl,rfl,tG_E⟩,⟨rfl,rfl,fr0N⟩,⟨rfl,rfl,tG_E⟩,trivial⟩
theorem stW_le {l:List Tst}:Le (tStW l) (tL 8 true tTs l):=fun F w v h=>by
 obtain ⟨A,c,h1,h2,h3,h4⟩:=le_L (fun x=>tsM_le) _ _ _ (tLW_leL _ _ _ h)
 rw [xi9] at h1 h2
 refine ⟨A,c,h1,h2,h3,h4.imp (fun h=>by rw [lmT] at h;exact List.map_eq_nil_iff.1 h) fun ⟨b,o,e,hb,hx⟩=>⟨b,o,e,hb,fun i x hi=>hx i (x,true) (by rw [lmT,List.getElem?_map,hi];rfl)⟩⟩
theorem c_LentLimbsN (l:List Nat) (hl:l.length≤1048576):
  CtN Tryz.prog 151 [tLm l] (fun nw=>tG (up nw) (tLmW l)):=by
 refine CtN.intro Tryz.func151 rfl Tryz.ntmps151 rfl ?_
 intro w F
 refine A10 ?_
 refine RE (xh1 (k:=8) (t:=tE (.int .u16 0)) (ts:=([]:List Ent)) (0) (l.length+12) Tryz.underlying29 el42 (fun _ _=>rfl) rfl (by omega) (by omega) (by omega) (by omega) (by omega) rfl) ⟨rfl,rfl,trivial⟩ trivial ⟨rfl,trivial⟩ ?_
 refine A7 ?_
 refine RE (xc2 (k:=8) (k':=11) (ys:=l) (ts':=rW .u16 l) Tryz.underlying29 el42 zf42 rfl rfl (fun _=>inferInstance) rfl (by simp;omega) (by simp;omega) (by simp [rW]) (n':=l.length) (by simp)) ⟨rfl,rfl,trivial⟩ ⟨rfl,trivial⟩ ⟨rfl,trivial⟩ ?_
 refine A10 ?_
 refine cL (fun (i:Nat)=>i≤12) (fun (i:Nat)=>upd (upd (upd (fun _=>none) 0 (some (.val (tLm l)))) 3 (some (.own (.sl 11 1 0 (l.length+i))))) 4 (some (.val (tI i)))) (fun (i:Nat)=>upd (fun _=>none) 11 (some (⟨42,1,false,rW .u16 (l++mk16.take i)⟩))) [11] (fun (i:Nat)=>12 - i) (0) (Nat.zero_le _) (hh:=((SubK.consI rfl (ImpK.of (by rw [List.take_zero,List.append_nil]))) SubK.nil)) ?_
 intro i hI
 have htl:(l++mk16.take i).length=l.length+i:=by rw [List.length_append,List.length_take,mk16_len];omega
 refine A7 ?_
 refine x9 rfl (fun h64=> ?_) (fun h64=> ?_)
 ·
  refine A7 ?_
  refine R2 (x3 (c_mark1 i (by omega)) fi54 rfl) rfl rfl (R1 (x7 Tryz.underlying42 (isS Tryz.underlying3) cutM) rfl (R1 (xm9 (n:=1) [((8000024+i)%65536)] Tryz.underlying29 el42 zf42 rfl rfl rfl) rfl (RE (xc2 (k:=11) (k':=21) (ys:=[((8000024+i)%65536)]) (ts':=rW .u16 (l++mk16.take i++[((8000024+i)%65536)])) Tryz.underlying29 el42 zf42 rfl rfl (fun _=>inferInstance) (xk2.trans htl) (by simp;omega) (by simp;omega) (by simp [rW]) (n':=l.length+i+1) rfl) ⟨rfl,rfl,trivial⟩ ⟨rfl,trivial⟩ ⟨rfl,trivial⟩ ?_)))
  refine A9 ?_
  exact xf7 (l:=[11]) (fun j=>cond (Nat.beq j 11) 21 (j)) (i+1) ⟨(by omega),(by omega)⟩ (SubR.int rfl (by first | omega | rfl | (dsimp only;omega)) (SubR.cons rfl (SubR.cons rfl SubR.nil))) ((SubKR.consI rfl (ImpK.of (by rw [mk16_take (by omega),←List.append_assoc];exact xg6.symm))) SubKR.nil) (SupG.val (SupG.own rfl (SupG.val SupG.nil))) (SupH.cons rfl (supJ xd6) SupH.nil) (lkOk rfl) rfl rfl (fun _ h=>by cases h)
 ·
  refine A10 ?_
  refine RE (d_keepOW (k:=11) (f:=fun n:Nat=>tE (.int .u16 (n:Int))) (xs:=l) (ms:=mk16) (up w.heap.size) (fun _ h=>h) sl29 (fun _ h=>h) (fun _ _=>tG_E) (by rw [rW,show i=12 by omega,show mk16.take 12=mk16 from rfl]) (by rw [mk16_len];omega) (by omega) rfl) ⟨rfl,rfl,trivial⟩ ⟨rfl,trivial⟩ trivial ?_
  refine A4 ?_
  exact x4 Plain.mk' rfl rfl Le.refl
theorem c_KeptLimbs (l:List Nat) (hl:l.length≤1048576):
  Ct Tryz.prog 162 [tLmK l,tLm l] (tB true):=by
 have hml:(l++mk16).length=l.length+12:=by rw [List.length_append,mk16_len]
 refine Ct.intro Tryz.func162 rfl Tryz.ntmps162 rfl ?_
 intro w F
 refine A9 ?_
 refine R1 (d_lenK Tryz.underlying29) rfl ?_
 refine A5 ?_
 refine C_bF rfl (decide_eq_false (by omega)) ?_
 refine A8 ?_
 refine R2 (d_sliceK sl29 (by rw [mk16_len];omega)) rfl rfl ?_
 refine A10 ?_
 refine cL (fun (i:Nat)=>i≤(l++mk16).length) (fun (i:Nat)=>upd (upd (upd (fun _=>none) 1 (some (.val (tLm l)))) 5 (some (.val (tLm (l++mk16))))) 6 (some (.val (tI i)))) (fun (i:Nat)=>fun _=>none) [] (fun (i:Nat)=>(l++mk16).length - i) (0) (Nat.zero_le _) ?_
 intro i hI
 refine A9 ?_
 refine x9 rfl (fun h75=> ?_) (fun h75=> ?_)
 ·
  refine A11 ?_
  refine RGcaseD (t:=27) rfl (fun h76=> ?_) (fun h76=> ?_)
  ·
   refine A2 ?_
   refine RGon (decide_eq_true h76) rfl (x6 sl29 (i) (by omega) (gN (by omega))) rfl ⟨rfl,rfl,trivial⟩ trivial trivial ?_
   refine A3 ?_
   refine RGon (decide_eq_true h76) rfl (x6 sl29 (i) (by omega) (gN (by omega))) rfl ⟨rfl,rfl,trivial⟩ trivial trivial ?_
   refine A5 ?_
   refine RGon (xb3 (by rw [app_l (by omega)])) rfl xa0 rfl ⟨rfl,trivial⟩ trivial trivial (RGon (xb3 (by rw [app_l (by omega)])) rfl xa0 rfl ⟨rfl,trivial⟩ trivial trivial (RGon (xb3 (by rw [app_l (by omega)])) rfl (d_len Tryz.underlying29) rfl ⟨rfl,trivial⟩ trivial trivial (RGon (xb3 (by rw [app_l (by omega)])) rfl d_geq rfl ⟨rfl,rfl,trivial⟩ trivial trivial (RGon (xb3 (by rw [app_l (by omega)])) rfl xa0 rfl ⟨rfl,trivial⟩ trivial trivial (RGoff (decide_eq_false (by omega)) rfl rfl (RGoff (decide_eq_false (by omega)) rfl rfl (RGoff (decide_eq_false (by omega)) rfl rfl ?_)))))))
   refine RGoff (decide_eq_false (by omega)) rfl rfl (RGoff (decide_eq_false (by omega)) rfl rfl (RGoff (decide_eq_false (by omega)) rfl rfl (RGoff (decide_eq_false (by omega)) rfl rfl (RGoff (decide_eq_false (by omega)) rfl rfl (RGoff (decide_eq_false (by omega)) rfl rfl (RGoff (decide_eq_false (by omega)) rfl rfl (RGoff (decide_eq_false (by omega)) rfl rfl ?_)))))))
   refine RGoff (decide_eq_false (by omega)) rfl rfl (RGon (xb3 (by rw [app_l (by omega)])) rfl (xc4 (decide_eq_false (by omega))) rfl ⟨rfl,rfl,trivial⟩ trivial trivial (R2 (xc4 (xb3 (by rw [app_l (by omega)]))) rfl rfl ?_))
   refine A11 ?_
   exact kF (i+1) ⟨(by omega),(by omega)⟩
  ·
   refine A17 ?_
   refine RGon (decide_eq_true (by omega)) rfl xa0 rfl ⟨rfl,trivial⟩ trivial trivial (RGon (decide_eq_true (by omega)) rfl xa0 rfl ⟨rfl,trivial⟩ trivial trivial (RGon (decide_eq_true (by omega)) rfl (x6 sl29 (i) (by omega) (gN (by omega))) rfl ⟨rfl,rfl,trivial⟩ trivial trivial (RGon (decide_eq_true (by omega)) rfl (xi3 ti42) rfl ⟨rfl,trivial⟩ trivial trivial (RGon (decide_eq_true (by omega)) rfl xa0 rfl ⟨rfl,trivial⟩ trivial trivial (RGon (decide_eq_true (by omega)) rfl xa0 rfl ⟨rfl,trivial⟩ trivial trivial (RGon (decide_eq_true (by omega)) rfl (d_len Tryz.underlying29) rfl ⟨rfl,trivial⟩ trivial trivial (RGon (decide_eq_true (by omega)) rfl (xe4 (r:=((i - l.length:Nat):Int)) (by rw [wr64 (by omega) (by omega)];omega)) rfl ⟨rfl,rfl,trivial⟩ trivial trivial ?_)))))))
   refine RGon (decide_eq_true (by omega)) rfl (x3 (c_mark1 (i - l.length) (by omega)) fi54 rfl) rfl ⟨rfl,rfl,trivial⟩ trivial trivial (RGon (decide_eq_true (by omega)) rfl (x7 Tryz.underlying42 (isS Tryz.underlying3) cutM) rfl ⟨rfl,trivial⟩ trivial trivial (RGon (decide_eq_true (by omega)) rfl d_eql rfl ⟨rfl,rfl,trivial⟩ trivial trivial (RGon (decide_eq_true (by omega)) rfl xj4 rfl ⟨rfl,trivial⟩ trivial trivial (RGon rfl rfl (xe3 (decide_eq_true (by omega))) rfl ⟨rfl,rfl,trivial⟩ trivial trivial ?_))))
   refine A3 ?_
   refine C_bF rfl (xb3 (by rw [app_r (by omega),mk16_at (by omega)])) ?_
   refine A8 ?_
   exact kF (i+1) ⟨(by omega),(by omega)⟩
 ·
  refine A11 ?_
  exact x4 Plain.mk' rfl rfl Le.refl
theorem c_LentWholeN (x:Wh) (hl:x.l.length≤1048576):
  CtN Tryz.prog 119 [tWh x] (fun nw=>tG (up nw) (tWhW x)):=by
 refine CtN.intro Tryz.func119 rfl Tryz.ntmps119 rfl ?_
 intro w F
 refine A3 ?_
 refine RE (x5 (k:=2) (n:=2) (agg:=true) zr31.1 zr31.2 rfl) trivial trivial ⟨rfl,trivial⟩ ?_
 refine A6 ?_
 refine R1 (xe9 (ts:=[_]) (r:=tG (up w.heap.size) _) (c_LentLimbsN x.l hl) fi151 (fun m hm=>xi2 hm) ⟨Le.refl,trivial⟩ rfl) rfl ?_
 refine A1 ?_
 refine xj8 (0) ti29 rfl rfl rfl rfl (Up.g 1 rfl rfl rfl) rfl rfl ?_
 refine A3 ?_
 refine C_key (k:=1) (e':=⟨31,2,true,[.val (tS [⟨1,false,tB x.neg⟩,⟨1,false,tG (up w.heap.size) (tLmW x.l)⟩])]⟩) rfl rfl ?_
 refine A6 ?_
 exact xc1 Plain.mk' rfl ⟨_,_,_,_,_,rfl,rfl,ti31,(leG_S ⟨⟨rfl,rfl,tG_E⟩,⟨rfl,rfl,Le.refl⟩,trivial⟩)⟩
theorem c_LentFracN (f:Fr) (h1:f.n.l.length≤1048576) (h2:f.d.l.length≤1048576):
  CtN Tryz.prog 82 [tFr f] (fun nw=>tG (up nw) (tFrW f)):=by
 refine CtN.intro Tryz.func82 rfl Tryz.ntmps82 rfl ?_
 intro w F
 refine A3 ?_
 refine RE (x5 (k:=2) (n:=4) (agg:=true) zr33.1 zr33.2 rfl) trivial trivial ⟨rfl,trivial⟩ ?_
 refine A6 ?_
 refine R1 (xe9 (ts:=[_]) (r:=tG (up w.heap.size) _) (c_LentWholeN f.n h1) fi119 (fun m hm=>xi2 hm) ⟨Le.refl,trivial⟩ rfl) rfl ?_
 refine A1 ?_
 refine xj8 (0) ti31 rfl rfl rfl rfl (Up.g 0 rfl rfl rfl) rfl rfl ?_
 refine A6 ?_
 refine R1 (xe9 (ts:=[_]) (r:=tG (up w.heap.size) _) (c_LentWholeN f.d h2) fi119 (fun m hm=>xi2 hm) ⟨Le.refl,trivial⟩ rfl) rfl ?_
 refine A1 ?_
 refine xj8 (0) ti31 rfl rfl rfl rfl (Up.g 1 rfl rfl rfl) rfl rfl ?_
 refine A3 ?_
 refine C_key (k:=1) (e':=⟨33,4,true,[.val (tS [⟨2,true,tG (up w.heap.size) (tWhW f.n)⟩,⟨2,true,tG (up w.heap.size) (tWhW f.d)⟩])]⟩) rfl rfl ?_
 refine A6 ?_
 exact xc1 Plain.mk' rfl ⟨_,_,_,_,_,rfl,rfl,ti33,(leG_S ⟨⟨rfl,rfl,Le.refl⟩,⟨rfl,rfl,Le.refl⟩,trivial⟩)⟩
theorem c_LentValueN (v:Va) (h1:v.f.n.l.length≤1048576) (h2:v.f.d.l.length≤1048576):
  CtN Tryz.prog 53 [tVa v] (fun nw=>tG (up nw) (tVaW v)):=by
 refine CtN.intro Tryz.func53 rfl Tryz.ntmps53 rfl ?_
 intro w F
 refine A3 ?_
 refine RE (x5 (k:=2) (n:=6) (agg:=true) zr35.1 zr35.2 rfl) trivial trivial ⟨rfl,trivial⟩ ?_
 refine A6 ?_
 refine R1 (xe9 (ts:=[_]) (r:=tG (up w.heap.size) _) (c_LentFracN v.f h1 h2) fi82 (fun m hm=>xi2 hm) ⟨Le.refl,trivial⟩ rfl) rfl ?_
 refine A1 ?_
 refine xj8 (0) ti33 rfl rfl rfl rfl (Up.g 1 rfl rfl rfl) rfl rfl ?_
 refine A3 ?_
 refine C_key (k:=1) (e':=⟨35,6,true,[.val (tS [⟨1,false,tE (.int .u8 (v.kind:Int))⟩,⟨4,true,tG (up w.heap.size) (tFrW v.f)⟩,⟨1,false,tI v.i⟩])]⟩) rfl rfl ?_
 refine A6 ?_
 exact xc1 Plain.mk' rfl ⟨_,_,_,_,_,rfl,rfl,ti35,(leG_S ⟨⟨rfl,rfl,tG_E⟩,⟨rfl,rfl,Le.refl⟩,⟨rfl,rfl,tG_E⟩,trivial⟩)⟩
theorem c_LentStepN (s:Tst) (h1:s.v.f.n.l.length≤1048576) (h2:s.v.f.d.l.length≤1048576):
  CtN Tryz.prog 31 [tTs s] (fun nw=>tG (up nw) (tTsW s)):=by
 refine CtN.intro Tryz.func31 rfl Tryz.ntmps31 rfl ?_
 intro w F
 refine A3 ?_
 refine RE (x5 (k:=2) (n:=8) (agg:=true) zr37.1 zr37.2 rfl) trivial trivial ⟨rfl,trivial⟩ ?_
 refine A6 ?_
 refine R1 (xe9 (ts:=[_]) (r:=tG (up w.heap.size) _) (c_LentValueN s.v h1 h2) fi53 (fun m hm=>xi2 hm) ⟨Le.refl,trivial⟩ rfl) rfl ?_
 refine A1 ?_
 refine xj8 (0) ti35 rfl rfl rfl rfl (Up.g 2 rfl rfl rfl) rfl rfl ?_
 refine A3 ?_
 refine C_key (k:=1) (e':=⟨37,8,true,[.val (tS [⟨1,false,tI s.lo⟩,⟨1,false,tI s.hi⟩,⟨6,true,tG (up w.heap.size) (tVaW s.v)⟩])]⟩) rfl rfl ?_
 refine A6 ?_
 exact xc1 Plain.mk' rfl ⟨_,_,_,_,_,rfl,rfl,ti37,(leG_S ⟨⟨rfl,rfl,tG_E⟩,⟨rfl,rfl,tG_E⟩,⟨rfl,rfl,Le.refl⟩,trivial⟩)⟩
theorem c_markK (k i:Nat) (hk:k < 1000) (hi:i < 10000000):
  Ct Tryz.prog 54 [tI k,tI i] (tI (1000003*((k:Int)+7)+(i:Int))):=by
 refine Ct.intro Tryz.func54 rfl Tryz.ntmps54 rfl ?_
 intro w F
 refine A9 ?_
 refine R2 (xi5 (wr64 (by omega) (by omega))) rfl rfl ?_
 refine A6 ?_
 exact x4 Plain.mk' rfl rfl Le.refl
theorem c_markStep (k i:Nat) (hk:k < 1000) (hi:i < 10000000):
  CtN Tryz.prog 32 [tI k,tI i] (fun nw=>tG (up nw) (tTs (smk k i))):=by
 refine CtN.intro Tryz.func32 rfl Tryz.ntmps32 rfl ?_
 intro w F
 refine A2 ?_
 refine RE (x5 (k:=4) (n:=8) (agg:=true) zr37.1 zr37.2 rfl) trivial trivial ⟨rfl,trivial⟩ ?_
 refine A6 ?_
 refine R2 (x3 (c_markK k i hk hi) fi54 rfl) rfl rfl (R1 (xa7 (r:=tS [⟨1,false,tI (1000003*((k:Int)+7)+(i:Int))⟩,⟨1,false,(tE (.int .i64 0))⟩,⟨6,true,(tS [⟨1,false,(tE (.int .u8 0))⟩,⟨4,true,(tS [⟨2,true,(tS [⟨1,false,(tE (.bool false))⟩,⟨1,false,(tLm [])⟩])⟩,⟨2,true,(tS [⟨1,false,(tE (.bool false))⟩,⟨1,false,(tLm [])⟩])⟩])⟩,⟨1,false,(tE (.int .i64 0))⟩])⟩]) (ts:=[(0,tI (1000003*((k:Int)+7)+(i:Int)))]) bu37 zr37.2 (Bc 0 rfl rfl rfl Le.refl)) rfl ?_)
 refine A4 ?_
 exact xc1 Plain.mk' rfl ⟨_,_,_,_,_,rfl,rfl,ti37,(leG_S ⟨⟨rfl,rfl,tG_E⟩,⟨rfl,rfl,tG_E⟩,⟨rfl,rfl,va00N⟩,trivial⟩)⟩
theorem c_LentStepsN (l:List Tst) (hl:l.length≤60) (hs: ∀s∈l,s.v.f.n.l.length≤1048576∧s.v.f.d.l.length≤1048576):
  CtN Tryz.prog 15 [tL 8 true tTs l] (fun nw=>tG (up nw) (tStW l)):=by
 refine CtN.intro Tryz.func15 rfl Tryz.ntmps15 rfl ?_
 intro w F
 refine A10 ?_
 refine RE (xh1 (k:=10) (t:=(tS [⟨1,false,(tE (.int .i64 0))⟩,⟨1,false,(tE (.int .i64 0))⟩,⟨6,true,(tS [⟨1,false,(tE (.int .u8 0))⟩,⟨4,true,(tS [⟨2,true,(tS [⟨1,false,(tE (.bool false))⟩,⟨1,false,(tLm [])⟩])⟩,⟨2,true,(tS [⟨1,false,(tE (.bool false))⟩,⟨1,false,(tLm [])⟩])⟩])⟩,⟨1,false,(tE (.int .i64 0))⟩])⟩])) (ts:=([]:List Ent)) (0) (l.length+12) Tryz.underlying22 el37 (fun _ _=>⟨_,rfl,rfl,⟨fun _=>rfl,rfl⟩,⟨fun _=>rfl,rfl⟩,⟨fun h=>Bool.noConfusion h,⟨_,rfl,rfl,⟨fun _=>rfl,rfl⟩,⟨fun h=>Bool.noConfusion h,⟨_,rfl,rfl,⟨fun h=>Bool.noConfusion h,⟨_,rfl,rfl,⟨fun _=>rfl,rfl⟩,⟨fun _=>rfl,⟨none,0,rfl,Nat.le_refl _,by decide,.inl rfl⟩⟩,trivial⟩⟩,⟨fun h=>Bool.noConfusion h,⟨_,rfl,rfl,⟨fun _=>rfl,rfl⟩,⟨fun _=>rfl,⟨none,0,rfl,Nat.le_refl _,by decide,.inl rfl⟩⟩,trivial⟩⟩,trivial⟩⟩,⟨fun _=>rfl,rfl⟩,trivial⟩⟩,trivial⟩) rfl (by omega) (by omega) (by omega) (by omega) (by omega) rfl) ⟨rfl,rfl,trivial⟩ trivial ⟨rfl,trivial⟩ ?_
 refine A10 ?_
 refine cL (fun (i:Nat)=>i≤l.length) (fun (i:Nat)=>upd (upd (upd (fun _=>none) 0 (some (.val (tL 8 true tTs l)))) 3 (some (.own (.sl 10 8 0 i)))) 4 (some (.val (tI i)))) (fun (i:Nat)=>upd (fun _=>none) 10 (some (⟨37,8,true,rV (fun x=>tG (up w.heap.size) (tTsM x)) (lmT (l.take i))⟩))) [10] (fun (i:Nat)=>l.length - i) (0) (Nat.zero_le _) (hh:=((SubK.consI rfl (ImpK.of rfl)) SubK.nil)) ?_
 intro i hI
 have hxl:(lmT (l.take i)).length=i:=by rw [xi9,List.length_take];omega
 refine A9 ?_
 refine x9 rfl (fun h379=> ?_) (fun h379=> ?_)
 ·
  refine A8 ?_
  refine R2 (x6 sl22 i (by omega) (gD (l:=l) (n:=i) (d:=tst0) (by omega))) rfl rfl ?_
  refine A1 ?_
  refine R1 (xe9 (ts:=[_]) (r:=tG (up w.heap.size) _) (c_LentStepN (l.getD i tst0) (hs _ (xb9 (l:=l) (by omega))).1 (hs _ (xb9 (l:=l) (by omega))).2) fi31 (fun m hm=>xi2 hm) ⟨Le.refl,trivial⟩ rfl) rfl (RE (x5 (k:=5) (n:=8) (agg:=true) zr37.1 zr37.2 rfl) trivial trivial ⟨rfl,trivial⟩ ?_)
  refine A6 ?_
  refine R1 (xc6 (n:=1) (f:=(fun x=>tG (up w.heap.size) (tTsM x))) [((l.getD i tst0,true):Tst×Bool)] Tryz.underlying22 el37 zf37 rfl (fun _=>inferInstance) rfl rfl rfl) rfl (RE (xc2 (k:=10) (k':=25) (f:=(fun x=>tG (up w.heap.size) (tTsM x))) (ys:=[((l.getD i tst0,true):Tst×Bool)]) (ts':=rV (fun x=>tG (up w.heap.size) (tTsM x)) ((lmT (l.take i))++[((l.getD i tst0,true):Tst×Bool)])) Tryz.underlying22 el37 zf37 rfl rfl (fun _=>inferInstance) (xg3.trans hxl) (by simp;omega) (by simp;omega) (by simp [rV]) (n':=i+1) rfl) ⟨rfl,rfl,trivial⟩ ⟨rfl,trivial⟩ ⟨rfl,trivial⟩ ?_)
  refine A9 ?_
  exact xf7 (l:=[10]) (fun j=>cond (Nat.beq j 10) 25 (j)) (i+1) ⟨(by omega),(by omega)⟩ (SubR.int rfl (by first | omega | rfl | (dsimp only;omega)) (SubR.cons rfl (SubR.cons rfl SubR.nil))) ((SubKR.consI rfl (ImpK.of (by rw [lmT_take (by omega)];exact xf4.symm))) SubKR.nil) (SupG.val (SupG.own rfl (SupG.val SupG.nil))) (SupH.cons rfl (supJ xd3) SupH.nil) (lkOk rfl) rfl rfl (fun _ h=>by cases h)
 ·
  refine A12 ?_
  have hil:i=l.length:=by omega
  subst hil
  refine cL (fun (i:Nat)=>i≤12) (fun (i:Nat)=>upd (upd (upd (fun _=>none) 0 (some (.val (tL 8 true tTs l)))) 3 (some (.own (.sl 10 8 0 (l.length+i))))) 6 (some (.val (tI i)))) (fun (i:Nat)=>upd (fun _=>none) 10 (some (⟨37,8,true,rV (fun x=>tG (up w.heap.size) (tTsM x)) (lmT l++mmT (mkT.take i))⟩))) [10] (fun (i:Nat)=>12 - i) (0) (Nat.zero_le _) (hh:=((SubK.consI rfl (ImpK.of (by rw [List.take_length,List.take_zero,mmT,List.map_nil,List.append_nil]))) SubK.nil)) ?_
  intro i hI
  have hxl:(lmT l++mmT (mkT.take i)).length=l.length+i:=by rw [List.length_append,xi9,xs7,List.length_take,xm5];omega
  refine A7 ?_
  refine x9 rfl (fun h383=> ?_) (fun h383=> ?_)
  ·
   refine A7 ?_
   refine R2 (xe9 (ts:=[_,_]) (r:=tG (up w.heap.size) _) (c_markStep 1 i (by decide) (by omega)) fi32 (fun m hm=>xi2 hm) ⟨Le.refl,Le.refl,trivial⟩ rfl) rfl rfl (R1 (xc6 (n:=1) (f:=(fun x=>tG (up w.heap.size) (tTsM x))) [((smk 1 i,false):Tst×Bool)] Tryz.underlying22 el37 zf37 rfl (fun _=>inferInstance) rfl rfl rfl) rfl (RE (xc2 (k:=10) (k':=34) (f:=(fun x=>tG (up w.heap.size) (tTsM x))) (ys:=[((smk 1 i,false):Tst×Bool)]) (ts':=rV (fun x=>tG (up w.heap.size) (tTsM x)) ((lmT l++mmT (mkT.take i))++[((smk 1 i,false):Tst×Bool)])) Tryz.underlying22 el37 zf37 rfl rfl (fun _=>inferInstance) (xg3.trans hxl) (by simp;omega) (by simp;omega) (by simp [rV]) (n':=l.length+i+1) rfl) ⟨rfl,rfl,trivial⟩ ⟨rfl,trivial⟩ ⟨rfl,trivial⟩ ?_))
   refine A9 ?_
   exact xf7 (l:=[10]) (fun j=>cond (Nat.beq j 10) 34 (j)) (i+1) ⟨(by omega),(by omega)⟩ (SubR.int rfl (by first | omega | rfl | (dsimp only;omega)) (SubR.cons rfl (SubR.cons rfl SubR.nil))) ((SubKR.consI rfl (ImpK.of (by rw [mkT_take (by omega),mmT_snoc,←List.append_assoc];exact xf4.symm))) SubKR.nil) (SupG.val (SupG.own rfl (SupG.val SupG.nil))) (SupH.cons rfl (supJ xd3) SupH.nil) (lkOk rfl) rfl rfl (fun _ h=>by cases h)
  ·
   refine A10 ?_
   refine RE (d_keepOW (k:=10) (f:=(fun x=>tG (up w.heap.size) (tTsM x))) (xs:=lmT l) (ms:=mmT mkT) (up w.heap.size) (fun _ h=>h) sl22 (fun _ h=>h) (fun _ _=>tG_idem) (by rw [rV,show i=12 by omega,show mkT.take 12=mkT from rfl]) (by rw [xi9,xs7,xm5];omega) (by omega) (by rw [xi9])) ⟨rfl,rfl,trivial⟩ ⟨rfl,trivial⟩ trivial ?_
   refine A4 ?_
   exact x4 Plain.mk' rfl rfl (tG_mono (leLW fun _=>tG_le))
instance fi43:FnI Tryz.prog 43:=⟨_,Tryz.func43,by kernel_rfl,rfl⟩
instance fi44:FnI Tryz.prog 44:=⟨_,Tryz.func44,by kernel_rfl,rfl⟩
instance fi65:FnI Tryz.prog 65:=⟨_,Tryz.func65,by kernel_rfl,rfl⟩
instance fi100:FnI Tryz.prog 100:=⟨_,Tryz.func100,by kernel_rfl,rfl⟩
instance fi133:FnI Tryz.prog 133:=⟨_,Tryz.func133,by kernel_rfl,rfl⟩
instance fi162:FnI Tryz.prog 162:=⟨_,Tryz.func162,by kernel_rfl,rfl⟩
theorem c_KeptWhole (x:Wh) (hl:x.l.length≤1048576):
  Ct Tryz.prog 133 [tWhK x,tWh x] (tB true):=by
 refine Ct.intro Tryz.func133 rfl Tryz.ntmps133 rfl ?_
 intro w F
 refine A11 ?_
 refine R2 (xj0 (ts:=[tWhK x,tWh x]) (xv5 x x) fi46 rfl ⟨whK_le,Le.refl,trivial⟩) rfl rfl ?_
 refine A1 ?_
 refine RGon (decide_eq_true (by rfl)) rfl (xd2 fo31_1.h rfl) rfl ⟨rfl,trivial⟩ trivial trivial (xc7 (decide_eq_true (by rfl)) rfl rfl (0) ti29 rfl rfl rfl (At.g 1 rfl rfl) rfl (RGon (decide_eq_true (by rfl)) rfl (xd2 fo31_1.h rfl) rfl ⟨rfl,trivial⟩ trivial trivial (xc7 (decide_eq_true (by rfl)) rfl rfl (0) ti29 rfl rfl rfl (At.g 1 rfl rfl) rfl (RGon (decide_eq_true (by rfl)) rfl (x3 (c_KeptLimbs x.l hl) fi162 rfl) rfl ⟨rfl,rfl,trivial⟩ trivial trivial (R2 (xe3 (decide_eq_true (by rfl))) rfl rfl ?_)))))
 refine A4 ?_
 exact x4 Plain.mk' rfl rfl Le.refl
theorem c_KeptFrac (f:Fr) (h1:f.n.l.length≤1048576) (h2:f.d.l.length≤1048576):
  Ct Tryz.prog 100 [tFrK f,tFr f] (tB true):=by
 refine Ct.intro Tryz.func100 rfl Tryz.ntmps100 rfl ?_
 intro w F
 refine A11 ?_
 refine R2 (xj0 (ts:=[tFrK f,tFr f]) (xu8 f f) fi24 rfl ⟨frK_le,Le.refl,trivial⟩) rfl rfl ?_
 refine A1 ?_
 refine RGon (decide_eq_true (by rfl)) rfl (xd2 fo33_0.h rfl) rfl ⟨rfl,trivial⟩ trivial trivial (xc7 (decide_eq_true (by rfl)) rfl rfl (0) ti31 rfl rfl rfl (At.g 0 rfl rfl) rfl (RGon (decide_eq_true (by rfl)) rfl (xd2 fo33_0.h rfl) rfl ⟨rfl,trivial⟩ trivial trivial (xc7 (decide_eq_true (by rfl)) rfl rfl (0) ti31 rfl rfl rfl (At.g 0 rfl rfl) rfl (RGon (decide_eq_true (by rfl)) rfl (x3 (c_KeptWhole f.n h1) fi133 rfl) rfl ⟨rfl,rfl,trivial⟩ trivial trivial (R2 (xe3 (decide_eq_true (by rfl))) rfl rfl ?_)))))
 refine A5 ?_
 refine RGon rfl rfl (x3 (c_KeptWhole f.d h2) fi133 rfl) rfl ⟨rfl,rfl,trivial⟩ trivial trivial ?_
 refine A5 ?_
 exact x4 Plain.mk' rfl rfl Le.refl
theorem c_KeptValue (v:Va) (h1:v.f.n.l.length≤1048576) (h2:v.f.d.l.length≤1048576):
  Ct Tryz.prog 65 [tVaK v,tVa v] (tB true):=by
 refine Ct.intro Tryz.func65 rfl Tryz.ntmps65 rfl ?_
 intro w F
 refine A11 ?_
 refine R2 (xj0 (ts:=[tVaK v,tVa v]) (xw1 v v) fi9 rfl ⟨vaK_le,Le.refl,trivial⟩) rfl rfl ?_
 refine A1 ?_
 refine RGon (decide_eq_true (by rfl)) rfl (xd2 fo35_1.h rfl) rfl ⟨rfl,trivial⟩ trivial trivial (xc7 (decide_eq_true (by rfl)) rfl rfl (0) ti33 rfl rfl rfl (At.g 1 rfl rfl) rfl (RGon (decide_eq_true (by rfl)) rfl (xd2 fo35_1.h rfl) rfl ⟨rfl,trivial⟩ trivial trivial (xc7 (decide_eq_true (by rfl)) rfl rfl (0) ti33 rfl rfl rfl (At.g 1 rfl rfl) rfl (RGon (decide_eq_true (by rfl)) rfl (x3 (c_KeptFrac v.f h1 h2) fi100 rfl) rfl ⟨rfl,rfl,trivial⟩ trivial trivial (R2 (xe3 (decide_eq_true (by rfl))) rfl rfl ?_)))))
 refine A4 ?_
 exact x4 Plain.mk' rfl rfl Le.refl
theorem c_KeptStep (s:Tst) (h1:s.v.f.n.l.length≤1048576) (h2:s.v.f.d.l.length≤1048576):
  Ct Tryz.prog 43 [tTsW s,tTs s] (tB true):=by
 refine Ct.intro Tryz.func43 rfl Tryz.ntmps43 rfl ?_
 intro w F
 refine A11 ?_
 refine R2 (xj0 (ts:=[_,_]) (c_SameStep s s) fi44 rfl ⟨tsW_le,Le.refl,trivial⟩) rfl rfl ?_
 refine A1 ?_
 refine RGon (decide_eq_true (by rfl)) rfl (xd2 fo37_2.h rfl) rfl ⟨rfl,trivial⟩ trivial trivial (xc7 (decide_eq_true (by rfl)) rfl rfl (0) ti35 rfl rfl rfl (At.g 2 rfl rfl) rfl (RGon (decide_eq_true (by rfl)) rfl (xd2 fo37_2.h rfl) rfl ⟨rfl,trivial⟩ trivial trivial (xc7 (decide_eq_true (by rfl)) rfl rfl (0) ti35 rfl rfl rfl (At.g 2 rfl rfl) rfl (RGon (decide_eq_true (by rfl)) rfl (xj0 (ts:=[_,_]) (c_KeptValue s.v h1 h2) fi65 rfl ⟨vaWK,Le.refl,trivial⟩) rfl ⟨rfl,rfl,trivial⟩ trivial trivial (R2 (xe3 (decide_eq_true (by rfl))) rfl rfl ?_)))))
 refine A4 ?_
 exact x4 Plain.mk' rfl rfl Le.refl
theorem c_markStep1 (i:Nat) (hi:i < 10000000):Ct Tryz.prog 32 [tI 1,tI i] (tTs (smk 1 i)):=(c_markStep 1 i (by decide) hi).toCt fun _=>tG_le
theorem c_KeptSteps (l:List Tst) (hl:l.length≤60) (hs: ∀s∈l,s.v.f.n.l.length≤1048576∧s.v.f.d.l.length≤1048576):
  Ct Tryz.prog 21 [tStW l,tL 8 true tTs l] (tB true):=by
 have hml:(lmT l++mmT mkT).length=l.length+12:=by rw [List.length_append,xi9,xs7,xm5]
 have hll:(lmT l).length=l.length:=xi9
 refine Ct.intro Tryz.func21 rfl Tryz.ntmps21 rfl ?_
 intro w F
 refine A9 ?_
 refine R1 (d_lenW Tryz.underlying22 hll) rfl ?_
 refine A5 ?_
 refine C_bF rfl (decide_eq_false (by omega)) ?_
 refine A8 ?_
 refine R2 (d_sliceW sl22 (by rw [hll,xs7,xm5];omega)) rfl rfl ?_
 refine A10 ?_
 refine cL (fun (i:Nat)=>i≤(lmT l++mmT mkT).length) (fun (i:Nat)=>upd (upd (upd (fun _=>none) 1 (some (.val (tL 8 true tTs l)))) 5 (some (.val (tL 8 true tTsM (lmT l++mmT mkT))))) 6 (some (.val (tI i)))) (fun (i:Nat)=>fun _=>none) [] (fun (i:Nat)=>(lmT l++mmT mkT).length - i) (0) (Nat.zero_le _) ?_
 intro i hI
 refine A9 ?_
 refine x9 rfl (fun h394=> ?_) (fun h394=> ?_)
 ·
  refine A11 ?_
  refine RGcaseD (t:=27) rfl (fun h395=> ?_) (fun h395=> ?_)
  ·
   refine A2 ?_
   refine RGon (decide_eq_true h395) rfl (x6 sl22 i (by omega) (gD (l:=(lmT l++mmT mkT)) (n:=i) (d:=tm0) (by omega))) rfl ⟨rfl,rfl,trivial⟩ trivial trivial ?_
   refine A3 ?_
   refine RGon (decide_eq_true h395) rfl (x6 sl22 i (by omega) (gD (l:=l) (n:=i) (d:=tst0) (by omega))) rfl ⟨rfl,rfl,trivial⟩ trivial trivial ?_
   refine A1 ?_
   refine RGon (decide_eq_true h395) rfl (xj0 (ts:=[_,_]) (c_KeptStep (l.getD i tst0) (hs _ (xb9 (l:=l) (by omega))).1 (hs _ (xb9 (l:=l) (by omega))).2) fi43 rfl ⟨(by rw [lm_l (by omega)];exact Le.refl),Le.refl,trivial⟩) rfl ⟨rfl,rfl,trivial⟩ trivial trivial ?_
   refine A8 ?_
   refine RGoff (decide_eq_false (by omega)) rfl rfl (RGoff (decide_eq_false (by omega)) rfl rfl (RGoff (decide_eq_false (by omega)) rfl rfl (RGoff (decide_eq_false (by omega)) rfl rfl (RGoff (decide_eq_false (by omega)) rfl rfl (RGoff (decide_eq_false (by omega)) rfl rfl (RGoff (decide_eq_false (by omega)) rfl rfl (RGoff (decide_eq_false (by omega)) rfl rfl ?_)))))))
   refine RGoff (decide_eq_false (by omega)) rfl rfl (RGoff (decide_eq_false (by omega)) rfl rfl (RGoff (decide_eq_false (by omega)) rfl rfl (RGon rfl rfl (xc4 (decide_eq_false (by omega))) rfl ⟨rfl,rfl,trivial⟩ trivial trivial ?_)))
   refine A12 ?_
   exact kF (i+1) ⟨(by omega),(by omega)⟩
  ·
   refine A17 ?_
   refine RGon (decide_eq_true (by omega)) rfl xa0 rfl ⟨rfl,trivial⟩ trivial trivial (RGon (decide_eq_true (by omega)) rfl xa0 rfl ⟨rfl,trivial⟩ trivial trivial (RGon (decide_eq_true (by omega)) rfl (x6 sl22 i (by omega) (gD (l:=(lmT l++mmT mkT)) (n:=i) (d:=tm0) (by omega))) rfl ⟨rfl,rfl,trivial⟩ trivial trivial (RGon (decide_eq_true (by omega)) rfl (xi3 ti37) rfl ⟨rfl,trivial⟩ trivial trivial (RGon (decide_eq_true (by omega)) rfl xa0 rfl ⟨rfl,trivial⟩ trivial trivial (RGon (decide_eq_true (by omega)) rfl xa0 rfl ⟨rfl,trivial⟩ trivial trivial (RGon (decide_eq_true (by omega)) rfl (d_len Tryz.underlying22) rfl ⟨rfl,trivial⟩ trivial trivial (RGon (decide_eq_true (by omega)) rfl (xe4 (r:=((i - l.length:Nat):Int)) (by rw [wr64 (by omega) (by omega)];omega)) rfl ⟨rfl,rfl,trivial⟩ trivial trivial ?_)))))))
   refine RGon (decide_eq_true (by omega)) rfl (xj0 (ts:=[_,_]) (c_markStep1 (i - l.length) (by omega)) fi32 rfl ⟨Le.refl,Le.refl,trivial⟩) rfl ⟨rfl,rfl,trivial⟩ trivial trivial (RGon (decide_eq_true (by omega)) rfl (xj0 (ts:=[_,_]) (c_SameStep (smk 1 (i - l.length)) (smk 1 (i - l.length))) fi44 rfl ⟨(by rw [lm_r (by omega) (by rw [xm5];omega),mkT_at (by omega)];exact Le.refl),Le.refl,trivial⟩) rfl ⟨rfl,rfl,trivial⟩ trivial trivial (RGon (decide_eq_true (by omega)) rfl xj4 rfl ⟨rfl,trivial⟩ trivial trivial (RGon rfl rfl (xe3 (decide_eq_true (by omega))) rfl ⟨rfl,rfl,trivial⟩ trivial trivial ?_)))
   refine A3 ?_
   refine C_bF rfl (xb3 (by rfl)) ?_
   refine A8 ?_
   exact kF (i+1) ⟨(by omega),(by omega)⟩
 ·
  refine A11 ?_
  exact x4 Plain.mk' rfl rfl Le.refl
instance fi45:FnI Tryz.prog 45:=⟨_,Tryz.func45,by kernel_rfl,rfl⟩
instance fi66:FnI Tryz.prog 66:=⟨_,Tryz.func66,by kernel_rfl,rfl⟩
instance fi101:FnI Tryz.prog 101:=⟨_,Tryz.func101,by kernel_rfl,rfl⟩
instance fi134:FnI Tryz.prog 134:=⟨_,Tryz.func134,by kernel_rfl,rfl⟩
instance fi163:FnI Tryz.prog 163:=⟨_,Tryz.func163,by kernel_rfl,rfl⟩
def ovr (l:List Nat):Nat→List Nat
 | 0=>l
 | k+1=>(ovr l k).set k ((9000027+k)%65536)
theorem ovr_len {l:List Nat}: ∀{k:Nat},(ovr l k).length=l.length
 | 0=>rfl
 | k+1=>by rw [ovr,List.length_set,ovr_len]
theorem cutM2 {i:Nat}:IntKind.u16.wrap (1000003*(((2:Nat):Int)+7)+(i:Int))=(((9000027+i)%65536:Nat):Int):=by rw [mu16];omega
theorem c_mark2 (i:Nat) (hi:i < 10000000):Ct Tryz.prog 54 [tI 2,tI i] (tI (1000003*(((2:Nat):Int)+7)+(i:Int))):=c_markK 2 i (by decide) hi
theorem c_markStep2 (i:Nat) (hi:i < 10000000):Ct Tryz.prog 32 [tI 2,tI i] (tTs (smk 2 i)):=(c_markStep 2 i (by decide) hi).toCt fun _=>tG_le
theorem c_OverLimbsG (l:List Nat) (n:Nat) (hn:n+12≤l.length) (hb:n≤9000000):
  CtG Tryz.prog 163 [(1,⟨42,1,false,rW .u16 l⟩)] [.own (.sl 1 1 0 n)] (.val (tT [])) [(1,⟨42,1,false,rW .u16 (ovr l (n+12))⟩)] []:=by
 refine CtG.intro [1] Tryz.func163 rfl Tryz.ntmps163 rfl rfl ⟨⟨rfl,xd6⟩,trivial⟩ ?_
 intro w F η
 refine A4 ?_
 refine RE (d_capO Tryz.underlying29) ⟨rfl,trivial⟩ ⟨rfl,trivial⟩ trivial ?_
 refine A3 ?_
 refine R2 (d_minX (v:=((n+12:Nat):Int)) (fun q hq=>by rw [xk2] at hq;omega)) rfl rfl (RE (d_sliceOX sl29 (n+12) rfl (by rw [xk2];omega)) ⟨rfl,rfl,trivial⟩ ⟨rfl,trivial⟩ trivial ?_)
 refine A9 ?_
 refine cL (fun (i:Nat)=>i≤n+12) (fun (i:Nat)=>upd (upd (fun _=>none) 2 (some (.own (.sl 1 1 0 (n+12))))) 3 (some (.val (tI i)))) (fun (i:Nat)=>upd (fun _=>none) 1 (some (⟨42,1,false,rW .u16 (ovr l i)⟩))) [1] (fun (i:Nat)=>n+12 - i) (0) (Nat.zero_le _) (hh:=((SubK.consI rfl (ImpK.of rfl)) SubK.nil)) ?_
 intro i hI
 refine A9 ?_
 refine x9 rfl (fun h85=> ?_) (fun h85=> ?_)
 ·
  refine A8 ?_
  refine R2 (x3 (c_mark2 i (by omega)) fi54 rfl) rfl rfl (R1 (x7 Tryz.underlying42 (isS Tryz.underlying3) cutM2) rfl (R2 (xa5 sl29 (by omega) (by omega) rfl) rfl rfl (RE (xc3 (i) ti42 (xj5 (by rw [ovr_len];omega)) (by omega) (xh3 (m:=_) rfl)) ⟨rfl,rfl,trivial⟩ ⟨rfl,trivial⟩ trivial ?_)))
  refine A8 ?_
  exact kF (i+1) ⟨(by omega),(by omega)⟩ (hh:=((SubK.consI rfl (ImpK.of rfl)) SubK.nil))
 ·
  have him:i=n+12:=by omega
  subst him
  refine A4 ?_
  exact E_retG0 LentC.mk' rfl (.inr rfl) ⟨rfl,trivial⟩ ⟨⟨rfl,xd6⟩,trivial⟩ rfl
theorem v_OverLimbs (V:VM) (n:Nat) (hb:n≤9000000):CtV Tryz.prog (XV 42 V) 163 [] [.val (tSlV V n)] 0 0:=by
 intro w η vs hvs _ _ hD hJ
 match vs,hvs with
 | [v],hvs=>
 obtain ⟨b,m,c,rfl,hV,hm⟩:=hvs.1
 have hJ:JV _ V w:=hJ
 obtain ⟨cs,h1,h2,h3,h4,h5⟩:=hJ b m c hV
 obtain ⟨xs,x1,x2⟩:=list_of (α:=Nat) (p:=fun i x=>cs[i]? =some (.int .u16 x)) m h5
 have hown: ∀b',OwnK (⟨fun _=>b,fun _=>c,fun _=>False⟩:Env) [(1,⟨42,1,false,rW .u16 xs⟩)] b'→b'=b:=by
  rintro b' ⟨x,hx,_,rfl⟩
  rfl
 refine (c_OverLimbsG xs n (by omega) hb (fun _=>False) w ⟨fun _=>b,fun _=>c,fun _=>False⟩ [.slice (some ⟨b,0,none⟩) n c] ⟨⟨_,rfl,?_,fun _=> ?_⟩,trivial⟩ ?_ ?_ (fun _ h=>h.elim)).mono ?_
 ·show 0+n≤c;omega
 ·simp
 ·intro x hx
  rw [List.mem_singleton] at hx
  subst hx
  refine ⟨by rw [xk2,x1];exact h3,(show 0 < 1 by decide),fun _=>rfl,h4,fun _=>⟨cs,h1,by rw [h2,Nat.mul_one],fun i e he=> ?_⟩⟩
  rw [rW,List.getElem?_map] at he
  obtain ⟨y,hy,rfl⟩:=Option.map_eq_some_iff.1 he
  show pick false 1 cs (i*1)=_
  have:=x2 i y hy
  rw [Nat.mul_one,pick,cond_false,Array.getD_eq_getD_getElem?,this];rfl
 ·intro x hx y hy hne
  rw [List.mem_singleton] at hx hy
  subst hx hy;exact absurd rfl hne
 ·rintro e w' ⟨u,η',rfl,ho⟩
  have hu:u= .tuple #[]:=by
   obtain ⟨us,e1,e2⟩:=ho.res
   cases us with
   | nil=>exact e1
   | cons _ _=>exact e2.elim
  have es:=ho.same 1 (by simp)
  refine ⟨by rw [hu],ho.stp.mono fun b' _ hb'=> .inr ?_,fun b' m' c' hV'=> ?_⟩
  ·rw [hown b' hb'];exact ⟨_,hV⟩
  ·by_cases hbb:b'=b
   ·subst hbb
    rw [hV] at hV'
    cases hV'
    have hk:=ho.keys _ (List.mem_singleton.2 rfl)
    obtain ⟨k1,k2,k3,k4,k5⟩:=hk
    have ec:η'.c 1=c:=es.2
    have eb:η'.b 1=b':=es.1
    simp only at k1 k4 k5
    rw [ec] at k1 k4 k5
    rw [eb] at k5
    rw [xk2,ovr_len,x1] at k1
    obtain ⟨cs',g1,g2,g3⟩:=k5 (by omega)
    refine ⟨cs',g1,by rw [g2,Nat.mul_one],h3,h4,fun i hi=> ?_⟩
    have:=g3 i _ (xn6 (by rw [ovr_len,x1];exact hi))
    have h0:pick false 1 cs' (i*1)= .int .u16 ((ovr xs (n+12)).getD i 0:Nat):=this
    rw [Nat.mul_one,pick,cond_false,Array.getD_eq_getD_getElem?] at h0
    cases hg:cs'[i]? with
    | none=>rw [Array.getElem?_eq_none_iff] at hg;rw [g2] at hg;omega
    | some z=>rw [hg] at h0;exact ⟨_,by rw [show z=_ from h0]⟩
   ·obtain ⟨cs0,z1,z2⟩:=hJ b' m' c' hV'
    exact ⟨cs0,(ho.stp.block b' (xa6 z1) fun h=>hbb (hown b' h)).trans z1,z2⟩
abbrev tWhV (V:VM) (x:Wh):Ty:=tS [⟨1,false,tB x.neg⟩,⟨1,false,tSlV V x.l.length⟩]
abbrev tFrV (V:VM) (f:Fr):Ty:=tS [⟨2,true,tWhV V f.n⟩,⟨2,true,tWhV V f.d⟩]
abbrev tVaV (V:VM) (v:Va):Ty:=tS [⟨1,false,tE (.int .u8 (v.kind:Int))⟩,⟨4,true,tFrV V v.f⟩,⟨1,false,tI v.i⟩]
abbrev tTsV (V:VM) (s:Tst):Ty:=tS [⟨1,false,tI s.lo⟩,⟨1,false,tI s.hi⟩,⟨6,true,tVaV V s.v⟩]
theorem free_wh {V:VM} {x:Wh}:Free (tWhV V x):=Free.S ⟨Free.E,free_tSlV,trivial⟩
theorem free_fr {V:VM} {f:Fr}:Free (tFrV V f):=Free.S ⟨free_wh,free_wh,trivial⟩
theorem free_va {V:VM} {v:Va}:Free (tVaV V v):=Free.S ⟨Free.E,free_fr,Free.E,trivial⟩
theorem free_ts {V:VM} {s:Tst}:Free (tTsV V s):=Free.S ⟨Free.E,Free.E,free_va,trivial⟩
abbrev tTsVM (V:VM) (x:Tst×Bool):Ty:=cond x.2 (tTsV V x.1) (tTs x.1)
instance {V:VM} {x:Tst×Bool}:Shape (tTsVM V x) 8 true:=by
 obtain ⟨s,b⟩:=x
 cases b
 ·exact (inferInstance:Shape (tTs s) 8 true)
 ·exact (inferInstance:Shape (tTsV V s) 8 true)
theorem rowV {V:VM} {l:List Tst} {m:List Tst} {i:Nat} (h:i < l.length):(rV (tTsVM V) (lmT l++mmT m))[i]? =some (.val (tTsV V (l.getD i tst0))):=by
 have:=xn1 (f:=tTsVM V) (xs:=lmT l++mmT m) (i:=i) (d:=tm0) (by rw [List.length_append,xi9];omega)
 rw [lm_l h] at this;exact this
theorem v_OverWhole (V:VM) (x:Wh) (hb:x.l.length≤9000000):
  CtV Tryz.prog (XV 42 V) 134 [] [.val (tWhV V x)] 0 0:=by
 refine CtV.intro 99 [] Tryz.func134 rfl Tryz.ntmps134 rfl rfl trivial rfl ?_
 intro w η hV
 refine A8 ?_
 refine RE (xq7 hV (us:=[_]) (v_OverLimbs V _ hb) fi163 ⟨free_tSlV,trivial⟩ rfl) ⟨rfl,trivial⟩ ⟨rfl,trivial⟩ trivial ?_
 refine A1 ?_
 exact E_retV hV rfl (.inr rfl) rfl
theorem v_OverFrac (V:VM) (f:Fr) (h1:f.n.l.length≤9000000) (h2:f.d.l.length≤9000000):
  CtV Tryz.prog (XV 42 V) 101 [] [.val (tFrV V f)] 0 0:=by
 refine CtV.intro 99 [] Tryz.func101 rfl Tryz.ntmps101 rfl rfl trivial rfl ?_
 intro w η hV
 refine A9 ?_
 refine RE (xq7 hV (us:=[_]) (v_OverWhole V _ h1) fi134 ⟨free_wh,trivial⟩ rfl) ⟨rfl,trivial⟩ ⟨rfl,trivial⟩ trivial ?_
 refine A5 ?_
 refine RE (xq7 hV (us:=[_]) (v_OverWhole V _ h2) fi134 ⟨free_wh,trivial⟩ rfl) ⟨rfl,trivial⟩ ⟨rfl,trivial⟩ trivial ?_
 refine A1 ?_
 exact E_retV hV rfl (.inr rfl) rfl
theorem v_OverValue (V:VM) (v:Va) (h1:v.f.n.l.length≤9000000) (h2:v.f.d.l.length≤9000000):
  CtV Tryz.prog (XV 42 V) 66 [] [.val (tVaV V v)] 0 0:=by
 refine CtV.intro 99 [] Tryz.func66 rfl Tryz.ntmps66 rfl rfl trivial rfl ?_
 intro w η hV
 refine A8 ?_
 refine RE (xq7 hV (us:=[_]) (v_OverFrac V _ h1 h2) fi101 ⟨free_fr,trivial⟩ rfl) ⟨rfl,trivial⟩ ⟨rfl,trivial⟩ trivial ?_
 refine A1 ?_
 exact E_retV hV rfl (.inr rfl) rfl
theorem v_OverStep (V:VM) (s:Tst) (h1:s.v.f.n.l.length≤9000000) (h2:s.v.f.d.l.length≤9000000):
  CtV Tryz.prog (XV 42 V) 45 [] [.val (tTsV V s)] 0 0:=by
 refine CtV.intro 99 [] Tryz.func45 rfl Tryz.ntmps45 rfl rfl trivial rfl ?_
 intro w η hV
 refine A8 ?_
 refine RE (xq7 hV (us:=[_]) (v_OverValue V _ h1 h2) fi66 ⟨free_va,trivial⟩ rfl) ⟨rfl,trivial⟩ ⟨rfl,trivial⟩ trivial ?_
 refine A1 ?_
 exact E_retV hV rfl (.inr rfl) rfl
theorem v_OverSteps (V:VM) (l:List Tst) (hl:l.length≤60) (hs: ∀s∈l,s.v.f.n.l.length≤9000000∧s.v.f.d.l.length≤9000000):
  CtV Tryz.prog (XV 42 V) 22 [(1,⟨37,8,true,rV (tTsVM V) (lmT l++mmT mkT)⟩)] [.own (.sl 1 8 0 l.length)] 0 0:=by
 have hml:(lmT l++mmT mkT).length=l.length+12:=by rw [List.length_append,xi9,xs7,xm5]
 refine CtV.intro 99 [1] Tryz.func22 rfl Tryz.ntmps22 rfl rfl ⟨⟨rfl,xd3⟩,trivial⟩ rfl ?_
 intro w η hV
 refine A7 ?_
 refine cL (fun (i:Nat)=>i≤l.length) (fun (i:Nat)=>upd (upd (fun _=>none) 0 (some (.own (.sl 1 8 0 l.length)))) 2 (some (.val (tI i)))) (fun (i:Nat)=>upd (upd (fun _=>none) 1 (some (⟨37,8,true,rV (tTsVM V) (lmT l++mmT mkT)⟩))) 99 (some (⟨0,1,false,[]⟩))) [1,99] (fun (i:Nat)=>l.length - i) (0) (Nat.zero_le _) (hh:=((SubK.consI rfl ImpK.refl) ((SubK.consI rfl ImpK.refl) SubK.nil))) ?_
 intro i hI
 refine A9 ?_
 refine x9 rfl (fun h403=> ?_) (fun h403=> ?_)
 ·
  refine A7 ?_
  refine R2 (xa5 sl22 (by omega) (by omega) rfl) rfl rfl (RE (xd8 (i) ti37 (rowV (by omega)) (by omega)) ⟨rfl,trivial⟩ ⟨rfl,trivial⟩ trivial (RE (xq7 hV (us:=[_]) (v_OverStep V (l.getD i tst0) (hs _ (xb9 (l:=l) (by omega))).1 (hs _ (xb9 (l:=l) (by omega))).2) fi45 ⟨free_ts,trivial⟩ rfl) ⟨rfl,trivial⟩ ⟨rfl,trivial⟩ trivial ?_))
  refine A8 ?_
  exact kF (i+1) ⟨(by omega),(by omega)⟩ (hh:=((SubK.consI rfl ImpK.refl) ((SubK.consI rfl ImpK.refl) SubK.nil)))
 ·
  refine A9 ?_
  refine RE (d_capO Tryz.underlying22) ⟨rfl,trivial⟩ ⟨rfl,trivial⟩ trivial ?_
  refine A3 ?_
  refine R2 (d_minX (v:=((l.length+12:Nat):Int)) (fun q hq=>by rw [xg3,hml] at hq;omega)) rfl rfl (RE (d_sliceOX sl22 (l.length+12) rfl (by have:=hml;rw [xg3];omega)) ⟨rfl,rfl,trivial⟩ ⟨rfl,trivial⟩ trivial ?_)
  refine A9 ?_
  refine cL (fun (fm:(Nat)×(List (Tst×Bool)))=>(fun (i:Nat) (xs:List (Tst×Bool))=>i≤l.length+12∧xs.length=l.length+12) fm.1 fm.2) (fun (fm:(Nat)×(List (Tst×Bool)))=>(fun (i:Nat) (xs:List (Tst×Bool))=>upd (upd (fun _=>none) 3 (some (.own (.sl 1 8 0 (l.length+12))))) 4 (some (.val (tI i)))) fm.1 fm.2) (fun (fm:(Nat)×(List (Tst×Bool)))=>(fun (i:Nat) (xs:List (Tst×Bool))=>upd (upd (fun _=>none) 1 (some (⟨37,8,true,rV (tTsVM V) xs⟩))) 99 (some (⟨0,1,false,[]⟩))) fm.1 fm.2) [1,99] (fun (fm:(Nat)×(List (Tst×Bool)))=>(fun (i:Nat) (xs:List (Tst×Bool))=>l.length+12 - i) fm.1 fm.2) ((0,(lmT l++mmT mkT))) (by dsimp only;exact ⟨Nat.zero_le _,hml⟩) (hh:=((SubK.consI rfl ImpK.refl) ((SubK.consI rfl ImpK.refl) SubK.nil))) ?_
  intro fm hI
  obtain ⟨i,xs⟩:=fm
  replace hI:i≤l.length+12∧xs.length=l.length+12:=hI
  show wc _ _ _ _ (upd (upd (fun _=>none) 3 (some (.own (.sl 1 8 0 (l.length+12))))) 4 (some (.val (tI i)))) (upd (upd (fun _=>none) 1 (some (⟨37,8,true,rV (tTsVM V) xs⟩))) 99 (some (⟨0,1,false,[]⟩))) _
  obtain ⟨hi,hxl⟩:=hI
  refine A9 ?_
  refine x9 rfl (fun h407=> ?_) (fun h407=> ?_)
  ·
   refine A8 ?_
   refine R2 (x3 (c_markStep2 i (by omega)) fi32 rfl) rfl rfl (R2 (xa5 sl22 (by omega) (by omega) rfl) rfl rfl (RE (xc3 (e:= .val (tTs (smk 2 i))) (i) ti37 (rV_lt (f:=tTsVM V) (xs:=xs) (by omega)) (by omega) (rV_set (f:=tTsVM V) (xs:=xs) (t:=tTs (smk 2 i)) (m:=(smk 2 i,false)) rfl)) ⟨rfl,rfl,trivial⟩ ⟨rfl,trivial⟩ trivial ?_))
   refine A8 ?_
   exact kF ((i+1,xs.set i (smk 2 i,false))) ⟨(by dsimp only;exact ⟨by omega,by rw [List.length_set];exact hxl⟩),(by dsimp only;omega)⟩ (hh:=((SubK.consI rfl ImpK.refl) ((SubK.consI rfl ImpK.refl) SubK.nil)))
  ·
   refine A4 ?_
   exact E_retV hV rfl (.inr rfl) rfl
end An.S
namespace An
open Go
section
variable {P:Program} {g:Slots} {h:Keys} {al:Names} {Q:Exit→Act→World→Prop}
abbrev ovb (N:Nat) (w0:World) (F:Dom) (K:Nat) (X:OvJ):Base:=Base.over N w0 F ⟨fun _=>0,fun _=>0,fun _=>False⟩ [] [] K X
theorem RBase.ov {N:Nat} {w0:World} {F:Dom} {K:Nat} {X:OvJ} (h: ∀b,X.D b→w0.heap.size≤b):RBase (ovb N w0 F K X) w0:=⟨Ext.refl w0,fun _ ⟨_,hx,_⟩=>(by cases hx),h⟩
theorem C_lent {N:Nat} {w0:World} {F:Dom} {x:Code} (K T s:Nat) {W:Ty} {g':Value→Slots} {h':Keys} (hs:g s=some (.val (tG (up w0.heap.size) W))) (hK:al K=false)
  (hg: ∀(a:Act) (L:Dom),(∀b,L b→w0.heap.size≤b)→SlC (fun b=> ¬L b) a g (g' (a.tmps.getD s undef)))
  (hh: ∀(w:World) (η:Env) (L:Dom),(∀b,L b→w0.heap.size≤b)→KyC (fun b=> ¬L b) w η h h')
  (H: ∀(L:Dom) (w1:World) (v:Value),W.p L w1 v→(∀b,L b→b < w1.heap.size)→(∀b,L b→w0.heap.size≤b)→wc P (ovb N w0 F K (XL T L w1)) x Q (g' v) (upd h' K (some ⟨0,1,false,[]⟩)) (fun j=>al j || Nat.beq j K)):
  wc P (Base.plain N w0 F) x Q g h al:=by
 refine C_at fun a w hs'=> ?_
 obtain ⟨η,st⟩:=hs'
 have hv:=st.slotv hs
 exact ⟨ovb N w0 F K (XL T (fun b=>(b < w.heap.size∧ ¬Own h η b)∧up w0.heap.size b) w),g' (a.tmps.getD s undef),_,_,rfl,st.over K (XL T (fun b=>(b < w.heap.size∧ ¬Own h η b)∧up w0.heap.size b) w) (fun b hb=>⟨hb.2,hb.1.1,hb.1.2⟩) ⟨fun _ b _=>rfl,fun h=>(by cases h),fun b hb=>hb.1.1⟩ hK (hg a _ fun b hb=>hb.2) (hh w η _ fun b hb=>hb.2),H _ w _ hv (fun b hb=>hb.1.1) fun b hb=>hb.2⟩
end
theorem tG_old {n:Nat} {L:Dom} {t:Ty} (h: ∀b,L b→n≤b):Le (tG (fun b=>b < n) t) (tG (fun b=> ¬L b) t):=tG_sub fun b hb hl=>by have:=h b hl;omega
theorem XL_hand {T:Nat} {L F:Dom} {w1 w:World} {W:Ty} {v:Value} (hW:W.p L w1 v) (hJ:(XL T L w1).J 0 w):W.p (fun b=>F b∨L b) w v:=W.mono hW fun b _ hb hl _=>⟨.inr hb,(hJ.1 rfl b hb).trans hl⟩
def HandL (T:Nat) (L:Dom) (w1:World):List Ty→List Ty→Prop
 | [],[]=>True
 | t::r,u::s=>(Le t u∨ ∃v,t=tE v∧u.p L w1 v)∧HandL T L w1 r s
 | _,_=>False
theorem HandL.all {T:Nat} {L F:Dom} {w1 w:World} (hJ:(XL T L w1).J 0 w): ∀{ts us:List Ty} {vs:List Value},HandL T L w1 ts us→Tup.all F w ts vs→Tup.all (fun b=>F b∨L b) w us vs
 | [],[],[],_,_=>trivial
 | t::r,u::s,v::vs,h,hv=>by
  refine ⟨?_,HandL.all hJ h.2 hv.2⟩
  rcases h.1 with h1 | ⟨v',rfl,h2⟩
  ·exact u.mono (h1 _ _ _ hv.1) fun b _ hb hl _=>⟨.inl hb,hl⟩
  ·have e:v=v':=hv.1
   subst e;exact XL_hand h2 hJ
 | [],[],_::_,_,hv=>hv.elim
 | _::_,_::_,[],_,hv=>hv.elim
 | [],_::_,_,h,_=>h.elim
 | _::_,[],_,h,_=>h.elim
section
variable {P:Program} {c:Base} {d ty:Nat} {pos:String} {af:Array Edge} {gd:Option (Nat×Bool)}
theorem xs6 {T K:Nat} {L:Dom} {w1:World} {f:FuncId} {xs:List Operand} {aT:Array TypeId} {us us':List Ty} {rr:Nat→Ty} {r:Ty} {w0:World} {η0:Env} {H:List (Nat×HEnt)} (hp:OvC c w0 η0 H K (XL T L w1)) (hc:CtN P f us rr) (hf:FnI P f) (hr: ∀m F w v,(rr m).p F w v→r.p (fun b=>F b∧m≤b) w v)
  (ha:HandL T L w1 us' us) (hl:xs.length=us'.length):
  Does P c ⟨some d,.call {callee:= .value (.func f),args:=xs.toArray,argTypes:=aT},ty,pos,af,gd⟩ ⟨xs.zip (us'.map Ent.val),[(K,⟨0,1,false,[]⟩)],some (d,some (.val r)),[],[]⟩:=
 d_callX hp hc hf hr (fun _ _ _ hJ hv=>HandL.all hJ ha hv) hl
end
theorem hrE {rr:Nat→Ty} {u:Value} (h: ∀m,rr m=tE u) (m:Nat) (F:Dom) (w:World) (v:Value) (hp:(rr m).p F w v):(tE u).p (fun b=>F b∧m≤b) w v:=by rw [h m] at hp;exact hp
theorem hrT {t:Ty} {u:Value} (m:Nat) (F:Dom) (w:World) (v:Value) (hp:(tT [tG (up m) t,tE u]).p F w v):(tT [t,tE u]).p (fun b=>F b∧m≤b) w v:=by
 obtain ⟨vs,h1,h2⟩:=hp
 refine ⟨vs,h1,?_⟩
 match vs,h2 with
 | [a,b],h2=>exact ⟨h2.1,h2.2.1,trivial⟩
 | [],h2=>exact h2.elim
 | [_],h2=>exact h2.2.elim
 | _::_::_::_,h2=>exact h2.2.2.elim
end An
namespace An.S
open Go Go.Proofs An
def Trs (F F':Dom) (w w':World):List Fd→List Fd→Prop
 | [],[]=>True
 | f::r,g::s=>(f.n=g.n∧f.agg=g.agg∧ ∀v,f.t.p F w v→g.t.p F' w' v)∧Trs F F' w w' r s
 | _,_=>False
theorem Trs.sum {F F':Dom} {w w':World}: ∀{fs gs:List Fd},Trs F F' w w' fs gs→Fd.sum fs=Fd.sum gs
 | [],[],_=>rfl
 | _::_,_::_,h=>by rw [Fd.sum,Fd.sum,h.1.1,Trs.sum h.2]
 | [],_::_,h=>h.elim
 | _::_,[],h=>h.elim
theorem Trs.all {F F':Dom} {w w':World} {cs:Array Value}: ∀{fs gs:List Fd} {o:Nat},Trs F F' w w' fs gs→Fd.all F w cs o fs→Fd.all F' w' cs o gs
 | [],[],_,_,_=>trivial
 | f::r,g::s,o,h,ha=>by
  obtain ⟨⟨h1,h2,h3⟩,h4⟩:=h
  refine ⟨⟨by rw [←h1,←h2];exact ha.1.1,by rw [←h1,←h2];exact h3 _ ha.1.2⟩,?_⟩
  rw [←h1];exact Trs.all h4 ha.2
 | [],_::_,_,h,_=>h.elim
 | _::_,[],_,h,_=>h.elim
theorem Trs.S {F F':Dom} {w w':World} {fs gs:List Fd} (h:Trs F F' w w' fs gs): ∀v,(tS fs).p F w v→(tS gs).p F' w' v:=fun _ ⟨cs,h1,h2,h3⟩=>⟨cs,h1,h2.trans h.sum,h.all h3⟩
theorem lmW_V {L F:Dom} {w1 w:World} {l:List Nat} (v:Value) (h:(tLmW l).p L w1 v):(tSlV (vOf 42 L w1) l.length).p F w v:=by
 obtain ⟨b,c,cs,h1,hF,hh,h2,h3,h4,h5,h6,hx⟩:=h
 rw [Nat.mul_one] at h2
 obtain ⟨m,hm,hle⟩:=vOf_mk (n:=l.length+12) hF hh (by omega) (fun i hi=>by
  have hlt:i < (l++mk16).length:=by rw [List.length_append,mk16_len];omega
  have:=hx i _ (List.getElem?_eq_getElem hlt)
  have h0:pick false 1 cs (i*1)= .int .u16 (((l++mk16)[i]:Nat):Int):=this
  rw [Nat.mul_one,pick,cond_false,Array.getD_eq_getD_getElem?] at h0
  rw [mk16_len] at h5
  cases hg:cs[i]? with
  | none=>rw [Array.getElem?_eq_none_iff] at hg;omega
  | some z=>rw [hg] at h0;exact ⟨_,by rw [show z=_ from h0]⟩)
 exact ⟨b,m,cs.size,by rw [h1,h2],hm,hle⟩
theorem whW_V {L F:Dom} {w1 w:World} {x:Wh}: ∀v,(tWhW x).p L w1 v→(tWhV (vOf 42 L w1) x).p F w v:=Trs.S ⟨⟨rfl,rfl,fun _ h=>h⟩,⟨rfl,rfl,lmW_V⟩,trivial⟩
theorem frW_V {L F:Dom} {w1 w:World} {f:Fr}: ∀v,(tFrW f).p L w1 v→(tFrV (vOf 42 L w1) f).p F w v:=Trs.S ⟨⟨rfl,rfl,whW_V⟩,⟨rfl,rfl,whW_V⟩,trivial⟩
theorem vaW_V {L F:Dom} {w1 w:World} {x:Va}: ∀v,(tVaW x).p L w1 v→(tVaV (vOf 42 L w1) x).p F w v:=Trs.S ⟨⟨rfl,rfl,fun _ h=>h⟩,⟨rfl,rfl,frW_V⟩,⟨rfl,rfl,fun _ h=>h⟩,trivial⟩
theorem tsW_V {L F:Dom} {w1 w:World} {s:Tst}: ∀v,(tTsW s).p L w1 v→(tTsV (vOf 42 L w1) s).p F w v:=Trs.S ⟨⟨rfl,rfl,fun _ h=>h⟩,⟨rfl,rfl,fun _ h=>h⟩,⟨rfl,rfl,vaW_V⟩,trivial⟩
theorem Free.nil {α:Type} {es:Nat} {agg:Bool} {f:α→Ty}:Free (tL es agg f []):=fun _ _ _ _ _ ⟨A,c,h1,h2,h3,_⟩=>⟨A,c,h1,h2,h3,.inl rfl⟩
theorem free_smk {k i:Nat}:Free (tTs (smk k i)):=Free.S ⟨Free.E,Free.E,Free.S ⟨Free.E,Free.S ⟨Free.S ⟨Free.E,Free.nil,trivial⟩,Free.S ⟨Free.E,Free.nil,trivial⟩,trivial⟩,Free.E,trivial⟩,trivial⟩
theorem lm_mem {l:List Tst} {i:Nat} {x:Tst×Bool} (h:(lmT l++mmT mkT)[i]? =some x):x.2=true∨ ∃j,x=(smk 1 j,false):=by
 have hm:=List.mem_of_getElem? h
 rcases List.mem_append.1 hm with h1 | h1
 ·obtain ⟨s,_,rfl⟩:=List.mem_map.1 h1;exact .inl rfl
 ·obtain ⟨s,hs,rfl⟩:=List.mem_map.1 h1
  obtain ⟨j,_,rfl⟩:=List.mem_map.1 hs
  exact .inr ⟨j,rfl⟩
theorem tsM_V {L F:Dom} {w1 w:World} {x:Tst×Bool} (hx:x.2=true∨ ∃j,x=(smk 1 j,false)) {v:Value} (h:(tTsM x).p L w1 v):(tTsVM (vOf 42 L w1) x).p F w v:=by
 rcases hx with hx | ⟨j,rfl⟩
 ·obtain ⟨s,b⟩:=x
  have hx:b=true:=hx
  subst hx;exact tsW_V v h
 ·exact free_smk _ _ _ _ _ h
theorem v_OverStepsL (L:Dom) (w1:World) (l:List Tst) (hl:l.length≤60) (hs: ∀s∈l,s.v.f.n.l.length≤9000000∧s.v.f.d.l.length≤9000000) (v:Value) (hv:(tStW l).p L w1 v):CtV Tryz.prog (XL 42 L w1) 22 [] [.val (tE v)] 0 1:=by
 intro w η vs hvs _ _ hD hJ
 match vs,hvs with
 | [u],hvs=>
 have hu:u=v:=hvs.1
 subst hu
 obtain ⟨b,c,cs,e,hLb,hh,h2,h3,h4,h5,h6,hx⟩:=hv
 have hJ:(∀_:0=0,∀b,L b→w.heap[b]? =w1.heap[b]?)∧_:=hJ
 have hw:=(hJ.1 rfl b hLb).trans hh
 rw [xi9,xs7,xm5] at h5
 rw [xi9] at e
 have hown: ∀b',OwnK (⟨fun _=>b,fun _=>c,fun _=>False⟩:Env) [(1,⟨37,8,true,rV (tTsVM (vOf 42 (fun b'=>L b'∧b'≠b) w1)) (lmT l++mmT mkT)⟩)] b'→b'=b:=by
  rintro b' ⟨x,hx,_,rfl⟩
  rfl
 refine (v_OverSteps (vOf 42 (fun b'=>L b'∧b'≠b) w1) l hl hs w ⟨fun _=>b,fun _=>c,fun _=>False⟩ [u] ⟨⟨_,e,?_,fun _=> ?_⟩,trivial⟩ ?_ ?_ (fun b' hb'=> ?_) (vOf_JV fun b' hb=>hJ.1 rfl b' hb.1)).mono ?_
 ·show 0+l.length≤c;omega
 ·simp
 ·intro y hy
  rw [List.mem_singleton] at hy
  subst hy
  refine ⟨by rw [xg3,List.length_append,xi9,xs7,xm5];exact h5,h3,h4,h6,fun _=>⟨cs,hw,h2,fun i ent he=> ?_⟩⟩
  rw [rV,List.getElem?_map] at he
  obtain ⟨y,hy,rfl⟩:=Option.map_eq_some_iff.1 he
  exact tsM_V (lm_mem hy) (hx i y hy)
 ·intro x hx y hy hne
  rw [List.mem_singleton] at hx hy
  subst hx hy;exact absurd rfl hne
 ·obtain ⟨x,hxb⟩:=hb'
  have h7:=(vOf_some (m:=x.1) (c:=x.2) hxb).1
  exact ⟨(hD b' h7.1).1,fun ho=>h7.2 (hown b' ho)⟩
 ·rintro e' w' ⟨r1,r2,r3⟩
  refine ⟨r1,r2.mono fun b' _ hb'=> .inr ?_,fun h=>(by cases h),fun _ b' m c' hV=> ?_,fun b' hb'=>Nat.lt_of_lt_of_le (hD b' hb').1 r2.size⟩
  ·rcases hb' with hb' | ⟨x,hxb⟩
   ·rw [hown b' hb'];exact hLb
   ·exact (vOf_some (m:=x.1) (c:=x.2) hxb).1.1
  ·obtain ⟨k1,cs1,k2,_⟩:=vOf_some hV
   have hne:b'≠b:=by
    rintro rfl
    rw [hh] at k2
    have k3:(37:Nat)=42:=by injection k2 with k2;injection k2
    exact absurd k3 (by decide)
   refine r3 b' m c' ?_
   rw [←hV];unfold vOf;rw [if_pos k1,if_pos ⟨k1,hne⟩]
instance fi118:FnI Tryz.prog 118:=⟨_,Tryz.func118,by kernel_rfl,rfl⟩
theorem fr0_eq {f:Fr} (h1:f.n.neg=false) (h2:f.d.neg=false) (h3:f.n.l.length=0) (h4:f.d.l.length=0):f=fr0:=by
 obtain ⟨⟨n1,l1⟩,⟨n2,l2⟩⟩:=f
 simp only at h1 h2 h3 h4
 rw [h1,h2,List.length_eq_zero_iff.1 h3,List.length_eq_zero_iff.1 h4];rfl
theorem fr0_ne {f:Fr} (h:f.n.neg=true∨f.d.neg=true∨0 < f.n.l.length∨0 < f.d.l.length):f≠fr0:=by
 rintro rfl
 rcases h with h | h | h | h <;> cases h
theorem va_no {v:Va} (h1: ¬(v.kind=2∨v.kind=3)) (h2:v.f≠fr0):v.valid=false:=by
 simp only [Va.valid]
 rw [if_neg h1,decide_eq_false h2]
 simp
theorem va_eq {u v:Va}:u=v↔u.kind=v.kind∧u.i=v.i∧u.f.n=v.f.n∧u.f.d=v.f.d:=by
 constructor
 ·rintro rfl;exact ⟨rfl,rfl,rfl,rfl⟩
 ·obtain ⟨k,⟨n,d⟩,i⟩:=u
  obtain ⟨k2,⟨n2,d2⟩,i2⟩:=v
  rintro ⟨h1,h2,h3,h4⟩
  simp only at h1 h2 h3 h4
  rw [h1,h2,h3,h4]
theorem c_R5Valid (v:Va) (hD:v.f.dig) (h1:v.f.n.l.length≤1048576) (h2:v.f.d.l.length≤1048576):
  Ct Tryz.prog 80 [tVa v] (tB v.valid):=by
 refine Ct.intro Tryz.func80 rfl Tryz.ntmps80 rfl ?_
 intro w F
 refine A13 ?_
 refine RGcaseD (t:=6) rfl (fun h14=> ?_) (fun h14=> ?_)
 ·
  refine A13 ?_
  refine RGcaseD (t:=14) rfl (fun h15=> ?_) (fun h15=> ?_)
  ·
   refine A2 ?_
   refine RGon (decide_eq_true h15) rfl (x3 (xu1 v.f hD.1 hD.2) fi63 rfl) rfl ⟨rfl,trivial⟩ trivial trivial ?_
   refine A6 ?_
   exact x4 Plain.mk' rfl rfl (Le.bool (by simp only [Va.valid];rw [if_pos (show v.kind=2∨v.kind=3 by omega),decide_eq_true h15,Bool.true_and]))
  ·
   refine A9 ?_
   exact x4 Plain.mk' rfl rfl (Le.bool (by simp only [Va.valid];rw [if_pos (show v.kind=2∨v.kind=3 by omega),decide_eq_false h15];rfl))
 ·
  refine A6 ?_
  refine x9 rfl (fun h14_2=> ?_) (fun h14_2=> ?_)
  ·
   refine A6 ?_
   refine RGcaseD (t:=14) rfl (fun h15=> ?_) (fun h15=> ?_)
   ·
    refine A2 ?_
    refine RGon (decide_eq_true h15) rfl (x3 (xu1 v.f hD.1 hD.2) fi63 rfl) rfl ⟨rfl,trivial⟩ trivial trivial ?_
    refine A6 ?_
    exact x4 Plain.mk' rfl rfl (Le.bool (by simp only [Va.valid];rw [if_pos (show v.kind=2∨v.kind=3 by omega),decide_eq_true h15,Bool.true_and]))
   ·
    refine A9 ?_
    exact x4 Plain.mk' rfl rfl (Le.bool (by simp only [Va.valid];rw [if_pos (show v.kind=2∨v.kind=3 by omega),decide_eq_false h15];rfl))
  ·
   refine A8 ?_
   refine xj6 (0) ti4 rfl rfl rfl (At.t (At.g 1 rfl rfl) (At.t (At.g 0 rfl rfl) (At.g 0 rfl rfl))) rfl ?_
   refine A1 ?_
   refine RGcase (t:=23) rfl (fun h17=> ?_) (fun h17=> ?_)
   ·
    have hnf:v.f≠fr0:=fr0_ne (.inl h17)
    refine A18 ?_
    refine A11 ?_
    exact x4 Plain.mk' rfl rfl (Le.bool (va_no (by omega) hnf).symm)
   ·
    refine A3 ?_
    refine xc7 h17 rfl rfl (0) ti4 rfl rfl rfl (At.t (At.g 1 rfl rfl) (At.t (At.g 1 rfl rfl) (At.g 0 rfl rfl))) rfl ?_
    refine A2 ?_
    refine RGcase (t:=29) rfl (fun h17_2=> ?_) (fun h17_2=> ?_)
    ·
     have hnf:v.f≠fr0:=fr0_ne (.inr (.inl h17_2))
     refine A18 ?_
     refine A5 ?_
     exact x4 Plain.mk' rfl rfl (Le.bool (va_no (by omega) hnf).symm)
    ·
     refine A3 ?_
     refine xc7 h17_2 rfl rfl (0) ti29 rfl rfl rfl (At.t (At.g 1 rfl rfl) (At.t (At.g 0 rfl rfl) (At.g 1 rfl rfl))) rfl ?_
     refine A4 ?_
     refine xc7 h17_2 rfl rfl (0) ti29 rfl rfl rfl (At.t (At.g 1 rfl rfl) (At.t (At.g 1 rfl rfl) (At.g 1 rfl rfl))) rfl ?_
     refine A1 ?_
     refine RGon h17_2 rfl (xc9 (wr64 (by omega) (by omega))) rfl ⟨rfl,rfl,trivial⟩ trivial trivial ?_
     refine A4 ?_
     refine x9 rfl (fun h17_3=> ?_) (fun h17_3=> ?_)
     ·
      have hnf:v.f≠fr0:=fr0_ne (by omega)
      refine A7 ?_
      exact x4 Plain.mk' rfl rfl (Le.bool (va_no (by omega) hnf).symm)
     ·
      have hf0:v.f=fr0:=fr0_eq h17 h17_2 (by omega) (by omega)
      refine A16 ?_
      refine x9 rfl (fun h21=> ?_) (fun h21=> ?_)
      ·
       refine A6 ?_
       refine RGcaseD (t:=50) rfl (fun h22=> ?_) (fun h22=> ?_)
       ·
        refine A10 ?_
        exact x4 Plain.mk' rfl rfl (Le.bool (by simp only [Va.valid];rw [if_neg (show ¬(v.kind=2∨v.kind=3) by omega),if_pos (show v.kind=1 by omega),decide_eq_true hf0,Bool.true_and,decide_eq_true (show 0≤v.i by omega),decide_eq_true (show v.i≤1 by omega)];rfl))
       ·
        refine A10 ?_
        exact x4 Plain.mk' rfl rfl (Le.bool (by simp only [Va.valid];rw [if_neg (show ¬(v.kind=2∨v.kind=3) by omega),if_pos (show v.kind=1 by omega),decide_eq_true hf0,Bool.true_and,←Bool.decide_and];exact decide_eq_decide.2 (by omega)))
      ·
       refine A6 ?_
       refine x9 rfl (fun h23=> ?_) (fun h23=> ?_)
       ·
        refine A6 ?_
        refine RGcaseD (t:=60) rfl (fun h24=> ?_) (fun h24=> ?_)
        ·
         refine A10 ?_
         exact x4 Plain.mk' rfl rfl (Le.bool (by simp only [Va.valid];rw [if_neg (show ¬(v.kind=2∨v.kind=3) by omega),if_neg (show ¬v.kind=1 by omega),if_pos (show v.kind=4 by omega),decide_eq_true hf0,Bool.true_and,←Bool.decide_and];exact decide_eq_decide.2 (by omega)))
        ·
         refine A10 ?_
         exact x4 Plain.mk' rfl rfl (Le.bool (by simp only [Va.valid];rw [if_neg (show ¬(v.kind=2∨v.kind=3) by omega),if_neg (show ¬v.kind=1 by omega),if_pos (show v.kind=4 by omega),decide_eq_true hf0,Bool.true_and,decide_eq_false (show ¬0≤v.i by omega)];rfl))
       ·
        refine A7 ?_
        refine x9 rfl (fun h25=> ?_) (fun h25=> ?_)
        ·
         refine A2 ?_
         refine C_bT rfl (decide_eq_true (by omega)) ?_
         refine A6 ?_
         refine RGcaseD (t:=71) rfl (fun h26=> ?_) (fun h26=> ?_)
         ·
          refine A10 ?_
          exact x4 Plain.mk' rfl rfl (Le.bool (by simp only [Va.valid];rw [if_neg (show ¬(v.kind=2∨v.kind=3) by omega),if_neg (show ¬v.kind=1 by omega),if_neg (show ¬v.kind=4 by omega),if_pos (show v.kind=5∨v.kind=6 by omega),decide_eq_true hf0,Bool.true_and,←Bool.decide_and];exact decide_eq_decide.2 (by omega)))
         ·
          refine A10 ?_
          exact x4 Plain.mk' rfl rfl (Le.bool (by simp only [Va.valid];rw [if_neg (show ¬(v.kind=2∨v.kind=3) by omega),if_neg (show ¬v.kind=1 by omega),if_neg (show ¬v.kind=4 by omega),if_pos (show v.kind=5∨v.kind=6 by omega),decide_eq_true hf0,Bool.true_and,decide_eq_false (show ¬ -1048576≤v.i by omega)];rfl))
        ·
         refine A5 ?_
         refine x9 rfl (fun h25_2=> ?_) (fun h25_2=> ?_)
         ·
          refine A6 ?_
          refine RGcaseD (t:=71) rfl (fun h26=> ?_) (fun h26=> ?_)
          ·
           refine A10 ?_
           exact x4 Plain.mk' rfl rfl (Le.bool (by simp only [Va.valid];rw [if_neg (show ¬(v.kind=2∨v.kind=3) by omega),if_neg (show ¬v.kind=1 by omega),if_neg (show ¬v.kind=4 by omega),if_pos (show v.kind=5∨v.kind=6 by omega),decide_eq_true hf0,Bool.true_and,←Bool.decide_and];exact decide_eq_decide.2 (by omega)))
          ·
           refine A10 ?_
           exact x4 Plain.mk' rfl rfl (Le.bool (by simp only [Va.valid];rw [if_neg (show ¬(v.kind=2∨v.kind=3) by omega),if_neg (show ¬v.kind=1 by omega),if_neg (show ¬v.kind=4 by omega),if_pos (show v.kind=5∨v.kind=6 by omega),decide_eq_true hf0,Bool.true_and,decide_eq_false (show ¬ -1048576≤v.i by omega)];rfl))
         ·
          refine A9 ?_
          exact x4 Plain.mk' rfl rfl (Le.bool (by simp only [Va.valid];rw [if_neg (show ¬(v.kind=2∨v.kind=3) by omega),if_neg (show ¬v.kind=1 by omega),if_neg (show ¬v.kind=4 by omega),if_neg (show ¬(v.kind=5∨v.kind=6) by omega)]))
theorem c_R5whole (x y:Wh) (hx:x.l.length≤1048576):
  Ct Tryz.prog 118 [tWh x,tWh y] (tB (decide (x=y))):=by
 refine Ct.intro Tryz.func118 rfl Tryz.ntmps118 rfl ?_
 intro w F
 refine A16 ?_
 refine RGcase (t:=11) rfl (fun h33=> ?_) (fun h33=> ?_)
 ·
  have hn:x.neg≠y.neg:=fun h=>by rw [h] at h33;simp at h33
  refine A18 ?_
  exact x4 Plain.mk' rfl rfl (Le.bool (decide_eq_false (fun h=>hn (by rw [h]))).symm)
 ·
  have hn:x.neg=y.neg:=by simpa using h33
  refine A10 ?_
  refine x9 rfl (fun h33_2=> ?_) (fun h33_2=> ?_)
  ·
   refine A7 ?_
   exact x4 Plain.mk' rfl rfl (Le.bool (decide_eq_false (fun h=>by rw [h] at h33_2;omega)).symm)
  ·
   have hll:x.l.length=y.l.length:=by omega
   refine A9 ?_
   refine cL (fun (i:Nat)=>i≤x.l.length∧x.l.take i=y.l.take i) (fun (i:Nat)=>upd (upd (upd (fun _=>none) 2 (some (.own (.ptr 2 0)))) 3 (some (.own (.ptr 3 0)))) 5 (some (.val (tI i)))) (fun (i:Nat)=>upd (upd (fun _=>none) 2 (some (⟨31,2,true,[.val (tWh x)]⟩))) 3 (some (⟨31,2,true,[.val (tWh y)]⟩))) [2,3] (fun (i:Nat)=>x.l.length - i) (0) ⟨Nat.zero_le _,rfl⟩ (hh:=((SubK.consI rfl ImpK.refl) ((SubK.consI rfl ImpK.refl) SubK.nil))) ?_
   intro i hI
   obtain ⟨hi,ht⟩:=hI
   refine A10 ?_
   refine x9 rfl (fun h36=> ?_) (fun h36=> ?_)
   ·
    refine A9 ?_
    refine R2 (x6 sl29 (i) (by omega) (gN (by omega))) rfl rfl ?_
    refine A4 ?_
    refine R2 (x6 sl29 (i) (by omega) (gN (by omega))) rfl rfl ?_
    refine A4 ?_
    refine x9 rfl (fun h37=> ?_) (fun h37=> ?_)
    ·
     refine A11 ?_
     exact x4 Plain.mk' rfl rfl (Le.bool (decide_eq_false (fun h=>by rw [h] at h37;omega)).symm)
    ·
     refine A8 ?_
     exact kF (i+1) ⟨⟨by omega,by rw [xf6 x.l i (by omega),xf6 y.l i (by omega),ht,show x.l.getD i 0=y.l.getD i 0 by omega]⟩,(by omega)⟩ (hh:=((SubK.consI rfl ImpK.refl) ((SubK.consI rfl ImpK.refl) SubK.nil)))
   ·
    refine A11 ?_
    exact x4 Plain.mk' rfl rfl (Le.bool (decide_eq_true (by rw [show i=x.l.length by omega,List.take_length,hll,List.take_length] at ht;obtain ⟨a,b⟩:=x;obtain ⟨c,d⟩:=y;simp only at hn ht;rw [hn,ht])).symm)
theorem c_R5Same (u v:Va) (h1:u.f.n.l.length≤1048576) (h2:u.f.d.l.length≤1048576):
  Ct Tryz.prog 81 [tVa u,tVa v] (tB (decide (u=v))):=by
 refine Ct.intro Tryz.func81 rfl Tryz.ntmps81 rfl ?_
 intro w F
 refine A15 ?_
 refine RGcaseD (t:=10) rfl (fun h46=> ?_) (fun h46=> ?_)
 ·
  refine A7 ?_
  refine RGcaseD (t:=17) rfl (fun h46_2=> ?_) (fun h46_2=> ?_)
  ·
   refine A2 ?_
   refine xc7 (decide_eq_true h46_2) rfl rfl (0) ti31 rfl rfl rfl (At.t (At.g 1 rfl rfl) (At.g 0 rfl rfl)) rfl ?_
   refine A2 ?_
   refine xc7 (decide_eq_true h46_2) rfl rfl (0) ti31 rfl rfl rfl (At.t (At.g 1 rfl rfl) (At.g 0 rfl rfl)) rfl (RGon (decide_eq_true h46_2) rfl (x3 (c_R5whole _ _ h1) fi118 rfl) rfl ⟨rfl,rfl,trivial⟩ trivial trivial ?_)
   refine A2 ?_
   refine RGcaseD (t:=26) rfl (fun h46_3=> ?_) (fun h46_3=> ?_)
   ·
    refine A2 ?_
    refine xc7 (decide_eq_true h46_3) rfl rfl (0) ti31 rfl rfl rfl (At.t (At.g 1 rfl rfl) (At.g 1 rfl rfl)) rfl ?_
    refine A2 ?_
    refine xc7 (decide_eq_true h46_3) rfl rfl (0) ti31 rfl rfl rfl (At.t (At.g 1 rfl rfl) (At.g 1 rfl rfl)) rfl (RGon (decide_eq_true h46_3) rfl (x3 (c_R5whole _ _ h2) fi118 rfl) rfl ⟨rfl,rfl,trivial⟩ trivial trivial ?_)
    refine A5 ?_
    exact x4 Plain.mk' rfl rfl (Le.bool (decide_eq_decide.2 (by rw [va_eq];exact ⟨fun h=>⟨by omega,by omega,h46_3,h⟩,fun h=>h.2.2.2⟩)))
   ·
    refine A12 ?_
    exact x4 Plain.mk' rfl rfl (Le.bool (decide_eq_false (fun h=>h46_3 (va_eq.1 h).2.2.1)).symm)
  ·
   refine A18 ?_
   refine A3 ?_
   exact x4 Plain.mk' rfl rfl (Le.bool (decide_eq_false (fun h=>h46_2 (va_eq.1 h).2.1)).symm)
 ·
  refine A18 ?_
  refine A10 ?_
  exact x4 Plain.mk' rfl rfl (Le.bool (decide_eq_false (fun h=>h46 (by rw [h]))).symm)
end An.S
namespace An.S
open Go
def rOk (l:List Tst) (i:Nat):Prop:=((0≤(l.getD i tst0).lo∧(l.getD i tst0).lo < (l.getD i tst0).hi∧(l.getD i tst0).hi≤65536)∧(l.getD i tst0).v.valid=true∧(l.getD i tst0).v.kind=(l.getD 0 tst0).v.kind)∧
 (i=0∨(l.getD (i - 1) tst0).hi≤(l.getD i tst0).lo∧ ¬((l.getD (i - 1) tst0).hi=(l.getD i tst0).lo∧(l.getD (i - 1) tst0).v=(l.getD i tst0).v))
theorem right_R {l:List Tst}:tRight l=true↔ ∀i,i < l.length→rOk l i:=by
 constructor
 ·intro h i hi
  have h1:=xi4 h hi
  exact ⟨⟨⟨h1.1,h1.2.1,h1.2.2.1⟩,xv4 h _ (xb9 hi),kind_at h hi⟩,h1.2.2.2.imp id fun h2=>⟨h2.1,h2.2.2⟩⟩
 ·intro h
  refine tRight_iff.2 ⟨fun i hi=>xt2.2 ?_,fun s hs=> ?_⟩
  ·have h1:=h i hi
   refine ⟨h1.1.1.1,h1.1.1.2.1,h1.1.1.2.2,h1.2.imp id fun h2=>⟨h2.1,?_,h2.2⟩⟩
   rw [h1.1.2.2]
   by_cases h0:i=0
   ·subst h0;rfl
   ·exact (h (i - 1) (by omega)).1.2.2
  ·obtain ⟨i,hi,rfl⟩:=xp7 hs
   exact (h i hi).1.2.1
theorem xq1 {l:List Tst} {i:Nat} (hi:i < l.length) (h: ¬rOk l i):false=tRight l:=by
 cases hr:tRight l with
 | false=>rfl
 | true=>exact absurd (right_R.1 hr i hi) h
def parR (acc:List Tst) (s:Tst):List Tst:=if s.lo < s.hi then acc++[s] else acc
def cutR (l:List Tst) (a b:Int):List Tst:=(l.map (clip a b)).foldl parR []
theorem cutR_next {l:List Tst} {a b:Int} {i:Nat} (hi:i < l.length):cutR (l.take (i+1)) a b=parR (cutR (l.take i) a b) (clip a b (l.getD i tst0)):=by
 rw [cutR,cutR,List.take_succ_eq_append_getElem hi,List.map_append,List.foldl_append,List.getD_eq_getElem?_getD,List.getElem?_eq_getElem hi];rfl
theorem cutT_next {l:List Tst} {a b:Int} {i:Nat} (hi:i < l.length):cutT (l.take (i+1)) a b=pst1 (cutT (l.take i) a b) (clip a b (l.getD i tst0)):=by
 rw [cutT,cutT,List.take_succ_eq_append_getElem hi,List.map_append,pst,List.foldl_append,List.getD_eq_getElem?_getD,List.getElem?_eq_getElem hi];rfl
theorem cutR_len {l:List Tst} {a b:Int}: ∀{i:Nat},i≤l.length→(cutR (l.take i) a b).length≤i
 | 0,_=>by simp [cutR]
 | i+1,hi=>by
  have:=cutR_len (l:=l) (a:=a) (b:=b) (i:=i) (by omega)
  rw [cutR_next (by omega),parR]
  split
  ·simp;omega
  ·omega
theorem cut_R' {l:List Tst} {a b:Int} (h:tRight l=true): ∀i,i≤l.length→cutR (l.take i) a b=cutT (l.take i) a b∧ ∀x∈cutR (l.take i) a b,∃j,j < i∧x=clip a b (l.getD j tst0)∧x.lo < x.hi
 | 0,_=>⟨by simp [cutR,cutT,pst],fun x hx=>by simp [cutR] at hx⟩
 | i+1,hi=>by
  obtain ⟨h1,h2⟩:=cut_R' h i (by omega)
  rw [cutR_next (by omega),cutT_next (by omega),←h1]
  have h3:=xi4 h (i:=i) (by omega)
  refine ⟨?_,fun x hx=> ?_⟩
  ·rw [parR,pst1]
   by_cases c1:(clip a b (l.getD i tst0)).lo < (clip a b (l.getD i tst0)).hi
   ·rw [if_pos c1,if_neg (by omega),if_neg]
    rintro ⟨q1,q2,q3⟩
    obtain ⟨j,hj,e,hlt⟩:=h2 _ (xb9 (l:=cutR (l.take i) a b) (i:=(cutR (l.take i) a b).length - 1) (by omega))
    rw [e] at q2 q3 hlt
    simp only [clip] at q2 q3 hlt c1
    have h4:=xq9 h hj (by omega)
    have e1:(l.getD j tst0).hi=(l.getD i tst0).lo:=by omega
    by_cases hji:j=i - 1
    ·subst hji
     rcases h3.2.2.2 with h0 | h0
     ·omega
     ·exact h0.2.2 ⟨e1,q3⟩
    ·have h5:=xq9 h (i:=j) (j:=i - 1) (by omega) (by omega)
     have h6:=(xi4 h (i:=i - 1) (by omega)).2.1
     have h7:=xq9 h (i:=i - 1) (j:=i) (by omega) (by omega)
     omega
   ·rw [if_neg c1,if_pos (by omega)]
  ·rw [parR] at hx
   split at hx
   ·rename_i hc
    rcases List.mem_append.1 hx with hx | hx
    ·obtain ⟨j,hj,h4⟩:=h2 x hx
     exact ⟨j,by omega,h4⟩
    ·rw [List.mem_singleton.1 hx];exact ⟨i,by omega,rfl,hc⟩
   ·obtain ⟨j,hj,h4⟩:=h2 x hx
    exact ⟨j,by omega,h4⟩
theorem cut_R {l:List Tst} {a b:Int} (h:tRight l=true):cutR l a b=cutT l a b:=by
 have:=(cut_R' (a:=a) (b:=b) h l.length (Nat.le_refl _)).1
 rwa [List.take_length] at this
end An.S
namespace An.S
open Go Go.Proofs An
instance fi52:FnI Tryz.prog 52:=⟨_,Tryz.func52,by kernel_rfl,rfl⟩
instance fi62:FnI Tryz.prog 62:=⟨_,Tryz.func62,by kernel_rfl,rfl⟩
instance fi80:FnI Tryz.prog 80:=⟨_,Tryz.func80,by kernel_rfl,rfl⟩
instance fi81:FnI Tryz.prog 81:=⟨_,Tryz.func81,by kernel_rfl,rfl⟩
instance fi87:FnI Tryz.prog 87:=⟨_,Tryz.func87,by kernel_rfl,rfl⟩
instance fi88:FnI Tryz.prog 88:=⟨_,Tryz.func88,by kernel_rfl,rfl⟩
instance fi89:FnI Tryz.prog 89:=⟨_,Tryz.func89,by kernel_rfl,rfl⟩
instance fi123:FnI Tryz.prog 123:=⟨_,Tryz.func123,by kernel_rfl,rfl⟩
instance fi124:FnI Tryz.prog 124:=⟨_,Tryz.func124,by kernel_rfl,rfl⟩
instance fi126:FnI Tryz.prog 126:=⟨_,Tryz.func126,by kernel_rfl,rfl⟩
theorem c_R2Plus (a b:Rat) (ha:short a) (hb:short b):
  Ct Tryz.prog 126 [tFr (fr a),tFr (fr b)] (tFr (fr (a+b))):=by
 obtain ⟨an,ad⟩:=ha
 obtain ⟨bn,bd⟩:=hb
 have ha:short a:=⟨an,ad⟩
 have hb:short b:=⟨bn,bd⟩
 have da:=a.den_nz
 have db:=b.den_nz
 have l1:=len16_mul an bd
 have l2:=len16_mul bn ad
 have l3:=len16_mul ad bd
 have l4:=len16_add (x:=a.num*(b.den:Int)) (y:=b.num*(a.den:Int)) (k:=512) (by omega) (by omega)
 refine Ct.intro Tryz.func126 rfl Tryz.ntmps126 rfl ?_
 intro w F
 refine A4 ?_
 refine RE (x5 (k:=4) (n:=4) (agg:=true) zr33.1 zr33.2 rfl) trivial trivial ⟨rfl,trivial⟩ ?_
 refine A8 ?_
 refine R2 (x3 (xk0 a.num (b.den:Int) (by omega) (by omega)) fi99 rfl) rfl rfl ?_
 refine A4 ?_
 refine R2 (x3 (xk0 b.num (a.den:Int) (by omega) (by omega)) fi99 rfl) rfl rfl (R2 (x3 (c_RSum (a.num*(b.den:Int)) (b.num*(a.den:Int)) (by omega) (by omega)) fi130 rfl) rfl rfl (RE (x5 (k:=5) (n:=2) (agg:=true) zr31.1 zr31.2 rfl) trivial trivial ⟨rfl,trivial⟩ ?_))
 refine A10 ?_
 refine R2 (x3 (xk0 (a.den:Int) (b.den:Int) (by omega) (by omega)) fi99 rfl) rfl rfl (R2 (x3 (c_RLowest (a.num*(b.den:Int)+b.num*(a.den:Int)) ((a.den:Int)*(b.den:Int)) (by omega) (by omega) (Int.mul_ne_zero (by omega) (by omega))) fi127 rfl) rfl rfl ?_)
 refine A4 ?_
 exact xc1 Plain.mk' rfl ⟨_,_,_,_,_,rfl,rfl,ti33,(Le.of (by rw [add_divInt]))⟩
theorem c_R2Add (a b:Rat) (ha:short a) (hb:short b):
  Ct Tryz.prog 89 [tFr (fr a),tFr (fr b)] (tT [tFr (resF (a+b)),tI (resFE (a+b))]):=by
 refine Ct.intro Tryz.func89 rfl Tryz.ntmps89 rfl ?_
 intro w F
 refine A4 ?_
 refine RE (x5 (k:=4) (n:=4) (agg:=true) zr33.1 zr33.2 rfl) trivial trivial ⟨rfl,trivial⟩ ?_
 refine A7 ?_
 refine R1 (x3 (xp2 a ha) fi63 rfl) rfl ?_
 refine A3 ?_
 refine RGon rfl rfl (x3 (xp2 b hb) fi63 rfl) rfl ⟨rfl,trivial⟩ trivial trivial ?_
 refine A11 ?_
 refine R2 (x3 (c_R2Plus a b ha hb) fi126 rfl) rfl rfl (R1 (x3 (c_R2told (a+b)) fi91 rfl) rfl ?_)
 refine A7 ?_
 exact xa8 Plain.mk' (rs:=[.cell 4 33,.tmp 5]) rfl rfl ⟨⟨_,_,_,_,_,rfl,rfl,ti33,Le.refl⟩,⟨_,rfl,Le.refl⟩,trivial⟩
theorem c_R2MulT (f:Fr) (n:Int) (hf1:f=fr f.rat) (hf2:short f.rat) (hn:short (n:Rat)):Ct Tryz.prog 88 [tFr f,tFr (fr (n:Rat))] (tT [tFr (resF (f.rat*(n:Rat))),tI (resFE (f.rat*(n:Rat)))]):=by
 have h:=c_R2Mul f.rat (n:Rat) hf2 hn
 rw [←hf1] at h;exact h
theorem c_R2AddR (q p:Rat) (hq:short q) (hp:short p):Ct Tryz.prog 89 [tFr (fr q),tFr (resF p)] (tT [tFr (resF (q+p)),tI (resFE (q+p))]):=by
 rw [show resF p=fr p from if_pos hp];exact c_R2Add q p hq hp
theorem c_R5Right (l:List Tst) (hl:l.length≤500000) (hD: ∀s∈l,s.v.f.dig) (hs: ∀s∈l,s.v.f.n.l.length≤1048576∧s.v.f.d.l.length≤1048576):
  Ct Tryz.prog 52 [tL 8 true tTs l] (tB (tRight l)):=by
 refine Ct.intro Tryz.func52 rfl Tryz.ntmps52 rfl ?_
 intro w F
 refine A12 ?_
 refine cL (fun (i:Nat)=>i≤l.length∧ ∀j,j < i→rOk l j) (fun (i:Nat)=>upd (upd (fun _=>none) 0 (some (.val (tL 8 true tTs l)))) 3 (some (.val (tI i)))) (fun (i:Nat)=>fun _=>none) [] (fun (i:Nat)=>l.length - i) (0) ⟨Nat.zero_le _,fun j hj=>by omega⟩ ?_
 intro i hI
 obtain ⟨hi,hok⟩:=hI
 refine A9 ?_
 refine x9 rfl (fun h51=> ?_) (fun h51=> ?_)
 ·
  refine A9 ?_
  refine R2 (x6 sl22 (i) (by omega) (gD (l:=l) (n:=i) (d:=tst0) (by omega))) rfl rfl (R1 (xb4 fo37_0.h (At.f 0 rfl rfl) rfl) rfl ?_)
  refine A3 ?_
  refine RGcaseD (t:=16) rfl (fun h52=> ?_) (fun h52=> ?_)
  ·
   refine A18 ?_
   refine A18 ?_
   refine A18 ?_
   refine A4 ?_
   exact x4 Plain.mk' rfl rfl (Le.bool (xq1 (i:=i) (by omega) (fun h=>by have q1:=h.1.1;have q2:=h.1.2.1;have q3:=h.1.2.2;first | omega | (rw [q2] at h52_4;cases h52_4))))
  ·
   refine A2 ?_
   refine RGon (decide_eq_false h52) rfl (x6 sl22 (i) (by omega) (gD (l:=l) (n:=i) (d:=tst0) (by omega))) rfl ⟨rfl,rfl,trivial⟩ trivial trivial (RGon (decide_eq_false h52) rfl (xb4 fo37_0.h (At.f 0 rfl rfl) rfl) rfl ⟨rfl,trivial⟩ trivial trivial ?_)
   refine A3 ?_
   refine RGon (decide_eq_false h52) rfl (x6 sl22 (i) (by omega) (gD (l:=l) (n:=i) (d:=tst0) (by omega))) rfl ⟨rfl,rfl,trivial⟩ trivial trivial (RGon (decide_eq_false h52) rfl (xb4 fo37_1.h (At.f 1 rfl rfl) rfl) rfl ⟨rfl,trivial⟩ trivial trivial ?_)
   refine A4 ?_
   refine RGcaseD (t:=29) rfl (fun h52_2=> ?_) (fun h52_2=> ?_)
   ·
    refine A18 ?_
    refine A18 ?_
    refine A9 ?_
    exact x4 Plain.mk' rfl rfl (Le.bool (xq1 (i:=i) (by omega) (fun h=>by have q1:=h.1.1;have q2:=h.1.2.1;have q3:=h.1.2.2;first | omega | (rw [q2] at h52_4;cases h52_4))))
   ·
    refine A2 ?_
    refine RGon (decide_eq_false h52_2) rfl (x6 sl22 (i) (by omega) (gD (l:=l) (n:=i) (d:=tst0) (by omega))) rfl ⟨rfl,rfl,trivial⟩ trivial trivial (RGon (decide_eq_false h52_2) rfl (xb4 fo37_1.h (At.f 1 rfl rfl) rfl) rfl ⟨rfl,trivial⟩ trivial trivial ?_)
    refine A4 ?_
    refine RGcaseD (t:=37) rfl (fun h52_3=> ?_) (fun h52_3=> ?_)
    ·
     refine A18 ?_
     refine A18 ?_
     refine A1 ?_
     exact x4 Plain.mk' rfl rfl (Le.bool (xq1 (i:=i) (by omega) (fun h=>by have q1:=h.1.1;have q2:=h.1.2.1;have q3:=h.1.2.2;first | omega | (rw [q2] at h52_4;cases h52_4))))
    ·
     refine A2 ?_
     refine RGon (decide_eq_false h52_3) rfl (x6 sl22 (i) (by omega) (gD (l:=l) (n:=i) (d:=tst0) (by omega))) rfl ⟨rfl,rfl,trivial⟩ trivial trivial (RGon (decide_eq_false h52_3) rfl (xb4 fo37_2.h (At.f 2 rfl rfl) rfl) rfl ⟨rfl,trivial⟩ trivial trivial ?_)
     refine A1 ?_
     refine RGon (decide_eq_false h52_3) rfl (x3 (c_R5Valid _ (hD _ (xb9 (l:=l) (i:=i) (by omega))) (hs _ (xb9 (l:=l) (i:=i) (by omega))).1 (hs _ (xb9 (l:=l) (i:=i) (by omega))).2) fi80 rfl) rfl ⟨rfl,trivial⟩ trivial trivial ?_
     refine A3 ?_
     refine RGcase (t:=46) rfl (fun h52_4=> ?_) (fun h52_4=> ?_)
     ·
      refine A18 ?_
      refine A10 ?_
      exact x4 Plain.mk' rfl rfl (Le.bool (xq1 (i:=i) (by omega) (fun h=>by have q1:=h.1.1;have q2:=h.1.2.1;have q3:=h.1.2.2;first | omega | (rw [q2] at h52_4;cases h52_4))))
     ·
      have hv:(l.getD i tst0).v.valid=true:=by simpa using h52_4
      refine A2 ?_
      refine RGon h52_4 rfl (x6 sl22 (i) (by omega) (gD (l:=l) (n:=i) (d:=tst0) (by omega))) rfl ⟨rfl,rfl,trivial⟩ trivial trivial (RGon h52_4 rfl (xb4 fo37_2.h (At.f 2 rfl rfl) rfl) rfl ⟨rfl,trivial⟩ trivial trivial (RGon h52_4 rfl (xb4 fo35_0.h (At.f 0 rfl rfl) rfl) rfl ⟨rfl,trivial⟩ trivial trivial ?_))
      refine A2 ?_
      refine RGon h52_4 rfl (x6 sl22 (0) (by omega) (gD (l:=l) (n:=0) (d:=tst0) (by omega))) rfl ⟨rfl,rfl,trivial⟩ trivial trivial (RGon h52_4 rfl (xb4 fo37_2.h (At.f 2 rfl rfl) rfl) rfl ⟨rfl,trivial⟩ trivial trivial (RGon h52_4 rfl (xb4 fo35_0.h (At.f 0 rfl rfl) rfl) rfl ⟨rfl,trivial⟩ trivial trivial ?_))
      refine A5 ?_
      refine x9 rfl (fun h52_5=> ?_) (fun h52_5=> ?_)
      ·
       refine A12 ?_
       exact x4 Plain.mk' rfl rfl (Le.bool (xq1 (i:=i) (by omega) (fun h=>by have q1:=h.1.1;have q2:=h.1.2.1;have q3:=h.1.2.2;first | omega | (rw [q2] at h52_4;cases h52_4))))
      ·
       refine A7 ?_
       refine RGcaseD (t:=62) rfl (fun h55=> ?_) (fun h55=> ?_)
       ·
        refine A2 ?_
        refine RGon (decide_eq_true h55) rfl (xe4 (wr64 (by omega) (by omega))) rfl ⟨rfl,rfl,trivial⟩ trivial trivial (RGon (decide_eq_true h55) rfl (x6 sl22 (i - 1) (by omega) (gD (l:=l) (n:=i - 1) (d:=tst0) (by omega))) rfl ⟨rfl,rfl,trivial⟩ trivial trivial (RGon (decide_eq_true h55) rfl (xb4 fo37_1.h (At.f 1 rfl rfl) rfl) rfl ⟨rfl,trivial⟩ trivial trivial ?_))
        refine A3 ?_
        refine RGon (decide_eq_true h55) rfl (x6 sl22 (i) (by omega) (gD (l:=l) (n:=i) (d:=tst0) (by omega))) rfl ⟨rfl,rfl,trivial⟩ trivial trivial (RGon (decide_eq_true h55) rfl (xb4 fo37_0.h (At.f 0 rfl rfl) rfl) rfl ⟨rfl,trivial⟩ trivial trivial ?_)
        refine A3 ?_
        refine RGcaseD (t:=75) rfl (fun h55_2=> ?_) (fun h55_2=> ?_)
        ·
         refine A18 ?_
         refine A8 ?_
         refine RGon (decide_eq_true h55) rfl (xe3 (decide_eq_true h55_2)) rfl ⟨rfl,rfl,trivial⟩ trivial trivial ?_
         refine A15 ?_
         exact x4 Plain.mk' rfl rfl (Le.bool (xq1 (i:=i) (by omega) (fun h=>by have q:=h.2;first | omega | exact (q.resolve_left (by omega)).2 ⟨by omega,by assumption⟩)))
        ·
         refine A2 ?_
         refine RGon (decide_eq_false h55_2) rfl (xe4 (wr64 (by omega) (by omega))) rfl ⟨rfl,rfl,trivial⟩ trivial trivial (RGon (decide_eq_false h55_2) rfl (x6 sl22 (i - 1) (by omega) (gD (l:=l) (n:=i - 1) (d:=tst0) (by omega))) rfl ⟨rfl,rfl,trivial⟩ trivial trivial (RGon (decide_eq_false h55_2) rfl (xb4 fo37_1.h (At.f 1 rfl rfl) rfl) rfl ⟨rfl,trivial⟩ trivial trivial ?_))
         refine A3 ?_
         refine RGon (decide_eq_false h55_2) rfl (x6 sl22 (i) (by omega) (gD (l:=l) (n:=i) (d:=tst0) (by omega))) rfl ⟨rfl,rfl,trivial⟩ trivial trivial (RGon (decide_eq_false h55_2) rfl (xb4 fo37_0.h (At.f 0 rfl rfl) rfl) rfl ⟨rfl,trivial⟩ trivial trivial ?_)
         refine A3 ?_
         refine RGcaseD (t:=88) rfl (fun h55_3=> ?_) (fun h55_3=> ?_)
         ·
          refine A2 ?_
          refine RGon (decide_eq_true h55_3) rfl (xe4 (wr64 (by omega) (by omega))) rfl ⟨rfl,rfl,trivial⟩ trivial trivial (RGon (decide_eq_true h55_3) rfl (x6 sl22 (i - 1) (by omega) (gD (l:=l) (n:=i - 1) (d:=tst0) (by omega))) rfl ⟨rfl,rfl,trivial⟩ trivial trivial (RGon (decide_eq_true h55_3) rfl (xb4 fo37_2.h (At.f 2 rfl rfl) rfl) rfl ⟨rfl,trivial⟩ trivial trivial ?_))
          refine A3 ?_
          refine RGon (decide_eq_true h55_3) rfl (x6 sl22 (i) (by omega) (gD (l:=l) (n:=i) (d:=tst0) (by omega))) rfl ⟨rfl,rfl,trivial⟩ trivial trivial (RGon (decide_eq_true h55_3) rfl (xb4 fo37_2.h (At.f 2 rfl rfl) rfl) rfl ⟨rfl,trivial⟩ trivial trivial ?_)
          refine A1 ?_
          refine RGon (decide_eq_true h55_3) rfl (x3 (c_R5Same _ _ (hs _ (xb9 (l:=l) (i:=i - 1) (by omega))).1 (hs _ (xb9 (l:=l) (i:=i - 1) (by omega))).2) fi81 rfl) rfl ⟨rfl,rfl,trivial⟩ trivial trivial (RGon (decide_eq_false h55_2) rfl (xe3 (decide_eq_true h55_3)) rfl ⟨rfl,rfl,trivial⟩ trivial trivial (RGon (decide_eq_true h55) rfl (xc4 (decide_eq_false h55_2)) rfl ⟨rfl,rfl,trivial⟩ trivial trivial ?_))
          refine A3 ?_
          refine x9 rfl (fun h55_4=> ?_) (fun h55_4=> ?_)
          ·
           refine A11 ?_
           exact x4 Plain.mk' rfl rfl (Le.bool (xq1 (i:=i) (by omega) (fun h=>by have q:=h.2;first | omega | exact (q.resolve_left (by omega)).2 ⟨by omega,by assumption⟩)))
          ·
           refine A8 ?_
           exact K_fam (i+1) ⟨⟨by omega,fun j hj=>by
  by_cases hji:j=i
  ·subst hji;exact ⟨⟨⟨by omega,by omega,by omega⟩,hv,by omega⟩,.inr ⟨by omega,fun h=>h55_4 h.2⟩⟩
  ·exact hok j (by omega)⟩, (by omega)⟩ (Sub.int rfl (by first | omega | rfl | (dsimp only; omega)) (Sub.cons rfl Sub.nil)) SubK.nil (SupG.val (SupG.val SupG.nil)) SupH.nil (lkOk rfl)
         ·
          refine A12 ?_
          refine RGon (decide_eq_false h55_2) rfl (xc4 (decide_eq_false h55_3)) rfl ⟨rfl,rfl,trivial⟩ trivial trivial (RGon (decide_eq_true h55) rfl (xc4 (decide_eq_false h55_2)) rfl ⟨rfl,rfl,trivial⟩ trivial trivial ?_)
          refine A12 ?_
          exact K_fam (i+1) ⟨⟨by omega,fun j hj=>by
  by_cases hji:j=i
  ·subst hji;exact ⟨⟨⟨by omega,by omega,by omega⟩,hv,by omega⟩,.inr ⟨by omega,fun h=>by omega⟩⟩
  ·exact hok j (by omega)⟩, (by omega)⟩ (Sub.int rfl (by first | omega | rfl | (dsimp only; omega)) (Sub.cons rfl Sub.nil)) SubK.nil (SupG.val (SupG.val SupG.nil)) SupH.nil (lkOk rfl)
       ·
        refine A18 ?_
        refine A18 ?_
        refine A16 ?_
        exact K_fam (i+1) ⟨⟨by omega,fun j hj=>by
  by_cases hji:j=i
  ·subst hji;exact ⟨⟨⟨by omega,by omega,by omega⟩,hv,by omega⟩,.inl (by omega)⟩
  ·exact hok j (by omega)⟩,(by omega)⟩ (Sub.int rfl (by first | omega | rfl | (dsimp only;omega)) (Sub.cons rfl Sub.nil)) SubK.nil (SupG.val (SupG.val SupG.nil)) SupH.nil (lkOk rfl)
 ·
  refine A11 ?_
  exact x4 Plain.mk' rfl rfl (Le.bool (right_R.2 (fun j hj=>hok j (by omega))).symm)
theorem c_R5within (a b:Int):
  Ct Tryz.prog 123 [tI a,tI b] (tB (Sn.ok ⟨a,b⟩)):=by
 refine Ct.intro Tryz.func123 rfl Tryz.ntmps123 rfl ?_
 intro w F
 refine A10 ?_
 refine RGcaseD (t:=7) rfl (fun h91=> ?_) (fun h91=> ?_)
 ·
  refine A5 ?_
  refine RGcaseD (t:=12) rfl (fun h91_2=> ?_) (fun h91_2=> ?_)
  ·
   refine A7 ?_
   exact x4 Plain.mk' rfl rfl (Le.bool (by simp [Sn.ok, *]))
  ·
   refine A7 ?_
   exact x4 Plain.mk' rfl rfl (Le.bool (by simp [Sn.ok, *]))
 ·
  refine A12 ?_
  exact x4 Plain.mk' rfl rfl (Le.bool (by simp [Sn.ok, *]))
theorem c_R5part (zs:List Tst) (s:Tst) (a b:Int) (hz:zs.length≤1000000):
  CtG Tryz.prog 124 [(1,⟨37,8,true,rV tTs zs⟩)] [.own (.sl 1 8 0 zs.length),.val (tTs s),.val (tI a),.val (tI b)] (.own (.sl 90 8 0 (parR zs (clip a b s)).length)) [(90,⟨37,8,true,rV tTs (parR zs (clip a b s))⟩)] [90]:=by
 refine CtG.intro [1] Tryz.func124 rfl Tryz.ntmps124 rfl rfl ⟨⟨rfl,xd3⟩,trivial⟩ ?_
 intro w F η
 refine C_renS (t:=0) (k:=1) 90 rfl rfl rfl ?_
 refine A11 ?_
 refine R2 d_max2 rfl rfl ?_
 refine A3 ?_
 refine R2 d_min2 rfl rfl ?_
 refine A1 ?_
 refine xj8 (0) ti3 rfl rfl rfl rfl (Up.g 0 rfl rfl rfl) rfl rfl ?_
 refine A1 ?_
 refine xj8 (0) ti3 rfl rfl rfl rfl (Up.g 1 rfl rfl rfl) rfl rfl ?_
 refine A2 ?_
 refine xg0 (fun (_j:Unit)=>True) (fun (_j:Unit)=>upd (fun _=>none) 0 (some (.own (.sl 90 8 0 (parR zs (clip a b s)).length)))) (fun (_j:Unit)=>upd (fun _=>none) 90 (some (⟨37,8,true,rV tTs (parR zs (clip a b s))⟩))) (nm [90,1]) ?_ ?_
 ·
  refine A9 ?_
  refine x9 rfl (fun h106=> ?_) (fun h106=> ?_)
  ·
   refine A3 ?_
   refine R1 (xc6 (n:=1) (f:=tTs) [(clip a b s)] Tryz.underlying22 el37 zf37 rfl (fun _=>inferInstance) rfl rfl rfl) rfl (RE (xc2 (k:=90) (k':=27) (f:=tTs) (ys:=[(clip a b s)]) (ts':=rV tTs (zs++[(clip a b s)])) Tryz.underlying22 el37 zf37 rfl rfl (fun _=>inferInstance) xg3 (by simp;omega) (by simp;omega) (by simp [rV]) (n':=zs.length+1) rfl) ⟨rfl,rfl,trivial⟩ ⟨rfl,trivial⟩ ⟨rfl,trivial⟩ ?_)
   refine A2 ?_
   have e:(parR zs (clip a b s))=zs++[(clip a b s)]:=if_pos h106
   exact xf7 (l:=[90,1]) (fun j=>cond (Nat.beq j 90) 27 (j)) (()) trivial ((SubR.consI rfl (Imp.of (by rw [e,List.length_append];rfl))) SubR.nil) ((SubKR.consI rfl (ImpK.of (by rw [e];exact xf4.symm))) SubKR.nil) (SupG.own rfl SupG.nil) (SupH.cons rfl (supJ xd3) SupH.nil) (lkOk rfl) rfl rfl (fun _ h=>by cases h)
  ·
   refine A1 ?_
   have e:(parR zs (clip a b s))=zs:=if_neg h106
   exact kF (()) trivial (hg:=((Sub.consI rfl (Imp.of (by rw [e]))) Sub.nil)) (hh:=((SubK.consI rfl (ImpK.of (by rw [e]))) SubK.nil))
 ·
  intro _j hj106
  refine A7 ?_
  exact xf9 LentC.mk' rfl rfl Imp.refl ⟨rfl,trivial⟩ rfl ⟨⟨rfl,xd3⟩,trivial⟩ rfl
theorem c_R5Cut (l:List Tst) (hl:l.length≤500000) (a b:Int) (hD: ∀s∈l,s.v.f.dig) (hs: ∀s∈l,s.v.f.n.l.length≤1048576∧s.v.f.d.l.length≤1048576):
  Ct Tryz.prog 87 [tL 8 true tTs l,tI a,tI b] (tT [tL 8 true tTs (if (tRight l=true∧Sn.ok ⟨a,b⟩=true) then cutR l a b else []),tI (if (tRight l=true∧Sn.ok ⟨a,b⟩=true) then 0 else 2)]):=by
 refine Ct.intro Tryz.func87 rfl Tryz.ntmps87 rfl ?_
 intro w F
 refine A10 ?_
 refine R1 (x3 (c_R5Right l hl hD hs) fi52 rfl) rfl ?_
 refine A2 ?_
 refine RGcase (t:=13) rfl (fun h114=> ?_) (fun h114=> ?_)
 ·
  refine A16 ?_
  exact xc5 Plain.mk' rfl rfl rfl (leNil (if_neg (fun h=>by simp [h.1] at*))) (Le.int (if_neg (fun h=>by simp [h.1] at*)).symm)
 ·
  refine A2 ?_
  refine RGon h114 rfl (x3 (c_R5within a b) fi123 rfl) rfl ⟨rfl,rfl,trivial⟩ trivial trivial ?_
  refine A4 ?_
  refine xc0 rfl (fun h114_2=> ?_) (fun h114_2=> ?_)
  ·
   refine A8 ?_
   exact xc5 Plain.mk' rfl rfl rfl (leNil (if_neg (fun h=>by simp [h.1,h.2] at*))) (Le.int (if_neg (fun h=>by simp [h.1,h.2] at*)).symm)
  ·
   refine A4 ?_
   refine RE (xj2 (k:=8) 37 8 true rfl (fun h=>by cases h)) trivial trivial ⟨rfl,trivial⟩ ?_
   refine A9 ?_
   have hok:(tRight l=true∧Sn.ok ⟨a,b⟩=true):=by simpa using And.intro h114 h114_2
   refine cL (fun (fm:(Nat)×(List Tst))=>(fun (i:Nat) (zs:List Tst)=>i≤l.length∧zs=cutR (l.take i) a b) fm.1 fm.2) (fun (fm:(Nat)×(List Tst))=>(fun (i:Nat) (zs:List Tst)=>upd (upd (upd (upd (upd (fun _=>none) 0 (some (.val (tL 8 true tTs l)))) 1 (some (.val (tI a)))) 2 (some (.val (tI b)))) 8 (some (.own (.sl 8 8 0 zs.length)))) 9 (some (.val (tI i)))) fm.1 fm.2) (fun (fm:(Nat)×(List Tst))=>(fun (i:Nat) (zs:List Tst)=>upd (fun _=>none) 8 (some (⟨37,8,true,rV tTs zs⟩))) fm.1 fm.2) [8] (fun (fm:(Nat)×(List Tst))=>(fun (i:Nat) (zs:List Tst)=>l.length - i) fm.1 fm.2) ((0,[])) (by dsimp only;exact ⟨Nat.zero_le _,rfl⟩) (hh:=((SubK.consI rfl ImpK.refl) SubK.nil)) ?_
   intro fm hI
   obtain ⟨i,zs⟩:=fm
   replace hI:i≤l.length∧zs=cutR (l.take i) a b:=hI
   show wc _ _ _ _ (upd (upd (upd (upd (upd (fun _=>none) 0 (some (.val (tL 8 true tTs l)))) 1 (some (.val (tI a)))) 2 (some (.val (tI b)))) 8 (some (.own (.sl 8 8 0 zs.length)))) 9 (some (.val (tI i)))) (upd (fun _=>none) 8 (some (⟨37,8,true,rV tTs zs⟩))) _
   obtain ⟨hi,hz⟩:=hI
   have hzl:zs.length≤i:=by rw [hz];exact cutR_len hi
   refine A9 ?_
   refine x9 rfl (fun h118=> ?_) (fun h118=> ?_)
   ·
    refine A8 ?_
    refine R2 (x6 sl22 (i) (by omega) (gD (l:=l) (n:=i) (d:=tst0) (by omega))) rfl rfl ?_
    refine A3 ?_
    refine RE (xf0 (fun j=>cond (Nat.beq j 1) 8 (32)) (c_R5part zs (l.getD i tst0) a b (by omega)) fi124 rfl (krC (ρ:=fun j=>cond (Nat.beq j 1) 8 (32)) (k:=1) xf4 (krN (ρ:=fun j=>cond (Nat.beq j 1) 8 (32)))) (krC (ρ:=fun j=>cond (Nat.beq j 1) 8 (32)) (k:=90) xf4 (krN (ρ:=fun j=>cond (Nat.beq j 1) 8 (32)))) ⟨⟨rfl,xd3⟩,trivial⟩ rfl) ⟨rfl,rfl,rfl,rfl,trivial⟩ ⟨rfl,trivial⟩ ⟨rfl,trivial⟩ ?_
    refine A9 ?_
    exact xf7 (l:=[8]) (fun j=>cond (Nat.beq j 8) 32 (j)) ((i+1,parR zs (clip a b (l.getD i tst0)))) ⟨(by dsimp only;exact ⟨by omega,by rw [cutR_next (by omega),←hz]⟩),(by dsimp only;omega)⟩ (SubR.int rfl (by first | omega | rfl | (dsimp only;omega)) (SubR.cons rfl (SubR.int rfl (by first | omega | rfl | (dsimp only;omega)) (SubR.int rfl (by first | omega | rfl | (dsimp only;omega)) (SubR.cons rfl SubR.nil))))) ((SubKR.consI rfl (ImpK.of xf4.symm)) SubKR.nil) (SupG.val (SupG.own rfl (SupG.val (SupG.val (SupG.val SupG.nil))))) (SupH.cons rfl (supJ xd3) SupH.nil) (lkOk rfl) rfl rfl (fun _ h=>by cases h)
   ·
    refine A7 ?_
    refine RE (xf8 (f:=tTs) (xs:=zs) (fun _ h=>h) (xn8 rfl) rfl) ⟨rfl,trivial⟩ ⟨rfl,trivial⟩ trivial ?_
    refine A5 ?_
    exact xc5 Plain.mk' rfl rfl rfl (Le.of (by rw [if_pos hok,hz,show i=l.length by omega,List.take_length])) (Le.int (by rw [if_pos hok]))
theorem c_R5Sum (l:List Tst) (hl:l.length≤500000) (a b:Int) (hD: ∀s∈l,s.v.f.dig) (hs: ∀s∈l,s.v.f.n.l.length≤1048576∧s.v.f.d.l.length≤1048576):
  Ct Tryz.prog 60 [tL 8 true tTs l,tI a,tI b] (tT [tFr (if sumC l a b then sumF (sumT (cutT l a b)) else fr0),tI (if sumC l a b then sumE (sumT (cutT l a b)) else 2)]):=by
 have hcut:=c_R5Cut l hl a b hD hs
 obtain ⟨part,hpart⟩: ∃p:List Tst,p=(if (tRight l=true∧Sn.ok ⟨a,b⟩=true) then cutR l a b else []):=⟨_,rfl⟩
 obtain ⟨er,her⟩: ∃e:Int,e=(if (tRight l=true∧Sn.ok ⟨a,b⟩=true) then 0 else 2):=⟨_,rfl⟩
 rw [←hpart,←her] at hcut
 refine Ct.intro Tryz.func60 rfl Tryz.ntmps60 rfl ?_
 intro w F
 refine A2 ?_
 refine RE (x5 (k:=6) (n:=4) (agg:=true) zr33.1 zr33.2 rfl) trivial trivial ⟨rfl,trivial⟩ ?_
 refine A8 ?_
 refine R3 (x3 hcut fi87 rfl) rfl rfl rfl ?_
 refine A7 ?_
 refine xg0 (fun (_j:Unit)=>numK l∧(tRight l=true∧Sn.ok ⟨a,b⟩=true)) (fun (_j:Unit)=>upd (upd (fun _=>none) 6 (some (.own (.ptr 6 0)))) 8 (some (.val (tL 8 true tTs part)))) (fun (_j:Unit)=>upd (fun _=>none) 6 (some (⟨33,4,true,[.val (tFr fr0)]⟩))) (nm [6]) ?_ ?_
 ·
  refine A5 ?_
  refine RGcaseD (t:=23) rfl (fun h156=> ?_) (fun h156=> ?_)
  ·
   have hb0: ¬(tRight l=true∧Sn.ok ⟨a,b⟩=true):=fun h=>h156 (by rw [her,if_pos h])
   have hb: ¬sumC l a b:=fun h=>hb0 h.1
   refine A18 ?_
   refine A7 ?_
   refine R0 (xa7 (r:=tS [⟨2,true,(tS [⟨1,false,(tE (.bool false))⟩,⟨1,false,(tLm [])⟩])⟩,⟨2,true,(tS [⟨1,false,(tE (.bool false))⟩,⟨1,false,(tLm [])⟩])⟩]) (ts:=[]) bu33 zr33.2 Le.refl) ?_
   refine A6 ?_
   exact xa8 Plain.mk' (rs:=[.cell 6 33,.tmp 7]) rfl rfl ⟨⟨_,_,_,_,_,rfl,rfl,ti33,(Le.of (by rw [if_neg hb];rfl))⟩,⟨_,rfl,(Le.int (by rw [if_neg hb]))⟩,trivial⟩
  ·
   have hok:(tRight l=true∧Sn.ok ⟨a,b⟩=true):=Classical.byContradiction fun h=>h156 (by rw [her,if_neg h];decide)
   refine A4 ?_
   refine RGcaseD (t:=27) rfl (fun h156_2=> ?_) (fun h156_2=> ?_)
   ·
    refine A1 ?_
    refine RGon (decide_eq_true h156_2) rfl (x6 sl22 (0) (by omega) (gD (l:=l) (n:=0) (d:=tst0) (by omega))) rfl ⟨rfl,rfl,trivial⟩ trivial trivial (RGon (decide_eq_true h156_2) rfl (xb4 fo37_2.h (At.f 2 rfl rfl) rfl) rfl ⟨rfl,trivial⟩ trivial trivial (RGon (decide_eq_true h156_2) rfl (xb4 fo35_0.h (At.f 0 rfl rfl) rfl) rfl ⟨rfl,trivial⟩ trivial trivial ?_))
    refine A2 ?_
    refine RGon (decide_eq_false h156) rfl (xe3 (decide_eq_true h156_2)) rfl ⟨rfl,rfl,trivial⟩ trivial trivial ?_
    refine A1 ?_
    refine RGcaseD (t:=35) rfl (fun h156_3=> ?_) (fun h156_3=> ?_)
    ·
     refine A1 ?_
     refine RGon (decide_eq_true h156_3) rfl (x6 sl22 (0) (by omega) (gD (l:=l) (n:=0) (d:=tst0) (by omega))) rfl ⟨rfl,rfl,trivial⟩ trivial trivial (RGon (decide_eq_true h156_3) rfl (xb4 fo37_2.h (At.f 2 rfl rfl) rfl) rfl ⟨rfl,trivial⟩ trivial trivial (RGon (decide_eq_true h156_3) rfl (xb4 fo35_0.h (At.f 0 rfl rfl) rfl) rfl ⟨rfl,trivial⟩ trivial trivial ?_))
     refine A2 ?_
     refine RGon (decide_eq_false h156) rfl (xe3 (decide_eq_true h156_3)) rfl ⟨rfl,rfl,trivial⟩ trivial trivial ?_
     refine A3 ?_
     refine x9 rfl (fun h156_4=> ?_) (fun h156_4=> ?_)
     ·
      refine A2 ?_
      refine R0 (xa7 (r:=tS [⟨2,true,(tS [⟨1,false,(tE (.bool false))⟩,⟨1,false,(tLm [])⟩])⟩,⟨2,true,(tS [⟨1,false,(tE (.bool false))⟩,⟨1,false,(tLm [])⟩])⟩]) (ts:=[]) bu33 zr33.2 Le.refl) ?_
      refine A6 ?_
      exact xa8 Plain.mk' (rs:=[.cell 6 33,.tmp 7]) rfl rfl ⟨⟨_,_,_,_,_,rfl,rfl,ti33,(Le.of (by rw [if_neg (fun h=>by have:=h.2;simp only [numK] at this;omega)];rfl))⟩,⟨_,rfl,(Le.int (by rw [if_neg (fun h=>by have:=h.2;simp only [numK] at this;omega)]))⟩,trivial⟩
     ·
      refine A1 ?_
      exact kF (()) ⟨by simp only [numK];omega,hok⟩ (hh:=((SubK.consI rfl ImpK.refl) SubK.nil))
    ·
     refine A6 ?_
     refine RGon (decide_eq_false h156) rfl (xc4 (decide_eq_false h156_3)) rfl ⟨rfl,rfl,trivial⟩ trivial trivial ?_
     refine A5 ?_
     exact kF (()) ⟨by simp only [numK];omega,hok⟩ (hh:=((SubK.consI rfl ImpK.refl) SubK.nil))
   ·
    refine A6 ?_
    refine RGon (decide_eq_false h156) rfl (xc4 (decide_eq_false h156_2)) rfl ⟨rfl,rfl,trivial⟩ trivial trivial ?_
    refine A7 ?_
    refine RGon (decide_eq_false h156) rfl (xc4 rfl) rfl ⟨rfl,rfl,trivial⟩ trivial trivial ?_
    refine A5 ?_
    exact kF (()) ⟨by simp only [numK];omega,hok⟩ (hh:=((SubK.consI rfl ImpK.refl) SubK.nil))
 ·
  intro _j hnk
  refine A2 ?_
  refine R1 (x3 (xv8 0 (by decide) (by decide)) fi62 rfl) rfl (RE (x5 (k:=10) (n:=4) (agg:=true) zr33.1 zr33.2 rfl) trivial trivial ⟨rfl,trivial⟩ ?_)
  refine A10 ?_
  have hok:=hnk.2
  have hc:sumC l a b:=⟨hok,hnk.1⟩
  have hnum:=cut_num (a:=a) (b:=b) hok.1 hD hc.2
  rw [if_pos hok,cut_R hok.1] at hpart
  rw [←hpart] at hnum
  refine xk1 (s:=8) rfl (fun hl0=> ?_)
  refine cL (fun (fm:(Nat)×(Rat))=>(fun (i:Nat) (q:Rat)=>i≤part.length∧sumT (part.take i)=some q∧short q) fm.1 fm.2) (fun (fm:(Nat)×(Rat))=>(fun (i:Nat) (q:Rat)=>upd (upd (upd (upd (fun _=>none) 6 (some (.own (.ptr 6 0)))) 8 (some (.val (tL 8 true tTs part)))) 10 (some (.own (.ptr 10 0)))) 11 (some (.val (tI i)))) fm.1 fm.2) (fun (fm:(Nat)×(Rat))=>(fun (i:Nat) (q:Rat)=>upd (upd (fun _=>none) 6 (some (⟨33,4,true,[.val (tFr fr0)]⟩))) 10 (some (⟨33,4,true,[.val (tFr (fr q))]⟩))) fm.1 fm.2) [6,10] (fun (fm:(Nat)×(Rat))=>(fun (i:Nat) (q:Rat)=>part.length - i) fm.1 fm.2) ((0,((0:Int):Rat))) (by dsimp only;exact ⟨Nat.zero_le _,rfl,xn2 (Nat.le_trans (len16_64 (by decide) (by decide)) (by decide))⟩) (hh:=((SubK.consI rfl ImpK.refl) ((SubK.consI rfl ImpK.refl) SubK.nil))) ?_
  intro fm hI
  obtain ⟨i,q⟩:=fm
  replace hI:i≤part.length∧sumT (part.take i)=some q∧short q:=hI
  show wc _ _ _ _ (upd (upd (upd (upd (fun _=>none) 6 (some (.own (.ptr 6 0)))) 8 (some (.val (tL 8 true tTs part)))) 10 (some (.own (.ptr 10 0)))) 11 (some (.val (tI i)))) (upd (upd (fun _=>none) 6 (some (⟨33,4,true,[.val (tFr fr0)]⟩))) 10 (some (⟨33,4,true,[.val (tFr (fr q))]⟩))) _
  obtain ⟨hi,hq,hsq⟩:=hI
  refine A9 ?_
  refine x9 rfl (fun h160=> ?_) (fun h160=> ?_)
  ·
   refine A8 ?_
   obtain ⟨n1,n2,n3,n4,n5⟩:=hnum _ (xb9 (l:=part) (i:=i) (by omega))
   refine R2 (x6 sl22 (i) (by omega) (gD (l:=part) (n:=i) (d:=tst0) (by omega))) rfl rfl (R1 (xb4 fo37_2.h (At.f 2 rfl rfl) rfl) rfl (R1 (xb4 fo35_1.h (At.f 1 rfl rfl) rfl) rfl ?_))
   refine A3 ?_
   refine R2 (x6 sl22 (i) (by omega) (gD (l:=part) (n:=i) (d:=tst0) (by omega))) rfl rfl (R1 (xb4 fo37_1.h (At.f 1 rfl rfl) rfl) rfl ?_)
   refine A3 ?_
   refine R2 (x6 sl22 (i) (by omega) (gD (l:=part) (n:=i) (d:=tst0) (by omega))) rfl rfl (R1 (xb4 fo37_0.h (At.f 0 rfl rfl) rfl) rfl ?_)
   refine A2 ?_
   refine R1 (x3 (xv8 ((part.getD i tst0).hi - (part.getD i tst0).lo) (by omega) (by omega)) fi62 rfl) rfl (R2 (x3 (c_R2MulT (part.getD i tst0).v.f ((part.getD i tst0).hi - (part.getD i tst0).lo) n4 n5 (xn2 (Nat.le_trans (len16_64 (by omega) (by omega)) (by decide)))) fi88 rfl) rfl rfl ?_)
   refine A3 ?_
   refine RE (x5 (k:=12) (n:=4) (agg:=true) zr33.1 zr33.2 rfl) trivial trivial ⟨rfl,trivial⟩ ?_
   refine A11 ?_
   refine x9 rfl (fun h162=> ?_) (fun h162=> ?_)
   ·
    refine A2 ?_
    refine R0 (xa7 (r:=tS [⟨2,true,(tS [⟨1,false,(tE (.bool false))⟩,⟨1,false,(tLm [])⟩])⟩,⟨2,true,(tS [⟨1,false,(tE (.bool false))⟩,⟨1,false,(tLm [])⟩])⟩]) (ts:=[]) bu33 zr33.2 Le.refl) ?_
    refine A12 ?_
    exact xa8 Plain.mk' (rs:=[.cell 6 33,.tmp 7]) rfl rfl ⟨⟨_,_,_,_,_,rfl,rfl,ti33,(Le.of (by rw [if_pos hc,←hpart,xj7 (i:=i+1) (by rw [xg4 (by omega),hq,sumStep,if_neg (fun h=>xe7 h162 h.1)])];rfl))⟩,⟨_,rfl,(Le.int (by rw [if_pos hc,←hpart,xj7 (i:=i+1) (by rw [xg4 (by omega),hq,sumStep,if_neg (fun h=>xe7 h162 h.1)]),resFE,if_neg (xe7 h162)];rfl))⟩,trivial⟩
   ·
    have hp:=xg8 (Decidable.not_not.1 h162)
    refine A6 ?_
    refine R2 (x3 (c_R2AddR q ((part.getD i tst0).v.f.rat*(((part.getD i tst0).hi - (part.getD i tst0).lo:Int):Rat)) hsq hp) fi89 rfl) rfl rfl ?_
    refine A13 ?_
    refine x9 rfl (fun h166=> ?_) (fun h166=> ?_)
    ·
     refine A2 ?_
     refine R0 (xa7 (r:=tS [⟨2,true,(tS [⟨1,false,(tE (.bool false))⟩,⟨1,false,(tLm [])⟩])⟩,⟨2,true,(tS [⟨1,false,(tE (.bool false))⟩,⟨1,false,(tLm [])⟩])⟩]) (ts:=[]) bu33 zr33.2 Le.refl) ?_
     refine A11 ?_
     exact xa8 Plain.mk' (rs:=[.cell 6 33,.tmp 7]) rfl rfl ⟨⟨_,_,_,_,_,rfl,rfl,ti33,(Le.of (by rw [if_pos hc,←hpart,xj7 (i:=i+1) (by rw [xg4 (by omega),hq,sumStep,if_neg (fun h=>xe7 h166 h.2)])];rfl))⟩,⟨_,rfl,(Le.int (by rw [if_pos hc,←hpart,xj7 (i:=i+1) (by rw [xg4 (by omega),hq,sumStep,if_neg (fun h=>xe7 h166 h.2)]),resFE,if_neg (xe7 h166)];rfl))⟩,trivial⟩
    ·
     have h166z:=Decidable.not_not.1 h166
     refine A8 ?_
     exact kF ((i+1,q+((part.getD i tst0).v.f.rat*(((part.getD i tst0).hi - (part.getD i tst0).lo:Int):Rat)))) ⟨(by dsimp only;exact ⟨by omega,by rw [xg4 (by omega),hq,sumStep,if_pos ⟨hp,xg8 h166z⟩],xg8 h166z⟩),(by dsimp only;omega)⟩ (hh:=((SubK.consI rfl (ImpK.of (by dsimp only;rw [resF,if_pos (xg8 h166z)];rfl))) ((SubK.consI rfl ImpK.refl) SubK.nil)))
  ·
   refine A13 ?_
   exact xa8 Plain.mk' (rs:=[.cell 6 33,.tmp 7]) rfl rfl ⟨⟨_,_,_,_,_,rfl,rfl,ti33,(Le.of (by rw [if_pos hc,←hpart,←List.take_length (l:=part),←show i=part.length by omega,hq];rfl))⟩,⟨_,rfl,(Le.int (by rw [if_pos hc,←hpart,←List.take_length (l:=part),←show i=part.length by omega,hq];rfl))⟩,trivial⟩
theorem c_SameFracT (x:Fr):Ct Tryz.prog 24 [tFr x,tFr x] (tB true):=by
 have:=xu8 x x
 rw [decide_eq_true rfl] at this;exact this
end An.S
namespace An
open Go
structure Kw where
  p:Dom→World→Prop
  mono: ∀{F F':Dom} {w w':World},p F w→Keep F F' w w'→p F' w'
def tKG (K:Kw) (t:Ty):Ty:=⟨fun F w v=>t.p F w v∧K.p F w,fun h hk=>⟨t.mono h.1 hk,K.mono h.2 hk⟩⟩
def tK (K:Kw):Ty:=⟨fun F w _=>K.p F w,fun h hk=>K.mono h hk⟩
def Car (K:Kw) (t:Ty):Prop:= ∀F w v,t.p F w v→K.p F w
theorem car_G {K:Kw} {t:Ty}:Car K (tKG K t):=fun _ _ _ h=>h.2
theorem xh5 {K:Kw}:Car K (tK K):=fun _ _ _ h=>h
theorem tKG_le {K:Kw} {t:Ty}:Le (tKG K t) t:=fun _ _ _ h=>h.1
instance {K:Kw} {t:Ty} {n:Nat} {agg:Bool} [h:Shape t n agg]:Shape (tKG K t) n agg:=⟨fun hp=>h.flat hp.1⟩
section
variable {P:Program} {c:Base} {g:Slots} {h:Keys} {al:Names} {d ty:Nat} {pos:String} {af:Array Edge} {gd:Option (Nat×Bool)} {Q:Exit→Act→World→Prop}
theorem put_same {c:Base} {g:Slots} {h:Keys} {al:Names} {a:Act} {w:World} {η:Env} {t:Nat} {e:Ent} (s:St' c g h al a w η) (ht:t < c.N) (he:e.sat (c.dom h η) w η (a.tmps.getD t undef)) (hs:e.supp=[]):St' c (upd g t (some e)) h al a w η:=by
 have s2:=s.put ht (e:=e) he fun j hj=>by rw [hs] at hj;cases hj
 have e2:a.put (some t) (a.tmps.getD t undef)=a:=by
  have hlt:t < a.tmps.size:=by rw [s.tn];exact ht
  have:a.tmps.setIfInBounds t (a.tmps.getD t undef)=a.tmps:=by
   apply Array.ext_getElem?
   intro i
   rw [Array.getElem?_setIfInBounds]
   by_cases hi:t=i
   ·subst hi;simp [hlt]
   ·simp [hi]
  simp only [Act.put,this]
 rwa [e2] at s2
theorem C_know {K:Kw} {x:Code} {t:Ty} {i q:Nat} (hs:g i=some (.val (tKG K t))) (hq:Nat.blt q c.N=true) (H:wc P c x Q (upd (upd g i (some (.val t))) q (some (.val (tK K)))) h al):wc P c x Q g h al:=fun a w ⟨η,st⟩=>by
 obtain ⟨h1,_,h2⟩:=st.slot i _ hs
 have s1:=put_same st h1 (e:= .val t) h2.1 rfl
 have s2:=put_same s1 (t:=q) (by simpa using hq) (e:= .val (tK K)) h2.2 rfl
 exact H a w ⟨η,s2⟩
theorem xf5 {K:Kw} {f:FuncId} {xs:List Operand} {aT:Array TypeId} {t tk:Ty} {ts:List Ty} {r:Ty} (s:Nat) (hk:Car K tk) (hc:Ct P f (tKG K t::ts) r) (hf:FnI P f) (hl:xs.length=ts.length+1):
  Does P c ⟨some d,.call {callee:= .value (.func f),args:=xs.toArray,argTypes:=aT},ty,pos,af,gd⟩ ⟨(.tmp s,.val tk)::xs.zip ((t::ts).map Ent.val),[],some (d,some (.val r)),[],[]⟩:=by
 intro g h al a w hp ⟨η,st⟩
 obtain ⟨fn,h1,h2,h3⟩:=hf
 have hkn:=hk _ _ _ (xa3 st hp.rd.1).1
 have hargs:=Tup.all_of st xs (t::ts) hp.rd.2 (by simpa using hl)
 have hrun:(execOp a.eval ⟨some d,.call {callee:= .value (.func f),args:=xs.toArray,argTypes:=aT},ty,pos,af,gd⟩).run P w= .ok (.enter f (xs.map a.eval).toArray) w:=by
  simp only [execOp,resolve,Act.eval,Deferred.ofValue,Sem.run_bind,Sem.run_pure,Result.andThen_ok,invoke]
  simp only [Array.append_empty,Array.empty_append,List.map_toArray]
  exact xd9 h1 h2 h3 _ w
 have hargs':Tup.all (c.dom h η) w (tKG K t::ts) (xs.map a.eval):=by
  cases xs with
  | nil=>simp at hl
  | cons y ys=>exact ⟨⟨hargs.1,hkn⟩,hargs.2⟩
 refine xi1 hrun (Calls.mono (hc (c.dom h η) w (xs.map a.eval) hargs') ?_)
 rintro e w' ⟨v,rfl,hext,hr⟩
 refine ⟨v,rfl,η,(st.ext hext).put (hp.d _ rfl) (e:= .val r) (r.mono hr fun b o hb hl _=>⟨?_,hl⟩) (fun k hk=>by cases hk)⟩
 rcases hb with hb | hb
 ·refine ⟨.inl (Nat.le_trans st.fr.size hb),fun ho=> ?_,fun hv=> ?_,fun hv=> ?_⟩
  ·have:=st.olt ho;omega
  ·have:=(st.fr.vnew b hv).1;omega
  ·have:=st.vol b hv;omega
 ·exact hb
theorem d_callTK {K:Kw} {f:FuncId} {xs:List Operand} {aT:Array TypeId} {t tk:Ty} {ts:List Ty} {r:Ty} (k T es:Nat) (agg:Bool) (hk:Car K tk) (hc0: ∀η:Env,∀w F,(⟨T,es,agg,[.val tk]⟩:HEnt).sat F w η k→0 < η.c k) (hc:Ct P f (tKG K t::ts) r) (hf:FnI P f) (hl:xs.length=ts.length+1):
  Does P c ⟨some d,.call {callee:= .value (.func f),args:=xs.toArray,argTypes:=aT},ty,pos,af,gd⟩ ⟨xs.zip ((t::ts).map Ent.val),[(k,⟨T,es,agg,[.val tk]⟩)],some (d,some (.val r)),[],[]⟩:=by
 intro g h al a w hp ⟨η,st⟩
 obtain ⟨fn,h1,h2,h3⟩:=hf
 have hkey:=(st.key k _ hp.kr.1).2.2.1
 have hkn:K.p (c.dom h η) w:=by
  obtain ⟨cs,_,_,h6⟩:=hkey.2.2.2.2 (hc0 η w _ hkey)
  exact hk _ _ _ (h6 0 _ rfl)
 have hargs:=Tup.all_of st xs (t::ts) hp.rd (by simpa using hl)
 have hrun:(execOp a.eval ⟨some d,.call {callee:= .value (.func f),args:=xs.toArray,argTypes:=aT},ty,pos,af,gd⟩).run P w= .ok (.enter f (xs.map a.eval).toArray) w:=by
  simp only [execOp,resolve,Act.eval,Deferred.ofValue,Sem.run_bind,Sem.run_pure,Result.andThen_ok,invoke]
  simp only [Array.append_empty,Array.empty_append,List.map_toArray]
  exact xd9 h1 h2 h3 _ w
 have hargs':Tup.all (c.dom h η) w (tKG K t::ts) (xs.map a.eval):=by
  cases xs with
  | nil=>simp at hl
  | cons y ys=>exact ⟨⟨hargs.1,hkn⟩,hargs.2⟩
 refine xi1 hrun (Calls.mono (hc (c.dom h η) w (xs.map a.eval) hargs') ?_)
 rintro e w' ⟨v,rfl,hext,hr⟩
 refine ⟨v,rfl,η,(st.ext hext).put (hp.d _ rfl) (e:= .val r) (r.mono hr fun b o hb hl _=>⟨?_,hl⟩) (fun k hk=>by cases hk)⟩
 rcases hb with hb | hb
 ·refine ⟨.inl (Nat.le_trans st.fr.size hb),fun ho=> ?_,fun hv=> ?_,fun hv=> ?_⟩
  ·have:=st.olt ho;omega
  ·have:=(st.fr.vnew b hv).1;omega
  ·have:=st.vol b hv;omega
 ·exact hb
theorem full_one {T es k:Nat} {agg:Bool} {tk:Ty}: ∀η:Env,∀w F,(⟨T,es,agg,[.val tk]⟩:HEnt).sat F w η k→0 < η.c k:=fun η w F h=>by
 have:1≤η.c k:=h.1
 omega
def Ct0 (K:Kw) (P:Program) (f:FuncId) (r:Ty):Prop:=
 ∀(F:Dom) (w:World),K.p F w→Calls P f #[] w fun e w'=> ∃v,e= .returned v∧Ext w w'∧r.p (fun b=>w.heap.size≤b∨F b) w' v
theorem d_call0 {K:Kw} {f:FuncId} {aT:Array TypeId} {tk:Ty} {r:Ty} (s:Nat) (hk:Car K tk) (hc:Ct0 K P f r) (hf:FnI P f):
  Does P c ⟨some d,.call {callee:= .value (.func f),args:= #[],argTypes:=aT},ty,pos,af,gd⟩ ⟨[(.tmp s,.val tk)],[],some (d,some (.val r)),[],[]⟩:=by
 intro g h al a w hp ⟨η,st⟩
 obtain ⟨fn,h1,h2,h3⟩:=hf
 have hkn:=hk _ _ _ (xa3 st hp.rd.1).1
 have hrun:(execOp a.eval ⟨some d,.call {callee:= .value (.func f),args:= #[],argTypes:=aT},ty,pos,af,gd⟩).run P w= .ok (.enter f #[]) w:=by
  simp only [execOp,resolve,Act.eval,Deferred.ofValue,Sem.run_bind,Sem.run_pure,Result.andThen_ok,invoke]
  simp only [Array.append_empty,Array.empty_append,List.map_toArray]
  exact xd9 h1 h2 h3 _ w
 refine xi1 hrun (Calls.mono (hc (c.dom h η) w hkn) ?_)
 rintro e w' ⟨v,rfl,hext,hr⟩
 refine ⟨v,rfl,η,(st.ext hext).put (hp.d _ rfl) (e:= .val r) (r.mono hr fun b o hb hl _=>⟨?_,hl⟩) (fun k hk=>by cases hk)⟩
 rcases hb with hb | hb
 ·refine ⟨.inl (Nat.le_trans st.fr.size hb),fun ho=> ?_,fun hv=> ?_,fun hv=> ?_⟩
  ·have:=st.olt ho;omega
  ·have:=(st.fr.vnew b hv).1;omega
  ·have:=st.vol b hv;omega
 ·exact hb
end
theorem Ct0.intro {P:Program} {K:Kw} {f:FuncId} {fn:Func} {x:Code} {N:Nat} {r:Ty} (q:Nat) (hf:P.funcs[f]? =some fn) (hb:fn.body=some x) (hN:fn.ntmps=N) (hq:Nat.blt q N=true)
  (H: ∀w F,wc P (Base.plain N w F) x (Post P w F fn r) (upd (fun _=>none) q (some (.val (tK K)))) (fun _=>none) (fun _=>false)):Ct0 K P f r:=by
 intro F w hk
 refine xj9 hf hb (H w F _ w ⟨⟨fun _=>0,fun _=>0,fun _=>False⟩,?_⟩)
 refine ⟨?_,rfl,fun s e hs=> ?_,fun k x hx=>(by cases hx),fun k k' x x' hx=>(by cases hx),⟨rfl,rfl,rfl,Nat.le_refl _,fun _ _ _ _=>rfl,fun _ hb=>hb,fun _ hb=>hb.elim⟩,fun x hx=>(by cases hx),fun x hx=>(by cases hx),fun b hb=>hb.elim,fun k hk=>(by cases hk),fun k x hk=>(by cases hk),fun b hb=>hb.elim⟩
 ·simp [hN,Base.plain]
 ·by_cases hsq:s=q
  ·subst hsq
   rw [xb0] at hs
   cases hs
   refine ⟨by show s < N;simpa using hq,fun k hk=>(by cases hk),?_⟩
   exact K.mono hk fun b o hb hl _=>⟨⟨.inr ⟨hb,fun h=>h⟩,fun ⟨k,x,hx,_⟩=>(by cases hx),fun h=>h,fun h=>h⟩,hl⟩
  ·rw [xa4 _ _ _ hsq] at hs;cases hs
section
variable {P:Program} {c:Base} {d ty:Nat} {pos:String} {af:Array Edge} {gd:Option (Nat×Bool)}
theorem d_moveG {K:Kw} {x:Operand} {t:Ty}:Does P c ⟨some d,.move x,ty,pos,af,gd⟩ ⟨[(x,.val (tKG K t))],[],some (d,some (.val t)),[],[]⟩:=
 Does.value rfl fun g h al a w η hr _ s=>⟨a.eval x,w,by simp [execOp,go_sem],Ext.refl w,(xa3 s hr.1).1.1,fun j hj=>by cases hj⟩
theorem d_loadG {K:Kw} {T T0 es k:Nat} {agg:Bool} {x:Operand} {t:Ty} (ti:TyI P T es agg):
  Does P c ⟨some d,.load T x,ty,pos,af,gd⟩ ⟨[(x,.own (.ptr k 0))],[(k,⟨T0,es,agg,[.val (tKG K t)]⟩)],some (d,some (.val t)),[],[]⟩:=
 Does.value rfl fun g h al a w η hrd hkr s=>by
  have h1:a.eval x= .pointer (some ⟨η.b k,0,none⟩):=(xa3 s hrd.1).1
  obtain ⟨h2,h3,⟨h6,h7,h8,h9,hmem⟩,h11⟩:=s.key k _ hkr.1
  have h6:1≤η.c k:=h6
  obtain ⟨cs,h4,h5,h10⟩:=hmem (by omega)
  have hle:0+es≤cs.size:=by rw [h5];exact Nat.le_trans (by omega) (Nat.mul_le_mul_right es h6)
  have h12:=h10 0 _ rfl
  simp only [Nat.zero_mul] at h12
  refine ⟨_,w,?_,Ext.refl w,h12.1,fun j hj=>by cases hj⟩
  simp only [execOp,h1,Instr.loadAt,Instr.sureAddr,Sem.run_bind,Sem.run_pure,Result.andThen_ok,xo0 ti h4 hle h8]
end
def kRow (b:Nat) (cs:List Int):Kw:=⟨fun F w=>F b∧ ∃T fr,w.heap[b]? =some (.cells (cs.map fun n=>Value.int .i64 n).toArray T fr),fun ⟨h1,T,fr,h2⟩ hk=>⟨(hk b _ h1 h2 rfl).1,T,fr,(hk b _ h1 h2 rfl).2⟩⟩
theorem d_indexGl {P:Program} {c:Base} {d ty:Nat} {pos:String} {af:Array Edge} {gd:Option (Nat×Bool)} {T E len b:Nat} {cs:List Int} {tk:Ty} {y:Operand} {v:Int} (s:Nat) (hk:Car (kRow b cs) tk) (ar:ArI P T E len 1 false) (i:Nat) (hv:v=(i:Int)) (hi:i < len) (hl:cs.length=len):
  Does P c ⟨some d,.indexAddr T (.global b) y,ty,pos,af,gd⟩ ⟨[(.tmp s,.val tk),(y,.val (tI v))],[],some (d,some (.val (tP 1 false (tI (cs.getD i 0))))),[],[]⟩:=
 Does.value rfl fun g h al a w η hrd _ st=>by
  subst hv
  obtain ⟨hF,Tc,fr,hh⟩:=hk _ _ _ (xa3 st hrd.1).1
  have h5:a.eval y= .int .i64 (i:Int):=(xa3 st hrd.2.1).1
  have h1:a.eval (.global b)= .pointer (some ⟨b,0,none⟩):=rfl
  refine ⟨.pointer (some ⟨b,0+i*1,none⟩),w,?_,Ext.refl w,⟨b,0+i*1,.int .i64 (cs.getD i 0),rfl,hF,⟨_,Tc,fr,hh,?_,Nat.one_pos,fun _=>rfl,?_⟩,rfl⟩,fun j hj=>by cases hj⟩
  ·have e:(Addr.add ⟨b,0,none⟩ (i*1))=⟨b,0+i*1,none⟩:=Addr.add_lit b 0 _
   simp only [execOp,h1,h5,Instr.indexAt,asIntOf,Instr.sureAddr,Sem.run_bind,Sem.run_pure,run_underlying ar.und,Result.andThen_ok]
   rw [if_pos ⟨by omega,by omega⟩]
   simp only [Sem.run_bind,ar.el.size_run w,Result.andThen_ok,Int.toNat_natCast,Sem.run_pure,e]
  ·simp;omega
  ·simp only [pick,cond_false,Nat.zero_add,Nat.mul_one]
   rw [Array.getD_eq_getD_getElem?]
   simp [List.getD_eq_getElem?_getD,show i < cs.length by omega]
end An
namespace An
def leapI (y:Int):Bool:=decide (y%4=0) && (!decide (y%100=0) || decide (y%400=0))
def lens:List Int:=[31,28,31,30,31,30,31,31,30,31,30,31]
def lenI (y:Int) (j:Nat):Int:=if j=1∧leapI y=true then 29 else lens.getD j 0
def leapsI (y:Int):Int:=y / 4 - y / 100+y / 400
def cumI (y:Int):Nat→Int
 | 0=>0
 | j+1=>cumI y j+lenI y j
def startI (k:Nat):Int:=365*((1900+(k:Int) / 12) - 1900)+leapsI (1900+(k:Int) / 12 - 1) - leapsI 1899+cumI (1900+(k:Int) / 12) (k%12)
theorem lens_bd {j:Nat} (hj:j < 12):28≤lens.getD j 0∧lens.getD j 0≤31:=by
 match j,hj with
 | 0,_ | 1,_ | 2,_ | 3,_ | 4,_ | 5,_ | 6,_ | 7,_ | 8,_ | 9,_ | 10,_ | 11,_=>decide
theorem lenI_bd {y:Int} {j:Nat} (hj:j < 12):28≤lenI y j∧lenI y j≤31:=by
 have:=lens_bd hj
 unfold lenI
 split <;> omega
theorem cumI_bd {y:Int}: ∀{j:Nat},j≤12→0≤cumI y j∧cumI y j≤31*j
 | 0,_=>⟨Int.le_refl _,Int.le_refl _⟩
 | j+1,h=>by
  have h1:=cumI_bd (y:=y) (j:=j) (by omega)
  have h2:=lenI_bd (y:=y) (j:=j) (by omega)
  simp only [cumI];omega
theorem start_step {k:Nat} (h:k < 2160):startI k+28≤startI (k+1)∧startI (k+1)≤startI k+31:=by
 have hall: ∀k:Nat,k < 2160→startI k+28≤startI (k+1)∧startI (k+1)≤startI k+31:=by decide+kernel
 exact hall k h
theorem start_zero:startI 0=0:=by decide+kernel
theorem start_last:startI 2153≤65535∧65536≤startI 2154:=by decide+kernel
theorem xq6 {i j:Nat} (h:i < j) (hj:j≤2160):startI i+28≤startI j:=by
 induction j with
 | zero=>omega
 | succ j ih=>
  have h1:=start_step (k:=j) (by omega)
  rcases Nat.lt_or_ge i j with h2 | h2
  ·have:=ih h2 (by omega);omega
  ·have e:i=j:=by omega
   subst e;exact h1.1
theorem start_mono {i j:Nat} (h:i≤j) (hj:j≤2160):startI i≤startI j:=by
 rcases Nat.lt_or_ge i j with h2 | h2
 ·have:=xq6 h2 hj;omega
 ·have e:i=j:=by omega
  subst e;exact Int.le_refl _
theorem start_nn {k:Nat} (h:k≤2160):0≤startI k:=by
 have:=start_mono (Nat.zero_le k) h;rw [start_zero] at this;exact this
end An
namespace An.S
open Go Go.Proofs An
instance fi110:FnI Tryz.prog 110:=⟨_,Tryz.func110,by kernel_rfl,rfl⟩
instance fi120:FnI Tryz.prog 120:=⟨_,Tryz.func120,by kernel_rfl,rfl⟩
instance fi121:FnI Tryz.prog 121:=⟨_,Tryz.func121,by kernel_rfl,rfl⟩
instance fi152:FnI Tryz.prog 152:=⟨_,Tryz.func152,by kernel_rfl,rfl⟩
theorem ar141:ArI Tryz.prog 141 3 12 1 false:=⟨by kernel_rfl,ti3⟩
theorem xr6 (a b:Rat):Rat.divInt (a.num*(b.den:Int)) ((a.den:Int)*b.num)=a / b:=by
 rw [Rat.div_def,Rat.inv_def,←Rat.divInt_mul_divInt,Rat.num_divInt_den]
theorem wh_nil {z:Int} (h:((wh z).l.length:Int)=0∨(wh z).l.length=0):z=0:=by
 have h2:(wh z).l.length=0:=by omega
 have h3:z.natAbs=0:=(xi0 x8).1 (List.length_eq_zero_iff.1 h2)
 omega
theorem c_FDiv (a b:Rat) (ha:short a) (hb:short b) (hb0:b≠0):
  Ct Tryz.prog 74 [tFr (fr a),tFr (fr b)] (tT [tFr (resF (a / b)),tI (resFE (a / b))]):=by
 obtain ⟨an,ad⟩:=ha
 obtain ⟨bn,bd⟩:=hb
 have hbd:=b.den_nz
 have had:=a.den_nz
 have m1:len16 (a.num*(b.den:Int))≤256+256:=len16_mul an bd
 have m2:len16 ((a.den:Int)*b.num)≤256+256:=len16_mul ad bn
 have ha:short a:=⟨an,ad⟩
 have hb:short b:=⟨bn,bd⟩
 have hbn:b.num≠0:=fun h=>hb0 (Rat.num_eq_zero.1 h)
 have hd0:(a.den:Int)*b.num≠0:=Int.mul_ne_zero (by omega) hbn
 refine Ct.intro Tryz.func74 rfl Tryz.ntmps74 rfl ?_
 intro w F
 refine A4 ?_
 refine RE (x5 (k:=4) (n:=4) (agg:=true) zr33.1 zr33.2 rfl) trivial trivial ⟨rfl,trivial⟩ ?_
 refine A8 ?_
 refine R2 (xc6 (n:=2) (f:=fun q:Rat=>tFr (fr q)) [a,b] Tryz.underlying133 el33 zf33 rfl (fun _=>inferInstance) rfl rfl rfl) rfl rfl (R1 (x3 (xo2 [a,b] (by simp;exact ⟨ha,hb⟩)) fi109 rfl) rfl ?_)
 refine A10 ?_
 refine R1 (xa7 (r:=tS [⟨4,true,tFr (fr b)⟩]) (ts:=[(0,tFr (fr b))]) bu119 zr119.2 (Bc 0 rfl rfl rfl Le.refl)) rfl (R1 (x3 (c_Tzero (fr b)) fi110 rfl) rfl ?_)
 refine A2 ?_
 refine C_bF rfl (decide_eq_false (by exact fun h=>hb0 (Rat.num_eq_zero.1 (wh_nil (.inr h))))) ?_
 refine A8 ?_
 refine R2 (x3 (xn3 (a.num) ((b.den:Int)) (by omega) (by omega) (by omega)) fi112 rfl) rfl rfl ?_
 refine A4 ?_
 refine R2 (x3 (xn3 ((a.den:Int)) (b.num) (by omega) (by omega) (by omega)) fi112 rfl) rfl rfl (R2 (x3 (c_lowest _ _ (by omega) (by omega) hd0) fi111 rfl) rfl rfl (R1 (x3 (xt8 _) fi113 rfl) rfl ?_))
 refine A7 ?_
 exact xa8 Plain.mk' (rs:=[.cell 4 33,.tmp 5]) rfl rfl ⟨⟨_,_,_,_,_,rfl,rfl,ti33,(Le.of (by rw [sh_fr,xr6];by_cases hs:short (a / b) <;> simp [resF,hs]))⟩,⟨_,rfl,(Le.int (by rw [sh_fr,xr6];by_cases hs:short (a / b) <;> simp [resFE,hs]))⟩,trivial⟩
abbrev KL:Kw:=kRow 0 lens
theorem c_Leap (y:Int) (hy:0≤y):
  Ct Tryz.prog 152 [tI y] (tB (leapI y)):=by
 refine Ct.intro Tryz.func152 rfl Tryz.ntmps152 rfl ?_
 intro w F
 refine A8 ?_
 refine R2 (xi6 (by omega) (by omega)) rfl rfl ?_
 refine A2 ?_
 refine RGcaseD (t:=6) rfl (fun h23=> ?_) (fun h23=> ?_)
 ·
  refine A1 ?_
  refine RGon (decide_eq_true h23) rfl (xi6 (by omega) (by omega)) rfl ⟨rfl,rfl,trivial⟩ trivial trivial ?_
  refine A2 ?_
  refine RGcaseD (t:=10) rfl (fun h23_2=> ?_) (fun h23_2=> ?_)
  ·
   refine A3 ?_
   refine RGon (decide_eq_true h23) rfl (xe3 (decide_eq_true h23_2)) rfl ⟨rfl,rfl,trivial⟩ trivial trivial ?_
   refine A5 ?_
   exact x4 Plain.mk' rfl rfl (Le.bool (by simp [leapI, *]))
  ·
   refine A1 ?_
   refine RGon (decide_eq_false h23_2) rfl (xi6 (by omega) (by omega)) rfl ⟨rfl,rfl,trivial⟩ trivial trivial ?_
   refine A1 ?_
   refine RGon (decide_eq_true h23) rfl (xc4 (decide_eq_false h23_2)) rfl ⟨rfl,rfl,trivial⟩ trivial trivial ?_
   refine A5 ?_
   exact x4 Plain.mk' rfl rfl (Le.bool (by simp [leapI, *]))
 ·
  refine A13 ?_
  exact x4 Plain.mk' rfl rfl (Le.bool (by simp [leapI, *]))
theorem c_leaps (y:Int) (hy:0≤y) (hy2:y≤1000000):
  Ct Tryz.prog 120 [tI y] (tI (leapsI y)):=by
 refine Ct.intro Tryz.func120 rfl Tryz.ntmps120 rfl ?_
 intro w F
 refine A8 ?_
 refine R2 (d_quoP (by omega) (by omega) (wr64 (by omega) (by omega))) rfl rfl ?_
 refine A1 ?_
 refine R2 (d_quoP (by omega) (by omega) (wr64 (by omega) (by omega))) rfl rfl ?_
 refine A2 ?_
 refine R2 (d_quoP (by omega) (by omega) (wr64 (by omega) (by omega))) rfl rfl ?_
 refine A5 ?_
 exact x4 Plain.mk' rfl rfl (Le.int rfl)
theorem c_Len (y:Int) (j:Nat) (hy:0≤y) (hj:j < 12):
  Ct Tryz.prog 121 [tKG KL (tI y),tI ((j:Int)+1)] (tI (lenI y j)):=by
 refine Ct.intro Tryz.func121 rfl Tryz.ntmps121 rfl ?_
 intro w F
 refine C_know (i:=0) (q:=2) rfl rfl ?_
 refine A11 ?_
 refine RGon (decide_eq_false (by omega)) rfl xa0 rfl ⟨rfl,trivial⟩ trivial trivial (RGon (decide_eq_false (by omega)) rfl d_gtr rfl ⟨rfl,rfl,trivial⟩ trivial trivial (R2 (xc4 (decide_eq_false (by omega))) rfl rfl ?_))
 refine A2 ?_
 refine C_bF rfl (decide_eq_false (by omega)) ?_
 refine A8 ?_
 refine RGcaseD (t:=13) rfl (fun h31=> ?_) (fun h31=> ?_)
 ·
  have hj1:j=1:=by omega
  refine A1 ?_
  refine RGon (decide_eq_true h31) rfl (x3 (c_Leap y hy) fi152 rfl) rfl ⟨rfl,trivial⟩ trivial trivial ?_
  refine A3 ?_
  refine xc0 rfl (fun h31_2=> ?_) (fun h31_2=> ?_)
  ·
   refine A7 ?_
   exact x4 Plain.mk' rfl rfl (Le.int (by rw [lenI,if_pos ⟨hj1,h31_2⟩]))
  ·
   refine A6 ?_
   refine R2 (d_indexGl 2 xh5 ar141 j (by omega) hj rfl) rfl rfl ?_
   refine A5 ?_
   exact x4 Plain.mk' rfl rfl (Le.int (by rw [lenI,if_neg (fun h=>by rw [h.2] at h31_2;cases h31_2)]))
 ·
  refine A12 ?_
  refine R2 (d_indexGl 2 xh5 ar141 j (by omega) hj rfl) rfl rfl ?_
  refine A5 ?_
  exact x4 Plain.mk' rfl rfl (Le.int (by rw [lenI,if_neg (fun h=>absurd h.1 (by omega))]))
theorem c_start (k:Nat) (hk:k≤100000):
  Ct Tryz.prog 83 [tKG KL (tI k)] (tI (startI k)):=by
 have hl1:0≤leapsI (1900+(k:Int) / 12 - 1)∧leapsI (1900+(k:Int) / 12 - 1)≤20000:=by simp only [leapsI];omega
 have hl2:leapsI 1899=460:=by decide
 refine Ct.intro Tryz.func83 rfl Tryz.ntmps83 rfl ?_
 intro w F
 refine C_know (i:=0) (q:=1) rfl rfl ?_
 refine A8 ?_
 refine R2 (d_quoP (by omega) (by omega) (wr64 (by omega) (by omega))) rfl rfl ?_
 refine A8 ?_
 refine R2 (xi5 (wr64 (by omega) (by omega))) rfl rfl ?_
 refine A2 ?_
 refine R1 (x3 (c_leaps _ (by omega) (by omega)) fi120 rfl) rfl ?_
 refine A1 ?_
 refine R1 (x3 (c_leaps _ (by omega) (by omega)) fi120 rfl) rfl ?_
 refine A11 ?_
 refine cL (fun (j:Nat)=>j≤k%12) (fun (j:Nat)=>upd (upd (upd (upd (upd (fun _=>none) 0 (some (.val (tI k)))) 1 (some (.val (tK KL)))) 3 (some (.val (tI (1900+(k:Int) / 12))))) 4 (some (.val (tI (365*((1900+(k:Int) / 12) - 1900)+leapsI (1900+(k:Int) / 12 - 1) - leapsI 1899+cumI (1900+(k:Int) / 12) j))))) 5 (some (.val (tI ((j:Int)+1))))) (fun (j:Nat)=>fun _=>none) [] (fun (j:Nat)=>k%12 - j) (0) (Nat.zero_le _) (hg:=(sI ((Sub.consI rfl (Imp.int (by simp [cumI]))) (sI (sC (sI Sub.nil)))))) ?_
 intro j hI
 have hcu:=cumI_bd (y:=1900+(k:Int) / 12) (j:=j) (by omega)
 refine A5 ?_
 refine R2 (xi6 (by omega) (by omega)) rfl rfl ?_
 refine A3 ?_
 refine x9 rfl (fun h51=> ?_) (fun h51=> ?_)
 ·
  refine A8 ?_
  have hle:=lenI_bd (y:=1900+(k:Int) / 12) (j:=j) (by omega)
  refine R3 (xf5 1 xh5 (c_Len _ j (by omega) (by omega)) fi121 rfl) rfl rfl rfl ?_
  refine A10 ?_
  exact kF (j+1) ⟨(by omega),(by omega)⟩ (hg:=(sI ((Sub.consI rfl (Imp.int (by simp only [cumI];omega))) (sI (sC (sI Sub.nil))))))
 ·
  refine A12 ?_
  exact x4 Plain.mk' rfl rfl (Le.int (by rw [startI,show k%12=j by omega]))
end An.S
namespace An.S
open Go Go.Proofs An
open Go.ChangeShapes Go.WideShapes Go.ChangeAt Go.RowKit
theorem own:ownKnob Tryz.prog.godebug=none:=by kernel_rfl
abbrev laidL : List (String × DataW Unit) := [("annuitant/calendar.lengths", Go.Proofs.YtjcoiplkcabipaaGreatDoor.Rows.laid_annuitant_calendar_lengths)]
theorem lenN : Tryz.prog.globalNamed "annuitant/calendar.lengths" = some 0 := by kernel_rfl
theorem lenT:(Tryz.prog.globals[0]?).map (·.type)=some 141:=by kernel_rfl
theorem kl_of {W:World} (h:laidMetH Tryz.prog laidL W):KL.p (Old W) W:=by
 have h:laidMet Tryz.prog laidL W:=h
 obtain ⟨ps,⟨g,t,cs,fuel,p,q,hg,ht,hvar,hd,_,_⟩,_⟩:=h
 obtain rfl:=Option.some.inj (lenN.symm.trans hg)
 obtain rfl:=Option.some.inj (lenT.symm.trans ht)
 have hcs:cs.toList=lens.map fun z=>Value.int .i64 z:=Lib.cells_of_tab (n:=12) (e:=3) (zs:=lens) Tryz.underlying141 Tryz.underlying3 (by kernel_rfl) (by kernel_rfl) hd
 simp only [World.var?,hg,Option.bind_some] at hvar
 cases hw:W.heap[0]? with
 | none=>rw [hw] at hvar;cases hvar
 | some o=>
  rw [hw] at hvar
  have hlt:0 < W.heap.size:=(Array.getElem?_eq_some_iff.1 hw).1
  cases o with
  | cells c T fr=>
   obtain rfl:c=cs:=by simpa using hvar
   refine ⟨hlt,T,fr,?_⟩
   rw [hw,←hcs]
  | _=>cases hvar
noncomputable def laidWorld (os:Os):World:=
  let w0:=World.holding Tryz.prog os ⟨#[],#[],[]⟩
  {w0 with heap:=w0.heap.modify 0 fun
      | .cells _ t frozen=> .cells #[.int .i64 31,.int .i64 28,.int .i64 31,.int .i64 30,.int .i64 31,.int .i64 30,.int .i64 31,.int .i64 31,.int .i64 30,.int .i64 31,.int .i64 30,.int .i64 31] t frozen
      | o=>o}
theorem laidWorld_met (os:Os) (args:Array Value):laidMetH Tryz.prog laidL ((laidWorld os).forCall (fun _ _=>0) ⟨#[],args,[]⟩).memory:=by
 show laidMet Tryz.prog laidL _
 exact laidMet_of_run (ps:=[.cell 0 0,.cell 0 1,.cell 0 2,.cell 0 3,.cell 0 4,.cell 0 5,.cell 0 6,.cell 0 7,.cell 0 8,.cell 0 9,.cell 0 10,.cell 0 11]) 8 (by kernel_rfl) (by kernel_rfl) (by kernel_rfl)
end An.S
namespace An.S
open Go Go.Proofs An
instance fi83:FnI Tryz.prog 83:=⟨_,Tryz.func83,by kernel_rfl,rfl⟩
theorem c_startZ (m:Int) (h0:0≤m) (h1:m≤100000):Ct Tryz.prog 83 [tKG KL (tI m)] (tI (startI m.toNat)):=by
 have h:=c_start m.toNat (by omega)
 rwa [Int.toNat_of_nonneg h0] at h
theorem c_First (m:Int):
  Ct Tryz.prog 56 [tKG KL (tI m)] (tT [tI (if 0≤m∧m < 2154 then startI m.toNat else 0),tI (if 0≤m∧m < 2154 then 0 else 2)]):=by
 refine Ct.intro Tryz.func56 rfl Tryz.ntmps56 rfl ?_
 intro w F
 refine C_know (i:=0) (q:=1) rfl rfl ?_
 refine A12 ?_
 refine RGcaseD (t:=6) rfl (fun h137=> ?_) (fun h137=> ?_)
 ·
  refine A14 ?_
  exact xc5 Plain.mk' rfl rfl rfl (Le.int (by rw [if_neg (by omega)])) (Le.int (by rw [if_neg (by omega)]))
 ·
  refine A5 ?_
  refine x9 rfl (fun h137_2=> ?_) (fun h137_2=> ?_)
  ·
   refine A8 ?_
   exact xc5 Plain.mk' rfl rfl rfl (Le.int (by rw [if_neg (by omega)])) (Le.int (by rw [if_neg (by omega)]))
  ·
   refine A5 ?_
   refine R2 (xf5 1 xh5 (c_startZ m (by omega) (by omega)) fi83 rfl) rfl rfl ?_
   refine A5 ?_
   exact xc5 Plain.mk' rfl rfl rfl (Le.int (by rw [if_pos (by omega)])) (Le.int (by rw [if_pos (by omega)]))
end An.S
namespace An.S
open Go
def fstI (n:Nat) (f:Nat→Bool):Nat:=((List.range n).takeWhile fun i=> !f i).length
theorem fst_is {n p:Nat} {f:Nat→Bool} (hp:p≤n) (h1: ∀i,i < p→f i=false) (h2:p < n→f p=true):fstI n f=p:=by
 have e:List.range n=List.range p++(List.range (n - p)).map (p+ ·):=by
  rw [←List.range_add];congr 1;omega
 rw [fstI,e,List.takeWhile_append_of_pos fun i hi=>by rw [h1 i (List.mem_range.1 hi)];rfl]
 cases hm:n - p with
 | zero=>simp
 | succ m=>
  rw [List.range_succ_eq_map,List.map_cons,List.takeWhile_cons,if_neg (by rw [Nat.add_zero,h2 (by omega)];simp)]
  simp
theorem xq0 (n:Nat) (f:Nat→Bool):fstI n f≤n∧(∀i,i < fstI n f→f i=false)∧(fstI n f < n→f (fstI n f)=true):=by
 have ex: ∃p,p≤n∧(∀i,i < p→f i=false)∧(p < n→f p=true):=by
  induction n with
  | zero=>exact ⟨0,Nat.le_refl _,fun i hi=>by omega,fun h=>by omega⟩
  | succ n ih=>
   obtain ⟨p,h1,h2,h3⟩:=ih
   rcases Nat.lt_or_ge p n with h4 | h4
   ·exact ⟨p,by omega,h2,fun _=>h3 h4⟩
   ·have e:p=n:=by omega
    subst e
    cases hf:f p with
    | true=>exact ⟨p,by omega,h2,fun _=>hf⟩
    | false=>exact ⟨p+1,Nat.le_refl _,fun i hi=>by
      rcases Nat.lt_or_ge i p with h5 | h5
      ·exact h2 i h5
      ·rw [show i=p by omega];exact hf,fun h=>by omega⟩
 obtain ⟨p,h1,h2,h3⟩:=ex
 rw [fst_is h1 h2 h3];exact ⟨h1,h2,h3⟩
theorem hiS_mono {l:List Sn} (h:sVal l=true) {i j:Nat} (hij:i≤j) (hj:j < l.length):(l.getD i sn0).hi≤(l.getD j sn0).hi:=by
 rcases Nat.lt_or_ge i j with h1 | h1
 ·have:=sVal_lt h h1 hj
  have:=sVal_at h hj;omega
 ·rw [show i=j by omega];exact Int.le_refl _
theorem loT_mono {l:List Tst} (h:ascT l) {i j:Nat} (hij:i≤j) (hj:j < l.length):(l.getD i tst0).lo≤(l.getD j tst0).lo:=by
 rcases Nat.lt_or_ge i j with h1 | h1
 ·have:=asc_lt h h1 hj
  have:=h.1 _ (xb9 (l:=l) (i:=i) (by omega));omega
 ·rw [show i=j by omega];exact Int.le_refl _
theorem hiT_asc {l:List Tst} (h:ascT l) {i j:Nat} (hij:i≤j) (hj:j < l.length):(l.getD i tst0).hi≤(l.getD j tst0).hi:=by
 rcases Nat.lt_or_ge i j with h1 | h1
 ·have:=asc_lt h h1 hj
  have:=h.1 _ (xb9 (l:=l) (i:=j) (by omega));omega
 ·rw [show i=j by omega];exact Int.le_refl _
def fndS (l:List Sn) (d:Int):Nat:=fstI l.length fun i=>decide (d < (l.getD i sn0).hi)
def cvB (l:List Sn) (a b:Int):Bool:=decide (fndS l a < l.length) && decide ((l.getD (fndS l a) sn0).lo≤a) && decide (b≤(l.getD (fndS l a) sn0).hi)
theorem cvB_iff {l:List Sn} {a b:Int} (h:sVal l=true) (hab:a < b):cvB l a b=true↔ ∀d,a≤d→d < b→mem l d=true:=by
 have sp:=xq0 l.length fun i=>decide (a < (l.getD i sn0).hi)
 rw [←fndS] at sp
 simp only [cvB,Bool.and_eq_true,decide_eq_true_eq]
 constructor
 ·rintro ⟨⟨h1,h2⟩,h3⟩ d hd1 hd2
  exact mem_iff.2 ⟨_,mem_getS h1,by omega,by omega⟩
 ·intro hm
  obtain ⟨s,hs,h1,h2⟩:=mem_iff.1 (hm a (Int.le_refl _) hab)
  obtain ⟨j,hj,rfl⟩:=exists_getS hs
  have hij:fndS l a≤j:=by
   rcases Nat.lt_or_ge j (fndS l a) with h3 | h3
   ·have:=of_decide_eq_false (sp.2.1 j h3);omega
   ·exact h3
  have hi:=of_decide_eq_true (sp.2.2 (by omega))
  have e:fndS l a=j:=by
   rcases Nat.lt_or_ge (fndS l a) j with h3 | h3
   ·have:=sVal_lt h h3 hj;omega
   ·omega
  refine ⟨⟨by omega,by rw [e];exact h1⟩,?_⟩
  rw [e] at hi ⊢
  rcases Int.lt_or_le (l.getD j sn0).hi b with h4 | h4
  ·obtain ⟨t,ht,h5,h6⟩:=mem_iff.1 (hm _ (by omega) h4)
   obtain ⟨k,hk,rfl⟩:=exists_getS ht
   have hjj:=sVal_at h hj
   rcases Nat.lt_or_ge k j with h7 | h7
   ·have:=sVal_lt h h7 hj;omega
   ·rcases Nat.lt_or_ge j k with h8 | h8
    ·have:=sVal_lt h h8 hk;omega
    ·rw [show k=j by omega] at h6;omega
  ·exact h4
theorem gS_cons {w:Va→Int} {s:Tst} {r:List Tst} {a b:Int}:gS w (s::r) a b=gS1 w a b s+gS w r a b:=by simp [gS]
theorem gS_day {w:Va→Int} {d:Int}: ∀{l:List Tst},ascT l→gS w l d (d+1)=((valT l d).map w).getD 0
 | [],_=>rfl
 | s::r,h=>by
  have hr:ascT r:=⟨fun t ht=>h.1 t (List.mem_cons_of_mem _ ht),(List.pairwise_cons.1 h.2).2⟩
  have hs:=(List.pairwise_cons.1 h.2).1
  have h0:=h.1 s (List.mem_cons_self ..)
  rw [gS_cons,gS_day hr,xk8]
  by_cases hc:s.lo≤d∧d < s.hi
  ·have hn:valT r d=none:=valT_none.2 fun t ht h'=>by have:=hs t ht;omega
   rw [if_pos hc,hn,gS1,if_neg (by simp only [dyG];omega),show dyG d (d+1) s=1 by simp only [dyG];omega]
   simp
  ·rw [if_neg hc,gS1,if_pos (by simp only [dyG];omega),Int.zero_add]
def nD (l:List Tst) (a b:Int):Int:=gS (fun _=>1) l a b
theorem nD_n {l:List Tst} {a:Int} (h:ascT l): ∀n:Nat,(0≤nD l a (a+n)∧nD l a (a+n)≤n)∧(nD l a (a+n)=n↔ ∀d,a≤d→d < a+n→(valT l d).isSome=true)
 | 0=>by
  have e:nD l a (a+(0:Nat))=0:=gS_zero (by omega)
  rw [e]
  exact ⟨⟨Int.le_refl _,Int.le_refl _⟩,⟨fun _ d h1 h2=>by omega,fun _=>rfl⟩⟩
 | n+1=>by
  have ih:=nD_n (a:=a) h n
  have e:nD l a (a+((n+1:Nat):Int))=nD l a (a+n)+nD l (a+n) (a+n+1):=by
   rw [nD,nD,nD,gS_add h.1 (by omega) (by omega),Int.natCast_add,Int.add_assoc];rfl
  have e1:nD l (a+n) (a+n+1)=if (valT l (a+n)).isSome=true then 1 else 0:=by
   rw [nD,gS_day h]
   cases valT l (a+n) <;> simp
  rw [e,e1]
  by_cases hv:(valT l (a+n)).isSome=true
  ·rw [if_pos hv]
   refine ⟨⟨by omega,by omega⟩,fun h1 d h2 h3=> ?_,fun h1=> ?_⟩
   ·rcases Int.lt_or_le d (a+n) with h4 | h4
    ·exact ih.2.1 (by omega) d h2 h4
    ·rw [show d=a+n by omega];exact hv
   ·have:=ih.2.2 fun d h2 h3=>h1 d h2 (by omega)
    omega
  ·rw [if_neg hv]
   refine ⟨⟨by omega,by omega⟩,fun h1=>by omega,fun h1=>absurd (h1 (a+n) (by omega) (by omega)) hv⟩
theorem nD_iff {l:List Tst} {a b:Int} (h:ascT l) (hab:a≤b):nD l a b=b - a↔ ∀d,a≤d→d < b→(valT l d).isSome=true:=by
 have:=(nD_n (a:=a) h (b - a).toNat).2
 rw [show a+(((b - a).toNat:Nat):Int)=b by omega] at this
 rw [←this];omega
theorem cvB_nD {l:List Tst} {a b:Int} (h:tRight l=true) (hab:a < b):cvB (cvT l) a b=decide (nD l a b=b - a):=by
 have hc:=cvT_set h
 rw [Bool.eq_iff_iff,cvB_iff hc.1 hab,decide_eq_true_eq,nD_iff (xp3 h) (Int.le_of_lt hab)]
 exact forall_congr' fun d=>by rw [hc.2]
def fstA (l:List Tst) (a:Int):Nat:=fstI l.length fun i=>decide (a < (l.getD i tst0).hi)
def endA (l:List Tst) (b:Int):Nat:=fstI l.length fun i=>decide (b≤(l.getD i tst0).lo)
def subA (l:List Tst) (a b:Int):List Tst:=(l.take (endA l b)).drop (fstA l a)
theorem fst_end {l:List Tst} {a b:Int} (h:ascT l) (hab:a < b):fstA l a≤endA l b∧endA l b≤l.length:=by
 have s1:=xq0 l.length fun i=>decide (a < (l.getD i tst0).hi)
 have s2:=xq0 l.length fun i=>decide (b≤(l.getD i tst0).lo)
 rw [←fstA] at s1;rw [←endA] at s2
 refine ⟨?_,s2.1⟩
 rcases Nat.lt_or_ge (endA l b) (fstA l a) with h3 | h3
 ·have h4:=of_decide_eq_false (s1.2.1 _ h3)
  have h5:=of_decide_eq_true (s2.2.2 (by omega))
  have:=h.1 _ (xb9 (l:=l) (i:=endA l b) (by omega))
  omega
 ·exact h3
theorem xs3 {f:Tst→Int}: ∀{xs:List Tst},(∀s∈xs,f s=0)→(xs.map f).sum=0
 | [],_=>rfl
 | s::r,h=>by
  rw [List.map_cons,List.sum_cons,h s (List.mem_cons_self ..),xs3 fun t ht=>h t (List.mem_cons_of_mem _ ht)];rfl
theorem mem_take_get {l:List Tst} {n:Nat} {s:Tst} (h:s∈l.take n): ∃i,i < n∧i < l.length∧s=l.getD i tst0:=by
 obtain ⟨i,hi,e⟩:=List.getElem_of_mem h
 rw [List.length_take] at hi
 refine ⟨i,by omega,by omega,?_⟩
 rw [List.getElem_take] at e
 rw [List.getD_eq_getElem?_getD,List.getElem?_eq_getElem (by omega)];exact e.symm
theorem mem_drop_get {l:List Tst} {n:Nat} {s:Tst} (h:s∈l.drop n): ∃i,n≤i∧i < l.length∧s=l.getD i tst0:=by
 obtain ⟨i,hi,e⟩:=List.getElem_of_mem h
 rw [List.length_drop] at hi
 refine ⟨n+i,by omega,by omega,?_⟩
 rw [List.getElem_drop] at e
 rw [List.getD_eq_getElem?_getD,List.getElem?_eq_getElem (by omega)];exact e.symm
theorem gS_sub {w:Va→Int} {l:List Tst} {a b:Int} (h:ascT l) (hab:a < b):gS w (subA l a b) a b=gS w l a b:=by
 have hfe:=fst_end h hab
 have s1:=xq0 l.length fun i=>decide (a < (l.getD i tst0).hi)
 have s2:=xq0 l.length fun i=>decide (b≤(l.getD i tst0).lo)
 rw [←fstA] at s1;rw [←endA] at s2
 have e:l=l.take (fstA l a)++(subA l a b++l.drop (endA l b)):=by
  have e1:l.take (fstA l a)=(l.take (endA l b)).take (fstA l a):=by rw [List.take_take,Nat.min_eq_left hfe.1]
  rw [←List.append_assoc,subA,e1,List.take_append_drop,List.take_append_drop]
 have z1:gS w (l.take (fstA l a)) a b=0:=xs3 fun s hs=>by
  obtain ⟨i,h1,h2,rfl⟩:=mem_take_get hs
  have:=of_decide_eq_false (s1.2.1 i h1)
  rw [gS1,if_pos (by simp only [dyG];omega)]
 have z2:gS w (l.drop (endA l b)) a b=0:=xs3 fun s hs=>by
  obtain ⟨i,h1,h2,rfl⟩:=mem_drop_get hs
  have h3:=of_decide_eq_true (s2.2.2 (by omega))
  have h4:=loT_mono h h1 h2
  rw [gS1,if_pos (by simp only [dyG];omega)]
 have ap: ∀x y:List Tst,gS w (x++y) a b=gS w x a b+gS w y a b:=fun x y=>by simp [gS]
 conv=>rhs;rw [e]
 rw [ap,ap,z1,z2];omega
theorem isG.sub {K:Nat} {D B:Int} {l:List Tst} {a b:Int} (h:isG K D B l):isG K D B (subA l a b):=by
 have hsl:(subA l a b).Sublist l:=(List.drop_sublist ..).trans (List.take_sublist ..)
 refine isG_of ⟨fun s hs=>h.asc.1 s (hsl.subset hs),h.asc.2.sublist hsl⟩ (nb_of fun i hi=> ?_) fun s hs=>⟨⟨(h.out s (hsl.subset hs)).1,(h.out s (hsl.subset hs)).2⟩,h.2 s (hsl.subset hs)⟩
 have hl:(subA l a b).length=min (endA l b) l.length - fstA l a:=by rw [subA,List.length_drop,List.length_take]
 have hg: ∀j,j < (subA l a b).length→(subA l a b).getD j tst0=l.getD (fstA l a+j) tst0:=fun j hj=>by
  rw [subA,List.getD_eq_getElem?_getD,List.getElem?_drop,List.getElem?_take,if_pos (by omega),List.getD_eq_getElem?_getD]
 rw [hg i (by omega),hg (i+1) hi,show fstA l a+(i+1)=fstA l a+i+1 by omega]
 exact nb_at h.nb (by omega)
def avQ (D:Int) (l:List Tst) (a b:Int):Rat:=Rat.divInt (gS (wt D) l a b) (D*(b - a))
theorem div_int (n d m:Int):Rat.divInt n d / (m:Rat)=Rat.divInt n (d*m):=by
 have e:(m:Rat)⁻¹ =Rat.divInt 1 m:=by rw [Rat.inv_def];simp
 rw [Rat.div_def,e,Rat.divInt_mul_divInt,Int.mul_one]
def nOk (D B:Int):Prop:=(0 < D∧D≤1000000)∧0≤B∧B≤140737488355327
theorem gS_in {D B:Int} {l:List Tst} {a b:Int} {K:Nat} (hn:nOk D B) (h:isG K D B l) (ha:0≤a) (hab:a≤b) (hb:b≤65536): -9223372036854775808≤gS (wt D) l a b∧gS (wt D) l a b≤9223372036854775807:=by
 have h1:=gS_bd (D:=D) (B:=B) (a:=a) (b:=b) hn.2.1 h.asc h.out h.wt hab
 have h2:B*(b - a)≤140737488355327*65536:=Int.mul_le_mul hn.2.2 (by omega) (by omega) (by decide)
 omega
theorem av_den {D B:Int} {a b:Int} (hn:nOk D B) (ha:0≤a) (hab:a < b) (hb:b≤65536):0 < D*(b - a)∧D*(b - a)≤65536000000:=by
 have h2:D*(b - a)≤1000000*65536:=Int.mul_le_mul hn.1.2 (by omega) (by omega) (by decide)
 exact ⟨Int.mul_pos hn.1.1 (by omega),by omega⟩
theorem short_av {D B:Int} {l:List Tst} {a b:Int} {K:Nat} (hn:nOk D B) (h:isG K D B l) (ha:0≤a) (hab:a < b) (hb:b≤65536):short (avQ D l a b):=by
 have h1:=gS_in hn h ha (Int.le_of_lt hab) hb
 have h2:=av_den hn ha hab hb
 exact xt3 h2.1 h1.1 h1.2 (by omega)
def okW (l:List Tst) (p q:Int) (n k:Nat):Bool:=decide (k+n < 2154) && decide (p≤startI k) && decide (startI (k+n)≤q) && decide (nD l (startI k) (startI (k+n))=startI (k+n) - startI k)
def winP (l:List Tst) (p q:Int) (n k:Nat):List Nat:=(List.range k).filter (okW l p q n)
def winT (l:List Tst) (p q:Int) (n:Nat):List Nat:=winP l p q n 2154
theorem xr1 {l:List Tst} {p q:Int} {n k:Nat}:winP l p q n (k+1)=winP l p q n k++if okW l p q n k=true then [k] else []:=by
 rw [winP,List.range_succ,List.filter_append,winP]
 congr 1
 by_cases h:okW l p q n k=true <;> simp [h]
theorem winP_add {l:List Tst} {p q:Int} {n k:Nat}: ∀m,∃r,winP l p q n (k+m)=winP l p q n k++r
 | 0=>⟨[],by simp⟩
 | m+1=>by
  obtain ⟨r,hr⟩:=winP_add (l:=l) (p:=p) (q:=q) (n:=n) (k:=k) m
  rw [←Nat.add_assoc,xr1,hr,List.append_assoc]
  exact ⟨_,rfl⟩
theorem win_at {l:List Tst} {p q:Int} {n k:Nat} (hk:k < 2154) (h:okW l p q n k=true):(winP l p q n k).length < (winT l p q n).length∧(winT l p q n).getD (winP l p q n k).length 0=k:=by
 obtain ⟨r,hr⟩:=winP_add (l:=l) (p:=p) (q:=q) (n:=n) (k:=k+1) (2153 - k)
 rw [show k+1+(2153 - k)=2154 by omega,xr1 (k:=k),if_pos h] at hr
 rw [winT,hr]
 constructor
 ·simp
 ·rw [List.append_assoc,List.getD_eq_getElem?_getD,List.getElem?_append_right (Nat.le_refl _),Nat.sub_self];rfl
theorem win_end {l:List Tst} {p q:Int} {n k:Nat} (hk:k≤2154) (h:2154≤k+n):(winP l p q n k).length=(winT l p q n).length:=by
 have: ∀m,k≤m→winP l p q n m=winP l p q n k:=fun m hm=>by
  induction m with
  | zero=>rw [show k=0 by omega]
  | succ m ih=>
   rcases Nat.lt_or_ge m k with h1 | h1
   ·rw [show k=m+1 by omega]
   ·rw [xr1,ih h1,if_neg (by rw [okW,decide_eq_false (by omega)];simp),List.append_nil]
 rw [winT,this 2154 hk]
theorem win_mem {l:List Tst} {p q:Int} {n k:Nat}:k∈winT l p q n↔k < 2154∧okW l p q n k=true:=by
 rw [winT,winP,List.mem_filter,List.mem_range]
theorem win_is {l:List Tst} {p q:Int} {n k:Nat} (h:k∈winT l p q n):k+n < 2154∧p≤startI k∧startI (k+n)≤q∧nD l (startI k) (startI (k+n))=startI (k+n) - startI k:=by
 have:=(win_mem.1 h).2
 simp only [okW,Bool.and_eq_true,decide_eq_true_eq] at this
 exact ⟨this.1.1.1,this.1.1.2,this.1.2,this.2⟩
theorem win_asc {l:List Tst} {p q:Int} {n:Nat}:(winT l p q n).Pairwise (· < ·):=List.pairwise_lt_range.filter _
def avW (D:Int) (l:List Tst) (n k:Nat):Rat:=avQ D l (startI k) (startI (k+n))
def bst1 (D:Int) (l:List Tst) (n:Nat) (o:Option Nat) (k:Nat):Option Nat:=
 match o with
 | none=>some k
 | some m=>if avW D l n m < avW D l n k then some k else some m
def bstL (D:Int) (l:List Tst) (n:Nat) (ks:List Nat):Option Nat:=ks.foldl (bst1 D l n) none
def bstT (D:Int) (l:List Tst) (p q:Int) (n:Nat):Option Nat:=bstL D l n (winT l p q n)
theorem rle_lt {a b c:Rat} (h1:a≤b) (h2:b < c):a < c:=Rat.not_le.1 fun h=>absurd (Rat.le_trans h h1) (Rat.not_le.2 h2)
theorem bstL_snoc {D:Int} {l:List Tst} {n k:Nat} {ks:List Nat}:bstL D l n (ks++[k])=bst1 D l n (bstL D l n ks) k:=by simp [bstL]
theorem bstL_spec {D:Int} {l:List Tst} {n:Nat}: ∀(ks:List Nat),ks.Pairwise (· < ·)→match bstL D l n ks with
  | none=>ks=[]
  | some m=>m∈ks∧(∀k∈ks,avW D l n k≤avW D l n m)∧ ∀k∈ks,k < m→avW D l n k < avW D l n m:=by
 intro ks
 suffices h: ∀n',(ks.take n').Pairwise (· < ·)→match bstL D l n (ks.take n') with
   | none=>ks.take n'=[]
   | some m=>m∈ks.take n'∧(∀k∈ks.take n',avW D l n k≤avW D l n m)∧ ∀k∈ks.take n',k < m→avW D l n k < avW D l n m by
  intro hp
  have:=h ks.length (by rwa [List.take_length])
  rwa [List.take_length] at this
 intro n'
 induction n' with
 | zero=>intro _;simp [bstL]
 | succ i ih=>
  rcases Nat.lt_or_ge i ks.length with hi | hi
  ·rw [List.take_succ_eq_append_getElem hi]
   intro hp
   have hp2:=List.pairwise_append.1 hp
   have h1:=ih hp2.1
   rw [bstL_snoc]
   cases hb:bstL D l n (ks.take i) with
   | none=>
    rw [hb] at h1
    simp only [bst1]
    rw [show ks.take i=[] from h1]
    refine ⟨by simp,fun k hk=> ?_,fun k hk hlt=> ?_⟩
    ·simp at hk;subst hk;exact Rat.le_refl
    ·simp at hk;omega
   | some m=>
    rw [hb] at h1
    obtain ⟨g1,g2,g3⟩:=h1
    have hml:=hp2.2.2 m g1 _ (List.mem_singleton_self _)
    simp only [bst1]
    by_cases hlt:avW D l n m < avW D l n ks[i]
    ·rw [if_pos hlt]
     refine ⟨List.mem_append_right _ (List.mem_singleton_self _),fun k hk=> ?_,fun k hk hk2=> ?_⟩
     ·rcases List.mem_append.1 hk with h | h
      ·exact Rat.le_of_lt (rle_lt (g2 k h) hlt)
      ·simp at h;subst h;exact Rat.le_refl
     ·rcases List.mem_append.1 hk with h | h
      ·exact rle_lt (g2 k h) hlt
      ·simp at h;omega
    ·rw [if_neg hlt]
     refine ⟨List.mem_append_left _ g1,fun k hk=> ?_,fun k hk hk2=> ?_⟩
     ·rcases List.mem_append.1 hk with h | h
      ·exact g2 k h
      ·simp at h;subst h;exact Rat.not_lt.1 hlt
     ·rcases List.mem_append.1 hk with h | h
      ·exact g3 k h hk2
      ·simp at h;omega
  ·rw [List.take_of_length_le (by omega:ks.length≤i+1)]
   rw [List.take_of_length_le hi] at ih
   exact ih
end An.S
