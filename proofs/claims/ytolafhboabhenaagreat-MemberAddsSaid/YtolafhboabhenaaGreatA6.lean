/- Part 6 of a proof: H1, LibN3, H2, H3, Me13, H4, H5, O32. -/
import Derived.Test.YtolafhboabhenaaGreatChecked
import Derived.Test.YtolafhboabhenaaGreatA5
set_option maxHeartbeats 4000000
set_option maxRecDepth 100000
namespace An.S
open Go Go.Proofs An
instance fi20:FnI Tryz.prog 20:=⟨_,Tryz.func20,by kernel_rfl,rfl⟩
instance fi25:FnI Tryz.prog 25:=⟨_,Tryz.func25,by kernel_rfl,rfl⟩
instance fi27:FnI Tryz.prog 27:=⟨_,Tryz.func27,by kernel_rfl,rfl⟩
instance fi61:FnI Tryz.prog 61:=⟨_,Tryz.func61,by kernel_rfl,rfl⟩
instance fi62:FnI Tryz.prog 62:=⟨_,Tryz.func62,by kernel_rfl,rfl⟩
instance fi66:FnI Tryz.prog 66:=⟨_,Tryz.func66,by kernel_rfl,rfl⟩
instance fi67:FnI Tryz.prog 67:=⟨_,Tryz.func67,by kernel_rfl,rfl⟩
instance fi96:FnI Tryz.prog 96:=⟨_,Tryz.func96,by kernel_rfl,rfl⟩
instance fi97:FnI Tryz.prog 97:=⟨_,Tryz.func97,by kernel_rfl,rfl⟩
instance fi103:FnI Tryz.prog 103:=⟨_,Tryz.func103,by kernel_rfl,rfl⟩
instance fi104:FnI Tryz.prog 104:=⟨_,Tryz.func104,by kernel_rfl,rfl⟩
instance fi150:FnI Tryz.prog 150:=⟨_,Tryz.func150,by kernel_rfl,rfl⟩
instance fi155:FnI Tryz.prog 155:=⟨_,Tryz.func155,by kernel_rfl,rfl⟩
instance fi156:FnI Tryz.prog 156:=⟨_,Tryz.func156,by kernel_rfl,rfl⟩
theorem tG_up {m n:Nat} {t:Ty} (h:n<=m):Le (tG (up m) t) (tG (up n) t):=tG_sub fun _ hb=>Nat.le_trans h hb
theorem fr0N {G:Dom}:Le (tFr fr0) (tG G (tFr fr0)):=leG_S ⟨⟨rfl,rfl,leG_S ⟨⟨rfl,rfl,tG_E⟩,⟨rfl,rfl,leG_nil⟩,trivial⟩⟩,⟨rfl,rfl,leG_S ⟨⟨rfl,rfl,tG_E⟩,⟨rfl,rfl,leG_nil⟩,trivial⟩⟩,trivial⟩
def mk16:List Nat:=(List.range 12).map fun i=>(8000024+i)%65536
theorem mk16_len:mk16.length=12:=rfl
theorem mk16_at {j:Nat} (h:j < 12):mk16.getD j 0=(8000024+j)%65536:=by
 have: ∀j,j < 12->mk16.getD j 0=(8000024+j)%65536:=by decide
 exact this j h
theorem mk16_take {i:Nat} (h:i < 12):mk16.take (i+1)=mk16.take i++[(8000024+i)%65536]:=by
 rw [List.take_succ_eq_append_getElem (by rw [mk16_len];exact h)]
 congr 2
 have:=mk16_at h
 rw [List.getD_eq_getElem?_getD,List.getElem?_eq_getElem (by rw [mk16_len];exact h)] at this
 exact this
theorem cutM {i:Nat}:IntKind.u16.wrap (1000003*(1+7)+(i:Int))=(((8000024+i)%65536:Nat):Int):=by rw [mu16];omega
abbrev tLmK (l:List Nat):Ty:=tLK 1 false (fun n:Nat=>tE (.int .u16 (n:Int))) l mk16
abbrev tWhK (x:Wh):Ty:=tS [⟨1,false,tB x.neg⟩,⟨1,false,tLmK x.l⟩]
abbrev tFrK (f:Fr):Ty:=tS [⟨2,true,tWhK f.n⟩,⟨2,true,tWhK f.d⟩]
theorem whK_le {x:Wh}:Le (tWhK x) (tWh x):=Le.tS ⟨⟨rfl,rfl,Le.refl⟩,⟨rfl,rfl,tLK_le⟩,trivial⟩
theorem frK_le {f:Fr}:Le (tFrK f) (tFr f):=Le.tS ⟨⟨rfl,rfl,whK_le⟩,⟨rfl,rfl,whK_le⟩,trivial⟩
theorem app_l {l m:List Nat} {i:Nat} (h:i < l.length):(l++m).getD i 0=l.getD i 0:=by
 rw [List.getD_eq_getElem?_getD,List.getElem?_append_left h,<-List.getD_eq_getElem?_getD]
theorem app_r {l m:List Nat} {i:Nat} (h:l.length<=i):(l++m).getD i 0=m.getD (i - l.length) 0:=by
 rw [List.getD_eq_getElem?_getD,List.getElem?_append_right h,<-List.getD_eq_getElem?_getD]
theorem c_mark1 (i:Nat) (h:i < 12):
  Ct Tryz.prog 96 [tI 1,tI i] (tI (1000003*(1+7)+(i:Int))):=by
 refine Ct.intro Tryz.func96 rfl Tryz.ntmps96 rfl ?_
 intro w F
 refine A9 ?_
 refine R2 (xi2 (wr64 (by omega) (by omega))) rfl rfl ?_
 refine A6 ?_
 exact E1 rfl rfl Le.refl
abbrev tLmW (l:List Nat):Ty:=tLW 153 1 false (fun n:Nat=>tE (.int .u16 (n:Int))) l mk16
abbrev tWhW (x:Wh):Ty:=tS [⟨1,false,tB x.neg⟩,⟨1,false,tLmW x.l⟩]
abbrev tFrW (f:Fr):Ty:=tS [⟨2,true,tWhW f.n⟩,⟨2,true,tWhW f.d⟩]
abbrev tVaW (v:Va):Ty:=tS [⟨1,false,tE (.int .u8 (v.kind:Int))⟩,⟨4,true,tFrW v.f⟩,⟨1,false,tI v.i⟩]
abbrev tTsW (s:Tst):Ty:=tS [⟨1,false,tI s.lo⟩,⟨1,false,tI s.hi⟩,⟨6,true,tVaW s.v⟩]
theorem whWK {x:Wh}:Le (tWhW x) (tWhK x):=Le.tS ⟨⟨rfl,rfl,Le.refl⟩,⟨rfl,rfl,tLW_le⟩,trivial⟩
theorem frWK {f:Fr}:Le (tFrW f) (tFrK f):=Le.tS ⟨⟨rfl,rfl,whWK⟩,⟨rfl,rfl,whWK⟩,trivial⟩
abbrev tTsM (x:Tst×Bool):Ty:=cond x.2 (tTsW x.1) (tTs x.1)
instance {x:Tst×Bool}:Shape (tTsM x) 8 true:=by
 obtain ⟨s,b⟩:=x
 cases b
 ·exact (inferInstance:Shape (tTs s) 8 true)
 ·exact (inferInstance:Shape (tTsW s) 8 true)
theorem c_LentLimbsN (l:List Nat) (hl:l.length<=70368744175616):
  CtN Tryz.prog 150 [tLm l] (fun nw=>tG (up nw) (tLmW l)):=by
 refine CtN.intro Tryz.func150 rfl Tryz.ntmps150 rfl ?_
 intro w F
 refine A10 ?_
 refine RE (xg0 (k:=8) (t:=tE (.int .u16 0)) (ts:=([]:List Ent)) (0) (l.length+12) Tryz.underlying23 el153 (fun _ _=>rfl) rfl (by omega) (by omega) (by omega) (by omega) (by omega) rfl) qB trivial qA ?_
 refine A7 ?_
 refine RE (xb3 (k:=8) (k':=11) (ys:=l) (ts':=rW .u16 l) Tryz.underlying23 el153 zf153 rfl rfl (fun _=>inferInstance) rfl (by simp;omega) (by simp;omega) (by simp [rW]) (n':=l.length) (by simp)) ⟨rfl,rfl,trivial⟩ ⟨rfl,trivial⟩ ⟨rfl,trivial⟩ ?_
 refine A10 ?_
 refine cL (fun (i:Nat)=>i<=12) (fun (i:Nat)=>uV (uO (uV uN 0 (tLm l)) 3 (.sl 11 1 0 (l.length+i))) 4 (tI i)) (fun (i:Nat)=>uK uN 11 153 1 false (rW .u16 (l++mk16.take i))) [11] (fun (i:Nat)=>12 - i) (0) (Nat.zero_le _) (hh:=((SubK.consI rfl (ImpK.of (by rw [List.take_zero,List.append_nil]))) SubK.nil)) ?_
 intro i hI
 have htl:(l++mk16.take i).length=l.length+i:=by rw [List.length_append,List.length_take,mk16_len];omega
 refine A7 ?_
 refine x6 rfl (fun h64=> ?_) (fun h64=> ?_)
 ·
  refine A7 ?_
  refine R2 (x3 (c_mark1 i (by omega)) fi96 rfl) rfl rfl (R1 (x5 Tryz.underlying153 (isS Tryz.underlying3) cutM) rfl (R1 (xk9 (n:=1) [((8000024+i)%65536)] Tryz.underlying23 el153 zf153 rfl rfl rfl) rfl (RE (xb3 (k:=11) (k':=21) (ys:=[((8000024+i)%65536)]) (ts':=rW .u16 (l++mk16.take i++[((8000024+i)%65536)])) Tryz.underlying23 el153 zf153 rfl rfl (fun _=>inferInstance) (xj4.trans htl) (by simp;omega) (by simp;omega) (by simp [rW]) (n':=l.length+i+1) rfl) qB qA qA ?_)))
  refine A9 ?_
  exact xc6 (l:=[11]) (fun j=>cond (Nat.beq j 11) 21 (j)) (i+1) ⟨(by omega),(by omega)⟩ (SubR.int rfl (by first | omega | rfl | (dsimp only;omega)) (SubR.cons rfl (SubR.cons rfl SubR.nil))) ((SubKR.consI rfl (ImpK.of (by rw [mk16_take (by omega),<-List.append_assoc];exact xf7.symm))) SubKR.nil) (SupG.val (SupG.own rfl (SupG.val SupG.nil))) (SupH.cons rfl (supJ xd1) SupH.nil) (lkOk rfl) rfl rfl (fun _ h=>by cases h)
 ·
  refine A10 ?_
  refine RE (d_keepOW (k:=11) (f:=fun n:Nat=>tE (.int .u16 (n:Int))) (xs:=l) (ms:=mk16) (up w.heap.size) (fun _ h=>h) sl23 (fun _ h=>h) (fun _ _=>tG_E) (by rw [rW,show i=12 by omega,show mk16.take 12=mk16 from rfl]) (by rw [mk16_len];omega) (by omega) rfl) qB qA trivial ?_
  refine A4 ?_
  exact E1 rfl rfl Le.refl
theorem c_KeptLimbs (l:List Nat) (hl:l.length<=70368744175616):
  Ct Tryz.prog 155 [tLmK l,tLm l] (tB true):=by
 have hml:(l++mk16).length=l.length+12:=by rw [List.length_append,mk16_len]
 refine Ct.intro Tryz.func155 rfl Tryz.ntmps155 rfl ?_
 intro w F
 refine A9 ?_
 refine R1 (d_lenK Tryz.underlying23) rfl ?_
 refine A5 ?_
 refine C_bF rfl (decide_eq_false (by omega)) ?_
 refine A8 ?_
 refine R2 (d_sliceK sl23 (by rw [mk16_len];omega)) rfl rfl ?_
 refine A10 ?_
 refine cL (fun (i:Nat)=>i<=(l++mk16).length) (fun (i:Nat)=>uV (uV (uV uN 1 (tLm l)) 5 (tLm (l++mk16))) 6 (tI i)) (fun (i:Nat)=>fun _=>none) [] (fun (i:Nat)=>(l++mk16).length - i) (0) (Nat.zero_le _) ?_
 intro i hI
 refine A9 ?_
 refine x6 rfl (fun h75=> ?_) (fun h75=> ?_)
 ·
  refine A11 ?_
  refine RGcaseD (t:=27) rfl (fun h76=> ?_) (fun h76=> ?_)
  ·
   refine A2 ?_
   refine Rg (decide_eq_true h76) rfl (x4 sl23 (i) (by omega) (gN (by omega))) rfl qB ?_
   refine A3 ?_
   refine Rg (decide_eq_true h76) rfl (x4 sl23 (i) (by omega) (gN (by omega))) rfl qB ?_
   refine A5 ?_
   refine Rg (xa3 (by rw [app_l (by omega)])) rfl xb9 rfl qA (Rg (xa3 (by rw [app_l (by omega)])) rfl xb9 rfl qA (Rg (xa3 (by rw [app_l (by omega)])) rfl (d_len Tryz.underlying23) rfl qA (Rg (xa3 (by rw [app_l (by omega)])) rfl d_geq rfl qB (Rg (xa3 (by rw [app_l (by omega)])) rfl xb9 rfl qA (RGoff (decide_eq_false (by omega)) rfl rfl (RGoff (decide_eq_false (by omega)) rfl rfl (RGoff (decide_eq_false (by omega)) rfl rfl (RGoff (decide_eq_false (by omega)) rfl rfl (RGoff (decide_eq_false (by omega)) rfl rfl (RGoff (decide_eq_false (by omega)) rfl rfl (RGoff (decide_eq_false (by omega)) rfl rfl (RGoff (decide_eq_false (by omega)) rfl rfl (RGoff (decide_eq_false (by omega)) rfl rfl (RGoff (decide_eq_false (by omega)) rfl rfl (RGoff (decide_eq_false (by omega)) rfl rfl ?_)))))))))))))))
   refine RGoff (decide_eq_false (by omega)) rfl rfl (Rg (xa3 (by rw [app_l (by omega)])) rfl (xc7 (decide_eq_false (by omega))) rfl qB (R2 (xc7 (xa3 (by rw [app_l (by omega)]))) rfl rfl ?_))
   refine A11 ?_
   exact kF (i+1) ⟨(by omega),(by omega)⟩
  ·
   refine A17 ?_
   refine Rg (decide_eq_true (by omega)) rfl xb9 rfl qA (Rg (decide_eq_true (by omega)) rfl xb9 rfl qA (Rg (decide_eq_true (by omega)) rfl (x4 sl23 (i) (by omega) (gN (by omega))) rfl qB (Rg (decide_eq_true (by omega)) rfl (xm1 ti153) rfl qA (Rg (decide_eq_true (by omega)) rfl xb9 rfl qA (Rg (decide_eq_true (by omega)) rfl xb9 rfl qA (Rg (decide_eq_true (by omega)) rfl (d_len Tryz.underlying23) rfl qA (Rg (decide_eq_true (by omega)) rfl (xd6 (r:=((i - l.length:Nat):Int)) (by rw [wr64 (by omega) (by omega)];omega)) rfl qB (Rg (decide_eq_true (by omega)) rfl (x3 (c_mark1 (i - l.length) (by omega)) fi96 rfl) rfl qB (Rg (decide_eq_true (by omega)) rfl (x5 Tryz.underlying153 (isS Tryz.underlying3) cutM) rfl qA (Rg (decide_eq_true (by omega)) rfl d_eql rfl qB (Rg (decide_eq_true (by omega)) rfl d_not rfl qA (Rg rfl rfl (xc9 (decide_eq_true (by omega))) rfl qB ?_))))))))))))
   refine A3 ?_
   refine C_bF rfl (xa3 (by rw [app_r (by omega),mk16_at (by omega)])) ?_
   refine A8 ?_
   exact kF (i+1) ⟨(by omega),(by omega)⟩
 ·
  refine A11 ?_
  exact E1 rfl rfl Le.refl
theorem c_LentWholeN (x:Wh) (hl:x.l.length<=70368744175616):
  CtN Tryz.prog 97 [tWh x] (fun nw=>tG (up nw) (tWhW x)):=by
 refine CtN.intro Tryz.func97 rfl Tryz.ntmps97 rfl ?_
 intro w F
 refine A3 ?_
 refine RE (x7 (k:=2) (n:=2) (agg:=true) zr25.1 zr25.2 rfl) trivial trivial qA ?_
 refine A6 ?_
 refine R1 (xj1 (ts:=[_]) (r:=tG (up w.heap.size) _) (c_LentLimbsN x.l hl) fi150 (fun m hm=>tG_up hm) ⟨Le.refl,trivial⟩ rfl) rfl ?_
 refine A1 ?_
 refine xi8 (0) ti23 rfl rfl rfl rfl (Up.g 1 rfl rfl rfl) rfl rfl ?_
 refine A3 ?_
 refine C_key (k:=1) (e':=⟨25,2,true,[.val (tS [⟨1,false,tB x.neg⟩,⟨1,false,tG (up w.heap.size) (tLmW x.l)⟩])]⟩) rfl rfl ?_
 refine A6 ?_
 exact EC rfl ⟨_,_,_,_,_,rfl,rfl,ti25,(leG_S ⟨⟨rfl,rfl,tG_E⟩,⟨rfl,rfl,Le.refl⟩,trivial⟩)⟩
theorem c_LentFracN (f:Fr) (h1:f.n.l.length<=70368744175616) (h2:f.d.l.length<=70368744175616):
  CtN Tryz.prog 62 [tFr f] (fun nw=>tG (up nw) (tFrW f)):=by
 refine CtN.intro Tryz.func62 rfl Tryz.ntmps62 rfl ?_
 intro w F
 refine A3 ?_
 refine RE (x7 (k:=2) (n:=4) (agg:=true) zr27.1 zr27.2 rfl) trivial trivial qA ?_
 refine A6 ?_
 refine R1 (xj1 (ts:=[_]) (r:=tG (up w.heap.size) _) (c_LentWholeN f.n h1) fi97 (fun m hm=>tG_up hm) ⟨Le.refl,trivial⟩ rfl) rfl ?_
 refine A1 ?_
 refine xi8 (0) ti25 rfl rfl rfl rfl (Up.g 0 rfl rfl rfl) rfl rfl ?_
 refine A6 ?_
 refine R1 (xj1 (ts:=[_]) (r:=tG (up w.heap.size) _) (c_LentWholeN f.d h2) fi97 (fun m hm=>tG_up hm) ⟨Le.refl,trivial⟩ rfl) rfl ?_
 refine A1 ?_
 refine xi8 (0) ti25 rfl rfl rfl rfl (Up.g 1 rfl rfl rfl) rfl rfl ?_
 refine A3 ?_
 refine C_key (k:=1) (e':=⟨27,4,true,[.val (tS [⟨2,true,tG (up w.heap.size) (tWhW f.n)⟩,⟨2,true,tG (up w.heap.size) (tWhW f.d)⟩])]⟩) rfl rfl ?_
 refine A6 ?_
 exact EC rfl ⟨_,_,_,_,_,rfl,rfl,ti27,(leG_S ⟨⟨rfl,rfl,Le.refl⟩,⟨rfl,rfl,Le.refl⟩,trivial⟩)⟩
theorem c_markK (k i:Nat) (hk:k < 1000) (hi:i < 100000000000000):
  Ct Tryz.prog 96 [tI k,tI i] (tI (1000003*((k:Int)+7)+(i:Int))):=by
 refine Ct.intro Tryz.func96 rfl Tryz.ntmps96 rfl ?_
 intro w F
 refine A9 ?_
 refine R2 (xi2 (wr64 (by omega) (by omega))) rfl rfl ?_
 refine A6 ?_
 exact E1 rfl rfl Le.refl
theorem frW_le {f:Fr}:Le (tFrW f) (tFr f):=Le.trans frWK frK_le
abbrev tEvG (e:Ev) (a b:Ty):Ty:=tS [⟨1,false,tE (.int .u8 (e.knd:Int))⟩,⟨1,false,tI e.kn⟩,⟨1,false,tI e.job⟩,⟨1,false,tI e.day⟩,⟨1,false,tI e.hi⟩,⟨4,true,a⟩,⟨4,true,b⟩,⟨1,false,tI e.nr⟩]
abbrev tEvW (e:Ev):Ty:=tEvG e (tFrW e.part) (tFrW e.pay)
theorem evG_le {e:Ev} {a a' b b':Ty} (h:Le a a') (h2:Le b b'):Le (tEvG e a b) (tEvG e a' b'):=Le.tS ⟨⟨rfl,rfl,Le.refl⟩,⟨rfl,rfl,Le.refl⟩,⟨rfl,rfl,Le.refl⟩,⟨rfl,rfl,Le.refl⟩,⟨rfl,rfl,Le.refl⟩,⟨rfl,rfl,h⟩,⟨rfl,rfl,h2⟩,⟨rfl,rfl,Le.refl⟩,trivial⟩
theorem evW_le {e:Ev}:Le (tEvW e) (tEv e):=evG_le frW_le frW_le
theorem evGN {G:Dom} {e:Ev} {a b:Ty}:Le (tEvG e (tG G a) (tG G b)) (tG G (tEvG e a b)):=leG_S ⟨⟨rfl,rfl,tG_E⟩,⟨rfl,rfl,tG_E⟩,⟨rfl,rfl,tG_E⟩,⟨rfl,rfl,tG_E⟩,⟨rfl,rfl,tG_E⟩,⟨rfl,rfl,Le.refl⟩,⟨rfl,rfl,Le.refl⟩,⟨rfl,rfl,tG_E⟩,trivial⟩
abbrev tEvM (x:Ev×Bool):Ty:=cond x.2 (tEvW x.1) (tEv x.1)
instance {x:Ev×Bool}:Shape (tEvM x) 14 true:=by
 obtain ⟨s,b⟩:=x
 cases b
 ·exact (inferInstance:Shape (tEv s) 14 true)
 ·exact (inferInstance:Shape (tEvW s) 14 true)
theorem evM_le {x:Ev×Bool}:Le (tEvM x) (tEv x.1):=by
 obtain ⟨s,b⟩:=x
 cases b
 ·exact Le.refl
 ·exact evW_le
def emk (k i:Nat):Ev:=⟨0,1000003*((k:Int)+7)+(i:Int),0,0,0,fr0,fr0,0⟩
def mkE:List Ev:=(List.range 12).map (emk 1)
theorem xm0:mkE.length=12:=rfl
theorem mkE_at {j:Nat} (h:j < 12):mkE.getD j ev0=emk 1 j:=by
 have hl:j < mkE.length:=by rw [xm0];exact h
 rw [List.getD_eq_getElem?_getD,List.getElem?_eq_getElem hl,Option.getD_some]
 simp [mkE]
theorem mkE_take {i:Nat} (h:i < 12):mkE.take (i+1)=mkE.take i++[emk 1 i]:=by
 rw [List.take_succ_eq_append_getElem (by rw [xm0];exact h)]
 congr 2
 have:=mkE_at h
 rw [List.getD_eq_getElem?_getD,List.getElem?_eq_getElem (by rw [xm0];exact h)] at this
 exact this
def lmE (l:List Ev):List (Ev×Bool):=l.map (·,true)
def mmE (m:List Ev):List (Ev×Bool):=m.map (·,false)
abbrev tEsW (l:List Ev):Ty:=tLW 29 14 true tEvM (lmE l) (mmE mkE)
theorem xh9 {l:List Ev}:(lmE l).length=l.length:=List.length_map ..
theorem xr8 {l:List Ev}:(mmE l).length=l.length:=List.length_map ..
theorem lmE_take {l:List Ev} {i:Nat} (h:i < l.length):lmE (l.take (i+1))=lmE (l.take i)++[(l.getD i ev0,true)]:=by
 rw [lmE,lmE,List.take_succ_eq_append_getElem h,List.map_append,List.getD_eq_getElem?_getD,List.getElem?_eq_getElem h];rfl
theorem mmE_snoc {l:List Ev} {x:Ev}:mmE (l++[x])=mmE l++[(x,false)]:=by rw [mmE,List.map_append];rfl
def em0:Ev×Bool:=(ev0,false)
theorem lme_l {l m:List Ev} {i:Nat} (h:i < l.length):(lmE l++mmE m).getD i em0=(l.getD i ev0,true):=by
 rw [List.getD_eq_getElem?_getD,List.getElem?_append_left (by rw [xh9];exact h),lmE,List.getElem?_map,List.getElem?_eq_getElem h,List.getD_eq_getElem?_getD,List.getElem?_eq_getElem h];rfl
theorem lme_r {l m:List Ev} {i:Nat} (h:l.length<=i) (h2:i - l.length < m.length):(lmE l++mmE m).getD i em0=(m.getD (i - l.length) ev0,false):=by
 rw [List.getD_eq_getElem?_getD,List.getElem?_append_right (by rw [xh9];exact h),xh9,mmE,List.getElem?_map,List.getElem?_eq_getElem h2,List.getD_eq_getElem?_getD,List.getElem?_eq_getElem h2];rfl
theorem esW_le {l:List Ev}:Le (tEsW l) (tL 14 true tEv l):=fun F w v h=>by
 obtain ⟨A,c,h1,h2,h3,h4⟩:=le_L (fun x=>evM_le) _ _ _ (tLW_leL _ _ _ h)
 rw [xh9] at h1 h2
 refine ⟨A,c,h1,h2,h3,h4.imp (fun h=>by rw [lmE] at h;exact List.map_eq_nil_iff.1 h) fun ⟨b,o,e,hb,hx⟩=>⟨b,o,e,hb,fun i x hi=>hx i (x,true) (by rw [lmE,List.getElem?_map,hi];rfl)⟩⟩
theorem c_LentEventN (e:Ev) (h1:e.part.n.l.length<=70368744175616) (h2:e.part.d.l.length<=70368744175616) (h3:e.pay.n.l.length<=70368744175616) (h4:e.pay.d.l.length<=70368744175616):
  CtN Tryz.prog 20 [tEv e] (fun nw=>tG (up nw) (tEvW e)):=by
 refine CtN.intro Tryz.func20 rfl Tryz.ntmps20 rfl ?_
 intro w F
 refine A3 ?_
 refine RE (x7 (k:=2) (n:=14) (agg:=true) zr29.1 zr29.2 rfl) trivial trivial qA ?_
 refine A6 ?_
 refine R1 (xj1 (ts:=[_]) (r:=tG (up w.heap.size) _) (c_LentFracN e.part h1 h2) fi62 (fun m hm=>tG_up hm) ⟨Le.refl,trivial⟩ rfl) rfl ?_
 refine A1 ?_
 refine xi8 (0) ti27 rfl rfl rfl rfl (Up.g 5 rfl rfl rfl) rfl rfl ?_
 refine A6 ?_
 refine R1 (xj1 (ts:=[_]) (r:=tG (up w.heap.size) _) (c_LentFracN e.pay h3 h4) fi62 (fun m hm=>tG_up hm) ⟨Le.refl,trivial⟩ rfl) rfl ?_
 refine A1 ?_
 refine xi8 (0) ti27 rfl rfl rfl rfl (Up.g 6 rfl rfl rfl) rfl rfl ?_
 refine A3 ?_
 refine C_key (k:=1) (e':=⟨29,14,true,[.val (tEvG e (tG (up w.heap.size) (tFrW e.part)) (tG (up w.heap.size) (tFrW e.pay)))]⟩) rfl rfl ?_
 refine A6 ?_
 exact EC rfl ⟨_,_,_,_,_,rfl,rfl,ti29,evGN⟩
theorem c_markEvent (k i:Nat) (hk:k < 1000) (hi:i < 100000000000000):
  CtN Tryz.prog 61 [tI k,tI i] (fun nw=>tG (up nw) (tEv (emk k i))):=by
 refine CtN.intro Tryz.func61 rfl Tryz.ntmps61 rfl ?_
 intro w F
 refine A2 ?_
 refine RE (x7 (k:=4) (n:=14) (agg:=true) zr29.1 zr29.2 rfl) trivial trivial qA ?_
 refine A6 ?_
 refine R2 (x3 (c_markK k i hk hi) fi96 rfl) rfl rfl (R1 (xb0 (r:=tS [⟨1,false,(tE (.int .u8 0))⟩,⟨1,false,tI (1000003*((k:Int)+7)+(i:Int))⟩,⟨1,false,(tE (.int .i64 0))⟩,⟨1,false,(tE (.int .i64 0))⟩,⟨1,false,(tE (.int .i64 0))⟩,⟨4,true,(tS [⟨2,true,(tS [⟨1,false,(tE (.bool false))⟩,⟨1,false,(tLm [])⟩])⟩,⟨2,true,(tS [⟨1,false,(tE (.bool false))⟩,⟨1,false,(tLm [])⟩])⟩])⟩,⟨4,true,(tS [⟨2,true,(tS [⟨1,false,(tE (.bool false))⟩,⟨1,false,(tLm [])⟩])⟩,⟨2,true,(tS [⟨1,false,(tE (.bool false))⟩,⟨1,false,(tLm [])⟩])⟩])⟩,⟨1,false,(tE (.int .i64 0))⟩]) (ts:=[(1,tI (1000003*((k:Int)+7)+(i:Int)))]) bu29 zr29.2 (Bc 1 rfl rfl rfl Le.refl)) rfl ?_)
 refine A4 ?_
 exact EC rfl ⟨_,_,_,_,_,rfl,rfl,ti29,(leG_S ⟨⟨rfl,rfl,tG_E⟩,⟨rfl,rfl,tG_E⟩,⟨rfl,rfl,tG_E⟩,⟨rfl,rfl,tG_E⟩,⟨rfl,rfl,tG_E⟩,⟨rfl,rfl,fr0N⟩,⟨rfl,rfl,fr0N⟩,⟨rfl,rfl,tG_E⟩,trivial⟩)⟩
theorem c_markEvent1 (k i:Nat) (hk:k < 1000) (hi:i < 100000000000000):Ct Tryz.prog 61 [tI k,tI i] (tEv (emk k i)):=(c_markEvent k i hk hi).toCt fun _=>tG_le
theorem c_LentEventsN (l:List Ev) (hl:l.length<=799644820177) (hs: ∀e∈l,(e.part.n.l.length<=70368744175616/\e.part.d.l.length<=70368744175616)/\e.pay.n.l.length<=70368744175616/\e.pay.d.l.length<=70368744175616):
  CtN Tryz.prog 19 [tL 14 true tEv l] (fun nw=>tG (up nw) (tEsW l)):=by
 refine CtN.intro Tryz.func19 rfl Tryz.ntmps19 rfl ?_
 intro w F
 refine A10 ?_
 refine RE (xg0 (k:=10) (t:=(tS [⟨1,false,(tE (.int .u8 0))⟩,⟨1,false,(tE (.int .i64 0))⟩,⟨1,false,(tE (.int .i64 0))⟩,⟨1,false,(tE (.int .i64 0))⟩,⟨1,false,(tE (.int .i64 0))⟩,⟨4,true,(tS [⟨2,true,(tS [⟨1,false,(tE (.bool false))⟩,⟨1,false,(tLm [])⟩])⟩,⟨2,true,(tS [⟨1,false,(tE (.bool false))⟩,⟨1,false,(tLm [])⟩])⟩])⟩,⟨4,true,(tS [⟨2,true,(tS [⟨1,false,(tE (.bool false))⟩,⟨1,false,(tLm [])⟩])⟩,⟨2,true,(tS [⟨1,false,(tE (.bool false))⟩,⟨1,false,(tLm [])⟩])⟩])⟩,⟨1,false,(tE (.int .i64 0))⟩])) (ts:=([]:List Ent)) (0) (l.length+12) Tryz.underlying22 el29 (fun _ _=>⟨_,rfl,rfl,⟨fun _=>rfl,rfl⟩,⟨fun _=>rfl,rfl⟩,⟨fun _=>rfl,rfl⟩,⟨fun _=>rfl,rfl⟩,⟨fun _=>rfl,rfl⟩,⟨fun h=>Bool.noConfusion h,⟨_,rfl,rfl,⟨fun h=>Bool.noConfusion h,⟨_,rfl,rfl,⟨fun _=>rfl,rfl⟩,⟨fun _=>rfl,⟨none,0,rfl,Nat.le_refl _,by decide,.inl rfl⟩⟩,trivial⟩⟩,⟨fun h=>Bool.noConfusion h,⟨_,rfl,rfl,⟨fun _=>rfl,rfl⟩,⟨fun _=>rfl,⟨none,0,rfl,Nat.le_refl _,by decide,.inl rfl⟩⟩,trivial⟩⟩,trivial⟩⟩,⟨fun h=>Bool.noConfusion h,⟨_,rfl,rfl,⟨fun h=>Bool.noConfusion h,⟨_,rfl,rfl,⟨fun _=>rfl,rfl⟩,⟨fun _=>rfl,⟨none,0,rfl,Nat.le_refl _,by decide,.inl rfl⟩⟩,trivial⟩⟩,⟨fun h=>Bool.noConfusion h,⟨_,rfl,rfl,⟨fun _=>rfl,rfl⟩,⟨fun _=>rfl,⟨none,0,rfl,Nat.le_refl _,by decide,.inl rfl⟩⟩,trivial⟩⟩,trivial⟩⟩,⟨fun _=>rfl,rfl⟩,trivial⟩) rfl (by omega) (by omega) (by omega) (by omega) (by omega) rfl) qB trivial qA ?_
 refine A10 ?_
 refine cL (fun (i:Nat)=>i<=l.length) (fun (i:Nat)=>uV (uO (uV uN 0 (tL 14 true tEv l)) 3 (.sl 10 14 0 i)) 4 (tI i)) (fun (i:Nat)=>uK uN 10 29 14 true (rV (fun x=>tG (up w.heap.size) (tEvM x)) (lmE (l.take i)))) [10] (fun (i:Nat)=>l.length - i) (0) (Nat.zero_le _) (hh:=((SubK.consI rfl (ImpK.of rfl)) SubK.nil)) ?_
 intro i hI
 have hxl:(lmE (l.take i)).length=i:=by rw [xh9,List.length_take];omega
 refine A9 ?_
 refine x6 rfl (fun h829=> ?_) (fun h829=> ?_)
 ·
  refine A8 ?_
  refine R2 (x4 sl22 i (by omega) (gD (l:=l) (n:=i) (d:=ev0) (by omega))) rfl rfl ?_
  refine A1 ?_
  refine R1 (xj1 (ts:=[_]) (r:=tG (up w.heap.size) _) (c_LentEventN (l.getD i ev0) (hs _ (xe8 (l:=l) (by omega))).1.1 (hs _ (xe8 (l:=l) (by omega))).1.2 (hs _ (xe8 (l:=l) (by omega))).2.1 (hs _ (xe8 (l:=l) (by omega))).2.2) fi20 (fun m hm=>tG_up hm) ⟨Le.refl,trivial⟩ rfl) rfl (RE (x7 (k:=5) (n:=14) (agg:=true) zr29.1 zr29.2 rfl) trivial trivial qA ?_)
  refine A6 ?_
  refine R1 (xb5 (n:=1) (f:=(fun x=>tG (up w.heap.size) (tEvM x))) [((l.getD i ev0,true):Ev×Bool)] Tryz.underlying22 el29 zf29 rfl (fun _=>inferInstance) rfl rfl rfl) rfl (RE (xb3 (k:=10) (k':=25) (f:=(fun x=>tG (up w.heap.size) (tEvM x))) (ys:=[((l.getD i ev0,true):Ev×Bool)]) (ts':=rV (fun x=>tG (up w.heap.size) (tEvM x)) ((lmE (l.take i))++[((l.getD i ev0,true):Ev×Bool)])) Tryz.underlying22 el29 zf29 rfl rfl (fun _=>inferInstance) (xd2.trans hxl) (by simp;omega) (by simp;omega) (by simp [rV]) (n':=i+1) rfl) qB qA qA ?_)
  refine A9 ?_
  exact xc6 (l:=[10]) (fun j=>cond (Nat.beq j 10) 25 (j)) (i+1) ⟨(by omega),(by omega)⟩ (SubR.int rfl (by first | omega | rfl | (dsimp only;omega)) (SubR.cons rfl (SubR.cons rfl SubR.nil))) ((SubKR.consI rfl (ImpK.of (by rw [lmE_take (by omega)];exact xa6.symm))) SubKR.nil) (SupG.val (SupG.own rfl (SupG.val SupG.nil))) (SupH.cons rfl (supJ xa5) SupH.nil) (lkOk rfl) rfl rfl (fun _ h=>by cases h)
 ·
  refine A12 ?_
  have hil:i=l.length:=by omega
  subst hil
  refine cL (fun (i:Nat)=>i<=12) (fun (i:Nat)=>uV (uO (uV uN 0 (tL 14 true tEv l)) 3 (.sl 10 14 0 (l.length+i))) 6 (tI i)) (fun (i:Nat)=>uK uN 10 29 14 true (rV (fun x=>tG (up w.heap.size) (tEvM x)) (lmE l++mmE (mkE.take i)))) [10] (fun (i:Nat)=>12 - i) (0) (Nat.zero_le _) (hh:=((SubK.consI rfl (ImpK.of (by rw [List.take_length,List.take_zero,mmE,List.map_nil,List.append_nil]))) SubK.nil)) ?_
  intro i hI
  have hxl:(lmE l++mmE (mkE.take i)).length=l.length+i:=by rw [List.length_append,xh9,xr8,List.length_take,xm0];omega
  refine A7 ?_
  refine x6 rfl (fun h833=> ?_) (fun h833=> ?_)
  ·
   refine A7 ?_
   refine R2 (xj1 (ts:=[_,_]) (r:=tG (up w.heap.size) _) (c_markEvent 1 i (by decide) (by omega)) fi61 (fun m hm=>tG_up hm) ⟨Le.refl,Le.refl,trivial⟩ rfl) rfl rfl (R1 (xb5 (n:=1) (f:=(fun x=>tG (up w.heap.size) (tEvM x))) [((emk 1 i,false):Ev×Bool)] Tryz.underlying22 el29 zf29 rfl (fun _=>inferInstance) rfl rfl rfl) rfl (RE (xb3 (k:=10) (k':=34) (f:=(fun x=>tG (up w.heap.size) (tEvM x))) (ys:=[((emk 1 i,false):Ev×Bool)]) (ts':=rV (fun x=>tG (up w.heap.size) (tEvM x)) ((lmE l++mmE (mkE.take i))++[((emk 1 i,false):Ev×Bool)])) Tryz.underlying22 el29 zf29 rfl rfl (fun _=>inferInstance) (xd2.trans hxl) (by simp;omega) (by simp;omega) (by simp [rV]) (n':=l.length+i+1) rfl) qB qA qA ?_))
   refine A9 ?_
   exact xc6 (l:=[10]) (fun j=>cond (Nat.beq j 10) 34 (j)) (i+1) ⟨(by omega),(by omega)⟩ (SubR.int rfl (by first | omega | rfl | (dsimp only;omega)) (SubR.cons rfl (SubR.cons rfl SubR.nil))) ((SubKR.consI rfl (ImpK.of (by rw [mkE_take (by omega),mmE_snoc,<-List.append_assoc];exact xa6.symm))) SubKR.nil) (SupG.val (SupG.own rfl (SupG.val SupG.nil))) (SupH.cons rfl (supJ xa5) SupH.nil) (lkOk rfl) rfl rfl (fun _ h=>by cases h)
  ·
   refine A10 ?_
   refine RE (d_keepOW (k:=10) (f:=(fun x=>tG (up w.heap.size) (tEvM x))) (xs:=lmE l) (ms:=mmE mkE) (up w.heap.size) (fun _ h=>h) sl22 (fun _ h=>h) (fun _ _=>tG_idem) (by rw [rV,show i=12 by omega,show mkE.take 12=mkE from rfl]) (by rw [xh9,xr8,xm0];omega) (by omega) (by rw [xh9])) qB qA trivial ?_
   refine A4 ?_
   exact E1 rfl rfl (tG_mono (leLW fun _=>tG_le))
theorem c_KeptWhole (x:Wh) (hl:x.l.length<=70368744175616):
  Ct Tryz.prog 103 [tWhK x,tWh x] (tB true):=by
 refine Ct.intro Tryz.func103 rfl Tryz.ntmps103 rfl ?_
 intro w F
 refine A11 ?_
 refine R2 (xq3 (ts:=[tWhK x,tWh x]) (xv1 x x) fi154 rfl ⟨whK_le,Le.refl,trivial⟩) rfl rfl ?_
 refine A1 ?_
 refine Rg (decide_eq_true (by rfl)) rfl (xh0 fo25_1.h rfl) rfl qA (xb2 (decide_eq_true (by rfl)) rfl rfl (0) ti23 rfl rfl rfl (At.g 1 rfl rfl) rfl (Rg (decide_eq_true (by rfl)) rfl (xh0 fo25_1.h rfl) rfl qA (xb2 (decide_eq_true (by rfl)) rfl rfl (0) ti23 rfl rfl rfl (At.g 1 rfl rfl) rfl (Rg (decide_eq_true (by rfl)) rfl (x3 (c_KeptLimbs x.l hl) fi155 rfl) rfl qB (R2 (xc9 (decide_eq_true (by rfl))) rfl rfl ?_)))))
 refine A4 ?_
 exact E1 rfl rfl Le.refl
theorem c_KeptFrac (f:Fr) (h1:f.n.l.length<=70368744175616) (h2:f.d.l.length<=70368744175616):
  Ct Tryz.prog 66 [tFrK f,tFr f] (tB true):=by
 refine Ct.intro Tryz.func66 rfl Tryz.ntmps66 rfl ?_
 intro w F
 refine A11 ?_
 refine R2 (xq3 (ts:=[tFrK f,tFr f]) (xu1 f f) fi102 rfl ⟨frK_le,Le.refl,trivial⟩) rfl rfl ?_
 refine A1 ?_
 refine Rg (decide_eq_true (by rfl)) rfl (xh0 fo27_0.h rfl) rfl qA (xb2 (decide_eq_true (by rfl)) rfl rfl (0) ti25 rfl rfl rfl (At.g 0 rfl rfl) rfl (Rg (decide_eq_true (by rfl)) rfl (xh0 fo27_0.h rfl) rfl qA (xb2 (decide_eq_true (by rfl)) rfl rfl (0) ti25 rfl rfl rfl (At.g 0 rfl rfl) rfl (Rg (decide_eq_true (by rfl)) rfl (x3 (c_KeptWhole f.n h1) fi103 rfl) rfl qB (R2 (xc9 (decide_eq_true (by rfl))) rfl rfl ?_)))))
 refine A5 ?_
 refine Rg rfl rfl (x3 (c_KeptWhole f.d h2) fi103 rfl) rfl qB ?_
 refine A5 ?_
 exact E1 rfl rfl Le.refl
theorem c_KeptEvent (e:Ev) (h1:e.part.n.l.length<=70368744175616) (h2:e.part.d.l.length<=70368744175616) (h3:e.pay.n.l.length<=70368744175616) (h4:e.pay.d.l.length<=70368744175616):
  Ct Tryz.prog 25 [tEvW e,tEv e] (tB true):=by
 refine Ct.intro Tryz.func25 rfl Tryz.ntmps25 rfl ?_
 intro w F
 refine A11 ?_
 refine R2 (xq3 (ts:=[_,_]) (xv3 e e) fi65 rfl ⟨evW_le,Le.refl,trivial⟩) rfl rfl ?_
 refine A1 ?_
 refine Rg (decide_eq_true (by rfl)) rfl (xh0 fo29_5.h rfl) rfl qA (xb2 (decide_eq_true (by rfl)) rfl rfl (0) ti27 rfl rfl rfl (At.g 5 rfl rfl) rfl (Rg (decide_eq_true (by rfl)) rfl (xh0 fo29_5.h rfl) rfl qA (xb2 (decide_eq_true (by rfl)) rfl rfl (0) ti27 rfl rfl rfl (At.g 5 rfl rfl) rfl (Rg (decide_eq_true (by rfl)) rfl (xq3 (ts:=[_,_]) (c_KeptFrac e.part h1 h2) fi66 rfl ⟨frWK,Le.refl,trivial⟩) rfl qB (R2 (xc9 (decide_eq_true (by rfl))) rfl rfl ?_)))))
 refine A5 ?_
 refine Rg rfl rfl (xq3 (ts:=[_,_]) (c_KeptFrac e.pay h3 h4) fi66 rfl ⟨frWK,Le.refl,trivial⟩) rfl qB ?_
 refine A5 ?_
 exact E1 rfl rfl Le.refl
theorem c_KeptEvents (l:List Ev) (hl:l.length<=799644820177) (hs: ∀e∈l,(e.part.n.l.length<=70368744175616/\e.part.d.l.length<=70368744175616)/\e.pay.n.l.length<=70368744175616/\e.pay.d.l.length<=70368744175616):
  Ct Tryz.prog 24 [tEsW l,tL 14 true tEv l] (tB true):=by
 have hml:(lmE l++mmE mkE).length=l.length+12:=by rw [List.length_append,xh9,xr8,xm0]
 have hll:(lmE l).length=l.length:=xh9
 refine Ct.intro Tryz.func24 rfl Tryz.ntmps24 rfl ?_
 intro w F
 refine A9 ?_
 refine R1 (d_lenW Tryz.underlying22 hll) rfl ?_
 refine A5 ?_
 refine C_bF rfl (decide_eq_false (by omega)) ?_
 refine A8 ?_
 refine R2 (d_sliceW sl22 (by rw [hll,xr8,xm0];omega)) rfl rfl ?_
 refine A10 ?_
 refine cL (fun (i:Nat)=>i<=(lmE l++mmE mkE).length) (fun (i:Nat)=>uV (uV (uV uN 1 (tL 14 true tEv l)) 5 (tL 14 true tEvM (lmE l++mmE mkE))) 6 (tI i)) (fun (i:Nat)=>fun _=>none) [] (fun (i:Nat)=>(lmE l++mmE mkE).length - i) (0) (Nat.zero_le _) ?_
 intro i hI
 refine A9 ?_
 refine x6 rfl (fun h844=> ?_) (fun h844=> ?_)
 ·
  refine A11 ?_
  refine RGcaseD (t:=27) rfl (fun h845=> ?_) (fun h845=> ?_)
  ·
   refine A2 ?_
   refine Rg (decide_eq_true h845) rfl (x4 sl22 i (by omega) (gD (l:=(lmE l++mmE mkE)) (n:=i) (d:=em0) (by omega))) rfl qB ?_
   refine A3 ?_
   refine Rg (decide_eq_true h845) rfl (x4 sl22 i (by omega) (gD (l:=l) (n:=i) (d:=ev0) (by omega))) rfl qB ?_
   refine A1 ?_
   refine Rg (decide_eq_true h845) rfl (xq3 (ts:=[_,_]) (c_KeptEvent (l.getD i ev0) (hs _ (xe8 (l:=l) (by omega))).1.1 (hs _ (xe8 (l:=l) (by omega))).1.2 (hs _ (xe8 (l:=l) (by omega))).2.1 (hs _ (xe8 (l:=l) (by omega))).2.2) fi25 rfl ⟨(by rw [lme_l (by omega)];exact Le.refl),Le.refl,trivial⟩) rfl qB ?_
   refine A8 ?_
   refine RGoff (decide_eq_false (by omega)) rfl rfl (RGoff (decide_eq_false (by omega)) rfl rfl (RGoff (decide_eq_false (by omega)) rfl rfl (RGoff (decide_eq_false (by omega)) rfl rfl (RGoff (decide_eq_false (by omega)) rfl rfl (RGoff (decide_eq_false (by omega)) rfl rfl (RGoff (decide_eq_false (by omega)) rfl rfl (RGoff (decide_eq_false (by omega)) rfl rfl (RGoff (decide_eq_false (by omega)) rfl rfl (RGoff (decide_eq_false (by omega)) rfl rfl (RGoff (decide_eq_false (by omega)) rfl rfl (Rg rfl rfl (xc7 (decide_eq_false (by omega))) rfl qB ?_)))))))))))
   refine A12 ?_
   exact kF (i+1) ⟨(by omega),(by omega)⟩
  ·
   refine A17 ?_
   refine Rg (decide_eq_true (by omega)) rfl xb9 rfl qA (Rg (decide_eq_true (by omega)) rfl xb9 rfl qA (Rg (decide_eq_true (by omega)) rfl (x4 sl22 i (by omega) (gD (l:=(lmE l++mmE mkE)) (n:=i) (d:=em0) (by omega))) rfl qB (Rg (decide_eq_true (by omega)) rfl (xm1 ti29) rfl qA (Rg (decide_eq_true (by omega)) rfl xb9 rfl qA (Rg (decide_eq_true (by omega)) rfl xb9 rfl qA (Rg (decide_eq_true (by omega)) rfl (d_len Tryz.underlying22) rfl qA (Rg (decide_eq_true (by omega)) rfl (xd6 (r:=((i - l.length:Nat):Int)) (by rw [wr64 (by omega) (by omega)];omega)) rfl qB (Rg (decide_eq_true (by omega)) rfl (xq3 (ts:=[_,_]) (c_markEvent1 1 (i - l.length) (by decide) (by omega)) fi61 rfl ⟨Le.refl,Le.refl,trivial⟩) rfl qB (Rg (decide_eq_true (by omega)) rfl (xq3 (ts:=[_,_]) (xv3 (emk 1 (i - l.length)) (emk 1 (i - l.length))) fi65 rfl ⟨(by rw [lme_r (by omega) (by rw [xm0];omega),mkE_at (by omega)];exact Le.refl),Le.refl,trivial⟩) rfl qB (Rg (decide_eq_true (by omega)) rfl d_not rfl qA (Rg rfl rfl (xc9 (decide_eq_true (by omega))) rfl qB ?_)))))))))))
   refine A3 ?_
   refine C_bF rfl (xa3 (by rfl)) ?_
   refine A8 ?_
   exact kF (i+1) ⟨(by omega),(by omega)⟩
 ·
  refine A11 ?_
  exact E1 rfl rfl Le.refl
def ovr (l:List Nat):Nat->List Nat
 | 0=>l
 | k+1=>(ovr l k).set k ((9000027+k)%65536)
theorem ovr_len {l:List Nat}: ∀{k:Nat},(ovr l k).length=l.length
 | 0=>rfl
 | k+1=>by rw [ovr,List.length_set,ovr_len]
theorem cutM2 {i:Nat}:IntKind.u16.wrap (1000003*(((2:Nat):Int)+7)+(i:Int))=(((9000027+i)%65536:Nat):Int):=by rw [mu16];omega
theorem c_mark2 (i:Nat) (hi:i < 100000000000000):Ct Tryz.prog 96 [tI 2,tI i] (tI (1000003*(((2:Nat):Int)+7)+(i:Int))):=c_markK 2 i (by decide) hi
theorem c_OverLimbsG (l:List Nat) (n:Nat) (hn:n+12<=l.length) (hb:n<=70368744175616):
  CtG Tryz.prog 156 [(1,⟨153,1,false,rW .u16 l⟩)] [.own (.sl 1 1 0 n)] (.val (tT [])) [(1,⟨153,1,false,rW .u16 (ovr l (n+12))⟩)] []:=by
 refine CtG.intro [1] Tryz.func156 rfl Tryz.ntmps156 rfl rfl ⟨⟨rfl,xd1⟩,trivial⟩ ?_
 intro w F η
 refine A4 ?_
 refine RE (d_capO Tryz.underlying23) qA qA trivial ?_
 refine A3 ?_
 refine R2 (d_minX (v:=((n+12:Nat):Int)) (fun q hq=>by rw [xj4] at hq;omega)) rfl rfl (RE (d_sliceOX sl23 (n+12) rfl (by rw [xj4];omega)) qB qA trivial ?_)
 refine A9 ?_
 refine cL (fun (i:Nat)=>i<=n+12) (fun (i:Nat)=>uV (uO uN 2 (.sl 1 1 0 (n+12))) 3 (tI i)) (fun (i:Nat)=>uK uN 1 153 1 false (rW .u16 (ovr l i))) [1] (fun (i:Nat)=>n+12 - i) (0) (Nat.zero_le _) (hh:=((SubK.consI rfl (ImpK.of rfl)) SubK.nil)) ?_
 intro i hI
 refine A9 ?_
 refine x6 rfl (fun h85=> ?_) (fun h85=> ?_)
 ·
  refine A8 ?_
  refine R2 (x3 (c_mark2 i (by omega)) fi96 rfl) rfl rfl (R1 (x5 Tryz.underlying153 (isS Tryz.underlying3) cutM2) rfl (R2 (xa2 sl23 (by omega) (by omega) rfl) rfl rfl (RE (xb8 (i) ti153 (xj0 (by rw [ovr_len];omega)) (by omega) (xh1 (m:=_) rfl)) qB qA trivial ?_)))
  refine A8 ?_
  exact kF (i+1) ⟨(by omega),(by omega)⟩ (hh:=((SubK.consI rfl (ImpK.of rfl)) SubK.nil))
 ·
  have him:i=n+12:=by omega
  subst him
  refine A4 ?_
  exact xj5 LentC.mk' rfl (.inr rfl) qA ⟨⟨rfl,xd1⟩,trivial⟩ rfl
theorem v_OverLimbs (V:VM) (n:Nat) (hb:n<=70368744175616):CtV Tryz.prog (XV 153 V) 156 [] [.val (tSlV V n)] 0 0:=by
 intro w η vs hvs _ _ hD hJ
 match vs,hvs with
 | [v],hvs=>
 obtain ⟨b,m,c,rfl,hV,hm⟩:=hvs.1
 have hJ:JV _ V w:=hJ
 obtain ⟨cs,h1,h2,h3,h4,h5⟩:=hJ b m c hV
 obtain ⟨xs,x1,x2⟩:=list_of (α:=Nat) (p:=fun i x=>cs[i]? =some (.int .u16 x)) m h5
 have hown: ∀b',OwnK (⟨fun _=>b,fun _=>c,fun _=>False⟩:Env) [(1,⟨153,1,false,rW .u16 xs⟩)] b'->b'=b:=by
  rintro b' ⟨x,hx,_,rfl⟩
  rfl
 refine (c_OverLimbsG xs n (by omega) hb (fun _=>False) w ⟨fun _=>b,fun _=>c,fun _=>False⟩ [.slice (some ⟨b,0,none⟩) n c] ⟨⟨_,rfl,?_,fun _=> ?_⟩,trivial⟩ ?_ ?_ (fun _ h=>h.elim)).mono ?_
 ·show 0+n<=c;omega
 ·simp
 ·intro x hx
  rw [List.mem_singleton] at hx
  subst hx
  refine ⟨by rw [xj4,x1];exact h3,(show 0 < 1 by decide),fun _=>rfl,h4,fun _=>⟨cs,h1,by rw [h2,Nat.mul_one],fun i e he=> ?_⟩⟩
  rw [rW,List.getElem?_map] at he
  obtain ⟨y,hy,rfl⟩:=Option.map_eq_some_iff.1 he
  show pick false 1 cs (i*1)=_
  have:=x2 i y hy
  rw [Nat.mul_one,pick,cond_false,Array.getD_eq_getD_getElem?,this];rfl
 ·intro x hx y hy hne
  rw [List.mem_singleton] at hx hy
  subst hx hy;exact absurd rfl hne
 ·rintro e w' ⟨u,η',rfl,ho⟩
  have hu:u= .tuple #[]:=by
   obtain ⟨us,e1,e2⟩:=ho.res
   cases us with
   | nil=>exact e1
   | cons _ _=>exact e2.elim
  have es:=ho.same 1 (by simp)
  refine ⟨by rw [hu],ho.stp.mono fun b' _ hb'=> .inr ?_,fun b' m' c' hV'=> ?_⟩
  ·rw [hown b' hb'];exact ⟨_,hV⟩
  ·by_cases hbb:b'=b
   ·subst hbb
    rw [hV] at hV'
    cases hV'
    have hk:=ho.keys _ (List.mem_singleton.2 rfl)
    obtain ⟨k1,k2,k3,k4,k5⟩:=hk
    have ec:η'.c 1=c:=es.2
    have eb:η'.b 1=b':=es.1
    simp only at k1 k4 k5
    rw [ec] at k1 k4 k5
    rw [eb] at k5
    rw [xj4,ovr_len,x1] at k1
    obtain ⟨cs',g1,g2,g3⟩:=k5 (by omega)
    refine ⟨cs',g1,by rw [g2,Nat.mul_one],h3,h4,fun i hi=> ?_⟩
    have:=g3 i _ (xn7 (by rw [ovr_len,x1];exact hi))
    have h0:pick false 1 cs' (i*1)= .int .u16 ((ovr xs (n+12)).getD i 0:Nat):=this
    rw [Nat.mul_one,pick,cond_false,Array.getD_eq_getD_getElem?] at h0
    cases hg:cs'[i]? with
    | none=>rw [Array.getElem?_eq_none_iff] at hg;rw [g2] at hg;omega
    | some z=>rw [hg] at h0;exact ⟨_,by rw [show z=_ from h0]⟩
   ·obtain ⟨cs0,z1,z2⟩:=hJ b' m' c' hV'
    exact ⟨cs0,(ho.stp.block b' (xa7 z1) fun h=>hbb (hown b' h)).trans z1,z2⟩
abbrev tWhV (V:VM) (x:Wh):Ty:=tS [⟨1,false,tB x.neg⟩,⟨1,false,tSlV V x.l.length⟩]
abbrev tFrV (V:VM) (f:Fr):Ty:=tS [⟨2,true,tWhV V f.n⟩,⟨2,true,tWhV V f.d⟩]
theorem free_wh {V:VM} {x:Wh}:Free (tWhV V x):=Free.S ⟨Free.E,free_tSlV,trivial⟩
theorem free_fr {V:VM} {f:Fr}:Free (tFrV V f):=Free.S ⟨free_wh,free_wh,trivial⟩
abbrev tEvV (V:VM) (e:Ev):Ty:=tEvG e (tFrV V e.part) (tFrV V e.pay)
theorem free_ev {V:VM} {e:Ev}:Free (tEvV V e):=Free.S ⟨Free.E,Free.E,Free.E,Free.E,Free.E,free_fr,free_fr,Free.E,trivial⟩
abbrev tEvVM (V:VM) (x:Ev×Bool):Ty:=cond x.2 (tEvV V x.1) (tEv x.1)
instance {V:VM} {x:Ev×Bool}:Shape (tEvVM V x) 14 true:=by
 obtain ⟨s,b⟩:=x
 cases b
 ·exact (inferInstance:Shape (tEv s) 14 true)
 ·exact (inferInstance:Shape (tEvV V s) 14 true)
theorem rowVE {V:VM} {l:List Ev} {m:List Ev} {i:Nat} (h:i < l.length):(rV (tEvVM V) (lmE l++mmE m))[i]? =some (.val (tEvV V (l.getD i ev0))):=by
 have:=xc4 (f:=tEvVM V) (xs:=lmE l++mmE m) (i:=i) (d:=em0) (by rw [List.length_append,xh9];omega)
 rw [lme_l h] at this;exact this
theorem v_OverWhole (V:VM) (x:Wh) (hb:x.l.length<=70368744175616):
  CtV Tryz.prog (XV 153 V) 104 [] [.val (tWhV V x)] 0 0:=by
 refine CtV.intro 99 [] Tryz.func104 rfl Tryz.ntmps104 rfl rfl trivial rfl ?_
 intro w η hV
 refine A8 ?_
 refine RE (xq5 hV (us:=[_]) (v_OverLimbs V _ hb) fi156 ⟨free_tSlV,trivial⟩ rfl) qA qA trivial ?_
 refine A1 ?_
 exact E_retV hV rfl (.inr rfl) rfl
theorem v_OverFrac (V:VM) (f:Fr) (h1:f.n.l.length<=70368744175616) (h2:f.d.l.length<=70368744175616):
  CtV Tryz.prog (XV 153 V) 67 [] [.val (tFrV V f)] 0 0:=by
 refine CtV.intro 99 [] Tryz.func67 rfl Tryz.ntmps67 rfl rfl trivial rfl ?_
 intro w η hV
 refine A9 ?_
 refine RE (xq5 hV (us:=[_]) (v_OverWhole V _ h1) fi104 ⟨free_wh,trivial⟩ rfl) qA qA trivial ?_
 refine A5 ?_
 refine RE (xq5 hV (us:=[_]) (v_OverWhole V _ h2) fi104 ⟨free_wh,trivial⟩ rfl) qA qA trivial ?_
 refine A1 ?_
 exact E_retV hV rfl (.inr rfl) rfl
theorem v_OverEvent (V:VM) (e:Ev) (h1:e.part.n.l.length<=70368744175616) (h2:e.part.d.l.length<=70368744175616) (h3:e.pay.n.l.length<=70368744175616) (h4:e.pay.d.l.length<=70368744175616):
  CtV Tryz.prog (XV 153 V) 27 [] [.val (tEvV V e)] 0 0:=by
 refine CtV.intro 99 [] Tryz.func27 rfl Tryz.ntmps27 rfl rfl trivial rfl ?_
 intro w η hV
 refine A9 ?_
 refine RE (xq5 hV (us:=[_]) (v_OverFrac V _ h1 h2) fi67 ⟨free_fr,trivial⟩ rfl) qA qA trivial ?_
 refine A5 ?_
 refine RE (xq5 hV (us:=[_]) (v_OverFrac V _ h3 h4) fi67 ⟨free_fr,trivial⟩ rfl) qA qA trivial ?_
 refine A1 ?_
 exact E_retV hV rfl (.inr rfl) rfl
theorem v_OverEvents (V:VM) (l:List Ev) (hl:l.length<=799644820177) (hs: ∀e∈l,(e.part.n.l.length<=70368744175616/\e.part.d.l.length<=70368744175616)/\e.pay.n.l.length<=70368744175616/\e.pay.d.l.length<=70368744175616):
  CtV Tryz.prog (XV 153 V) 26 [(1,⟨29,14,true,rV (tEvVM V) (lmE l++mmE mkE)⟩)] [.own (.sl 1 14 0 l.length)] 0 0:=by
 have hml:(lmE l++mmE mkE).length=l.length+12:=by rw [List.length_append,xh9,xr8,xm0]
 refine CtV.intro 99 [1] Tryz.func26 rfl Tryz.ntmps26 rfl rfl ⟨⟨rfl,xa5⟩,trivial⟩ rfl ?_
 intro w η hV
 refine A7 ?_
 refine cL (fun (i:Nat)=>i<=l.length) (fun (i:Nat)=>uV (uO uN 0 (.sl 1 14 0 l.length)) 2 (tI i)) (fun (i:Nat)=>uK (uK uN 1 29 14 true (rV (tEvVM V) (lmE l++mmE mkE))) 99 0 1 false []) [1,99] (fun (i:Nat)=>l.length - i) (0) (Nat.zero_le _) ?_
 intro i hI
 refine A9 ?_
 refine x6 rfl (fun h853=> ?_) (fun h853=> ?_)
 ·
  refine A7 ?_
  refine R2 (xa2 sl22 (by omega) (by omega) rfl) rfl rfl (RE (xc1 (i) ti29 (rowVE (by omega)) (by omega)) qA qA trivial (RE (xq5 hV (us:=[_]) (v_OverEvent V (l.getD i ev0) (hs _ (xe8 (l:=l) (by omega))).1.1 (hs _ (xe8 (l:=l) (by omega))).1.2 (hs _ (xe8 (l:=l) (by omega))).2.1 (hs _ (xe8 (l:=l) (by omega))).2.2) fi27 ⟨free_ev,trivial⟩ rfl) qA qA trivial ?_))
  refine A8 ?_
  exact kF (i+1) ⟨(by omega),(by omega)⟩
 ·
  refine A9 ?_
  refine RE (d_capO Tryz.underlying22) qA qA trivial ?_
  refine A3 ?_
  refine R2 (d_minX (v:=((l.length+12:Nat):Int)) (fun q hq=>by rw [xd2,hml] at hq;omega)) rfl rfl (RE (d_sliceOX sl22 (l.length+12) rfl (by have:=hml;rw [xd2];omega)) qB qA trivial ?_)
  refine A9 ?_
  refine cL (fun (fm:(Nat)×(List (Ev×Bool)))=>(fun (i:Nat) (xs:List (Ev×Bool))=>i<=l.length+12/\xs.length=l.length+12) fm.1 fm.2) (wB fun (i:Nat) (xs:List (Ev×Bool))=>uV (uO uN 3 (.sl 1 14 0 (l.length+12))) 4 (tI i)) (wB fun (i:Nat) (xs:List (Ev×Bool))=>uK (uK uN 1 29 14 true (rV (tEvVM V) xs)) 99 0 1 false []) [1,99] (fun (fm:(Nat)×(List (Ev×Bool)))=>(fun (i:Nat) (xs:List (Ev×Bool))=>l.length+12 - i) fm.1 fm.2) ((0,(lmE l++mmE mkE))) (by dsimp only;exact ⟨Nat.zero_le _,hml⟩) ?_
  intro fm hI
  obtain ⟨i,xs⟩:=fm
  replace hI:i<=l.length+12/\xs.length=l.length+12:=hI
  show wc _ _ _ _ (uV (uO uN 3 (.sl 1 14 0 (l.length+12))) 4 (tI i)) (uK (uK uN 1 29 14 true (rV (tEvVM V) xs)) 99 0 1 false []) _
  obtain ⟨hi,hxl⟩:=hI
  refine A9 ?_
  refine x6 rfl (fun h857=> ?_) (fun h857=> ?_)
  ·
   refine A8 ?_
   refine R2 (x3 (c_markEvent1 2 i (by decide) (by omega)) fi61 rfl) rfl rfl (R2 (xa2 sl22 (by omega) (by omega) rfl) rfl rfl (RE (xb8 (e:= .val (tEv (emk 2 i))) (i) ti29 (rV_lt (f:=tEvVM V) (xs:=xs) (by omega)) (by omega) (xi3 (f:=tEvVM V) (xs:=xs) (t:=tEv (emk 2 i)) (m:=(emk 2 i,false)) rfl)) qB qA trivial ?_))
   refine A8 ?_
   exact kF ((i+1,xs.set i (emk 2 i,false))) ⟨(by dsimp only;exact ⟨by omega,by rw [List.length_set];exact hxl⟩),(by dsimp only;omega)⟩
  ·
   refine A4 ?_
   exact E_retV hV rfl (.inr rfl) rfl
end An.S
namespace An
open Go
section
variable {P:Program} {c:Base} {d ty:Nat} {pos:String} {af:Array Edge} {gd:Option (Nat×Bool)}
theorem d_assignSG {x:Operand} {k T es off len:Nat} {agg:Bool} {ts:List Ent} {α:Type} {f:α->Ty} {xs:List α} (G:Dom) (hG: ∀b,c.w0.heap.size<=b->G b) (hfr: ∀x,Le (f x) (tG G (f x))) (hlb:NoLb c) (hts:(ts.drop off).take len=xs.map fun x=> .val (f x)) (hl:xs.length=len):
  Does P c ⟨some d,.assign x,ty,pos,af,gd⟩ ⟨[(x,.own (.sl k es off len))],[(k,⟨T,es,agg,ts⟩)],some (d,some (.val (tG G (tL es agg f xs)))),[(k,none)],[]⟩:=
 Does.give rfl fun g h al a w η hr hk s=>⟨a.eval x,by simp [execOp,go_sem],by
  have hv:=(xa0 s hr.1).1
  have hp:=s.give hk hlb hts hl hv
  obtain ⟨A,cc,h1,h2,h3,h4⟩:=hp
  refine ⟨A,cc,h1,h2,h3,?_⟩
  cases xs with
  | nil=>exact .inl rfl
  | cons x0 xr=>
   rcases h4 with h4 | ⟨b,o,e,hb,hx⟩
   ·cases h4
   ·obtain ⟨A',e1,e2,e3⟩:=hv
    have hlen:0 < len:=by rw [<-hl];simp
    have hc:0 < η.c k:=by omega
    have hb0:=((s.key k _ hk).2.2.2 hc).1.resolve_right (hlb _)
    have e4:=e3 (by omega)
    rw [h1] at e1
    have e1:A=A':=by injection e1
    rw [<-e1,e] at e4
    have eb:b=η.b k:=by injection e4 with e4;injection e4
    refine .inr ⟨b,o,e,⟨hb,hG b (by rw [eb];exact hb0)⟩,fun i y hi=> ?_⟩
    obtain ⟨u,hm,hu⟩:=hx i y hi
    exact ⟨u,hm,hfr y _ _ _ hu⟩⟩
end
end An
namespace An.S
open Go Go.Proofs An
def Trs (F F':Dom) (w w':World):List Fd->List Fd->Prop
 | [],[]=>True
 | f::r,g::s=>(f.n=g.n/\f.agg=g.agg/\ ∀v,f.t.p F w v->g.t.p F' w' v)/\Trs F F' w w' r s
 | _,_=>False
theorem Trs.sum {F F':Dom} {w w':World}: ∀{fs gs:List Fd},Trs F F' w w' fs gs->Fd.sum fs=Fd.sum gs
 | [],[],_=>rfl
 | _::_,_::_,h=>by rw [Fd.sum,Fd.sum,h.1.1,Trs.sum h.2]
 | [],_::_,h=>h.elim
 | _::_,[],h=>h.elim
theorem Trs.all {F F':Dom} {w w':World} {cs:Array Value}: ∀{fs gs:List Fd} {o:Nat},Trs F F' w w' fs gs->Fd.all F w cs o fs->Fd.all F' w' cs o gs
 | [],[],_,_,_=>trivial
 | f::r,g::s,o,h,ha=>by
  obtain ⟨⟨h1,h2,h3⟩,h4⟩:=h
  refine ⟨⟨by rw [<-h1,<-h2];exact ha.1.1,by rw [<-h1,<-h2];exact h3 _ ha.1.2⟩,?_⟩
  rw [<-h1];exact Trs.all h4 ha.2
 | [],_::_,_,h,_=>h.elim
 | _::_,[],_,h,_=>h.elim
theorem Trs.S {F F':Dom} {w w':World} {fs gs:List Fd} (h:Trs F F' w w' fs gs): ∀v,(tS fs).p F w v->(tS gs).p F' w' v:=fun _ ⟨cs,h1,h2,h3⟩=>⟨cs,h1,h2.trans h.sum,h.all h3⟩
theorem lmW_V {L F:Dom} {w1 w:World} {l:List Nat} (v:Value) (h:(tLmW l).p L w1 v):(tSlV (vOf 153 L w1) l.length).p F w v:=by
 obtain ⟨b,c,cs,h1,hF,hh,h2,h3,h4,h5,h6,hx⟩:=h
 rw [Nat.mul_one] at h2
 obtain ⟨m,hm,hle⟩:=vOf_mk (n:=l.length+12) hF hh (by omega) (fun i hi=>by
  have hlt:i < (l++mk16).length:=by rw [List.length_append,mk16_len];omega
  have:=hx i _ (List.getElem?_eq_getElem hlt)
  have h0:pick false 1 cs (i*1)= .int .u16 (((l++mk16)[i]:Nat):Int):=this
  rw [Nat.mul_one,pick,cond_false,Array.getD_eq_getD_getElem?] at h0
  rw [mk16_len] at h5
  cases hg:cs[i]? with
  | none=>rw [Array.getElem?_eq_none_iff] at hg;omega
  | some z=>rw [hg] at h0;exact ⟨_,by rw [show z=_ from h0]⟩)
 exact ⟨b,m,cs.size,by rw [h1,h2],hm,hle⟩
theorem whW_V {L F:Dom} {w1 w:World} {x:Wh}: ∀v,(tWhW x).p L w1 v->(tWhV (vOf 153 L w1) x).p F w v:=Trs.S ⟨⟨rfl,rfl,fun _ h=>h⟩,⟨rfl,rfl,lmW_V⟩,trivial⟩
theorem frW_V {L F:Dom} {w1 w:World} {f:Fr}: ∀v,(tFrW f).p L w1 v->(tFrV (vOf 153 L w1) f).p F w v:=Trs.S ⟨⟨rfl,rfl,whW_V⟩,⟨rfl,rfl,whW_V⟩,trivial⟩
theorem evW_V {L F:Dom} {w1 w:World} {e:Ev}: ∀v,(tEvW e).p L w1 v->(tEvV (vOf 153 L w1) e).p F w v:=Trs.S ⟨⟨rfl,rfl,fun _ h=>h⟩,⟨rfl,rfl,fun _ h=>h⟩,⟨rfl,rfl,fun _ h=>h⟩,⟨rfl,rfl,fun _ h=>h⟩,⟨rfl,rfl,fun _ h=>h⟩,⟨rfl,rfl,frW_V⟩,⟨rfl,rfl,frW_V⟩,⟨rfl,rfl,fun _ h=>h⟩,trivial⟩
theorem Free.nil {α:Type} {es:Nat} {agg:Bool} {f:α->Ty}:Free (tL es agg f []):=fun _ _ _ _ _ ⟨A,c,h1,h2,h3,_⟩=>⟨A,c,h1,h2,h3,.inl rfl⟩
theorem free_emk {k i:Nat}:Free (tEv (emk k i)):=Free.S ⟨Free.E,Free.E,Free.E,Free.E,Free.E,Free.S ⟨Free.S ⟨Free.E,Free.nil,trivial⟩,Free.S ⟨Free.E,Free.nil,trivial⟩,trivial⟩,Free.S ⟨Free.S ⟨Free.E,Free.nil,trivial⟩,Free.S ⟨Free.E,Free.nil,trivial⟩,trivial⟩,Free.E,trivial⟩
theorem lme_mem {l:List Ev} {i:Nat} {x:Ev×Bool} (h:(lmE l++mmE mkE)[i]? =some x):x.2=true∨ ∃j,x=(emk 1 j,false):=by
 have hm:=List.mem_of_getElem? h
 rcases List.mem_append.1 hm with h1 | h1
 ·obtain ⟨s,_,rfl⟩:=List.mem_map.1 h1;exact .inl rfl
 ·obtain ⟨s,hs,rfl⟩:=List.mem_map.1 h1
  obtain ⟨j,_,rfl⟩:=List.mem_map.1 hs
  exact .inr ⟨j,rfl⟩
theorem evM_V {L F:Dom} {w1 w:World} {x:Ev×Bool} (hx:x.2=true∨ ∃j,x=(emk 1 j,false)) {v:Value} (h:(tEvM x).p L w1 v):(tEvVM (vOf 153 L w1) x).p F w v:=by
 rcases hx with hx | ⟨j,rfl⟩
 ·obtain ⟨s,b⟩:=x
  have hx:b=true:=hx
  subst hx;exact evW_V v h
 ·exact free_emk _ _ _ _ _ h
theorem v_OverEventsL (L:Dom) (w1:World) (l:List Ev) (hl:l.length<=799644820177) (hs: ∀e∈l,(e.part.n.l.length<=70368744175616/\e.part.d.l.length<=70368744175616)/\e.pay.n.l.length<=70368744175616/\e.pay.d.l.length<=70368744175616) (v:Value) (hv:(tEsW l).p L w1 v):CtV Tryz.prog (XL 153 L w1) 26 [] [.val (tE v)] 0 1:=by
 intro w η vs hvs _ _ hD hJ
 match vs,hvs with
 | [u],hvs=>
 have hu:u=v:=hvs.1
 subst hu
 obtain ⟨b,c,cs,e,hLb,hh,h2,h3,h4,h5,h6,hx⟩:=hv
 have hJ:(∀_:0=0,∀b,L b->w.heap[b]? =w1.heap[b]?)/\_:=hJ
 have hw:=(hJ.1 rfl b hLb).trans hh
 rw [xh9,xr8,xm0] at h5
 rw [xh9] at e
 have hown: ∀b',OwnK (⟨fun _=>b,fun _=>c,fun _=>False⟩:Env) [(1,⟨29,14,true,rV (tEvVM (vOf 153 (fun b'=>L b'/\b'≠b) w1)) (lmE l++mmE mkE)⟩)] b'->b'=b:=by
  rintro b' ⟨x,hx,_,rfl⟩
  rfl
 refine (v_OverEvents (vOf 153 (fun b'=>L b'/\b'≠b) w1) l hl hs w ⟨fun _=>b,fun _=>c,fun _=>False⟩ [u] ⟨⟨_,e,?_,fun _=> ?_⟩,trivial⟩ ?_ ?_ (fun b' hb'=> ?_) (vOf_JV fun b' hb=>hJ.1 rfl b' hb.1)).mono ?_
 ·show 0+l.length<=c;omega
 ·simp
 ·intro y hy
  rw [List.mem_singleton] at hy
  subst hy
  refine ⟨by rw [xd2,List.length_append,xh9,xr8,xm0];exact h5,h3,h4,h6,fun _=>⟨cs,hw,h2,fun i ent he=> ?_⟩⟩
  rw [rV,List.getElem?_map] at he
  obtain ⟨y,hy,rfl⟩:=Option.map_eq_some_iff.1 he
  exact evM_V (lme_mem hy) (hx i y hy)
 ·intro x hx y hy hne
  rw [List.mem_singleton] at hx hy
  subst hx hy;exact absurd rfl hne
 ·obtain ⟨x,hxb⟩:=hb'
  have h7:=(xp8 (m:=x.1) (c:=x.2) hxb).1
  exact ⟨(hD b' h7.1).1,fun ho=>h7.2 (hown b' ho)⟩
 ·rintro e' w' ⟨r1,r2,r3⟩
  refine ⟨r1,r2.mono fun b' _ hb'=> .inr ?_,fun h=>(by cases h),fun _ b' m c' hV=> ?_,fun b' hb'=>Nat.lt_of_lt_of_le (hD b' hb').1 r2.size⟩
  ·rcases hb' with hb' | ⟨x,hxb⟩
   ·rw [hown b' hb'];exact hLb
   ·exact (xp8 (m:=x.1) (c:=x.2) hxb).1.1
  ·obtain ⟨k1,cs1,k2,_⟩:=xp8 hV
   have hne:b'≠b:=by
    rintro rfl
    rw [hh] at k2
    have k3:(29:Nat)=153:=by injection k2 with k2;injection k2
    exact absurd k3 (by decide)
   refine r3 b' m c' ?_
   rw [<-hV];unfold vOf;rw [if_pos k1,if_pos ⟨k1,hne⟩]
theorem v_OverEventL (L:Dom) (w1:World) (e:Ev) (h1:e.part.n.l.length<=70368744175616) (h2:e.part.d.l.length<=70368744175616) (h3:e.pay.n.l.length<=70368744175616) (h4:e.pay.d.l.length<=70368744175616) (v:Value) (hv:(tEvW e).p L w1 v):CtV Tryz.prog (XL 153 L w1) 27 [] [.val (tE v)] 1 1:=by
 intro w η vs hvs _ _ hD hJ
 match vs,hvs with
 | [u],hvs=>
 have hu:u=v:=hvs.1
 subst hu
 have hJ1:JV 153 (vOf 153 L w1) w:=hJ.2.1 rfl
 refine (v_OverEvent (vOf 153 L w1) e h1 h2 h3 h4 w η [u] ⟨evW_V u hv,trivial⟩ (fun _ h=>(by cases h)) (fun _ h=>(by cases h)) (fun b' hb'=> ?_) hJ1).mono ?_
 ·obtain ⟨x,hxb⟩:=hb'
  exact hD b' (xp8 (m:=x.1) (c:=x.2) hxb).1
 ·rintro e' w' ⟨r1,r2,r3⟩
  refine ⟨r1,r2.mono fun b' _ hb'=> ?_,fun h=>(by cases h),fun _=>r3,fun b' hb'=>Nat.lt_of_lt_of_le (hD b' hb').1 r2.size⟩
  rcases hb' with hb' | ⟨x,hxb⟩
  ·exact .inl hb'
  ·exact .inr (xp8 (m:=x.1) (c:=x.2) hxb).1
instance fi63:FnI Tryz.prog 63:=⟨_,Tryz.func63,by kernel_rfl,rfl⟩
abbrev tFrG (f:Fr) (a b:Ty):Ty:=tS [⟨2,true,tS [⟨1,false,tB f.n.neg⟩,⟨1,false,a⟩]⟩,⟨2,true,tS [⟨1,false,tB f.d.neg⟩,⟨1,false,b⟩]⟩]
theorem upGN (f:Fr) {a a' b:Ty} [Shape a' 1 false] [Shape b 1 false]:Up (tFrG f a b) (0+1) 1 false a' (tFrG f a' b):=Up.t (t1:=tS [⟨1,false,tB f.n.neg⟩,⟨1,false,a⟩]) (t1':=tS [⟨1,false,tB f.n.neg⟩,⟨1,false,a'⟩]) (At.g 0 rfl rfl) (Up.f (f:=⟨2,true,tS [⟨1,false,tB f.n.neg⟩,⟨1,false,a⟩]⟩) 0 rfl rfl rfl) (Up.f (f:=⟨1,false,a⟩) 1 rfl rfl rfl)
theorem upGD (f:Fr) {a b b':Ty} [Shape a 1 false] [Shape b' 1 false]:Up (tFrG f a b) (2+1) 1 false b' (tFrG f a b'):=Up.t (t1:=tS [⟨1,false,tB f.d.neg⟩,⟨1,false,b⟩]) (t1':=tS [⟨1,false,tB f.d.neg⟩,⟨1,false,b'⟩]) (At.g 1 rfl rfl) (Up.f (f:=⟨2,true,tS [⟨1,false,tB f.d.neg⟩,⟨1,false,b⟩]⟩) 1 rfl rfl rfl) (Up.f (f:=⟨1,false,b⟩) 1 rfl rfl rfl)
theorem frGN {G:Dom} {f:Fr}:Le (tFrG f (tG G (tLm f.n.l)) (tG G (tLm f.d.l))) (tG G (tFr f)):=leG_S ⟨⟨rfl,rfl,leG_S ⟨⟨rfl,rfl,tG_E⟩,⟨rfl,rfl,Le.refl⟩,trivial⟩⟩,⟨rfl,rfl,leG_S ⟨⟨rfl,rfl,tG_E⟩,⟨rfl,rfl,Le.refl⟩,trivial⟩⟩,trivial⟩
abbrev tEvY (G:Dom) (e:Ev):Ty:=tEvG e (tG G (tFr e.part)) (tG G (tFr e.pay))
abbrev tEvF (G:Dom) (x:Ev×Bool):Ty:=cond x.2 (tEvY G x.1) (tEv x.1)
instance {G:Dom} {x:Ev×Bool}:Shape (tEvF G x) 14 true:=by
 obtain ⟨s,b⟩:=x
 cases b
 ·exact (inferInstance:Shape (tEv s) 14 true)
 ·exact (inferInstance:Shape (tEvY G s) 14 true)
theorem evY_N {G:Dom} {e:Ev}:Le (tEvY G e) (tG G (tEvY G e)):=Le.trans (evG_le tG_idem tG_idem) evGN
theorem evY_le {G:Dom} {e:Ev}:Le (tEvY G e) (tEv e):=evG_le tG_le tG_le
def mrk (l:List Ev) (i:Nat):List (Ev×Bool):=(l.take i).map (·,true)++(l.drop i).map (·,false)
theorem mrk_at {l:List Ev} {i:Nat} (h:i < l.length):(mrk l i)[i]? =some (l.getD i ev0,false):=by
 rw [mrk,List.getElem?_append_right (by rw [List.length_map,List.length_take];omega),List.length_map,List.length_take,show i - min i l.length=0 by omega,List.getElem?_map,List.getElem?_drop,List.getD_eq_getElem?_getD,Nat.add_zero,List.getElem?_eq_getElem h];rfl
theorem mrk_set {l:List Ev} {i:Nat} (h:i < l.length):(mrk l i).set i (l.getD i ev0,true)=mrk l (i+1):=by
 have h1:((l.take i).map fun x=>(x,true)).length=i:=by rw [List.length_map,List.length_take];omega
 rw [mrk,List.set_append_right _ _ (by rw [h1];exact Nat.le_refl _),h1,Nat.sub_self,List.drop_eq_getElem_cons h,List.map_cons,List.set_cons_zero,mrk,List.take_succ_eq_append_getElem h,List.map_append,List.append_assoc,List.getD_eq_getElem?_getD,List.getElem?_eq_getElem h];rfl
theorem mrk_0 {G:Dom} {l:List Ev}:rV (tEvF G) (mrk l 0)=rV tEv l:=by
 rw [mrk,List.take_zero,List.drop_zero,List.map_nil,List.nil_append,rV,rV,List.map_map];rfl
theorem mrk_n {G:Dom} {l:List Ev} {i:Nat} (h:i=l.length):((rV (tEvF G) (mrk l i)).drop 0).take i=l.map fun e=> .val (tEvY G e):=by
 subst h
 rw [mrk,List.take_length,List.drop_length,List.map_nil,List.append_nil,rV,List.map_map,List.drop_zero,List.take_of_length_le (by rw [List.length_map];exact Nat.le_refl _)];rfl
theorem mrkA {G:Dom} {l:List Ev} {i:Nat} (h:i < l.length):(rV (tEvF G) (mrk l i))[i]? =some (.val (tEv (l.getD i ev0))):=by rw [rV,List.getElem?_map,mrk_at h];rfl
theorem mrkB {G:Dom} {l:List Ev} {i:Nat} {t:Ent} (h:i < l.length):((rV (tEvF G) (mrk l i)).set i t)[i]? =some t:=List.getElem?_set_self (List.getElem?_eq_some_iff.1 (mrkA h)).1
theorem mrkC {G:Dom} {l:List Ev} {i:Nat} {t:Ent} (h:i < l.length):((rV (tEvF G) (mrk l i)).set i t).set i (.val (tEvY G (l.getD i ev0)))=rV (tEvF G) (mrk l (i+1)):=by
 rw [List.set_set,<-mrk_set h];exact xi3 rfl
def addO (l:List Ev) (x:Ev):List Ev:=if eVal l=true/\l.length < 100/\eVal (l++[x])=true then l++[x] else []
def addE (l:List Ev) (x:Ev):Int:=if eVal l=false then 2 else if 100<=l.length then 4 else if eVal (l++[x])=true then 0 else 2
theorem eVal_part {l:List Ev} {x:Ev} {i:Nat} (h:eVal (l++[x])=true) (hi:i < (l++[x]).length):eFrc (uPart ((l++[x]).getD i ev0).knd) ((l++[x]).getD i ev0).part=true/\eFrc (uPay ((l++[x]).getD i ev0).knd) ((l++[x]).getD i ev0).pay=true:=by
 rw [eVal,Bool.and_eq_true,List.all_eq_true] at h
 have h1:=h.2 i (List.mem_range.2 hi)
 rw [eRight,Bool.and_eq_true,xOk] at h1
 simp only [Bool.and_eq_true] at h1
 exact ⟨h1.1.1.1.2,h1.1.1.2⟩
theorem c_copyFracN (f:Fr) (h1:f.n.l.length<=1000000) (h2:f.d.l.length<=1000000):
  CtN Tryz.prog 63 [tFr f] (fun nw=>tG (up nw) (tFr f)):=by
 refine CtN.intro Tryz.func63 rfl Tryz.ntmps63 rfl ?_
 intro w F
 refine A3 ?_
 refine RE (x7 (k:=2) (n:=4) (agg:=true) zr27.1 zr27.2 rfl) trivial trivial qA ?_
 refine A6 ?_
 refine xe1 (0) ti23 rfl rfl rfl (At.t (At.g 0 rfl rfl) (At.g 1 rfl rfl)) rfl (R1 (xj1 (ts:=[_]) (r:=tG (up w.heap.size) _) (CtN.ofG (c_clone16 _ h1) rfl fun _=>Free.E) fi98 (fun m hm=>tG_up hm) ⟨Le.refl,trivial⟩ rfl) rfl ?_)
 refine A2 ?_
 refine RE (xj2 (k:=1) (T0:=27) (es:=4) (ts:=[.val (tFrG f (tLm f.n.l) (tLm f.d.l))]) (0) ti23 rfl (upGN f (a':=tG (up w.heap.size) (tLm f.n.l))) rfl rfl) qB qA trivial ?_
 refine A6 ?_
 refine xe1 (0) ti23 rfl rfl rfl (At.t (At.g 1 rfl rfl) (At.g 1 rfl rfl)) rfl (R1 (xj1 (ts:=[_]) (r:=tG (up w.heap.size) _) (CtN.ofG (c_clone16 _ h2) rfl fun _=>Free.E) fi98 (fun m hm=>tG_up hm) ⟨Le.refl,trivial⟩ rfl) rfl ?_)
 refine A2 ?_
 refine RE (xj2 (k:=1) (T0:=27) (es:=4) (ts:=[.val (tFrG f (tG (up w.heap.size) (tLm f.n.l)) (tLm f.d.l))]) (0) ti23 rfl (upGD f (b':=tG (up w.heap.size) (tLm f.d.l))) rfl rfl) qB qA trivial ?_
 refine A9 ?_
 exact EC rfl ⟨_,_,_,_,_,rfl,rfl,ti27,frGN⟩
theorem fr_len2N {u:Bool} {f:Fr} (h:eFrc u f=true):f.n.l.length<=1000000/\f.d.l.length<=1000000:=by
 cases u with
 | true=>
  rw [eFrc,if_pos rfl,eExact,Bool.and_eq_true,Bool.and_eq_true,Bool.and_eq_true,decide_eq_true_eq,decide_eq_true_eq] at h
  omega
 | false=>
  rw [eFrc,if_neg (by decide),eBlank,Bool.and_eq_true,Bool.and_eq_true,Bool.and_eq_true,decide_eq_true_eq,decide_eq_true_eq] at h
  omega
theorem c_AddN (l:List Ev) (x:Ev) (hD: ∀e∈l,e.part.dig/\e.pay.dig) (hx:x.part.dig/\x.pay.dig):
  CtN Tryz.prog 21 [tL 14 true tEv l,tEv x] (fun nw=>tT [tG (up nw) (tL 14 true tEv (addO l x)),tI (addE l x)]):=by
 have hlx:(l++[x]).length=l.length+1:=by rw [List.length_append];rfl
 have hDx: ∀e∈l++[x],e.part.dig/\e.pay.dig:=fun e he=>by
  rcases List.mem_append.1 he with h | h
  ·exact hD e h
  ·rw [List.mem_singleton.1 h];exact hx
 refine CtN.intro Tryz.func21 rfl Tryz.ntmps21 rfl ?_
 intro w F
 refine xg9 (s:=0) rfl (fun hl0=> ?_)
 refine A11 ?_
 refine R1 (x3 (c_EValid l hD) fi11 rfl) rfl ?_
 refine A3 ?_
 refine xc2 rfl (fun h106=> ?_) (fun h106=> ?_)
 ·
  refine A8 ?_
  exact E2 rfl rfl rfl (leNilG (by rw [addO,if_neg (fun hh=>by simp [hh.1] at h106)])) (Le.int (by rw [addE,if_pos (by simpa using h106)]))
 ·
  have hvl:eVal l=true:=by simpa using h106
  refine A10 ?_
  refine x6 rfl (fun h109=> ?_) (fun h109=> ?_)
  ·
   refine A8 ?_
   exact E2 rfl rfl rfl (leNilG (by rw [addO,if_neg (fun hh=>by omega)])) (Le.int (by rw [addE,if_neg (by rw [hvl];decide),if_pos (by omega)]))
  ·
   refine A7 ?_
   refine RE (xg0 (k:=17) (ts:=[]) 0 (l.length+1) Tryz.underlying22 el29 zr29.2 rfl rfl (by omega) (Nat.zero_le _) (by omega) (by omega) rfl) qB trivial qA ?_
   refine A7 ?_
   refine RE (xb3 (k:=17) (k':=20) (f:=tEv) (ys:=l) (ts':=rV tEv l) Tryz.underlying22 el29 zf29 rfl rfl (fun _=>inferInstance) rfl (by simp;omega) (by simp;omega) (by simp [rV]) (n':=l.length) (by simp)) ⟨rfl,rfl,trivial⟩ ⟨rfl,trivial⟩ ⟨rfl,trivial⟩ ?_
   refine A1 ?_
   refine R1 (xb5 (n:=1) (f:=tEv) [x] Tryz.underlying22 el29 zf29 rfl (fun _=>inferInstance) rfl rfl rfl) rfl (RE (xk5 (k:=20) (k':=23) (f:=tEv) l x Tryz.underlying22 el29 zf29 rfl rfl (fun _=>inferInstance) rfl ⟨by omega,by omega⟩ rfl) qB qA qA ?_)
   refine A7 ?_
   refine RE (d_callR 23 29 14 (l.length+1) [.own (.sl 23 14 0 (l.length+1))] (fun _ _ _ _ h=>h) (c_EValid _ hDx) fi11 (fun _ h=>h) (xg2 hlx) hlx ⟨.inr ⟨rfl,rfl⟩,trivial⟩ rfl) qA qA trivial ?_
   refine A3 ?_
   refine xc2 rfl (fun h114=> ?_) (fun h114=> ?_)
   ·
    refine A8 ?_
    exact E2 rfl rfl rfl (leNilG (by rw [addO,if_neg (fun hh=>by simp [hh.2.2] at h114)])) (Le.int (by rw [addE,if_neg (by rw [hvl];decide),if_neg (by omega),if_neg (fun hh=>by simp [hh] at h114)]))
   ·
    have hvx:eVal (l++[x])=true:=by simpa using h114
    refine A11 ?_
    refine cL (fun (i:Nat)=>i<=l.length+1) (fun (i:Nat)=>uV (uV (uO (uO uN 6 (.sl 23 14 0 (l.length+1))) 27 (.sl 23 14 0 (l.length+1))) 28 (tI ((l.length+1:Nat):Int))) 29 (tI i)) (fun (i:Nat)=>uK uN 23 29 14 true (rV (tEvF (up w.heap.size)) (mrk (l++[x]) i))) [23] (fun (i:Nat)=>l.length+1 - i) (0) (Nat.zero_le _) (hh:=((SubK.consI rfl (ImpK.of (by rw [mrk_0]))) SubK.nil)) ?_
    intro i hI
    have hev:=fun hh=>eVal_part (l:=l) (x:=x) (i:=i) hvx hh
    refine A6 ?_
    refine x6 rfl (fun h117=> ?_) (fun h117=> ?_)
    ·
     refine A11 ?_
     have hev:=hev (by omega)
     refine A5 ?_
     refine R2 (xa2 sl22 (by omega) (by omega) rfl) rfl rfl ?_
     refine A1 ?_
     refine RE (xj6 (es:=14) (o:=5) (i) ti27 (mrkA (by rw [hlx];omega)) (At.g 5 rfl rfl) (by omega)) qA qA trivial (R1 (xj1 (ts:=[_]) (r:=tG (up w.heap.size) _) (c_copyFracN _ (fr_len2N (hev.1)).1 (fr_len2N (hev.1)).2) fi63 (fun m hm=>tG_up hm) ⟨Le.refl,trivial⟩ rfl) rfl (R2 (xa2 sl22 (by omega) (by omega) rfl) rfl rfl ?_))
     refine A1 ?_
     refine RE (xj2 (es:=14) (o:=5) (t':=tG (up w.heap.size) (tFr ((l++[x]).getD i ev0).part)) (t2:=(tEvG ((l++[x]).getD i ev0) (tG (up w.heap.size) (tFr ((l++[x]).getD i ev0).part)) (tFr ((l++[x]).getD i ev0).pay))) (i) ti27 (mrkA (by rw [hlx];omega)) (Up.g 5 rfl rfl rfl) (by omega) rfl) qB qA trivial ?_
     refine A7 ?_
     refine R2 (xa2 sl22 (by omega) (by omega) rfl) rfl rfl ?_
     refine A1 ?_
     refine RE (xj6 (es:=14) (o:=9) (i) ti27 (mrkB (by rw [hlx];omega)) (At.g 6 rfl rfl) (by omega)) qA qA trivial (R1 (xj1 (ts:=[_]) (r:=tG (up w.heap.size) _) (c_copyFracN _ (fr_len2N (hev.2)).1 (fr_len2N (hev.2)).2) fi63 (fun m hm=>tG_up hm) ⟨Le.refl,trivial⟩ rfl) rfl (R2 (xa2 sl22 (by omega) (by omega) rfl) rfl rfl ?_))
     refine A1 ?_
     refine RE (xj2 (es:=14) (o:=9) (t':=tG (up w.heap.size) (tFr ((l++[x]).getD i ev0).pay)) (t2:=tEvY (up w.heap.size) ((l++[x]).getD i ev0)) (i) ti27 (mrkB (by rw [hlx];omega)) (Up.g 6 rfl rfl rfl) (by omega) (mrkC (by rw [hlx];omega))) qB qA trivial ?_
     refine A7 ?_
     exact kF (i+1) ⟨(by omega),(by omega)⟩ (hh:=((SubK.consI rfl (ImpK.of rfl)) SubK.nil))
    ·
     refine A8 ?_
     refine RE (d_assignSG (f:=tEvY (up w.heap.size)) (xs:=(l++[x])) (up w.heap.size) (fun _ h=>h) (fun _=>evY_N) (fun _ h=>h) (by rw [show l.length+1=i by omega];exact mrk_n (by rw [hlx];omega)) hlx) qA qA trivial ?_
     refine A4 ?_
     exact E2 rfl rfl rfl (by rw [addO,if_pos ⟨hvl,by omega,hvx⟩];exact tG_mono (le_L fun _=>evY_le)) (Le.int (by rw [addE,if_neg (by rw [hvl];decide),if_neg (by omega),if_pos hvx]))
end An.S
namespace An
open Go
def ePart (f:Fr):Bool:=eExact f && !decide (1 < f.rat)
def RB (e:Ev):Bool:=if e.knd=1 then ePart e.part && eExact e.pay else if e.knd=3 then ePart e.part && eBlank e.pay else if e.knd=4 then eBlank e.part && eExact e.pay else if e.knd=6 then eExact e.part && eBlank e.pay else eBlank e.part && eBlank e.pay
abbrev RN (e:Ev):Prop:=(e.nr=0/\0<=e.day/\e.day < 65536)/\(e.knd=6∨(1<=e.job/\e.job<=8))/\(e.knd≠6∨e.job=0)/\((e.knd≠3/\e.knd≠5)∨(e.day < e.hi/\e.hi<=65536))/\((e.knd=3∨e.knd=5)∨e.hi=0)
def RS (e:Ev) (i:Nat) (o:Int):Prop:=
 (0<=e.kn/\e.kn < 65536/\1<=e.knd/\e.knd<=7)/\
 (e.knd=7->(e.job=0/\e.day=0/\e.hi=0/\1<=e.nr/\e.nr<=i/\o<=e.kn)/\eBlank e.part=true/\eBlank e.pay=true)/\
 (e.knd≠7->RN e/\RB e=true)
theorem eR_iff {l:List Ev} {i:Nat}:eRight l i=true↔RS (l.getD i ev0) i (l.getD ((l.getD i ev0).nr - 1).toNat ev0).kn:=by
 rw [eRight,xOk]
 generalize (l.getD ((l.getD i ev0).nr - 1).toNat ev0).kn=o
 generalize l.getD i ev0=e
 obtain ⟨k,kn,job,day,hi,part,pay,nr⟩:=e
 match k with
 | 0=>simp [RS]
 | 1=>simp [RS,RN,RB,eNum,eFrc,uJob,uDay,uTo,uOf,uPart,uPay,ePart];constructor <;> intro h <;> simp_all <;> omega
 | 2=>simp [RS,RN,RB,eNum,eFrc,uJob,uDay,uTo,uOf,uPart,uPay,ePart];constructor <;> intro h <;> simp_all <;> omega
 | 3=>simp [RS,RN,RB,eNum,eFrc,uJob,uDay,uTo,uOf,uPart,uPay,ePart];constructor <;> intro h <;> simp_all <;> omega
 | 4=>simp [RS,RN,RB,eNum,eFrc,uJob,uDay,uTo,uOf,uPart,uPay,ePart];constructor <;> intro h <;> simp_all <;> omega
 | 5=>simp [RS,RN,RB,eNum,eFrc,uJob,uDay,uTo,uOf,uPart,uPay,ePart];constructor <;> intro h <;> simp_all <;> omega
 | 6=>simp [RS,RN,RB,eNum,eFrc,uJob,uDay,uTo,uOf,uPart,uPay,ePart];constructor <;> intro h <;> simp_all <;> omega
 | 7=>simp [RS,RN,RB,eNum,eFrc,uJob,uDay,uTo,uOf,uPart,uPay,ePart];constructor <;> intro h <;> simp_all <;> omega
 | n+8=>simp [RS]
theorem eR_n {l:List Ev} {i:Nat} (h1:0<=(l.getD i ev0).kn/\(l.getD i ev0).kn < 65536/\1<=(l.getD i ev0).knd/\(l.getD i ev0).knd<=7) (h2:(l.getD i ev0).knd≠7) (h3:RN (l.getD i ev0)):eRight l i=RB (l.getD i ev0):=by
 rw [Bool.eq_iff_iff,eR_iff]
 exact ⟨fun h=>(h.2.2 h2).2,fun h=>⟨h1,fun h7=>absurd h7 h2,fun _=>⟨h3,h⟩⟩⟩
theorem eR_7 {l:List Ev} {i:Nat} (h1:0<=(l.getD i ev0).kn/\(l.getD i ev0).kn < 65536/\(l.getD i ev0).knd=7) (h2:(l.getD i ev0).job=0/\(l.getD i ev0).day=0/\(l.getD i ev0).hi=0/\1<=(l.getD i ev0).nr/\(l.getD i ev0).nr<=i)
  (h3:eBlank (l.getD i ev0).part=true) (h4:eBlank (l.getD i ev0).pay=true):eRight l i=decide ((l.getD ((l.getD i ev0).nr - 1).toNat ev0).kn<=(l.getD i ev0).kn):=by
 rw [Bool.eq_iff_iff,eR_iff,decide_eq_true_eq]
 exact ⟨fun h=>(h.2.1 h1.2.2).1.2.2.2.2.2,fun h=>⟨⟨h1.1,h1.2.1,by omega,by omega⟩,fun _=>⟨⟨h2.1,h2.2.1,h2.2.2.1,h2.2.2.2.1,h2.2.2.2.2,h⟩,h3,h4⟩,fun h7=>absurd h1.2.2 h7⟩⟩
theorem no_1 {l:List Ev} {i:Nat} (h: ¬(0<=(l.getD i ev0).kn/\(l.getD i ev0).kn < 65536/\1<=(l.getD i ev0).knd/\(l.getD i ev0).knd<=7)):false=eRight l i:=(Bool.eq_false_iff.2 fun hr=>h (eR_iff.1 hr).1).symm
theorem no_n {l:List Ev} {i:Nat} (h:(l.getD i ev0).knd≠7) (h2: ¬RN (l.getD i ev0)):false=eRight l i:=(Bool.eq_false_iff.2 fun hr=>h2 ((eR_iff.1 hr).2.2 h).1).symm
theorem no_7 {l:List Ev} {i:Nat} (h:(l.getD i ev0).knd=7) (h2: ¬(((l.getD i ev0).job=0/\(l.getD i ev0).day=0/\(l.getD i ev0).hi=0/\1<=(l.getD i ev0).nr/\(l.getD i ev0).nr<=i/\(l.getD ((l.getD i ev0).nr - 1).toNat ev0).kn<=(l.getD i ev0).kn)/\eBlank (l.getD i ev0).part=true/\eBlank (l.getD i ev0).pay=true)):false=eRight l i:=(Bool.eq_false_iff.2 fun hr=>h2 ((eR_iff.1 hr).2.1 h)).symm
def limE (l:List Ev):Nat:=(l.map fun e=>(e.part.n.l.length+e.part.d.l.length)+(e.pay.n.l.length+e.pay.d.l.length)).sum
def fewE (l:List Ev):Bool:=(decide (l.length<=40) || decide (100 < l.length)) && decide (limE (l.take 101)<=600)
theorem limE_next {l:List Ev} {i:Nat} (hi:i < l.length):limE (l.take (i+1))=limE (l.take i)+(((l.getD i ev0).part.n.l.length+(l.getD i ev0).part.d.l.length)+((l.getD i ev0).pay.n.l.length+(l.getD i ev0).pay.d.l.length)):=by
 rw [limE,limE,List.take_succ_eq_append_getElem hi,List.map_append,List.sum_append_nat,List.getD_eq_getElem?_getD,List.getElem?_eq_getElem hi];simp
abbrev capE (l:List Ev):Prop:= ∀e∈l,(e.part.n.l.length<=70368744175616/\e.part.d.l.length<=70368744175616)/\e.pay.n.l.length<=70368744175616/\e.pay.d.l.length<=70368744175616
theorem limE_le {l:List Ev} (h:capE l): ∀{i:Nat},i<=l.length->limE (l.take i)<=i*281474976710656
 | 0,_=>by simp [limE]
 | i+1,hi=>by
  have h1:=limE_le h (i:=i) (by omega)
  have h2:=h _ (xe8 (l:=l) (i:=i) (by omega))
  rw [limE_next (by omega)];omega
theorem take_101 {l:List Ev} {i:Nat} (h1:i<=l.length) (h2:i<=101) (h3: ¬(i < l.length/\i < 101)):l.take i=l.take 101:=by
 rcases Nat.lt_or_ge i l.length with h | h
 ·rw [show i=101 by omega]
 ·rw [List.take_of_length_le h,List.take_of_length_le (by omega)]
end An
namespace An.S
open Go Go.Proofs An
instance fi23:FnI Tryz.prog 23:=⟨_,Tryz.func23,by kernel_rfl,rfl⟩
instance fi64:FnI Tryz.prog 64:=⟨_,Tryz.func64,by kernel_rfl,rfl⟩
instance fi99:FnI Tryz.prog 99:=⟨_,Tryz.func99,by kernel_rfl,rfl⟩
instance fi100:FnI Tryz.prog 100:=⟨_,Tryz.func100,by kernel_rfl,rfl⟩
instance fi101:FnI Tryz.prog 101:=⟨_,Tryz.func101,by kernel_rfl,rfl⟩
instance fi151:FnI Tryz.prog 151:=⟨_,Tryz.func151,by kernel_rfl,rfl⟩
instance fi152:FnI Tryz.prog 152:=⟨_,Tryz.func152,by kernel_rfl,rfl⟩
instance fi153:FnI Tryz.prog 153:=⟨_,Tryz.func153,by kernel_rfl,rfl⟩
instance fi189:FnI Tryz.prog 189:=⟨_,Tryz.func189,by kernel_rfl,rfl⟩
theorem c_R2OrderV (f g:Fr) (hf:f.dig) (hg:g.dig) (vf:f.valid=true) (vg:g.valid=true):Ct Tryz.prog 189 [tFr f,tFr g] (tI (cmpQ f.rat g.rat)):=by
 obtain ⟨e1,s1⟩:=Fr.of_valid' hf vf
 obtain ⟨e2,s2⟩:=Fr.of_valid' hg vg
 have h:=c_R2Order f.rat g.rat s1 s2
 rw [<-e1,<-e2] at h;exact h
def cmpV (f g:Fr):Int:=if f.valid=true/\g.valid=true then cmpQ f.rat g.rat else 0
theorem c_R2Cmp (f g:Fr) (hf:f.dig) (hg:g.dig):
  Ct Tryz.prog 151 [tFr f,tFr g] (tI (cmpV f g)):=by
 refine Ct.intro Tryz.func151 rfl Tryz.ntmps151 rfl ?_
 intro w F
 refine A11 ?_
 refine R1 (x3 (c_R2Valid f hf.1 hf.2) fi153 rfl) rfl ?_
 refine A2 ?_
 refine RGcase (t:=8) rfl (fun h175=> ?_) (fun h175=> ?_)
 ·
  refine A14 ?_
  exact E1 rfl rfl (Le.int (by rw [cmpV,if_neg (fun h=>by simp [h.1] at*)]))
 ·
  have vf:f.valid=true:=by simpa using h175
  refine A1 ?_
  refine Rg h175 rfl (x3 (c_R2Valid g hg.1 hg.2) fi153 rfl) rfl qA ?_
  refine A4 ?_
  refine xc2 rfl (fun h175_2=> ?_) (fun h175_2=> ?_)
  ·
   refine A7 ?_
   exact E1 rfl rfl (Le.int (by rw [cmpV,if_neg (fun h=>by simp [h.1,h.2] at*)]))
  ·
   refine A6 ?_
   refine R2 (x3 (c_R2OrderV f g hf hg vf (by simpa using h175_2)) fi189 rfl) rfl rfl ?_
   refine A4 ?_
   exact E1 rfl rfl (Le.int (by rw [cmpV,if_pos ⟨vf,by simpa using h175_2⟩]))
theorem c_R2CmpV (f:Fr) (hf:f.dig) (hv:f.valid=true):Ct Tryz.prog 151 [tFr f,tFr (fr ((1:Int):Rat))] (tI (cmpQ f.rat ((1:Int):Rat))):=by
 have h:=c_R2Cmp f (fr ((1:Int):Rat)) hf ⟨xc3 x8 _,xc3 x8 _⟩
 rw [cmpV,xp4,if_pos ⟨hv,valid_fr short_1⟩] at h;exact h
theorem exact_valid {f:Fr} (h:eExact f=true):f.valid=true:=by
 rw [eExact,Bool.and_eq_true,Bool.and_eq_true,Bool.and_eq_true] at h
 exact h.1.1.1
theorem xu3 (f:Fr) (hD:f.dig):
  Ct Tryz.prog 101 [tFr f] (tB (eExact f)):=by
 refine Ct.intro Tryz.func101 rfl Tryz.ntmps101 rfl ?_
 intro w F
 refine A9 ?_
 refine R1 (x3 (c_R2Valid f hD.1 hD.2) fi153 rfl) rfl ?_
 refine A1 ?_
 refine RGcase (t:=5) rfl (fun h14=> ?_) (fun h14=> ?_)
 ·
  refine A2 ?_
  refine xb2 h14 rfl rfl (0) ti4 rfl rfl rfl (At.t (At.g 0 rfl rfl) (At.g 0 rfl rfl)) rfl ?_
  refine A3 ?_
  refine RGcase (t:=11) rfl (fun h14_2=> ?_) (fun h14_2=> ?_)
  ·
   refine A2 ?_
   refine xb2 h14_2 rfl rfl (0) ti23 rfl rfl rfl (At.t (At.g 0 rfl rfl) (At.g 1 rfl rfl)) rfl ?_
   refine A4 ?_
   refine RGcaseD (t:=18) rfl (fun h14_3=> ?_) (fun h14_3=> ?_)
   ·
    refine A2 ?_
    refine xb2 (decide_eq_true h14_3) rfl rfl (0) ti23 rfl rfl rfl (At.t (At.g 1 rfl rfl) (At.g 1 rfl rfl)) rfl ?_
    refine A7 ?_
    exact E1 rfl rfl (Le.bool (by rw [eExact];first | (rw [decide_eq_true (show f.n.l.length<=2 by omega)];simp [*];done) | (rw [decide_eq_true (show f.n.l.length<=2 by omega)];simp [*];omega) | (rw [decide_eq_false (show ¬f.n.l.length<=2 by omega)];simp [*];done) | (simp [*];done)))
   ·
    refine A10 ?_
    exact E1 rfl rfl (Le.bool (by rw [eExact];first | (rw [decide_eq_true (show f.n.l.length<=2 by omega)];simp [*];done) | (rw [decide_eq_true (show f.n.l.length<=2 by omega)];simp [*];omega) | (rw [decide_eq_false (show ¬f.n.l.length<=2 by omega)];simp [*];done) | (simp [*];done)))
  ·
   refine A17 ?_
   exact E1 rfl rfl (Le.bool (by rw [eExact];first | (rw [decide_eq_true (show f.n.l.length<=2 by omega)];simp [*];done) | (rw [decide_eq_true (show f.n.l.length<=2 by omega)];simp [*];omega) | (rw [decide_eq_false (show ¬f.n.l.length<=2 by omega)];simp [*];done) | (simp [*];done)))
 ·
  refine A18 ?_
  refine A5 ?_
  exact E1 rfl rfl (Le.bool (by rw [eExact];first | (rw [decide_eq_true (show f.n.l.length<=2 by omega)];simp [*];done) | (rw [decide_eq_true (show f.n.l.length<=2 by omega)];simp [*];omega) | (rw [decide_eq_false (show ¬f.n.l.length<=2 by omega)];simp [*];done) | (simp [*];done)))
theorem c_R22part (f:Fr) (hD:f.dig):
  Ct Tryz.prog 100 [tFr f] (tB (ePart f)):=by
 refine Ct.intro Tryz.func100 rfl Tryz.ntmps100 rfl ?_
 intro w F
 refine A9 ?_
 refine R1 (x3 (xu3 f hD) fi101 rfl) rfl ?_
 refine A1 ?_
 refine RGcase (t:=5) rfl (fun h19=> ?_) (fun h19=> ?_)
 ·
  refine A1 ?_
  refine Rg h19 rfl (x3 (c_R2FromInt 1 (by decide) (by decide)) fi152 rfl) rfl qA (Rg h19 rfl (x3 (c_R2CmpV f hD (exact_valid (by assumption))) fi151 rfl) rfl qB ?_)
  refine A6 ?_
  exact E1 rfl rfl (Le.bool (by rw [ePart];first | (rw [show eExact f=false by assumption,Bool.false_and]) | (rw [show eExact f=true by assumption,Bool.true_and,<-decide_not];exact decide_eq_decide.2 ⟨fun h hh=>by have:=(cmpP (a:=f.rat) (b:=((1:Int):Rat))).2 hh;omega,fun h=>Int.not_lt.1 fun hh=>h ((cmpP (a:=f.rat) (b:=((1:Int):Rat))).1 hh)⟩)))
 ·
  refine A9 ?_
  exact E1 rfl rfl (Le.bool (by rw [ePart];first | (rw [show eExact f=false by assumption,Bool.false_and]) | (rw [show eExact f=true by assumption,Bool.true_and,<-decide_not];exact decide_eq_decide.2 ⟨fun h hh=>by have:=(cmpP (a:=f.rat) (b:=((1:Int):Rat))).2 hh;omega,fun h=>Int.not_lt.1 fun hh=>h ((cmpP (a:=f.rat) (b:=((1:Int):Rat))).1 hh)⟩)))
theorem xk2 (f:Fr) (h1:f.n.l.length<=70368744175616) (h2:f.d.l.length<=70368744175616):
  Ct Tryz.prog 99 [tFr f] (tB (eBlank f)):=by
 refine Ct.intro Tryz.func99 rfl Tryz.ntmps99 rfl ?_
 intro w F
 refine A10 ?_
 refine xe1 (0) ti4 rfl rfl rfl (At.t (At.g 0 rfl rfl) (At.g 0 rfl rfl)) rfl ?_
 refine A2 ?_
 refine RGcase (t:=7) rfl (fun h24=> ?_) (fun h24=> ?_)
 ·
  refine A2 ?_
  refine xb2 h24 rfl rfl (0) ti4 rfl rfl rfl (At.t (At.g 1 rfl rfl) (At.g 0 rfl rfl)) rfl ?_
  refine A3 ?_
  refine RGcase (t:=13) rfl (fun h24_2=> ?_) (fun h24_2=> ?_)
  ·
   refine A2 ?_
   refine xb2 h24_2 rfl rfl (0) ti23 rfl rfl rfl (At.t (At.g 0 rfl rfl) (At.g 1 rfl rfl)) rfl ?_
   refine A3 ?_
   refine xb2 h24_2 rfl rfl (0) ti23 rfl rfl rfl (At.t (At.g 1 rfl rfl) (At.g 1 rfl rfl)) rfl ?_
   refine A1 ?_
   refine Rg h24_2 rfl (xd8 (wr64 (by omega) (by omega))) rfl qB ?_
   refine A6 ?_
   exact E1 rfl rfl (Le.bool (by rw [eBlank];first | (rw [show (!f.n.neg)=false by assumption,Bool.false_and,Bool.false_and];done) | (rw [show (!f.n.neg)=true by assumption,show (!f.d.neg)=false by assumption,Bool.false_and,Bool.and_false];done) | (rw [show (!f.n.neg)=true by assumption,show (!f.d.neg)=true by assumption,Bool.true_and,Bool.true_and,<-Bool.decide_and];exact decide_eq_decide.2 (by omega))))
  ·
   refine A15 ?_
   exact E1 rfl rfl (Le.bool (by rw [eBlank];first | (rw [show (!f.n.neg)=false by assumption,Bool.false_and,Bool.false_and];done) | (rw [show (!f.n.neg)=true by assumption,show (!f.d.neg)=false by assumption,Bool.false_and,Bool.and_false];done) | (rw [show (!f.n.neg)=true by assumption,show (!f.d.neg)=true by assumption,Bool.true_and,Bool.true_and,<-Bool.decide_and];exact decide_eq_decide.2 (by omega))))
 ·
  refine A18 ?_
  refine A3 ?_
  exact E1 rfl rfl (Le.bool (by rw [eBlank];first | (rw [show (!f.n.neg)=false by assumption,Bool.false_and,Bool.false_and];done) | (rw [show (!f.n.neg)=true by assumption,show (!f.d.neg)=false by assumption,Bool.false_and,Bool.and_false];done) | (rw [show (!f.n.neg)=true by assumption,show (!f.d.neg)=true by assumption,Bool.true_and,Bool.true_and,<-Bool.decide_and];exact decide_eq_decide.2 (by omega))))
theorem c_R22Right (l:List Ev) (i:Nat) (hi:i < l.length) (hl:l.length<=100) (hD: ∀e∈l,e.part.dig/\e.pay.dig) (hC:capE l):
  Ct Tryz.prog 64 [tL 14 true tEv l,tI i] (tB (eRight l i)):=by
 have hd:=hD _ (xe8 hi)
 have hc:=hC _ (xe8 hi)
 refine Ct.intro Tryz.func64 rfl Tryz.ntmps64 rfl ?_
 intro w F
 refine A9 ?_
 refine R2 (x4 sl22 (i) (by omega) (gD (l:=l) (n:=i) (d:=ev0) (by omega))) rfl rfl ?_
 refine A1 ?_
 refine RE (x7 (k:=5) (n:=14) (agg:=true) zr29.1 zr29.2 rfl) trivial trivial qA ?_
 refine A10 ?_
 refine RGcaseD (t:=15) rfl (fun h30=> ?_) (fun h30=> ?_)
 ·
  refine A18 ?_
  refine A6 ?_
  exact E1 rfl rfl (Le.bool (no_1 (by omega)))
 ·
  refine A5 ?_
  refine RGcaseD (t:=20) rfl (fun h30_2=> ?_) (fun h30_2=> ?_)
  ·
   refine A18 ?_
   refine A1 ?_
   exact E1 rfl rfl (Le.bool (no_1 (by omega)))
  ·
   refine A5 ?_
   refine RGcaseD (t:=25) rfl (fun h30_3=> ?_) (fun h30_3=> ?_)
   ·
    refine A14 ?_
    exact E1 rfl rfl (Le.bool (no_1 (by omega)))
   ·
    refine A6 ?_
    refine x6 rfl (fun h30_4=> ?_) (fun h30_4=> ?_)
    ·
     refine A7 ?_
     exact E1 rfl rfl (Le.bool (no_1 (by omega)))
    ·
     refine A8 ?_
     refine RGcaseD (t:=33) rfl (fun h33=> ?_) (fun h33=> ?_)
     ·
      refine A13 ?_
      refine RGcaseD (t:=41) rfl (fun h34=> ?_) (fun h34=> ?_)
      ·
       refine A15 ?_
       refine C_bF rfl (decide_eq_false (by omega)) ?_
       refine A6 ?_
       refine xe1 (0) ti3 rfl rfl rfl (At.g 7 rfl rfl) rfl ?_
       refine A2 ?_
       refine RGcaseD (t:=98) rfl (fun h38=> ?_) (fun h38=> ?_)
       ·
        refine A18 ?_
        refine A18 ?_
        refine A5 ?_
        exact E1 rfl rfl (Le.bool (no_n (by omega) (by simp only [RN];omega)))
       ·
        refine A5 ?_
        refine RGcaseD (t:=103) rfl (fun h38_2=> ?_) (fun h38_2=> ?_)
        ·
         refine A18 ?_
         refine A18 ?_
         exact E1 rfl rfl (Le.bool (no_n (by omega) (by simp only [RN];omega)))
        ·
         refine A5 ?_
         refine RGcaseD (t:=108) rfl (fun h38_3=> ?_) (fun h38_3=> ?_)
         ·
          refine A18 ?_
          refine A13 ?_
          exact E1 rfl rfl (Le.bool (no_n (by omega) (by simp only [RN];omega)))
         ·
          refine A2 ?_
          refine Rg (decide_eq_true (by omega)) rfl (xh0 fo29_2.h rfl) rfl qA (xb2 (decide_eq_true (by omega)) rfl rfl (0) ti3 rfl rfl rfl (At.g 2 rfl rfl) rfl (Rg (decide_eq_true (by omega)) rfl d_lss rfl qB (Rg (decide_eq_true (by omega)) rfl xb9 rfl qA ?_)))
          refine RGcaseD (t:=114) rfl (fun h38_5=> ?_) (fun h38_5=> ?_)
          ·
           refine A3 ?_
           refine Rg (decide_eq_true (by omega)) rfl (xc9 (decide_eq_true h38_5)) rfl qB (Rg (decide_eq_false h38_3) rfl (xc9 (decide_eq_true (by omega))) rfl qB ?_)
           refine A18 ?_
           refine A2 ?_
           exact E1 rfl rfl (Le.bool (no_n (by omega) (by simp only [RN];omega)))
          ·
           refine A3 ?_
           refine Rg (decide_eq_true (by omega)) rfl (xc7 (decide_eq_false h38_5)) rfl qB (Rg (decide_eq_false h38_3) rfl (xc9 (decide_eq_true (by omega))) rfl qB ?_)
           refine A2 ?_
           refine RGcaseD (t:=121) rfl (fun h38_6=> ?_) (fun h38_6=> ?_)
           ·
            refine A18 ?_
            exact E1 rfl rfl (Le.bool (no_n (by omega) (by simp only [RN];omega)))
           ·
            refine A3 ?_
            refine RGoff (xa3 (by omega)) rfl rfl (RGoff (xa3 (by omega)) rfl rfl (RGoff (xa3 (by omega)) rfl rfl (Rg (decide_eq_false h38_6) rfl (xc7 (xa3 (by omega))) rfl qB ?_)))
            refine A17 ?_
            refine RGcaseD (t:=137) rfl (fun h41=> ?_) (fun h41=> ?_)
            ·
             refine A3 ?_
             refine Rg rfl rfl (xc9 (decide_eq_true h41)) rfl qB ?_
             refine A18 ?_
             refine A2 ?_
             exact E1 rfl rfl (Le.bool (no_n (by omega) (by simp only [RN];omega)))
            ·
             refine A3 ?_
             refine Rg rfl rfl (xc7 (decide_eq_false h41)) rfl qB ?_
             refine A2 ?_
             refine RGcaseD (t:=143) rfl (fun h41_2=> ?_) (fun h41_2=> ?_)
             ·
              refine A18 ?_
              exact E1 rfl rfl (Le.bool (no_n (by omega) (by simp only [RN];omega)))
             ·
              refine A6 ?_
              refine Rg (decide_eq_false h41_2) rfl (xc7 rfl) rfl qB ?_
              refine A18 ?_
              refine A2 ?_
              refine C_bF rfl (decide_eq_false (by omega)) ?_
              refine A6 ?_
              refine C_bT rfl (decide_eq_true (by omega)) ?_
              refine A4 ?_
              refine R1 (x3 (c_R22part (l.getD i ev0).part hd.1) fi100 rfl) rfl ?_
              refine A1 ?_
              refine RGcase (t:=169) rfl (fun h48=> ?_) (fun h48=> ?_)
              ·
               refine A2 ?_
               refine Rg h48 rfl (x3 (xk2 (l.getD i ev0).pay hc.2.1 hc.2.2) fi99 rfl) rfl qA ?_
               refine A7 ?_
               exact E1 rfl rfl (Le.bool (by rw [eR_n (by omega) (by omega) (by simp only [RN];omega),RB,if_neg (show ¬(l.getD i ev0).knd=1 by omega),if_pos (show (l.getD i ev0).knd=3 by omega)];first | rw [show ePart (l.getD i ev0).part=true by assumption,Bool.true_and] | rw [show ePart (l.getD i ev0).part=false by assumption,Bool.false_and]))
              ·
               refine A10 ?_
               exact E1 rfl rfl (Le.bool (by rw [eR_n (by omega) (by omega) (by simp only [RN];omega),RB,if_neg (show ¬(l.getD i ev0).knd=1 by omega),if_pos (show (l.getD i ev0).knd=3 by omega)];first | rw [show ePart (l.getD i ev0).part=true by assumption,Bool.true_and] | rw [show ePart (l.getD i ev0).part=false by assumption,Bool.false_and]))
      ·
       refine A15 ?_
       refine x6 rfl (fun h35=> ?_) (fun h35=> ?_)
       ·
        refine A6 ?_
        refine RGcaseD (t:=52) rfl (fun h36=> ?_) (fun h36=> ?_)
        ·
         refine A5 ?_
         refine RGcaseD (t:=57) rfl (fun h36_2=> ?_) (fun h36_2=> ?_)
         ·
          refine A5 ?_
          refine RGcaseD (t:=62) rfl (fun h36_3=> ?_) (fun h36_3=> ?_)
          ·
           refine A2 ?_
           refine Rg (decide_eq_true h36_3) rfl (x3 (xk2 (l.getD i ev0).part hc.1.1 hc.1.2) fi99 rfl) rfl qA ?_
           refine A2 ?_
           refine RGcase (t:=67) rfl (fun h36_4=> ?_) (fun h36_4=> ?_)
           ·
            refine A2 ?_
            refine Rg h36_4 rfl (x3 (xk2 (l.getD i ev0).pay hc.2.1 hc.2.2) fi99 rfl) rfl qA ?_
            refine A2 ?_
            refine RGcase (t:=72) rfl (fun h36_5=> ?_) (fun h36_5=> ?_)
            ·
             refine A1 ?_
             refine xb2 h36_5 rfl rfl (0) ti3 rfl rfl rfl (At.g 7 rfl rfl) rfl ?_
             refine A3 ?_
             refine RGcaseD (t:=77) rfl (fun h36_6=> ?_) (fun h36_6=> ?_)
             ·
              refine A1 ?_
              refine xb2 (decide_eq_true h36_6) rfl rfl (0) ti3 rfl rfl rfl (At.g 7 rfl rfl) rfl ?_
              refine A4 ?_
              refine RGcaseD (t:=83) rfl (fun h36_7=> ?_) (fun h36_7=> ?_)
              ·
               refine A2 ?_
               refine xb2 (decide_eq_true h36_7) rfl rfl (0) ti3 rfl rfl rfl (At.g 7 rfl rfl) rfl (Rg (decide_eq_true h36_7) rfl (xd6 (wr64 (by omega) (by omega))) rfl ⟨rfl,rfl,trivial⟩ (Rg (decide_eq_true h36_7) rfl (x4 sl22 (((l.getD i ev0).nr - 1).toNat) (by omega) (gD (l:=l) (n:=((l.getD i ev0).nr - 1).toNat) (d:=ev0) (by omega))) rfl ⟨rfl,rfl,trivial⟩ (Rg (decide_eq_true h36_7) rfl (xf3 fo29_1.h (At.f 1 rfl rfl) rfl) rfl ⟨rfl,trivial⟩ ?_)))
               refine A10 ?_
               exact E1 rfl rfl (Le.bool (by first | exact (eR_7 (by omega) (by omega) (by assumption) (by assumption)).symm | exact (no_7 (by omega) fun h7=>by first | (have h8:=h7.1;omega) | exact absurd h7.2.1 (by simp_all) | exact absurd h7.2.2 (by simp_all))))
              ·
               refine A16 ?_
               exact E1 rfl rfl (Le.bool (by first | exact (eR_7 (by omega) (by omega) (by assumption) (by assumption)).symm | exact (no_7 (by omega) fun h7=>by first | (have h8:=h7.1;omega) | exact absurd h7.2.1 (by simp_all) | exact absurd h7.2.2 (by simp_all))))
             ·
              refine A18 ?_
              refine A4 ?_
              exact E1 rfl rfl (Le.bool (by first | exact (eR_7 (by omega) (by omega) (by assumption) (by assumption)).symm | exact (no_7 (by omega) fun h7=>by first | (have h8:=h7.1;omega) | exact absurd h7.2.1 (by simp_all) | exact absurd h7.2.2 (by simp_all))))
            ·
             refine A18 ?_
             refine A9 ?_
             exact E1 rfl rfl (Le.bool (by first | exact (eR_7 (by omega) (by omega) (by assumption) (by assumption)).symm | exact (no_7 (by omega) fun h7=>by first | (have h8:=h7.1;omega) | exact absurd h7.2.1 (by simp_all) | exact absurd h7.2.2 (by simp_all))))
           ·
            refine A18 ?_
            refine A14 ?_
            exact E1 rfl rfl (Le.bool (by first | exact (eR_7 (by omega) (by omega) (by assumption) (by assumption)).symm | exact (no_7 (by omega) fun h7=>by first | (have h8:=h7.1;omega) | exact absurd h7.2.1 (by simp_all) | exact absurd h7.2.2 (by simp_all))))
          ·
           refine A18 ?_
           refine A18 ?_
           refine A1 ?_
           exact E1 rfl rfl (Le.bool (by first | exact (eR_7 (by omega) (by omega) (by assumption) (by assumption)).symm | exact (no_7 (by omega) fun h7=>by first | (have h8:=h7.1;omega) | exact absurd h7.2.1 (by simp_all) | exact absurd h7.2.2 (by simp_all))))
         ·
          refine A18 ?_
          refine A18 ?_
          refine A6 ?_
          exact E1 rfl rfl (Le.bool (by first | exact (eR_7 (by omega) (by omega) (by assumption) (by assumption)).symm | exact (no_7 (by omega) fun h7=>by first | (have h8:=h7.1;omega) | exact absurd h7.2.1 (by simp_all) | exact absurd h7.2.2 (by simp_all))))
        ·
         refine A18 ?_
         refine A18 ?_
         refine A11 ?_
         exact E1 rfl rfl (Le.bool (by first | exact (eR_7 (by omega) (by omega) (by assumption) (by assumption)).symm | exact (no_7 (by omega) fun h7=>by first | (have h8:=h7.1;omega) | exact absurd h7.2.1 (by simp_all) | exact absurd h7.2.2 (by simp_all))))
       ·
        refine A6 ?_
        refine xe1 (0) ti3 rfl rfl rfl (At.g 7 rfl rfl) rfl ?_
        refine A2 ?_
        refine RGcaseD (t:=98) rfl (fun h38=> ?_) (fun h38=> ?_)
        ·
         refine A18 ?_
         refine A18 ?_
         refine A5 ?_
         exact E1 rfl rfl (Le.bool (no_n (by omega) (by simp only [RN];omega)))
        ·
         refine A5 ?_
         refine RGcaseD (t:=103) rfl (fun h38_2=> ?_) (fun h38_2=> ?_)
         ·
          refine A18 ?_
          refine A18 ?_
          exact E1 rfl rfl (Le.bool (no_n (by omega) (by simp only [RN];omega)))
         ·
          refine A5 ?_
          refine RGcaseD (t:=108) rfl (fun h38_3=> ?_) (fun h38_3=> ?_)
          ·
           refine A18 ?_
           refine A13 ?_
           exact E1 rfl rfl (Le.bool (no_n (by omega) (by simp only [RN];omega)))
          ·
           refine A2 ?_
           refine Rg (decide_eq_true (by omega)) rfl (xh0 fo29_2.h rfl) rfl qA (xb2 (decide_eq_true (by omega)) rfl rfl (0) ti3 rfl rfl rfl (At.g 2 rfl rfl) rfl (Rg (decide_eq_true (by omega)) rfl d_lss rfl qB (Rg (decide_eq_true (by omega)) rfl xb9 rfl qA ?_)))
           refine RGcaseD (t:=114) rfl (fun h38_5=> ?_) (fun h38_5=> ?_)
           ·
            refine A3 ?_
            refine Rg (decide_eq_true (by omega)) rfl (xc9 (decide_eq_true h38_5)) rfl qB (Rg (decide_eq_false h38_3) rfl (xc9 (decide_eq_true (by omega))) rfl qB ?_)
            refine A18 ?_
            refine A2 ?_
            exact E1 rfl rfl (Le.bool (no_n (by omega) (by simp only [RN];omega)))
           ·
            refine A3 ?_
            refine Rg (decide_eq_true (by omega)) rfl (xc7 (decide_eq_false h38_5)) rfl qB (Rg (decide_eq_false h38_3) rfl (xc9 (decide_eq_true (by omega))) rfl qB ?_)
            refine A2 ?_
            refine RGcaseD (t:=121) rfl (fun h38_6=> ?_) (fun h38_6=> ?_)
            ·
             refine A18 ?_
             exact E1 rfl rfl (Le.bool (no_n (by omega) (by simp only [RN];omega)))
            ·
             refine A3 ?_
             refine RGoff (xa3 (by omega)) rfl rfl (RGoff (xa3 (by omega)) rfl rfl (RGoff (xa3 (by omega)) rfl rfl (Rg (decide_eq_false h38_6) rfl (xc7 (xa3 (by omega))) rfl qB ?_)))
             refine A11 ?_
             refine RGcaseD (t:=131) rfl (fun h41=> ?_) (fun h41=> ?_)
             ·
              refine A6 ?_
              refine RGcaseD (t:=137) rfl (fun h41_2=> ?_) (fun h41_2=> ?_)
              ·
               refine A3 ?_
               refine Rg (decide_eq_true h41) rfl (xc9 (decide_eq_true h41_2)) rfl qB ?_
               refine A18 ?_
               refine A2 ?_
               exact E1 rfl rfl (Le.bool (no_n (by omega) (by simp only [RN];omega)))
              ·
               refine A3 ?_
               refine Rg (decide_eq_true h41) rfl (xc7 (decide_eq_false h41_2)) rfl qB ?_
               refine A2 ?_
               refine RGcaseD (t:=143) rfl (fun h41_3=> ?_) (fun h41_3=> ?_)
               ·
                refine A18 ?_
                exact E1 rfl rfl (Le.bool (no_n (by omega) (by simp only [RN];omega)))
               ·
                refine A3 ?_
                refine RGoff (xa3 (by omega)) rfl rfl (RGoff (xa3 (by omega)) rfl rfl (RGoff (xa3 (by omega)) rfl rfl (Rg (decide_eq_false h41_3) rfl (xc7 (xa3 (by omega))) rfl qB ?_)))
                refine A18 ?_
                refine A2 ?_
                refine C_bF rfl (decide_eq_false (by omega)) ?_
                refine A6 ?_
                refine C_bF rfl (decide_eq_false (by omega)) ?_
                refine A6 ?_
                refine C_bF rfl (decide_eq_false (by omega)) ?_
                refine A6 ?_
                refine C_bF rfl (decide_eq_false (by omega)) ?_
                refine A7 ?_
                refine R1 (x3 (xk2 (l.getD i ev0).part hc.1.1 hc.1.2) fi99 rfl) rfl ?_
                refine A1 ?_
                refine RGcase (t:=197) rfl (fun h54=> ?_) (fun h54=> ?_)
                ·
                 refine A2 ?_
                 refine Rg h54 rfl (x3 (xk2 (l.getD i ev0).pay hc.2.1 hc.2.2) fi99 rfl) rfl qA ?_
                 refine A5 ?_
                 exact E1 rfl rfl (Le.bool (by rw [eR_n (by omega) (by omega) (by simp only [RN];omega),RB,if_neg (show ¬(l.getD i ev0).knd=1 by omega),if_neg (show ¬(l.getD i ev0).knd=3 by omega),if_neg (show ¬(l.getD i ev0).knd=4 by omega),if_neg (show ¬(l.getD i ev0).knd=6 by omega)];first | rw [show eBlank (l.getD i ev0).part=true by assumption,Bool.true_and] | rw [show eBlank (l.getD i ev0).part=false by assumption,Bool.false_and]))
                ·
                 refine A8 ?_
                 exact E1 rfl rfl (Le.bool (by rw [eR_n (by omega) (by omega) (by simp only [RN];omega),RB,if_neg (show ¬(l.getD i ev0).knd=1 by omega),if_neg (show ¬(l.getD i ev0).knd=3 by omega),if_neg (show ¬(l.getD i ev0).knd=4 by omega),if_neg (show ¬(l.getD i ev0).knd=6 by omega)];first | rw [show eBlank (l.getD i ev0).part=true by assumption,Bool.true_and] | rw [show eBlank (l.getD i ev0).part=false by assumption,Bool.false_and]))
             ·
              refine A15 ?_
              refine Rg (xb4 (by omega)) rfl (xh0 fo29_4.h rfl) rfl qA (xb2 (xb4 (by omega)) rfl rfl (0) ti3 rfl rfl rfl (At.g 4 rfl rfl) rfl (Rg (xb4 (by omega)) rfl d_neq rfl qB (Rg rfl rfl (xc9 (xb4 (by omega))) rfl qB ?_)))
              refine A3 ?_
              refine x6 rfl (fun h41_3=> ?_) (fun h41_3=> ?_)
              ·
               refine A7 ?_
               exact E1 rfl rfl (Le.bool (no_n (by omega) (by simp only [RN];omega)))
              ·
               refine A16 ?_
               refine x6 rfl (fun h45=> ?_) (fun h45=> ?_)
               ·
                refine A4 ?_
                refine R1 (x3 (c_R22part (l.getD i ev0).part hd.1) fi100 rfl) rfl ?_
                refine A1 ?_
                refine RGcase (t:=159) rfl (fun h46=> ?_) (fun h46=> ?_)
                ·
                 refine A2 ?_
                 refine Rg h46 rfl (x3 (xu3 (l.getD i ev0).pay hd.2) fi101 rfl) rfl qA ?_
                 refine A7 ?_
                 exact E1 rfl rfl (Le.bool (by rw [eR_n (by omega) (by omega) (by simp only [RN];omega),RB,if_pos (show (l.getD i ev0).knd=1 by omega)];first | rw [show ePart (l.getD i ev0).part=true by assumption,Bool.true_and] | rw [show ePart (l.getD i ev0).part=false by assumption,Bool.false_and]))
                ·
                 refine A10 ?_
                 exact E1 rfl rfl (Le.bool (by rw [eR_n (by omega) (by omega) (by simp only [RN];omega),RB,if_pos (show (l.getD i ev0).knd=1 by omega)];first | rw [show ePart (l.getD i ev0).part=true by assumption,Bool.true_and] | rw [show ePart (l.getD i ev0).part=false by assumption,Bool.false_and]))
               ·
                refine A6 ?_
                refine C_bF rfl (decide_eq_false (by omega)) ?_
                refine A6 ?_
                refine x6 rfl (fun h49=> ?_) (fun h49=> ?_)
                ·
                 refine A4 ?_
                 refine R1 (x3 (xk2 (l.getD i ev0).part hc.1.1 hc.1.2) fi99 rfl) rfl ?_
                 refine A1 ?_
                 refine RGcase (t:=179) rfl (fun h50=> ?_) (fun h50=> ?_)
                 ·
                  refine A2 ?_
                  refine Rg h50 rfl (x3 (xu3 (l.getD i ev0).pay hd.2) fi101 rfl) rfl qA ?_
                  refine A7 ?_
                  exact E1 rfl rfl (Le.bool (by rw [eR_n (by omega) (by omega) (by simp only [RN];omega),RB,if_neg (show ¬(l.getD i ev0).knd=1 by omega),if_neg (show ¬(l.getD i ev0).knd=3 by omega),if_pos (show (l.getD i ev0).knd=4 by omega)];first | rw [show eBlank (l.getD i ev0).part=true by assumption,Bool.true_and] | rw [show eBlank (l.getD i ev0).part=false by assumption,Bool.false_and]))
                 ·
                  refine A10 ?_
                  exact E1 rfl rfl (Le.bool (by rw [eR_n (by omega) (by omega) (by simp only [RN];omega),RB,if_neg (show ¬(l.getD i ev0).knd=1 by omega),if_neg (show ¬(l.getD i ev0).knd=3 by omega),if_pos (show (l.getD i ev0).knd=4 by omega)];first | rw [show eBlank (l.getD i ev0).part=true by assumption,Bool.true_and] | rw [show eBlank (l.getD i ev0).part=false by assumption,Bool.false_and]))
                ·
                 refine A6 ?_
                 refine C_bF rfl (decide_eq_false (by omega)) ?_
                 refine A7 ?_
                 refine R1 (x3 (xk2 (l.getD i ev0).part hc.1.1 hc.1.2) fi99 rfl) rfl ?_
                 refine A1 ?_
                 refine RGcase (t:=197) rfl (fun h54=> ?_) (fun h54=> ?_)
                 ·
                  refine A2 ?_
                  refine Rg h54 rfl (x3 (xk2 (l.getD i ev0).pay hc.2.1 hc.2.2) fi99 rfl) rfl qA ?_
                  refine A5 ?_
                  exact E1 rfl rfl (Le.bool (by rw [eR_n (by omega) (by omega) (by simp only [RN];omega),RB,if_neg (show ¬(l.getD i ev0).knd=1 by omega),if_neg (show ¬(l.getD i ev0).knd=3 by omega),if_neg (show ¬(l.getD i ev0).knd=4 by omega),if_neg (show ¬(l.getD i ev0).knd=6 by omega)];first | rw [show eBlank (l.getD i ev0).part=true by assumption,Bool.true_and] | rw [show eBlank (l.getD i ev0).part=false by assumption,Bool.false_and]))
                 ·
                  refine A8 ?_
                  exact E1 rfl rfl (Le.bool (by rw [eR_n (by omega) (by omega) (by simp only [RN];omega),RB,if_neg (show ¬(l.getD i ev0).knd=1 by omega),if_neg (show ¬(l.getD i ev0).knd=3 by omega),if_neg (show ¬(l.getD i ev0).knd=4 by omega),if_neg (show ¬(l.getD i ev0).knd=6 by omega)];first | rw [show eBlank (l.getD i ev0).part=true by assumption,Bool.true_and] | rw [show eBlank (l.getD i ev0).part=false by assumption,Bool.false_and]))
     ·
      refine A13 ?_
      refine Rg (decide_eq_false (by omega)) rfl (xh0 fo29_0.h rfl) rfl qA (xb2 (decide_eq_false (by omega)) rfl rfl (0) ti5 rfl rfl rfl (At.g 0 rfl rfl) rfl (Rg (decide_eq_false (by omega)) rfl d_eql rfl qB (R2 (xc7 (decide_eq_false (by omega))) rfl rfl ?_)))
      refine A11 ?_
      refine C_bF rfl (decide_eq_false (by omega)) ?_
      refine A6 ?_
      refine xe1 (0) ti3 rfl rfl rfl (At.g 7 rfl rfl) rfl ?_
      refine A2 ?_
      refine RGcaseD (t:=98) rfl (fun h38=> ?_) (fun h38=> ?_)
      ·
       refine A18 ?_
       refine A18 ?_
       refine A5 ?_
       exact E1 rfl rfl (Le.bool (no_n (by omega) (by simp only [RN];omega)))
      ·
       refine A5 ?_
       refine RGcaseD (t:=103) rfl (fun h38_2=> ?_) (fun h38_2=> ?_)
       ·
        refine A18 ?_
        refine A18 ?_
        exact E1 rfl rfl (Le.bool (no_n (by omega) (by simp only [RN];omega)))
       ·
        refine A5 ?_
        refine RGcaseD (t:=108) rfl (fun h38_3=> ?_) (fun h38_3=> ?_)
        ·
         refine A18 ?_
         refine A13 ?_
         exact E1 rfl rfl (Le.bool (no_n (by omega) (by simp only [RN];omega)))
        ·
         refine A10 ?_
         refine Rg (decide_eq_false h38_3) rfl (xc7 rfl) rfl qB ?_
         refine A8 ?_
         refine Rg rfl rfl (xc9 rfl) rfl qB ?_
         refine A3 ?_
         refine x6 rfl (fun h38_4=> ?_) (fun h38_4=> ?_)
         ·
          refine A7 ?_
          exact E1 rfl rfl (Le.bool (no_n (by omega) (by simp only [RN];omega)))
         ·
          refine A7 ?_
          refine RGoff (decide_eq_false (by omega)) rfl rfl (RGoff (decide_eq_false (by omega)) rfl rfl (RGoff (decide_eq_false (by omega)) rfl rfl (RGoff (decide_eq_false (by omega)) rfl rfl (RGoff (decide_eq_false (by omega)) rfl rfl (RGoff (decide_eq_false (by omega)) rfl rfl ?_)))))
          refine A3 ?_
          refine RGoff (decide_eq_false (by omega)) rfl rfl (R2 (xc7 (decide_eq_false (by omega))) rfl rfl ?_)
          refine A4 ?_
          refine Rg (xb4 (by omega)) rfl (xh0 fo29_4.h rfl) rfl qA (xb2 (xb4 (by omega)) rfl rfl (0) ti3 rfl rfl rfl (At.g 4 rfl rfl) rfl (Rg (xb4 (by omega)) rfl d_neq rfl qB (Rg rfl rfl (xc9 (xb4 (by omega))) rfl qB ?_)))
          refine A3 ?_
          refine x6 rfl (fun h41_3=> ?_) (fun h41_3=> ?_)
          ·
           refine A7 ?_
           exact E1 rfl rfl (Le.bool (no_n (by omega) (by simp only [RN];omega)))
          ·
           refine A16 ?_
           refine C_bF rfl (decide_eq_false (by omega)) ?_
           refine A6 ?_
           refine C_bF rfl (decide_eq_false (by omega)) ?_
           refine A6 ?_
           refine C_bF rfl (decide_eq_false (by omega)) ?_
           refine A6 ?_
           refine C_bT rfl (decide_eq_true (by omega)) ?_
           refine A4 ?_
           refine R1 (x3 (xu3 (l.getD i ev0).part hd.1) fi101 rfl) rfl ?_
           refine A1 ?_
           refine RGcase (t:=189) rfl (fun h52=> ?_) (fun h52=> ?_)
           ·
            refine A2 ?_
            refine Rg h52 rfl (x3 (xk2 (l.getD i ev0).pay hc.2.1 hc.2.2) fi99 rfl) rfl qA ?_
            refine A7 ?_
            exact E1 rfl rfl (Le.bool (by rw [eR_n (by omega) (by omega) (by simp only [RN];omega),RB,if_neg (show ¬(l.getD i ev0).knd=1 by omega),if_neg (show ¬(l.getD i ev0).knd=3 by omega),if_neg (show ¬(l.getD i ev0).knd=4 by omega),if_pos (show (l.getD i ev0).knd=6 by omega)];first | rw [show eExact (l.getD i ev0).part=true by assumption,Bool.true_and] | rw [show eExact (l.getD i ev0).part=false by assumption,Bool.false_and]))
           ·
            refine A10 ?_
            exact E1 rfl rfl (Le.bool (by rw [eR_n (by omega) (by omega) (by simp only [RN];omega),RB,if_neg (show ¬(l.getD i ev0).knd=1 by omega),if_neg (show ¬(l.getD i ev0).knd=3 by omega),if_neg (show ¬(l.getD i ev0).knd=4 by omega),if_pos (show (l.getD i ev0).knd=6 by omega)];first | rw [show eExact (l.getD i ev0).part=true by assumption,Bool.true_and] | rw [show eExact (l.getD i ev0).part=false by assumption,Bool.false_and]))
theorem c_R22Valid (l:List Ev) (hD: ∀e∈l,e.part.dig/\e.pay.dig) (hC:capE l):
  Ct Tryz.prog 23 [tL 14 true tEv l] (tB (eVal l)):=by
 refine Ct.intro Tryz.func23 rfl Tryz.ntmps23 rfl ?_
 intro w F
 refine A13 ?_
 refine x6 rfl (fun h59=> ?_) (fun h59=> ?_)
 ·
  refine A7 ?_
  exact E1 rfl rfl (Le.bool (by rw [eVal,decide_eq_false (by omega)];rfl))
 ·
  refine A9 ?_
  refine cL (fun (i:Nat)=>i<=l.length/\(List.range i).all (eRight l)=true) (fun (i:Nat)=>uV (uV uN 0 (tL 14 true tEv l)) 3 (tI i)) (fun (i:Nat)=>fun _=>none) [] (fun (i:Nat)=>l.length - i) (0) ⟨Nat.zero_le _,rfl⟩ ?_
  intro i hI
  obtain ⟨hi,ha⟩:=hI
  refine A9 ?_
  refine x6 rfl (fun h62=> ?_) (fun h62=> ?_)
  ·
   refine A8 ?_
   refine R2 (x3 (c_R22Right l i (by omega) (by omega) hD hC) fi64 rfl) rfl rfl ?_
   refine A3 ?_
   refine xc2 rfl (fun h63=> ?_) (fun h63=> ?_)
   ·
    refine A11 ?_
    exact E1 rfl rfl (Le.bool (by rw [eVal,xv4 (i:=i) (by omega) (by simpa using h63),Bool.and_false]))
   ·
    refine A8 ?_
    exact kF (i+1) ⟨⟨by omega,by rw [xp6,ha,show eRight l i=true by simpa using h63];rfl⟩,(by omega)⟩
  ·
   refine A11 ?_
   exact E1 rfl rfl (Le.bool (by rw [eVal,decide_eq_true (by omega),show l.length=i by omega,ha];rfl))
theorem c_R22Add (l:List Ev) (x:Ev) (hD: ∀e∈l,e.part.dig/\e.pay.dig) (hx:x.part.dig/\x.pay.dig) (hC:capE l) (hCx:capE [x]):
  Ct Tryz.prog 22 [tL 14 true tEv l,tEv x] (tT [tL 14 true tEv (addO l x),tI (addE l x)]):=by
 have hlx:(l++[x]).length=l.length+1:=by rw [List.length_append];rfl
 have hDx: ∀e∈l++[x],e.part.dig/\e.pay.dig:=fun e he=>by
  rcases List.mem_append.1 he with h | h
  ·exact hD e h
  ·rw [List.mem_singleton.1 h];exact hx
 have hCX:capE (l++[x]):=fun e he=>by
  rcases List.mem_append.1 he with h | h
  ·exact hC e h
  ·exact hCx e h
 refine Ct.intro Tryz.func22 rfl Tryz.ntmps22 rfl ?_
 intro w F
 refine xg9 (s:=0) rfl (fun hl0=> ?_)
 refine A11 ?_
 refine R1 (x3 (c_R22Valid l hD hC) fi23 rfl) rfl ?_
 refine A3 ?_
 refine xc2 rfl (fun h72=> ?_) (fun h72=> ?_)
 ·
  refine A8 ?_
  exact E2 rfl rfl rfl (leNil (by rw [addO,if_neg (fun hh=>by simp [hh.1] at h72)])) (Le.int (by rw [addE,if_pos (by simpa using h72)]))
 ·
  refine A4 ?_
  have hvl:eVal l=true:=by simpa using h72
  have hlen:l.length<=100:=by rw [eVal,Bool.and_eq_true,decide_eq_true_eq] at hvl;exact hvl.1
  refine A6 ?_
  refine x6 rfl (fun h75=> ?_) (fun h75=> ?_)
  ·
   refine A8 ?_
   exact E2 rfl rfl rfl (leNil (by rw [addO,if_neg (fun hh=>by omega)])) (Le.int (by rw [addE,if_neg (by rw [hvl];decide),if_pos (by omega)]))
  ·
   refine A4 ?_
   refine RE (d_empty (k:=13) Tryz.underlying22 el29 rfl (fun h=>by cases h)) trivial trivial qA ?_
   refine A1 ?_
   refine RE (xb3 (k:=13) (k':=15) (f:=tEv) (ys:=l) (ts':=rV tEv l) Tryz.underlying22 el29 zf29 rfl rfl (fun _=>inferInstance) rfl (by simp;omega) (by simp;omega) (by simp [rV]) (n':=l.length) (by simp)) ⟨rfl,rfl,trivial⟩ ⟨rfl,trivial⟩ ⟨rfl,trivial⟩ ?_
   refine A1 ?_
   refine R1 (xb5 (n:=1) (f:=tEv) [x] Tryz.underlying22 el29 zf29 rfl (fun _=>inferInstance) rfl rfl rfl) rfl (RE (xk5 (k:=15) (k':=18) (f:=tEv) l x Tryz.underlying22 el29 zf29 rfl rfl (fun _=>inferInstance) rfl ⟨by omega,by omega⟩ rfl) qB qA qA ?_)
   refine A7 ?_
   refine RE (d_callR 18 29 14 (l.length+1) [.own (.sl 18 14 0 (l.length+1))] (fun _ _ _ _ h=>h) (c_R22Valid _ hDx hCX) fi23 (fun _ h=>h) (xg2 hlx) hlx ⟨.inr ⟨rfl,rfl⟩,trivial⟩ rfl) qA qA trivial ?_
   refine A3 ?_
   refine xc2 rfl (fun h79=> ?_) (fun h79=> ?_)
   ·
    refine A8 ?_
    exact E2 rfl rfl rfl (leNil (by rw [addO,if_neg (fun hh=>by simp [hh.2.2] at h79)])) (Le.int (by rw [addE,if_neg (by rw [hvl];decide),if_neg (by omega),if_neg (fun hh=>by simp [hh] at h79)]))
   ·
    refine A3 ?_
    have hvx:eVal (l++[x])=true:=by simpa using h79
    refine C_give (t:=6) (k:=18) (f:=tEv) (xs:=(l++[x])) rfl rfl (fun _ h=>h) (xg2 hlx) hlx ?_
    refine A7 ?_
    exact E2 rfl rfl rfl (Le.of (by rw [addO,if_pos ⟨hvl,by omega,hvx⟩])) (Le.int (by rw [addE,if_neg (by rw [hvl];decide),if_neg (by omega),if_pos hvx]))
instance fi5:FnI Tryz.prog 5:=⟨_,Tryz.func5,by kernel_rfl,rfl⟩
instance fi6:FnI Tryz.prog 6:=⟨_,Tryz.func6,by kernel_rfl,rfl⟩
instance fi7:FnI Tryz.prog 7:=⟨_,Tryz.func7,by kernel_rfl,rfl⟩
instance fi18:FnI Tryz.prog 18:=⟨_,Tryz.func18,by kernel_rfl,rfl⟩
instance fi19:FnI Tryz.prog 19:=⟨_,Tryz.func19,by kernel_rfl,rfl⟩
instance fi21:FnI Tryz.prog 21:=⟨_,Tryz.func21,by kernel_rfl,rfl⟩
instance fi22:FnI Tryz.prog 22:=⟨_,Tryz.func22,by kernel_rfl,rfl⟩
instance fi24:FnI Tryz.prog 24:=⟨_,Tryz.func24,by kernel_rfl,rfl⟩
instance fi26:FnI Tryz.prog 26:=⟨_,Tryz.func26,by kernel_rfl,rfl⟩
instance fi28:FnI Tryz.prog 28:=⟨_,Tryz.func28,by kernel_rfl,rfl⟩
theorem c_SameEventsT (l:List Ev):Ct Tryz.prog 28 [tL 14 true tEv l,tL 14 true tEv l] (tB true):=by
 have:=c_SameEvents l l
 rw [decide_eq_true rfl] at this;exact this
theorem c_Few22 (l:List Ev) (hr:capE l):
  Ct Tryz.prog 5 [tL 14 true tEv l] (tB (fewE l)):=by
 refine Ct.intro Tryz.func5 rfl Tryz.ntmps5 rfl ?_
 intro w F
 refine A17 ?_
 refine cL (fun (i:Nat)=>i<=l.length/\i<=101) (fun (i:Nat)=>uV (uV (uV uN 0 (tL 14 true tEv l)) 3 (tI ((limE (l.take i)):Nat))) 4 (tI i)) (fun (i:Nat)=>fun _=>none) [] (fun (i:Nat)=>101 - i) (0) ⟨Nat.zero_le _,by decide⟩ (hg:=(sI (Sub.le rfl (Le.int rfl) (sC Sub.nil)))) ?_
 intro i hI
 obtain ⟨hi,hi2⟩:=hI
 have hb:=limE_le hr hi
 have hsr:=fun hh=>hr _ (xe8 (l:=l) (i:=i) hh)
 refine A8 ?_
 refine RGcaseD (t:=9) rfl (fun h14=> ?_) (fun h14=> ?_)
 ·
  refine A5 ?_
  refine x6 rfl (fun h14_2=> ?_) (fun h14_2=> ?_)
  ·
   refine A4 ?_
   have hsr2:=hsr (by omega)
   refine A4 ?_
   refine R2 (x4 sl22 (i) (by omega) (gD (l:=l) (n:=i) (d:=ev0) (by omega))) rfl rfl (R1 (xf3 fo29_5.h (At.f 5 rfl rfl) rfl) rfl ?_)
   refine A1 ?_
   refine R1 (x3 (c_Limbs _ (by omega) (by omega)) fi18 rfl) rfl ?_
   refine A2 ?_
   refine R2 (x4 sl22 (i) (by omega) (gD (l:=l) (n:=i) (d:=ev0) (by omega))) rfl rfl (R1 (xf3 fo29_6.h (At.f 6 rfl rfl) rfl) rfl ?_)
   refine A1 ?_
   refine R1 (x3 (c_Limbs _ (by omega) (by omega)) fi18 rfl) rfl ?_
   refine A11 ?_
   have hsr:=hsr (by omega)
   exact kF (i+1) ⟨⟨by omega,by omega⟩,(by omega)⟩ (hg:=(sI (Sub.le rfl (Le.int (by rw [limE_next (by omega)];omega)) (sC Sub.nil))))
  ·
   refine A6 ?_
   have ht:=take_101 hi hi2 (by omega)
   refine A5 ?_
   refine RGcaseD (t:=33) rfl (fun h17=> ?_) (fun h17=> ?_)
   ·
    refine A12 ?_
    exact E1 rfl rfl (Le.bool (by rw [fewE,<-ht];first | (rw [decide_eq_true (show l.length<=40 by omega),Bool.true_or,Bool.true_and];exact decide_eq_decide.2 (by omega)) | (rw [decide_eq_true (show 100 < l.length by omega),Bool.or_true,Bool.true_and];exact decide_eq_decide.2 (by omega)) | (rw [decide_eq_false (show ¬l.length<=40 by omega),decide_eq_false (show ¬100 < l.length by omega)];rfl)))
   ·
    refine A5 ?_
    refine RGcaseD (t:=38) rfl (fun h17_2=> ?_) (fun h17_2=> ?_)
    ·
     refine A7 ?_
     exact E1 rfl rfl (Le.bool (by rw [fewE,<-ht];first | (rw [decide_eq_true (show l.length<=40 by omega),Bool.true_or,Bool.true_and];exact decide_eq_decide.2 (by omega)) | (rw [decide_eq_true (show 100 < l.length by omega),Bool.or_true,Bool.true_and];exact decide_eq_decide.2 (by omega)) | (rw [decide_eq_false (show ¬l.length<=40 by omega),decide_eq_false (show ¬100 < l.length by omega)];rfl)))
    ·
     refine A7 ?_
     exact E1 rfl rfl (Le.bool (by rw [fewE,<-ht];first | (rw [decide_eq_true (show l.length<=40 by omega),Bool.true_or,Bool.true_and];exact decide_eq_decide.2 (by omega)) | (rw [decide_eq_true (show 100 < l.length by omega),Bool.or_true,Bool.true_and];exact decide_eq_decide.2 (by omega)) | (rw [decide_eq_false (show ¬l.length<=40 by omega),decide_eq_false (show ¬100 < l.length by omega)];rfl)))
 ·
  refine A12 ?_
  have ht:=take_101 hi hi2 (by omega)
  refine A5 ?_
  refine RGcaseD (t:=33) rfl (fun h17=> ?_) (fun h17=> ?_)
  ·
   refine A12 ?_
   exact E1 rfl rfl (Le.bool (by rw [fewE,<-ht];first | (rw [decide_eq_true (show l.length<=40 by omega),Bool.true_or,Bool.true_and];exact decide_eq_decide.2 (by omega)) | (rw [decide_eq_true (show 100 < l.length by omega),Bool.or_true,Bool.true_and];exact decide_eq_decide.2 (by omega)) | (rw [decide_eq_false (show ¬l.length<=40 by omega),decide_eq_false (show ¬100 < l.length by omega)];rfl)))
  ·
   refine A5 ?_
   refine RGcaseD (t:=38) rfl (fun h17_2=> ?_) (fun h17_2=> ?_)
   ·
    refine A7 ?_
    exact E1 rfl rfl (Le.bool (by rw [fewE,<-ht];first | (rw [decide_eq_true (show l.length<=40 by omega),Bool.true_or,Bool.true_and];exact decide_eq_decide.2 (by omega)) | (rw [decide_eq_true (show 100 < l.length by omega),Bool.or_true,Bool.true_and];exact decide_eq_decide.2 (by omega)) | (rw [decide_eq_false (show ¬l.length<=40 by omega),decide_eq_false (show ¬100 < l.length by omega)];rfl)))
   ·
    refine A7 ?_
    exact E1 rfl rfl (Le.bool (by rw [fewE,<-ht];first | (rw [decide_eq_true (show l.length<=40 by omega),Bool.true_or,Bool.true_and];exact decide_eq_decide.2 (by omega)) | (rw [decide_eq_true (show 100 < l.length by omega),Bool.or_true,Bool.true_and];exact decide_eq_decide.2 (by omega)) | (rw [decide_eq_false (show ¬l.length<=40 by omega),decide_eq_false (show ¬100 < l.length by omega)];rfl)))
theorem c_adds22 (l:List Ev) (x:Ev) (hl:l.length<=799644820177) (hD: ∀e∈l,e.part.dig/\e.pay.dig) (hx:x.part.dig/\x.pay.dig) (hs:capE l) (hx1:(x.part.n.l.length<=70368744175616/\x.part.d.l.length<=70368744175616)/\x.pay.n.l.length<=70368744175616/\x.pay.d.l.length<=70368744175616):
  Ct Tryz.prog 6 [tL 14 true tEv l,tEv x] (tB true):=by
 have hcx:capE [x]:=fun e he=>by rw [List.mem_singleton.1 he];exact hx1
 refine Ct.introO Tryz.func6 rfl Tryz.ntmps6 rfl ?_
 intro w F
 refine A9 ?_
 refine R1 (xj1 (ts:=[_]) (r:=tG (up w.heap.size) _) (c_LentEventsN l hl hs) fi19 (fun m hm=>tG_up hm) ⟨tG_le,trivial⟩ rfl) rfl ?_
 refine A1 ?_
 refine R1 (xj1 (ts:=[_]) (r:=tG (up w.heap.size) _) (c_LentEventN x hx1.1.1 hx1.1.2 hx1.2.1 hx1.2.2) fi20 (fun m hm=>tG_up hm) ⟨tG_le,trivial⟩ rfl) rfl (RE (x7 (k:=6) (n:=14) (agg:=true) zr29.1 zr29.2 rfl) trivial trivial qA ?_)
 refine A5 ?_
 refine C_lentK (W:=tEsW l) (U:=tEvW x) (agg:=true) 99 153 5 6 29 14 (g':=fun v=>uO (uV (uV (uO (uV uN 0 (tL 14 true tEv l)) 3 (.ptr 3 0)) 4 (tB false)) 5 (tE v)) 6 (.ptr 6 0)) (h':=fun u=>upd (upd (fun _=>none) 3 (some ⟨29,14,true,[.val (tEv x)]⟩)) 6 (some ⟨29,14,true,[.val (tE u)]⟩)) rfl rfl rfl (fun _ L hL=>SlC.cons rfl .own (SlC.cons rfl .cst (SlC.cons rfl (.val tG_E) (SlC.cons rfl .own (SlC.cons rfl (.val (tG_old hL)) (SlC.nil)))))) (fun _ _ _ hL=>KyC.cons rfl .cst (KyC.cons rfl (.val (tG_old hL)) KyC.nil)) ?_
 intro L w1 v u hv hu hL1 hL2
 refine A3 ?_
 refine RE (d_callH (us':=[tE v,tE u]) (r:=tT [tL 14 true tEv (addO l x),tI (addE l x)]) OvC.mk' (c_AddN l x hD hx) fi21 hrT ⟨.inr ⟨_,rfl,esW_le _ _ _ hv⟩,.inr ⟨_,rfl,evW_le _ _ _ hu⟩,trivial⟩ rfl) qB qA trivial ?_
 refine A11 ?_
 refine R2 (x3 (c_R22Add l x hD hx hs hcx) fi22 rfl) rfl rfl ?_
 refine A14 ?_
 refine Rg (decide_eq_false (by simp)) rfl xb9 rfl qA (RGon (decide_eq_false (by simp)) rfl (d_callH (us':=[tE v]) (r:=tB (eVal l)) (rr:=fun _=>tB (eVal l)) OvC.mk' (c_EValid l hD) fi11 (hrE fun _=>rfl) ⟨.inr ⟨_,rfl,esW_le _ _ _ hv⟩,trivial⟩ rfl) rfl qA qA trivial (Rg (decide_eq_false (by simp)) rfl xb9 rfl qA (Rg (decide_eq_false (by simp)) rfl (x3 (c_R22Valid l hD hs) fi23 rfl) rfl qA (Rg (decide_eq_false (by simp)) rfl (d_neqB Tryz.underlying4) rfl qB (R2 (xc7 (decide_eq_false (by simp))) rfl rfl ?_)))))
 refine A1 ?_
 refine Rg (by simp) rfl xb9 rfl qA (Rg (by simp) rfl xb9 rfl qA (RGon (by simp) rfl (d_callH (us':=[tE v,tL 14 true tEv l]) (r:=tB true) (rr:=fun _=>tB true) OvC.mk' (c_KeptEvents l hl hs) fi24 (hrE fun _=>rfl) ⟨.inr ⟨_,rfl,hv⟩,.inl Le.refl,trivial⟩ rfl) rfl qB qA trivial (Rg (by simp) rfl d_not rfl qA (R2 (xc7 (by simp)) rfl rfl ?_))))
 refine A3 ?_
 refine RGon rfl rfl (d_callH (us':=[tE u,tEv x]) (r:=tB true) (rr:=fun _=>tB true) OvC.mk' (c_KeptEvent x hx1.1.1 hx1.1.2 hx1.2.1 hx1.2.2) fi25 (hrE fun _=>rfl) ⟨.inr ⟨_,rfl,hu⟩,.inl Le.refl,trivial⟩ rfl) rfl qB qA trivial ?_
 refine A10 ?_
 refine RE (xq5 (us:=[tE v]) OvC.mk' (v_OverEventsL L w1 l hl hs v hv) fi26 ⟨Free.E,trivial⟩ rfl) qA qA trivial ?_
 refine A5 ?_
 refine RE (xq5 (us:=[tE u]) OvC.mk' (v_OverEventL L w1 x hx1.1.1 hx1.1.2 hx1.2.1 hx1.2.2 u hu) fi27 ⟨Free.E,trivial⟩ rfl) qA qA trivial ?_
 refine A6 ?_
 refine R2 (x3 (c_SameEventsT _) fi28 rfl) rfl rfl ?_
 refine A4 ?_
 exact E_retB (RBase.ov hL2) trivial rfl rfl
theorem c_MeAdds (l:List Ev) (x:Ev) (hl:l.length<=799644820177) (hD: ∀e∈l,e.part.dig/\e.pay.dig) (hx:x.part.dig/\x.pay.dig) (hs:capE l) (hx1:(x.part.n.l.length<=70368744175616/\x.part.d.l.length<=70368744175616)/\x.pay.n.l.length<=70368744175616/\x.pay.d.l.length<=70368744175616):
  Ct Tryz.prog 3 [tL 14 true tEv l,tEv x] (tB true):=by
 have hcx:capE [x]:=fun e he=>by rw [List.mem_singleton.1 he];exact hx1
 refine Ct.intro Tryz.func3 rfl Tryz.ntmps3 rfl ?_
 intro w F
 refine A9 ?_
 refine R1 (x3 (c_Few22 l hs) fi5 rfl) rfl ?_
 refine A2 ?_
 refine RGcase (t:=8) rfl (fun h128=> ?_) (fun h128=> ?_)
 ·
  refine A11 ?_
  refine Rg rfl rfl (x3 c_awake22 fi7 rfl) rfl trivial ?_
  refine A5 ?_
  exact E1 rfl rfl Le.refl
 ·
  refine A1 ?_
  refine Rg h128 rfl (xb5 (n:=1) (f:=tEv) [x] Tryz.underlying22 el29 zf29 rfl (fun _=>inferInstance) rfl rfl rfl) rfl qA (Rg h128 rfl (x3 (c_Few22 [x] hcx) fi5 rfl) rfl qA ?_)
  refine A3 ?_
  refine RGcase (t:=14) rfl (fun h128_2=> ?_) (fun h128_2=> ?_)
  ·
   refine A5 ?_
   refine Rg rfl rfl (x3 c_awake22 fi7 rfl) rfl trivial ?_
   refine A5 ?_
   exact E1 rfl rfl Le.refl
  ·
   refine A2 ?_
   refine Rg h128_2 rfl (x3 (c_adds22 l x hl hD hx hs hx1) fi6 rfl) rfl qB ?_
   refine A2 ?_
   refine Rg rfl rfl (x3 c_awake22 fi7 rfl) rfl trivial ?_
   refine A5 ?_
   exact E1 rfl rfl Le.refl
end An.S
namespace An.S
open Go Go.Proofs An
open Go.ChangeShapes Go.WideShapes Go.ChangeAt Go.RowKit
theorem own:ownKnob Tryz.prog.godebug=none:=by kernel_rfl
theorem laidOut:laidOutB Tryz.prog=true:=by kernel_rfl
theorem oBool:Opn Tryz.prog 4 1 false (fun b:Bool=>tB b) (fun _=>True):=Opn.bool Tryz.underlying4 (by kernel_rfl)
theorem oInt:Opn Tryz.prog 3 1 false (fun n:Int=>tI n) (fun n=>IntKind.i64.min<=n/\n<=IntKind.i64.max):=Opn.int Tryz.underlying3 (by kernel_rfl)
theorem oU16:Opn Tryz.prog 153 1 false (fun n:Nat=>tE (.int .u16 n)) (fun n=>n < 65536):=Opn.nat Tryz.underlying153 (by kernel_rfl) rfl rfl
theorem oU8:Opn Tryz.prog 5 1 false (fun n:Nat=>tE (.int .u8 n)) (fun n=>n < 256):=Opn.nat Tryz.underlying5 (by kernel_rfl) rfl rfl
theorem oLm:OpnW Tryz.prog 23 1 false (fun l:List Nat=>tLm l) (fun l=>Dig 65536 l/\l.length<=70368744175616):=(OpnW.slice (by_:=2) Tryz.underlying23 (by kernel_rfl) (by kernel_rfl) (OpnW.of oU16)).as id (fun _=>rfl) (fun l h=>⟨h.1,by have h2:l.length*2<=140737488351232:=h.2;show l.length<=_;omega⟩)
def whFits (x:Wh):Prop:=Dig 65536 x.l/\x.l.length<=70368744175616
def frFits (x:Fr):Prop:=whFits x.n/\whFits x.d
theorem oWh:OpnW Tryz.prog 25 2 true (fun x:Wh=>tWh x) whFits:=
 (OpnW.struct Tryz.underlying25 (by kernel_rfl) (by decide) (OpnWF.cons (OpnW.of oBool) rfl rfl (OpnWF.cons oLm rfl rfl OpnWF.nil rfl) rfl)).as (fun x=>⟨x.1,x.2.1⟩) (fun _=>rfl) (fun _ h=>h.2.1)
theorem oFr:OpnW Tryz.prog 27 4 true (fun x:Fr=>tFr x) frFits:=
 (OpnW.struct Tryz.underlying27 (by kernel_rfl) (by decide) (OpnWF.cons oWh rfl rfl (OpnWF.cons oWh rfl rfl OpnWF.nil rfl) rfl)).as (fun x=>⟨x.1,x.2.1⟩) (fun _=>rfl) (fun _ h=>⟨h.1,h.2.1⟩)
abbrev evFits (e:Ev):Prop:=frFits e.part/\frFits e.pay
theorem oEv:OpnW Tryz.prog 29 14 true (fun x:Ev=>tEv x) evFits:=
 (OpnW.struct Tryz.underlying29 (by kernel_rfl) (by decide) (OpnWF.cons (OpnW.of oU8) rfl rfl (OpnWF.cons (OpnW.of oInt) rfl rfl (OpnWF.cons (OpnW.of oInt) rfl rfl (OpnWF.cons (OpnW.of oInt) rfl rfl (OpnWF.cons (OpnW.of oInt) rfl rfl (OpnWF.cons oFr rfl rfl (OpnWF.cons oFr rfl rfl (OpnWF.cons (OpnW.of oInt) rfl rfl OpnWF.nil rfl) rfl) rfl) rfl) rfl) rfl) rfl) rfl)).as (fun x=>⟨x.1,x.2.1,x.2.2.1,x.2.2.2.1,x.2.2.2.2.1,x.2.2.2.2.2.1,x.2.2.2.2.2.2.1,x.2.2.2.2.2.2.2.1⟩) (fun _=>rfl) (fun _ h=>⟨h.2.2.2.2.2.1,h.2.2.2.2.2.2.1⟩)
theorem oEvents:OpnW Tryz.prog 22 1 false (fun l:List Ev=>tL 14 true tEv l) (fun l=>(∀e∈l,evFits e)/\l.length<=799644820177):=(OpnW.slice (by_:=176) Tryz.underlying22 (by kernel_rfl) (by kernel_rfl) oEv).as id (fun _=>rfl) (fun l h=>⟨h.1,by have h2:l.length*176<=140737488351232:=h.2;show l.length<=_;omega⟩)
theorem evD {e:Ev} (h:evFits e):e.part.dig/\e.pay.dig:=⟨⟨h.1.1.1,h.1.2.1⟩,⟨h.2.1.1,h.2.2.1⟩⟩
theorem evC {e:Ev} (h:evFits e):(e.part.n.l.length<=70368744175616/\e.part.d.l.length<=70368744175616)/\e.pay.n.l.length<=70368744175616/\e.pay.d.l.length<=70368744175616:=⟨⟨h.1.1.2,h.1.2.2⟩,h.2.1.2,h.2.2.2⟩
theorem walked {f:FuncId} {ts:List Ty} (h:Ct Tryz.prog f ts (tB true)) {vs:List Value} {W:World} (ha:Tup.all (Old W) W ts vs):Calls Tryz.prog f vs.toArray W fun e W'=>e= .returned (.bool true)/\Ext W W':=
 (h (Old W) W vs ha).mono fun e W' ⟨v,h1,h2,h3⟩=>by
  have h3:v= .bool true:=h3
  subst h3;exact ⟨h1,h2⟩
end An.S
