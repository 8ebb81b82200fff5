/- Part 5 of a proof: F10. -/
import Derived.Test.YtdilcbnmhgjheaaGreatDoorL4
set_option maxHeartbeats 4000000
set_option maxRecDepth 100000
namespace An.S
open Go Go.Proofs An
instance fi10:FnI Tryz.prog 10:=⟨_,Tryz.func10,by kernel_rfl,rfl⟩
instance fi11:FnI Tryz.prog 11:=⟨_,Tryz.func11,by kernel_rfl,rfl⟩
instance fi17:FnI Tryz.prog 17:=⟨_,Tryz.func17,by kernel_rfl,rfl⟩
instance fi18:FnI Tryz.prog 18:=⟨_,Tryz.func18,by kernel_rfl,rfl⟩
instance fi20:FnI Tryz.prog 20:=⟨_,Tryz.func20,by kernel_rfl,rfl⟩
theorem c_AtV {D B:Int} {a:List Fa} (h:gR D B a) (key:ByteArray) (kn d:Int):Ct Tryz.prog 18 [tL 8 true tTs (vwT (toldT a key kn)),tI d] (tT [tVa ((gF (toldT a key kn) d).getD An.va0),tB (gF (toldT a key kn) d).isSome]):=by
 have hv:=h.view (key:=key) kn
 have:=c_At (vwT (toldT a key kn)) d (by omega) hv.1.dig
 rw [atR,if_pos hv.1.1,vw_val] at this;exact this
theorem c_RightV {D B:Int} {a:List Fa} (h:gR D B a) (key:ByteArray) (kn:Int):Ct Tryz.prog 16 [tL 8 true tTs (vwT (toldT a key kn))] (tB true):=by
 have hv:=h.view (key:=key) kn
 have:=c_TRight (vwT (toldT a key kn)) hv.1.dig
 rw [hv.1.1] at this;exact this
theorem dc_gF (l:List Fa) (key:ByteArray) (d kn:Int):(dcX l key d kn l.length < 0→gF (toldT l key kn) d=none)∧(¬dcX l key d kn l.length < 0→gF (toldT l key kn) d=if (l.getD (dcX l key d kn l.length).toNat fa0).gone=true then none else some (l.getD (dcX l key d kn l.length).toNat fa0).v):=by
 rw [gF,dc_all]
 refine ⟨fun h=> ?_,fun h=> ?_⟩
 ·rw [if_pos h];rfl
 ·rw [if_neg h];rfl
theorem opt_val {g:Bool} {v:Va} {o:Option Va} (h:o=if g=true then none else some v) (hs:o.isSome=true):o.getD An.va0=v:=by
 subst h
 cases g with
 | true=>cases hs
 | false=>rfl
theorem opt_ne {g:Bool} {v:Va} {o:Option Va} (h:o=if g=true then none else some v):(o.isSome != !g)=false:=by
 subst h
 cases g <;> rfl
theorem xg7 (b:Bool):(b != b)=false:=by cases b <;> rfl
theorem btT_bd {m:List Nt} (hm: ∀n∈m,ntOk n): ∀s∈btT m, -100000≤s.lo∧s.lo≤100000∧ -100000≤s.hi∧s.hi≤100000:=fun s hs=>by
 have:=((btT_ok hm).2 s hs).1.1.2;omega
theorem c_FaLast (m:List Nt) (day known:Int) (hm: ∀n∈m,ntOk n):
  Ct Tryz.prog 5 [tL 5 true tNt m,tI day,tI known] (tB true):=by
 have hR:=btT_ok hm
 have hbl:=btT_len (m:=m)
 have hk2:kys.length=2:=rfl
 have hlen:(lkF (btT m) day).length=1+4*(btT m).length:=by rw [lkF,List.length_cons,eds4F_len];omega
 refine Ct.intro Tryz.func5 rfl Tryz.ntmps5 rfl ?_
 intro w F
 refine A8 ?_
 refine R0 (x4 c_awake06 fi10 rfl) ?_
 refine A9 ?_
 refine R1 (x4 (c_Built06 m hm) fi11 rfl) rfl ?_
 refine A6 ?_
 refine R2 (xc2 (n:=2) (f:=fun s:ByteArray=>tSt s) kys Tryz.underlying35 el9 zf9 rfl (fun _=>inferInstance) rfl rfl rfl) rfl rfl ?_
 refine A5 ?_
 refine cL (fun (i:Nat)=>i≤2) (fun (i:Nat)=>upd (upd (upd (upd (upd (upd (fun _=>none) 1 (some (.val (tI day)))) 2 (some (.val (tI known)))) 7 (some (.val (tL 11 true tFa (btT m))))) 23 (some (.val (tL 1 false (fun s:ByteArray=>tSt s) kys)))) 24 (some (.val (tI 2)))) 25 (some (.val (tI i)))) (fun (i:Nat)=>fun _=>none) [] (fun (i:Nat)=>2 - i) (0) (Nat.zero_le _) ?_
 intro i hI
 refine A6 ?_
 refine x9 rfl (fun h62=> ?_) (fun h62=> ?_)
 ·
  refine A6 ?_
  refine R2 (x5 sl35 (i) (by omega) (gD (l:=kys) (n:=i) (d:=kPay) (by omega))) rfl rfl ?_
  refine A9 ?_
  refine R3 (x4 (c_ViewG hR (kys.getD i kPay) known) fi12 rfl) rfl rfl rfl ?_
  refine A13 ?_
  refine RGon (decide_eq_false (by omega)) rfl xa8 rfl ⟨rfl,trivial⟩ trivial trivial (RGon (decide_eq_false (by omega)) rfl (x4 (c_RightV hR (kys.getD i kPay) known) fi16 rfl) rfl ⟨rfl,trivial⟩ trivial trivial (RGon (decide_eq_false (by omega)) rfl d_not rfl ⟨rfl,trivial⟩ trivial trivial (R2 (xd4 (decide_eq_false (by omega))) rfl rfl ?_)))
  refine A9 ?_
  refine R2 (x4 (c_look06 (btT m) day (by omega) (btT_bd hm)) fi17 rfl) rfl rfl ?_
  refine A5 ?_
  refine cL (fun (j:Nat)=>j≤(lkF (btT m) day).length) (fun (j:Nat)=>upd (upd (upd (upd (upd (upd (upd (upd (upd (upd (upd (fun _=>none) 1 (some (.val (tI day)))) 2 (some (.val (tI known)))) 7 (some (.val (tL 11 true tFa (btT m))))) 9 (some (.val (tSt (kys.getD i kPay))))) 10 (some (.val (tL 8 true tTs (vwT (toldT (btT m) (kys.getD i kPay) known)))))) 23 (some (.val (tL 1 false (fun s:ByteArray=>tSt s) kys)))) 24 (some (.val (tI 2)))) 25 (some (.val (tI i)))) 45 (some (.val (tL 1 false tI (lkF (btT m) day))))) 46 (some (.val (tI (lkF (btT m) day).length)))) 47 (some (.val (tI j)))) (fun (j:Nat)=>fun _=>none) [] (fun (j:Nat)=>(lkF (btT m) day).length - j) (0) (Nat.zero_le _) ?_
  intro j hI2
  have hdb:=dcX_bd (l:=(btT m)) (key:=(kys.getD i kPay)) (d:=((lkF (btT m) day).getD j 0)) (kn:=known) (btT m).length
  have hdg:=dc_gF (btT m) (kys.getD i kPay) ((lkF (btT m) day).getD j 0) known
  refine A6 ?_
  refine x9 rfl (fun h67=> ?_) (fun h67=> ?_)
  ·
   refine A6 ?_
   refine R2 (x5 sl42 (j) (by omega) (gD (l:=(lkF (btT m) day)) (n:=j) (d:=0) (by omega))) rfl rfl ?_
   refine A8 ?_
   refine R2 (x4 (c_AtV hR (kys.getD i kPay) known ((lkF (btT m) day).getD j 0)) fi18 rfl) rfl rfl ?_
   refine A3 ?_
   refine RE (xa6 (k:=14) (n:=6) (agg:=true) zr32.1 zr32.2 rfl) trivial trivial ⟨rfl,trivial⟩ ?_
   refine A10 ?_
   refine RE (x4 (c_FAtG hR (kys.getD i kPay) ((lkF (btT m) day).getD j 0) known) fi19 rfl) ⟨rfl,rfl,rfl,rfl,trivial⟩ trivial trivial ?_
   refine A3 ?_
   refine RE (xa6 (k:=16) (n:=6) (agg:=true) zr32.1 zr32.2 rfl) trivial trivial ⟨rfl,trivial⟩ ?_
   refine A10 ?_
   refine RE (x4 (c_decides (btT m) (kys.getD i kPay) ((lkF (btT m) day).getD j 0) known) fi20 rfl) ⟨rfl,rfl,rfl,rfl,trivial⟩ trivial trivial ?_
   refine A9 ?_
   refine RGcaseD (t:=73) rfl (fun h71=> ?_) (fun h71=> ?_)
   ·
    have hgo:=hdg.2 (by omega)
    refine A2 ?_
    refine RGon (decide_eq_true h71) rfl (x5 sl24 ((dcX (btT m) (kys.getD i kPay) ((lkF (btT m) day).getD j 0) known (btT m).length).toNat) (by omega) (gD (l:=(btT m)) (n:=(dcX (btT m) (kys.getD i kPay) ((lkF (btT m) day).getD j 0) known (btT m).length).toNat) (d:=fa0) (by omega))) rfl ⟨rfl,rfl,trivial⟩ trivial trivial (RGon (decide_eq_true h71) rfl (xb7 fo34_4.h (At.f 4 rfl rfl) rfl) rfl ⟨rfl,trivial⟩ trivial trivial ?_)
    refine A5 ?_
    refine RGon (by exact opt_ne hgo) rfl xa8 rfl ⟨rfl,trivial⟩ trivial trivial (RGon (by exact opt_ne hgo) rfl xa8 rfl ⟨rfl,trivial⟩ trivial trivial (RGon (by exact opt_ne hgo) rfl (d_neqB Tryz.underlying4) rfl ⟨rfl,rfl,trivial⟩ trivial trivial (R2 (xd4 (by exact opt_ne hgo)) rfl rfl ?_)))
    refine A1 ?_
    refine RGon (by exact xg7 _) rfl xa8 rfl ⟨rfl,trivial⟩ trivial trivial (RGon (by exact xg7 _) rfl xa8 rfl ⟨rfl,trivial⟩ trivial trivial ?_)
    refine RGcase (t:=89) rfl (fun h71_4=> ?_) (fun h71_4=> ?_)
    ·
     refine A3 ?_
     refine RGon h71_4 rfl (x5 sl24 ((dcX (btT m) (kys.getD i kPay) ((lkF (btT m) day).getD j 0) known (btT m).length).toNat) (by omega) (gD (l:=(btT m)) (n:=(dcX (btT m) (kys.getD i kPay) ((lkF (btT m) day).getD j 0) known (btT m).length).toNat) (d:=fa0) (by omega))) rfl ⟨rfl,rfl,trivial⟩ trivial trivial (RGon h71_4 rfl (xb7 fo34_5.h (At.f 5 rfl rfl) rfl) rfl ⟨rfl,trivial⟩ trivial trivial ?_)
     refine A1 ?_
     refine RGon h71_4 rfl (x4 (c_sameVv _ _ (opt_val hgo h71_4)) fi21 rfl) rfl ⟨rfl,rfl,trivial⟩ trivial trivial ?_
     refine A4 ?_
     refine RGon rfl rfl (x4 (c_sameVv _ _ rfl) fi21 rfl) rfl ⟨rfl,rfl,trivial⟩ trivial trivial ?_
     refine A1 ?_
     refine RGon h71_4 rfl (xd4 rfl) rfl ⟨rfl,rfl,trivial⟩ trivial trivial (RGon (by exact xg7 _) rfl (xj5 h71_4) rfl ⟨rfl,rfl,trivial⟩ trivial trivial (R2 (xd4 (by exact xg7 _)) rfl rfl ?_))
     refine A10 ?_
     exact kF (j+1) ⟨(by omega),(by omega)⟩
    ·
     refine A14 ?_
     refine RGon (by exact xg7 _) rfl (xd4 h71_4) rfl ⟨rfl,rfl,trivial⟩ trivial trivial (R2 (xd4 (by exact xg7 _)) rfl rfl ?_)
     refine A10 ?_
     exact kF (j+1) ⟨(by omega),(by omega)⟩
   ·
    have hgo:=hdg.1 (by omega)
    refine A9 ?_
    refine RGon (by rw [hgo];rfl) rfl xa8 rfl ⟨rfl,trivial⟩ trivial trivial (RGon (by rw [hgo];rfl) rfl xa8 rfl ⟨rfl,trivial⟩ trivial trivial (RGon (by rw [hgo];rfl) rfl (d_neqB Tryz.underlying4) rfl ⟨rfl,rfl,trivial⟩ trivial trivial (R2 (xd4 (by rw [hgo];rfl)) rfl rfl ?_)))
    refine A1 ?_
    refine RGon (by exact xg7 _) rfl xa8 rfl ⟨rfl,trivial⟩ trivial trivial (RGon (by exact xg7 _) rfl xa8 rfl ⟨rfl,trivial⟩ trivial trivial (RGoff (by rw [hgo];rfl) rfl rfl (RGoff (by rw [hgo];rfl) rfl rfl (RGoff (by rw [hgo];rfl) rfl rfl (RGoff (by rw [hgo];rfl) rfl rfl (RGoff (by rw [hgo];rfl) rfl rfl (RGoff (by rw [hgo];rfl) rfl rfl ?_)))))))
    refine RGoff (by rw [hgo];rfl) rfl rfl (RGoff (by rw [hgo];rfl) rfl rfl (RGoff (by rw [hgo];rfl) rfl rfl ?_))
    refine A4 ?_
    refine RGoff (by rw [hgo];rfl) rfl rfl (RGon (by exact xg7 _) rfl (xd4 (by rw [hgo];rfl)) rfl ⟨rfl,rfl,trivial⟩ trivial trivial (R2 (xd4 (by exact xg7 _)) rfl rfl ?_))
    refine A10 ?_
    exact kF (j+1) ⟨(by omega),(by omega)⟩
  ·
   refine A10 ?_
   exact kF (i+1) ⟨(by omega),(by omega)⟩
 ·
  refine A11 ?_
  exact x3 Plain.mk' rfl rfl Le.refl
end An.S
