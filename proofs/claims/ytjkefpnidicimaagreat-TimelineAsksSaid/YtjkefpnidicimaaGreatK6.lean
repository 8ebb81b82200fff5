/- Part 6 of a proof: N2, X7. -/
import Derived.Test.YtjkefpnidicimaaGreatK5
/- Results that lie in new memory: values, sets, days. -/
namespace An.S
open Go Go.Proofs An
set_option maxHeartbeats 2000000
set_option maxRecDepth 100000
abbrev tVG (v:Va) (a b:Ty):Ty:=tS [⟨1,false,tE (.int .u8 (v.kind:Int))⟩,⟨4,true,tS [⟨2,true,tS [⟨1,false,tB v.f.n.neg⟩,⟨1,false,a⟩]⟩,⟨2,true,tS [⟨1,false,tB v.f.d.neg⟩,⟨1,false,b⟩]⟩]⟩,⟨1,false,tI v.i⟩]
theorem upNG (v:Va) {a a' b:Ty} [Shape a' 1 false] [Shape b 1 false]:Up (tVG v a b) (1+(0+1)) 1 false a' (tVG v a' b):=
  Up.t (t1:=tS [⟨2,true,tS [⟨1,false,tB v.f.n.neg⟩,⟨1,false,a⟩]⟩,⟨2,true,tS [⟨1,false,tB v.f.d.neg⟩,⟨1,false,b⟩]⟩]) (t1':=tS [⟨2,true,tS [⟨1,false,tB v.f.n.neg⟩,⟨1,false,a'⟩]⟩,⟨2,true,tS [⟨1,false,tB v.f.d.neg⟩,⟨1,false,b⟩]⟩]) (At.g 1 rfl rfl) (Up.f (f:=⟨4,true,tS [⟨2,true,tS [⟨1,false,tB v.f.n.neg⟩,⟨1,false,a⟩]⟩,⟨2,true,tS [⟨1,false,tB v.f.d.neg⟩,⟨1,false,b⟩]⟩]⟩) 1 rfl rfl rfl)
    (Up.t (t1:=tS [⟨1,false,tB v.f.n.neg⟩,⟨1,false,a⟩]) (t1':=tS [⟨1,false,tB v.f.n.neg⟩,⟨1,false,a'⟩]) (At.g 0 rfl rfl) (Up.f (f:=⟨2,true,tS [⟨1,false,tB v.f.n.neg⟩,⟨1,false,a⟩]⟩) 0 rfl rfl rfl) (Up.f (f:=⟨1,false,a⟩) 1 rfl rfl rfl))
theorem upDG (v:Va) {a b b':Ty} [Shape a 1 false] [Shape b' 1 false]:Up (tVG v a b) (1+(2+1)) 1 false b' (tVG v a b'):=
  Up.t (t1:=tS [⟨2,true,tS [⟨1,false,tB v.f.n.neg⟩,⟨1,false,a⟩]⟩,⟨2,true,tS [⟨1,false,tB v.f.d.neg⟩,⟨1,false,b⟩]⟩]) (t1':=tS [⟨2,true,tS [⟨1,false,tB v.f.n.neg⟩,⟨1,false,a⟩]⟩,⟨2,true,tS [⟨1,false,tB v.f.d.neg⟩,⟨1,false,b'⟩]⟩]) (At.g 1 rfl rfl) (Up.f (f:=⟨4,true,tS [⟨2,true,tS [⟨1,false,tB v.f.n.neg⟩,⟨1,false,a⟩]⟩,⟨2,true,tS [⟨1,false,tB v.f.d.neg⟩,⟨1,false,b⟩]⟩]⟩) 1 rfl rfl rfl)
    (Up.t (t1:=tS [⟨1,false,tB v.f.d.neg⟩,⟨1,false,b⟩]) (t1':=tS [⟨1,false,tB v.f.d.neg⟩,⟨1,false,b'⟩]) (At.g 1 rfl rfl) (Up.f (f:=⟨2,true,tS [⟨1,false,tB v.f.d.neg⟩,⟨1,false,b⟩]⟩) 1 rfl rfl rfl) (Up.f (f:=⟨1,false,b⟩) 1 rfl rfl rfl))
theorem vaGN {G:Dom} {v:Va}:Le (tVG v (tG G (tLm v.f.n.l)) (tG G (tLm v.f.d.l))) (tG G (tVa v)):=leG_S ⟨⟨rfl,rfl,tG_E⟩,⟨rfl,rfl,leG_S ⟨⟨rfl,rfl,leG_S ⟨⟨rfl,rfl,tG_E⟩,⟨rfl,rfl,Le.refl⟩,trivial⟩⟩,⟨rfl,rfl,leG_S ⟨⟨rfl,rfl,tG_E⟩,⟨rfl,rfl,Le.refl⟩,trivial⟩⟩,trivial⟩⟩,⟨rfl,rfl,tG_E⟩,trivial⟩
theorem va0N {G:Dom}:Le (tVa An.va0) (tG G (tVa An.va0)):=va00N
theorem c_copiedN (v:Va) (h1:v.f.n.l.length≤1000000) (h2:v.f.d.l.length≤1000000):
    CtN Tryz.prog 185 [tVa v] (fun nw=>tG (up nw) (tVa v)):=by
  refine CtN.intro Tryz.func185 rfl Tryz.ntmps185 rfl ?_
  intro w F
  refine A3 ?_
  refine RE (xa3 (k:=2) (n:=6) (agg:=true) zr57.1 zr57.2 rfl) trivial trivial ⟨rfl,trivial⟩ ?_
  refine A7 ?_
  refine xg8 (0) ti37 rfl rfl rfl (At.t (At.g 1 rfl rfl) (At.t (At.g 0 rfl rfl) (At.g 1 rfl rfl))) rfl ?_
  refine R1 (xh4 (ts:=[_]) (r:=tG (up w.heap.size) _) (CtN.ofG (c_clone16 _ h1) rfl fun _=>Free.E) fi216 (fun m hm=>tG_up hm) ⟨Le.refl,trivial⟩ rfl) rfl ?_
  refine A3 ?_
  refine RE (d_storeF (k:=1) (T0:=57) (es:=6) (ts:=[.val (tVG v (tLm v.f.n.l) (tLm v.f.d.l))]) (0) ti37 rfl (upNG v (a':=tG (up w.heap.size) (tLm v.f.n.l))) rfl rfl) ⟨rfl,rfl,trivial⟩ ⟨rfl,trivial⟩ trivial ?_
  refine A7 ?_
  refine xg8 (0) ti37 rfl rfl rfl (At.t (At.g 1 rfl rfl) (At.t (At.g 1 rfl rfl) (At.g 1 rfl rfl))) rfl ?_
  refine R1 (xh4 (ts:=[_]) (r:=tG (up w.heap.size) _) (CtN.ofG (c_clone16 _ h2) rfl fun _=>Free.E) fi216 (fun m hm=>tG_up hm) ⟨Le.refl,trivial⟩ rfl) rfl ?_
  refine A3 ?_
  refine RE (d_storeF (k:=1) (T0:=57) (es:=6) (ts:=[.val (tVG v (tG (up w.heap.size) (tLm v.f.n.l)) (tLm v.f.d.l))]) (0) ti37 rfl (upDG v (b':=tG (up w.heap.size) (tLm v.f.d.l))) rfl rfl) ⟨rfl,rfl,trivial⟩ ⟨rfl,trivial⟩ trivial ?_
  refine A9 ?_
  exact xe9 Plain.mk' rfl ⟨_,_,_,_,_,rfl,rfl,ti57,vaGN⟩
theorem c_AtN (l:List Tst) (d:Int) (hl:l.length≤1000000) (hD: ∀s∈l,s.v.f.dig):
    CtN Tryz.prog 100 [tL 8 true tTs l,tI d] (fun nw=>tT [tG (up nw) (tVa ((atR l d).getD An.va0)),tB (atR l d).isSome]):=by
  have hfl:=fndT_le (l:=l) (d:=d)
  refine CtN.intro Tryz.func100 rfl Tryz.ntmps100 rfl ?_
  intro w F
  refine A4 ?_
  refine RE (xa3 (k:=4) (n:=6) (agg:=true) zr57.1 zr57.2 rfl) trivial trivial ⟨rfl,trivial⟩ ?_
  refine A7 ?_
  refine R1 (x3 (xg2 l hD) fi106 rfl) rfl ?_
  refine A3 ?_
  refine xd3 rfl (fun h83=> ?_) (fun h83=> ?_)
  ·
    have hk: ¬tRight l=true:=by simpa using h83
    have hr:atR l d=none:=by rw [atR,if_neg hk]
    refine A2 ?_
    refine R0 (xa7 (r:=tS [⟨1,false,(tE (.int .u8 0))⟩,⟨4,true,(tS [⟨2,true,(tS [⟨1,false,(tE (.bool false))⟩,⟨1,false,(tLm [])⟩])⟩,⟨2,true,(tS [⟨1,false,(tE (.bool false))⟩,⟨1,false,(tLm [])⟩])⟩])⟩,⟨1,false,(tE (.int .i64 0))⟩]) (ts:=[]) bu57 zr57.2 ⟨_,rfl⟩ rfl Le.refl) ?_
    refine A6 ?_
    exact xd9 Plain.mk' (rs:=[.cell 4 57,.tmp 5]) rfl rfl ⟨⟨_,_,_,_,_,rfl,rfl,ti57,(Le.trans va0N (Le.of (by rw [hr];rfl)))⟩,⟨_,rfl,(Le.bool (by rw [hr];rfl))⟩,trivial⟩
  ·
    have hok:tRight l=true:=by simpa using h83
    refine A6 ?_
    refine R2 (d_makeFunc (ps:=[.ptr 2 0,.ptr 3 0]) rfl) rfl rfl ?_
    refine RE (xe3 (fun j=>cond (Nat.beq j 2) 2 (3)) (c_SearchT l d hok hl) fi183 rfl (krC (ρ:=fun j=>cond (Nat.beq j 2) 2 (3)) (k:=2) rfl (krC (ρ:=fun j=>cond (Nat.beq j 2) 2 (3)) (k:=3) rfl (krN (ρ:=fun j=>cond (Nat.beq j 2) 2 (3))))) (krC (ρ:=fun j=>cond (Nat.beq j 2) 2 (3)) (k:=2) rfl (krC (ρ:=fun j=>cond (Nat.beq j 2) 2 (3)) (k:=3) rfl (krN (ρ:=fun j=>cond (Nat.beq j 2) 2 (3))))) ⟨⟨rfl,(SupX.lit rfl)⟩,⟨rfl,(SupX.lit rfl)⟩,trivial⟩ rfl) ⟨rfl,rfl,trivial⟩ ⟨rfl,rfl,trivial⟩ trivial ?_
    refine A9 ?_
    refine A2 ?_
    refine RGcaseD (t:=19) rfl (fun h87=> ?_) (fun h87=> ?_)
    ·
      refine A9 ?_
      refine A4 ?_
      refine R0 (xa7 (r:=tS [⟨1,false,(tE (.int .u8 0))⟩,⟨4,true,(tS [⟨2,true,(tS [⟨1,false,(tE (.bool false))⟩,⟨1,false,(tLm [])⟩])⟩,⟨2,true,(tS [⟨1,false,(tE (.bool false))⟩,⟨1,false,(tLm [])⟩])⟩])⟩,⟨1,false,(tE (.int .i64 0))⟩]) (ts:=[]) bu57 zr57.2 ⟨_,rfl⟩ rfl Le.refl) ?_
      refine A6 ?_
      exact xd9 Plain.mk' (rs:=[.cell 4 57,.tmp 5]) rfl rfl ⟨⟨_,_,_,_,_,rfl,rfl,ti57,(Le.trans va0N (Le.of (by rw [atR,if_pos hok,atT_is hok,if_neg (by omega)];rfl)))⟩,⟨_,rfl,(Le.bool (by rw [atR,if_pos hok,atT_is hok,if_neg (by omega)];rfl))⟩,trivial⟩
    ·
      refine A2 ?_
      refine RGon (decide_eq_false h87) rfl (x5 sl51 (fndT l d) (by omega) (gD (l:=l) (n:=fndT l d) (d:=tst0) (by omega))) rfl ⟨rfl,rfl,trivial⟩ trivial trivial ?_
      refine RGon (decide_eq_false h87) rfl (xa8 fo59_0.h (At.f 0 rfl rfl) rfl) rfl ⟨rfl,trivial⟩ trivial trivial ?_
      refine A6 ?_
      refine x9 rfl (fun h87_2=> ?_) (fun h87_2=> ?_)
      ·
        refine A2 ?_
        refine R0 (xa7 (r:=tS [⟨1,false,(tE (.int .u8 0))⟩,⟨4,true,(tS [⟨2,true,(tS [⟨1,false,(tE (.bool false))⟩,⟨1,false,(tLm [])⟩])⟩,⟨2,true,(tS [⟨1,false,(tE (.bool false))⟩,⟨1,false,(tLm [])⟩])⟩])⟩,⟨1,false,(tE (.int .i64 0))⟩]) (ts:=[]) bu57 zr57.2 ⟨_,rfl⟩ rfl Le.refl) ?_
        refine A6 ?_
        exact xd9 Plain.mk' (rs:=[.cell 4 57,.tmp 5]) rfl rfl ⟨⟨_,_,_,_,_,rfl,rfl,ti57,(Le.trans va0N (Le.of (by rw [atR,if_pos hok,atT_is hok,if_neg (by omega)];rfl)))⟩,⟨_,rfl,(Le.bool (by rw [atR,if_pos hok,atT_is hok,if_neg (by omega)];rfl))⟩,trivial⟩
      ·
        refine A6 ?_
        have hlen:=va_len (xi0 hok _ (xb6 (l:=l) (i:=fndT l d) (by omega)))
        refine R2 (x5 sl51 (fndT l d) (by omega) (gD (l:=l) (n:=fndT l d) (d:=tst0) (by omega))) rfl rfl ?_
        refine R1 (xa8 fo59_2.h (At.f 2 rfl rfl) rfl) rfl ?_
        refine A1 ?_
        refine R1 (xh4 (ts:=[_]) (r:=tG (up w.heap.size) _) (c_copiedN (l.getD (fndT l d) tst0).v (by omega) (by omega)) fi185 (fun m hm=>tG_up hm) ⟨Le.refl,trivial⟩ rfl) rfl ?_
        refine A5 ?_
        exact xd9 Plain.mk' (rs:=[.cell 4 57,.tmp 5]) rfl rfl ⟨⟨_,_,_,_,_,rfl,rfl,ti57,(Le.of (by rw [atR,if_pos hok,atT_is hok,if_pos (by omega)];rfl))⟩,⟨_,rfl,(Le.bool (by rw [atR,if_pos hok,atT_is hok,if_pos (by omega)];rfl))⟩,trivial⟩
theorem c_SnMakeN (l:List Sn) (hl:l.length≤1000000):
    CtN Tryz.prog 187 [tL 2 true tSn l] (fun nw=>tT [tG (up nw) (tL 2 true tSn (if l.all Sn.ok=true then mkS l else [])),tI (if l.all Sn.ok=true then 0 else 2)]):=by
  refine CtN.intro Tryz.func187 rfl Tryz.ntmps187 rfl ?_
  intro w F
  refine A8 ?_
  refine RE (xf9 (k:=4) 119 2 true rfl (fun h=>by cases h)) trivial trivial ⟨rfl,trivial⟩ ?_
  refine A9 ?_
  refine A2 ?_
  refine cL (fun (fm:(Nat)×(List Sn))=>(fun (i:Nat) (xs:List Sn)=>i≤l.length∧(l.take i).all Sn.ok=true∧xs=(l.take i).filter pos) fm.1 fm.2) (fun (fm:(Nat)×(List Sn))=>(fun (i:Nat) (xs:List Sn)=>upd (upd (upd (upd (upd (fun _=>none) 0 (some (.val (tL 2 true tSn l)))) 4 (some (.own (.sl 4 2 0 xs.length)))) 11 (some (.val (tL 2 true tSn l)))) 12 (some (.val (tI l.length)))) 13 (some (.val (tI i)))) fm.1 fm.2) (fun (fm:(Nat)×(List Sn))=>(fun (i:Nat) (xs:List Sn)=>upd (fun _=>none) 4 (some (⟨119,2,true,rV tSn xs⟩))) fm.1 fm.2) [4] (fun (fm:(Nat)×(List Sn))=>(fun (i:Nat) (xs:List Sn)=>l.length - i) fm.1 fm.2) ((0,[])) (by dsimp only;exact ⟨Nat.zero_le _,rfl,rfl⟩) (hh:=((SubK.consI rfl ImpK.refl) SubK.nil)) ?_
  intro fm hI
  obtain ⟨i,xs⟩:=fm
  replace hI:i≤l.length∧(l.take i).all Sn.ok=true∧xs=(l.take i).filter pos:=hI
  show wc _ _ _ _ (upd (upd (upd (upd (upd (fun _=>none) 0 (some (.val (tL 2 true tSn l)))) 4 (some (.own (.sl 4 2 0 xs.length)))) 11 (some (.val (tL 2 true tSn l)))) 12 (some (.val (tI l.length)))) 13 (some (.val (tI i)))) (upd (fun _=>none) 4 (some (⟨119,2,true,rV tSn xs⟩))) _
  obtain ⟨hi,ha,hx⟩:=hI
  have hxl:xs.length≤i:=hx▸filter_le
  refine A6 ?_
  refine x9 rfl (fun h31=> ?_) (fun h31=> ?_)
  ·
    refine A6 ?_
    refine R2 (x5 sl113 (i) (by omega) (gD (l:=l) (n:=i) (d:=sn0) (by omega))) rfl rfl ?_
    refine A1 ?_
    refine RE (xa3 (k:=6) (n:=2) (agg:=true) zr119.1 zr119.2 rfl) trivial trivial ⟨rfl,trivial⟩ ?_
    refine A7 ?_
    refine R1 (x3 (c_isSpan _) fi271 rfl) rfl ?_
    refine A3 ?_
    refine xd3 rfl (fun h32=> ?_) (fun h32=> ?_)
    ·
      have hbad:l.all Sn.ok=false:=allS_stop (i:=i) (by omega) (by rw [Bool.not_eq_true'] at h32;exact h32)
      refine A9 ?_
      refine A4 ?_
      exact xc4 Plain.mk' rfl rfl rfl (leNilG (by rw [if_neg (by rw [hbad];exact Bool.false_ne_true)])) (Le.int (by rw [if_neg (by rw [hbad];exact Bool.false_ne_true)]))
    ·
      rw [Bool.not_eq_false'] at h32
      refine A9 ?_
      refine A2 ?_
      refine x9 rfl (fun h35=> ?_) (fun h35=> ?_)
      ·
        refine A3 ?_
        refine R1 (xc0 (n:=1) (f:=tSn) [(l.getD i sn0)] Tryz.underlying113 el119 zf119 rfl (fun _=>inferInstance) rfl rfl rfl) rfl ?_
        refine RE (xb7 (k:=4) (k':=28) (f:=tSn) (ys:=[(l.getD i sn0)]) (ts':=rV tSn (xs++[(l.getD i sn0)])) Tryz.underlying113 el119 zf119 rfl rfl (fun _=>inferInstance) xc8 (by simp;omega) (by simp;omega) (by simp [rV]) (n':=xs.length+1) rfl) ⟨rfl,rfl,trivial⟩ ⟨rfl,trivial⟩ ⟨rfl,trivial⟩ ?_
        refine A8 ?_
        exact xe4 (l:=[4]) (fun j=>cond (Nat.beq j 4) 28 (j)) ((i+1,xs++[(l.getD i sn0)])) ⟨(by dsimp only;exact ⟨by omega,by rw [allS_next (by omega),ha,h32];rfl,by rw [filter_next (by omega),←hx,if_pos (show pos _=true from decide_eq_true h35)]⟩),(by dsimp only;omega)⟩ (SubR.int rfl (by first | omega | rfl | (dsimp only;omega)) (SubR.int rfl (by first | omega | rfl | (dsimp only;omega)) (SubR.cons rfl ((SubR.consI rfl (Imp.of (by dsimp only;rw [List.length_append];rfl))) (SubR.cons rfl SubR.nil))))) ((SubKR.consI rfl (ImpK.of xb9.symm)) SubKR.nil) (SupG.val (SupG.val (SupG.val (SupG.own rfl (SupG.val SupG.nil))))) (SupH.cons rfl (supJ xb0) SupH.nil) (lkOk rfl) rfl rfl (fun _ h=>by cases h)
      ·
        refine A7 ?_
        exact kF ((i+1,xs)) ⟨(by dsimp only;exact ⟨by omega,by rw [allS_next (by omega),ha,h32];rfl,by rw [filter_next (by omega),←hx,if_neg (by rw [pos,decide_eq_false h35];exact Bool.false_ne_true),List.append_nil]⟩),(by dsimp only;omega)⟩ (hh:=((SubK.consI rfl ImpK.refl) SubK.nil))
  ·
    refine A6 ?_
    have hil:i=l.length:=by omega
    subst hil
    rw [List.take_length] at ha hx
    have hall:=ha
    have hmk:mkS l=mrg (srt cfSn xs):=by rw [mkS,hx]
    refine A2 ?_
    refine RE (xe3 (fun _=>4) (c_sortSn xs (by omega)) fi272 rfl (krC (ρ:=fun _=>4) (k:=1) xb9 (krN (ρ:=fun _=>4))) (krC (ρ:=fun _=>4) (k:=1) xb9 (krN (ρ:=fun _=>4))) ⟨⟨rfl,xb0⟩,trivial⟩ rfl) ⟨rfl,rfl,trivial⟩ ⟨rfl,trivial⟩ trivial ?_
    refine A4 ?_
    refine RE (xf9 (k:=7) 119 2 true rfl (fun h=>by cases h)) trivial trivial ⟨rfl,trivial⟩ ?_
    refine A9 ?_
    refine A2 ?_
    refine cL (fun (fm:(Nat)×(List Sn))=>(fun (i:Nat) (zs:List Sn)=>i≤xs.length∧zs=mrg ((srt cfSn xs).take i)) fm.1 fm.2) (fun (fm:(Nat)×(List Sn))=>(fun (i:Nat) (zs:List Sn)=>upd (upd (upd (upd (upd (fun _=>none) 4 (some (.own (.sl 4 2 0 xs.length)))) 7 (some (.own (.sl 7 2 0 zs.length)))) 32 (some (.own (.sl 4 2 0 xs.length)))) 33 (some (.val (tI xs.length)))) 34 (some (.val (tI i)))) fm.1 fm.2) (fun (fm:(Nat)×(List Sn))=>(fun (i:Nat) (zs:List Sn)=>upd (upd (fun _=>none) 4 (some (⟨119,2,true,rV tSn (srt cfSn xs)⟩))) 7 (some (⟨119,2,true,rV tSn zs⟩))) fm.1 fm.2) [4,7] (fun (fm:(Nat)×(List Sn))=>(fun (i:Nat) (zs:List Sn)=>xs.length - i) fm.1 fm.2) ((0,[])) (by dsimp only;exact ⟨Nat.zero_le _,rfl⟩) (hh:=((SubK.consI rfl ImpK.refl) ((SubK.consI rfl ImpK.refl) SubK.nil))) ?_
    intro fm hI
    obtain ⟨i,zs⟩:=fm
    replace hI:i≤xs.length∧zs=mrg ((srt cfSn xs).take i):=hI
    show wc _ _ _ _ (upd (upd (upd (upd (upd (fun _=>none) 4 (some (.own (.sl 4 2 0 xs.length)))) 7 (some (.own (.sl 7 2 0 zs.length)))) 32 (some (.own (.sl 4 2 0 xs.length)))) 33 (some (.val (tI xs.length)))) 34 (some (.val (tI i)))) (upd (upd (fun _=>none) 4 (some (⟨119,2,true,rV tSn (srt cfSn xs)⟩))) 7 (some (⟨119,2,true,rV tSn zs⟩))) _
    obtain ⟨hi',hz⟩:=hI
    have hsl:=srtSn_len (xs:=xs)
    have hzl:zs.length≤i:=by
      have h:=mrg_len ((srt cfSn xs).take i) []
      rw [List.length_take] at h
      have h2:zs.length≤([]:List Sn).length+min i (srt cfSn xs).length:=by rw [hz];exact h
      simp at h2;omega
    refine A6 ?_
    refine x9 rfl (fun h41=> ?_) (fun h41=> ?_)
    ·
      refine A6 ?_
      refine R2 (xa5 sl113 (by omega) (by omega) rfl) rfl rfl ?_
      refine RE (xd0 (i) ti119 (rV_getD (d:=sn0) (by omega)) (by omega)) ⟨rfl,trivial⟩ ⟨rfl,trivial⟩ trivial ?_
      refine RE (xa3 (k:=9) (n:=2) (agg:=true) zr119.1 zr119.2 rfl) trivial trivial ⟨rfl,trivial⟩ ?_
      refine A9 ?_
      refine A6 ?_
      refine RGcaseD (t:=42) rfl (fun h42=> ?_) (fun h42=> ?_)
      ·
        refine A2 ?_
        refine RGon (decide_eq_true h42) rfl (xe1 (wr64 (by omega) (by omega))) rfl ⟨rfl,rfl,trivial⟩ trivial trivial ?_
        refine RGon (decide_eq_true h42) rfl (xa5 sl113 (by omega) (by omega) rfl) rfl ⟨rfl,rfl,trivial⟩ trivial trivial ?_
        refine A1 ?_
        refine RGon (decide_eq_true h42) rfl (d_loadF (es:=2) (o:=1) (zs.length - 1) ti3 (rV_getD (d:=sn0) (by omega)) (At.g 1 rfl rfl) (by omega)) rfl ⟨rfl,trivial⟩ ⟨rfl,trivial⟩ trivial ?_
        refine A6 ?_
        refine x9 rfl (fun h42_2=> ?_) (fun h42_2=> ?_)
        ·
          refine A7 ?_
          refine R2 (xa5 sl113 (by omega) (by omega) rfl) rfl rfl ?_
          refine A1 ?_
          refine RE (d_loadF (es:=2) (o:=1) (zs.length - 1) ti3 (rV_getD (d:=sn0) (by omega)) (At.g 1 rfl rfl) (by omega)) ⟨rfl,trivial⟩ ⟨rfl,trivial⟩ trivial ?_
          refine A2 ?_
          refine R2 d_max2 rfl rfl ?_
          refine R2 (xa5 sl113 (by omega) (by omega) rfl) rfl rfl ?_
          refine A1 ?_
          refine RE (d_storeF (es:=2) (o:=1) (t2:=tSn ⟨(zs.getD (zs.length - 1) sn0).lo,max (zs.getD (zs.length - 1) sn0).hi ((srt cfSn xs).getD i sn0).hi⟩) (zs.length - 1) ti3 (rV_getD (d:=sn0) (by omega)) (Up.f (f:=⟨1,false,tI (zs.getD (zs.length - 1) sn0).hi⟩) 1 rfl rfl rfl) (by omega) (rV_set rfl)) ⟨rfl,rfl,trivial⟩ ⟨rfl,trivial⟩ trivial ?_
          refine A7 ?_
          exact kF ((i+1,(zs.set (zs.length - 1) ⟨(zs.getD (zs.length - 1) sn0).lo,max (zs.getD (zs.length - 1) sn0).hi ((srt cfSn xs).getD i sn0).hi⟩))) ⟨(by dsimp only;exact ⟨by omega,by rw [mrg_next (by omega),←hz,mrg1,if_pos ⟨by omega,by omega⟩]⟩),(by dsimp only;omega)⟩ (hg:=(sI (sI (sC ((Sub.consI rfl (Imp.of (by dsimp only;rw [List.length_set]))) (sC Sub.nil)))))) (hh:=((SubK.consI rfl ImpK.refl) ((SubK.consI rfl ImpK.refl) SubK.nil)))
        ·
          refine A3 ?_
          refine R1 (xc0 (n:=1) (f:=tSn) [((srt cfSn xs).getD i sn0)] Tryz.underlying113 el119 zf119 rfl (fun _=>inferInstance) rfl rfl rfl) rfl ?_
          refine RE (xb7 (k:=7) (k':=70) (f:=tSn) (ys:=[((srt cfSn xs).getD i sn0)]) (ts':=rV tSn (zs++[((srt cfSn xs).getD i sn0)])) Tryz.underlying113 el119 zf119 rfl rfl (fun _=>inferInstance) xc8 (by simp;omega) (by simp;omega) (by simp [rV]) (n':=zs.length+1) rfl) ⟨rfl,rfl,trivial⟩ ⟨rfl,trivial⟩ ⟨rfl,trivial⟩ ?_
          refine A8 ?_
          exact xe4 (l:=[4,7]) (fun j=>cond (Nat.beq j 7) 70 (j)) ((i+1,zs++[((srt cfSn xs).getD i sn0)])) ⟨(by dsimp only;exact ⟨by omega,by rw [mrg_next (by omega),←hz,mrg1,if_neg (by omega)]⟩),(by dsimp only;omega)⟩ (SubR.int rfl (by first | omega | rfl | (dsimp only;omega)) (SubR.int rfl (by first | omega | rfl | (dsimp only;omega)) (SubR.cons rfl ((SubR.consI rfl (Imp.of (by dsimp only;rw [List.length_append];rfl))) (SubR.cons rfl SubR.nil))))) ((SubKR.consI rfl (ImpK.of xb9.symm)) ((SubKR.consI rfl (ImpK.of xb9.symm)) SubKR.nil)) (SupG.val (SupG.val (SupG.own rfl (SupG.own rfl (SupG.own rfl SupG.nil))))) (SupH.cons rfl (supJ xb0) (SupH.cons rfl (supJ xb0) SupH.nil)) (lkOk rfl) rfl rfl (fun _ h=>by cases h)
      ·
        refine A9 ?_
        refine A7 ?_
        refine R1 (xc0 (n:=1) (f:=tSn) [((srt cfSn xs).getD i sn0)] Tryz.underlying113 el119 zf119 rfl (fun _=>inferInstance) rfl rfl rfl) rfl ?_
        refine RE (xb7 (k:=7) (k':=70) (f:=tSn) (ys:=[((srt cfSn xs).getD i sn0)]) (ts':=rV tSn (zs++[((srt cfSn xs).getD i sn0)])) Tryz.underlying113 el119 zf119 rfl rfl (fun _=>inferInstance) xc8 (by simp;omega) (by simp;omega) (by simp [rV]) (n':=zs.length+1) rfl) ⟨rfl,rfl,trivial⟩ ⟨rfl,trivial⟩ ⟨rfl,trivial⟩ ?_
        refine A8 ?_
        exact xe4 (l:=[4,7]) (fun j=>cond (Nat.beq j 7) 70 (j)) ((i+1,zs++[((srt cfSn xs).getD i sn0)])) ⟨(by dsimp only;exact ⟨by omega,by rw [mrg_next (by omega),←hz,mrg1,if_neg (by omega)]⟩),(by dsimp only;omega)⟩ (SubR.int rfl (by first | omega | rfl | (dsimp only;omega)) (SubR.int rfl (by first | omega | rfl | (dsimp only;omega)) (SubR.cons rfl ((SubR.consI rfl (Imp.of (by dsimp only;rw [List.length_append];rfl))) (SubR.cons rfl SubR.nil))))) ((SubKR.consI rfl (ImpK.of xb9.symm)) ((SubKR.consI rfl (ImpK.of xb9.symm)) SubKR.nil)) (SupG.val (SupG.val (SupG.own rfl (SupG.own rfl (SupG.own rfl SupG.nil))))) (SupH.cons rfl (supJ xb0) (SupH.cons rfl (supJ xb0) SupH.nil)) (lkOk rfl) rfl rfl (fun _ h=>by cases h)
    ·
      refine A8 ?_
      refine RE (d_assignSN (f:=tSn) (xs:=zs) (up w.heap.size) (fun _ h=>h) (fun _=>Free.S ⟨Free.E,Free.E,trivial⟩) (fun _ h=>h) (rV_all rfl) rfl) ⟨rfl,trivial⟩ ⟨rfl,trivial⟩ trivial ?_
      refine A4 ?_
      exact xc4 Plain.mk' rfl rfl rfl (Le.of (by rw [if_pos hall,hmk,hz,show i=(srt cfSn xs).length by omega,List.take_length])) (Le.int (by rw [if_pos hall]))
theorem c_CoversN (l:List Tst) (hl:l.length≤200000) (hD: ∀s∈l,s.v.f.dig):
    CtN Tryz.prog 104 [tL 8 true tTs l] (fun nw=>tG (up nw) (tL 2 true tSn (if tRight l=true then cvT l else []))):=by
  refine CtN.intro Tryz.func104 rfl Tryz.ntmps104 rfl ?_
  intro w F
  refine A9 ?_
  refine R1 (x3 (xg2 l hD) fi106 rfl) rfl ?_
  refine A3 ?_
  refine xd3 rfl (fun h202=> ?_) (fun h202=> ?_)
  ·
    refine A7 ?_
    exact x4 Plain.mk' rfl rfl (leNilG (by rw [if_neg (by simpa using h202)]))
  ·
    refine A6 ?_
    refine RE (xg3 (k:=13) (t:=tSn sn0) (ts:=rV tSn (List.replicate l.length sn0)) l.length l.length Tryz.underlying113 el119 (fun F w=>tSn_mk) rfl (by omega) (by omega) (Nat.le_refl _) (by omega) (by omega) (rV_rep _ _ rfl)) ⟨rfl,rfl,trivial⟩ trivial ⟨rfl,trivial⟩ ?_
    refine A9 ?_
    refine A3 ?_
    have hok:tRight l=true:=by simpa using h202
    refine cL (fun (i:Nat)=>i≤l.length) (fun (i:Nat)=>upd (upd (upd (upd (fun _=>none) 3 (some (.own (.sl 13 2 0 l.length)))) 14 (some (.val (tL 8 true tTs l)))) 15 (some (.val (tI l.length)))) 16 (some (.val (tI i)))) (fun (i:Nat)=>upd (fun _=>none) 13 (some (⟨119,2,true,rV tSn (cvL l i)⟩))) [13] (fun (i:Nat)=>l.length - i) (0) (Nat.zero_le _) (hh:=((SubK.consI rfl (ImpK.of (by simp [cvL]))) SubK.nil)) ?_
    intro i hI
    have hcl:=cvL_len (l:=l) (i:=i) hI
    refine A6 ?_
    refine x9 rfl (fun h206=> ?_) (fun h206=> ?_)
    ·
      refine A7 ?_
      refine R2 (x5 sl51 (i) (by omega) (gD (l:=l) (n:=i) (d:=tst0) (by omega))) rfl rfl ?_
      refine A1 ?_
      refine RE (xa3 (k:=5) (n:=8) (agg:=true) zr59.1 zr59.2 rfl) trivial trivial ⟨rfl,trivial⟩ ?_
      refine A9 ?_
      refine A2 ?_
      refine R2 (xa7 (r:=tS [⟨1,false,tI (l.getD i tst0).lo⟩,⟨1,false,tI (l.getD i tst0).hi⟩]) (ts:=[(0,tI (l.getD i tst0).lo),(1,tI (l.getD i tst0).hi)]) bu119 zr119.2 ⟨_,rfl⟩ rfl ⟨_,_,_,_,rfl,Up.f (fs:=[⟨1,false,(tE (.int .i64 0))⟩,⟨1,false,(tE (.int .i64 0))⟩]) (f:=⟨1,false,(tE (.int .i64 0))⟩) (fs':=[⟨1,false,tI (l.getD i tst0).lo⟩,⟨1,false,(tE (.int .i64 0))⟩]) 0 rfl rfl rfl,inferInstance,⟨_,_,_,_,rfl,Up.f (fs:=[⟨1,false,tI (l.getD i tst0).lo⟩,⟨1,false,(tE (.int .i64 0))⟩]) (f:=⟨1,false,(tE (.int .i64 0))⟩) (fs':=[⟨1,false,tI (l.getD i tst0).lo⟩,⟨1,false,tI (l.getD i tst0).hi⟩]) 1 rfl rfl rfl,inferInstance,Le.refl⟩⟩) rfl rfl ?_
      refine R2 (xa5 sl113 (by omega) (by omega) rfl) rfl rfl ?_
      refine RE (xc1 (i) ti119 (rV_lt (by omega)) (by omega) (rV_set (m:=(spT (l.getD i tst0))) rfl)) ⟨rfl,rfl,trivial⟩ ⟨rfl,trivial⟩ trivial ?_
      refine A7 ?_
      exact kF (i+1) ⟨(by omega),(by omega)⟩ (hh:=((SubK.consI rfl (ImpK.of (by rw [cvL_set (by omega)]))) SubK.nil))
    ·
      refine A6 ?_
      have hil:i=l.length:=by omega
      subst hil
      refine C_key (k:=13) (e':=⟨119,2,true,rV tSn (cvS l)⟩) rfl (by rw [cvL_all]) ?_
      refine A1 ?_
      refine RE (xf2 (f:=tSn) (xs:=cvS l) (fun _ h=>h) (rV_all (by simp [cvS])) (by simp [cvS])) ⟨rfl,trivial⟩ ⟨rfl,trivial⟩ trivial ?_
      refine R1 (xh4 (ts:=[_]) (r:=tT [tG (up w.heap.size) _,_]) (c_SnMakeN (cvS l) (by simp [cvS];omega)) fi187 (fun m hm=>le_T ⟨tG_up hm,Le.refl,trivial⟩) ⟨Le.refl,trivial⟩ rfl) rfl ?_
      refine A9 ?_
      refine A5 ?_
      exact x4 Plain.mk' rfl rfl (Le.of (by rw [if_pos hok,if_pos (ascS_ok (cvS_asc hok))];rfl))
theorem c_TDiffN (a b:List Tst) (hla:a.length≤200000) (hlb:b.length≤200000) (hDa: ∀s∈a,s.v.f.dig) (hDb: ∀s∈b,s.v.f.dig):
    CtN Tryz.prog 102 [tL 8 true tTs a,tL 8 true tTs b] (fun nw=>tT [tG (up nw) (tL 2 true tSn (if tRight a=true∧tRight b=true then dfS a b else [])),tI (if tRight a=true∧tRight b=true then 0 else 2)]):=by
  refine CtN.intro Tryz.func102 rfl Tryz.ntmps102 rfl ?_
  intro w F
  refine A9 ?_
  refine A1 ?_
  refine R1 (x3 (xg2 a hDa) fi106 rfl) rfl ?_
  refine A2 ?_
  refine RGcase (t:=12) rfl (fun h223=> ?_) (fun h223=> ?_)
  ·
    refine A9 ?_
    refine A6 ?_
    exact xc4 Plain.mk' rfl rfl rfl (leNilG (by rw [if_neg fun h=>by rw [h.1] at h223;cases h223])) (Le.int (by rw [if_neg fun h=>by rw [h.1] at h223;cases h223]))
  ·
    refine A1 ?_
    refine RGon h223 rfl (x3 (xg2 b hDb) fi106 rfl) rfl ⟨rfl,trivial⟩ trivial trivial ?_
    refine A4 ?_
    refine xd3 rfl (fun h223_2=> ?_) (fun h223_2=> ?_)
    ·
      refine A8 ?_
      exact xc4 Plain.mk' rfl rfl rfl (leNilG (by rw [if_neg fun h=>by rw [h.2] at h223_2;cases h223_2])) (Le.int (by rw [if_neg fun h=>by rw [h.2] at h223_2;cases h223_2]))
    ·
      refine A4 ?_
      refine RE (xa3 (k:=6) (n:=1) (agg:=false) zr113.1 zr113.2 rfl) trivial trivial ⟨rfl,trivial⟩ ?_
      refine A4 ?_
      have hok:tRight a=true∧tRight b=true:=⟨by simpa using h223,by simpa using h223_2⟩
      refine C_nilC (q:=6) 60 119 2 true 0 rfl rfl rfl rfl (fun h=>by cases h) rfl rfl ?_
      refine A3 ?_
      refine RE (xe3 (fun j=>cond (Nat.beq j 2) 19 (1019)) (c_together a b) fi186 rfl (krN (ρ:=fun j=>cond (Nat.beq j 2) 19 (1019))) (krC (ρ:=fun j=>cond (Nat.beq j 2) 19 (1019)) (k:=2) rfl (krC (ρ:=fun j=>cond (Nat.beq j 2) 19 (1019)) (k:=3) rfl (krN (ρ:=fun j=>cond (Nat.beq j 2) 19 (1019))))) ⟨⟨rfl,(SupX.lit rfl)⟩,⟨rfl,(SupX.lit rfl)⟩,trivial⟩ rfl) ⟨rfl,rfl,trivial⟩ trivial ⟨rfl,rfl,trivial⟩ ?_
      refine A3 ?_
      refine C_range (caps:=[.ptr 1 0,.ptr 2 0]) (κ:=Empty) (fun j=>cond (Nat.beq j 2) 1019 (cond (Nat.beq j 1) 19 (j))) rfl (fun _ h=>h) trivial (i_together a b (xh5 hok.1) (xh5 hok.2) hla hlb) fi269 rfl ⟨rfl,rfl,trivial⟩ rfl rfl (fun _ _=>rfl) (upd (fun _=>none) 6 (some (.own (.ptr 6 0)))) [6,60] [6] (Sub.cons rfl Sub.nil) (SupG.own rfl SupG.nil) rfl (lkOk rfl) (fun (k:Nat) (xs:List Sn)=>xs=dfK a b k∧xs.length≤k) (fun (k:Nat) (xs:List Sn)=>upd (upd (fun _=>none) 6 (some (⟨113,1,false,[.own (.sl 60 2 0 xs.length)]⟩))) 60 (some (⟨119,2,true,rV tSn xs⟩))) (fun k x=>(SupH.cons rfl (supJ xb0) (SupH.cons rfl (supJL rfl) SupH.nil))) (fun k x y hy=>by simp only [List.mem_cons,List.not_mem_nil,or_false] at hy;rcases hy with rfl | rfl <;> rfl) (fun _ _=>False) (fun i=>i.elim) (fun _ _ h=>h.elim) ([]) ⟨rfl,Nat.le_refl _⟩ ((SubK.consI rfl ImpK.refl) ((SubK.consI rfl ImpK.refl) SubK.nil)) ?_ ?_ ?_
      ·
        intro D lp o1 o2 O W lη lb V0 k xs hk hI
        obtain ⟨hx,hxl⟩:=hI
        have hdl:=bds_len (ls:=[a,b])
        have htl:tlen [a,b]≤400000:=by simp [tlen];omega
        apply rnd_mk
        ·
          refine A2 ?_
          refine RE (xa3 (k:=7) (n:=2) (agg:=true) zr119.1 zr119.2 rfl) trivial trivial ⟨rfl,trivial⟩ ?_
          refine A4 ?_
          refine RE (xa3 (k:=8) (n:=2) (agg:=true) zr220.1 zr220.2 rfl) trivial trivial ⟨rfl,trivial⟩ ?_
          refine A2 ?_
          exact K_thenF fun _ _ h=>h
        ·
          refine A6 ?_
          refine R1 (d_eqlNil Tryz.underlying218) rfl ?_
          refine A1 ?_
          refine RGcase (t:=25) rfl (fun h228=> ?_) (fun h228=> ?_)
          ·
            refine A2 ?_
            refine RGon h228 rfl (d_eqlNil Tryz.underlying218) rfl ⟨rfl,trivial⟩ trivial trivial ?_
            refine A2 ?_
            refine RGcase (t:=30) rfl (fun h228_2=> ?_) (fun h228_2=> ?_)
            ·
              refine A9 ?_
              refine A9 ?_
              refine A8 ?_
              exact K_rnd (xs) ⟨by rw [dfK_eq (by rw [Option.isNone_iff_eq_none.1 h228,Option.isNone_iff_eq_none.1 h228_2])];exact hx,by omega⟩ ((SubK.consI rfl ImpK.refl) ((SubK.consI rfl ImpK.refl) SubK.nil)) (SupH.cons rfl (supJ xb0) (SupH.cons rfl (supJL rfl) SupH.nil)) (lkOk rfl)
            ·
              refine A2 ?_
              refine RGon h228_2 rfl (d_neqNil Tryz.underlying218) rfl ⟨rfl,trivial⟩ trivial trivial ?_
              refine A1 ?_
              refine RGoff (by exact congrArg Bool.not h228) rfl rfl ?_
              refine RGoff (by exact congrArg Bool.not h228) rfl rfl ?_
              refine RGoff (by exact congrArg Bool.not h228) rfl rfl ?_
              refine RGon h228_2 rfl (xd2 (by exact congrArg Bool.not h228)) rfl ⟨rfl,rfl,trivial⟩ trivial trivial ?_
              refine A9 ?_
              refine A1 ?_
              refine RGon h228_2 rfl (xd2 rfl) rfl ⟨rfl,rfl,trivial⟩ trivial trivial ?_
              refine A7 ?_
              refine RE (xd0 (ts:=[.own (.sl 60 2 0 xs.length)]) (0) ti113 rfl rfl) ⟨rfl,trivial⟩ ⟨rfl,trivial⟩ trivial ?_
              refine A1 ?_
              refine R1 (xc0 (n:=1) (f:=tSn) [(⟨((bds [a,b]).getD k 0),((bds [a,b]).getD (k+1) 0)⟩:Sn)] Tryz.underlying113 el119 zf119 rfl (fun _=>inferInstance) rfl rfl rfl) rfl ?_
              refine RE (xb7 (k:=60) (k':=54) (f:=tSn) (ys:=[(⟨((bds [a,b]).getD k 0),((bds [a,b]).getD (k+1) 0)⟩:Sn)]) (ts':=rV tSn (xs++[(⟨((bds [a,b]).getD k 0),((bds [a,b]).getD (k+1) 0)⟩:Sn)])) Tryz.underlying113 el119 zf119 rfl rfl (fun _=>inferInstance) xc8 (by simp;omega) (by simp;omega) (by simp [rV]) (n':=xs.length+1) rfl) ⟨rfl,rfl,trivial⟩ ⟨rfl,trivial⟩ ⟨rfl,trivial⟩ ?_
              refine RE (xc1 (es:=1) (agg:=false) (e:= .own (.sl 54 2 0 (xs.length+1))) (0) ti113 rfl rfl rfl) ⟨rfl,rfl,trivial⟩ ⟨rfl,trivial⟩ trivial ?_
              refine A2 ?_
              exact K_ren (g':=fun _=>none) [6,60] (fun j=>cond (Nat.beq j 60) 54 (j)) SubR.nil ((SubKR.consI rfl (ImpK.of xb9.symm)) ((SubKR.consI rfl (ImpK.of (by rw [List.length_append];rfl))) SubKR.nil)) SupG.nil (SupH.cons rfl (supJ xb0) (SupH.cons rfl (supJL rfl) SupH.nil)) (lkOk rfl) rfl rfl (fun _ h=>by cases h) (K_rnd ((xs++[(⟨((bds [a,b]).getD k 0),((bds [a,b]).getD (k+1) 0)⟩:Sn)])) ⟨by rw [dfK_ne (fun e=>by rw [e,h228_2] at h228;cases h228),←hx],by rw [List.length_append];simp;omega⟩ SubK.refl (SupH.cons rfl (supJ xb0) (SupH.cons rfl (supJL rfl) SupH.nil)) (lkOk rfl))
          ·
            refine A7 ?_
            refine RGon rfl rfl (d_neqNil Tryz.underlying218) rfl ⟨rfl,trivial⟩ trivial trivial ?_
            refine A1 ?_
            refine RGon (by exact congrArg Bool.not h228) rfl (xg7 fo220_1.h rfl) rfl ⟨rfl,trivial⟩ trivial trivial ?_
            refine xc3 (by exact congrArg Bool.not h228) rfl rfl (0) ti218 rfl rfl rfl (At.g 1 rfl rfl) rfl ?_
            refine RGon (by exact congrArg Bool.not h228) rfl (d_neqNil Tryz.underlying218) rfl ⟨rfl,trivial⟩ trivial trivial ?_
            refine RGon rfl rfl (xe6 (by exact congrArg Bool.not h228)) rfl ⟨rfl,rfl,trivial⟩ trivial trivial ?_
            refine A1 ?_
            refine RGcase (t:=39) rfl (fun h228_3=> ?_) (fun h228_3=> ?_)
            ·
              obtain ⟨u,hu⟩:=some_of h228
              obtain ⟨v,hv⟩:=not_none h228_3
              refine A2 ?_
              refine RGon h228_3 rfl (d_checkO hu) rfl ⟨rfl,trivial⟩ trivial trivial ?_
              refine A3 ?_
              refine RGon h228_3 rfl (d_checkO hv) rfl ⟨rfl,trivial⟩ trivial trivial ?_
              refine A1 ?_
              refine RGon h228_3 rfl (x3 (c_TSame _ _) fi123 rfl) rfl ⟨rfl,rfl,trivial⟩ trivial trivial ?_
              refine RGon rfl rfl (xe6 h228_3) rfl ⟨rfl,rfl,trivial⟩ trivial trivial ?_
              refine A3 ?_
              refine x9 rfl (fun h228_4=> ?_) (fun h228_4=> ?_)
              ·
                refine A3 ?_
                exact K_rnd (xs) ⟨by rw [dfK_eq (by rw [hu,hv,h228_4])];exact hx,by omega⟩ ((SubK.consI rfl ImpK.refl) ((SubK.consI rfl ImpK.refl) SubK.nil)) (SupH.cons rfl (supJ xb0) (SupH.cons rfl (supJL rfl) SupH.nil)) (lkOk rfl)
              ·
                refine A3 ?_
                refine RE (xd0 (ts:=[.own (.sl 60 2 0 xs.length)]) (0) ti113 rfl rfl) ⟨rfl,trivial⟩ ⟨rfl,trivial⟩ trivial ?_
                refine A1 ?_
                refine R1 (xc0 (n:=1) (f:=tSn) [(⟨((bds [a,b]).getD k 0),((bds [a,b]).getD (k+1) 0)⟩:Sn)] Tryz.underlying113 el119 zf119 rfl (fun _=>inferInstance) rfl rfl rfl) rfl ?_
                refine RE (xb7 (k:=60) (k':=54) (f:=tSn) (ys:=[(⟨((bds [a,b]).getD k 0),((bds [a,b]).getD (k+1) 0)⟩:Sn)]) (ts':=rV tSn (xs++[(⟨((bds [a,b]).getD k 0),((bds [a,b]).getD (k+1) 0)⟩:Sn)])) Tryz.underlying113 el119 zf119 rfl rfl (fun _=>inferInstance) xc8 (by simp;omega) (by simp;omega) (by simp [rV]) (n':=xs.length+1) rfl) ⟨rfl,rfl,trivial⟩ ⟨rfl,trivial⟩ ⟨rfl,trivial⟩ ?_
                refine RE (xc1 (es:=1) (agg:=false) (e:= .own (.sl 54 2 0 (xs.length+1))) (0) ti113 rfl rfl rfl) ⟨rfl,rfl,trivial⟩ ⟨rfl,trivial⟩ trivial ?_
                refine A2 ?_
                exact K_ren (g':=fun _=>none) [6,60] (fun j=>cond (Nat.beq j 60) 54 (j)) SubR.nil ((SubKR.consI rfl (ImpK.of xb9.symm)) ((SubKR.consI rfl (ImpK.of (by rw [List.length_append];rfl))) SubKR.nil)) SupG.nil (SupH.cons rfl (supJ xb0) (SupH.cons rfl (supJL rfl) SupH.nil)) (lkOk rfl) rfl rfl (fun _ h=>by cases h) (K_rnd ((xs++[(⟨((bds [a,b]).getD k 0),((bds [a,b]).getD (k+1) 0)⟩:Sn)])) ⟨by rw [dfK_ne (fun e=>by rw [hu,hv] at e;exact h228_4 (Option.some.inj e)),←hx],by rw [List.length_append];simp;omega⟩ SubK.refl (SupH.cons rfl (supJ xb0) (SupH.cons rfl (supJL rfl) SupH.nil)) (lkOk rfl))
            ·
              refine A9 ?_
              refine RGon rfl rfl (xd2 h228_3) rfl ⟨rfl,rfl,trivial⟩ trivial trivial ?_
              refine A7 ?_
              refine RE (xd0 (ts:=[.own (.sl 60 2 0 xs.length)]) (0) ti113 rfl rfl) ⟨rfl,trivial⟩ ⟨rfl,trivial⟩ trivial ?_
              refine A1 ?_
              refine R1 (xc0 (n:=1) (f:=tSn) [(⟨((bds [a,b]).getD k 0),((bds [a,b]).getD (k+1) 0)⟩:Sn)] Tryz.underlying113 el119 zf119 rfl (fun _=>inferInstance) rfl rfl rfl) rfl ?_
              refine RE (xb7 (k:=60) (k':=54) (f:=tSn) (ys:=[(⟨((bds [a,b]).getD k 0),((bds [a,b]).getD (k+1) 0)⟩:Sn)]) (ts':=rV tSn (xs++[(⟨((bds [a,b]).getD k 0),((bds [a,b]).getD (k+1) 0)⟩:Sn)])) Tryz.underlying113 el119 zf119 rfl rfl (fun _=>inferInstance) xc8 (by simp;omega) (by simp;omega) (by simp [rV]) (n':=xs.length+1) rfl) ⟨rfl,rfl,trivial⟩ ⟨rfl,trivial⟩ ⟨rfl,trivial⟩ ?_
              refine RE (xc1 (es:=1) (agg:=false) (e:= .own (.sl 54 2 0 (xs.length+1))) (0) ti113 rfl rfl rfl) ⟨rfl,rfl,trivial⟩ ⟨rfl,trivial⟩ trivial ?_
              refine A2 ?_
              exact K_ren (g':=fun _=>none) [6,60] (fun j=>cond (Nat.beq j 60) 54 (j)) SubR.nil ((SubKR.consI rfl (ImpK.of xb9.symm)) ((SubKR.consI rfl (ImpK.of (by rw [List.length_append];rfl))) SubKR.nil)) SupG.nil (SupH.cons rfl (supJ xb0) (SupH.cons rfl (supJL rfl) SupH.nil)) (lkOk rfl) rfl rfl (fun _ h=>by cases h) (K_rnd ((xs++[(⟨((bds [a,b]).getD k 0),((bds [a,b]).getD (k+1) 0)⟩:Sn)])) ⟨by rw [dfK_ne (fun e=>by rw [←e,h228] at h228_3;cases h228_3),←hx],by rw [List.length_append];simp;omega⟩ SubK.refl (SupH.cons rfl (supJ xb0) (SupH.cons rfl (supJL rfl) SupH.nil)) (lkOk rfl))
      ·
        intro D hD xs hI
        obtain ⟨hx,hxl⟩:=hI
        have hdl:=bds_len (ls:=[a,b])
        have htl:tlen [a,b]≤400000:=by simp [tlen];omega
        have hx:xs=dfT a b:=hx
        have hall:=ascS_ok (dfT_asc hok.1 hok.2)
        refine A4 ?_
        refine RE (Does.giveL (k:=60) (es:=2) (off:=0) (len:=xs.length) (xs:=xs) (f:=tSn) (ts:=rV tSn xs) (xd0 (ts:=[.own (.sl 60 2 0 xs.length)]) (0) ti113 rfl rfl) (fun _ h=>h) (rV_all rfl) rfl) ⟨rfl,trivial⟩ ⟨rfl,rfl,trivial⟩ trivial ?_
        refine R1 (xh4 (ts:=[_]) (r:=tT [tG (up w.heap.size) _,_]) (c_SnMakeN xs (by omega)) fi187 (fun m hm=>le_T ⟨tG_up hm,Le.refl,trivial⟩) ⟨Le.refl,trivial⟩ rfl) rfl ?_
        refine A7 ?_
        exact xc4 (Plain.loop Plain.mk' hD) rfl rfl rfl (Le.of (by rw [if_pos hok,hx,if_pos hall];rfl)) (Le.int (by rw [if_pos hok,hx,if_pos hall]))
      ·
        intro D hD e i;exact i.elim
theorem c_bordersN (ls:List (List Tst)) (hl:ls.length≤1000) (ht:tlen ls≤1000000):
    CtN Tryz.prog 189 [tL 1 false (fun l=>tL 8 true tTs l) ls] (fun nw=>tG (up nw) (tL 1 false tI (bds ls))):=by
  refine CtN.intro Tryz.func189 rfl Tryz.ntmps189 rfl ?_
  intro w F
  refine A7 ?_
  refine RE (xf9 (k:=3) 3 1 false rfl (fun _=>rfl)) trivial trivial ⟨rfl,trivial⟩ ?_
  refine A9 ?_
  refine A2 ?_
  refine cL (fun (fm:(Nat)×(List Int))=>(fun (i:Nat) (xs:List Int)=>i≤ls.length∧xs=(ls.take i).flatMap eds) fm.1 fm.2) (fun (fm:(Nat)×(List Int))=>(fun (i:Nat) (xs:List Int)=>upd (upd (upd (upd (fun _=>none) 3 (some (.own (.sl 3 1 0 xs.length)))) 8 (some (.val (tL 1 false (fun l=>tL 8 true tTs l) ls)))) 9 (some (.val (tI ls.length)))) 10 (some (.val (tI i)))) fm.1 fm.2) (fun (fm:(Nat)×(List Int))=>(fun (i:Nat) (xs:List Int)=>upd (fun _=>none) 3 (some (⟨3,1,false,rV tI xs⟩))) fm.1 fm.2) [3] (fun (fm:(Nat)×(List Int))=>(fun (i:Nat) (xs:List Int)=>ls.length - i) fm.1 fm.2) ((0,[])) (by dsimp only;exact ⟨Nat.zero_le _,rfl⟩) (hh:=((SubK.consI rfl ImpK.refl) SubK.nil)) ?_
  intro fm hI
  obtain ⟨i,xs⟩:=fm
  replace hI:i≤ls.length∧xs=(ls.take i).flatMap eds:=hI
  show wc _ _ _ _ (upd (upd (upd (upd (fun _=>none) 3 (some (.own (.sl 3 1 0 xs.length)))) 8 (some (.val (tL 1 false (fun l=>tL 8 true tTs l) ls)))) 9 (some (.val (tI ls.length)))) 10 (some (.val (tI i)))) (upd (fun _=>none) 3 (some (⟨3,1,false,rV tI xs⟩))) _
  obtain ⟨hi,hx⟩:=hI
  refine A6 ?_
  refine x9 rfl (fun h151=> ?_) (fun h151=> ?_)
  ·
    refine A6 ?_
    refine R2 (x5 sl133 (i) (by omega) (gD (l:=ls) (n:=i) (d:=[]) (by omega))) rfl rfl ?_
    refine A9 ?_
    refine A3 ?_
    refine C_len (s:=14) rfl (fun hl0=> ?_)
    have htk:=tlen_take (ls:=ls) (i:=i) (by omega)
    refine cL (fun (fm:(Nat)×(List Int))=>(fun (j:Nat) (xs:List Int)=>j≤(ls.getD i []).length∧xs=(ls.take i).flatMap eds++eds ((ls.getD i []).take j)) fm.1 fm.2) (fun (fm:(Nat)×(List Int))=>(fun (j:Nat) (xs:List Int)=>upd (upd (upd (upd (upd (upd (upd (fun _=>none) 3 (some (.own (.sl 3 1 0 xs.length)))) 8 (some (.val (tL 1 false (fun l=>tL 8 true tTs l) ls)))) 9 (some (.val (tI ls.length)))) 10 (some (.val (tI i)))) 14 (some (.val (tL 8 true tTs (ls.getD i []))))) 15 (some (.val (tI (ls.getD i []).length)))) 16 (some (.val (tI j)))) fm.1 fm.2) (fun (fm:(Nat)×(List Int))=>(fun (j:Nat) (xs:List Int)=>upd (fun _=>none) 3 (some (⟨3,1,false,rV tI xs⟩))) fm.1 fm.2) [3] (fun (fm:(Nat)×(List Int))=>(fun (j:Nat) (xs:List Int)=>(ls.getD i []).length - j) fm.1 fm.2) ((0,xs)) (by dsimp only;exact ⟨Nat.zero_le _,by rw [List.take_zero,hx];simp [eds]⟩) (hh:=((SubK.consI rfl ImpK.refl) SubK.nil)) ?_
    intro fm hI2
    obtain ⟨j,xs⟩:=fm
    replace hI2:j≤(ls.getD i []).length∧xs=(ls.take i).flatMap eds++eds ((ls.getD i []).take j):=hI2
    show wc _ _ _ _ (upd (upd (upd (upd (upd (upd (upd (fun _=>none) 3 (some (.own (.sl 3 1 0 xs.length)))) 8 (some (.val (tL 1 false (fun l=>tL 8 true tTs l) ls)))) 9 (some (.val (tI ls.length)))) 10 (some (.val (tI i)))) 14 (some (.val (tL 8 true tTs (ls.getD i []))))) 15 (some (.val (tI (ls.getD i []).length)))) 16 (some (.val (tI j)))) (upd (fun _=>none) 3 (some (⟨3,1,false,rV tI xs⟩))) _
    obtain ⟨hj,hx2⟩:=hI2
    have hxl:xs.length=2*tlen (ls.take i)+2*j:=by rw [hx2,List.length_append,flat_len,eds_len,List.length_take,Nat.min_eq_left hj]
    refine A6 ?_
    refine x9 rfl (fun h152=> ?_) (fun h152=> ?_)
    ·
      refine A6 ?_
      refine R2 (x5 sl51 (j) (by omega) (gD (l:=(ls.getD i [])) (n:=j) (d:=tst0) (by omega))) rfl rfl ?_
      refine A1 ?_
      refine RE (xa3 (k:=7) (n:=8) (agg:=true) zr59.1 zr59.2 rfl) trivial trivial ⟨rfl,trivial⟩ ?_
      refine A9 ?_
      refine R2 (xc0 (n:=2) (f:=fun n:Int=>tI n) [((ls.getD i []).getD j tst0).lo,((ls.getD i []).getD j tst0).hi] Tryz.underlying23 el3 zf3 rfl (fun _=>inferInstance) rfl rfl rfl) rfl rfl ?_
      refine RE (xb7 (k:=3) (k':=26) (f:=fun n:Int=>tI n) (ys:=[((ls.getD i []).getD j tst0).lo,((ls.getD i []).getD j tst0).hi]) (ts':=rV tI (xs++[((ls.getD i []).getD j tst0).lo,((ls.getD i []).getD j tst0).hi])) Tryz.underlying23 el3 zf3 rfl rfl (fun _=>inferInstance) xc8 (by simp;omega) (by simp;omega) (by simp [rV]) (n':=xs.length+2) rfl) ⟨rfl,rfl,trivial⟩ ⟨rfl,trivial⟩ ⟨rfl,trivial⟩ ?_
      refine A8 ?_
      exact xe4 (l:=[3]) (fun j=>cond (Nat.beq j 3) 26 (j)) ((j+1,xs++[((ls.getD i []).getD j tst0).lo,((ls.getD i []).getD j tst0).hi])) ⟨(by dsimp only;exact ⟨by omega,by rw [eds_snoc (by omega),←List.append_assoc,←hx2]⟩),(by dsimp only;omega)⟩ (SubR.int rfl (by first | omega | rfl | (dsimp only;omega)) (SubR.int rfl (by first | omega | rfl | (dsimp only;omega)) (SubR.cons rfl (SubR.int rfl (by first | omega | rfl | (dsimp only;omega)) (SubR.int rfl (by first | omega | rfl | (dsimp only;omega)) (SubR.cons rfl ((SubR.consI rfl (Imp.of (by dsimp only;rw [List.length_append];rfl))) SubR.nil))))))) ((SubKR.consI rfl (ImpK.of xb9.symm)) SubKR.nil) (SupG.val (SupG.val (SupG.val (SupG.val (SupG.val (SupG.val (SupG.own rfl SupG.nil))))))) (SupH.cons rfl (supJ xb0) SupH.nil) (lkOk rfl) rfl rfl (fun _ h=>by cases h)
    ·
      refine A9 ?_
      refine A1 ?_
      have hje:j=(ls.getD i []).length:=by omega
      subst hje
      exact kF ((i+1,xs)) ⟨(by dsimp only;exact ⟨by omega,by rw [flat_snoc (by omega),hx2,List.take_length]⟩),(by dsimp only;omega)⟩ (hh:=((SubK.consI rfl ImpK.refl) SubK.nil))
  ·
    refine A6 ?_
    have hie:i=ls.length:=by omega
    subst hie
    rw [List.take_length] at hx
    have hxl:xs.length=2*tlen ls:=by rw [hx,flat_len]
    have hsl:=srtI_len xs
    refine A2 ?_
    refine RE (xe3 (fun _=>3) (c_SortI xs (by omega)) fi275 rfl (krC (ρ:=fun _=>3) (k:=1) xb9 (krN (ρ:=fun _=>3))) (krC (ρ:=fun _=>3) (k:=1) xb9 (krN (ρ:=fun _=>3))) ⟨⟨rfl,xb0⟩,trivial⟩ rfl) ⟨rfl,trivial⟩ ⟨rfl,trivial⟩ trivial ?_
    refine A5 ?_
    refine RE (xe3 (fun _=>3) (c_CompactS xs) fi276 rfl (krC (ρ:=fun _=>3) (k:=1) xb9 (krN (ρ:=fun _=>3))) (krC (ρ:=fun _=>3) (k:=1) xb9 (krN (ρ:=fun _=>3))) ⟨⟨rfl,xb0⟩,trivial⟩ rfl) ⟨rfl,trivial⟩ ⟨rfl,trivial⟩ trivial ?_
    refine RE (d_assignSN (f:=tI) (xs:=brd xs) (up w.heap.size) (fun _ h=>h) (fun _=>Free.E) (fun _ h=>h) (rV_all rfl) rfl) ⟨rfl,trivial⟩ ⟨rfl,trivial⟩ trivial ?_
    refine A3 ?_
    exact x4 Plain.mk' rfl rfl (Le.of (by rw [hx];rfl))
theorem c_ChangesN (l:List Tst) (hl:l.length≤200000) (hD: ∀s∈l,s.v.f.dig):
    CtN Tryz.prog 105 [tL 8 true tTs l] (fun nw=>tG (up nw) (tL 1 false tI (if tRight l=true then bds [l] else []))):=by
  refine CtN.intro Tryz.func105 rfl Tryz.ntmps105 rfl ?_
  intro w F
  refine A9 ?_
  refine R1 (x3 (xg2 l hD) fi106 rfl) rfl ?_
  refine A3 ?_
  refine xd3 rfl (fun h215=> ?_) (fun h215=> ?_)
  ·
    refine A7 ?_
    exact x4 Plain.mk' rfl rfl (leNilG (by rw [if_neg (by simpa using h215)]))
  ·
    refine A5 ?_
    refine R1 (xc0 (n:=1) (f:=fun l=>tL 8 true tTs l) [l] Tryz.underlying133 el51 zf51 rfl (fun _=>inferInstance) rfl rfl rfl) rfl ?_
    refine R1 (xh4 (ts:=[_]) (r:=tG (up w.heap.size) _) (c_bordersN [l] (by simp) (by simp [tlen];omega)) fi189 (fun m hm=>tG_up hm) ⟨Le.refl,trivial⟩ rfl) rfl ?_
    refine A4 ?_
    exact x4 Plain.mk' rfl rfl (Le.of (by rw [if_pos (by simpa using h215)]))
end An.S

/- Law 5: TimelineAsks: the program and the reference agree on what is asked. -/
namespace An.S
open Go Go.Proofs An
set_option maxHeartbeats 2000000
set_option maxRecDepth 100000
instance fi35:FnI Tryz.prog 35:=⟨_,Tryz.func35,by kernel_rfl,rfl⟩
instance fi101:FnI Tryz.prog 101:=⟨_,Tryz.func101,by kernel_rfl,rfl⟩
instance fi103:FnI Tryz.prog 103:=⟨_,Tryz.func103,by kernel_rfl,rfl⟩
instance fi108:FnI Tryz.prog 108:=⟨_,Tryz.func108,by kernel_rfl,rfl⟩
instance fi109:FnI Tryz.prog 109:=⟨_,Tryz.func109,by kernel_rfl,rfl⟩
theorem c_SameValueT (x:Va):Ct Tryz.prog 29 [tVa x,tVa x] (tB true):=by
  have:=c_SameValue x x
  rw [decide_eq_true rfl] at this;exact this
theorem c_SameSpansT (x:List Sn):Ct Tryz.prog 92 [tL 2 true tSn x,tL 2 true tSn x] (tB true):=by
  have:=c_SameSpans x x
  rw [decide_eq_true rfl] at this;exact this
theorem c_SameIntsT (x:List Int):Ct Tryz.prog 64 [tL 1 false tI x,tL 1 false tI x] (tB true):=by
  have:=c_SameInts x x
  rw [decide_eq_true rfl] at this;exact this
theorem c_asks5 (a b:List Tst) (d:Int) (hla:a.length≤60) (hlb:b.length≤60) (hDa: ∀s∈a,s.v.f.dig) (hDb: ∀s∈b,s.v.f.dig) (hsa: ∀s∈a,s.v.f.n.l.length≤1200∧s.v.f.d.l.length≤1200) (hsb: ∀s∈b,s.v.f.n.l.length≤1200∧s.v.f.d.l.length≤1200):
  Ct Tryz.prog 35 [tL 8 true tTs a,tL 8 true tTs b,tI d] (tB true):=by
 refine Ct.introO Tryz.func35 rfl Tryz.ntmps35 rfl ?_
 intro w F
 refine A8 ?_
 refine R1 (xh4 (ts:=[_]) (r:=tG (up w.heap.size) _) (c_LentStepsN a hla (fun s hsm=>by have:=hsa s hsm;omega)) fi74 (fun m hm=>tG_up hm) ⟨tG_le,trivial⟩ rfl) rfl ?_
 refine A1 ?_
 refine R1 (xh4 (ts:=[_]) (r:=tG (up w.heap.size) _) (c_LentStepsN b hlb (fun s hsm=>by have:=hsb s hsm;omega)) fi74 (fun m hm=>tG_up hm) ⟨tG_le,trivial⟩ rfl) rfl ?_
 refine A5 ?_
 refine C_lent2 (W:=tStW a) (U:=tStW b) 99 64 7 8 (g':=fun v u=>upd (upd (upd (upd (upd (upd (fun _=>none) 0 (some (.val (tL 8 true tTs a)))) 1 (some (.val (tL 8 true tTs b)))) 2 (some (.val (tI d)))) 6 (some (.val (tB false)))) 7 (some (.val (tE v)))) 8 (some (.val (tE u)))) (h':=fun _=>none) rfl rfl rfl (fun _ L hL=>SlC.cons rfl .cst (SlC.cons rfl .cst (SlC.cons rfl (.val tG_E) (SlC.cons rfl (.val tG_E) (SlC.cons rfl (.val (tG_old hL)) (SlC.cons rfl (.val (tG_old hL)) (SlC.nil))))))) (fun _ _ _ _=>KyC.nil) ?_
 intro L w1 v u hv hu hL1 hL2
 refine A3 ?_
 refine RE (d_callH (us':=[tE v,tI d]) (r:=tT [tVa ((atR a d).getD An.va0),tB (atR a d).isSome]) OvC.mk' (c_AtN a d (by omega) hDa) fi100 hrT ⟨.inr ⟨_,rfl,stW_le _ _ _ hv⟩,.inl Le.refl,trivial⟩ rfl) ⟨rfl,rfl,trivial⟩ ⟨rfl,trivial⟩ trivial ?_
 refine A3 ?_
 refine RE (xa3 (k:=9) (n:=6) (agg:=true) zr57.1 zr57.2 rfl) trivial trivial ⟨rfl,trivial⟩ ?_
 refine A8 ?_
 refine R2 (x3 (c_R5At a d (by omega) hDa (fun s hsm=>by have:=hsa s hsm;omega)) fi101 rfl) rfl rfl ?_
 refine A3 ?_
 refine RE (xa3 (k:=11) (n:=6) (agg:=true) zr57.1 zr57.2 rfl) trivial trivial ⟨rfl,trivial⟩ ?_
 refine A8 ?_
 refine RE (d_callH (us':=[tE v,tE u]) (r:=tT [tL 2 true tSn (if tRight a=true∧tRight b=true then dfS a b else []),tI (if tRight a=true∧tRight b=true then 0 else 2)]) OvC.mk' (c_TDiffN a b (by omega) (by omega) hDa hDb) fi102 hrT ⟨.inr ⟨_,rfl,stW_le _ _ _ hv⟩,.inr ⟨_,rfl,stW_le _ _ _ hu⟩,trivial⟩ rfl) ⟨rfl,rfl,trivial⟩ ⟨rfl,trivial⟩ trivial ?_
 refine A9 ?_
 refine A2 ?_
 refine R2 (x3 (c_R5Diff a b (by omega) (by omega) hDa hDb (fun s hsm=>by have:=hsa s hsm;omega) (fun s hsm=>by have:=hsb s hsm;omega)) fi103 rfl) rfl rfl ?_
 refine A9 ?_
 refine A1 ?_
 refine RE (d_callH (us':=[tE v]) (r:=tL 2 true tSn (if tRight a=true then cvT a else [])) OvC.mk' (c_CoversN a (by omega) hDa) fi104 hrG ⟨.inr ⟨_,rfl,stW_le _ _ _ hv⟩,trivial⟩ rfl) ⟨rfl,trivial⟩ ⟨rfl,trivial⟩ trivial ?_
 refine A1 ?_
 refine RE (d_callH (us':=[tE v]) (r:=tL 1 false tI (if tRight a=true then bds [a] else [])) OvC.mk' (c_ChangesN a (by omega) hDa) fi105 hrG ⟨.inr ⟨_,rfl,stW_le _ _ _ hv⟩,trivial⟩ rfl) ⟨rfl,trivial⟩ ⟨rfl,trivial⟩ trivial ?_
 refine A9 ?_
 refine A2 ?_
 refine RGon (by simp) rfl xa2 rfl ⟨rfl,trivial⟩ trivial trivial (RGon (by simp) rfl xa2 rfl ⟨rfl,trivial⟩ trivial trivial (RGon (by simp) rfl d_neq rfl ⟨rfl,rfl,trivial⟩ trivial trivial (R2 (xd2 (by simp)) rfl rfl ?_)))
 refine A1 ?_
 refine RGon (decide_eq_false (by simp)) rfl xa2 rfl ⟨rfl,trivial⟩ trivial trivial (RGon (decide_eq_false (by simp)) rfl (d_callH (us':=[tE v]) (r:=tB (tRight a)) (rr:=fun _=>tB (tRight a)) OvC.mk' (xg2 a hDa) fi106 (hrE fun _=>rfl) ⟨.inr ⟨_,rfl,stW_le _ _ _ hv⟩,trivial⟩ rfl) rfl ⟨rfl,trivial⟩ ⟨rfl,trivial⟩ trivial (RGon (decide_eq_false (by simp)) rfl xa2 rfl ⟨rfl,trivial⟩ trivial trivial (RGon (decide_eq_false (by simp)) rfl (x3 (c_R5Right a (by omega) hDa (fun s hsm=>by have:=hsa s hsm;omega)) fi107 rfl) rfl ⟨rfl,trivial⟩ trivial trivial (RGon (decide_eq_false (by simp)) rfl (d_neqB Tryz.underlying4) rfl ⟨rfl,rfl,trivial⟩ trivial trivial (R2 (xd2 (decide_eq_false (by simp))) rfl rfl ?_)))))
 refine A1 ?_
 refine RGon (by simp) rfl xa2 rfl ⟨rfl,trivial⟩ trivial trivial (RGon (by simp) rfl xa2 rfl ⟨rfl,trivial⟩ trivial trivial (RGon (by simp) rfl (d_callH (us':=[tE v,tL 8 true tTs a]) (r:=tB true) (rr:=fun _=>tB true) OvC.mk' (c_KeptSteps a hla (fun s hsm=>by have:=hsa s hsm;omega)) fi82 (hrE fun _=>rfl) ⟨.inr ⟨_,rfl,hv⟩,.inl Le.refl,trivial⟩ rfl) rfl ⟨rfl,rfl,trivial⟩ ⟨rfl,trivial⟩ trivial (RGon (by simp) rfl d_not rfl ⟨rfl,trivial⟩ trivial trivial (R2 (xd2 (by simp)) rfl rfl ?_))))
 refine A3 ?_
 refine RGon rfl rfl (d_callH (us':=[tE u,tL 8 true tTs b]) (r:=tB true) (rr:=fun _=>tB true) OvC.mk' (c_KeptSteps b hlb (fun s hsm=>by have:=hsb s hsm;omega)) fi82 (hrE fun _=>rfl) ⟨.inr ⟨_,rfl,hu⟩,.inl Le.refl,trivial⟩ rfl) rfl ⟨rfl,rfl,trivial⟩ ⟨rfl,trivial⟩ trivial ?_
 refine A9 ?_
 refine A1 ?_
 refine RE (d_callV (us:=[tE v]) OvC.mk' (v_OverStepsL L w1 a hla (fun s hsm=>by have:=hsa s hsm;omega) v hv) fi84 ⟨Free.E,trivial⟩ rfl) ⟨rfl,trivial⟩ ⟨rfl,trivial⟩ trivial ?_
 refine A6 ?_
 refine R2 (x3 (c_SameValueT _) fi29 rfl) rfl rfl ?_
 refine A3 ?_
 refine RGon rfl rfl (x3 (c_SameSpansT _) fi92 rfl) rfl ⟨rfl,rfl,trivial⟩ trivial trivial ?_
 refine A4 ?_
 refine RGon rfl rfl (x3 (c_R5Covers a (by omega) hDa (fun s hsm=>by have:=hsa s hsm;omega)) fi108 rfl) rfl ⟨rfl,trivial⟩ trivial trivial (RGon rfl rfl (x3 (c_SameSpansT _) fi92 rfl) rfl ⟨rfl,rfl,trivial⟩ trivial trivial ?_)
 refine A4 ?_
 refine RGon rfl rfl (x3 (c_R5Changes a (by omega) hDa (fun s hsm=>by have:=hsa s hsm;omega)) fi109 rfl) rfl ⟨rfl,trivial⟩ trivial trivial (RGon rfl rfl (x3 (c_SameIntsT _) fi64 rfl) rfl ⟨rfl,rfl,trivial⟩ trivial trivial ?_)
 refine A5 ?_
 exact E_retB (RBase.ov hL2) trivial rfl rfl
theorem c_TlAsks (a b:List Tst) (d:Int) (hDa: ∀s∈a,s.v.f.dig) (hDb: ∀s∈b,s.v.f.dig) (hra: ∀s∈a,s.v.f.n.l.length≤70368744177664∧s.v.f.d.l.length≤70368744177664) (hrb: ∀s∈b,s.v.f.n.l.length≤70368744177664∧s.v.f.d.l.length≤70368744177664):
  Ct Tryz.prog 8 [tL 8 true tTs a,tL 8 true tTs b,tI d] (tB true):=by
 refine Ct.intro Tryz.func8 rfl Tryz.ntmps8 rfl ?_
 intro w F
 refine A8 ?_
 refine R1 (x3 (c_Few a hra) fi24 rfl) rfl ?_
 refine A2 ?_
 refine RGcase (t:=10) rfl (fun h115=> ?_) (fun h115=> ?_)
 ·
  refine A9 ?_
  refine A8 ?_
  refine RGon rfl rfl (x3 c_awake05 fi36 rfl) rfl trivial trivial trivial ?_
  refine A5 ?_
  exact x4 Plain.mk' rfl rfl Le.refl
 ·
  have ha:=few_of (l:=a) (by simpa using h115)
  refine A1 ?_
  refine RGon h115 rfl (x3 (c_Few b hrb) fi24 rfl) rfl ⟨rfl,trivial⟩ trivial trivial ?_
  refine A3 ?_
  refine RGcase (t:=15) rfl (fun h115_2=> ?_) (fun h115_2=> ?_)
  ·
   refine A9 ?_
   refine A3 ?_
   refine RGon rfl rfl (x3 c_awake05 fi36 rfl) rfl trivial trivial trivial ?_
   refine A5 ?_
   exact x4 Plain.mk' rfl rfl Le.refl
  ·
   have hb:=few_of (l:=b) (by simpa using h115_2)
   refine A3 ?_
   refine RGon h115_2 rfl (x3 (c_asks5 a b d ha.1 hb.1 hDa hDb ha.2 hb.2) fi35 rfl) rfl ⟨rfl,rfl,rfl,trivial⟩ trivial trivial ?_
   refine A4 ?_
   refine RGon rfl rfl (x3 (c_asks5 b a d hb.1 ha.1 hDb hDa hb.2 ha.2) fi35 rfl) rfl ⟨rfl,rfl,rfl,trivial⟩ trivial trivial (RGon h115_2 rfl (xe6 rfl) rfl ⟨rfl,rfl,trivial⟩ trivial trivial ?_)
   refine A2 ?_
   refine RGon rfl rfl (x3 c_awake05 fi36 rfl) rfl trivial trivial trivial ?_
   refine A5 ?_
   exact x4 Plain.mk' rfl rfl Le.refl
end An.S
