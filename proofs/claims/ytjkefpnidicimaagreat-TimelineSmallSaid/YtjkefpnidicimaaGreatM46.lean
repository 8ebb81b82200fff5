/- Part 6 of a proof: N2, X7, LibFf, P6, J6, LibFg, J8, Svc, S12, S13, Svc2, J7, O40. -/
import Derived.Test.YtjkefpnidicimaaGreatChecked
import Derived.Test.YtjkefpnidicimaaGreatM45
set_option maxHeartbeats 4000000
set_option maxRecDepth 100000
namespace An.S
open Go Go.Proofs An Tryz
abbrev tVG (v:Va) (a b:Ty):Ty:=tS [⟨1,false,tE (.int .u8 (v.kind:Int))⟩,⟨4,true,tS [⟨2,true,tS [⟨1,false,tB v.f.n.neg⟩,⟨1,false,a⟩]⟩,⟨2,true,tS [⟨1,false,tB v.f.d.neg⟩,⟨1,false,b⟩]⟩]⟩,⟨1,false,tI v.i⟩]
theorem upNG (v:Va) {a a' b:Ty} [Shape a' 1 false] [Shape b 1 false]:Up (tVG v a b) (1+(0+1)) 1 false a' (tVG v a' b):=
 Up.t (t1:=tS [⟨2,true,tS [⟨1,false,tB v.f.n.neg⟩,⟨1,false,a⟩]⟩,⟨2,true,tS [⟨1,false,tB v.f.d.neg⟩,⟨1,false,b⟩]⟩]) (t1':=tS [⟨2,true,tS [⟨1,false,tB v.f.n.neg⟩,⟨1,false,a'⟩]⟩,⟨2,true,tS [⟨1,false,tB v.f.d.neg⟩,⟨1,false,b⟩]⟩]) (At.g 1 rfl rfl) (Up.f (f:=⟨4,true,tS [⟨2,true,tS [⟨1,false,tB v.f.n.neg⟩,⟨1,false,a⟩]⟩,⟨2,true,tS [⟨1,false,tB v.f.d.neg⟩,⟨1,false,b⟩]⟩]⟩) 1 rfl rfl rfl)
  (Up.t (t1:=tS [⟨1,false,tB v.f.n.neg⟩,⟨1,false,a⟩]) (t1':=tS [⟨1,false,tB v.f.n.neg⟩,⟨1,false,a'⟩]) (At.g 0 rfl rfl) (Up.f (f:=⟨2,true,tS [⟨1,false,tB v.f.n.neg⟩,⟨1,false,a⟩]⟩) 0 rfl rfl rfl) (Up.f (f:=⟨1,false,a⟩) 1 rfl rfl rfl))
theorem upDG (v:Va) {a b b':Ty} [Shape a 1 false] [Shape b' 1 false]:Up (tVG v a b) (1+(2+1)) 1 false b' (tVG v a b'):=
 Up.t (t1:=tS [⟨2,true,tS [⟨1,false,tB v.f.n.neg⟩,⟨1,false,a⟩]⟩,⟨2,true,tS [⟨1,false,tB v.f.d.neg⟩,⟨1,false,b⟩]⟩]) (t1':=tS [⟨2,true,tS [⟨1,false,tB v.f.n.neg⟩,⟨1,false,a⟩]⟩,⟨2,true,tS [⟨1,false,tB v.f.d.neg⟩,⟨1,false,b'⟩]⟩]) (At.g 1 rfl rfl) (Up.f (f:=⟨4,true,tS [⟨2,true,tS [⟨1,false,tB v.f.n.neg⟩,⟨1,false,a⟩]⟩,⟨2,true,tS [⟨1,false,tB v.f.d.neg⟩,⟨1,false,b⟩]⟩]⟩) 1 rfl rfl rfl)
  (Up.t (t1:=tS [⟨1,false,tB v.f.d.neg⟩,⟨1,false,b⟩]) (t1':=tS [⟨1,false,tB v.f.d.neg⟩,⟨1,false,b'⟩]) (At.g 1 rfl rfl) (Up.f (f:=⟨2,true,tS [⟨1,false,tB v.f.d.neg⟩,⟨1,false,b⟩]⟩) 1 rfl rfl rfl) (Up.f (f:=⟨1,false,b⟩) 1 rfl rfl rfl))
theorem vaGN {G:Dom} {v:Va}:Le (tVG v (tG G (tLm v.f.n.l)) (tG G (tLm v.f.d.l))) (tG G (tVa v)):=yb3 ⟨⟨rfl,rfl,y6⟩,⟨rfl,rfl,yb3 ⟨⟨rfl,rfl,yb3 ⟨⟨rfl,rfl,y6⟩,⟨rfl,rfl,zao⟩,trivial⟩⟩,⟨rfl,rfl,yb3 ⟨⟨rfl,rfl,y6⟩,⟨rfl,rfl,zao⟩,trivial⟩⟩,trivial⟩⟩,⟨rfl,rfl,y6⟩,trivial⟩
theorem va0N {G:Dom}:Le (tVa An.va0) (tG G (tVa An.va0)):=va00N
theorem jd3 (v:Va) (h1:v.f.n.l.length<=1000000) (h2:v.f.d.l.length<=1000000):
  CtN Tryz.prog 185 [tVa v] (fun nw=>tG (up nw) (tVa v)):=by
 refine CtN.intro func185 rfl ntmps185 rfl ?_;intro w F;refine A3 ?_;refine RE (x7 (k:=2) (n:=6) (agg:=true) zr57.1 zr57.2 rfl) trivial trivial qA ?_;refine A7 ?_;refine xe1 (0) ti37 rfl rfl rfl (At.t (At.g 1 rfl rfl) (At.t (At.g 0 rfl rfl) (At.g 1 rfl rfl))) rfl (R1 (xj1 (ts:=[_]) (r:=tG (up w.heap.size) _) (CtN.ofG (yi1 _ h1) rfl fun _=>Free.E) fi216 (fun m hm=>ya1 hm) ⟨zao,trivial⟩ rfl) rfl ?_);refine A3 ?_;refine RE (xj2 (k:=1) (T0:=57) (es:=6) (ts:=[.val (tVG v (tLm v.f.n.l) (tLm v.f.d.l))]) (0) ti37 rfl (upNG v (a':=tG (up w.heap.size) (tLm v.f.n.l))) rfl rfl) qB qA trivial ?_;refine A7 ?_;refine xe1 (0) ti37 rfl rfl rfl (At.t (At.g 1 rfl rfl) (At.t (At.g 1 rfl rfl) (At.g 1 rfl rfl))) rfl (R1 (xj1 (ts:=[_]) (r:=tG (up w.heap.size) _) (CtN.ofG (yi1 _ h2) rfl fun _=>Free.E) fi216 (fun m hm=>ya1 hm) ⟨zao,trivial⟩ rfl) rfl ?_);refine A3 ?_;refine RE (xj2 (k:=1) (T0:=57) (es:=6) (ts:=[.val (tVG v (tG (up w.heap.size) (tLm v.f.n.l)) (tLm v.f.d.l))]) (0) ti37 rfl (upDG v (b':=tG (up w.heap.size) (tLm v.f.d.l))) rfl rfl) qB qA trivial ?_;refine A9 ?_;exact EC rfl ⟨_,_,_,_,_,rfl,rfl,ti57,vaGN⟩
theorem c_AtN (l:List Tst) (d:Int) (hl:l.length<=1000000) (hD: ∀s∈l,s.v.f.dig):
  CtN Tryz.prog 100 [tL 8 true tTs l,tI d] (fun nw=>tT [tG (up nw) (tVa ((atR l d).getD An.va0)),tB (atR l d).isSome]):=by
 have hfl:=jv3 (l:=l) (d:=d);refine CtN.intro func100 rfl ntmps100 rfl ?_;intro w F;refine A4 ?_;refine RE (x7 (k:=4) (n:=6) (agg:=true) zr57.1 zr57.2 rfl) trivial trivial qA ?_;refine A7 ?_;refine R1 (x3 (xz5 l hD) fi106 rfl) rfl ?_;refine A3 ?_;refine xc2 rfl (fun h83=> ?_) (fun h83=> ?_)
 ·
  have hk: ¬tRight l=true:=by simpa using h83
  have hr:atR l d=none:=by rw [atR,if_neg hk]
  refine A2 ?_;refine R0 (xb0 (r:=tS [⟨1,false,(tE (.int .u8 0))⟩,⟨4,true,zad⟩,⟨1,false,(tE (.int .i64 0))⟩]) (ts:=[]) bu57 zr57.2 zao) ?_;refine A6 ?_;exact EN (rs:=[.cell 4 57,.tmp 5]) rfl rfl ⟨⟨_,_,_,_,_,rfl,rfl,ti57,(Le.trans va0N (Le.of (by rw [hr];rfl)))⟩,⟨_,rfl,(zau (by rw [hr];rfl))⟩,trivial⟩
 ·
  have hok:tRight l=true:=by simpa using h83
  refine A6 ?_;refine R2 (xg8 (ps:=[.ptr 2 0,.ptr 3 0]) rfl) rfl rfl (RE (xb7 (fun j=>cond (Nat.beq j 2) 2 (3)) (qz6 l d hok hl) fi183 rfl (krC (ρ:=fun j=>cond (Nat.beq j 2) 2 (3)) (k:=2) rfl (krC (ρ:=fun j=>cond (Nat.beq j 2) 2 (3)) (k:=3) rfl (krN (ρ:=fun j=>cond (Nat.beq j 2) 2 (3))))) (krC (ρ:=fun j=>cond (Nat.beq j 2) 2 (3)) (k:=2) rfl (krC (ρ:=fun j=>cond (Nat.beq j 2) 2 (3)) (k:=3) rfl (krN (ρ:=fun j=>cond (Nat.beq j 2) 2 (3))))) ⟨⟨rfl,(SupX.lit rfl)⟩,⟨rfl,(SupX.lit rfl)⟩,trivial⟩ rfl) qB qB trivial ?_);refine A11 ?_;refine RGcaseD (t:=19) rfl (fun h87=> ?_) (fun h87=> ?_)
  ·
   refine A13 ?_;refine R0 (xb0 (r:=tS [⟨1,false,(tE (.int .u8 0))⟩,⟨4,true,zad⟩,⟨1,false,(tE (.int .i64 0))⟩]) (ts:=[]) bu57 zr57.2 zao) ?_;refine A6 ?_;exact EN (rs:=[.cell 4 57,.tmp 5]) rfl rfl ⟨⟨_,_,_,_,_,rfl,rfl,ti57,(Le.trans va0N (Le.of (by rw [atR,if_pos hok,yj6 hok,if_neg (by omega)];rfl)))⟩,⟨_,rfl,(zau (by rw [atR,if_pos hok,yj6 hok,if_neg (by omega)];rfl))⟩,trivial⟩
  ·
   refine A2 ?_;refine Rg (zbf h87) rfl (x4 sl51 (fndT l d) (by omega) (zai (l:=l) (n:=fndT l d) (d:=tst0))) rfl ⟨rfl,rfl,trivial⟩ (Rg (zbf h87) rfl (xf3 fo59_0.h (At.f 0 rfl rfl) rfl) rfl ⟨rfl,trivial⟩ ?_);refine A6 ?_;refine x6 rfl (fun h87_2=> ?_) (fun h87_2=> ?_)
   ·
    refine A2 ?_;refine R0 (xb0 (r:=tS [⟨1,false,(tE (.int .u8 0))⟩,⟨4,true,zad⟩,⟨1,false,(tE (.int .i64 0))⟩]) (ts:=[]) bu57 zr57.2 zao) ?_;refine A6 ?_;exact EN (rs:=[.cell 4 57,.tmp 5]) rfl rfl ⟨⟨_,_,_,_,_,rfl,rfl,ti57,(Le.trans va0N (Le.of (by rw [atR,if_pos hok,yj6 hok,if_neg (by omega)];rfl)))⟩,⟨_,rfl,(zau (by rw [atR,if_pos hok,yj6 hok,if_neg (by omega)];rfl))⟩,trivial⟩
   ·
    refine A6 ?_;have hlen:=yp3 (y5 hok _ (xi0 (l:=l) (i:=fndT l d) (by omega)));refine R2 (x4 sl51 (fndT l d) (by omega) (zai (l:=l) (n:=fndT l d) (d:=tst0))) rfl rfl (R1 (xf3 fo59_2.h (At.f 2 rfl rfl) rfl) rfl ?_);refine A1 ?_;refine R1 (xj1 (ts:=[_]) (r:=tG (up w.heap.size) _) (jd3 (l.getD (fndT l d) tst0).v (by omega) (by omega)) fi185 (fun m hm=>ya1 hm) ⟨zao,trivial⟩ rfl) rfl ?_;refine A5 ?_;exact EN (rs:=[.cell 4 57,.tmp 5]) rfl rfl ⟨⟨_,_,_,_,_,rfl,rfl,ti57,(Le.of (by rw [atR,if_pos hok,yj6 hok,if_pos (by omega)];rfl))⟩,⟨_,rfl,(zau (by rw [atR,if_pos hok,yj6 hok,if_pos (by omega)];rfl))⟩,trivial⟩
theorem zo2 (l:List Sn) (hl:l.length<=1000000):
  CtN Tryz.prog 187 [tL 2 true tSn l] (fun nw=>tT [tG (up nw) (tL 2 true tSn (if l.all Sn.ok=true then mkS l else [])),tI (if l.all Sn.ok=true then 0 else 2)]):=by
 refine CtN.intro func187 rfl ntmps187 rfl ?_;intro w F;refine A8 ?_;refine RE (xe3 (k:=4) 119 2 true rfl (fun h=>by cases h)) trivial trivial qA ?_;refine A11 ?_;refine cL (fun (fm:(Nat)×(List Sn))=>(fun (i:Nat) (xs:List Sn)=>i<=l.length/\(l.take i).all Sn.ok=true/\xs=(l.take i).filter pos) fm.1 fm.2) (wB fun (i:Nat) (xs:List Sn)=>uV (uV (uV (uO (uV uN 0 (tL 2 true tSn l)) 4 (.sl 4 2 0 xs.length)) 11 (tL 2 true tSn l)) 12 (tI l.length)) 13 (tI i)) (wB fun (i:Nat) (xs:List Sn)=>uK uN 4 119 2 true (rV tSn xs)) [4] (fun (fm:(Nat)×(List Sn))=>(fun (i:Nat) (xs:List Sn)=>l.length - i) fm.1 fm.2) ((0,[])) (by dsimp only;exact ⟨zbq _,rfl,rfl⟩) ?_;intro fm hI;obtain ⟨i,xs⟩:=fm;replace hI:i<=l.length/\(l.take i).all Sn.ok=true/\xs=(l.take i).filter pos:=hI;show wc _ _ _ _ (uV (uV (uV (uO (uV uN 0 (tL 2 true tSn l)) 4 (.sl 4 2 0 xs.length)) 11 (tL 2 true tSn l)) 12 (tI l.length)) 13 (tI i)) (uK uN 4 119 2 true (rV tSn xs)) _;obtain ⟨hi,ha,hx⟩:=hI;have hxl:xs.length<=i:=hx▸jc8;refine A6 ?_;refine x6 rfl (fun h31=> ?_) (fun h31=> ?_)
 ·
  refine A6 ?_;refine R2 (x4 sl113 (i) (by omega) (zai (l:=l) (n:=i) (d:=sn0))) rfl rfl ?_;refine A1 ?_;refine RE (x7 (k:=6) (n:=2) (agg:=true) zr119.1 zr119.2 rfl) trivial trivial qA ?_;refine A7 ?_;refine R1 (x3 (jo8 _) fi271 rfl) rfl ?_;refine A3 ?_;refine xc2 rfl (fun h32=> ?_) (fun h32=> ?_)
  ·
   have hbad:l.all Sn.ok=false:=qv5 (i:=i) (by omega) (by rw [zgv] at h32;exact h32);refine A13 ?_;exact E2 rfl rfl rfl (leNilG (by rw [if_neg (by rw [hbad];exact Bool.false_ne_true)])) (zba (by rw [if_neg (by rw [hbad];exact Bool.false_ne_true)]))
  ·
   rw [Bool.not_eq_false'] at h32;refine A11 ?_;refine x6 rfl (fun h35=> ?_) (fun h35=> ?_)
   ·
    refine A3 ?_;refine R1 (xb5 (n:=1) (f:=tSn) [(l.getD i sn0)] zhk el119 zf119 rfl (fun _=>inferInstance) rfl rfl rfl) rfl (RE (xb3 (k:=4) (k':=28) (f:=tSn) (ys:=[(l.getD i sn0)]) (ts':=rV tSn (xs++[(l.getD i sn0)])) zhk el119 zf119 rfl rfl (fun _=>inferInstance) xd2 (by simp;omega) (by simp;omega) (by simp [rV]) (n':=xs.length+1) rfl) qB qA qA ?_);refine A8 ?_;exact xc6 (l:=[4]) (zab 4 28) ((i+1,xs++[(l.getD i sn0)])) ⟨(by dsimp only;exact ⟨by omega,by rw [zp1 (by omega),ha,h32];rfl,by rw [yu5 (by omega),<-hx,if_pos (show pos _=true from zbg h35)]⟩),(by dsimp only;omega)⟩ (zaf rfl (zaf rfl (zas rfl ((zbc rfl (zaw (by dsimp only;rw [zbp];rfl))) (zas rfl zbd))))) ((zbb rfl (zat xa6.symm)) zbe) (zaj (zaj (zaj (zak rfl (zaj zar))))) (zam rfl (supJ xa5) zaz) (lkOk rfl) rfl rfl (fun _ h=>by cases h)
   ·
    refine A7 ?_;exact kF ((i+1,xs)) ⟨(by dsimp only;exact ⟨by omega,by rw [zp1 (by omega),ha,h32];rfl,by rw [yu5 (by omega),<-hx,if_neg (by rw [pos,zbf h35];exact Bool.false_ne_true),zgu]⟩),(by dsimp only;omega)⟩
 ·
  refine A6 ?_;have hil:i=l.length:=by omega
  subst hil;rw [zbx] at ha hx;have hall:=ha;have hmk:mkS l=mrg (srt cfSn xs):=by rw [mkS,hx]
  refine A2 ?_;refine RE (xb7 (fun _=>4) (jp8 xs (by omega)) fi272 rfl (krC (ρ:=fun _=>4) (k:=1) xa6 (krN (ρ:=fun _=>4))) (krC (ρ:=fun _=>4) (k:=1) xa6 (krN (ρ:=fun _=>4))) ⟨⟨rfl,xa5⟩,trivial⟩ rfl) qB qA trivial ?_;refine A4 ?_;refine RE (xe3 (k:=7) 119 2 true rfl (fun h=>by cases h)) trivial trivial qA ?_;refine A11 ?_;refine cL (fun (fm:(Nat)×(List Sn))=>(fun (i:Nat) (zs:List Sn)=>i<=xs.length/\zs=mrg ((srt cfSn xs).take i)) fm.1 fm.2) (wB fun (i:Nat) (zs:List Sn)=>uV (uV (uO (uO (uO uN 4 (.sl 4 2 0 xs.length)) 7 (.sl 7 2 0 zs.length)) 32 (.sl 4 2 0 xs.length)) 33 (tI xs.length)) 34 (tI i)) (wB fun (i:Nat) (zs:List Sn)=>uK (uK uN 4 119 2 true (rV tSn (srt cfSn xs))) 7 119 2 true (rV tSn zs)) [4,7] (fun (fm:(Nat)×(List Sn))=>(fun (i:Nat) (zs:List Sn)=>xs.length - i) fm.1 fm.2) ((0,[])) (by dsimp only;exact ⟨zbq _,rfl⟩) ?_;intro fm hI;obtain ⟨i,zs⟩:=fm;replace hI:i<=xs.length/\zs=mrg ((srt cfSn xs).take i):=hI;show wc _ _ _ _ (uV (uV (uO (uO (uO uN 4 (.sl 4 2 0 xs.length)) 7 (.sl 7 2 0 zs.length)) 32 (.sl 4 2 0 xs.length)) 33 (tI xs.length)) 34 (tI i)) (uK (uK uN 4 119 2 true (rV tSn (srt cfSn xs))) 7 119 2 true (rV tSn zs)) _;obtain ⟨hi',hz⟩:=hI;have hsl:=qu3 (xs:=xs);have hzl:zs.length<=i:=by
   have h:=qg1 ((srt cfSn xs).take i) [];rw [zde] at h;have h2:zs.length<=([]:List Sn).length+min i (srt cfSn xs).length:=by rw [hz];exact h
   simp at h2;omega
  refine A6 ?_;refine x6 rfl (fun h41=> ?_) (fun h41=> ?_)
  ·
   refine A6 ?_;refine R2 (zag sl113 rfl) rfl rfl (RE (xc1 (i) ti119 (xc4 (d:=sn0) (by omega)) (by omega)) qA qA trivial (RE (x7 (k:=9) (n:=2) (agg:=true) zr119.1 zr119.2 rfl) trivial trivial qA ?_));refine A15 ?_;refine RGcaseD (t:=42) rfl (fun h42=> ?_) (fun h42=> ?_)
   ·
    refine A2 ?_;refine Rg (zbg h42) rfl (xd6 zah) rfl qB (Rg (zbg h42) rfl (zag sl113 rfl) rfl qB ?_);refine A1 ?_;refine RGon (zbg h42) rfl (xj6 (es:=2) (o:=1) (zs.length - 1) ti3 (xc4 (d:=sn0) (by omega)) (At.g 1 rfl rfl) (by omega)) rfl qA qA trivial ?_;refine A6 ?_;refine x6 rfl (fun h42_2=> ?_) (fun h42_2=> ?_)
    ·
     refine A7 ?_;refine R2 (zag sl113 rfl) rfl rfl ?_;refine A1 ?_;refine RE (xj6 (es:=2) (o:=1) (zs.length - 1) ti3 (xc4 (d:=sn0) (by omega)) (At.g 1 rfl rfl) (by omega)) qA qA trivial ?_;refine A2 ?_;refine R2 yo8 rfl rfl (R2 (zag sl113 rfl) rfl rfl ?_);refine A1 ?_;refine RE (xj2 (es:=2) (o:=1) (t2:=tSn ⟨(zs.getD (zs.length - 1) sn0).lo,max (zs.getD (zs.length - 1) sn0).hi ((srt cfSn xs).getD i sn0).hi⟩) (zs.length - 1) ti3 (xc4 (d:=sn0) (by omega)) (Up.f (f:=⟨1,false,tI (zs.getD (zs.length - 1) sn0).hi⟩) 1 rfl rfl rfl) (by omega) (xi3 rfl)) qB qA trivial ?_;refine A7 ?_;exact kF ((i+1,(zs.set (zs.length - 1) ⟨(zs.getD (zs.length - 1) sn0).lo,max (zs.getD (zs.length - 1) sn0).hi ((srt cfSn xs).getD i sn0).hi⟩))) ⟨(by dsimp only;exact ⟨by omega,by rw [yz2 (by omega),<-hz,mrg1,if_pos ⟨by omega,by omega⟩]⟩),(by dsimp only;omega)⟩ (hg:=(sI (sI (sC ((zav rfl (zaw (by dsimp only;rw [zdy]))) (sC zay))))))
    ·
     refine A3 ?_;refine R1 (xb5 (n:=1) (f:=tSn) [((srt cfSn xs).getD i sn0)] zhk el119 zf119 rfl (fun _=>inferInstance) rfl rfl rfl) rfl (RE (xb3 (k:=7) (k':=70) (f:=tSn) (ys:=[((srt cfSn xs).getD i sn0)]) (ts':=rV tSn (zs++[((srt cfSn xs).getD i sn0)])) zhk el119 zf119 rfl rfl (fun _=>inferInstance) xd2 (by simp;omega) (by simp;omega) (by simp [rV]) (n':=zs.length+1) rfl) qB qA qA ?_);refine A8 ?_;exact xc6 (l:=[4,7]) (zab 7 70) ((i+1,zs++[((srt cfSn xs).getD i sn0)])) ⟨(by dsimp only;exact ⟨by omega,by rw [yz2 (by omega),<-hz,mrg1,if_neg (by omega)]⟩),(by dsimp only;omega)⟩ (zaf rfl (zaf rfl (zas rfl ((zbc rfl (zaw (by dsimp only;rw [zbp];rfl))) (zas rfl zbd))))) ((zbb rfl (zat xa6.symm)) ((zbb rfl (zat xa6.symm)) zbe)) (zaj (zaj (zak rfl (zak rfl (zak rfl zar))))) (zam rfl (supJ xa5) (zam rfl (supJ xa5) zaz)) (lkOk rfl) rfl rfl (fun _ h=>by cases h)
   ·
    refine A16 ?_;refine R1 (xb5 (n:=1) (f:=tSn) [((srt cfSn xs).getD i sn0)] zhk el119 zf119 rfl (fun _=>inferInstance) rfl rfl rfl) rfl (RE (xb3 (k:=7) (k':=70) (f:=tSn) (ys:=[((srt cfSn xs).getD i sn0)]) (ts':=rV tSn (zs++[((srt cfSn xs).getD i sn0)])) zhk el119 zf119 rfl rfl (fun _=>inferInstance) xd2 (by simp;omega) (by simp;omega) (by simp [rV]) (n':=zs.length+1) rfl) qB qA qA ?_);refine A8 ?_;exact xc6 (l:=[4,7]) (zab 7 70) ((i+1,zs++[((srt cfSn xs).getD i sn0)])) ⟨(by dsimp only;exact ⟨by omega,by rw [yz2 (by omega),<-hz,mrg1,if_neg (by omega)]⟩),(by dsimp only;omega)⟩ (zaf rfl (zaf rfl (zas rfl ((zbc rfl (zaw (by dsimp only;rw [zbp];rfl))) (zas rfl zbd))))) ((zbb rfl (zat xa6.symm)) ((zbb rfl (zat xa6.symm)) zbe)) (zaj (zaj (zak rfl (zak rfl (zak rfl zar))))) (zam rfl (supJ xa5) (zam rfl (supJ xa5) zaz)) (lkOk rfl) rfl rfl (fun _ h=>by cases h)
  ·
   refine A8 ?_;refine RE (ze5 (f:=tSn) (xs:=zs) (up w.heap.size) (fun _ h=>h) (fun _=>Free.S ⟨Free.E,Free.E,trivial⟩) (fun _ h=>h) (xg2 rfl) rfl) qA qA trivial ?_;refine A4 ?_;exact E2 rfl rfl rfl (Le.of (by rw [if_pos hall,hmk,hz,show i=(srt cfSn xs).length by omega,zbx])) (zba (by rw [if_pos hall]))
theorem zo0 (l:List Tst) (hl:l.length<=200000) (hD: ∀s∈l,s.v.f.dig):
  CtN Tryz.prog 104 [tL 8 true tTs l] (fun nw=>tG (up nw) (tL 2 true tSn (if tRight l=true then cvT l else []))):=by
 refine CtN.intro func104 rfl ntmps104 rfl ?_;intro w F;refine A9 ?_;refine R1 (x3 (xz5 l hD) fi106 rfl) rfl ?_;refine A3 ?_;refine xc2 rfl (fun h202=> ?_) (fun h202=> ?_)
 ·
  refine A7 ?_;exact E1 rfl rfl (leNilG (by rw [if_neg (by simpa using h202)]))
 ·
  refine A6 ?_;refine RE (xg0 (k:=13) (t:=tSn sn0) (ts:=rV tSn (List.replicate l.length sn0)) l.length l.length zhk el119 (fun F w=>jb6) rfl (by omega) (by omega) (zbs _) (by omega) (by omega) (xk0 _ _ rfl)) qB trivial qA ?_;refine A12 ?_;have hok:tRight l=true:=by simpa using h202
  refine cL (fun (i:Nat)=>i<=l.length) (fun (i:Nat)=>uV (uV (uV (uO uN 3 (.sl 13 2 0 l.length)) 14 (tL 8 true tTs l)) 15 (tI l.length)) 16 (tI i)) (fun (i:Nat)=>uK uN 13 119 2 true (rV tSn (cvL l i))) [13] (fun (i:Nat)=>l.length - i) (0) (zbq _) (hh:=((zaq rfl (zat (by simp [cvL]))) zax)) ?_;intro i hI;have hcl:=jv2 (l:=l) (i:=i) hI;refine A6 ?_;refine x6 rfl (fun h206=> ?_) (fun h206=> ?_)
  ·
   refine A7 ?_;refine R2 (x4 sl51 (i) (by omega) (zai (l:=l) (n:=i) (d:=tst0))) rfl rfl ?_;refine A1 ?_;refine RE (x7 (k:=5) (n:=8) (agg:=true) zr59.1 zr59.2 rfl) trivial trivial qA ?_;refine A11 ?_;refine R2 (xb0 (r:=tS [⟨1,false,tI (l.getD i tst0).lo⟩,⟨1,false,tI (l.getD i tst0).hi⟩]) (ts:=[(0,tI (l.getD i tst0).lo),(1,tI (l.getD i tst0).hi)]) bu119 zr119.2 (Bc 0 rfl rfl rfl (Bc 1 rfl rfl rfl zao))) rfl rfl (R2 (zag sl113 rfl) rfl rfl (RE (xb8 (i) ti119 (xe8 (by omega)) (by omega) (xi3 (m:=(spT (l.getD i tst0))) rfl)) ⟨rfl,rfl,trivial⟩ ⟨rfl,trivial⟩ trivial ?_));refine A7 ?_;exact kF (i+1) ⟨(by omega),(by omega)⟩ (hh:=((zaq rfl (zat (by rw [jw3 (by omega)]))) zax))
  ·
   refine A6 ?_;have hil:i=l.length:=by omega
   subst hil;refine yb2 (k:=13) (e':=⟨119,2,true,rV tSn (cvS l)⟩) rfl (by rw [wb4]) ?_;refine A1 ?_;refine RE (xi6 (f:=tSn) (xs:=cvS l) (fun _ h=>h) (xg2 (by simp [cvS])) (by simp [cvS])) qA qA trivial (R1 (xj1 (ts:=[_]) (r:=tT [tG (up w.heap.size) _,_]) (zo2 (cvS l) (by simp [cvS];omega)) fi187 (fun m hm=>yw2 ⟨ya1 hm,zao,trivial⟩) ⟨zao,trivial⟩ rfl) rfl ?_);refine A14 ?_;exact E1 rfl rfl (Le.of (by rw [if_pos hok,if_pos (qn2 (zi5 hok))];rfl))
theorem zr0 (a b:List Tst) (hla:a.length<=200000) (hlb:b.length<=200000) (hDa: ∀s∈a,s.v.f.dig) (hDb: ∀s∈b,s.v.f.dig):
  CtN Tryz.prog 102 [tL 8 true tTs a,tL 8 true tTs b] (fun nw=>tT [tG (up nw) (tL 2 true tSn (if tRight a=true/\tRight b=true then dfS a b else [])),tI (if tRight a=true/\tRight b=true then 0 else 2)]):=by
 refine CtN.intro func102 rfl ntmps102 rfl ?_;intro w F;refine A10 ?_;refine R1 (x3 (xz5 a hDa) fi106 rfl) rfl ?_;refine A2 ?_;refine RGcase (t:=12) rfl (fun h223=> ?_) (fun h223=> ?_)
 ·
  refine A15 ?_;exact E2 rfl rfl rfl (leNilG (by rw [if_neg fun h=>by rw [h.1] at h223;cases h223])) (zba (by rw [if_neg fun h=>by rw [h.1] at h223;cases h223]))
 ·
  refine A1 ?_;refine Rg h223 rfl (x3 (xz5 b hDb) fi106 rfl) rfl qA ?_;refine A4 ?_;refine xc2 rfl (fun h223_2=> ?_) (fun h223_2=> ?_)
  ·
   refine A8 ?_;exact E2 rfl rfl rfl (leNilG (by rw [if_neg fun h=>by rw [h.2] at h223_2;cases h223_2])) (zba (by rw [if_neg fun h=>by rw [h.2] at h223_2;cases h223_2]))
  ·
   refine A4 ?_;refine RE (x7 (k:=6) (n:=1) (agg:=false) zr113.1 zr113.2 rfl) trivial trivial qA ?_;refine A4 ?_;have hok:tRight a=true/\tRight b=true:=⟨by simpa using h223,by simpa using h223_2⟩
   refine ys1 (q:=6) 60 119 2 true 0 rfl rfl rfl rfl (fun h=>by cases h) rfl rfl ?_;refine A3 ?_;refine RE (xb7 (fun j=>cond (Nat.beq j 2) 19 (1019)) (zd7 a b) fi186 rfl (krN (ρ:=fun j=>cond (Nat.beq j 2) 19 (1019))) (krC (ρ:=fun j=>cond (Nat.beq j 2) 19 (1019)) (k:=2) rfl (krC (ρ:=fun j=>cond (Nat.beq j 2) 19 (1019)) (k:=3) rfl (krN (ρ:=fun j=>cond (Nat.beq j 2) 19 (1019))))) ⟨⟨rfl,(SupX.lit rfl)⟩,⟨rfl,(SupX.lit rfl)⟩,trivial⟩ rfl) qB trivial qB ?_;refine A3 ?_;refine qn6 (caps:=[.ptr 1 0,.ptr 2 0]) (κ:=Empty) (zaa 2 1019 (zab 1 19)) rfl (fun _ h=>h) trivial (zb0 a b (y7 hok.1) (y7 hok.2) hla hlb) fi269 rfl qB rfl rfl (fun _ _=>rfl) (uO uN 6 (.ptr 6 0)) [6,60] [6] (zan rfl zay) (zak rfl zar) rfl (lkOk rfl) (fun (k:Nat) (xs:List Sn)=>xs=dfK a b k/\xs.length<=k) (fun (k:Nat) (xs:List Sn)=>uK (uK uN 6 113 1 false [.own (.sl 60 2 0 xs.length)]) 60 119 2 true (rV tSn xs)) (fun k x=>(zam rfl (supJ xa5) (zam rfl (supJL rfl) zaz))) (fun k x y hy=>by simp only [zbr,zdm,or_false] at hy;rcases hy with rfl | rfl <;> rfl) (fun _ _=>False) (fun i=>i.elim) (fun _ _ h=>h.elim) ([]) ⟨rfl,zbs _⟩ (SubK.cons rfl (SubK.cons rfl zax)) ?_ ?_ ?_
   ·
    intro D lp o1 o2 O W lη lb V0 k xs hk hI;obtain ⟨hx,hxl⟩:=hI;have hdl:=yc8 (ls:=[a,b]);have htl:tlen [a,b]<=400000:=by simp [tlen];omega
    apply qb0
    ·
     refine A2 ?_;refine RE (x7 (k:=7) (n:=2) (agg:=true) zr119.1 zr119.2 rfl) trivial trivial qA ?_;refine A4 ?_;refine RE (x7 (k:=8) (n:=2) (agg:=true) zr220.1 zr220.2 rfl) trivial trivial qA ?_;refine A2 ?_;exact zf7 fun _ _ h=>h
    ·
     refine A6 ?_;refine R1 (za0 zhp) rfl ?_;refine A1 ?_;refine RGcase (t:=25) rfl (fun h228=> ?_) (fun h228=> ?_)
     ·
      refine A2 ?_;refine Rg h228 rfl (za0 zhp) rfl qA ?_;refine A2 ?_;refine RGcase (t:=30) rfl (fun h228_2=> ?_) (fun h228_2=> ?_)
      ·
       refine A18 ?_;refine A8 ?_;exact xv7 (xs) ⟨by rw [qz1 (by rw [Option.isNone_iff_eq_none.1 h228,Option.isNone_iff_eq_none.1 h228_2])];exact hx,by omega⟩ (SubK.cons rfl (SubK.cons rfl zax)) (zam rfl (supJ xa5) (zam rfl (supJL rfl) zaz)) (lkOk rfl)
      ·
       refine A2 ?_;refine Rg h228_2 rfl (yk2 zhp) rfl qA ?_;refine A1 ?_;refine RGoff (by exact congrArg Bool.not h228) rfl rfl (RGoff (by exact congrArg Bool.not h228) rfl rfl (RGoff (by exact congrArg Bool.not h228) rfl rfl (Rg h228_2 rfl (xc7 (by exact congrArg Bool.not h228)) rfl qB ?_)));refine A10 ?_;refine Rg h228_2 rfl (xc7 rfl) rfl qB ?_;refine A7 ?_;refine RE (xc1 (ts:=[.own (.sl 60 2 0 xs.length)]) (0) ti113 rfl rfl) qA qA trivial ?_;refine A1 ?_;refine R1 (xb5 (n:=1) (f:=tSn) [(⟨((bds [a,b]).getD k 0),((bds [a,b]).getD (k+1) 0)⟩:Sn)] zhk el119 zf119 rfl (fun _=>inferInstance) rfl rfl rfl) rfl (RE (xb3 (k:=60) (k':=54) (f:=tSn) (ys:=[(⟨((bds [a,b]).getD k 0),((bds [a,b]).getD (k+1) 0)⟩:Sn)]) (ts':=rV tSn (xs++[(⟨((bds [a,b]).getD k 0),((bds [a,b]).getD (k+1) 0)⟩:Sn)])) zhk el119 zf119 rfl rfl (fun _=>inferInstance) xd2 (by simp;omega) (by simp;omega) (by simp [rV]) (n':=xs.length+1) rfl) qB qA qA (RE (xb8 (es:=1) (agg:=false) (e:= .own (.sl 54 2 0 (xs.length+1))) (0) ti113 rfl rfl rfl) qB qA trivial ?_));refine A2 ?_;exact ze8 (g':=fun _=>none) [6,60] (zab 60 54) zbd ((zbb rfl (zat xa6.symm)) ((zbb rfl (zat (by rw [zbp];rfl))) zbe)) zar (zam rfl (supJ xa5) (zam rfl (supJL rfl) zaz)) (lkOk rfl) rfl rfl (fun _ h=>by cases h) (xv7 ((xs++[(⟨((bds [a,b]).getD k 0),((bds [a,b]).getD (k+1) 0)⟩:Sn)])) ⟨by rw [zt5 (fun e=>by rw [e,h228_2] at h228;cases h228),<-hx],by rw [zbp];simp;omega⟩ SubK.refl (zam rfl (supJ xa5) (zam rfl (supJL rfl) zaz)) (lkOk rfl))
     ·
      refine A7 ?_;refine Rg rfl rfl (yk2 zhp) rfl qA ?_;refine A1 ?_;refine Rg (by exact congrArg Bool.not h228) rfl (xh0 fo220_1.h rfl) rfl qA (xb2 (by exact congrArg Bool.not h228) rfl rfl (0) ti218 rfl rfl rfl (At.g 1 rfl rfl) rfl (Rg (by exact congrArg Bool.not h228) rfl (yk2 zhp) rfl qA (Rg rfl rfl (xc9 (by exact congrArg Bool.not h228)) rfl qB ?_)));refine A1 ?_;refine RGcase (t:=39) rfl (fun h228_3=> ?_) (fun h228_3=> ?_)
      ·
       obtain ⟨u,hu⟩:=jw6 h228;obtain ⟨v,hv⟩:=yv6 h228_3;refine A2 ?_;refine Rg h228_3 rfl (yz0 hu) rfl qA ?_;refine A3 ?_;refine Rg h228_3 rfl (yz0 hv) rfl qA ?_;refine A1 ?_;refine Rg h228_3 rfl (x3 (yt2 _ _) fi123 rfl) rfl qB (Rg rfl rfl (xc9 h228_3) rfl qB ?_);refine A3 ?_;refine x6 rfl (fun h228_4=> ?_) (fun h228_4=> ?_)
       ·
        refine A3 ?_;exact xv7 (xs) ⟨by rw [qz1 (by rw [hu,hv,h228_4])];exact hx,by omega⟩ (SubK.cons rfl (SubK.cons rfl zax)) (zam rfl (supJ xa5) (zam rfl (supJL rfl) zaz)) (lkOk rfl)
       ·
        refine A3 ?_;refine RE (xc1 (ts:=[.own (.sl 60 2 0 xs.length)]) (0) ti113 rfl rfl) qA qA trivial ?_;refine A1 ?_;refine R1 (xb5 (n:=1) (f:=tSn) [(⟨((bds [a,b]).getD k 0),((bds [a,b]).getD (k+1) 0)⟩:Sn)] zhk el119 zf119 rfl (fun _=>inferInstance) rfl rfl rfl) rfl (RE (xb3 (k:=60) (k':=54) (f:=tSn) (ys:=[(⟨((bds [a,b]).getD k 0),((bds [a,b]).getD (k+1) 0)⟩:Sn)]) (ts':=rV tSn (xs++[(⟨((bds [a,b]).getD k 0),((bds [a,b]).getD (k+1) 0)⟩:Sn)])) zhk el119 zf119 rfl rfl (fun _=>inferInstance) xd2 (by simp;omega) (by simp;omega) (by simp [rV]) (n':=xs.length+1) rfl) qB qA qA (RE (xb8 (es:=1) (agg:=false) (e:= .own (.sl 54 2 0 (xs.length+1))) (0) ti113 rfl rfl rfl) qB qA trivial ?_));refine A2 ?_;exact ze8 (g':=fun _=>none) [6,60] (zab 60 54) zbd ((zbb rfl (zat xa6.symm)) ((zbb rfl (zat (by rw [zbp];rfl))) zbe)) zar (zam rfl (supJ xa5) (zam rfl (supJL rfl) zaz)) (lkOk rfl) rfl rfl (fun _ h=>by cases h) (xv7 ((xs++[(⟨((bds [a,b]).getD k 0),((bds [a,b]).getD (k+1) 0)⟩:Sn)])) ⟨by rw [zt5 (fun e=>by rw [hu,hv] at e;exact h228_4 (Option.some.inj e)),<-hx],by rw [zbp];simp;omega⟩ SubK.refl (zam rfl (supJ xa5) (zam rfl (supJL rfl) zaz)) (lkOk rfl))
      ·
       refine A9 ?_;refine Rg rfl rfl (xc7 h228_3) rfl qB ?_;refine A7 ?_;refine RE (xc1 (ts:=[.own (.sl 60 2 0 xs.length)]) (0) ti113 rfl rfl) qA qA trivial ?_;refine A1 ?_;refine R1 (xb5 (n:=1) (f:=tSn) [(⟨((bds [a,b]).getD k 0),((bds [a,b]).getD (k+1) 0)⟩:Sn)] zhk el119 zf119 rfl (fun _=>inferInstance) rfl rfl rfl) rfl (RE (xb3 (k:=60) (k':=54) (f:=tSn) (ys:=[(⟨((bds [a,b]).getD k 0),((bds [a,b]).getD (k+1) 0)⟩:Sn)]) (ts':=rV tSn (xs++[(⟨((bds [a,b]).getD k 0),((bds [a,b]).getD (k+1) 0)⟩:Sn)])) zhk el119 zf119 rfl rfl (fun _=>inferInstance) xd2 (by simp;omega) (by simp;omega) (by simp [rV]) (n':=xs.length+1) rfl) qB qA qA (RE (xb8 (es:=1) (agg:=false) (e:= .own (.sl 54 2 0 (xs.length+1))) (0) ti113 rfl rfl rfl) qB qA trivial ?_));refine A2 ?_;exact ze8 (g':=fun _=>none) [6,60] (zab 60 54) zbd ((zbb rfl (zat xa6.symm)) ((zbb rfl (zat (by rw [zbp];rfl))) zbe)) zar (zam rfl (supJ xa5) (zam rfl (supJL rfl) zaz)) (lkOk rfl) rfl rfl (fun _ h=>by cases h) (xv7 ((xs++[(⟨((bds [a,b]).getD k 0),((bds [a,b]).getD (k+1) 0)⟩:Sn)])) ⟨by rw [zt5 (fun e=>by rw [<-e,h228] at h228_3;cases h228_3),<-hx],by rw [zbp];simp;omega⟩ SubK.refl (zam rfl (supJ xa5) (zam rfl (supJL rfl) zaz)) (lkOk rfl))
   ·
    intro D hD xs hI;obtain ⟨hx,hxl⟩:=hI;have hdl:=yc8 (ls:=[a,b]);have htl:tlen [a,b]<=400000:=by simp [tlen];omega
    have hx:xs=dfT a b:=hx;have hall:=qn2 (zf4 hok.1 hok.2);refine A4 ?_;refine RE (Does.giveL (k:=60) (es:=2) (off:=0) (len:=xs.length) (xs:=xs) (f:=tSn) (ts:=rV tSn xs) (xc1 (ts:=[.own (.sl 60 2 0 xs.length)]) (0) ti113 rfl rfl) (fun _ h=>h) (xg2 rfl) rfl) qA qB trivial (R1 (xj1 (ts:=[_]) (r:=tT [tG (up w.heap.size) _,_]) (zo2 xs (by omega)) fi187 (fun m hm=>yw2 ⟨ya1 hm,zao,trivial⟩) ⟨zao,trivial⟩ rfl) rfl ?_);refine A7 ?_;exact qu4 (Plain.loop Plain.mk' hD) rfl rfl rfl (Le.of (by rw [if_pos hok,hx,if_pos hall];rfl)) (zba (by rw [if_pos hok,hx,if_pos hall]))
   ·
    intro D hD e i;exact i.elim
theorem qs1 (ls:List (List Tst)) (hl:ls.length<=1000) (ht:tlen ls<=1000000):
  CtN Tryz.prog 189 [tL 1 false (fun l=>tL 8 true tTs l) ls] (fun nw=>tG (up nw) (tL 1 false tI (bds ls))):=by
 refine CtN.intro func189 rfl ntmps189 rfl ?_;intro w F;refine A7 ?_;refine RE (xe3 (k:=3) 3 1 false rfl (fun _=>rfl)) trivial trivial qA ?_;refine A11 ?_;refine cL (fun (fm:(Nat)×(List Int))=>(fun (i:Nat) (xs:List Int)=>i<=ls.length/\xs=(ls.take i).flatMap eds) fm.1 fm.2) (wB fun (i:Nat) (xs:List Int)=>uV (uV (uV (uO uN 3 (.sl 3 1 0 xs.length)) 8 (tL 1 false (fun l=>tL 8 true tTs l) ls)) 9 (tI ls.length)) 10 (tI i)) (wB fun (i:Nat) (xs:List Int)=>uK uN 3 3 1 false (rV tI xs)) [3] (fun (fm:(Nat)×(List Int))=>(fun (i:Nat) (xs:List Int)=>ls.length - i) fm.1 fm.2) ((0,[])) (by dsimp only;exact ⟨zbq _,rfl⟩) ?_;intro fm hI;obtain ⟨i,xs⟩:=fm;replace hI:i<=ls.length/\xs=(ls.take i).flatMap eds:=hI;show wc _ _ _ _ (uV (uV (uV (uO uN 3 (.sl 3 1 0 xs.length)) 8 (tL 1 false (fun l=>tL 8 true tTs l) ls)) 9 (tI ls.length)) 10 (tI i)) (uK uN 3 3 1 false (rV tI xs)) _;obtain ⟨hi,hx⟩:=hI;refine A6 ?_;refine x6 rfl (fun h151=> ?_) (fun h151=> ?_)
 ·
  refine A6 ?_;refine R2 (x4 sl133 (i) (by omega) (zai (l:=ls) (n:=i) (d:=[]))) rfl rfl ?_;refine A12 ?_;refine xg9 (s:=14) rfl (fun hl0=> ?_);have htk:=zk7 (ls:=ls) (i:=i) (by omega);refine cL (fun (fm:(Nat)×(List Int))=>(fun (j:Nat) (xs:List Int)=>j<=(ls.getD i []).length/\xs=(ls.take i).flatMap eds++eds ((ls.getD i []).take j)) fm.1 fm.2) (wB fun (j:Nat) (xs:List Int)=>uV (uV (uV (uV (uV (uV (uO uN 3 (.sl 3 1 0 xs.length)) 8 (tL 1 false (fun l=>tL 8 true tTs l) ls)) 9 (tI ls.length)) 10 (tI i)) 14 (tL 8 true tTs (ls.getD i []))) 15 (tI (ls.getD i []).length)) 16 (tI j)) (wB fun (j:Nat) (xs:List Int)=>uK uN 3 3 1 false (rV tI xs)) [3] (fun (fm:(Nat)×(List Int))=>(fun (j:Nat) (xs:List Int)=>(ls.getD i []).length - j) fm.1 fm.2) ((0,xs)) (by dsimp only;exact ⟨zbq _,by rw [zgo,hx];simp [eds]⟩) ?_;intro fm hI2;obtain ⟨j,xs⟩:=fm;replace hI2:j<=(ls.getD i []).length/\xs=(ls.take i).flatMap eds++eds ((ls.getD i []).take j):=hI2;show wc _ _ _ _ (uV (uV (uV (uV (uV (uV (uO uN 3 (.sl 3 1 0 xs.length)) 8 (tL 1 false (fun l=>tL 8 true tTs l) ls)) 9 (tI ls.length)) 10 (tI i)) 14 (tL 8 true tTs (ls.getD i []))) 15 (tI (ls.getD i []).length)) 16 (tI j)) (uK uN 3 3 1 false (rV tI xs)) _;obtain ⟨hj,hx2⟩:=hI2;have hxl:xs.length=2*tlen (ls.take i)+2*j:=by rw [hx2,zbp,yg9,zj5,zde,zfo hj]
  refine A6 ?_;refine x6 rfl (fun h152=> ?_) (fun h152=> ?_)
  ·
   refine A6 ?_;refine R2 (x4 sl51 (j) (by omega) (zai (l:=(ls.getD i [])) (n:=j) (d:=tst0))) rfl rfl ?_;refine A1 ?_;refine RE (x7 (k:=7) (n:=8) (agg:=true) zr59.1 zr59.2 rfl) trivial trivial qA ?_;refine A9 ?_;refine R2 (xb5 (n:=2) (f:=fun n:Int=>tI n) [((ls.getD i []).getD j tst0).lo,((ls.getD i []).getD j tst0).hi] zha el3 zf3 rfl (fun _=>inferInstance) rfl rfl rfl) rfl rfl (RE (xb3 (k:=3) (k':=26) (f:=fun n:Int=>tI n) (ys:=[((ls.getD i []).getD j tst0).lo,((ls.getD i []).getD j tst0).hi]) (ts':=rV tI (xs++[((ls.getD i []).getD j tst0).lo,((ls.getD i []).getD j tst0).hi])) zha el3 zf3 rfl rfl (fun _=>inferInstance) xd2 (by simp;omega) (by simp;omega) (by simp [rV]) (n':=xs.length+2) rfl) qB qA qA ?_);refine A8 ?_;exact xc6 (l:=[3]) (zab 3 26) ((j+1,xs++[((ls.getD i []).getD j tst0).lo,((ls.getD i []).getD j tst0).hi])) ⟨(by dsimp only;exact ⟨by omega,by rw [qa6 (by omega),<-zfj,<-hx2]⟩),(by dsimp only;omega)⟩ (zaf rfl (zaf rfl (zas rfl (zaf rfl (zaf rfl (zas rfl ((zbc rfl (zaw (by dsimp only;rw [zbp];rfl))) zbd))))))) ((zbb rfl (zat xa6.symm)) zbe) (zaj (zaj (zaj (zaj (zaj (zaj (zak rfl zar))))))) (zam rfl (supJ xa5) zaz) (lkOk rfl) rfl rfl (fun _ h=>by cases h)
  ·
   refine A10 ?_;have hje:j=(ls.getD i []).length:=by omega
   subst hje;exact kF ((i+1,xs)) ⟨(by dsimp only;exact ⟨by omega,by rw [zk5 (by omega),hx2,zbx]⟩),(by dsimp only;omega)⟩
 ·
  refine A6 ?_;have hie:i=ls.length:=by omega
  subst hie;rw [zbx] at hx;have hxl:xs.length=2*tlen ls:=by rw [hx,yg9]
  have hsl:=z8 xs;refine A2 ?_;refine RE (xb7 (fun _=>3) (qo5 xs (by omega)) fi275 rfl (krC (ρ:=fun _=>3) (k:=1) xa6 (krN (ρ:=fun _=>3))) (krC (ρ:=fun _=>3) (k:=1) xa6 (krN (ρ:=fun _=>3))) ⟨⟨rfl,xa5⟩,trivial⟩ rfl) qA qA trivial ?_;refine A5 ?_;refine RE (xb7 (fun _=>3) (zd2 xs) fi276 rfl (krC (ρ:=fun _=>3) (k:=1) xa6 (krN (ρ:=fun _=>3))) (krC (ρ:=fun _=>3) (k:=1) xa6 (krN (ρ:=fun _=>3))) ⟨⟨rfl,xa5⟩,trivial⟩ rfl) qA qA trivial (RE (ze5 (f:=tI) (xs:=brd xs) (up w.heap.size) (fun _ h=>h) (fun _=>Free.E) (fun _ h=>h) (xg2 rfl) rfl) qA qA trivial ?_);refine A3 ?_;exact E1 rfl rfl (Le.of (by rw [hx];rfl))
theorem zb4 (l:List Tst) (hl:l.length<=200000) (hD: ∀s∈l,s.v.f.dig):
  CtN Tryz.prog 105 [tL 8 true tTs l] (fun nw=>tG (up nw) (tL 1 false tI (if tRight l=true then bds [l] else []))):=by
 refine CtN.intro func105 rfl ntmps105 rfl ?_;intro w F;refine A9 ?_;refine R1 (x3 (xz5 l hD) fi106 rfl) rfl ?_;refine A3 ?_;refine xc2 rfl (fun h215=> ?_) (fun h215=> ?_)
 ·
  refine A7 ?_;exact E1 rfl rfl (leNilG (by rw [if_neg (by simpa using h215)]))
 ·
  refine A5 ?_;refine R1 (xb5 (n:=1) (f:=fun l=>tL 8 true tTs l) [l] zhn el51 zf51 rfl (fun _=>inferInstance) rfl rfl rfl) rfl (R1 (xj1 (ts:=[_]) (r:=tG (up w.heap.size) _) (qs1 [l] (by simp) (by simp [tlen];omega)) fi189 (fun m hm=>ya1 hm) ⟨zao,trivial⟩ rfl) rfl ?_);refine A4 ?_;exact E1 rfl rfl (Le.of (by rw [if_pos (by simpa using h215)]))
instance fi35:FnI Tryz.prog 35:=⟨_,func35,by kernel_rfl,rfl⟩
instance fi101:FnI Tryz.prog 101:=⟨_,func101,by kernel_rfl,rfl⟩
instance fi103:FnI Tryz.prog 103:=⟨_,func103,by kernel_rfl,rfl⟩
instance fi108:FnI Tryz.prog 108:=⟨_,func108,by kernel_rfl,rfl⟩
instance fi109:FnI Tryz.prog 109:=⟨_,func109,by kernel_rfl,rfl⟩
theorem zu9 (x:Va):Ct Tryz.prog 29 [tVa x,tVa x] (tB true):=by
 have:=ye3 x x;rw [zbg rfl] at this;exact this
theorem yq1 (x:List Sn):Ct Tryz.prog 92 [tL 2 true tSn x,tL 2 true tSn x] (tB true):=by
 have:=yv3 x x;rw [zbg rfl] at this;exact this
theorem qf2 (x:List Int):Ct Tryz.prog 64 [tL 1 false tI x,tL 1 false tI x] (tB true):=by
 have:=zc6 x x;rw [zbg rfl] at this;exact this
theorem jw7 (a b:List Tst) (d:Int) (hla:a.length<=60) (hlb:b.length<=60) (hDa: ∀s∈a,s.v.f.dig) (hDb: ∀s∈b,s.v.f.dig) (hsa: ∀s∈a,s.v.f.n.l.length<=1200/\s.v.f.d.l.length<=1200) (hsb: ∀s∈b,s.v.f.n.l.length<=1200/\s.v.f.d.l.length<=1200):
  Ct Tryz.prog 35 [tL 8 true tTs a,tL 8 true tTs b,tI d] (tB true):=by
 refine Ct.introO func35 rfl ntmps35 rfl ?_;intro w F;refine A8 ?_;refine R1 (xj1 (ts:=[_]) (r:=tG (up w.heap.size) _) (yd3 a hla (fun s hsm=>by have:=hsa s hsm;omega)) fi74 (fun m hm=>ya1 hm) ⟨xe2,trivial⟩ rfl) rfl ?_;refine A1 ?_;refine R1 (xj1 (ts:=[_]) (r:=tG (up w.heap.size) _) (yd3 b hlb (fun s hsm=>by have:=hsb s hsm;omega)) fi74 (fun m hm=>ya1 hm) ⟨xe2,trivial⟩ rfl) rfl ?_;refine A5 ?_;refine jz5 (W:=tStW a) (U:=tStW b) 99 64 7 8 (g':=fun v u=>uV (uV (uV (uV (uV (uV uN 0 (tL 8 true tTs a)) 1 (tL 8 true tTs b)) 2 (tI d)) 6 (tB false)) 7 (tE v)) 8 (tE u)) (h':=fun _=>none) rfl rfl rfl (fun _ L hL=>SlC.cons rfl .cst (SlC.cons rfl .cst (SlC.cons rfl (.val y6) (SlC.cons rfl (.val y6) (SlC.cons rfl (.val (yq9 hL)) (SlC.cons rfl (.val (yq9 hL)) (SlC.nil))))))) (fun _ _ _ _=>KyC.nil) ?_;intro L w1 v u hv hu hL1 hL2;refine A3 ?_;refine RE (yd7 (us':=[tE v,tI d]) (r:=tT [tVa ((atR a d).getD An.va0),tB (atR a d).isSome]) OvC.mk' (c_AtN a d (by omega) hDa) fi100 hrT ⟨.inr ⟨_,rfl,yd4 _ _ _ hv⟩,.inl zao,trivial⟩ rfl) qB qA trivial ?_;refine A3 ?_;refine RE (x7 (k:=9) (n:=6) (agg:=true) zr57.1 zr57.2 rfl) trivial trivial qA ?_;refine A8 ?_;refine R2 (x3 (c_R5At a d (by omega) hDa (fun s hsm=>by have:=hsa s hsm;omega)) fi101 rfl) rfl rfl ?_;refine A3 ?_;refine RE (x7 (k:=11) (n:=6) (agg:=true) zr57.1 zr57.2 rfl) trivial trivial qA ?_;refine A8 ?_;refine RE (yd7 (us':=[tE v,tE u]) (r:=tT [tL 2 true tSn (if tRight a=true/\tRight b=true then dfS a b else []),tI (if tRight a=true/\tRight b=true then 0 else 2)]) OvC.mk' (zr0 a b (by omega) (by omega) hDa hDb) fi102 hrT ⟨.inr ⟨_,rfl,yd4 _ _ _ hv⟩,.inr ⟨_,rfl,yd4 _ _ _ hu⟩,trivial⟩ rfl) qB qA trivial ?_;refine A11 ?_;refine R2 (x3 (jo6 a b (by omega) (by omega) hDa hDb (fun s hsm=>by have:=hsa s hsm;omega) (fun s hsm=>by have:=hsb s hsm;omega)) fi103 rfl) rfl rfl ?_;refine A10 ?_;refine RE (yd7 (us':=[tE v]) (r:=tL 2 true tSn (if tRight a=true then cvT a else [])) OvC.mk' (zo0 a (by omega) hDa) fi104 hrG ⟨.inr ⟨_,rfl,yd4 _ _ _ hv⟩,trivial⟩ rfl) qA qA trivial ?_;refine A1 ?_;refine RE (yd7 (us':=[tE v]) (r:=tL 1 false tI (if tRight a=true then bds [a] else [])) OvC.mk' (zb4 a (by omega) hDa) fi105 hrG ⟨.inr ⟨_,rfl,yd4 _ _ _ hv⟩,trivial⟩ rfl) qA qA trivial ?_;refine A11 ?_;refine Rg (by simp) rfl xb9 rfl qA (Rg (by simp) rfl xb9 rfl qA (Rg (by simp) rfl yt4 rfl qB (R2 (xc7 (by simp)) rfl rfl ?_)));refine A1 ?_;refine Rg (zbf (by simp)) rfl xb9 rfl qA (RGon (zbf (by simp)) rfl (yd7 (us':=[tE v]) (r:=tB (tRight a)) (rr:=fun _=>tB (tRight a)) OvC.mk' (xz5 a hDa) fi106 (hrE fun _=>rfl) ⟨.inr ⟨_,rfl,yd4 _ _ _ hv⟩,trivial⟩ rfl) rfl qA qA trivial (Rg (zbf (by simp)) rfl xb9 rfl qA (Rg (zbf (by simp)) rfl (x3 (ya7 a (by omega) hDa (fun s hsm=>by have:=hsa s hsm;omega)) fi107 rfl) rfl qA (Rg (zbf (by simp)) rfl (ja7 zhi) rfl qB (R2 (xc7 (zbf (by simp))) rfl rfl ?_)))));refine A1 ?_;refine Rg (by simp) rfl xb9 rfl qA (Rg (by simp) rfl xb9 rfl qA (RGon (by simp) rfl (yd7 (us':=[tE v,tL 8 true tTs a]) (r:=tB true) (rr:=fun _=>tB true) OvC.mk' (ye4 a hla (fun s hsm=>by have:=hsa s hsm;omega)) fi82 (hrE fun _=>rfl) ⟨.inr ⟨_,rfl,hv⟩,.inl zao,trivial⟩ rfl) rfl qB qA trivial (Rg (by simp) rfl xz2 rfl qA (R2 (xc7 (by simp)) rfl rfl ?_))));refine A3 ?_;refine RGon rfl rfl (yd7 (us':=[tE u,tL 8 true tTs b]) (r:=tB true) (rr:=fun _=>tB true) OvC.mk' (ye4 b hlb (fun s hsm=>by have:=hsb s hsm;omega)) fi82 (hrE fun _=>rfl) ⟨.inr ⟨_,rfl,hu⟩,.inl zao,trivial⟩ rfl) rfl qB qA trivial ?_;refine A10 ?_;refine RE (xq5 (us:=[tE v]) OvC.mk' (yf9 L w1 a hla (fun s hsm=>by have:=hsa s hsm;omega) v hv) fi84 ⟨Free.E,trivial⟩ rfl) qA qA trivial ?_;refine A6 ?_;refine R2 (x3 (zu9 _) fi29 rfl) rfl rfl ?_;refine A3 ?_;refine Rg rfl rfl (x3 (yq1 _) fi92 rfl) rfl qB ?_;refine A4 ?_;refine Rg rfl rfl (x3 (qr5 a (by omega) hDa (fun s hsm=>by have:=hsa s hsm;omega)) fi108 rfl) rfl qA (Rg rfl rfl (x3 (yq1 _) fi92 rfl) rfl qB ?_);refine A4 ?_;refine Rg rfl rfl (x3 (qd5 a (by omega) hDa (fun s hsm=>by have:=hsa s hsm;omega)) fi109 rfl) rfl qA (Rg rfl rfl (x3 (qf2 _) fi64 rfl) rfl qB ?_)
 refine A5 ?_;exact zv5 (RBase.ov hL2) trivial rfl rfl
end An.S
namespace An
open Go
def XY (Lx Ly:Dom) (w1:World):OvJ where
 D:=fun b=>Lx b∨Ly b
 J:=fun n w=>(n=0-> ∀b,Lx b->w.heap[b]? =w1.heap[b]?)/\(n<=1-> ∀b,Ly b->w.heap[b]? =w1.heap[b]?)/\ ∀b,Lx b∨Ly b->b < w.heap.size
 loc:=fun _ _ _ h hs hk=>⟨fun hn b hb=>(hk b (.inl hb) (h.2.2 b (.inl hb))).trans (h.1 hn b hb),fun hn b hb=>(hk b (.inr hb) (h.2.2 b (.inr hb))).trans (h.2.1 hn b hb),fun b hb=>zca (h.2.2 b hb) hs⟩
theorem CtV.inX {P:Program} {T:Nat} {Lx Ly:Dom} {w1:World} {f:FuncId} {ps:List Ent} (h:CtV P (XL T Lx w1) f [] ps 0 1) (hd: ∀b,Ly b-> ¬Lx b):CtV P (XY Lx Ly w1) f [] ps 0 1:=fun w η vs hvs hA hi hD hJ=>
 zec (h w η vs hvs hA hi (fun b hb=>hD b (.inl hb)) ⟨fun _=>hJ.1 rfl,fun h=>(by cases h),fun b hb=>hJ.2.2 b (.inl hb)⟩) fun _ w' ⟨h1,h2,_⟩=>⟨h1,h2.mono fun b _ hb=>hb.imp id .inl,fun h=>(by cases h),fun _ b hb=>(h2.block b (hJ.2.2 b (.inr hb)) fun ho=>ho.elim (fun ⟨x,hx,_⟩=>by cases hx) (hd b hb)).trans (hJ.2.1 (by omega) b hb),fun b hb=>zca (hJ.2.2 b hb) h2.size⟩
theorem CtV.inY {P:Program} {T:Nat} {Lx Ly:Dom} {w1:World} {f:FuncId} {ps:List Ent} (h:CtV P (XL T Ly w1) f [] ps 0 1):CtV P (XY Lx Ly w1) f [] ps 1 2:=fun w η vs hvs hA hi hD hJ=>
 zec (h w η vs hvs hA hi (fun b hb=>hD b (.inr hb)) ⟨fun _=>hJ.2.1 (zbs _),fun h=>(by cases h),fun b hb=>hJ.2.2 b (.inr hb)⟩) fun _ w' ⟨h1,h2,_⟩=>⟨h1,h2.mono fun b _ hb=>hb.imp id .inr,fun h=>(by cases h),fun h=>(by omega),fun b hb=>zca (hJ.2.2 b hb) h2.size⟩
section
variable {P:Program} {c:Base} {g:Slots} {h:Keys} {al:Names} {Q:Exit->Act->World->Prop} {A:Array Oper} {rest:List Oper} {d ty:Nat} {pos:String} {af:Array Edge} {gd:Option (Nat×Bool)}
theorem St'.reslot {a:Act} {w:World} {η:Env} (s:St' c g h al a w η) {t:Nat} {u u':Ty} (hx:g t=some (.val u)) (hu:u'.p (c.dom h η) w (a.tmps.getD t undef)):St' c (upd g t (some (.val u'))) h al a w η:=
 ⟨s.tn,s.df,fun s' e he=>by
  by_cases hst:s'=t
  ·subst hst;rw [xa9] at he;cases he;exact ⟨(s.slot _ _ hx).1,fun k hk=>(by cases hk),hu⟩
  ·rw [xa4 _ _ _ hst] at he;exact s.slot s' e he,s.key,s.inj,s.fr,s.lk,s.pin,s.vol,s.yal,s.jj,s.lbl⟩
theorem jo9 {s0:Nat} {f:FuncId} {xs:List Operand} {aT:Array TypeId} {ts us:List Ty} {t0 r:Ty} (hc:CtN P f us (fun n=>tG (up n) r)) (hf:FnI P f) (hle:LeL ts us) (hl:xs.length=ts.length) (hr:Rd g (xs.zip (ts.map Ent.val))) (h0:g s0=some (.val t0)) (hdN:Nat.blt d c.N=true)
  (H: ∀m,c.w0.heap.size<=m->wl P c A Q rest (upd (upd g s0 (some (.val (tG (fun b=>b < m) t0)))) d (some (.val (tG (up m) r)))) h al):
  wl P c A Q (⟨some d,.call {callee:= .value (.func f),args:=xs.toArray,argTypes:=aT},ty,pos,af,none⟩::rest) g h al:=by
 rintro a w ⟨η,s⟩;unfold wpListIn;rw [if_pos (by rfl)];obtain ⟨fn,h1,h2,h3⟩:=hf;have hargs:=hle.all (Tup.all_of s xs ts hr hl);have hrun:(execOp a.eval ⟨some d,.call {callee:= .value (.func f),args:=xs.toArray,argTypes:=aT},ty,pos,af,none⟩).run P w= .ok (.enter f (xs.map a.eval).toArray) w:=by
  simp only [execOp,resolve,Act.eval,Deferred.ofValue,zbv,zbw,zbm,invoke];simp only [zdx,zdt,zcu];exact xh4 h1 h2 h3 _ w
 have s1:=s.reslot (u':=tG (fun b=>b < w.heap.size) t0) h0 (t0.mono (xr2 s h0) fun b _ hb hl _=>⟨⟨hb,xa7 hl⟩,hl⟩);refine xm3 hrun (zec (hc _ w (xs.map a.eval) hargs) ?_);rintro e w' ⟨v,rfl,hext,hv⟩;refine ⟨v,rfl,H w.heap.size s.fr.size _ _ ⟨η,(s1.ext hext).put (by simpa using hdN) (e:= .val _) ((tG (up w.heap.size) r).mono hv fun b o hb hl _=>⟨?_,hl⟩) (fun k hk=>by cases hk)⟩⟩;rcases hb with hb | hb
 ·exact xn9 s hb
 ·exact hb
theorem jm2 {N:Nat} {w0:World} {F:Dom} {x:Code} (K s t m:Nat) {W U:Ty} {g':Value->Value->Slots} {h':Keys} (hs:g s=some (.val (tG (fun b=>b < m) (tG (up w0.heap.size) W)))) (ht:g t=some (.val (tG (up m) U))) (hm:w0.heap.size<=m) (hK:al K=false)
  (hg: ∀(a:Act) (L:Dom),(∀b,L b->w0.heap.size<=b)->SlC (fun b=> ¬L b) a g (g' (a.tmps.getD s undef) (a.tmps.getD t undef)))
  (hh: ∀(w:World) (η:Env) (L:Dom),(∀b,L b->w0.heap.size<=b)->KyC (fun b=> ¬L b) w η h h')
  (H: ∀(Lx Ly:Dom) (w1:World) (v u:Value),W.p Lx w1 v->U.p Ly w1 u->(∀b,Lx b∨Ly b->w0.heap.size<=b)->(∀b,Ly b-> ¬Lx b)->wc P (ovb N w0 F K (XY Lx Ly w1)) x Q (g' v u) (upd h' K (some ⟨0,1,false,[]⟩)) (fun j=>al j || Nat.beq j K)):
  wc P (Base.plain N w0 F) x Q g h al:=by
 refine C_at fun a w hs'=> ?_;obtain ⟨η,st⟩:=hs';have hv:=st.slotv hs;have hu:=st.slotv ht;obtain ⟨Lx,hLx⟩: ∃Lx:Dom,Lx=fun b=>((b < w.heap.size/\ ¬Own h η b)/\b < m)/\up w0.heap.size b:=⟨_,rfl⟩
 obtain ⟨Ly,hLy⟩: ∃Ly:Dom,Ly=fun b=>(b < w.heap.size/\ ¬Own h η b)/\up m b:=⟨_,rfl⟩
 have hv:W.p Lx w (a.tmps.getD s undef):=by rw [hLx];exact hv
 have hu:U.p Ly w (a.tmps.getD t undef):=by rw [hLy];exact hu
 have hD: ∀b,Lx b∨Ly b->w0.heap.size<=b/\b < w.heap.size/\ ¬Own h η b:=fun b hb=>by
  rcases hb with hb | hb
  ·rw [hLx] at hb;exact ⟨hb.2,hb.1.1⟩
  ·rw [hLy] at hb;exact ⟨zcj hm hb.2,hb.1⟩
 have hdis: ∀b,Ly b-> ¬Lx b:=fun b hy hx=>by
  rw [hLx] at hx;rw [hLy] at hy;have h1:b < m:=hx.1.2;have h2:m<=b:=hy.2;omega
 exact ⟨ovb N w0 F K (XY Lx Ly w),g' (a.tmps.getD s undef) (a.tmps.getD t undef),_,_,rfl,st.over K (XY Lx Ly w) hD ⟨fun _ _ _=>rfl,fun _ _ _=>rfl,fun b hb=>(hD b hb).2.1⟩ hK (hg a _ fun b hb=>(hD b hb).1) (hh w η _ fun b hb=>(hD b hb).1),H _ _ w _ _ hv hu (fun b hb=>(hD b hb).1) hdis⟩
theorem HandL.allY {T:Nat} {Lx Ly F:Dom} {w1 w:World} (hJ:(XY Lx Ly w1).J 0 w): ∀{ts us:List Ty} {vs:List Value},HandL T (fun b=>Lx b∨Ly b) w1 ts us->Tup.all F w ts vs->Tup.all (fun b=>F b∨(XY Lx Ly w1).D b) w us vs
 | [],[],[],_,_=>trivial
 | t::r,u::s,v::vs,h,hv=>by
  refine ⟨?_,HandL.allY hJ h.2 hv.2⟩;rcases h.1 with h1 | ⟨v',rfl,h2⟩
  ·exact u.mono (h1 _ _ _ hv.1) fun b _ hb hl _=>⟨.inl hb,hl⟩
  ·have e:v=v':=hv.1;subst e;exact u.mono h2 fun b _ hb hl _=>⟨.inr hb,by
    rcases hb with hb | hb
    ·exact (hJ.1 rfl b hb).trans hl
    ·exact (hJ.2.1 (by omega) b hb).trans hl⟩
 | [],[],_::_,_,hv=>hv.elim
 | _::_,_::_,[],_,hv=>hv.elim
 | [],_::_,_,h,_=>h.elim
 | _::_,[],_,h,_=>h.elim
theorem qc5 {T K:Nat} {Lx Ly:Dom} {w1:World} {f:FuncId} {xs:List Operand} {aT:Array TypeId} {us us':List Ty} {rr:Nat->Ty} {r:Ty} {w0:World} {η0:Env} {H:List (Nat×HEnt)} (hp:OvC c w0 η0 H K (XY Lx Ly w1)) (hc:CtN P f us rr) (hf:FnI P f) (hr: ∀m F w v,(rr m).p F w v->r.p (fun b=>F b/\m<=b) w v)
  (ha:HandL T (fun b=>Lx b∨Ly b) w1 us' us) (hl:xs.length=us'.length):
  Does P c ⟨some d,.call {callee:= .value (.func f),args:=xs.toArray,argTypes:=aT},ty,pos,af,gd⟩ ⟨xs.zip (us'.map Ent.val),[(K,⟨0,1,false,[]⟩)],some (d,some (.val r)),[],[]⟩:=
 qj6 hp hc hf hr (fun _ _ _ hJ hv=>HandL.allY hJ ha hv) hl
theorem SatL.vals {F:Dom} {w:World} {η:Env}: ∀{us:List Ty} {vs:List Value},Tup.all F w us vs->SatL F w η (us.map Ent.val) vs
 | [],[],_=>trivial
 | _::_,_::_,h=>⟨h.1,SatL.vals h.2⟩
 | [],_::_,h=>h.elim
 | _::_,[],h=>h.elim
theorem yp8 {T K:Nat} {Lx Ly:Dom} {w1:World} {f:FuncId} {xs:List Operand} {aT:Array TypeId} {us us':List Ty} {ι:Type} {R:Nat->ι->Prop} {re:ι->Ent} {H' h2:ι->List (Nat×HEnt)} {nn:List Nat} {w0:World} {η0:Env} {H0:List (Nat×HEnt)} (hs:List Hd) (ρ:Nat->Nat) (hp:OvC c w0 η0 H0 K (XY Lx Ly w1)) (hc:CtX P f [] (us.map Ent.val) R re H' nn) (hf:FnI P f)
  (ha:HandL T (fun b=>Lx b∨Ly b) w1 us' us) (hl:xs.length=us'.length) (e2: ∀i,(H' i).map (fun x=>(ρ x.1,x.2.ren ρ))=h2 i) (hsH: ∀i,SupHs (H' i) nn) (hok: ∀i,gB ρ [] (H' i) (re i) [] nn c.yk=true)
  (hN: ∀i n,R n i-> ∀x∈H' i,∀e∈x.2.ts,∀F w η v,e.sat F w η v->e.sat (fun b=>F b/\n<=b) w η v) (hre: ∀i F F' w η v,(re i).sat F w η v->(re i).sat F' w η v)
  (hr:Rd g (xs.zip (us'.map Ent.val))) (hK:h K=some ⟨0,1,false,[]⟩) (hnk:Nk al (nn.map ρ)) (hw:WitSt c g h hs) (hdN:Nat.blt d c.N=true)
  (HH: ∀i n,c.w0.heap.size<=n->OldH n hs->R n i->wl P c A Q rest (upd g d (some ((re i).ren ρ))) (updK h ((h2 i).map (fun x=>(x.1,some x.2)))) (fun j=>memN j (nn.map ρ) || al j)):
  wl P c A Q (⟨some d,.call {callee:= .value (.func f),args:=xs.toArray,argTypes:=aT},ty,pos,af,none⟩::rest) g h al:=by
 rintro a w ⟨η,s⟩;unfold wpListIn;rw [if_pos (by rfl)];obtain ⟨fn,f1,f2,f3⟩:=hf;have hj:=s.jj K _ hp.yk hK;have hj:c.J 0 _ _ w:=hj;rw [hp.J] at hj;have hargs:=HandL.allY hj.1 ha (Tup.all_of s xs us' hr hl);have hrun:(execOp a.eval ⟨some d,.call {callee:= .value (.func f),args:=xs.toArray,argTypes:=aT},ty,pos,af,none⟩).run P w= .ok (.enter f (xs.map a.eval).toArray) w:=by
  simp only [execOp,resolve,Act.eval,Deferred.ofValue,zbv,zbw,zbm,invoke];simp only [zdx,zdt,zcu];exact xh4 f1 f2 f3 _ w
 have hnn:=Nk.ren hnk;refine xm3 hrun (zec (hc _ w (η.pre ρ) (xs.map a.eval) (SatL.vals hargs) (fun x hx=>by cases hx) (fun x hx=>by cases hx) (fun b _ ⟨x,hx,_⟩=>by cases hx)) ?_);rintro e w' ⟨i,v,η',hR,rfl,hout⟩;have hok:=hok i;simp only [gB,zcg] at hok;have hout':Out (c.dom h η) w (η.pre ρ) [] (re i) (H' i) nn v w' η':=⟨hout.stp,hout.same,hre i _ _ _ _ _ hout.res,fun x hx=>by
  obtain ⟨p1,p2,p3,p4,p5⟩:=hout.keys x hx;refine ⟨p1,p2,p3,p4,fun hc0=> ?_⟩;obtain ⟨cs,c1,c2,c3⟩:=p5 hc0;refine ⟨cs,c1,c2,fun j e he=> ?_⟩;have h6:=hN i _ hR x hx e (zef he) _ _ _ _ (c3 j e he);exact Ent.sat_go h6 (fun b o hb hl _=>⟨⟨.inl hb.2,hb.1.2⟩,hl⟩) fun _ _=>⟨rfl,rfl⟩,hout.inj,hout.new⟩
 obtain ⟨s',hres⟩:=s.back ρ (H:=[]) (fun x hx=>by cases hx) hout' hnn hok.1.1.1 (fun k hk=>by
  rcases zbo.1 hk with hk | hk
  ·have:=xk1 hok.1.2 k hk;simp [suppE] at this;exact .inl this
  ·exact .inl ((hsH i).spec k hk)) hok.2
 refine ⟨v,rfl,?_⟩;rw [yj7 (e2 i)] at s' hres;refine HH i w.heap.size s.fr.size (fun u hu b hb=>(hw al a w η s u hu b hb).2) hR _ _ ⟨_,s'.put (by simpa using hdN) hres fun k hk=> ?_⟩
 revert hk
 generalize hre':re i=ree at*
 intro hk;cases ree with
 | val t=>cases hk
 | own p=>
  obtain ⟨j,hj',rfl⟩:=VP.ren_supp1 p k hk;have hm:=xk1 hok.1.2 j hj';simp [suppE] at hm;rw [xb6.2 (zdd hm)];rfl
end
end An
namespace An.S
open Go Go.Proofs An Tryz
theorem wb6 {a b:List Tst} {n:Nat} (h:a.length+b.length<=n):(jnT a b).length<=2*n:=by
 have h1:=qh0 (a:=a) (b:=b) (k:=(bds [a,b]).length - 1);rw [qh4] at h1;have h2:=yc8 (ls:=[a,b]);have h3:tlen [a,b]=a.length+b.length:=by simp [tlen]
 omega
instance fi117:FnI Tryz.prog 117:=⟨_,func117,by kernel_rfl,rfl⟩
instance fi118:FnI Tryz.prog 118:=⟨_,func118,by kernel_rfl,rfl⟩
instance fi119:FnI Tryz.prog 119:=⟨_,func119,by kernel_rfl,rfl⟩
theorem jh1 {T n:Nat} {u:Hd} {l:List Nat} (hn: ∀b,u.b=some b->n<=b):Le (tLmX T u l) (tG (fun b=>n<=b) (tLmX T u l)):=fun F w v ⟨h1,h2,h3,h4,h5⟩=>⟨h1,h2,h3,h4,fun hc=>by
 obtain ⟨b,cs,e1,e2,e3⟩:=h5 hc;exact ⟨b,cs,e1,⟨e2,hn b (by simp [Hd.b,e1,hc])⟩,e3⟩⟩
theorem zt_up {n:Nat} {z:Zt} (hn:NewH n [z.n,z.d]):Le (tZt z) (tG (fun b=>n<=b) (tZt z)):=
 yb3 ⟨⟨rfl,rfl,y6⟩,⟨rfl,rfl,y6⟩,⟨rfl,rfl,yb3 ⟨⟨rfl,rfl,y6⟩,⟨rfl,rfl,yb3 ⟨⟨rfl,rfl,yb3 ⟨⟨rfl,rfl,y6⟩,⟨rfl,rfl,jh1 (hn _ (by simp))⟩,trivial⟩⟩,⟨rfl,rfl,yb3 ⟨⟨rfl,rfl,y6⟩,⟨rfl,rfl,jh1 (hn _ (by simp))⟩,trivial⟩⟩,trivial⟩⟩,⟨rfl,rfl,y6⟩,trivial⟩⟩,trivial⟩
theorem rowN {k T n:Nat} {zs:List Zt} (hn:NewH n (hds zs)): ∀x∈[(k,(⟨T,8,true,rV tZt zs⟩:HEnt))],∀e∈x.2.ts,∀F w η v,e.sat F w η v->e.sat (fun b=>F b/\n<=b) w η v:=fun x hx e he F w η v hs=>by
 cases zbj.1 hx;obtain ⟨z,hz,rfl⟩:=zcp.1 he;exact zt_up (fun u hu=>hn u (zbz.2 ⟨z,hz,hu⟩)) _ _ _ hs
theorem yw6 {k n:Nat} {e:Int} {F F':Dom} {w:World} {η:Env} {v:Value} (h:(Ent.own (.tup [.sl k 8 0 n,.ty (tI e)])).sat F w η v):(Ent.own (.tup [.sl k 8 0 n,.ty (tI e)])).sat F' w η v:=by
 simp only [Ent.sat,VP.sat] at h ⊢;obtain ⟨vs,h1,h2⟩:=h;refine ⟨vs,h1,?_⟩
 match vs,h2 with
 | [x,y],h2=>
  simp only [VP.sats,VP.sat] at h2 ⊢;exact ⟨h2.1,h2.2.1,trivial⟩
 | [],h2=>simp only [VP.sats] at h2
 | [_],h2=>simp only [VP.sats] at h2;exact h2.2.elim
 | _::_::_::_,h2=>simp only [VP.sats] at h2;exact h2.2.2.elim
def zeOf (z:Zt):Ze:=⟨z.s.lo,z.s.hi,z.s.v.kind,z.s.v.f.n.neg,z.n,z.s.v.f.d.neg,z.d,z.s.v.i⟩
theorem zt_ze {z:Zt}:Le (tZt z) (tZe (zeOf z)):=Le.tS ⟨⟨rfl,rfl,zao⟩,⟨rfl,rfl,zao⟩,⟨rfl,rfl,Le.tS ⟨⟨rfl,rfl,zao⟩,⟨rfl,rfl,Le.tS ⟨⟨rfl,rfl,Le.tS ⟨⟨rfl,rfl,zao⟩,⟨rfl,rfl,lmX_h⟩,trivial⟩⟩,⟨rfl,rfl,Le.tS ⟨⟨rfl,rfl,zao⟩,⟨rfl,rfl,lmX_h⟩,trivial⟩⟩,trivial⟩⟩,⟨rfl,rfl,zao⟩,trivial⟩⟩,trivial⟩
theorem qr9 {zs:List Zt}:WkL (rV tZt zs) (rV tZe (zs.map zeOf)):=by
 have h:=wk_rV (f:=tZt) (f':=fun z=>tZe (zeOf z)) (xs:=zs) (fun _=>zt_ze) fun _=>Free.ze
 rwa [show rV (fun z=>tZe (zeOf z)) zs=rV tZe (zs.map zeOf) by simp [rV]] at h
theorem xk2: ∀{zs:List Zt},hdz (zs.map zeOf)=hds zs
 | []=>rfl
 | z::r=>by rw [zdu,hdz,zex,<-hdz,xk2 (zs:=r)];rfl
theorem ltz_le {zs:List Zt} {l:List Tst} (h:zs.map Zt.s=l):Le (tL 8 true tZt zs) (tL 8 true tTs l):=fun F w v ⟨A,c,h1,h2,h3,h4⟩=>by
 subst h;refine ⟨A,c,by rw [zcq];exact h1,by rw [zcq];exact h2,h3,h4.imp (fun e=>by rw [e];rfl) fun ⟨b,o,e,hb,hx⟩=>⟨b,o,e,hb,fun i x hi=> ?_⟩⟩;rw [zbu] at hi;obtain ⟨z,hz,rfl⟩:=zdn.1 hi;obtain ⟨u,hm,hu⟩:=hx i z hz;exact ⟨u,hm,zt_le _ _ _ hu⟩
theorem yi9 {zs:List Zt} {l:List Tst} (h:zs.map Zt.s=l):Ct Tryz.prog 114 [tL 8 true tZt zs,tL 8 true tTs l] (tB true):=by
 have h1:=yv0 l l;rw [zbg rfl] at h1;have hl:LeL [tL 8 true tZt zs,tL 8 true tTs l] [tL 8 true tTs l,tL 8 true tTs l]:=⟨ltz_le h,zao,trivial⟩
 exact fun F w vs hv=>h1 F w vs (hl.all hv)
theorem zq2 (V:Dom) (us:List (Hd×List Nat)) (a b c:List Ze) (na nb nc:Nat) (ha:a.length=na) (hb:b.length=nb) (hc:c.length=nc) (hus:us.map (·.1)=hdz a++hdz b++hdz c) (hsep:SepH (hdz a++hdz b++hdz c)) (hu:us.length<=900) (hul: ∀j,((us.getD j hd0).2).length<=1000000) (ha':na<=10000) (hb':nb<=10000) (hc':nc<=10000):
  CtU Tryz.prog (XJ V us) 119 [(20,⟨51,1,false,[.own (.sl 100 8 0 na),.own (.sl 101 8 0 nb),.own (.sl 102 8 0 nc)]⟩),(100,⟨59,8,true,rV tZe a⟩),(101,⟨59,8,true,rV tZe b⟩),(102,⟨59,8,true,rV tZe c⟩)] [.own (.sl 20 1 0 3)] 0 1 (.bool true):=by
 subst ha hb hc;exact zt2 V us a b c hus hsep hu hul ha' hb' hc'
theorem cut_if {a:List Tst} {p q:Int}:(if tRight a=true/\Sn.ok ⟨p,q⟩=true then cutT a p q else [])=(if (tRight a=true/\Sn.ok ⟨p,q⟩=true) then cutR a p q else []):=by
 by_cases h:tRight a=true/\Sn.ok ⟨p,q⟩=true
 ·rw [if_pos h,if_pos h,cut_R h.1]
 ·rw [if_neg h,if_neg h]
def limOk (s:Tst):Prop:=s.v.f.n.l.length<=1000000/\s.v.f.d.l.length<=1000000
theorem zj4 {ps:List Tst} (h: ∀s∈ps,limOk s): ∀s∈pst [] ps,limOk s:=yj5 (P:=limOk) (fun _ _ ha _ _=>ha) ps [] (fun _ hs=>by cases hs) fun s hs _=>h s hs
theorem wc9 {l:List Tst} {p q:Int} (h: ∀s∈l,limOk s): ∀s∈cutT l p q,limOk s:=zj4 fun s hs=>by
 obtain ⟨t,ht,rfl⟩:=zcp.1 hs;exact h t ht
theorem wo_lim {l:List Tst} {p q:Int} (h: ∀s∈l,limOk s): ∀s∈woT l p q,limOk s:=zj4 fun s hs=>by
 obtain ⟨t,ht,hs⟩:=zbz.1 hs;simp only [woP,zbr,zdm,or_false] at hs;rcases hs with rfl | rfl <;> exact h t ht
theorem jn_lim {a b:List Tst} (ha: ∀s∈a,limOk s) (hb: ∀s∈b,limOk s): ∀s∈jnT a b,limOk s:=zj4 fun s hs=>by
 have h:=(za3 hs).2.2;rw [jnG] at h;rcases Option.or_eq_some_iff.1 h with h4 | ⟨_,h4⟩
 ·obtain ⟨t,ht,_,e⟩:=yc2 h4;have:=hb t ht;rw [limOk,e] at this;exact this
 ·obtain ⟨t,ht,_,e⟩:=yc2 h4;have:=ha t ht;rw [limOk,e] at this;exact this
theorem zi8 {zs:List Zt} (h: ∀s∈zs.map Zt.s,limOk s): ∀u∈zs.flatMap its,u.2.length<=1000000:=fun u hu=>by
 obtain ⟨z,hz,hu⟩:=zbz.1 hu;have:=h _ (zdd hz);simp only [its,zbr,zdm,or_false] at hu;rcases hu with rfl | rfl
 ·exact this.1
 ·exact this.2
theorem jm3 {us:List (Hd×List Nat)} (h: ∀u∈us,u.2.length<=1000000) (j:Nat):((us.getD j hd0).2).length<=1000000:=by
 rw [zbh];cases hj:us[j]? with
 | none=>show 0<=_;omega
 | some u=>exact h u (zef hj)
theorem jg9 {l:List Tst} {p q:Int}:(cutT l p q).length<=l.length:=by
 have h:=yd1 (l.map (clip p q)) [];rw [zcq] at h;simpa [cutT] using h
theorem jj6 {l:List Tst} {p q:Int}:(woT l p q).length<=2*l.length:=by
 have h:=yd1 (l.flatMap (woP p q)) [];rw [qa8] at h;simpa [woT] using h
theorem jr0 (a b:List Tst) (p q:Int) (hla:a.length<=60) (hlb:b.length<=60) (hDa: ∀s∈a,s.v.f.dig) (hDb: ∀s∈b,s.v.f.dig) (hsa: ∀s∈a,s.v.f.n.l.length<=1200/\s.v.f.d.l.length<=1200) (hsb: ∀s∈b,s.v.f.n.l.length<=1200/\s.v.f.d.l.length<=1200):
  Ct Tryz.prog 39 [tL 8 true tTs a,tL 8 true tTs b,tI p,tI q] (tB true):=by
 refine Ct.introO func39 rfl ntmps39 rfl ?_;intro w F;refine A6 ?_;refine ya4 ?_;refine xf4 xb9 qA trivial trivial rfl (xf4 (xj1 (ts:=[_]) (r:=tG (up w.heap.size) _) (yd3 a hla (fun s hsm=>by have:=hsa s hsm;omega)) fi74 (fun m hm=>ya1 hm) ⟨xe2,trivial⟩ rfl) qA trivial trivial rfl (xf4 xb9 qA trivial trivial rfl ?_));refine jo9 (s0:=24) (ts:=[_]) (yd3 b hlb (fun s hsm=>by have:=hsb s hsm;omega)) fi74 ⟨xe2,trivial⟩ rfl qA rfl rfl (fun m hm=> ?_);refine xf4 xe5 qA trivial trivial rfl (xf4 xe5 qA trivial trivial rfl (xp1 ?_));refine A2 ?_;refine jm2 (W:=tStW a) (U:=tStW b) 99 9 10 m (g':=fun v u=>uV (uV (uV (uV (uV (uV (uV uN 0 (tL 8 true tTs a)) 1 (tL 8 true tTs b)) 2 (tI p)) 3 (tI q)) 8 (tB false)) 9 (tE v)) 10 (tE u)) (h':=fun _=>none) rfl rfl hm rfl (fun _ L hL=>SlC.cons rfl .cst (SlC.cons rfl .cst (SlC.cons rfl (.val y6) (SlC.cons rfl (.val y6) (SlC.cons rfl (.val y6) (SlC.cons rfl (.val (yq9 hL)) (SlC.cons rfl (.val (yq9 hL)) (SlC.nil)))))))) (fun _ _ _ _=>KyC.nil) ?_;intro Lx Ly w1 v u hv hu hL hdj;have hv':(tStW a).p (fun b=>Lx b∨Ly b) w1 v:=(tStW a).mono hv fun b _ hb hl _=>⟨.inl hb,hl⟩
 have hu':(tStW b).p (fun b=>Lx b∨Ly b) w1 u:=(tStW b).mono hu fun b _ hb hl _=>⟨.inr hb,hl⟩
 refine ya4 ?_;refine xf4 xb9 qA trivial trivial rfl (xf4 xb9 qA trivial trivial rfl (xf4 xb9 qA trivial trivial rfl ?_));refine yp8 (T:=64) (us:=[tL 8 true tTs a,tI p,tI q]) (us':=[tE v,tI p,tI q]) [] (fun j=>cond (Nat.beq j 8) 201 j) OvC.mk' (jb4 a p q (by omega) hDa) fi111 ⟨.inr ⟨_,rfl,yd4 _ _ _ hv'⟩,.inl zao,.inl zao,trivial⟩ rfl (fun _=>krC (ρ:=(fun j=>cond (Nat.beq j 8) 201 j)) (k:=8) xa6 (krN (ρ:=(fun j=>cond (Nat.beq j 8) 201 j)))) (fun _=>⟨⟨rfl,xa5⟩,trivial⟩) (fun _=>rfl) (fun _ _ hR=>rowN hR.2.2.2) (fun _ _ _ _ _ _ hh=>yw6 hh) qC rfl qA .nil rfl (fun xu nu hnu hou hRu=> ?_);obtain ⟨zu,eu⟩:=xu;obtain ⟨hzu,heu,hsu,hwu⟩:=hRu;replace heu:eu=_:=heu;subst heu;refine xf4 xb9 qA trivial trivial rfl (xf4 (ye0 rfl) qA trivial trivial rfl (xf4 (ye0 rfl) qA trivial trivial rfl (xf4 xe5 qA trivial trivial rfl (xf4 xe5 qA trivial trivial rfl (xp1 ?_)))));refine A2 ?_;refine ya4 ?_;refine xf4 xb9 qA trivial trivial rfl (xf4 xb9 qA trivial trivial rfl (xf4 xb9 qA trivial trivial rfl ?_));refine yp8 (T:=64) (us:=[tL 8 true tTs a,tI p,tI q]) (us':=[tE v,tI p,tI q]) (hds zu) (fun j=>cond (Nat.beq j 8) 202 j) OvC.mk' (zb7 a p q (by omega) hDa) fi112 ⟨.inr ⟨_,rfl,yd4 _ _ _ hv'⟩,.inl zao,.inl zao,trivial⟩ rfl (fun _=>krC (ρ:=(fun j=>cond (Nat.beq j 8) 202 j)) (k:=8) xa6 (krN (ρ:=(fun j=>cond (Nat.beq j 8) 202 j)))) (fun _=>⟨⟨rfl,xa5⟩,trivial⟩) (fun _=>rfl) (fun _ _ hR=>rowN hR.2.2.2) (fun _ _ _ _ _ _ hh=>yw6 hh) qC rfl qA (xp8 (k:=201) rfl) rfl (fun xv nv hnv hov hRv=> ?_);obtain ⟨zv,ev⟩:=xv;obtain ⟨hzv,hev,hsv,hwv⟩:=hRv;replace hev:ev=_:=hev;subst hev;refine xf4 xb9 qA trivial trivial rfl (xf4 (ye0 rfl) qA trivial trivial rfl (xf4 (ye0 rfl) qA trivial trivial rfl (xf4 xe5 qA trivial trivial rfl (xf4 xe5 qA trivial trivial rfl (xp1 ?_)))));refine A2 ?_;refine ya4 ?_;refine xf4 xb9 qA trivial trivial rfl (xf4 xb9 qA trivial trivial rfl ?_);refine yp8 (T:=64) (us:=[tL 8 true tTs a,tL 8 true tTs b]) (us':=[tE v,tE u]) (hds zu++hds zv) (fun j=>cond (Nat.beq j 60) 203 j) OvC.mk' (zu2 a b (by omega) (by omega) hDa hDb) fi113 ⟨.inr ⟨_,rfl,yd4 _ _ _ hv'⟩,.inr ⟨_,rfl,yd4 _ _ _ hu'⟩,trivial⟩ rfl (fun _=>krC (ρ:=(fun j=>cond (Nat.beq j 60) 203 j)) (k:=60) xa6 (krN (ρ:=(fun j=>cond (Nat.beq j 60) 203 j)))) (fun _=>⟨⟨rfl,xa5⟩,trivial⟩) (fun _=>rfl) (fun _ _ hR=>rowN hR.2.2.2) (fun _ _ _ _ _ _ hh=>yw6 hh) qB rfl qA (.app (xp8 (k:=201) rfl) (xp8 (k:=202) rfl)) rfl (fun xw nw hnw how hRw=> ?_);obtain ⟨zw,ew⟩:=xw;obtain ⟨hzw,hew,hsw,hww⟩:=hRw;replace hew:ew=_:=hew;subst hew;refine xf4 xb9 qA trivial trivial rfl (xf4 (ye0 rfl) qA trivial trivial rfl (xf4 (ye0 rfl) qA trivial trivial rfl (xf4 xe5 qA trivial trivial rfl (xf4 xe5 qA trivial trivial rfl (xp1 ?_)))));refine A6 ?_;refine R3 (x3 (qm8 a (by omega) p q hDa (fun s hsm=>by have:=hsa s hsm;omega)) fi116 rfl) rfl rfl rfl ?_;refine A12 ?_;refine R3 (x3 (qd9 a (by omega) p q hDa (fun s hsm=>by have:=hsa s hsm;omega)) fi117 rfl) rfl rfl rfl ?_;refine A11 ?_;refine R2 (x3 (ji8 a b (by omega) (by omega) hDa hDb (fun s hsm=>by have:=hsa s hsm;omega) (fun s hsm=>by have:=hsb s hsm;omega) 65536 rfl) fi118 rfl) rfl rfl ?_;refine A14 ?_;refine Rg (zbf (by simp)) rfl xb9 rfl qA (Rg (zbf (by simp)) rfl xb9 rfl qA (Rg (zbf (by simp)) rfl yt4 rfl qB (R2 (xc7 (zbf (by simp))) rfl rfl ?_)));refine A1 ?_;refine Rg (zbf (by simp)) rfl xb9 rfl qA (Rg (zbf (by simp)) rfl xb9 rfl qA (Rg (zbf (by simp)) rfl yt4 rfl qB (R2 (xc7 (zbf (by simp))) rfl rfl ?_)));refine A1 ?_;refine Rg (zbf (by simp)) rfl xb9 rfl qA (Rg (zbf (by simp)) rfl xb9 rfl qA (RGon (zbf (by simp)) rfl (qc5 (T:=64) (us':=[tE v,tL 8 true tTs a]) (r:=tB true) (rr:=fun _=>tB true) OvC.mk' (ye4 a hla (fun s hsm=>by have:=hsa s hsm;omega)) fi82 (hrE fun _=>rfl) ⟨.inr ⟨_,rfl,hv'⟩,.inl zao,trivial⟩ rfl) rfl qB qA trivial (Rg (zbf (by simp)) rfl xz2 rfl qA (R2 (xc7 (zbf (by simp))) rfl rfl ?_))));refine A3 ?_;refine RGon rfl rfl (qc5 (T:=64) (us':=[tE u,tL 8 true tTs b]) (r:=tB true) (rr:=fun _=>tB true) OvC.mk' (ye4 b hlb (fun s hsm=>by have:=hsb s hsm;omega)) fi82 (hrE fun _=>rfl) ⟨.inr ⟨_,rfl,hu'⟩,.inl zao,trivial⟩ rfl) rfl qB qA trivial ?_
 refine A10 ?_;refine RE (xq5 (us:=[tE v]) OvC.mk' (CtV.inX (yf9 Lx w1 a hla (fun s hsm=>by have:=hsa s hsm;omega) v hv) hdj) fi84 ⟨Free.E,trivial⟩ rfl) qA qA trivial ?_;refine A5 ?_;refine RE (xq5 (us:=[tE u]) OvC.mk' (CtV.inY (yf9 Ly w1 b hlb (fun s hsm=>by have:=hsb s hsm;omega) u hu)) fi84 ⟨Free.E,trivial⟩ rfl) qA qA trivial ?_;refine A3 ?_;refine ya4 ?_;refine xf4 xb9 qA trivial trivial rfl (xf4 xb9 qA trivial trivial rfl (xf4 (yh3 201 59 8 zu.length [.own (.sl 201 8 0 zu.length),.val _] (fun _ _ _ _ hh=>hh) (yi9 (hzu.trans cut_if)) fi114 (fun _ hh=>by obtain ⟨x,hx,_⟩:=hh;cases hx) (xg2 rfl) rfl ⟨.inr ⟨rfl,rfl⟩,.inl rfl,trivial⟩ rfl) qB qA trivial rfl (xf4 xb9 qA trivial trivial rfl (xh7 rfl rfl xb9 rfl qA trivial trivial rfl (xh7 rfl rfl xb9 rfl qA trivial trivial rfl (xh7 rfl rfl (yh3 202 59 8 zv.length [.own (.sl 202 8 0 zv.length),.val _] (fun _ _ _ _ hh=>hh) (yi9 hzv) fi114 (fun _ hh=>by obtain ⟨x,hx,_⟩:=hh;cases hx) (xg2 rfl) rfl ⟨.inr ⟨rfl,rfl⟩,.inl rfl,trivial⟩ rfl) rfl qB qA trivial rfl (xf4 (xc9 rfl) qB trivial trivial rfl (xf4 xb9 qA trivial trivial rfl (xh7 rfl rfl xb9 rfl qA trivial trivial rfl (xh7 rfl rfl xb9 rfl qA trivial trivial rfl (xh7 rfl rfl (yh3 203 59 8 zw.length [.own (.sl 203 8 0 zw.length),.val _] (fun _ _ _ _ hh=>hh) (yi9 hzw) fi114 (fun _ hh=>by obtain ⟨x,hx,_⟩:=hh;cases hx) (xg2 rfl) rfl ⟨.inr ⟨rfl,rfl⟩,.inl rfl,trivial⟩ rfl) rfl qB qA trivial rfl (xf4 (xc9 rfl) qB trivial trivial rfl (xf4 xb9 qA trivial trivial rfl ?_)))))))))))));have hmu:(zu.flatMap its++zv.flatMap its++zw.flatMap its).map (·.1)=(hds zu++hds zv++hds zw):=by rw [zeo,zeo,yf1,yf1,yf1]
 have hsep:SepH (hds zu++hds zv++hds zw):=(hsu.app hsv hov hwv).app hsw how hww;have hnew:NewH w.heap.size (hds zu++hds zv++hds zw):=((hwu.le hnu).app (hwv.le hnv)).app (hww.le hnw);have hlim: ∀t∈(zu.flatMap its++zv.flatMap its++zw.flatMap its),t.2.length<=1000000:=fun t ht=>by
  have la: ∀s∈a,limOk s:=fun s hs=>by have:=hsa s hs;exact ⟨by omega,by omega⟩
  have lb: ∀s∈b,limOk s:=fun s hs=>by have:=hsb s hs;exact ⟨by omega,by omega⟩
  rcases zbo.1 ht with ht | ht
  ·rcases zbo.1 ht with ht | ht
   ·refine zi8 (fun s hs=> ?_) t ht;rw [hzu] at hs;split at hs
    ·exact wc9 la s hs
    ·cases hs
   ·refine zi8 (fun s hs=> ?_) t ht;rw [hzv] at hs;split at hs
    ·exact wo_lim la s hs
    ·cases hs
  ·refine zi8 (fun s hs=> ?_) t ht;rw [hzw] at hs;split at hs
   ·exact jn_lim la lb s hs
   ·cases hs
 have hlu:zu.length<=60:=by
  rw [<-zcq (f:=Zt.s),hzu];split
  ·exact zcj jg9 hla
  ·exact zbq _
 have hlv:zv.length<=120:=by
  rw [<-zcq (f:=Zt.s),hzv];split
  ·have:=jj6 (l:=a) (p:=p) (q:=q);omega
  ·exact zbq _
 have hlw:zw.length<=240:=by
  rw [<-zcq (f:=Zt.s),hzw];split
  ·have:=wb6 (a:=a) (b:=b) (n:=120) (by omega);omega
  ·exact zbq _
 refine jj3 (T:=64) (us:=(zu.flatMap its++zv.flatMap its++zw.flatMap its)) (g':=(uV (uO (uO (uO uN 11 (.sl 201 8 0 zu.length)) 13 (.sl 202 8 0 zv.length)) 15 (.sl 203 8 0 zw.length)) 109 (tB true))) (h':=(upd (upd (upd (fun _=>none) 201 (some ⟨59,8,true,rV tZe (zu.map zeOf)⟩)) 202 (some ⟨59,8,true,rV tZe (zv.map zeOf)⟩)) 203 (some ⟨59,8,true,rV tZe (zw.map zeOf)⟩))) hL (.app (.app (yg4 (k:=201) rfl) (yg4 (k:=202) rfl)) (yg4 (k:=203) rfl)) (by rw [hmu];exact hnew) (SlW.cons rfl (.val zao Free.E) (SlW.cons rfl .sl (SlW.cons rfl .sl (SlW.cons rfl .sl SlW.nil)))) (KyW.cons rfl qr9 (KyW.cons rfl qr9 (KyW.cons rfl qr9 KyW.nil))) (fun V hV=> ?_);have hV2:=XI_new (T:=64) (us:=(zu.flatMap its++zv.flatMap its++zw.flatMap its)) hV (by rw [hmu];exact hnew);refine xh7 rfl rfl xb9 rfl qA trivial trivial rfl (xh7 rfl rfl xb9 rfl qA trivial trivial rfl (xh7 rfl rfl xb9 rfl qA trivial trivial rfl (xh7 rfl rfl (ya6 (k:=113) (ents:=[.own (.sl 201 8 0 zu.length),.own (.sl 202 8 0 zv.length),.own (.sl 203 8 0 zw.length)]) zhn el51 zf51 rfl (by intro e he;simp only [zbr,zdm,or_false] at he;rcases he with rfl | rfl | rfl <;> infer_instance) rfl rfl rfl) rfl qC trivial qA rfl ?_)));have hfree: ∀x∈([(20,⟨51,1,false,[.own (.sl 100 8 0 zu.length),.own (.sl 101 8 0 zv.length),.own (.sl 102 8 0 zw.length)]⟩),(100,⟨59,8,true,rV tZe (zu.map zeOf)⟩),(101,⟨59,8,true,rV tZe (zv.map zeOf)⟩),(102,⟨59,8,true,rV tZe (zw.map zeOf)⟩)]:List (Nat×HEnt)),∀e∈x.2.ts,Wk e e:=fun x hx=>by
  simp only [zbr,zdm,or_false] at hx;rcases hx with rfl | rfl | rfl | rfl
  ·intro e he;simp only [zbr,zdm,or_false] at he;rcases he with rfl | rfl | rfl <;> exact .sl
  ·exact xt0 fun _=>Free.ze
  ·exact xt0 fun _=>Free.ze
  ·exact xt0 fun _=>Free.ze
 have hul:(zu.flatMap its++zv.flatMap its++zw.flatMap its).length<=900:=by
  have e:=congrArg List.length hmu;have l1:=yc1 (zs:=zu.map zeOf);have l2:=yc1 (zs:=zv.map zeOf);have l3:=yc1 (zs:=zw.map zeOf);rw [xk2,zcq] at l1 l2 l3;simp only [zcq,zbp] at e ⊢;omega
 refine xh7 rfl rfl (qj8 (fun j=>cond (Nat.beq j 20) 113 (cond (Nat.beq j 100) 201 (cond (Nat.beq j 101) 202 (cond (Nat.beq j 102) 203 j)))) OvC.mk' (zq2 V (zu.flatMap its++zv.flatMap its++zw.flatMap its) (zu.map zeOf) (zv.map zeOf) (zw.map zeOf) zu.length zv.length zw.length (zcq _) (zcq _) (zcq _) (by rw [xk2,xk2,xk2];exact hmu) (by rw [xk2,xk2,xk2];exact hsep) hul (jm3 hlim) (by omega) (by omega) (by omega)) fi119 rfl (krC (ρ:=(fun j=>cond (Nat.beq j 20) 113 (cond (Nat.beq j 100) 201 (cond (Nat.beq j 101) 202 (cond (Nat.beq j 102) 203 j))))) (k:=20) rfl (krC (ρ:=(fun j=>cond (Nat.beq j 20) 113 (cond (Nat.beq j 100) 201 (cond (Nat.beq j 101) 202 (cond (Nat.beq j 102) 203 j))))) (k:=100) xa6 (krC (ρ:=(fun j=>cond (Nat.beq j 20) 113 (cond (Nat.beq j 100) 201 (cond (Nat.beq j 101) 202 (cond (Nat.beq j 102) 203 j))))) (k:=101) xa6 (krC (ρ:=(fun j=>cond (Nat.beq j 20) 113 (cond (Nat.beq j 100) 201 (cond (Nat.beq j 101) 202 (cond (Nat.beq j 102) 203 j))))) (k:=102) xa6 (krN (ρ:=(fun j=>cond (Nat.beq j 20) 113 (cond (Nat.beq j 100) 201 (cond (Nat.beq j 101) 202 (cond (Nat.beq j 102) 203 j)))))))))) rfl (by intro e he;rw [zbj.1 he];exact .sl) hfree) rfl qA ⟨rfl,rfl,rfl,rfl,rfl,trivial⟩ trivial rfl (xf4 (xc9 rfl) qB trivial trivial rfl (xf4 xe5 qA trivial trivial rfl (xp1 ?_)));refine A2 ?_;exact zv5 (RBase.ov hV2) trivial rfl rfl
end An.S
namespace An
open Go
theorem zu6 {F:Dom} {w:World} {η:Env}: ∀{ts:List Ty} {vs:List Value},Tup.all F w ts vs->SatL F w η (ts.map Ent.val) vs
 | [],[],_=>trivial
 | _::_,_::_,h=>⟨h.1,zu6 h.2⟩
theorem CtX.toCt {P:Program} {f:FuncId} {ts:List Ty} {ι α:Type} {R:Nat->ι->Prop} {k T es:Nat} {fz:α->Ty} {xs:ι->List α} {t2:ι->Ty} {u1 u2:Ty}
  (h:CtX P f [] (ts.map Ent.val) R (fun i=> .own (.tup [.sl k es 0 (xs i).length,.ty (t2 i)])) (fun i=>[(k,⟨T,es,true,rV fz (xs i)⟩)]) [k])
  (hr: ∀n i,R n i->Le (tL es true fz (xs i)) u1/\Le (t2 i) u2):Ct P f ts (tT [u1,u2]):=by
 intro F w vs hv;refine (h F w ⟨fun _=>0,fun _=>0,fun _=>False⟩ vs (zu6 hv) (fun x hx=>by cases hx) (fun x hx=>by cases hx) (fun b _ ⟨x,hx,_⟩=>by cases hx)).mono ?_;rintro e w' ⟨i,v,η',hR,rfl,ho⟩;obtain ⟨vs',rfl,hv1⟩:=ho.res
 match vs',hv1 with
 | [a,b],⟨h1,h2,_⟩=>
  have hK:Keep (fun b=>(w.heap.size<=b∨F b)/\ ¬OwnK η' [(k,(⟨T,es,true,rV fz (xs i)⟩:HEnt))] b) (fun b=>w.heap.size<=b∨F b) w' w':=fun b o hD hl _=>⟨hD.1,hl⟩
  refine ⟨_,rfl,⟨ho.stp.os,ho.stp.tape,ho.stp.output,ho.stp.size,fun b hb=>ho.stp.block b hb (fun ⟨x,hx,_⟩=>by cases hx)⟩,⟨[a,b],rfl,?_,(hr _ _ hR).2 _ _ _ ((t2 i).mono h2 hK),trivial⟩⟩;refine (hr _ _ hR).1 _ _ _ ?_;obtain ⟨A,q1,q2,q3⟩:=h1;obtain ⟨h6,h7,h8,h9,h10⟩:=ho.keys (k,⟨T,es,true,rV fz (xs i)⟩) (zbj.2 rfl);simp only at h6 h7 h8 h9 h10;refine ⟨A,_,q1,by omega,by omega,?_⟩;rcases zcf (xs i).length with h0 | h0
  ·exact .inl (zdw h0)
  ·have hc:0 < η'.c k:=by omega
   obtain ⟨cs,e1,e2,e3⟩:=h10 hc;have hb:w.heap.size<=η'.b k:=(ho.new _ ⟨_,zbj.2 rfl,hc,rfl⟩).resolve_left (fun ⟨x,hx,_⟩=>by cases hx);refine .inr ⟨η'.b k,0*es,q3 (by omega),.inl hb,fun j x hj=> ?_⟩;have hjl:j < (xs i).length:=(zbn.1 hj).1;have he:=e3 j _ (by rw [rV,zbu,hj];rfl);have hle:0*es+j*es+es<=cs.size:=by
    rw [e2,zdz,zcm,<-zdh];exact zbt _ (by omega)
   refine ⟨_,⟨cs,_,_,e1,hle,h7,h8,rfl⟩,?_⟩;rw [zdz,zcm];exact (fz x).mono he hK
end An
namespace An.S
open Go Go.Proofs An Tryz
theorem le_zt {xs:List Zt}:Le (tL 8 true tZt xs) (tL 8 true tTs (xs.map Zt.s)):=fun _ _ _ ⟨A,c,h1,h2,h3,h4⟩=>
 ⟨A,c,by rw [zcq];exact h1,by rw [zcq];exact h2,h3,h4.imp (fun h=>by rw [h];rfl) fun ⟨b,o,e,hF,hx⟩=>⟨b,o,e,hF,fun i x hi=>by
  rw [zbu,zdn] at hi;obtain ⟨z,hz,rfl⟩:=hi;obtain ⟨u,q1,q2⟩:=hx i z hz;exact ⟨u,q1,zt_le _ _ _ q2⟩⟩⟩
theorem zr2 {xs:List Zt} {l:List Tst} (h:xs.map Zt.s=l):Le (tL 8 true tZt xs) (tL 8 true tTs l):=by subst h;exact le_zt
theorem jh2 (l:List Tst) (a b:Int) (hl:l.length<=500000) (hD: ∀s∈l,s.v.f.dig):
  Ct Tryz.prog 111 [tL 8 true tTs l,tI a,tI b] (tT [tL 8 true tTs (if tRight l=true/\Sn.ok ⟨a,b⟩=true then cutT l a b else []),tI (if tRight l=true/\Sn.ok ⟨a,b⟩=true then 0 else 2)]):=
 CtX.toCt (ts:=[_,_,_]) (jb4 l a b hl hD) fun _ _ h=>⟨zr2 h.1,zba h.2.1⟩
theorem qt3 (l:List Tst) (x y:Int) (hl:l.length<=200000) (hD: ∀s∈l,s.v.f.dig):
  Ct Tryz.prog 112 [tL 8 true tTs l,tI x,tI y] (tT [tL 8 true tTs (if tRight l=true/\Sn.ok ⟨x,y⟩=true then woT l x y else []),tI (if tRight l=true/\Sn.ok ⟨x,y⟩=true then 0 else 2)]):=
 CtX.toCt (ts:=[_,_,_]) (zb7 l x y hl hD) fun _ _ h=>⟨zr2 h.1,zba h.2.1⟩
theorem jo3 (a b:List Tst) (hla:a.length<=200000) (hlb:b.length<=200000) (hDa: ∀s∈a,s.v.f.dig) (hDb: ∀s∈b,s.v.f.dig):
  Ct Tryz.prog 113 [tL 8 true tTs a,tL 8 true tTs b] (tT [tL 8 true tTs (if jnC a b then jnT a b else []),tI (if jnC a b then 0 else 2)]):=
 CtX.toCt (ts:=[_,_]) (zu2 a b hla hlb hDa hDb) fun _ _ h=>⟨zr2 h.1,zba h.2.1⟩
theorem qi7 (l:List Tst) (a b:Int) (hl:l.length<=500000) (hD: ∀s∈l,s.v.f.dig):
  CtN Tryz.prog 110 [tL 8 true tTs l,tI a,tI b] (fun nw=>tT [tG (up nw) (tFr (if sumC l a b then sumF (sumT (cutT l a b)) else fr0)),tI (if sumC l a b then sumE (sumT (cutT l a b)) else 2)]):=by
 have hcut:=jh2 l a b hl hD;obtain ⟨part,hpart⟩: ∃p:List Tst,p=(if (tRight l=true/\Sn.ok ⟨a,b⟩=true) then cutT l a b else []):=⟨_,rfl⟩
 obtain ⟨er,her⟩: ∃e:Int,e=(if (tRight l=true/\Sn.ok ⟨a,b⟩=true) then 0 else 2):=⟨_,rfl⟩
 rw [<-hpart,<-her] at hcut;refine CtN.intro func110 rfl ntmps110 rfl ?_;intro w F;refine A2 ?_;refine RE (x7 (k:=6) (n:=4) (agg:=true) zr41.1 zr41.2 rfl) trivial trivial qA ?_;refine A8 ?_;refine R3 (x3 hcut fi111 rfl) rfl rfl rfl ?_;refine A14 ?_;refine x6 rfl (fun h181=> ?_) (fun h181=> ?_)
 ·
  have hb0: ¬(tRight l=true/\Sn.ok ⟨a,b⟩=true):=fun h=>h181 (by rw [her,if_pos h]);have hb: ¬sumC l a b:=fun h=>hb0 h.1;refine A2 ?_;refine R0 (xb0 (r:=zad) (ts:=[]) bu41 zr41.2 zao) ?_;refine A7 ?_;exact EN (rs:=[.cell 6 41,.tmp 7]) rfl rfl ⟨⟨_,_,_,_,_,rfl,rfl,ti41,(fr0L (by rw [if_neg hb];try rfl))⟩,⟨_,rfl,(zba (by rw [if_neg hb,her,if_neg hb0]))⟩,trivial⟩
 ·
  have hok:(tRight l=true/\Sn.ok ⟨a,b⟩=true):=zgs fun h=>h181 (by rw [her,if_neg h];decide);refine A2 ?_;refine xf0 (fun (_j:Unit)=>numK l) (fun (_j:Unit)=>uV (uO uN 6 (.ptr 6 0)) 8 (tL 8 true tTs part)) (fun (_j:Unit)=>uK uN 6 41 4 true [.val (tFr fr0)]) (nm [6]) ?_ ?_
  ·
   refine A6 ?_;refine RGcaseD (t:=29) rfl (fun h184=> ?_) (fun h184=> ?_)
   ·
    refine A1 ?_;refine Rg (zbg h184) rfl (x4 sl51 (0) (by omega) (zai (l:=l) (n:=0) (d:=tst0))) rfl ⟨rfl,rfl,trivial⟩ (Rg (zbg h184) rfl (xf3 fo59_2.h (At.f 2 rfl rfl) rfl) rfl ⟨rfl,trivial⟩ (Rg (zbg h184) rfl (xf3 fo57_0.h (At.f 0 rfl rfl) rfl) rfl ⟨rfl,trivial⟩ ?_));refine A4 ?_;refine RGcaseD (t:=37) rfl (fun h184_2=> ?_) (fun h184_2=> ?_)
    ·
     refine A1 ?_;refine Rg (zbg h184_2) rfl (x4 sl51 (0) (by omega) (zai (l:=l) (n:=0) (d:=tst0))) rfl ⟨rfl,rfl,trivial⟩ (Rg (zbg h184_2) rfl (xf3 fo59_2.h (At.f 2 rfl rfl) rfl) rfl ⟨rfl,trivial⟩ (Rg (zbg h184_2) rfl (xf3 fo57_0.h (At.f 0 rfl rfl) rfl) rfl ⟨rfl,trivial⟩ ?_));refine A5 ?_;refine x6 rfl (fun h184_3=> ?_) (fun h184_3=> ?_)
     ·
      refine A2 ?_;refine R0 (xb0 (r:=zad) (ts:=[]) bu41 zr41.2 zao) ?_;refine A6 ?_;exact EN (rs:=[.cell 6 41,.tmp 7]) rfl rfl ⟨⟨_,_,_,_,_,rfl,rfl,ti41,(fr0L (by rw [if_neg (fun h=>by have:=h.2;simp only [numK] at this;omega)];try rfl))⟩,⟨_,rfl,(zba (by rw [if_neg (fun h=>by have:=h.2;simp only [numK] at this;omega)]))⟩,trivial⟩
     ·
      refine A1 ?_;exact kF (()) (by simp only [numK];omega)
    ·
     refine A11 ?_;exact kF (()) (by simp only [numK];omega)
   ·
    refine A18 ?_;refine A1 ?_;exact kF (()) (by simp only [numK];omega)
  ·
   intro _j hnk;refine A2 ?_;refine R1 (xp9 (ts:=[_]) (up w.heap.size) (zc7 0 (by decide) (by decide)) fi51 (fun _ h=>h) ⟨y6,trivial⟩ zao rfl) rfl (RE (x7 (k:=10) (n:=4) (agg:=true) zr41.1 zr41.2 rfl) trivial trivial qA ?_);refine A12 ?_;have hc:sumC l a b:=⟨hok,hnk⟩
   have hnum:=qq1 (a:=a) (b:=b) hok.1 hD hc.2;rw [if_pos hok] at hpart;rw [<-hpart] at hnum;refine xg9 (s:=47) rfl (fun hl0=> ?_);refine cL (fun (fm:(Nat)×(Rat))=>(fun (i:Nat) (q:Rat)=>i<=part.length/\sumT (part.take i)=some q/\short q) fm.1 fm.2) (wB fun (i:Nat) (q:Rat)=>uV (uV (uV (uO (uO uN 6 (.ptr 6 0)) 10 (.ptr 10 0)) 47 (tL 8 true tTs part)) 48 (tI part.length)) 49 (tI i)) (wB fun (i:Nat) (q:Rat)=>uK (uK uN 6 41 4 true [.val (tFr fr0)]) 10 41 4 true [.val (tG (up w.heap.size) (tFr (fr q)))]) [6,10] (fun (fm:(Nat)×(Rat))=>(fun (i:Nat) (q:Rat)=>part.length - i) fm.1 fm.2) ((0,((0:Int):Rat))) (by dsimp only;exact ⟨zbq _,rfl,xt6 (zcj (len16_64 (by decide) (by decide)) (by decide))⟩) ?_;intro fm hI;obtain ⟨i,q⟩:=fm;replace hI:i<=part.length/\sumT (part.take i)=some q/\short q:=hI;show wc _ _ _ _ (uV (uV (uV (uO (uO uN 6 (.ptr 6 0)) 10 (.ptr 10 0)) 47 (tL 8 true tTs part)) 48 (tI part.length)) 49 (tI i)) (uK (uK uN 6 41 4 true [.val (tFr fr0)]) 10 41 4 true [.val (tG (up w.heap.size) (tFr (fr q)))]) _;obtain ⟨hi,hq,hs⟩:=hI;refine A6 ?_;refine x6 rfl (fun h188=> ?_) (fun h188=> ?_)
   ·
    refine A6 ?_;obtain ⟨n1,n2,n3,n4,n5⟩:=hnum _ (xi0 (l:=part) (i:=i) (by omega));refine R2 (x4 sl51 (i) (by omega) (zai (l:=part) (n:=i) (d:=tst0))) rfl rfl ?_;refine A1 ?_;refine RE (x7 (k:=12) (n:=8) (agg:=true) zr59.1 zr59.2 rfl) trivial trivial qA ?_;refine A7 ?_;refine xe1 (0) ti41 rfl rfl rfl (At.t (At.g 2 rfl rfl) (At.g 1 rfl rfl)) rfl ?_;refine A5 ?_;refine R1 (x3 (zc7 ((part.getD i tst0).hi - (part.getD i tst0).lo) (by omega) (by omega)) fi51 rfl) rfl (R2 (xj1 (ts:=[_,_]) (r:=tT [tG (up w.heap.size) _,_]) (jj4 (part.getD i tst0).v.f ((part.getD i tst0).hi - (part.getD i tst0).lo) n4 n5 (xt6 (zcj (len16_64 (by omega) (by omega)) (by decide)))) fi127 (fun m hm=>yw2 ⟨ya1 hm,zao,trivial⟩) ⟨zao,zao,trivial⟩ rfl) rfl rfl ?_);refine A3 ?_;refine RE (x7 (k:=13) (n:=4) (agg:=true) zr41.1 zr41.2 rfl) trivial trivial qA ?_;refine A11 ?_;refine x6 rfl (fun h190=> ?_) (fun h190=> ?_)
    ·
     have hp:=y8 h190;refine A3 ?_;refine R2 (xp9 (ts:=[_,_]) (r':=tT [_,_]) (up w.heap.size) (wd0 q ((part.getD i tst0).v.f.rat*(((part.getD i tst0).hi - (part.getD i tst0).lo:Int):Rat)) hs hp) fi164 (fun _ h=>h) ⟨zao,zao,trivial⟩ (qs2 ⟨zao,qs3,trivial⟩) rfl) rfl rfl ?_;refine A13 ?_;refine x6 rfl (fun h193=> ?_) (fun h193=> ?_)
     ·
      refine A2 ?_;refine R0 (xb0 (r:=zad) (ts:=[]) bu41 zr41.2 zao) ?_;refine A11 ?_;exact EN (rs:=[.cell 6 41,.tmp 7]) rfl rfl ⟨⟨_,_,_,_,_,rfl,rfl,ti41,(fr0L (by rw [if_pos hc,<-hpart,ya5 (i:=i+1) (by rw [xz9 (by omega),hq,sumStep,if_neg (fun h=>xz4 h193 h.2)])];try rfl))⟩,⟨_,rfl,(zba (by rw [if_pos hc,<-hpart,ya5 (i:=i+1) (by rw [xz9 (by omega),hq,sumStep,if_neg (fun h=>xz4 h193 h.2)]),resFE,if_neg (xz4 h193)];rfl))⟩,trivial⟩
     ·
      have h193z:=Decidable.not_not.1 h193;refine A7 ?_;exact kF ((i+1,q+((part.getD i tst0).v.f.rat*(((part.getD i tst0).hi - (part.getD i tst0).lo:Int):Rat)))) ⟨(by dsimp only;exact ⟨by omega,by rw [xz9 (by omega),hq,sumStep,if_pos ⟨hp,y8 h193z⟩],y8 h193z⟩),(by dsimp only;omega)⟩ (hh:=((zaq rfl (zat (by dsimp only;rw [resF,if_pos (y8 h193z)];rfl))) (SubK.cons rfl zax)))
    ·
     refine A8 ?_;refine x6 rfl (fun h193=> ?_) (fun h193=> ?_)
     ·
      refine A2 ?_;refine R0 (xb0 (r:=zad) (ts:=[]) bu41 zr41.2 zao) ?_;refine A11 ?_;exact EN (rs:=[.cell 6 41,.tmp 7]) rfl rfl ⟨⟨_,_,_,_,_,rfl,rfl,ti41,(fr0L (by rw [if_pos hc,<-hpart,ya5 (i:=i+1) (by rw [xz9 (by omega),hq,sumStep,if_neg (fun h=>xz4 h193 h.1)])];try rfl))⟩,⟨_,rfl,(zba (by rw [if_pos hc,<-hpart,ya5 (i:=i+1) (by rw [xz9 (by omega),hq,sumStep,if_neg (fun h=>xz4 h193 h.1)]),resFE,if_neg (xz4 h193)];rfl))⟩,trivial⟩
     ·
      have h193z:=Decidable.not_not.1 h193;refine A7 ?_;exact kF ((i+1,q)) ⟨(by dsimp only;exact absurd h193z h190),(by dsimp only;omega)⟩
   ·
    refine A13 ?_;exact EN (rs:=[.cell 6 41,.tmp 7]) rfl rfl ⟨⟨_,_,_,_,_,rfl,rfl,ti41,(Le.of (by rw [if_pos hc,<-hpart,<-zbx (l:=part),<-show i=part.length by omega,hq];rfl))⟩,⟨_,rfl,(zba (by rw [if_pos hc,<-hpart,<-zbx (l:=part),<-show i=part.length by omega,hq];rfl))⟩,trivial⟩
theorem ju9 (l:List Tst) (a b:Int) (hl:l.length<=60) (hD: ∀s∈l,s.v.f.dig) (hs: ∀s∈l,s.v.f.n.l.length<=1200/\s.v.f.d.l.length<=1200):
  Ct Tryz.prog 37 [tL 8 true tTs l,tI a,tI b] (tB true):=by
 refine Ct.introO func37 rfl ntmps37 rfl ?_;intro w F;refine A8 ?_;refine R1 (xj1 (ts:=[_]) (r:=tG (up w.heap.size) _) (yd3 l hl (fun s hsm=>by have:=hs s hsm;omega)) fi74 (fun m hm=>ya1 hm) ⟨xe2,trivial⟩ rfl) rfl ?_;refine A4 ?_;refine C_lent (W:=tStW l) 99 64 7 (g':=fun v=>uV (uV (uV (uV (uV uN 0 (tL 8 true tTs l)) 1 (tI a)) 2 (tI b)) 6 (tB false)) 7 (tE v)) (h':=fun _=>none) rfl rfl (fun _ L hL=>SlC.cons rfl .cst (SlC.cons rfl (.val y6) (SlC.cons rfl (.val y6) (SlC.cons rfl (.val y6) (SlC.cons rfl (.val (yq9 hL)) (SlC.nil)))))) (fun _ _ _ _=>KyC.nil) ?_;intro L w1 v hv hL1 hL2;refine A4 ?_;refine RE (yd7 (us':=[tE v,tI a,tI b]) (r:=tT [tFr (if sumC l a b then sumF (sumT (cutT l a b)) else fr0),tI (if sumC l a b then sumE (sumT (cutT l a b)) else 2)]) OvC.mk' (qi7 l a b (by omega) hD) fi110 hrT ⟨.inr ⟨_,rfl,yd4 _ _ _ hv⟩,.inl zao,.inl zao,trivial⟩ rfl) qC qA trivial ?_;refine A3 ?_;refine RE (x7 (k:=8) (n:=4) (agg:=true) zr41.1 zr41.2 rfl) trivial trivial qA ?_;refine A9 ?_;refine R3 (x3 (ju3 l (by omega) a b hD (fun s hsm=>by have:=hs s hsm;omega)) fi115 rfl) rfl rfl rfl ?_;refine A3 ?_;refine RE (x7 (k:=10) (n:=4) (agg:=true) zr41.1 zr41.2 rfl) trivial trivial qA ?_;refine A11 ?_;refine Rg (zbf (by simp)) rfl xb9 rfl qA (Rg (zbf (by simp)) rfl xb9 rfl qA (RGon (zbf (by simp)) rfl (yd7 (us':=[tE v,tL 8 true tTs l]) (r:=tB true) (rr:=fun _=>tB true) OvC.mk' (ye4 l hl (fun s hsm=>by have:=hs s hsm;omega)) fi82 (hrE fun _=>rfl) ⟨.inr ⟨_,rfl,hv⟩,.inl zao,trivial⟩ rfl) rfl qB qA trivial (Rg (zbf (by simp)) rfl xz2 rfl qA (R2 (xc7 (zbf (by simp))) rfl rfl ?_))));refine A8 ?_;refine RE (xq5 (us:=[tE v]) OvC.mk' (yf9 L w1 l hl (fun s hsm=>by have:=hs s hsm;omega) v hv) fi84 ⟨Free.E,trivial⟩ rfl) qA qA trivial ?_;refine A6 ?_;refine R2 (x3 (qe1 _) fi86 rfl) rfl rfl ?_;refine A4 ?_;exact zv5 (RBase.ov hL2) trivial rfl rfl
section
variable {K:Nat} {D B:Int} {l a b:List Tst}
theorem g_Cut (x y:Int) (h:isG K D B l) (hl:l.length<=200000) (hxy:Sn.ok ⟨x,y⟩=true):Ct Tryz.prog 111 [tL 8 true tTs l,tI x,tI y] (tT [tL 8 true tTs (cutT l x y),tI 0]):=by
 have:=jh2 l x y (by omega) h.dig;rw [if_pos ⟨h.1,hxy⟩,if_pos ⟨h.1,hxy⟩] at this;exact this
theorem jc3 (x y:Int) (h:isG K D B l) (hl:l.length<=200000) (hxy:Sn.ok ⟨x,y⟩=true):Ct Tryz.prog 112 [tL 8 true tTs l,tI x,tI y] (tT [tL 8 true tTs (woT l x y),tI 0]):=by
 have:=qt3 l x y hl h.dig;rw [if_pos ⟨h.1,hxy⟩,if_pos ⟨h.1,hxy⟩] at this;exact this
theorem jh5 (ha:isG K D B a) (hb:isG K D B b) (hla:a.length<=200000) (hlb:b.length<=200000):Ct Tryz.prog 113 [tL 8 true tTs a,tL 8 true tTs b] (tT [tL 8 true tTs (jnT a b),tI 0]):=by
 have:=jo3 a b hla hlb ha.dig hb.dig;rw [if_pos (ha.kind hb),if_pos (ha.kind hb)] at this;exact this
theorem g_Sum (x y:Int) (hK:K=2∨K=3) (hD:0 < D) (hDb:D<=9223372036854775807) (hB0:0<=B) (hB:B<=140737488355327) (h:isG K D B l) (hl:l.length<=200000) (hxy:Sn.ok ⟨x,y⟩=true):Ct Tryz.prog 110 [tL 8 true tTs l,tI x,tI y] (tT [tFr (fr (Rat.divInt (gS (wt D) l x y) D)),tI 0]):=by
 have h2:=h.sum hK hD hDb hB0 hB hxy;have:=(qi7 l x y (by omega) h.dig).toCt (r:=tT [tFr (if sumC l x y then sumF (sumT (cutT l x y)) else fr0),tI (if sumC l x y then sumE (sumT (cutT l x y)) else 2)]) fun _=>yw2 ⟨xe2,zao,trivial⟩;rw [if_pos h2.1,if_pos h2.1,h2.2] at this;exact this
theorem jp0 (h:isG K D B l) (hl:l.length<=200000):Ct Tryz.prog 104 [tL 8 true tTs l] (tL 2 true tSn (cvT l)):=by
 have:=(zo0 l hl h.dig).toCt fun _=>xe2;rw [if_pos h.1] at this;exact this
theorem qt9 (h:isG K D B l) (hl:l.length<=200000):Ct Tryz.prog 105 [tL 8 true tTs l] (tL 1 false tI (bds [l])):=by
 have:=(zb4 l hl h.dig).toCt fun _=>xe2;rw [if_pos h.1] at this;exact this
theorem g_Diff (ha:isG K D B a) (hb:isG K D B b) (hla:a.length<=200000) (hlb:b.length<=200000):Ct Tryz.prog 102 [tL 8 true tTs a,tL 8 true tTs b] (tT [tL 2 true tSn (dfS a b),tI 0]):=by
 have:=(zr0 a b hla hlb ha.dig hb.dig).toCt (r:=tT [tL 2 true tSn (if tRight a=true/\tRight b=true then dfS a b else []),tI (if tRight a=true/\tRight b=true then 0 else 2)]) fun _=>yw2 ⟨xe2,zao,trivial⟩;rw [if_pos ⟨ha.1,hb.1⟩,if_pos ⟨ha.1,hb.1⟩] at this;exact this
theorem g_At (d:Int) (h:isG K D B l) (hl:l.length<=200000):Ct Tryz.prog 100 [tL 8 true tTs l,tI d] (tT [tVa ((valT l d).getD An.va0),tB (valT l d).isSome]):=by
 have:=(c_AtN l d (by omega) h.dig).toCt (r:=tT [tVa ((atR l d).getD An.va0),tB (atR l d).isSome]) fun _=>yw2 ⟨xe2,zao,trivial⟩;rw [atR,if_pos h.1] at this;exact this
end
theorem jn6:
  Ct Tryz.prog 36 [] (tB true):=by
 refine Ct.intro func36 rfl ntmps36 rfl ?_;intro w F;refine A7 ?_;refine Rt (x3 (xw9 0 10 1 2 (by decide) (by decide) (by decide) (by decide)) fi43 rfl) qD (Rt (x3 (xw9 10 30 1 1 (by decide) (by decide) (by decide) (by decide)) fi43 rfl) qD (R2 (xb5 (n:=2) (f:=tTs) [(⟨0,10,xv 1 2⟩:Tst),(⟨10,30,xv 1 1⟩:Tst)] zhm el59 zf59 rfl (fun _=>inferInstance) rfl rfl rfl) rfl rfl (R1 (x3 (yc9 [(⟨0,10,xv 1 2⟩:Tst),(⟨10,30,xv 1 1⟩:Tst)]) fi42 rfl) rfl ?_)));refine A6 ?_;refine R2 (x3 (g_At (l:=exA) 9 yb0 (by decide)) fi100 rfl) rfl rfl ?_;refine A3 ?_;refine RE (x7 (k:=2) (n:=6) (agg:=true) zr57.1 zr57.2 rfl) trivial trivial qA ?_;refine A7 ?_;refine R2 (x3 (g_At (l:=exA) 30 yb0 (by decide)) fi100 rfl) rfl rfl ?_;refine A3 ?_;refine RE (x7 (k:=4) (n:=6) (agg:=true) zr57.1 zr57.2 rfl) trivial trivial qA ?_;refine A7 ?_;refine R3 (x3 (g_Sum (l:=exA) 5 20 (.inl rfl) (by decide) (by decide) (by decide) (by decide) yb0 (by decide) (by decide)) fi110 rfl) rfl rfl rfl ?_;refine A3 ?_;refine RE (x7 (k:=6) (n:=4) (agg:=true) zr41.1 zr41.2 rfl) trivial trivial qA ?_;refine A7 ?_;refine R3 (x3 (g_Cut (l:=exA) 5 20 yb0 (by decide) (by decide)) fi111 rfl) rfl rfl rfl ?_;refine A10 ?_;refine R3 (x3 (jc3 (l:=exA) 5 20 yb0 (by decide) (by decide)) fi112 rfl) rfl rfl rfl ?_;refine A10 ?_;refine Rt (x3 (xw9 8 12 0 1 (by decide) (by decide) (by decide) (by decide)) fi43 rfl) qD (R1 (xb5 (n:=1) (f:=tTs) [(⟨8,12,xv 0 1⟩:Tst)] zhm el59 zf59 rfl (fun _=>inferInstance) rfl rfl rfl) rfl (R1 (x3 (yc9 [(⟨8,12,xv 0 1⟩:Tst)]) fi42 rfl) rfl (R2 (x3 (jh5 (a:=exA) (b:=exB) yb0 exB_ok (by decide) (by decide)) fi113 rfl) rfl rfl ?_)));refine A10 ?_;refine Rt (x3 (xw9 10 12 1 2 (by decide) (by decide) (by decide) (by decide)) fi43 rfl) qD (R1 (xb5 (n:=1) (f:=tTs) [(⟨10,12,xv 1 2⟩:Tst)] zhm el59 zf59 rfl (fun _=>inferInstance) rfl rfl rfl) rfl (R1 (x3 (yc9 [(⟨10,12,xv 1 2⟩:Tst)]) fi42 rfl) rfl (R2 (x3 (jh5 (a:=exA) (b:=exC) yb0 exC_ok (by decide) (by decide)) fi113 rfl) rfl rfl ?_)));refine A10 ?_;refine R3 (x3 (g_Cut (l:=exA) 0 12 yb0 (by decide) (by decide)) fi111 rfl) rfl rfl rfl ?_;refine A11 ?_;refine R2 (x3 (g_Diff (a:=exA) (b:=cutT exA 0 12) yb0 yb0.cut (by decide) (by rw [exCut2];decide)) fi102 rfl) rfl rfl ?_;refine A18 ?_;refine A7 ?_;refine Rg (zbf (by omega)) rfl xb9 rfl qA (Rg (zbf (by omega)) rfl xz2 rfl qA (R2 (xc7 (zbf (by omega))) rfl rfl ?_));refine A1 ?_;refine Rg (by decide+kernel) rfl xb9 rfl qA (R2 (xc7 (by decide+kernel)) rfl rfl ?_);refine A1 ?_;refine RGon (by decide+kernel) rfl (xc1 (0) ti57 rfl rfl) rfl qA qA trivial (Rg (by decide+kernel) rfl (x3 (zq8 1 2 (by decide) (by decide) (by decide) (by decide)) fi30 rfl) rfl qB (Rg (by decide+kernel) rfl (x3 (jk4 _ _ (by decide+kernel)) fi29 rfl) rfl qB (Rg (by decide+kernel) rfl xz2 rfl qA (R2 (xc7 (by decide+kernel)) rfl rfl ?_))));refine A2 ?_;refine Rg rfl rfl (x3 (qg7 25 2 (by decide) (by decide) (by decide) (by decide)) fi32 rfl) rfl qB (Rg rfl rfl (x3 (jq9 _ _ exSum) fi86 rfl) rfl qB ?_);refine A17 ?_;refine Rt (x3 (xw9 5 10 1 2 (by decide) (by decide) (by decide) (by decide)) fi43 rfl) qD (Rt (x3 (xw9 10 20 1 1 (by decide) (by decide) (by decide) (by decide)) fi43 rfl) qD (R2 (xb5 (n:=2) (f:=tTs) [(⟨5,10,xv 1 2⟩:Tst),(⟨10,20,xv 1 1⟩:Tst)] zhm el59 zf59 rfl (fun _=>inferInstance) rfl rfl rfl) rfl rfl (R1 (x3 (yc9 [(⟨5,10,xv 1 2⟩:Tst),(⟨10,20,xv 1 1⟩:Tst)]) fi42 rfl) rfl (R3 (xn2 (ym5 _ _ exCut) fi114 rfl) rfl rfl rfl ?_))));refine A4 ?_;refine Rg rfl rfl (x3 (xw9 0 5 1 2 (by decide) (by decide) (by decide) (by decide)) fi43 rfl) rfl qD (Rg rfl rfl (x3 (xw9 20 30 1 1 (by decide) (by decide) (by decide) (by decide)) fi43 rfl) rfl qD (Rg rfl rfl (xb5 (n:=2) (f:=tTs) [(⟨0,5,xv 1 2⟩:Tst),(⟨20,30,xv 1 1⟩:Tst)] zhm el59 zf59 rfl (fun _=>inferInstance) rfl rfl rfl) rfl qB (Rg rfl rfl (x3 (yc9 [(⟨0,5,xv 1 2⟩:Tst),(⟨20,30,xv 1 1⟩:Tst)]) fi42 rfl) rfl qA (Rg rfl rfl (xn2 (ym5 _ _ exWo) fi114 rfl) rfl qC ?_))));refine A5 ?_;refine Rg rfl rfl (x3 (xw9 0 8 1 2 (by decide) (by decide) (by decide) (by decide)) fi43 rfl) rfl qD (Rg rfl rfl (x3 (xw9 8 12 0 1 (by decide) (by decide) (by decide) (by decide)) fi43 rfl) rfl qD (Rg rfl rfl (x3 (xw9 12 30 1 1 (by decide) (by decide) (by decide) (by decide)) fi43 rfl) rfl qD (Rg rfl rfl (xb5 (n:=3) (f:=tTs) [(⟨0,8,xv 1 2⟩:Tst),(⟨8,12,xv 0 1⟩:Tst),(⟨12,30,xv 1 1⟩:Tst)] zhm el59 zf59 rfl (fun _=>inferInstance) rfl rfl rfl) rfl qC (Rg rfl rfl (x3 (yc9 [(⟨0,8,xv 1 2⟩:Tst),(⟨8,12,xv 0 1⟩:Tst),(⟨12,30,xv 1 1⟩:Tst)]) fi42 rfl) rfl qA (Rg rfl rfl (xn2 (ym5 _ _ exJB) fi114 rfl) rfl qC ?_)))))
 refine A5 ?_;refine Rg rfl rfl (x3 (xw9 0 12 1 2 (by decide) (by decide) (by decide) (by decide)) fi43 rfl) rfl qD (Rg rfl rfl (x3 (xw9 12 30 1 1 (by decide) (by decide) (by decide) (by decide)) fi43 rfl) rfl qD (Rg rfl rfl (xb5 (n:=2) (f:=tTs) [(⟨0,12,xv 1 2⟩:Tst),(⟨12,30,xv 1 1⟩:Tst)] zhm el59 zf59 rfl (fun _=>inferInstance) rfl rfl rfl) rfl qB (Rg rfl rfl (x3 (yc9 [(⟨0,12,xv 1 2⟩:Tst),(⟨12,30,xv 1 1⟩:Tst)]) fi42 rfl) rfl qA (Rg rfl rfl (xn2 (ym5 _ _ exJC) fi114 rfl) rfl qC ?_))));refine A10 ?_;refine R1 (x3 (qt9 (l:=exA) yb0 (by decide)) fi105 rfl) rfl (R3 (xb5 (n:=3) (f:=fun n:Int=>tI n) [0,10,30] zha el3 zf3 rfl (fun _=>inferInstance) rfl rfl rfl) rfl rfl rfl (R2 (x3 (jj9 _ _ exCh) fi64 rfl) rfl rfl ?_));refine A2 ?_;refine Rg rfl rfl (x3 (jp0 (l:=exA) yb0 (by decide)) fi104 rfl) rfl qA (Rg rfl rfl (xb0 (r:=tS [⟨1,false,tI 0⟩,⟨1,false,tI 30⟩]) (ts:=[(0,tI 0),(1,tI 30)]) bu119 zr119.2 (Bc 0 rfl rfl rfl (Bc 1 rfl rfl rfl zao))) rfl qB (Rg rfl rfl (xb5 (n:=1) (f:=tSn) [(⟨0,30⟩:Sn)] zhk el119 zf119 rfl (fun _=>inferInstance) rfl rfl rfl) rfl qA (Rg rfl rfl (x3 (qc3 _ _ exCv) fi92 rfl) rfl qB ?_)));refine A3 ?_;refine Rg rfl rfl (xb0 (r:=tS [⟨1,false,tI 12⟩,⟨1,false,tI 30⟩]) (ts:=[(0,tI 12),(1,tI 30)]) bu119 zr119.2 (Bc 0 rfl rfl rfl (Bc 1 rfl rfl rfl zao))) rfl qB (Rg rfl rfl (xb5 (n:=1) (f:=tSn) [(⟨12,30⟩:Sn)] zhk el119 zf119 rfl (fun _=>inferInstance) rfl rfl rfl) rfl qA (Rg rfl rfl (x3 (qc3 _ _ exDf) fi92 rfl) rfl qB ?_));refine A5 ?_;exact E1 rfl rfl zao
end An.S
namespace An.S
open Go
end An.S
namespace An.S
open Go Go.Proofs An Tryz
theorem dig_fr (q:Rat):(fr q).dig:=⟨xc3 x8 _,xc3 x8 _⟩
end An.S
namespace An.S
open Go
theorem zr7 {n d:Int} (hd:0 < d) (h1: -9223372036854775808<=n) (h2:n<=9223372036854775807) (h3:d<=9223372036854775807):short (Rat.divInt n d):=by
 have e:=yi0 (n:=n) hd;have e1:(wh (Rat.divInt n d).num).l.length=(wh (n / (Int.gcd n d:Int))).l.length:=congrArg (fun f:Fr=>f.n.l.length) e;have e2:(wh ((Rat.divInt n d).den:Int)).l.length=(wh (d / (Int.gcd n d:Int))).l.length:=congrArg (fun f:Fr=>f.d.l.length) e;refine ⟨?_,?_⟩
 ·show (wh (Rat.divInt n d).num).l.length<=256;rw [e1];exact len16_div (len16_small h1 h2)
 ·show (wh ((Rat.divInt n d).den:Int)).l.length<=256;rw [e2];exact len16_div (len16_small (by omega) h3)
end An.S
namespace An.S
open Go Go.Proofs An Tryz
instance fi38:FnI Tryz.prog 38:=⟨_,func38,by kernel_rfl,rfl⟩
instance fi39:FnI Tryz.prog 39:=⟨_,func39,by kernel_rfl,rfl⟩
instance fi40:FnI Tryz.prog 40:=⟨_,func40,by kernel_rfl,rfl⟩
instance fi41:FnI Tryz.prog 41:=⟨_,func41,by kernel_rfl,rfl⟩
theorem yp9 (v:Va) (h1:v.f.n.l.length<=1048576) (h2:v.f.d.l.length<=1048576):Ct Tryz.prog 120 [tVa v] (tVaW v):=(ys0 v h1 h2).toCt fun _=>xe2
theorem jq1 (u v:Va) (hu:u.f.dig) (_hv:v.f.dig) (hu1:u.f.n.l.length<=1048576) (hu2:u.f.d.l.length<=1048576) (hv1:v.f.n.l.length<=1048576) (hv2:v.f.d.l.length<=1048576):
  Ct Tryz.prog 41 [tVa u,tVa v] (tB true):=by
 refine Ct.intro func41 rfl ntmps41 rfl ?_;intro w F;refine A10 ?_;refine R1 (x3 (yp9 u hu1 hu2) fi120 rfl) rfl ?_;refine A1 ?_;refine R1 (x3 (yp9 v hv1 hv2) fi120 rfl) rfl (RE (x7 (k:=5) (n:=6) (agg:=true) zr57.1 zr57.2 rfl) trivial trivial qA (RE (x7 (k:=6) (n:=6) (agg:=true) zr57.1 zr57.2 rfl) trivial trivial qA ?_));refine A5 ?_;refine yb2 (k:=5) (e':=⟨57,6,true,[.val (tVaW u)]⟩) rfl rfl (yb2 (k:=6) (e':=⟨57,6,true,[.val (tVaW v)]⟩) rfl rfl ?_);refine A2 ?_;refine R1 (xq3 (ts:=[tVaW u]) (zz5 u hu) fi121 rfl ⟨za9,trivial⟩) rfl ?_;refine A1 ?_;refine R1 (x3 (zn0 u hu hu1 hu2) fi122 rfl) rfl ?_;refine A2 ?_;refine RGon (by simp) rfl (xc1 (0) ti57 rfl rfl) rfl qA qA trivial (RGon (by simp) rfl (xc1 (0) ti57 rfl rfl) rfl qA qA trivial (Rg (by simp) rfl (xq3 (ts:=[tVaW u,tVaW v]) (yt2 u v) fi123 rfl ⟨za9,za9,trivial⟩) rfl qB (RGon (by simp) rfl (xc1 (0) ti57 rfl rfl) rfl qA qA trivial (RGon (by simp) rfl (xc1 (0) ti57 rfl rfl) rfl qA qA trivial (Rg (by simp) rfl (x3 (ym0 u v hu1 hu2) fi124 rfl) rfl qB (Rg (by simp) rfl (jc4 zhi) rfl qB (R2 (xc9 (by simp)) rfl rfl ?_)))))));refine A1 ?_;refine RGon (by simp) rfl (xc1 (0) ti57 rfl rfl) rfl qA qA trivial (RGon (by simp) rfl (xc1 (0) ti57 rfl rfl) rfl qA qA trivial (Rg (by simp) rfl (xq3 (ts:=[tVaW u,tVa u]) (yj0 u hu1 hu2) fi125 rfl ⟨vaWK,zao,trivial⟩) rfl qB (R2 (xc9 (by simp)) rfl rfl ?_)));refine A3 ?_;refine Rg rfl rfl (xq3 (ts:=[tVaW v,tVa v]) (yj0 v hv1 hv2) fi125 rfl ⟨vaWK,zao,trivial⟩) rfl qB ?_;refine A5 ?_;exact E1 rfl rfl zao
theorem jc0 {x d:Int} (hd:0 < d) (h1: -9223372036854775808<=x) (h2:x<=9223372036854775807) (h3:d<=9223372036854775807):short (kfr x d):=by
 rw [qi3 (by omega)];exact zr7 hd h1 h2 h3
theorem Does.leV {P:Program} {c:Base} {o:Oper} {rd:List (Operand×Ent)} {kr:List (Nat×HEnt)} {d:Nat} {t t':Ty} {kw:List (Nat×Option HEnt)} {nk:List Nat} (hl:Le t t') (hd:Does P c o ⟨rd,kr,some (d,some (.val t)),kw,nk⟩):Does P c o ⟨rd,kr,some (d,some (.val t')),kw,nk⟩:=by
 intro g h al a w hp hs;refine Oper.wpIn_mono (fun a' w' hs'=> ?_) (hd g h al a w ⟨hp.rd,hp.kr,hp.nk,fun x hx=>by cases hx;exact hp.d (d,some (.val t')) rfl⟩ hs);have:=hs'.recast (t:=d) (e':= .val t') (xa9 _ _ _) (fun F η v hv=>hl _ _ _ hv) rfl;simp only [Eff.g,yq2] at this ⊢;exact this
theorem ts_row (s:Tst):Imp (.val (tTs s)) (.own (An.rowV [.val (tI s.lo),.val (tI s.hi),.val (tE (.int .u8 (s.v.kind:Int))),.val (tB s.v.f.n.neg),.val (tLm s.v.f.n.l),.val (tB s.v.f.d.neg),.val (tLm s.v.f.d.l),.val (tI s.v.i)])):=by
 intro F w η v hv;obtain ⟨cs,rfl,h2,h3⟩:=hv;have h4:cs.size=8:=h2;obtain ⟨⟨_,a1⟩,⟨_,a2⟩,⟨_,a3⟩,_⟩:=h3;obtain ⟨c3,e3,s3,f3⟩:=a3;simp only [pick,zey,zej] at e3;subst e3;obtain ⟨⟨_,b1⟩,⟨_,b2⟩,⟨_,b3⟩,_⟩:=f3;dsimp only at a1 a2 b1 b2 b3;rw [xn8 (by omega) (by omega) (fun _=>rfl)] at b1 b3;rw [xn8 (by omega) (by omega) (fun h=>by cases h)] at b2;obtain ⟨c4,e4,s4,f4⟩:=b2;simp only [pick,zey,zej] at e4;subst e4;obtain ⟨⟨_,d1⟩,⟨_,d2⟩,_⟩:=f4;dsimp only at d1 d2;rw [xn8 (by omega) (by omega) (fun h=>by cases h)] at d1 d2;obtain ⟨c5,e5,s5,f5⟩:=d1;obtain ⟨c6,e6,s6,f6⟩:=d2;simp only [pick,zey,zej] at e5 e6;subst e5 e6;obtain ⟨⟨_,g1⟩,⟨_,g2⟩,_⟩:=f5;obtain ⟨⟨_,g3⟩,⟨_,g4⟩,_⟩:=f6;dsimp only at g1 g2 g3 g4;rw [xn8 (by omega) (by omega) (fun _=>rfl)] at g1 g2 g3 g4;refine yn8.2 ⟨cs,rfl,h2,fun i e hi=> ?_⟩
 match i,hi with
 | 0,hi=>cases hi;exact a1
 | 1,hi=>cases hi;exact a2
 | 2,hi=>cases hi;exact b1
 | 3,hi=>cases hi;exact g1
 | 4,hi=>cases hi;exact g2
 | 5,hi=>cases hi;exact g3
 | 6,hi=>cases hi;exact g4
 | 7,hi=>cases hi;exact b3
theorem jd6 {lo hi i:Int} {k:Nat} {a b:Bool} {x y:List Nat}:Le (tS (fdOne [tI lo,tI hi,tE (.int .u8 (k:Int)),tB a,tLm x,tB b,tLm y,tI i])) (tTs ⟨lo,hi,⟨k,⟨⟨a,x⟩,⟨b,y⟩⟩,i⟩⟩):=by
 intro F w v hv;obtain ⟨cs,rfl,h2,h3⟩:=hv;have h4:cs.size=8:=h2;obtain ⟨⟨_,b1⟩,⟨_,b2⟩,⟨_,b3⟩,⟨_,b4⟩,⟨_,b5⟩,⟨_,b6⟩,⟨_,b7⟩,⟨_,b8⟩,_⟩:=h3;dsimp only at b1 b2 b3 b4 b5 b6 b7 b8;refine ⟨cs,rfl,h2,⟨fun _=>rfl,b1⟩,⟨fun _=>rfl,b2⟩,⟨fun h=>(by cases h),_,rfl,by simp [Fd.sum];omega,⟨fun _=>rfl,?_⟩,⟨fun h=>(by cases h),_,rfl,by simp [Fd.sum];omega,
  ⟨fun h=>(by cases h),_,rfl,by simp [Fd.sum];omega,⟨fun _=>rfl,?_⟩,⟨fun _=>rfl,?_⟩,trivial⟩,⟨fun h=>(by cases h),_,rfl,by simp [Fd.sum];omega,⟨fun _=>rfl,?_⟩,⟨fun _=>rfl,?_⟩,trivial⟩,trivial⟩,⟨fun _=>rfl,?_⟩,trivial⟩,trivial⟩ <;> dsimp only
 ·rw [xn8 (by omega) (by omega) (fun _=>rfl)];exact b3
 ·rw [xn8 (by simp;omega) (by omega) (fun _=>rfl),xn8 (by simp;omega) (by omega) (fun _=>rfl),xn8 (by omega) (by omega) (fun _=>rfl)];exact b4
 ·rw [xn8 (by simp;omega) (by omega) (fun _=>rfl),xn8 (by simp;omega) (by omega) (fun _=>rfl),xn8 (by omega) (by omega) (fun _=>rfl)];exact b5
 ·rw [xn8 (by simp;omega) (by omega) (fun _=>rfl),xn8 (by simp;omega) (by omega) (fun _=>rfl),xn8 (by omega) (by omega) (fun _=>rfl)];exact b6
 ·rw [xn8 (by simp;omega) (by omega) (fun _=>rfl),xn8 (by simp;omega) (by omega) (fun _=>rfl),xn8 (by omega) (by omega) (fun _=>rfl)];exact b7
 ·rw [xn8 (by omega) (by omega) (fun _=>rfl)];exact b8
theorem Ct.toN {P:Program} {f:FuncId} {ts:List Ty} {r:Ty} (h:Ct P f ts r):CtN P f ts (fun _=>r):=h
def gd5 (s:Tst):Prop:=s.v.f.dig/\s.v.f.n.l.length<=1200/\s.v.f.d.l.length<=1200
theorem gd5_num {a b n d i:Int} {k:Nat} (h1: -9223372036854775808<=n) (h2:n<=9223372036854775807) (hd:0 < d) (h3:d<=9223372036854775807):gd5 ⟨a,b,⟨k,fr (kfr n d),i⟩⟩:=by
 have h:=jc0 hd h1 h2 h3;have q1:(fr (kfr n d)).n.l.length<=256:=h.1;have q2:(fr (kfr n d)).d.l.length<=256:=h.2;exact ⟨dig_fr _,by show (fr (kfr n d)).n.l.length<=1200;omega,by show (fr (kfr n d)).d.l.length<=1200;omega⟩
theorem gd5_plain {a b i:Int} {k:Nat}:gd5 ⟨a,b,⟨k,fr0,i⟩⟩:=⟨⟨fun x hx=>(by cases hx),fun x hx=>(by cases hx)⟩,zbq _,zbq _⟩
theorem gd5_nil: ∀s∈([]:List Tst),gd5 s:=fun s hs=>by cases hs
theorem gd5_one {x:Tst} (hx:gd5 x): ∀s∈[x],gd5 s:=fun s hs=>by rw [zbj.1 hs];exact hx
theorem gd5_two {x y:Tst} (hx:gd5 x) (hy:gd5 y): ∀s∈[x,y],gd5 s:=fun s hs=>by
 rcases zbr.1 hs with rfl | hs
 ·exact hx
 ·exact gd5_one hy s hs
theorem gd5_set {l:List Tst} {i:Nat} {x:Tst} (h: ∀s∈l,gd5 s) (hx:gd5 x): ∀s∈l.set i x,gd5 s:=fun s hs=>by
 rcases zgr hs with hs | rfl
 ·exact h s hs
 ·exact hx
theorem gd5_snoc {l:List Tst} {x:Tst} (h: ∀s∈l,gd5 s) (hx:gd5 x): ∀s∈l++[x],gd5 s:=fun s hs=>by
 rcases zbo.1 hs with hs | hs
 ·exact h s hs
 ·rw [zbj.1 hs];exact hx
theorem xs4 (a b:List Tst) (p q:Int) (ha:a.length<=60) (hb:b.length<=60) (ga: ∀s∈a,gd5 s) (gb: ∀s∈b,gd5 s):Ct Tryz.prog 39 [tL 8 true tTs a,tL 8 true tTs b,tI p,tI q] (tB true):=
 jr0 a b p q ha hb (fun s h=>(ga s h).1) (fun s h=>(gb s h).1) (fun s h=>(ga s h).2) (fun s h=>(gb s h).2)
theorem jj2 (a:List Tst) (p q:Int) (ha:a.length<=60) (ga: ∀s∈a,gd5 s):Ct Tryz.prog 39 [tL 8 true tTs a,tE (.slice none 0 0),tI p,tI q] (tB true):=by
 have hl:LeL [tL 8 true tTs a,tE (.slice none 0 0),tI p,tI q] [tL 8 true tTs a,tL 8 true tTs [],tI p,tI q]:=⟨zao,leNil rfl,zao,zao,trivial⟩
 exact fun F w vs hv=>xs4 a [] p q ha (by simp) ga gd5_nil F w vs (hl.all hv)
theorem yh1 (l:List Tst) (a b:Int) (hl:l.length<=60) (gl: ∀s∈l,gd5 s):Ct Tryz.prog 37 [tL 8 true tTs l,tI a,tI b] (tB true):=
 ju9 l a b hl (fun s h=>(gl s h).1) (fun s h=>(gl s h).2)
theorem qo7 (a b:List Tst) (d:Int) (ha:a.length<=60) (hb:b.length<=60) (ga: ∀s∈a,gd5 s) (gb: ∀s∈b,gd5 s):Ct Tryz.prog 35 [tL 8 true tTs a,tL 8 true tTs b,tI d] (tB true):=
 jw7 a b d ha hb (fun s h=>(ga s h).1) (fun s h=>(gb s h).1) (fun s h=>(ga s h).2) (fun s h=>(gb s h).2)
theorem zn2 (u v:Va) (hu:gd5 ⟨0,0,u⟩) (hv:gd5 ⟨0,0,v⟩):Ct Tryz.prog 41 [tVa u,tVa v] (tB true):=by
 have h1:=hu.2;have h2:=hv.2;simp only at h1 h2;exact jq1 u v hu.1 hv.1 (by omega) (by omega) (by omega) (by omega)
def filN (L i:Nat):List Nat:=List.replicate i 65535++List.replicate (L - i) 0
theorem xr3 {L i:Nat} (h:i<=L):(filN L i).length=L:=by simp [filN];omega
theorem zs4 {L i j:Nat} (h:i<=L):(filN L i)[j]? =if j < i then some 65535 else if j < L then some 0 else none:=by
 rw [filN,List.getElem?_append,List.length_replicate,zgc,zgc];by_cases h2:j < i
 ·simp [h2]
 ·rw [if_neg h2,if_neg h2];by_cases h3:j < L
  ·rw [if_pos h3,if_pos (by omega)]
  ·rw [if_neg h3,if_neg (by omega)]
theorem jr5 {L i:Nat} (h:i < L):(filN L i).set i 65535=filN L (i+1):=by
 apply zfk;intro j;rw [zgf,zs4 (by omega),zs4 (by omega),xr3 (by omega)];by_cases h1:i=j
 ·subst h1;rw [if_pos rfl,if_pos h,if_pos (by omega)]
 ·rw [if_neg h1];by_cases h2:j < i
  ·rw [if_pos h2,if_pos (by omega)]
  ·rw [if_neg h2,if_neg (show ¬j < i+1 by omega)]
theorem jn5 {L:Nat}:Dig 65536 (filN L L):=by
 rw [show filN L L=List.replicate L 65535 by simp [filN]];intro x hx;rw [List.eq_of_mem_replicate hx];decide
def nums5:List Int:=[-9223372036854775808, -1048577, -1048576, -1,0,1,2,65535,65536,1048576,1048577,9223372036854775807]
theorem nums5_len:nums5.length=12:=rfl
theorem nums5_bd {i:Nat} (h:i < 12): -9223372036854775808<=nums5.getD i 0/\nums5.getD i 0<=9223372036854775807:=by
 have: ∀i:Fin 12, -9223372036854775808<=nums5.getD i.val 0/\nums5.getD i.val 0<=9223372036854775807:=by decide
 exact this ⟨i,h⟩
abbrev P11:Fr:=fr (kfr 1 1)
abbrev LNG5 (k L:Nat):Tst:=⟨0,1+(k:Int)*300,⟨2,⟨⟨P11.n.neg,filN L L⟩,P11.d⟩,0⟩⟩
theorem lng5_ok {k L:Nat} (h:L<=300):gd5 (LNG5 k L):=by
 have h1:=gd5_num (a:=0) (b:=0) (n:=1) (d:=1) (i:=0) (k:=2) (by decide) (by decide) (by decide) (by decide);exact ⟨⟨jn5,h1.1.2⟩,by show (filN L L).length<=1200;rw [xr3 (zbs _)];omega,h1.2.2⟩
theorem qd1 (k:Nat) (i:Int):
  Ct Tryz.prog 40 [tE (.int .u8 (k:Int)),tI i] (tVa ⟨k,fr0,i⟩):=by
 refine Ct.intro func40 rfl ntmps40 rfl ?_;intro w F;refine A2 ?_;refine RE (x7 (k:=4) (n:=6) (agg:=true) zr57.1 zr57.2 rfl) trivial trivial qA ?_;refine A6 ?_;refine R2 (xb0 (r:=tS [⟨1,false,tE (.int .u8 (k:Int))⟩,⟨4,true,zad⟩,⟨1,false,tI i⟩]) (ts:=[(0,tE (.int .u8 (k:Int))),(2,tI i)]) bu57 zr57.2 (Bc 0 rfl rfl rfl (Bc 2 rfl rfl rfl zao))) rfl rfl ?_;refine A4 ?_;exact EC rfl ⟨_,_,_,_,_,rfl,rfl,ti57,zao⟩
theorem qz8 (m0:Nat) (f:Int) (hm:m0<=100000) (hf:0<=f/\f<=65536):
  Ct Tryz.prog 38 [tI m0,tI f] (tEx (fun l:List Tst=>l.length<=4/\ ∀s∈l,gd5 s) (fun l=>tL 8 true tTs l)):=by
 refine Ct.intro func38 rfl ntmps38 rfl ?_;intro w F;refine A7 ?_;refine RE (xe3 (k:=5) 59 8 true rfl (fun h=>by cases h)) trivial trivial qA ?_;refine A9 ?_;refine cL (fun (fm:(Nat)×(Nat)×(List Tst))=>(fun (i:Nat) (m:Nat) (xs:List Tst)=>i<=4/\m<=100000/\xs.length<=i/\ ∀s∈xs,gd5 s) fm.1 fm.2.1 fm.2.2) (wC fun (i:Nat) (m:Nat) (xs:List Tst)=>uV (uO (uV (uV uN 0 (tI m)) 1 (tI f)) 5 (.sl 5 8 0 xs.length)) 6 (tI i)) (wC fun (i:Nat) (m:Nat) (xs:List Tst)=>uK uN 5 59 8 true (rV tTs xs)) [5] (fun (fm:(Nat)×(Nat)×(List Tst))=>(fun (i:Nat) (m:Nat) (xs:List Tst)=>4 - i) fm.1 fm.2.1 fm.2.2) ((0,m0,[])) (by dsimp only;exact ⟨zbq _,hm,zbs _,gd5_nil⟩) ?_;intro fm hI;obtain ⟨i,m,xs⟩:=fm;replace hI:i<=4/\m<=100000/\xs.length<=i/\ ∀s∈xs,gd5 s:=hI;show wc _ _ _ _ (uV (uO (uV (uV uN 0 (tI m)) 1 (tI f)) 5 (.sl 5 8 0 xs.length)) 6 (tI i)) (uK uN 5 59 8 true (rV tTs xs)) _;obtain ⟨hi,hmb,hxl,hg⟩:=hI;refine A7 ?_;refine x6 rfl (fun h166=> ?_) (fun h166=> ?_)
 ·
  refine A7 ?_;refine R2 (xg3 (by omega) (by omega)) rfl rfl ?_;refine A6 ?_;refine R2 (yf2 (by omega) (by omega) zah) rfl rfl ?_;refine A10 ?_;refine x6 rfl (fun h169=> ?_) (fun h169=> ?_)
  ·
   refine A9 ?_;exact kF ((i+1,m / 4,xs)) ⟨(by dsimp only;exact ⟨by omega,by omega,by omega,hg⟩),(by dsimp only;omega)⟩
  ·
   refine A15 ?_;refine RGcaseD (t:=24) rfl (fun h172=> ?_) (fun h172=> ?_)
   ·
    refine A2 ?_;refine Rg (zbg h172) rfl (zag sl51 rfl) rfl qB ?_;refine A1 ?_;refine RGon (zbg h172) rfl (xj6 (es:=8) (o:=1) (xs.length - 1) ti3 (xc4 (d:=tst0) (by omega)) (At.g 1 rfl rfl) (by omega)) rfl qA qA trivial ?_;refine A2 ?_;refine Rg (zbg h172) rfl (xd8 zah) rfl qB ?_;refine A3 ?_;refine RGcaseD (t:=35) rfl (fun h172_2=> ?_) (fun h172_2=> ?_)
    ·
     refine A2 ?_;refine Rg (zbg h172_2) rfl (zag sl51 rfl) rfl qB ?_;refine A1 ?_;refine RGon (zbg h172_2) rfl (xj6 (es:=8) (o:=2) (xs.length - 1) ti57 (xc4 (d:=tst0) (by omega)) (At.g 2 rfl rfl) (by omega)) rfl qA qA trivial ?_;refine A1 ?_;refine Rg (zbg h172_2) rfl (xd6 zah) rfl qB (Rg (zbg h172_2) rfl (x3 (zq8 ((m:Int)%4 - 2) 3 (by omega) (by omega) (by decide) (by decide)) fi30 rfl) rfl qB (Rg (zbg h172_2) rfl (x3 (ye3 _ _) fi29 rfl) rfl qB ?_));refine A3 ?_;refine x6 rfl (fun h172_3=> ?_) (fun h172_3=> ?_)
     ·
      refine A3 ?_;refine R2 (zag sl51 rfl) rfl rfl ?_;refine A1 ?_;refine RE (xj6 (es:=8) (o:=1) (xs.length - 1) ti3 (xc4 (d:=tst0) (by omega)) (At.g 1 rfl rfl) (by omega)) qA qA trivial ?_;refine A1 ?_;refine R2 (zag sl51 rfl) rfl rfl ?_;refine A1 ?_;refine RE (xj2 (es:=8) (o:=1) (t2:=tTs ⟨(xs.getD (xs.length - 1) tst0).lo,(xs.getD (xs.length - 1) tst0).hi+1,(xs.getD (xs.length - 1) tst0).v⟩) (xs.length - 1) ti3 (xc4 (d:=tst0) (by omega)) (Up.g 1 rfl rfl rfl) (by omega) (xi3 rfl)) qB qA trivial ?_;refine A8 ?_;exact kF ((i+1,m / 4,(xs.set (xs.length - 1) ⟨(xs.getD (xs.length - 1) tst0).lo,(xs.getD (xs.length - 1) tst0).hi+1,(xs.getD (xs.length - 1) tst0).v⟩))) ⟨(by dsimp only;exact ⟨by omega,by omega,by rw [zdy];omega,gd5_set hg (hg (xs.getD (xs.length - 1) tst0) (xi0 (l:=xs) (i:=xs.length - 1) (by omega)))⟩),(by dsimp only;omega)⟩ (hg:=(sI ((zav rfl (zaw (by dsimp only;rw [zdy]))) (sI (sI zay)))))
     ·
      refine A11 ?_;refine Rt (x3 (xw9 (f+i) (f+i+1) ((m:Int)%4 - 2) 3 (by omega) (by omega) (by decide) (by decide)) fi43 rfl) qD (R1 (xb5 (n:=1) (f:=tTs) [(⟨f+i,f+i+1,⟨2,fr (kfr ((m:Int)%4 - 2) 3),0⟩⟩:Tst)] zhm el59 zf59 rfl (fun _=>inferInstance) rfl rfl rfl) rfl (RE (xb3 (k:=5) (k':=66) (f:=tTs) (ys:=[(⟨f+i,f+i+1,⟨2,fr (kfr ((m:Int)%4 - 2) 3),0⟩⟩:Tst)]) (ts':=rV tTs (xs++[(⟨f+i,f+i+1,⟨2,fr (kfr ((m:Int)%4 - 2) 3),0⟩⟩:Tst)])) zhm el59 zf59 rfl rfl (fun _=>inferInstance) xd2 (by simp;omega) (by simp;omega) (by simp [rV]) (n':=xs.length+1) rfl) qB qA qA ?_));refine A9 ?_;exact xc6 (l:=[5]) (zab 5 66) ((i+1,m / 4,xs++[(⟨f+i,f+i+1,⟨2,fr (kfr ((m:Int)%4 - 2) 3),0⟩⟩:Tst)])) ⟨(by dsimp only;exact ⟨by omega,by omega,by rw [zbp];simp;omega,gd5_snoc hg (gd5_num (by omega) (by omega) (by decide) (by decide))⟩),(by dsimp only;omega)⟩ (zaf rfl ((zbc rfl (zaw (by dsimp only;rw [zbp];rfl))) (zaf rfl (zaf rfl zbd)))) ((zbb rfl (zat xa6.symm)) zbe) (zaj (zak rfl (zaj (zaj zar)))) (zam rfl (supJ xa5) zaz) (lkOk rfl) rfl rfl (fun _ h=>by cases h)
    ·
     refine A18 ?_;refine A6 ?_;refine Rt (x3 (xw9 (f+i) (f+i+1) ((m:Int)%4 - 2) 3 (by omega) (by omega) (by decide) (by decide)) fi43 rfl) qD (R1 (xb5 (n:=1) (f:=tTs) [(⟨f+i,f+i+1,⟨2,fr (kfr ((m:Int)%4 - 2) 3),0⟩⟩:Tst)] zhm el59 zf59 rfl (fun _=>inferInstance) rfl rfl rfl) rfl (RE (xb3 (k:=5) (k':=66) (f:=tTs) (ys:=[(⟨f+i,f+i+1,⟨2,fr (kfr ((m:Int)%4 - 2) 3),0⟩⟩:Tst)]) (ts':=rV tTs (xs++[(⟨f+i,f+i+1,⟨2,fr (kfr ((m:Int)%4 - 2) 3),0⟩⟩:Tst)])) zhm el59 zf59 rfl rfl (fun _=>inferInstance) xd2 (by simp;omega) (by simp;omega) (by simp [rV]) (n':=xs.length+1) rfl) qB qA qA ?_));refine A9 ?_;exact xc6 (l:=[5]) (zab 5 66) ((i+1,m / 4,xs++[(⟨f+i,f+i+1,⟨2,fr (kfr ((m:Int)%4 - 2) 3),0⟩⟩:Tst)])) ⟨(by dsimp only;exact ⟨by omega,by omega,by rw [zbp];simp;omega,gd5_snoc hg (gd5_num (by omega) (by omega) (by decide) (by decide))⟩),(by dsimp only;omega)⟩ (zaf rfl ((zbc rfl (zaw (by dsimp only;rw [zbp];rfl))) (zaf rfl (zaf rfl zbd)))) ((zbb rfl (zat xa6.symm)) zbe) (zaj (zak rfl (zaj (zaj zar)))) (zam rfl (supJ xa5) zaz) (lkOk rfl) rfl rfl (fun _ h=>by cases h)
   ·
    refine A18 ?_;refine A17 ?_;refine Rt (x3 (xw9 (f+i) (f+i+1) ((m:Int)%4 - 2) 3 (by omega) (by omega) (by decide) (by decide)) fi43 rfl) qD (R1 (xb5 (n:=1) (f:=tTs) [(⟨f+i,f+i+1,⟨2,fr (kfr ((m:Int)%4 - 2) 3),0⟩⟩:Tst)] zhm el59 zf59 rfl (fun _=>inferInstance) rfl rfl rfl) rfl (RE (xb3 (k:=5) (k':=66) (f:=tTs) (ys:=[(⟨f+i,f+i+1,⟨2,fr (kfr ((m:Int)%4 - 2) 3),0⟩⟩:Tst)]) (ts':=rV tTs (xs++[(⟨f+i,f+i+1,⟨2,fr (kfr ((m:Int)%4 - 2) 3),0⟩⟩:Tst)])) zhm el59 zf59 rfl rfl (fun _=>inferInstance) xd2 (by simp;omega) (by simp;omega) (by simp [rV]) (n':=xs.length+1) rfl) qB qA qA ?_));refine A9 ?_;exact xc6 (l:=[5]) (zab 5 66) ((i+1,m / 4,xs++[(⟨f+i,f+i+1,⟨2,fr (kfr ((m:Int)%4 - 2) 3),0⟩⟩:Tst)])) ⟨(by dsimp only;exact ⟨by omega,by omega,by rw [zbp];simp;omega,gd5_snoc hg (gd5_num (by omega) (by omega) (by decide) (by decide))⟩),(by dsimp only;omega)⟩ (zaf rfl ((zbc rfl (zaw (by dsimp only;rw [zbp];rfl))) (zaf rfl (zaf rfl zbd)))) ((zbb rfl (zat xa6.symm)) zbe) (zaj (zak rfl (zaj (zaj zar)))) (zam rfl (supJ xa5) zaz) (lkOk rfl) rfl rfl (fun _ h=>by cases h)
 ·
  refine A7 ?_;refine RE (xi6 (f:=tTs) (xs:=xs) (fun _ h=>h) (xg2 rfl) rfl) qA qA trivial ?_;refine A4 ?_;exact E1 rfl rfl (jb3 (I:=fun l:List Tst=>l.length<=4/\ ∀s∈l,gd5 s) (r:=fun l:List Tst=>tL 8 true tTs l) xs ⟨by omega,hg⟩)
theorem jn2 (l:List Tst):
  CtG Tryz.prog 42 [(1,⟨59,8,true,rV tTs l⟩)] [.own (.sl 1 8 0 l.length)] (.own (.sl 1 8 0 l.length)) [(1,⟨59,8,true,rV tTs l⟩)] []:=by
 refine CtG.intro [1] func42 rfl ntmps42 rfl rfl ⟨⟨rfl,xa5⟩,trivial⟩ ?_;intro w F η;refine A12 ?_;exact xc5 LentC.mk' rfl rfl Imp.refl qA rfl ⟨⟨rfl,xa5⟩,trivial⟩ rfl
theorem jc7:
  Ct Tryz.prog 10 [] (tB true):=by
 refine Ct.intro func10 rfl ntmps10 rfl ?_;intro w F;refine xm6 ?_;refine xw5 ?_;refine R1 xe5 rfl (xm4 (by kernel_rfl) (xf5 (xm6 (xm6 ?_))));refine xw5 ?_;refine R1 xe5 rfl (xm4 (by kernel_rfl) (xf5 (xw7 ?_)));refine cL (fun (n:Nat)=>n<=256) (fun (n:Nat)=>uV uN 1 (tI n)) (fun (n:Nat)=>fun _=>none) [] (fun (n:Nat)=>256 - n) (0) (zbq _) ?_;intro n hI;refine xm6 (xm6 ?_);refine xw5 ?_;refine R1 xb9 rfl (R2 xh6 rfl rfl (xm4 (by kernel_rfl) (xf5 ?_)));refine x6 rfl (fun h125=> ?_) (fun h125=> ?_)
 ·
  refine xz3 (xf5 (xm6 (xw7 (xm6 ?_))));obtain ⟨f,hf⟩: ∃f:Int,f=(n:Int)%2*65532:=⟨_,rfl⟩
  have hfb:0<=f/\f<=65536:=by omega
  refine xw5 ?_;refine R1 xb9 rfl (R2 (xg3 (by omega) (by omega)) rfl rfl (R2 (xi2 (r:=f) ((wr64 (by omega) (by omega)).trans hf.symm)) rfl rfl (R1 xe5 rfl (xm4 (by kernel_rfl) (xf5 (xm6 ?_))))));refine ya4 ?_;refine xf4 xb9 qA trivial trivial rfl (xf4 xb9 qA trivial trivial rfl ?_);refine yn4 (ι:=List Tst) (I:=fun _ l=>l.length<=4/\ ∀s∈l,gd5 s) (ts:=[_,_]) [] (Ct.toN (qz8 n f (by omega) hfb)) fi38 ⟨zao,zao,trivial⟩ rfl qB .nil rfl (fun la n1 _ _ hla=> ?_);refine xf4 xb9 qA trivial trivial rfl (xf4 (xi2 zah) qB trivial trivial rfl (xf4 (xd8 zah) qB trivial trivial rfl (xf4 xb9 qA trivial trivial rfl ?_)));refine yn4 (ι:=List Tst) (I:=fun _ l=>l.length<=4/\ ∀s∈l,gd5 s) (ts:=[_,_]) [] (Ct.toN (qz8 (n*89+17) f (by omega) hfb)) fi38 ⟨zba (by omega),zao,trivial⟩ rfl qB .nil rfl (fun lb n2 _ _ hlb=> ?_);refine xf4 xe5 qA trivial trivial rfl (xf4 xe5 qA trivial trivial rfl (xp1 (xf5 (xm6 ?_))));refine xw5 ?_;refine R1 xb9 rfl (R1 xb9 rfl (R1 xb9 rfl (R1 xb9 rfl (R2 (xg3 (by omega) (by omega)) rfl rfl (R2 (xd8 zah) rfl rfl (R1 xb9 rfl (R2 (xd8 zah) rfl rfl (R1 xb9 rfl (R2 (xg3 (by omega) (by omega)) rfl rfl (R2 (xd8 zah) rfl rfl (Rt (x3 (xs4 la lb _ _ (by omega) (by omega) hla.2 hlb.2) fi39 rfl) qD (R1 xz2 rfl (R1 xb9 rfl (Rg rfl rfl xb9 rfl qA (Rg rfl rfl xb9 rfl qA ?_)))))))))))))));refine Rg rfl rfl xb9 rfl qA (Rg rfl rfl (xg3 (by omega) (by omega)) rfl qB (Rg rfl rfl (xd8 zah) rfl qB (Rg rfl rfl xb9 rfl qA (Rg rfl rfl (xd8 zah) rfl qB (Rg rfl rfl (x3 (yh1 la _ _ (by omega) hla.2) fi37 rfl) rfl qC (Rg rfl rfl xz2 rfl qA (R2 (xc7 rfl) rfl rfl (R1 xb9 rfl (Rg rfl rfl xb9 rfl qA (Rg rfl rfl (xg3 (by omega) (by omega)) rfl qB (Rg rfl rfl ys3 rfl qB (Rg rfl rfl xb9 rfl qA ?_))))))))))));refine RGcaseD (t:=57) rfl (fun h128=> ?_) (fun h128=> ?_)
  ·
   refine Rg (zbg h128) rfl xb9 rfl qA (Rg (zbg h128) rfl xb9 rfl qA (Rg (zbg h128) rfl xb9 rfl qA (Rg (zbg h128) rfl xb9 rfl qA (Rg (zbg h128) rfl (xg3 (by omega) (by omega)) rfl qB (Rg (zbg h128) rfl (xd8 zah) rfl qB (Rg (zbg h128) rfl (xd6 zah) rfl qB (Rg (zbg h128) rfl (x3 (qo7 la lb _ (by omega) (by omega) hla.2 hlb.2) fi35 rfl) rfl qC (Rg (zbg h128) rfl xz2 rfl qA (Rg rfl rfl (xc9 (zbg h128)) rfl qB (R2 (xc7 rfl) rfl rfl (xm4 (by kernel_rfl) (xf5 (xw4 rfl rfl (xz3 (ya0 ?_)))))))))))))));refine xf5 ?_;refine xw5 ?_;refine R1 xb9 rfl (R2 (xd8 zah) rfl rfl (R1 xe5 rfl (xm4 (by kernel_rfl) ?_)));exact kF (n+1) ⟨(by omega),(by omega)⟩
  ·
   refine RGoff (zbf h128) rfl rfl (RGoff (zbf h128) rfl rfl (RGoff (zbf h128) rfl rfl (RGoff (zbf h128) rfl rfl (RGoff (zbf h128) rfl rfl (RGoff (zbf h128) rfl rfl (RGoff (zbf h128) rfl rfl (RGoff (zbf h128) rfl rfl (RGoff (zbf h128) rfl rfl (Rg rfl rfl (xc7 (zbf h128)) rfl qB (R2 (xc7 rfl) rfl rfl (xm4 (by kernel_rfl) (xf5 (xw4 rfl rfl (xz3 (ya0 ?_)))))))))))))));refine xf5 ?_;refine xw5 ?_;refine R1 xb9 rfl (R2 (xd8 zah) rfl rfl (R1 xe5 rfl (xm4 (by kernel_rfl) ?_)));exact kF (n+1) ⟨(by omega),(by omega)⟩
 ·
  refine yb4 (y9 (y9 (xf2 (xf5 (xm6 ?_)))));refine xw5 ?_;refine Rt (xb5 (n:=12) (f:=(fun n:Int=>tI n)) nums5 zha el3 zf3 rfl (fun _=>inferInstance) rfl rfl rfl) ⟨rfl,rfl,rfl,rfl,rfl,rfl,rfl,rfl,rfl,rfl,rfl,rfl,trivial⟩ (R1 xe5 rfl (xm4 (by kernel_rfl) (xf5 (xm6 (xm6 ?_)))));refine xw5 ?_;refine R1 xe5 rfl (xm4 (by kernel_rfl) (xf5 (xw7 ?_)));refine cL (fun (i:Nat)=>i<=12) (fun (i:Nat)=>uV (uV uN 5 (tL 1 false (fun n:Int=>tI n) nums5)) 6 (tI i)) (fun (i:Nat)=>fun _=>none) [] (fun (i:Nat)=>12 - i) (0) (zbq _) ?_;intro i hI;have hnl:=nums5_len;refine xm6 (xm6 ?_);refine xw5 ?_;refine R1 xb9 rfl (R1 xb9 rfl (R1 (xf9 zha) rfl (R2 xh6 rfl rfl (xm4 (by kernel_rfl) (xf5 ?_)))));refine x6 rfl (fun h133=> ?_) (fun h133=> ?_)
  ·
   refine xz3 (xf5 (xm6 (xw7 (xm6 (xm6 ?_)))));refine xw5 ?_;refine R1 xe5 rfl (xm4 (by kernel_rfl) (xf5 (xw7 ?_)));refine cL (fun (k:Nat)=>k<=9) (fun (k:Nat)=>uV (uV (uV uN 5 (tL 1 false (fun n:Int=>tI n) nums5)) 6 (tI i)) 7 (tE (.int .u8 (k:Int)))) (fun (k:Nat)=>fun _=>none) [] (fun (k:Nat)=>9 - k) (0) (zbq _) ?_;intro k hI2;refine xm6 (xm6 ?_);refine xw5 ?_;refine R1 xb9 rfl (R2 xh6 rfl rfl (xm4 (by kernel_rfl) (xf5 ?_)));refine x6 rfl (fun h134=> ?_) (fun h134=> ?_)
   ·
    refine xz3 (xf5 (xm6 (xw7 (xm6 ?_))));refine ye5 mixed ?_;refine R1 xb9 rfl (R1 xb9 rfl (R1 xb9 rfl (R2 (x4 sl23 (i) (by omega) (gD (l:=nums5) (n:=i) (d:=0) (by rw [nums5_len];omega))) rfl rfl ?_)));have hnb:=nums5_bd (i:=i) (by omega);refine R1 (xm1 ti3) rfl (R2 (x3 (qd1 k (nums5.getD i 0)) fi40 rfl) rfl rfl (R1 xb9 rfl (R1 xb9 rfl (R2 (x4 sl23 (i) (by omega) (gD (l:=nums5) (n:=i) (d:=0) (by rw [nums5_len];omega))) rfl rfl (R1 (xm1 ti3) rfl (R2 (x3 (zq8 (nums5.getD i 0) 3 (by omega) (by omega) (by decide) (by decide)) fi30 rfl) rfl rfl (RE (x7 (k:=8) (n:=6) (agg:=true) zr57.1 zr57.2 rfl) trivial trivial qA (RE (x7 (k:=9) (n:=6) (agg:=true) zr57.1 zr57.2 rfl) trivial trivial qA (RE (xb8 (es:=6) (agg:=true) (0) ti57 rfl rfl rfl) qB qA trivial (RE (xb8 (es:=6) (agg:=true) (0) ti57 rfl rfl rfl) qB qA trivial (yb7 (by kernel_rfl) (xf5 (xm6 ?_)))))))))))));refine xw5 ?_;refine R1 xb9 rfl (R1 (xh0 fo57_0.h rfl) rfl (RE (xj2 (k:=9) (T0:=57) (es:=6) (ts:=[.val (tVa ⟨2,fr (kfr (nums5.getD i 0) 3),0⟩)]) (t2:=tVa (⟨k,fr (kfr (nums5.getD i 0) 3),0⟩:Va)) (0) ti5 rfl (Up.f (f:=⟨1,false,tE (.int .u8 2)⟩) 0 rfl rfl rfl) rfl rfl) qB qA trivial (xm4 (by kernel_rfl) (xf5 (xm6 ?_)))));refine xw5 ?_;refine RE (xc1 (0) ti57 rfl rfl) qA qA trivial (RE (xc1 (0) ti57 rfl rfl) qA qA trivial (R2 (x3 (zn2 ⟨k,fr0,nums5.getD i 0⟩ (⟨k,fr (kfr (nums5.getD i 0) 3),0⟩:Va) gd5_plain (gd5_num (by omega) (by omega) (by decide) (by decide))) fi41 rfl) rfl rfl (R1 xz2 rfl (R1 xb9 rfl (RGon rfl rfl (xc1 (0) ti57 rfl rfl) rfl qA qA trivial (Rg rfl rfl xb9 rfl qA (Rg rfl rfl (xh0 fo57_1.h rfl) rfl qA (xb2 rfl rfl rfl (0) ti41 rfl rfl rfl (At.g 1 rfl rfl) rfl (Rg rfl rfl (xb0 (r:=tS [⟨1,false,tE (.int .u8 (k:Int))⟩,⟨4,true,tFr (fr (kfr (nums5.getD i 0) 3))⟩,⟨1,false,tI 1⟩]) (ts:=[(0,tE (.int .u8 (k:Int))),(2,tI 1),(1,tFr (fr (kfr (nums5.getD i 0) 3)))]) bu57 zr57.2 (Bc 0 rfl rfl rfl (Bc 2 rfl rfl rfl (Bc 1 rfl rfl rfl zao)))) rfl qC (Rg rfl rfl (x3 (zn2 (⟨k,fr (kfr (nums5.getD i 0) 3),0⟩:Va) ⟨k,fr (kfr (nums5.getD i 0) 3),1⟩ (gd5_num (by omega) (by omega) (by decide) (by decide)) (gd5_num (by omega) (by omega) (by decide) (by decide))) fi41 rfl) rfl qB (Rg rfl rfl xz2 rfl qA (R2 (xc7 rfl) rfl rfl (xm4 (by kernel_rfl) (xf5 (xw4 rfl rfl ?_)))))))))))))));refine xz3 (ya0 (xf5 ?_));refine xw5 ?_;refine R1 xb9 rfl (R2 (xd8 (by first | exact wu8 (by omega) (by omega))) rfl rfl (R1 xe5 rfl (xm4 (by kernel_rfl) ?_)));exact kF (k+1) ⟨(by omega),(by omega)⟩
   ·
    refine yb4 (y9 (y9 (xf2 (xf5 (xm6 ?_)))));refine xw5 ?_;refine Rt (x3 (xw9 0 1 1 1 (by decide) (by decide) (by decide) (by decide)) fi43 rfl) qD (Rt (x3 (xw9 1 2 2 1 (by decide) (by decide) (by decide) (by decide)) fi43 rfl) qD (RE (ya6 (k:=108) (ents:=rV tTs [(⟨0,1,⟨2,fr (kfr 1 1),0⟩⟩:Tst),(⟨1,2,⟨2,fr (kfr 2 1),0⟩⟩:Tst)]) zhm el59 zf59 rfl (fun e he=>by obtain ⟨x,_,rfl⟩:=zcp.1 he;infer_instance) rfl rfl rfl) qB trivial qA (RE (xb7 (fun _=>108) (jn2 [(⟨0,1,⟨2,fr (kfr 1 1),0⟩⟩:Tst),(⟨1,2,⟨2,fr (kfr 2 1),0⟩⟩:Tst)]) fi42 rfl (krC (ρ:=fun _=>108) (k:=1) xa6 (krN (ρ:=fun _=>108))) (krC (ρ:=fun _=>108) (k:=1) xa6 (krN (ρ:=fun _=>108))) ⟨⟨rfl,xa5⟩,trivial⟩ rfl) qA qA trivial (R1 xe5 rfl (xm4 (by kernel_rfl) (xf5 (xm6 (xm6 ?_))))))));refine ye5 mixed ?_;refine R1 xb9 rfl (R1 xb9 rfl (R1 xb9 rfl (R1 xb9 rfl (R2 (x4 sl23 (i) (by omega) (gD (l:=nums5) (n:=i) (d:=0) (by rw [nums5_len];omega))) rfl rfl (R1 (xm1 ti3) rfl (RE (yh3 108 59 8 2 [.own (.sl 108 8 0 2),.own (.sl 108 8 0 2),.val _,.val _] (fun _ _ _ _ h=>h) (xs4 [(⟨0,1,⟨2,fr (kfr 1 1),0⟩⟩:Tst),(⟨1,2,⟨2,fr (kfr 2 1),0⟩⟩:Tst)] [(⟨0,1,⟨2,fr (kfr 1 1),0⟩⟩:Tst),(⟨1,2,⟨2,fr (kfr 2 1),0⟩⟩:Tst)] (nums5.getD i 0) 2 (by simp) (by simp) (gd5_two (gd5_num (by decide) (by decide) (by decide) (by decide)) (gd5_num (by decide) (by decide) (by decide) (by decide))) (gd5_two (gd5_num (by decide) (by decide) (by decide) (by decide)) (gd5_num (by decide) (by decide) (by decide) (by decide)))) fi39 (fun _ h=>h) (xg2 (xs:=[(⟨0,1,⟨2,fr (kfr 1 1),0⟩⟩:Tst),(⟨1,2,⟨2,fr (kfr 2 1),0⟩⟩:Tst)]) rfl) rfl ⟨.inr ⟨rfl,rfl⟩,.inr ⟨rfl,rfl⟩,.inl rfl,.inl rfl,trivial⟩ rfl) qD qA trivial (R1 xz2 rfl (R1 xb9 rfl (Rg rfl rfl xb9 rfl qA (Rg rfl rfl xb9 rfl qA (Rg rfl rfl xb9 rfl qA (Rg rfl rfl (x4 sl23 (i) (by omega) (gD (l:=nums5) (n:=i) (d:=0) (by rw [nums5_len];omega))) rfl qB (Rg rfl rfl (xm1 ti3) rfl qA (RGon rfl rfl (yh3 108 59 8 2 [.own (.sl 108 8 0 2),.val _,.val _,.val _] (fun _ _ _ _ h=>h) (jj2 [(⟨0,1,⟨2,fr (kfr 1 1),0⟩⟩:Tst),(⟨1,2,⟨2,fr (kfr 2 1),0⟩⟩:Tst)] 0 (nums5.getD i 0) (by simp) (gd5_two (gd5_num (by decide) (by decide) (by decide) (by decide)) (gd5_num (by decide) (by decide) (by decide) (by decide)))) fi39 (fun _ h=>h) (xg2 (xs:=[(⟨0,1,⟨2,fr (kfr 1 1),0⟩⟩:Tst),(⟨1,2,⟨2,fr (kfr 2 1),0⟩⟩:Tst)]) rfl) rfl ⟨.inr ⟨rfl,rfl⟩,.inl rfl,.inl rfl,.inl rfl,trivial⟩ rfl) rfl qD qA trivial (Rg rfl rfl xz2 rfl qA ?_)))))))))))))));refine R2 (xc7 rfl) rfl rfl (R1 xb9 rfl (Rg rfl rfl xb9 rfl qA (Rg rfl rfl xb9 rfl qA (Rg rfl rfl xb9 rfl qA (Rg rfl rfl (x4 sl23 (i) (by omega) (gD (l:=nums5) (n:=i) (d:=0) (by rw [nums5_len];omega))) rfl qB (Rg rfl rfl (xm1 ti3) rfl qA (Rg rfl rfl xb9 rfl qA (Rg rfl rfl xb9 rfl qA (Rg rfl rfl (x4 sl23 (i) (by omega) (gD (l:=nums5) (n:=i) (d:=0) (by rw [nums5_len];omega))) rfl qB (Rg rfl rfl (xm1 ti3) rfl qA (RGon rfl rfl (yh3 108 59 8 2 [.own (.sl 108 8 0 2),.val _,.val _] (fun _ _ _ _ h=>h) (yh1 [(⟨0,1,⟨2,fr (kfr 1 1),0⟩⟩:Tst),(⟨1,2,⟨2,fr (kfr 2 1),0⟩⟩:Tst)] (nums5.getD i 0) (nums5.getD i 0) (by simp) (gd5_two (gd5_num (by decide) (by decide) (by decide) (by decide)) (gd5_num (by decide) (by decide) (by decide) (by decide)))) fi37 (fun _ h=>h) (xg2 (xs:=[(⟨0,1,⟨2,fr (kfr 1 1),0⟩⟩:Tst),(⟨1,2,⟨2,fr (kfr 2 1),0⟩⟩:Tst)]) rfl) rfl ⟨.inr ⟨rfl,rfl⟩,.inl rfl,.inl rfl,trivial⟩ rfl) rfl qC qA trivial (Rg rfl rfl xz2 rfl qA (R2 (xc7 rfl) rfl rfl (R1 xb9 rfl (Rg rfl rfl xb9 rfl qA ?_)))))))))))))));refine Rg rfl rfl xb9 rfl qA (Rg rfl rfl xb9 rfl qA (Rg rfl rfl (x4 sl23 (i) (by omega) (gD (l:=nums5) (n:=i) (d:=0) (by rw [nums5_len];omega))) rfl qB (Rg rfl rfl (xm1 ti3) rfl qA (RGon rfl rfl (yh3 108 59 8 2 [.own (.sl 108 8 0 2),.val _,.val _] (fun _ _ _ _ h=>h) (yh1 [(⟨0,1,⟨2,fr (kfr 1 1),0⟩⟩:Tst),(⟨1,2,⟨2,fr (kfr 2 1),0⟩⟩:Tst)] 0 (nums5.getD i 0) (by simp) (gd5_two (gd5_num (by decide) (by decide) (by decide) (by decide)) (gd5_num (by decide) (by decide) (by decide) (by decide)))) fi37 (fun _ h=>h) (xg2 (xs:=[(⟨0,1,⟨2,fr (kfr 1 1),0⟩⟩:Tst),(⟨1,2,⟨2,fr (kfr 2 1),0⟩⟩:Tst)]) rfl) rfl ⟨.inr ⟨rfl,rfl⟩,.inl rfl,.inl rfl,trivial⟩ rfl) rfl qC qA trivial (Rg rfl rfl xz2 rfl qA (R2 (xc7 rfl) rfl rfl (yb7 (by kernel_rfl) (xf5 (xw4 rfl rfl (xz3 (xf5 (xm6 ?_))))))))))))
    refine xw5 ?_;refine R1 xb9 rfl (R2 (x3 (qd1 5 1) fi40 rfl) rfl rfl (R2 (xa2 sl51 (by decide) (by first | decide | simp) rfl) rfl rfl (R1 (xh0 fo59_2.h rfl) rfl (RE (xj2 (es:=8) (o:=2) (t2:=tTs (⟨1,2,⟨5,fr0,1⟩⟩:Tst)) (1) ti57 rfl (Up.g 2 rfl rfl rfl) rfl rfl) qB qA trivial (xm4 (by kernel_rfl) (xf5 (xm6 (C_give (t:=10) (k:=108) (f:=tTs) (xs:=[(⟨0,1,⟨2,fr (kfr 1 1),0⟩⟩:Tst),(⟨1,2,⟨5,fr0,1⟩⟩:Tst)]) rfl rfl (fun _ h=>h) rfl rfl ?_))))))));refine ye5 mixed ?_;refine R1 xb9 rfl (R1 xb9 rfl (R2 (yh8 (xs:=[(⟨0,1,⟨2,fr (kfr 1 1),0⟩⟩:Tst),(⟨1,2,⟨5,fr0,1⟩⟩:Tst)]) (ys:=[(⟨0,1,⟨2,fr (kfr 1 1),0⟩⟩:Tst)]) sl51 1 rfl (by decide) rfl) rfl rfl (Rt (x3 (xs4 [(⟨0,1,⟨2,fr (kfr 1 1),0⟩⟩:Tst),(⟨1,2,⟨5,fr0,1⟩⟩:Tst)] [(⟨0,1,⟨2,fr (kfr 1 1),0⟩⟩:Tst)] 0 2 (by simp) (by simp) (gd5_two (gd5_num (by decide) (by decide) (by decide) (by decide)) gd5_plain) (gd5_one (gd5_num (by decide) (by decide) (by decide) (by decide)))) fi39 rfl) qD (R1 xz2 rfl (R1 xb9 rfl (Rg rfl rfl xb9 rfl qA (Rg rfl rfl (yh8 (xs:=[(⟨0,1,⟨2,fr (kfr 1 1),0⟩⟩:Tst),(⟨1,2,⟨5,fr0,1⟩⟩:Tst)]) (ys:=[(⟨0,1,⟨2,fr (kfr 1 1),0⟩⟩:Tst)]) sl51 1 rfl (by decide) rfl) rfl qB (Rg rfl rfl xb9 rfl qA (Rg rfl rfl (yh4 (xs:=[(⟨0,1,⟨2,fr (kfr 1 1),0⟩⟩:Tst),(⟨1,2,⟨5,fr0,1⟩⟩:Tst)]) (ys:=[(⟨1,2,⟨5,fr0,1⟩⟩:Tst)]) sl51 1 rfl (by decide) rfl) rfl qB (Rg rfl rfl (x3 (xs4 [(⟨0,1,⟨2,fr (kfr 1 1),0⟩⟩:Tst)] [(⟨1,2,⟨5,fr0,1⟩⟩:Tst)] 0 2 (by simp) (by simp) (gd5_one (gd5_num (by decide) (by decide) (by decide) (by decide))) (gd5_one gd5_plain)) fi39 rfl) rfl qD (Rg rfl rfl xz2 rfl qA (R2 (xc7 rfl) rfl rfl (R1 xb9 rfl (Rg rfl rfl xb9 rfl qA (Rg rfl rfl (yh4 (xs:=[(⟨0,1,⟨2,fr (kfr 1 1),0⟩⟩:Tst),(⟨1,2,⟨5,fr0,1⟩⟩:Tst)]) (ys:=[(⟨1,2,⟨5,fr0,1⟩⟩:Tst)]) sl51 1 rfl (by decide) rfl) rfl qB ?_)))))))))))))));refine Rg rfl rfl (x3 (yh1 [(⟨1,2,⟨5,fr0,1⟩⟩:Tst)] 0 2 (by simp) (gd5_one gd5_plain)) fi37 rfl) rfl qC (Rg rfl rfl xz2 rfl qA (R2 (xc7 rfl) rfl rfl (R1 xb9 rfl (Rg rfl rfl xb9 rfl qA (Rg rfl rfl xb9 rfl qA (Rg rfl rfl (yh4 (xs:=[(⟨0,1,⟨2,fr (kfr 1 1),0⟩⟩:Tst),(⟨1,2,⟨5,fr0,1⟩⟩:Tst)]) (ys:=[(⟨1,2,⟨5,fr0,1⟩⟩:Tst)]) sl51 1 rfl (by decide) rfl) rfl qB (Rg rfl rfl (x3 (qo7 [(⟨0,1,⟨2,fr (kfr 1 1),0⟩⟩:Tst),(⟨1,2,⟨5,fr0,1⟩⟩:Tst)] [(⟨1,2,⟨5,fr0,1⟩⟩:Tst)] 0 (by simp) (by simp) (gd5_two (gd5_num (by decide) (by decide) (by decide) (by decide)) gd5_plain) (gd5_one gd5_plain)) fi35 rfl) rfl qC (Rg rfl rfl xz2 rfl qA (R2 (xc7 rfl) rfl rfl (yb7 (by kernel_rfl) (xf5 (xw4 rfl rfl (xz3 (ya0 (xf5 ?_)))))))))))))));refine xw5 ?_;refine R1 xb9 rfl (R2 (xd8 zah) rfl rfl (R1 xe5 rfl (xm4 (by kernel_rfl) ?_)));exact kF (i+1) ⟨(by omega),(by omega)⟩
  ·
   refine yb4 (y9 (y9 (xf2 (xf5 (xm6 (xm6 ?_))))));refine xw5 ?_;refine R1 xe5 rfl (xm4 (by kernel_rfl) (xf5 (xw7 ?_)));refine cL (fun (k:Nat)=>k<=4) (fun (k:Nat)=>uV uN 11 (tI k)) (fun (k:Nat)=>fun _=>none) [] (fun (k:Nat)=>4 - k) (0) (zbq _) ?_;intro k hI;refine xm6 (xm6 ?_);refine xw5 ?_;refine R1 xb9 rfl (R2 xh6 rfl rfl (xm4 (by kernel_rfl) (xf5 ?_)));refine x6 rfl (fun h150=> ?_) (fun h150=> ?_)
   ·
    refine xz3 (xf5 (xm6 (xw7 (xm6 ?_))));refine ya4 ?_;refine xf4 xb9 qA trivial trivial rfl (xf4 (xi2 zah) qB trivial trivial rfl (xf4 (xd8 zah) qB trivial trivial rfl (xf4 (x3 (xw9 0 (1+(k:Int)*300) 1 1 (by decide) (by decide) (by decide) (by decide)) fi43 rfl) qD trivial trivial rfl (xf4 (zz3 (k:=12) (n:=8) [.int .i64 0,.int .i64 0,.int .u8 0,.bool false,.slice none 0 0,.bool false,.slice none 0 0,.int .i64 0] zr59.1 rfl rfl rfl rfl) trivial trivial qA rfl (wl_imp (t:=186) rfl (ts_row _) (fun k hk=>by rw [yq5] at hk;cases hk) (xf4 (qa3 ti59 rfl rfl rfl) qB qA trivial rfl (xp1 (xf5 (xm6 ?_)))))))));obtain ⟨L,hL⟩: ∃L:Nat,(L:Int)=256+(k:Int) / 3:=⟨256+k / 3,by omega⟩
    have hLb:L<=300:=by omega
    refine xw5 ?_;refine R1 xb9 rfl (R2 (yf2 (by omega) (by omega) zah) rfl rfl (R2 (xd8 (r:=(L:Int)) ((wr64 (by omega) (by omega)).trans hL.symm)) rfl rfl (RE (xg0 (k:=190) (t:=tE (.int .u16 0)) (ts:=rV (fun n:Nat=>tE (.int .u16 (n:Int))) (filN L 0)) L L zgy el64 (fun _ _=>rfl) rfl (by omega) (by omega) (zbs _) (by omega) (by omega) (xk0 (f:=(fun n:Nat=>tE (.int .u16 (n:Int)))) L 0 rfl)) qB trivial qA (R1 (xh0 fo59_2.h rfl) rfl (R1 (xh0 fo57_1.h rfl) rfl (R1 (xh0 fo41_0.h rfl) rfl (R1 (xh0 fo39_1.h rfl) rfl (RE (xb8 (es:=1) (agg:=false) (4) ti37 rfl rfl rfl) qB qA trivial (xm4 (by kernel_rfl) (xf5 (xm6 (xm6 ?_))))))))))));refine xw5 ?_;refine R1 xe5 rfl (xm4 (by kernel_rfl) (xf5 (xw7 ?_)));refine cL (fun (i:Nat)=>i<=L) (fun (i:Nat)=>uV (uO (uV uN 11 (tI k)) 12 (.ptr 12 0)) 13 (tI i)) (fun (i:Nat)=>uK (uK uN 12 59 1 false [.val (tI 0),.val (tI (1+(k:Int)*300)),.val (tE (.int .u8 ((2:Nat):Int))),.val (tB P11.n.neg),.own (.sl 190 1 0 L),.val (tB P11.d.neg),.val (tLm P11.d.l),.val (tI 0)]) 190 64 1 false (rV (fun n:Nat=>tE (.int .u16 (n:Int))) (filN L i))) [12,190] (fun (i:Nat)=>L - i) (0) (zbq _) ?_;intro i hI2;refine xm6 (xm6 ?_);refine xw5 ?_;refine R1 xb9 rfl (R1 (xh0 fo59_2.h rfl) rfl (R1 (xh0 fo57_1.h rfl) rfl (R1 (xh0 fo41_0.h rfl) rfl (R1 (xh0 fo39_1.h rfl) rfl (RE (xc1 (4) ti37 rfl rfl) qA qA trivial (R1 (zc9 zgy) rfl (R2 xh6 rfl rfl (xm4 (by kernel_rfl) (xf5 ?_)))))))));refine x6 rfl (fun h153=> ?_) (fun h153=> ?_)
    ·
     refine xz3 (xf5 (xm6 (xw7 ?_)));refine xw5 ?_;refine R1 (xh0 fo59_2.h rfl) rfl (R1 (xh0 fo57_1.h rfl) rfl (R1 (xh0 fo41_0.h rfl) rfl (R1 (xh0 fo39_1.h rfl) rfl (RE (xc1 (4) ti37 rfl rfl) ⟨rfl,trivial⟩ ⟨rfl,trivial⟩ trivial (R1 xb9 rfl (R2 (zag sl37 rfl) rfl rfl (RE (xb8 (e:= .val (tE (.int .u16 ((65535:Nat):Int)))) (i) ti64 (xe8 (by rw [xr3 (by omega)];omega)) (by omega) (xi3 (f:=(fun n:Nat=>tE (.int .u16 (n:Int)))) (m:=65535) rfl)) ⟨rfl,rfl,trivial⟩ ⟨rfl,trivial⟩ trivial (xm4 (by kernel_rfl) (ya0 (xf5 ?_))))))))));refine xw5 ?_;refine R1 xb9 rfl (R2 (xd8 zah) rfl rfl (R1 xe5 rfl (xm4 (by kernel_rfl) ?_)));exact kF (i+1) ⟨(by omega),(by omega)⟩ (hh:=((zaq rfl (zat (by rw [<-jr5 (by omega)]))) (SubK.cons rfl zax)))
    ·
     refine yb4 (y9 (y9 (xf2 (xf5 (xm6 ?_)))));have hi6:L=i:=by omega
     subst hi6;refine qn3 (q:=12) (j:=190) (f:=(fun n:Nat=>tE (.int .u16 (n:Int)))) (xs:=filN L L) 4 rfl rfl rfl rfl (NoLbK.of fun _ h=>h) (xg2 (xr3 (zbs _))) (xr3 (zbs _)) rfl ?_;refine ye5 mixed ?_;refine RE (Does.leV jd6 (zh4 (us:=[tI 0,tI (1+(k:Int)*300),tE (.int .u8 ((2:Nat):Int)),tB P11.n.neg,tLm (filN L L),tB P11.d.neg,tLm P11.d.l,tI 0]) (t:=tS (fdOne [tI 0,tI (1+(k:Int)*300),tE (.int .u8 ((2:Nat):Int)),tB P11.n.neg,tLm (filN L L),tB P11.d.neg,tLm P11.d.l,tI 0])) ti59 rfl rfl rfl rfl)) qA qA trivial (Rt (x3 (xw9 2000 2001 1 1 (by decide) (by decide) (by decide) (by decide)) fi43 rfl) qD (R2 (xb5 (n:=2) (f:=tTs) [(LNG5 k L),(⟨2000,2001,⟨2,fr (kfr 1 1),0⟩⟩:Tst)] zhm el59 zf59 rfl (fun _=>inferInstance) rfl rfl rfl) rfl rfl (R1 (x3 (yc9 _) fi42 rfl) rfl (R3 (x3 (yh1 [(LNG5 k L),(⟨2000,2001,⟨2,fr (kfr 1 1),0⟩⟩:Tst)] 0 3000 (by simp) (gd5_two (lng5_ok (by omega)) (gd5_num (by decide) (by decide) (by decide) (by decide)))) fi37 rfl) rfl rfl rfl (R1 xz2 rfl (R1 xb9 rfl (Rg rfl rfl (x3 (xw9 2000 2001 (-5) 1 (by decide) (by decide) (by decide) (by decide)) fi43 rfl) rfl qD (Rg rfl rfl (x3 (xw9 2002 2003 1 1 (by decide) (by decide) (by decide) (by decide)) fi43 rfl) rfl qD (Rg rfl rfl (xb5 (n:=2) (f:=tTs) [(⟨2000,2001,⟨2,fr (kfr (-5) 1),0⟩⟩:Tst),(⟨2002,2003,⟨2,fr (kfr 1 1),0⟩⟩:Tst)] zhm el59 zf59 rfl (fun _=>inferInstance) rfl rfl rfl) rfl qB (Rg rfl rfl (x3 (yc9 _) fi42 rfl) rfl qA (Rg rfl rfl (x3 (yh1 [(⟨2000,2001,⟨2,fr (kfr (-5) 1),0⟩⟩:Tst),(⟨2002,2003,⟨2,fr (kfr 1 1),0⟩⟩:Tst)] 0 3000 (by simp) (gd5_two (gd5_num (by decide) (by decide) (by decide) (by decide)) (gd5_num (by decide) (by decide) (by decide) (by decide)))) fi37 rfl) rfl qC (Rg rfl rfl xz2 rfl qA (R2 (xc7 rfl) rfl rfl (R1 xb9 rfl (RGon rfl rfl (Does.leV jd6 (zh4 (us:=[tI 0,tI (1+(k:Int)*300),tE (.int .u8 ((2:Nat):Int)),tB P11.n.neg,tLm (filN L L),tB P11.d.neg,tLm P11.d.l,tI 0]) (t:=tS (fdOne [tI 0,tI (1+(k:Int)*300),tE (.int .u8 ((2:Nat):Int)),tB P11.n.neg,tLm (filN L L),tB P11.d.neg,tLm P11.d.l,tI 0])) ti59 rfl rfl rfl rfl)) rfl qA qA trivial ?_)))))))))))))));refine Rg rfl rfl (xb5 (n:=1) (f:=tTs) [(LNG5 k L)] zhm el59 zf59 rfl (fun _=>inferInstance) rfl rfl rfl) rfl qA (Rg rfl rfl (x3 (yc9 _) fi42 rfl) rfl qA (Rg rfl rfl (x3 (yh1 [(LNG5 k L)] 0 1 (by simp) (gd5_one (lng5_ok (by omega)))) fi37 rfl) rfl qC (Rg rfl rfl xz2 rfl qA (R2 (xc7 rfl) rfl rfl (yb7 (by kernel_rfl) (xf5 (xw4 rfl rfl (xz3 (ya0 (xf5 ?_))))))))));refine xw5 ?_;refine R1 xb9 rfl (R2 (xd8 zah) rfl rfl (R1 xe5 rfl (xm4 (by kernel_rfl) ?_)));exact kF (k+1) ⟨(by omega),(by omega)⟩
   ·
    refine yb4 (y9 (y9 (xf2 (xf5 (xm6 ?_)))));refine xw5 ?_;refine R0 (x3 jn6 fi36 rfl) (R1 xe5 rfl (xm4 (by kernel_rfl) (xf5 (yb5 ?_))));exact E1 rfl rfl zao
end An.S
namespace An.S
open Go Go.Proofs An Tryz
open Go.ChangeShapes Go.WideShapes Go.ChangeAt Go.RowKit
theorem own:ownKnob Tryz.prog.godebug=none:=by kernel_rfl
theorem walked {f:FuncId} {ts:List Ty} (h:Ct Tryz.prog f ts (tB true)) {vs:List Value} {W:World} (ha:Tup.all (Old W) W ts vs):Calls Tryz.prog f vs.toArray W fun e W'=>e= .returned (.bool true)/\Ext W W':=
 (h (Old W) W vs ha).mono fun e W' ⟨v,h1,h2,h3⟩=>by
  have h3:v= .bool true:=h3;subst h3;exact ⟨h1,h2⟩
end An.S
