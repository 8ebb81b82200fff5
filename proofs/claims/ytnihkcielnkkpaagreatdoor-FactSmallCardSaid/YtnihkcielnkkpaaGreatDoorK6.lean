/- Part 6 of a proof: G8, Re, G9. -/
import Derived.Test.YtnihkcielnkkpaaGreatDoorK5
set_option maxHeartbeats 4000000
set_option maxRecDepth 100000
namespace An.S
open Go Go.Proofs An Tryz
instance fi26:FnI Tryz.prog 26:=⟨_,func26,by kernel_rfl,rfl⟩
instance fi28:FnI Tryz.prog 28:=⟨_,func28,by kernel_rfl,rfl⟩
instance fi29:FnI Tryz.prog 29:=⟨_,func29,by kernel_rfl,rfl⟩
instance fi30:FnI Tryz.prog 30:=⟨_,func30,by kernel_rfl,rfl⟩
instance fi31:FnI Tryz.prog 31:=⟨_,func31,by kernel_rfl,rfl⟩
instance fi34:FnI Tryz.prog 34:=⟨_,func34,by kernel_rfl,rfl⟩
theorem qi5 (a:List Fa) (key:ByteArray) (kn:Int) (hl:a.length<=100000) (hS:smF a):Ct Tryz.prog 40 [tL 11 true tFa a,tSt key,tI kn] (tL 8 true tTs (vwT (toldT a key kn))):=
 CtX.toCtS (ts:=[_,_,_]) (qh5 a key kn hl hS) fun _ _ h=>qe0 h.1
theorem jj4 {D B:Int} {a:List Fa} (h:gR D B a) (hD: ∀f∈a,f.v.f.dgs) (key:ByteArray) (k1 k2:Int):CtN Tryz.prog 65 [tL 8 true tTs (vwT (toldT a key k1)),tL 8 true tTs (vwT (toldT a key k2))] (fun nw=>tT [tG (up nw) (tL 2 true tSn (dfS (vwT (toldT a key k1)) (vwT (toldT a key k2)))),tI 0]):=by
 have v1:=h.view (key:=key) k1;have v2:=h.view (key:=key) k2;have h1:=jd4 (vwT (toldT a key k1)) (vwT (toldT a key k2)) (by omega) (by omega) (jn3 hD) (jn3 hD);simp only [if_pos (And.intro v1.1.1 v2.1.1)] at h1;exact h1
theorem we3 {a:List Fa} (h:recOk a=true):kOk a=true:=by
 rw [recOk,zbv] at h;exact h.2
theorem zv2 {a:List Fa} (h:recOk a=true):Ct Tryz.prog 43 [tL 11 true tFa a] (tT [tMp mkSU (some (kM a)),tB true]):=by
 have h1:=qp6 a;rw [we3 h,if_pos rfl] at h1;exact h1
open Go.Proofs Go.Shelf Go.Sort Go.RowKit in
theorem qw0 (l:List (ByteArray×Nat)) (hn:(l.map (·.1)).Nodup) (hz: ∀p∈l,p.1.size<=maxLen) (hl:l.length<=1000000):
  CtG Tryz.prog 67 [(1,⟨69,1,false,[.val (tMp mkSU (some l))]⟩)] [.own (.fn 123 [.ptr 1 0])] (.own (.sl 2 1 0 (srtB (l.map (·.1))).length)) [(1,⟨69,1,false,[.val (tMp mkSU (some l))]⟩),(2,⟨9,1,false,rV tSt (srtB (l.map (·.1)))⟩)] [2]:=
 sortedKo laySorted layKeys1 rfl rfl sortsS (enters_of laySortS.f190 (by kernel_rfl) rfl) (layKeys1.f10.enters rfl) l hn hz hl
theorem qa7 (a:List Fa) (key:ByteArray) (hl:a.length<=100000) (hS:smF a) (hD: ∀f∈a,f.v.f.dgs) (k1 k2:Int) {D B:Int} (hq:recOk a=true->gR D B a):
  CtN Tryz.prog 24 [tL 11 true tFa a,tSt key,tI k1,tI k2] (fun nw=>tT [tG (up nw) (tL 2 true tSn (rdA a key k1 k2)),tI (rE a)]):=by
 refine CtN.intro func24 rfl ntmps24 rfl ?_;intro w F;refine A10 ?_;refine R1 (x4 (xk1 a hD) fi11 rfl) rfl ?_;refine A3 ?_;refine xc7 rfl (fun h161=> ?_) (fun h161=> ?_)
 ·
  have hr: ¬recOk a=true:=by simpa using h161
  refine A8 ?_;exact E2 rfl rfl rfl (leNilG (by rw [rdA,if_neg hr])) (zba (by rw [rE,if_neg hr]))
 ·
  have hr:recOk a=true:=by simpa using h161
  refine A7 ?_;refine R3 (x4 (qi5 a key k1 hl hS) fi40 rfl) rfl rfl rfl ?_;refine A3 ?_;refine R3 (x4 (qi5 a key k2 hl hS) fi40 rfl) rfl rfl rfl (R2 (xm0 (ts:=[_,_]) (r:=tT [tG (up w.heap.size) _,_]) (jj4 (hq hr) hD key k1 k2) fi65 (fun m hm=>le_T ⟨xu6 hm,zao,trivial⟩) ⟨zao,zao,trivial⟩ rfl) rfl rfl ?_);refine A7 ?_;exact E2 rfl rfl rfl (Le.of (by rw [rdA,if_pos hr,ye3 (hq hr),ye3 (hq hr)])) (zba (by rw [rE,if_pos hr]))
theorem wi5 (a:List Fa) (key:ByteArray) (hl:a.length<=100000) (hS:smF a) (hD: ∀f∈a,f.v.f.dgs):
  Ct Tryz.prog 28 [tL 11 true tFa a,tSt key] (tE (.int .u8 ((rkA a key:Nat):Int))):=by
 refine Ct.intro func28 rfl ntmps28 rfl ?_;intro w F;refine A9 ?_;refine R1 (x4 (xk1 a hD) fi11 rfl) rfl ?_;refine A3 ?_;refine xc7 rfl (fun h65=> ?_) (fun h65=> ?_)
 ·
  have hr: ¬recOk a=true:=by simpa using h65
  refine A7 ?_;exact E1 rfl rfl (Le.of (by rw [rkA,if_neg hr];rfl))
 ·
  have hr:recOk a=true:=by simpa using h65
  refine A5 ?_;refine R1 (x4 (zv2 hr) fi43 rfl) rfl ?_;refine A11 ?_;refine R2 (ji4 (qm5 underlying69 zgu (fun w=>by kernel_rfl)) (kM a) key) rfl rfl ?_;refine A4 ?_;exact E1 rfl rfl (Le.of (by rw [rkA,if_pos hr];rfl))
theorem jz2 (a:List Fa) (hl:a.length<=100000) (hS:smF a) (hD: ∀f∈a,f.v.f.dgs) {D B:Int} (hq:recOk a=true->gR D B a):
  CtN Tryz.prog 26 [tL 11 true tFa a] (fun nw=>tG (up nw) (tL 1 false tSt (rkB a))):=by
 refine CtN.intro func26 rfl ntmps26 rfl ?_;intro w F;refine A9 ?_;refine R1 (x4 (xk1 a hD) fi11 rfl) rfl ?_;refine A3 ?_;refine xc7 rfl (fun h56=> ?_) (fun h56=> ?_)
 ·
  have hr: ¬recOk a=true:=by simpa using h56
  refine A7 ?_;exact E1 rfl rfl (leNilG (by rw [rkB,if_neg hr]))
 ·
  have hr:recOk a=true:=by simpa using h56
  refine A5 ?_;refine R1 (x4 (zv2 hr) fi43 rfl) rfl ?_;refine A10 ?_;refine RE (xb7 (fun _=>14) (qu1 (kM a)) fi68 rfl (krN (ρ:=fun _=>14)) (krC (ρ:=fun _=>14) (k:=1) rfl (krN (ρ:=fun _=>14))) ⟨⟨rfl,(SupX.lit rfl)⟩,trivial⟩ rfl) qA trivial qA (RE (xb7 (fun j=>cond (Nat.beq j 2) 15 (14)) (qw0 (kM a) (hq hr).keys.1 (hq hr).keys.2.1 (hq hr).keys.2.2) fi67 rfl (krC (ρ:=fun j=>cond (Nat.beq j 2) 15 (14)) (k:=1) rfl (krN (ρ:=fun j=>cond (Nat.beq j 2) 15 (14)))) (krC (ρ:=fun j=>cond (Nat.beq j 2) 15 (14)) (k:=1) rfl (krC (ρ:=fun j=>cond (Nat.beq j 2) 15 (14)) (k:=2) x8 (krN (ρ:=fun j=>cond (Nat.beq j 2) 15 (14))))) ⟨⟨rfl,(SupX.lit rfl)⟩,⟨rfl,x6⟩,trivial⟩ rfl) qA qA qA (RE (yh8 (f:=tSt) (xs:=(keyB a)) (up w.heap.size) (fun _ h=>h) (fun _=>Free.E) (fun _ h=>h) (xe9 rfl) rfl) qA qA trivial ?_));refine A3 ?_;exact E1 rfl rfl (Le.of (by rw [rkB,if_pos hr]))
theorem yn7 (a:List Fa) (key:ByteArray) (hl:a.length<=100000) (hD: ∀f∈a,f.v.f.dgs) (hX: ∀f∈a,f.gone=false->txOk f.v):
  CtN Tryz.prog 12 [tL 11 true tFa a,tSt key] (fun nw=>tG (up nw) (tL 1 false tI (lrnA a key))):=by
 refine CtN.intro func12 rfl ntmps12 rfl ?_;intro w F;refine A9 ?_;refine R1 (x4 (xk1 a hD) fi11 rfl) rfl ?_;refine A3 ?_;refine xc7 rfl (fun h169=> ?_) (fun h169=> ?_)
 ·
  have hr: ¬recOk a=true:=by simpa using h169
  refine A7 ?_;exact E1 rfl rfl (leNilG (by rw [lrnA,if_neg hr]))
 ·
  have hr:recOk a=true:=by simpa using h169
  refine A6 ?_;refine RE (xb7 (fun j=>cond (Nat.beq j 4) 1021 (cond (Nat.beq j 3) 21 (2021))) (zr9 a key 65536) fi45 rfl (krN (ρ:=fun j=>cond (Nat.beq j 4) 1021 (cond (Nat.beq j 3) 21 (2021)))) (krC (ρ:=fun j=>cond (Nat.beq j 4) 1021 (cond (Nat.beq j 3) 21 (2021))) (k:=3) rfl (krC (ρ:=fun j=>cond (Nat.beq j 4) 1021 (cond (Nat.beq j 3) 21 (2021))) (k:=4) rfl (krC (ρ:=fun j=>cond (Nat.beq j 4) 1021 (cond (Nat.beq j 3) 21 (2021))) (k:=5) rfl (krN (ρ:=fun j=>cond (Nat.beq j 4) 1021 (cond (Nat.beq j 3) 21 (2021))))))) ⟨⟨rfl,(SupX.lit rfl)⟩,⟨rfl,(SupX.lit rfl)⟩,⟨rfl,(SupX.lit rfl)⟩,trivial⟩ rfl) qC trivial qC (RE (xb7 (fun j=>cond (Nat.beq j 105) 1021 (cond (Nat.beq j 104) 21 (cond (Nat.beq j 4) 22 (2021)))) (zd3 a key 65536 (by omega)) fi44 rfl (krC (ρ:=fun j=>cond (Nat.beq j 105) 1021 (cond (Nat.beq j 104) 21 (cond (Nat.beq j 4) 22 (2021)))) (k:=104) rfl (krC (ρ:=fun j=>cond (Nat.beq j 105) 1021 (cond (Nat.beq j 104) 21 (cond (Nat.beq j 4) 22 (2021)))) (k:=105) rfl (krC (ρ:=fun j=>cond (Nat.beq j 105) 1021 (cond (Nat.beq j 104) 21 (cond (Nat.beq j 4) 22 (2021)))) (k:=106) rfl (krN (ρ:=fun j=>cond (Nat.beq j 105) 1021 (cond (Nat.beq j 104) 21 (cond (Nat.beq j 4) 22 (2021)))))))) (krC (ρ:=fun j=>cond (Nat.beq j 105) 1021 (cond (Nat.beq j 104) 21 (cond (Nat.beq j 4) 22 (2021)))) (k:=4) x8 (krN (ρ:=fun j=>cond (Nat.beq j 105) 1021 (cond (Nat.beq j 104) 21 (cond (Nat.beq j 4) 22 (2021)))))) ⟨⟨rfl,x6⟩,trivial⟩ rfl) qA qC qA ?_);refine A4 ?_;have hTl0:=yf1 (a:=a) (key:=key) (kn:=65536);have hXT: ∀f∈toldT a key 65536,f.gone=false->txOk f.v:=fun f hf=>hX f (xk5 hf).1;have hrA:lrnA a key=lrnT (toldT a key 65536):=if_pos hr;generalize toldT a key 65536=T at*
  have hbl:=zh1 (T:=T);refine zs4 (t:=5) (k:=22) (f:=tFa) (xs:=T) rfl rfl (fun _ h=>h) (xe9 rfl) rfl ?_;refine A2 ?_;refine R1 (x4 (yz8 T (by omega)) fi46 rfl) rfl ?_;refine A7 ?_;refine RE (xi0 (k:=27) (t:=tSt ⟨#[]⟩) (ts:=rV tSt (nowA T (bdF T) 0)) (bdF T).length (bdF T).length zgw el9 (fun _ _=>rfl) rfl rfl rfl (zbq _) (by omega) (by omega) (by rw [jn0];exact yd0 (f:=tSt) _ _ rfl)) qB trivial qA ?_;refine A5 ?_;refine RE (xg1 (k:=8) 3 1 false rfl (fun _=>rfl)) trivial trivial qA ?_;refine A9 ?_;refine cL (fun (fm:(Nat)×(List Int))=>(fun (i:Nat) (xs:List Int)=>i<=T.length/\xs++lrn T (bdF T) (T.length - i) i=lrnT T/\xs.length<=i) fm.1 fm.2) (wB fun (i:Nat) (xs:List Int)=>uV (uO (uO (uV (uV uN 5 (tL 11 true tFa T)) 6 (tL 1 false tI (bdF T))) 7 (.sl 27 1 0 (bdF T).length)) 8 (.sl 8 1 0 xs.length)) 9 (tI i)) (wB fun (i:Nat) (xs:List Int)=>uK (uK uN 27 9 1 false (rV tSt (nowA T (bdF T) i))) 8 3 1 false (rV tI xs)) [27,8] (fun (fm:(Nat)×(List Int))=>(fun (i:Nat) (xs:List Int)=>T.length - i) fm.1 fm.2) ((0,[])) (by dsimp only;exact ⟨zbt _,rfl,zbq _⟩) ?_;intro fm hI;obtain ⟨i,xs⟩:=fm;replace hI:i<=T.length/\xs++lrn T (bdF T) (T.length - i) i=lrnT T/\xs.length<=i:=hI;show wc _ _ _ _ (uV (uO (uO (uV (uV uN 5 (tL 11 true tFa T)) 6 (tL 1 false tI (bdF T))) 7 (.sl 27 1 0 (bdF T).length)) 8 (.sl 8 1 0 xs.length)) 9 (tI i)) (uK (uK uN 27 9 1 false (rV tSt (nowA T (bdF T) i))) 8 3 1 false (rV tI xs)) _;obtain ⟨hi,hx,hxl⟩:=hI;refine A9 ?_;refine x9 rfl (fun h176=> ?_) (fun h176=> ?_)
  ·
   refine A6 ?_;refine RE (jr5 27 9 1 (bdF T).length [.own (.sl 27 1 0 (bdF T).length)] hrU (ji1 (nowA T (bdF T) i) (by rw [xr8];omega)) fi47 (fun _ h=>h) (xe9 xr8) xr8 ⟨.inr ⟨rfl,rfl⟩,trivial⟩ rfl) qA qA trivial ?_;refine A7 ?_;refine R2 (x5 sl33 (i) (by omega) (zai (l:=T) (n:=i) (d:=fa0))) rfl rfl (R1 (xa6 fo30_3.h (At.f 3 rfl rfl) rfl) rfl ?_);refine A6 ?_;refine cL (fun (j:Nat)=>i<=j/\j<=T.length/\ ∀q,i<=q->q < j->(T.getD q fa0).kn=(T.getD i fa0).kn) (fun (j:Nat)=>uV (uV (uV (uO (uO (uV (uV uN 5 (tL 11 true tFa T)) 6 (tL 1 false tI (bdF T))) 7 (.sl 27 1 0 (bdF T).length)) 8 (.sl 8 1 0 xs.length)) 9 (tI j)) 10 (tL 1 false tSt (nowA T (bdF T) i))) 11 (tI (T.getD i fa0).kn)) (fun (j:Nat)=>uK (uK uN 27 9 1 false (rV tSt (nowA T (bdF T) j))) 8 3 1 false (rV tI xs)) [27,8] (fun (j:Nat)=>T.length - j) (i) ⟨zbq _,hi,fun q h1 h2=>by omega⟩ ?_;intro j hI2;obtain ⟨hj1,hj2,hjk⟩:=hI2;have hx1:=zc8 (ds:=bdF T) (x:=(T.getD j fa0).lo);have hx2:=zc8 (ds:=bdF T) (x:=(T.getD j fa0).hi);refine A8 ?_;refine RGcaseD (t:=43) rfl (fun h179=> ?_) (fun h179=> ?_)
   ·
    refine A2 ?_;refine Rg (zbf h179) rfl (x5 sl33 (j) (by omega) (zai (l:=T) (n:=j) (d:=fa0))) rfl ⟨rfl,rfl,trivial⟩ (Rg (zbf h179) rfl (xa6 fo30_3.h (At.f 3 rfl rfl) rfl) rfl ⟨rfl,trivial⟩ ?_);refine A6 ?_;refine x9 rfl (fun h179_2=> ?_) (fun h179_2=> ?_)
    ·
     refine A8 ?_;refine R2 (x5 sl33 (j) (by omega) (zai (l:=T) (n:=j) (d:=fa0))) rfl rfl ?_;refine A1 ?_;refine R1 (x4 (c_text (T.getD j fa0) (hXT _ (xe4 (by omega)))) fi48 rfl) rfl ?_;refine A8 ?_;refine R2 (x5 sl33 (j) (by omega) (zai (l:=T) (n:=j) (d:=fa0))) rfl rfl ?_;refine A1 ?_;refine R2 (x4 (qn3 (bdF T) (T.getD j fa0) xh9 (by omega)) fi49 rfl) rfl rfl ?_;refine A14 ?_;refine cL (fun (p:Nat)=>(ixD (bdF T) (T.getD j fa0).lo)<=p/\(p<=(ixD (bdF T) (T.getD j fa0).hi)∨p=(ixD (bdF T) (T.getD j fa0).lo))) (fun (p:Nat)=>uV (uV (uV (uV (uV (uV (uO (uO (uV (uV uN 5 (tL 11 true tFa T)) 6 (tL 1 false tI (bdF T))) 7 (.sl 27 1 0 (bdF T).length)) 8 (.sl 8 1 0 xs.length)) 9 (tI j)) 10 (tL 1 false tSt (nowA T (bdF T) i))) 11 (tI (T.getD i fa0).kn)) 12 (tSt (txt (T.getD j fa0)))) 14 (tI (ixD (bdF T) (T.getD j fa0).hi))) 15 (tI p)) (fun (p:Nat)=>uK (uK uN 27 9 1 false (rV tSt (nowL T (bdF T) j p))) 8 3 1 false (rV tI xs)) [27,8] (fun (p:Nat)=>(ixD (bdF T) (T.getD j fa0).hi) - p) ((ixD (bdF T) (T.getD j fa0).lo)) ⟨zbq _,.inr rfl⟩ (hh:=(SubK.cons rfl ((zaq rfl (zat (by rw [qs9 xh9 (by omega)]))) zax))) ?_;intro p hI3;obtain ⟨hp1,hp2⟩:=hI3;refine A8 ?_;refine x9 rfl (fun h182=> ?_) (fun h182=> ?_)
     ·
      refine A8 ?_;refine R2 (zag sl32 rfl) rfl rfl (RE (xc1 (p) ti9 (xi5 (by rw [jt8];omega)) (by omega) (xf0 (m:=(txt (T.getD j fa0))) rfl)) qB qA trivial ?_);refine A8 ?_;exact kF (p+1) ⟨⟨by omega,.inl (by omega)⟩,(by omega)⟩ (hh:=(SubK.cons rfl ((zaq rfl (zat (by rw [jp6 xh9 (by omega) (by omega) hp1 (by omega)]))) zax)))
     ·
      refine A11 ?_;exact xf5 (j+1) ⟨⟨by omega,by omega,fun q h1 h2=>by
  by_cases hqj:q=j
  ·subst hqj;exact h179_2
  ·exact hjk q h1 (by omega)⟩,(by omega)⟩ (zae rfl (zan rfl (zae rfl (zan rfl (zan rfl (zan rfl (zan rfl zay))))))) (SubK.cons rfl ((zaq rfl (zat (by rw [jp5 xh9 (by omega) hp1 (by omega)]))) zax)) (zaj (zaj (zaj (zak rfl (zak rfl (zaj (zaj zar))))))) (zam rfl (supJ x6) (zam rfl (supJ x6) zaz)) (lkOk rfl)
    ·
     refine A9 ?_;refine RE (yb3 27 9 1 (bdF T).length [.val _,.own (.sl 27 1 0 (bdF T).length)] (fun _ _ _ _ h=>h) (zs2 (nowA T (bdF T) i) (nowA T (bdF T) j)) fi50 (fun _ h=>h) (xe9 xr8) xr8 ⟨.inl rfl,.inr ⟨rfl,rfl⟩,trivial⟩ rfl) qB qA trivial ?_;refine A3 ?_;refine yq7 rfl (fun h186=> ?_) (fun h186=> ?_)
     ·
      refine A3 ?_;refine R1 (xc2 (n:=1) (f:=fun n:Int=>tI n) [(T.getD i fa0).kn] zgq el3 zf3 rfl (fun _=>inferInstance) rfl rfl rfl) rfl (RE (xb3 (k:=8) (k':=85) (f:=fun n:Int=>tI n) (ys:=[(T.getD i fa0).kn]) (ts':=rV tI (xs++[(T.getD i fa0).kn])) zgq el3 zf3 rfl rfl (fun _=>inferInstance) xc0 (by simp;omega) (by simp;omega) (by simp [rV]) (n':=xs.length+1) rfl) qB qA qA ?_);refine A3 ?_;have hij:i < j:=by
       rcases zcb i j with h | h
       ·exact h
       ·exfalso;have hji:j=i:=by omega
        subst hji
        first | omega | exact h179_2 rfl
      have hgj:grpE T i=j:=zf6 (by omega) hj2 hjk (by first | exact .inl (by omega) | exact .inr h179_2);have hls:=yd2 (T:=T) (ds:=bdF T) (i:=i) (by omega);rw [hgj] at hls;rw [if_neg h186] at hls;exact xe3 (l:=[27,8]) (zab 8 85) ((j,xs++[(T.getD i fa0).kn])) ⟨(by dsimp only;exact ⟨hj2,by rw [hls] at hx;simpa [List.append_assoc] using hx,by rw [zbm];simp;omega⟩),(by dsimp only;omega)⟩ (zaf rfl ((zbc rfl (zaw (by dsimp only;rw [zbm];rfl))) (zas rfl (zas rfl (zas rfl zbd))))) ((zbb rfl (zat x8.symm)) ((zbb rfl (zat x8.symm)) zbe)) (zaj (zak rfl (zak rfl (zaj (zaj zar))))) (zam rfl (supJ x6) (zam rfl (supJ x6) zaz)) (lkOk rfl) rfl rfl (fun _ h=>by cases h)
     ·
      refine A2 ?_;have hij:i < j:=by
       rcases zcb i j with h | h
       ·exact h
       ·exfalso;have hji:j=i:=by omega
        subst hji
        first | omega | exact h179_2 rfl
      have hgj:grpE T i=j:=zf6 (by omega) hj2 hjk (by first | exact .inl (by omega) | exact .inr h179_2);have hls:=yd2 (T:=T) (ds:=bdF T) (i:=i) (by omega);rw [hgj] at hls;rw [if_pos h186] at hls;exact kF ((j,xs)) ⟨(by dsimp only;exact ⟨hj2,by rw [hls] at hx;simpa using hx,by omega⟩),(by dsimp only;omega)⟩
   ·
    refine A18 ?_;refine A2 ?_;refine RE (yb3 27 9 1 (bdF T).length [.val _,.own (.sl 27 1 0 (bdF T).length)] (fun _ _ _ _ h=>h) (zs2 (nowA T (bdF T) i) (nowA T (bdF T) j)) fi50 (fun _ h=>h) (xe9 xr8) xr8 ⟨.inl rfl,.inr ⟨rfl,rfl⟩,trivial⟩ rfl) qB qA trivial ?_;refine A3 ?_;refine yq7 rfl (fun h186=> ?_) (fun h186=> ?_)
    ·
     refine A3 ?_;refine R1 (xc2 (n:=1) (f:=fun n:Int=>tI n) [(T.getD i fa0).kn] zgq el3 zf3 rfl (fun _=>inferInstance) rfl rfl rfl) rfl (RE (xb3 (k:=8) (k':=85) (f:=fun n:Int=>tI n) (ys:=[(T.getD i fa0).kn]) (ts':=rV tI (xs++[(T.getD i fa0).kn])) zgq el3 zf3 rfl rfl (fun _=>inferInstance) xc0 (by simp;omega) (by simp;omega) (by simp [rV]) (n':=xs.length+1) rfl) qB qA qA ?_);refine A3 ?_;have hij:i < j:=by
      rcases zcb i j with h | h
      ·exact h
      ·exfalso;have hji:j=i:=by omega
       subst hji
       first | omega | exact h179_2 rfl
     have hgj:grpE T i=j:=zf6 (by omega) hj2 hjk (by first | exact .inl (by omega) | exact .inr h179_2);have hls:=yd2 (T:=T) (ds:=bdF T) (i:=i) (by omega);rw [hgj] at hls;rw [if_neg h186] at hls;exact xe3 (l:=[27,8]) (zab 8 85) ((j,xs++[(T.getD i fa0).kn])) ⟨(by dsimp only;exact ⟨hj2,by rw [hls] at hx;simpa [List.append_assoc] using hx,by rw [zbm];simp;omega⟩),(by dsimp only;omega)⟩ (zaf rfl ((zbc rfl (zaw (by dsimp only;rw [zbm];rfl))) (zas rfl (zas rfl (zas rfl zbd))))) ((zbb rfl (zat x8.symm)) ((zbb rfl (zat x8.symm)) zbe)) (zaj (zak rfl (zak rfl (zaj (zaj zar))))) (zam rfl (supJ x6) (zam rfl (supJ x6) zaz)) (lkOk rfl) rfl rfl (fun _ h=>by cases h)
    ·
     refine A2 ?_;have hij:i < j:=by
      rcases zcb i j with h | h
      ·exact h
      ·exfalso;have hji:j=i:=by omega
       subst hji
       first | omega | exact h179_2 rfl
     have hgj:grpE T i=j:=zf6 (by omega) hj2 hjk (by first | exact .inl (by omega) | exact .inr h179_2);have hls:=yd2 (T:=T) (ds:=bdF T) (i:=i) (by omega);rw [hgj] at hls;rw [if_pos h186] at hls;exact kF ((j,xs)) ⟨(by dsimp only;exact ⟨hj2,by rw [hls] at hx;simpa using hx,by omega⟩),(by dsimp only;omega)⟩
  ·
   refine A8 ?_;refine RE (yh8 (f:=tI) (xs:=xs) (up w.heap.size) (fun _ h=>h) (fun _=>Free.E) (fun _ h=>h) (xe9 rfl) rfl) qA qA trivial ?_;refine A3 ?_;exact E1 rfl rfl (Le.of (by rw [hrA,<-hx,show T.length - i=0 by omega];simp [lrn]))
theorem yg3 (xs:List ByteArray) (i:Nat) (h:i < xs.length):xs.take (i+1)=xs.take i++[xs.getD i .empty]:=by
 rw [zca h,zbh,zbi h];rfl
theorem qe6 (xs ys:List ByteArray):
  Ct Tryz.prog 30 [tL 1 false tSt xs,tL 1 false tSt ys] (tB (decide (xs=ys))):=by
 refine Ct.intro func30 rfl ntmps30 rfl ?_;intro w F;refine xg9 (s:=0) rfl (fun hl0=> ?_);refine A15 ?_;refine x9 rfl (fun h45=> ?_) (fun h45=> ?_)
 ·
  refine A7 ?_;exact E1 rfl rfl (zau (zbg (fun h=>by rw [h] at h45;omega)).symm)
 ·
  have hll:xs.length=ys.length:=by omega
  refine A9 ?_;refine cL (fun (i:Nat)=>i<=xs.length/\xs.take i=ys.take i) (fun (i:Nat)=>uV (uV (uV uN 0 (tL 1 false tSt xs)) 1 (tL 1 false tSt ys)) 5 (tI i)) (fun (i:Nat)=>fun _=>none) [] (fun (i:Nat)=>xs.length - i) (0) ⟨zbt _,rfl⟩ ?_;intro i hI;obtain ⟨hi,ht⟩:=hI;refine A9 ?_;refine x9 rfl (fun h48=> ?_) (fun h48=> ?_)
  ·
   refine A8 ?_;refine R2 (x5 sl32 i (by omega) (gD (d:= .empty) (by omega))) rfl rfl ?_;refine A3 ?_;refine R2 (x5 sl32 i (by omega) (gD (d:= .empty) (by omega))) rfl rfl ?_;refine A1 ?_;refine R2 (qw9) rfl rfl ?_;refine A2 ?_;refine x9 rfl (fun h49=> ?_) (fun h49=> ?_)
   ·
    refine A11 ?_;exact E1 rfl rfl (zau (zbg (fun h=>by rw [h] at h49;exact (h49 rfl))).symm)
   ·
    refine A8 ?_;exact kF (i+1) ⟨⟨by omega,by rw [yg3 xs i (by omega),yg3 ys i (by omega),ht,show xs.getD i .empty=ys.getD i .empty from (Decidable.of_not_not h49)]⟩,(by omega)⟩
  ·
   refine A11 ?_;exact E1 rfl rfl (zau (zbf (by rw [show i=xs.length by omega,zcf,hll,zcf] at ht;exact ht)).symm)
theorem zt6 (xs ys:List ByteArray) (e:xs=ys):Ct Tryz.prog 30 [tL 1 false tSt xs,tL 1 false tSt ys] (tB true):=by
 have h:=qe6 xs ys;rw [zbf e] at h;exact h
theorem ja4 (u v:List Sn) (e:u=v):Ct Tryz.prog 32 [tL 2 true tSn u,tL 2 true tSn v] (tB true):=by
 have h:=yt5 u v;rw [zbf e] at h;exact h
theorem jd2 (u w:List Int) (e:u=w):Ct Tryz.prog 33 [tL 1 false tI u,tL 1 false tI w] (tB true):=by
 have h:=zc3 u w;rw [zbf e] at h;exact h
theorem wh3 (a:List Fa) (key:ByteArray) (k1 k2:Int) (hl:a.length<=60) (hD: ∀f∈a,f.v.f.dig) (hE: ∀f∈a,f.v.f.dgs) (hs: ∀f∈a,f.v.f.n.l.length<=1200/\f.v.f.d.l.length<=1200) {D B:Int} (hq:recOk a=true->gR D B a) (hX: ∀f∈a,f.gone=false->txOk f.v):
  Ct Tryz.prog 6 [tL 11 true tFa a,tSt key,tI k1,tI k2] (tB true):=by
 refine Ct.introO func6 rfl ntmps6 rfl ?_;intro w F;refine A8 ?_;refine R1 (xm0 (ts:=[_]) (r:=tG (up w.heap.size) _) (ym4 a hl (fun f hf=>by have:=hs f hf;omega)) fi15 (fun m hm=>xu6 hm) ⟨ye5,trivial⟩ rfl) rfl ?_;refine A4 ?_;refine qc1 (W:=tFsW a) 99 9 (g':=fun v=>uV (uV (uV (uV (uV (uV uN 0 (tL 11 true tFa a)) 1 (tSt key)) 2 (tI k1)) 3 (tI k2)) 8 (tB false)) 9 (tE v)) (h':=fun _=>none) rfl rfl (fun _ L hL=>SlC.cons rfl .cst (SlC.cons rfl (.val xf9) (SlC.cons rfl (.val xf9) (SlC.cons rfl (.val xf9) (SlC.cons rfl (.val xf9) (SlC.cons rfl (.val (jj0 hL)) (SlC.nil))))))) (fun _ _ _ _=>KyC.nil) ?_;intro Lx Ly w1 v hv hL hdj;have hv':(tFsW a).p (fun b=>Lx b∨Ly b) w1 v:=(tFsW a).mono hv fun b _ hb hl _=>⟨.inl hb,hl⟩
 refine A5 ?_;refine RE (xr3 (T:=140) (us':=[tE v,tSt key,tI k1,tI k2]) (r:=tT [tL 2 true tSn (rdA a key k1 k2),tI (rE a)]) OvC.mk' (qa7 a key (by omega) (fun f hf=>by have:=hs f hf;omega) hE k1 k2 hq) fi24 hrT ⟨.inr ⟨_,rfl,xz8 _ _ _ hv'⟩,.inl zao,.inl zao,.inl zao,trivial⟩ rfl) qD qA trivial ?_;refine A13 ?_;refine Rt (x4 (zs5 a key k1 k2 (by omega) (fun f hf=>by have:=hs f hf;omega) hD hq) fi25 rfl) qD ?_;refine A10 ?_;refine RE (xr3 (T:=140) (us':=[tE v]) (r:=tL 1 false tSt (rkB a)) OvC.mk' (jz2 a (by omega) (fun f hf=>by have:=hs f hf;omega) hE hq) fi26 hrG ⟨.inr ⟨_,rfl,xz8 _ _ _ hv'⟩,trivial⟩ rfl) qA qA trivial ?_;refine A2 ?_;refine RE (xr3 (T:=140) (us':=[tE v,tSt key]) (r:=tL 1 false tI (lrnA a key)) OvC.mk' (yn7 a key (by omega) hE hX) fi12 hrG ⟨.inr ⟨_,rfl,xz8 _ _ _ hv'⟩,.inl zao,trivial⟩ rfl) qB qA trivial ?_;refine A11 ?_;refine Rg (zbg (by simp)) rfl xa3 rfl qA (RGon (zbg (by simp)) rfl (xr3 (T:=140) (us':=[tE v]) (r:=tB (recOk a)) (rr:=fun _=>tB (recOk a)) OvC.mk' (xk1 a hE) fi11 (hrE fun _=>rfl) ⟨.inr ⟨_,rfl,xz8 _ _ _ hv'⟩,trivial⟩ rfl) rfl qA qA trivial (Rg (zbg (by simp)) rfl xa3 rfl qA (Rg (zbg (by simp)) rfl (x4 (xt3 a (by omega) (fun f hf=>by have:=hs f hf;omega) hD) fi27 rfl) rfl qA (Rg (zbg (by simp)) rfl (zu1 zgm) rfl qB (R2 (xc4 (zbg (by simp))) rfl rfl ?_)))));refine A1 ?_;refine Rg (by simp) rfl xa3 rfl qA (Rg (by simp) rfl xa3 rfl qA (RGon (by simp) rfl (xr3 (T:=140) (us':=[tE v,tSt key]) (r:=tE (.int .u8 ((rkA a key:Nat):Int))) (rr:=fun _=>tE (.int .u8 ((rkA a key:Nat):Int))) OvC.mk' (wi5 a key (by omega) (fun f hf=>by have:=hs f hf;omega) hE) fi28 (hrE fun _=>rfl) ⟨.inr ⟨_,rfl,xz8 _ _ _ hv'⟩,.inl zao,trivial⟩ rfl) rfl qB qA trivial (Rg (by simp) rfl xa3 rfl qA (Rg (by simp) rfl xa3 rfl qA (Rg (by simp) rfl (x4 (jn9 a key (by omega) (fun f hf=>by have:=hs f hf;omega) hD) fi29 rfl) rfl qB (Rg (by simp) rfl zr4 rfl qB (R2 (xc4 (by simp)) rfl rfl ?_)))))));refine A1 ?_;refine Rg (zbg (by simp)) rfl xa3 rfl qA (Rg (zbg (by simp)) rfl xa3 rfl qA (Rg (zbg (by simp)) rfl (x4 (ju0 a (by omega) (fun f hf=>by have:=hs f hf;omega) hD) fi31 rfl) rfl qA (Rg (zbg (by simp)) rfl (x4 (zt6 _ _ rfl) fi30 rfl) rfl qB (Rg (zbg (by simp)) rfl xj9 rfl qA (R2 (xc4 (zbg (by simp))) rfl rfl ?_)))));refine A3 ?_;refine RGon rfl rfl (xr3 (T:=140) (us':=[tE v,tL 11 true tFa a]) (r:=tB true) (rr:=fun _=>tB true) OvC.mk' (yu2 a hl (fun f hf=>by have:=hs f hf;omega)) fi19 (hrE fun _=>rfl) ⟨.inr ⟨_,rfl,hv'⟩,.inl zao,trivial⟩ rfl) rfl qB qA trivial ?_;refine A10 ?_;refine RE (xs7 (us:=[tE v]) OvC.mk' (CtV.inX (yk8 Lx w1 a hl (fun f hf=>by have:=hs f hf;omega) v hv) hdj) fi20 ⟨Free.E,trivial⟩ rfl) qA qA trivial ?_;refine A6 ?_;refine R2 (x4 (ja4 _ _ rfl) fi32 rfl) rfl rfl ?_;refine A4 ?_;refine Rg rfl rfl (x4 (qu0 a key (by omega) (fun f hf=>by have:=hs f hf;omega) hD hq) fi34 rfl) rfl qB (Rg rfl rfl (x4 (jd2 _ _ rfl) fi33 rfl) rfl qB ?_);refine A5 ?_;exact jg0 (RBase.ov hL) trivial rfl rfl
end An.S
namespace An.S
open Go
abbrev kA:ByteArray:=⟨#[97]⟩
abbrev kB:ByteArray:=⟨#[98]⟩
abbrev kK:ByteArray:=⟨#[107]⟩
def okF (f:Fa):Prop:=f.v.f.dgs
theorem xv5 {n d:Int} (h1: -9223372036854775808<=n) (h2:n<=9223372036854775807) (h3:d<=9223372036854775807):(nV n d).f.dgs:=by
 rw [nV,kfr];refine ⟨ys1 _,?_⟩;split
 ·decide+kernel
 ·have e:=yo6 (n:=n) (d:=d) (by omega);have e1:(wh (Rat.divInt n d).num).l.length=(wh (n / (Int.gcd n d:Int))).l.length:=congrArg (fun f:Fr=>f.n.l.length) e;have e2:(wh ((Rat.divInt n d).den:Int)).l.length=(wh (d / (Int.gcd n d:Int))).l.length:=congrArg (fun f:Fr=>f.d.l.length) e;refine ⟨?_,?_⟩
  ·show (wh (Rat.divInt n d).num).l.length<=4;rw [e1];exact len16_div (len16_64 h1 h2)
  ·show (wh ((Rat.divInt n d).den:Int)).l.length<=4;rw [e2];exact len16_div (len16_64 (by omega) h3)
theorem nV_g {n d:Int} (h1: -9223372036854775807<=n) (h2:n<=9223372036854775807) (h3:d<=9223372036854775807):gOk 2 (if d < 1 then 1 else d) 9223372036854775807 (nV n d):=by
 have e:kfr n d=Rat.divInt (if d < 1 then 0 else n) (if d < 1 then 1 else d):=by
  rw [kfr];split
  ·rfl
  ·rfl
 rw [nV,e];exact gOk.mk (.inl rfl) (by split <;> omega) (by split <;> omega) (by split <;> omega) (by split <;> omega) (by decide)
def okA (a:List Fa):Prop:=(∀f∈a,okF f/\(f.gone=false->txOk f.v))/\ ∃D B,recOk a=true->gR D B a
theorem gR_of {D B:Int} {a:List Fa} (hr:recOk a=true) (h: ∀f∈a,f.gone=false->gOk 2 D B f.v/\txOk f.v):gR D B a:=by
 have hr2:=hr;rw [recOk,zbv,zbv] at hr;refine ⟨zdt hr.1.1,fun f hf=> ?_⟩;have h1:=zdk.1 hr.1.2 f hf;rw [fRight] at h1;simp only [zbv,zbw] at h1;obtain ⟨⟨⟨⟨⟨⟨⟨p1,p2⟩,p3⟩,p4⟩,p5⟩,p6⟩,p7⟩,p8⟩:=h1;refine ⟨⟨⟨⟨p1,p2⟩,p3,p4,p5⟩,p6,p7⟩,?_⟩;split
 ·next hg=>rw [if_pos hg] at p8;exact zdt p8
 ·next hg=>exact h f hf (by simpa using hg)
theorem zd9 {D B:Int} {a:List Fa} (h1: ∀f∈a,okF f) (h2: ∀f∈a,f.gone=false->gOk 2 D B f.v/\txOk f.v):okA a:=⟨fun f hf=>⟨h1 f hf,fun hg=>(h2 f hf hg).2⟩,D,B,fun hr=>gR_of hr h2⟩
theorem zg9 {f:Fa} {n d:Int} (h1: -9223372036854775807<=n) (h2:n<=9223372036854775807) (h3:d<=9223372036854775807) (h:f.v=nV n d) (ht:txOk (nV n d)):okA [f]:=
 zd9 (fun g hg=>by rw [zbj.1 hg,okF,h];exact xv5 (by omega) h2 h3) fun g hg _=>by rw [zbj.1 hg,h];exact ⟨nV_g h1 h2 h3,ht⟩
theorem okF0 {k:ByteArray} {a b c i:Int} {g:Bool} {n:Nat}:okF ⟨k,a,b,c,g,⟨n,fr0,i⟩⟩:=⟨⟨fun x hx=>(by cases hx),fun x hx=>(by cases hx)⟩,zbt _,zbt _⟩
theorem jo7 {k:ByteArray} {a b c i:Int} {n:Nat}:okA [⟨k,a,b,c,true,⟨n,fr0,i⟩⟩]:=
 zd9 (D:=1) (B:=1) (fun g hg=>by rw [zbj.1 hg];exact okF0) fun g hg h=>by rw [zbj.1 hg] at h;cases h
theorem qk9 {a:List Fa} (h: ∀f∈a,okF f/\(f.gone=false->txOk f.v)) (hr:recOk a=false):okA a:=⟨h,1,1,fun h2=>by rw [hr] at h2;cases h2⟩
theorem wi2:okA []:=zd9 (D:=1) (B:=1) (fun f hf=>by cases hf) fun f hf=>by cases hf
theorem yc8 {x:Int} (h1:0<=x) (h2:x<=4):txOk (nV x 1):=by
 have h: ∀i:Fin 5,(nV (i.val:Int) 1).f.n.l.length < 10/\(nV (i.val:Int) 1).f.d.l.length < 10:=by decide+kernel
 have:=h ⟨x.toNat,by omega⟩;rw [show ((x.toNat:Nat):Int)=x by omega] at this;exact ⟨zea _,by show (0:Int) < 100;decide,this.1,this.2,ys1 _⟩
theorem tx0 {i:Int} {n:Nat} (h1:0<=i) (h2:i < 100):txOk ⟨n,fr0,i⟩:=⟨h1,h2,by show (0:Nat) < 10;decide,by show (0:Nat) < 10;decide,⟨fun x hx=>(by cases hx),fun x hx=>(by cases hx)⟩⟩
theorem ok3 {l:List Fa} (h: ∀f∈l,(f.gone=true/\f.v=An.va0)∨ ∃x:Int,(0<=x/\x<=4)/\f.v=nV x 1):okA l:=by
 refine zd9 (D:=1) (B:=9223372036854775807) (fun f hf=> ?_) fun f hf hg=> ?_
 ·rcases h f hf with ⟨_,e⟩ | ⟨x,hx,e⟩
  ·rw [okF,e];exact okF0 (k:=kA) (a:=0) (b:=0) (c:=0) (g:=true)
  ·rw [okF,e];exact xv5 (by omega) (by omega) (by decide)
 ·rcases h f hf with ⟨h2,_⟩ | ⟨x,hx,e⟩
  ·rw [hg] at h2;cases h2
  ·rw [e];exact ⟨nV_g (d:=1) (by omega) (by omega) (by decide),yc8 hx.1 hx.2⟩
def P3 (f:Fa):Prop:=(f.gone=true/\f.v=An.va0)∨ ∃x:Int,(0<=x/\x<=4)/\f.v=nV x 1
theorem p3_n {k:ByteArray} {a b c:Int} (x:Int) (h:0<=x/\x<=4):P3 ⟨k,a,b,c,false,nV x 1⟩:= .inr ⟨x,h,rfl⟩
theorem p3_three {f g h:Fa} (a:P3 f) (b:P3 g) (c:P3 h): ∀x∈[f,g,h],P3 x:=fun x hx=>by
 simp only [zbr,zdf,or_false] at hx;rcases hx with rfl | rfl | rfl
 ·exact a
 ·exact b
 ·exact c
theorem p3_set {l:List Fa} {i:Nat} {f:Fa} (h: ∀x∈l,P3 x) (hf:P3 f): ∀x∈l.set i f,P3 x:=fun x hx=>(zfy hx).elim (h x) fun e=>e▸hf
def nums6:List Int:=[-9223372036854775808, -1,0,1,65535,65536,65537,9223372036854775807]
theorem nums6_len:nums6.length=8:=rfl
theorem nums6_bd {i:Nat} (h:i < 8):(-9223372036854775808<=nums6.getD i 0/\nums6.getD i 0<=9223372036854775807)/\txOk (nV 1 (nums6.getD i 0)):=by
 have: ∀i:Fin 8,(-9223372036854775808<=nums6.getD i.val 0/\nums6.getD i.val 0<=9223372036854775807)/\(nV 1 (nums6.getD i.val 0)).f.n.l.length < 10/\(nV 1 (nums6.getD i.val 0)).f.d.l.length < 10:=by decide+kernel
 have:=this ⟨i,h⟩;exact ⟨this.1,zea _,by show (0:Int) < 100;decide,this.2.1,this.2.2,ys1 _⟩
def lF (x y:Int) (k:Nat):List Fa:=[⟨kA,x,y,3,false,nV 1 1⟩,⟨kA,0,5,x,false,nV 1 y⟩,⟨kA,0,1+(k:Int),x,true,⟨k%2,fr0,0⟩⟩]
theorem lF_at {x y:Int} {k j:Nat} (hj:j < 3) (hy:y<=9223372036854775807) (ht:txOk (nV 1 y)):okA [(lF x y k).getD j fa0]:=by
 rcases (show j=0∨j=1∨j=2 by omega) with rfl | rfl | rfl
 ·exact zg9 (f:=⟨kA,x,y,3,false,nV 1 1⟩) (by decide) (by decide) (by decide) rfl (yc8 (by decide) (by decide))
 ·exact zg9 (f:=⟨kA,0,5,x,false,nV 1 y⟩) (by decide) (by decide) hy rfl ht
 ·exact jo7
def fM (i:Nat):Fa:=⟨kK,(i:Int)*3,(i:Int)*3+2,(i:Int)*7919%2000,false,nV ((i:Int)%5) 1⟩
def mF (n:Nat):List Fa:=(List.range n).map fM
theorem xu1 {n:Nat}:(mF n).length=n:=by simp [mF]
theorem yg6 {n:Nat} {f:Fa}:f∈mF n↔ ∃i:Nat,i < n/\fM i=f:=by simp [mF]
theorem yp8:gR 1 9223372036854775807 (mF 2000):=⟨by rw [xu1];decide,fun f hf=>by
 obtain ⟨i,hi,rfl⟩:=yg6.1 hf;refine ⟨⟨⟨⟨by show 1<=kK.size;decide,by show kK.size<=24;decide⟩,?_⟩,?_⟩,?_⟩
 ·show 0<=(i:Int)*3/\(i:Int)*3 < (i:Int)*3+2/\(i:Int)*3+2<=65536;omega
 ·show 0<=(i:Int)*7919%2000/\(i:Int)*7919%2000 < 65536;omega
 ·rw [if_neg (by show ¬false=true;decide)];exact ⟨nV_g (n:=(i:Int)%5) (d:=1) (by omega) (by omega) (by decide),yc8 (by omega) (by omega)⟩⟩
theorem jj9:recOk (mF 2001)=false:=by rw [recOk,xu1];rfl
theorem yn2 {n:Nat}: ∀f∈mF n,okF f:=fun f hf=>by
 obtain ⟨i,_,rfl⟩:=yg6.1 hf;exact xv5 (n:=(i:Int)%5) (d:=1) (by omega) (by omega) (by decide)
theorem zi9 {K:Int} {f:Fa}:f∈toldT (mF 2000) kK K↔ ∃i:Nat,i < 2000/\(i:Int)*7919%2000<=K/\fM i=f:=by
 rw [xv8,yg6];constructor
 ·rintro ⟨⟨i,hi,rfl⟩,_,h⟩;exact ⟨i,hi,h,rfl⟩
 ·rintro ⟨i,hi,h,rfl⟩;exact ⟨⟨i,hi,rfl⟩,rfl,h⟩
theorem jd3 {K d:Int} {i:Nat} (hi:i < 2000) (hk:(i:Int)*7919%2000<=K) (hd:(i:Int)*3<=d/\d < (i:Int)*3+2):gF (toldT (mF 2000) kK K) d=some (nV ((i:Int)%5) 1):=by
 have hm:fM i∈toldT (mF 2000) kK K:=zi9.2 ⟨i,hi,hk,rfl⟩;rw [gF];cases hl:lastF (toldT (mF 2000) kK K) d with
 | none=>
  rw [lastF,List.getLast?_eq_none_iff,List.filter_eq_nil_iff] at hl;exact absurd (xq1.2 hd) (hl _ hm)
 | some g=>
  obtain ⟨h1,h2,h3⟩:=xj2 hl;obtain ⟨j,_,_,rfl⟩:=zi9.1 h1;have h2:(j:Int)*3<=d:=h2;have h3:d < (j:Int)*3+2:=h3;have e:j=i:=by omega
  subst e;rfl
theorem qm6 {K d:Int} (h: ∀i:Nat,i < 2000->(i:Int)*7919%2000<=K-> ¬((i:Int)*3<=d/\d < (i:Int)*3+2)):gF (toldT (mF 2000) kK K) d=none:=by
 rw [gF,xo4 fun f hf=> ?_]
 ·rfl
 ·obtain ⟨i,hi,hk,rfl⟩:=zi9.1 hf;exact h i hi hk
def vM (n:Nat):List Tst:=(List.range n).map fun (i:Nat)=>⟨(i:Int)*3,(i:Int)*3+2,nV ((i:Int)%5) 1⟩
theorem jk0: ∀{l:List Tst},l.Pairwise (fun s t=>s.hi < t.lo)->nbT l
 | [],_=>trivial
 | [_],_=>trivial
 | s::t::r,h=>by
  have h1:=zcg.1 h;exact ⟨fun e=>by have:=h1.1 t (zby ..);omega,jk0 h1.2⟩
theorem jn1 {n:Nat}:(vM n).Pairwise (fun s t=>s.hi < t.lo):=List.pairwise_map.2 (List.pairwise_lt_range.imp fun {i j} h=>by show (i:Int)*3+2 < (j:Int)*3;omega)
theorem wb9:vwT (toldT (mF 2000) kK 65536)=vM 2000:=by
 refine za8 (xn9 _).1 (xn9 _).2 ⟨fun s hs=> ?_,jn1.imp fun h=>Int.le_of_lt h⟩ (jk0 jn1) fun d=> ?_
 ·obtain ⟨i,_,rfl⟩:=zci.1 hs;show (i:Int)*3 < (i:Int)*3+2;omega
 ·rw [xi9];cases hv:valT (vM 2000) d with
  | none=>
   rw [xm5] at hv;exact qm6 fun i hi _=>hv _ (zci.2 ⟨i,zcx.2 hi,rfl⟩)
  | some v=>
   obtain ⟨s,hs,hd,rfl⟩:=xz7 hv;obtain ⟨i,hi,rfl⟩:=zci.1 hs;exact jd3 (zcx.1 hi) (by omega) hd
theorem mF_lrI:lrI (mF 2000) kK 1999 ((List.range 2000).map fun (i:Nat)=>(i:Int)):=by
 refine ⟨List.pairwise_map.2 (List.pairwise_lt_range.imp fun {i j} h=>by omega),fun x=>⟨fun hx=> ?_,fun ⟨_,⟨f,hf,_,hk⟩,_⟩=> ?_⟩⟩
 ·obtain ⟨j,hj,rfl⟩:=zci.1 hx;have hj:=zcx.1 hj;have hi:j*1679%2000 < 2000:=zfb _ (by decide);have hk:((j*1679%2000:Nat):Int)*7919%2000=j:=by omega
  refine ⟨by omega,⟨fM (j*1679%2000),yg6.2 ⟨_,hi,rfl⟩,rfl,hk⟩,fun e=> ?_⟩;generalize j*1679%2000=i at*
  have h1:=jd3 (K:=j) (d:=(i:Int)*3) hi (by omega) ⟨zea _,by omega⟩;have h2:=qm6 (K:=(j:Int) - 1) (d:=(i:Int)*3) fun q _ hq hd=>by
   have e:q=i:=by omega
   subst e;omega
  rw [<-xi9,<-e,xi9,h2] at h1;cases h1
 ·obtain ⟨i,hi,rfl⟩:=yg6.1 hf;have hk:(i:Int)*7919%2000=x:=hk;exact zci.2 ⟨x.toNat,zcx.2 (by omega),by omega⟩
theorem jr1:(lrnA (mF 2000) kK).length=2000:=by
 rw [lrnA,if_pos yp8.rec,<-jk2 yp8 mF_lrI (by decide) ?_]
 ·simp
 ·rcases zr2 (a:=mF 2000) (key:=kK) (k:=1999) (mF 2000).length with h | ⟨j,hj,_,h3⟩
  ·exact h
  ·have h1:=(zd1 (a:=mF 2000) (key:=kK) (k:=1999) (by decide) (mF 2000).length).2;obtain ⟨i,_,hi⟩:=yg6.1 (xe4 hj);rw [<-h3,<-hi] at h1;have h1:(1999:Int) < (i:Int)*7919%2000:=h1;omega
def mR (i:Nat):List Fa:=mF i++List.replicate (2001 - i) fa0
theorem mR_len {i:Nat} (h:i<=2001):(mR i).length=2001:=by rw [mR,zbm,xu1,List.length_replicate];omega
theorem mR_set {i:Nat} (h:i < 2001):(mR i).set i (fM i)=mR (i+1):=by
 obtain ⟨m,hm⟩: ∃m,2001 - i=m+1:=⟨2000 - i,by omega⟩
 rw [mR,mR,hm,List.set_append_right _ _ (by rw [xu1];exact zbq _),xu1,Nat.sub_self,List.replicate_succ,List.set_cons_zero,show 2001 - (i+1)=m by omega,mF,mF,List.range_succ,zez,zdg];rfl
theorem wg5:mR 0=List.replicate 2001 fa0:=by simp [mR,mF]
theorem mR_all:mR 2001=mF 2001:=by rw [mR];simp
theorem w7:(mF 2001).take 2000=mF 2000:=by rw [mF,<-List.map_take,List.take_range];rfl
end An.S
namespace An.S
open Go Go.Proofs An Tryz
instance fi5:FnI Tryz.prog 5:=⟨_,func5,by kernel_rfl,rfl⟩
instance fi6:FnI Tryz.prog 6:=⟨_,func6,by kernel_rfl,rfl⟩
instance fi7:FnI Tryz.prog 7:=⟨_,func7,by kernel_rfl,rfl⟩
instance fi13:FnI Tryz.prog 13:=⟨_,func13,by kernel_rfl,rfl⟩
theorem yr2: ∀f∈exF,f.v.f.dgs:=fun f hf=>by
 simp only [exF,zbr,zdf,or_false] at hf;rcases hf with rfl | rfl | rfl
 ·exact xv5 (by decide) (by decide) (by decide)
 ·exact xv5 (by decide) (by decide) (by decide)
 ·exact okF0 (k:=kA) (a:=0) (b:=0) (c:=0) (g:=true)
theorem vaE_le {n:Nat} {v:Va}:Le (tVaE n v) (tVa v):=fun _ _ _ ⟨_,_,h⟩=>ze2 _ _ _ h
theorem zi8 (a:List Fa) (key:ByteArray) (kn:Int) (hl:a.length<=100000) (hS:smF a) (hD: ∀f∈a,f.v.f.dgs):Ct Tryz.prog 10 [tL 11 true tFa a,tSt key,tI kn] (tT [tL 8 true tTs (if recOk a=true then vwT (toldT a key kn) else []),tI (if recOk a=true then 0 else 2)]):=
 CtX.toCt (ts:=[_,_,_]) (zi0 a key kn hl hS hD) fun _ _ h=>⟨qe0 h.1,zba h.2.1⟩
theorem zb5 (kn:Int) (l:List Tst) (e:vwT (toldT exF kFte kn)=l):Ct Tryz.prog 10 [tL 11 true tFa exF,tSt kFte,tI kn] (tT [tL 8 true tTs l,tI 0]):=by
 have h:=zi8 exF kFte kn (by decide) xj7.sm yr2;rw [if_pos xj7.rec,if_pos xj7.rec,e] at h;exact h
theorem ji0 (d kn:Int) (o:Option Va) (e:gF (toldT exF kFte kn) d=o):Ct Tryz.prog 17 [tL 11 true tFa exF,tSt kFte,tI d,tI kn] (tT [tVa (o.getD An.va0),tB o.isSome]):=by
 have h:=(ji8 exF kFte d kn (by decide) xj7.sm yr2).toCt (r:=tT [tVa ((atF exF kFte d kn).getD An.va0),tB (atF exF kFte d kn).isSome]) fun _=>le_T ⟨vaE_le,zao,trivial⟩;rw [atF,if_pos xj7.rec,e] at h;exact h
theorem c_exDB:Ct Tryz.prog 24 [tL 11 true tFa exF,tSt kFte,tI 50,tI 80] (tT [tL 2 true tSn [⟨50,70⟩],tI 0]):=by
 have h:=(qa7 exF kFte (by decide) xj7.sm yr2 50 80 fun _=>xj7).toCt (r:=tT [tL 2 true tSn (rdA exF kFte 50 80),tI (rE exF)]) fun _=>le_T ⟨ye5,zao,trivial⟩;rw [rdA,rE,if_pos xj7.rec,if_pos xj7.rec,ye3 xj7,ye3 xj7,exDf] at h;exact h
theorem c_exLB:Ct Tryz.prog 12 [tL 11 true tFa exF,tSt kFte] (tL 1 false tI [10,50,80]):=by
 have h:=(yn7 exF kFte (by decide) yr2 xj7.tx).toCt (r:=tL 1 false tI (lrnA exF kFte)) fun _=>ye5;rw [lrnA,if_pos xj7.rec,exLr] at h;exact h
theorem xz4 (a:List Fa) (key:ByteArray) (d kn:Int) (hl:a.length<=60) (h:okA a):Ct Tryz.prog 5 [tL 11 true tFa a,tSt key,tI d,tI kn] (tB true):=ju8 a key d kn hl (fun f hf=>(h.1 f hf).1.1) (fun f hf=>(h.1 f hf).1) fun f hf=>by have:=(h.1 f hf).1.2;omega
theorem xw3 (a:List Fa) (key:ByteArray) (d kn:Int) (hl:a.length<=60) (h:okA a):Ct Tryz.prog 6 [tL 11 true tFa a,tSt key,tI d,tI kn] (tB true):=by
 obtain ⟨h1,D,B,hq⟩:=h;exact wh3 a key d kn hl (fun f hf=>(h1 f hf).1.1) (fun f hf=>(h1 f hf).1) (fun f hf=>by have:=(h1 f hf).1.2;omega) hq fun f hf=>(h1 f hf).2
theorem jo5 (key:ByteArray) (d kn:Int):Ct Tryz.prog 6 [tE (.slice none 0 0),tSt key,tI d,tI kn] (tB true):=fun Fd w vs hv=>
 xw3 [] key d kn (by simp) wi2 Fd w vs (LeL.all (ts:=[_,_,_,_]) ⟨leNil rfl,zao,zao,zao,trivial⟩ hv)
theorem wb0 {m:List Fa} {v:List Tst} (e:m=mF 2000) (ev:v=vM 2000):Ct Tryz.prog 10 [tL 11 true tFa m,tSt kK,tI 65536] (tT [tL 8 true tTs v,tI 0]):=by
 subst e ev;have h:=zi8 (mF 2000) kK 65536 (by rw [xu1];decide) yp8.sm yn2;rw [if_pos yp8.rec,if_pos yp8.rec,wb9] at h;exact h
theorem ju1 {m:List Fa} (e:m=mF 2001):Ct Tryz.prog 10 [tL 11 true tFa m,tSt kK,tI 65536] (tT [tL 8 true tTs [],tI 2]):=by
 subst e;have h:=zi8 (mF 2001) kK 65536 (by rw [xu1];decide) (fun f hf=>by have:=(yn2 f hf).2;omega) yn2;rw [jj9] at h;exact h
theorem jo6 {m:List Fa} (e:m=mF 2001):Ct Tryz.prog 11 [tL 11 true tFa m] (tB false):=by
 subst e;have h:=xk1 (mF 2001) yn2;rw [jj9] at h;exact h
theorem jt2 {m:List Fa} {x:List Int} (e:m=mF 2000) (ex:x=lrnA (mF 2000) kK):Ct Tryz.prog 12 [tL 11 true tFa m,tSt kK] (tL 1 false tI x):=by
 subst e ex;exact (yn7 (mF 2000) kK (by rw [xu1];decide) yn2 yp8.tx).toCt fun _=>ye5
theorem jm0:
  Ct Tryz.prog 13 [] (tB true):=by
 refine Ct.intro func13 rfl ntmps13 rfl ?_;intro w F;refine A7 ?_;refine R0 (x4 qe4 fi51 rfl) ?_;refine A6 ?_;refine R3 (x4 (zb5 9 _ exV1) fi10 rfl) rfl rfl rfl ?_;refine A10 ?_;refine R3 (x4 (zb5 10 _ exV2) fi10 rfl) rfl rfl rfl ?_;refine A10 ?_;refine R3 (x4 (zb5 50 _ exV3) fi10 rfl) rfl rfl rfl ?_;refine A10 ?_;refine R3 (x4 (zb5 80 _ exV4) fi10 rfl) rfl rfl rfl ?_;refine A10 ?_;refine Rt (x4 c_exDB fi24 rfl) qD ?_;refine A10 ?_;refine Rt (x4 (ji0 55 79 _ exA1) fi17 rfl) qD ?_;refine A3 ?_;refine RE (xb8 (k:=12) (n:=6) (agg:=true) zr28.1 zr28.2 rfl) trivial trivial qA ?_;refine A7 ?_;refine Rt (x4 (ji0 55 80 _ exA2) fi17 rfl) qD ?_;refine A3 ?_;refine RE (xb8 (k:=14) (n:=6) (agg:=true) zr28.1 zr28.2 rfl) trivial trivial qA ?_;refine A18 ?_;refine Rg (zbg (by omega)) rfl xa3 rfl qA (Rg (zbg (by omega)) rfl (ya9 zgp) rfl qA (Rg (zbg (by omega)) rfl zr4 rfl qB (R2 (xc4 (zbg (by omega))) rfl rfl ?_)));refine A1 ?_;refine Rg (zbg (by decide)) rfl xa3 rfl qA (Rg (zbg (by decide)) rfl xj9 rfl qA (R2 (xc4 (zbg (by decide))) rfl rfl ?_));refine A5 ?_;refine Rg rfl rfl (x4 (qu9 1 2 (by decide) (by decide) (by decide) (by decide)) fi14 rfl) rfl qB (Rg rfl rfl (x4 (jq4 _ _ rfl) fi22 rfl) rfl qB ?_);refine A4 ?_;refine Rg rfl rfl (xd3 (r:=tS [⟨1,false,tI 50⟩,⟨1,false,tI 70⟩]) (ts:=[(0,tI 50),(1,tI 70)]) bu83 zr83.2 (Bc 0 rfl rfl rfl (Bc 1 rfl rfl rfl zao))) rfl qB (Rg rfl rfl (xc2 (n:=1) (f:=tSn) [(⟨50,70⟩:Sn)] zgn el83 zf83 rfl (fun _=>inferInstance) rfl rfl rfl) rfl qA (Rg rfl rfl (x4 (jw0 _ _ rfl) fi32 rfl) rfl qB ?_));refine A4 ?_;refine Rg rfl rfl (x4 c_exLB fi12 rfl) rfl qB (Rg rfl rfl (xc2 (n:=3) (f:=fun n:Int=>tI n) [10,50,80] zgq el3 zf3 rfl (fun _=>inferInstance) rfl rfl rfl) rfl qC (Rg rfl rfl (x4 (jn6 _ _ rfl) fi33 rfl) rfl qB ?_));refine A16 ?_;refine Rt (x4 (xr5 0 100 1 1 (by decide) (by decide) (by decide) (by decide)) fi52 rfl) qD (R1 (xc2 (n:=1) (f:=tTs) [(⟨0,100,nV 1 1⟩:Tst)] zgp el55 zf55 rfl (fun _=>inferInstance) rfl rfl rfl) rfl (R3 (xq0 (yu5 _ _ rfl) fi21 rfl) rfl rfl rfl ?_));refine A3 ?_;refine Rg rfl rfl (x4 (xr5 0 40 1 1 (by decide) (by decide) (by decide) (by decide)) fi52 rfl) rfl qD (Rg rfl rfl (x4 (xr5 40 60 1 2 (by decide) (by decide) (by decide) (by decide)) fi52 rfl) rfl qD (Rg rfl rfl (x4 (xr5 60 100 1 1 (by decide) (by decide) (by decide) (by decide)) fi52 rfl) rfl qD (Rg rfl rfl (xc2 (n:=3) (f:=tTs) [(⟨0,40,nV 1 1⟩:Tst),(⟨40,60,nV 1 2⟩:Tst),(⟨60,100,nV 1 1⟩:Tst)] zgp el55 zf55 rfl (fun _=>inferInstance) rfl rfl rfl) rfl qC (Rg rfl rfl (xq0 (yu5 _ _ rfl) fi21 rfl) rfl qC ?_))));refine A4 ?_;refine Rg rfl rfl (x4 (xr5 0 40 1 1 (by decide) (by decide) (by decide) (by decide)) fi52 rfl) rfl qD (Rg rfl rfl (x4 (xr5 40 50 1 2 (by decide) (by decide) (by decide) (by decide)) fi52 rfl) rfl qD (Rg rfl rfl (x4 (xr5 70 100 1 1 (by decide) (by decide) (by decide) (by decide)) fi52 rfl) rfl qD (Rg rfl rfl (xc2 (n:=3) (f:=tTs) [(⟨0,40,nV 1 1⟩:Tst),(⟨40,50,nV 1 2⟩:Tst),(⟨70,100,nV 1 1⟩:Tst)] zgp el55 zf55 rfl (fun _=>inferInstance) rfl rfl rfl) rfl qC (Rg rfl rfl (xq0 (yu5 _ _ rfl) fi21 rfl) rfl qC ?_))));refine A5 ?_;exact E1 rfl rfl zao
theorem qd2 (k:Nat) (i:Int):
  Ct Tryz.prog 7 [tE (.int .u8 (k:Int)),tI i] (tVa ⟨k,fr0,i⟩):=by
 refine Ct.intro func7 rfl ntmps7 rfl ?_;intro w F;refine A2 ?_;refine RE (xb8 (k:=4) (n:=6) (agg:=true) zr28.1 zr28.2 rfl) trivial trivial qA ?_;refine A6 ?_;refine R2 (xd3 (r:=tS [⟨1,false,tE (.int .u8 (k:Int))⟩,⟨4,true,zad⟩,⟨1,false,tI i⟩]) (ts:=[(0,tE (.int .u8 (k:Int))),(2,tI i)]) bu28 zr28.2 (Bc 0 rfl rfl rfl (Bc 2 rfl rfl rfl zao))) rfl rfl ?_;refine A4 ?_;exact EC rfl ⟨_,_,_,_,_,rfl,rfl,ti28,zao⟩
abbrev l3 (n:Nat):List Fa:=[⟨kA,0,4,(n:Int)%3,false,nV 1 1⟩,⟨[kA,kB].getD (n%2) .empty,2,6,(n:Int) / 3%3,false,nV 2 1⟩,⟨kA,1+(n:Int)%4,5,(n:Int) / 9%3,false,nV 1 1⟩]
abbrev goF (f:Fa):Fa:=⟨f.key,f.lo,f.hi,f.kn,true,f.v⟩
abbrev gzF (f:Fa):Fa:=⟨f.key,f.lo,f.hi,f.kn,f.gone,An.va0⟩
abbrev l4 (n:Nat):List Fa:=(l3 n).set (n%3) (goF ((l3 n).getD (n%3) fa0))
abbrev l5 (n:Nat):List Fa:=(l4 n).set (n%3) (gzF ((l4 n).getD (n%3) fa0))
abbrev nN (i:Nat):Int:=nums6.getD i 0
abbrev lG (i k:Nat):List Fa:=lF (nN i) (nN k) k
abbrev lJ (i k j:Nat):Fa:=(lG i k).getD j fa0
theorem nN_bd {i:Nat} (h:i < 8): -9223372036854775808<=nN i/\nN i<=9223372036854775807:=(nums6_bd h).1
theorem lG_len {i k:Nat}:(lG i k).length=3:=rfl
theorem lJ_at {i k j:Nat} (hk:k < 8) (hj:j < 3):okA [lJ i k j]:=lF_at hj (nums6_bd hk).1.2 (nums6_bd hk).2
abbrev mxF:List Fa:=[⟨kA,0,1,0,false,nV 1 1⟩,⟨kA,0,1,0,false,⟨5,fr0,1⟩⟩]
theorem xs8 (key:ByteArray) (a b k n d:Int) (h1: -9223372036854775808<=n:=by omega) (h2:n<=9223372036854775807:=by omega) (h3: -9223372036854775808<=d:=by omega) (h4:d<=9223372036854775807:=by omega):Ct Tryz.prog 4 [tSt key,tI a,tI b,tI k,tI n,tI d] (tFa ⟨key,a,b,k,false,nV n d⟩):=yu8 key a b k n d h1 h2 h3 h4
abbrev kZ:ByteArray:=⟨#[97,98,99,100,101,102,103,104,105,106,107,108,109,110,111,112,113,114,115,116,117,118,119,120,121,122]⟩
abbrev fzF (n:Nat):Fa:=⟨kZ.extract 0 n,0,1,0,false,nV 1 1⟩
theorem wg6:kZ.size=26:=rfl
theorem okMX:okA mxF:=qk9 (fun f hf=>by
 simp only [zbr,zdf,or_false] at hf;rcases hf with rfl | rfl
 ·exact ⟨xv5 (n:=1) (d:=1) (by decide) (by decide) (by decide),fun _=>yc8 (x:=1) (by decide) (by decide)⟩
 ·exact ⟨okF0,fun _=>tx0 (by decide) (by decide)⟩) (by decide+kernel)
theorem okZ:okA [fa0]:=qk9 (fun f hf=>by
 rw [zbj.1 hf];exact ⟨okF0,fun _=>tx0 (by decide) (by decide)⟩) (by decide+kernel)
theorem okN {f:Fa} (h:f.v=nV 1 1):okA [f]:=zg9 (by decide) (by decide) (by decide) h (yc8 (by decide) (by decide))
theorem p3_set2 {l:List Fa} {i:Nat} {f:Fa} (h: ∀x∈l,P3 x) (hi:i < l.length) (hg:f.gone=true): ∀x∈(l.set i f).set i ⟨((l.set i f).getD i fa0).key,((l.set i f).getD i fa0).lo,((l.set i f).getD i fa0).hi,((l.set i f).getD i fa0).kn,((l.set i f).getD i fa0).gone,An.va0⟩,P3 x:=by
 rw [List.set_set];refine p3_set h (.inl ⟨?_,rfl⟩);rw [zbh,List.getElem?_set_self hi];exact hg
theorem vM_len:(vM 2000).length=2000:=by simp [vM]
theorem qz0:
  Ct Tryz.prog 3 [] (tB true):=by
 refine Ct.intro func3 rfl ntmps3 rfl ?_;intro w F;refine A12 ?_;refine cL (fun (n:Nat)=>n<=216) (fun (n:Nat)=>uV uN 1 (tI n)) (fun (n:Nat)=>fun _=>none) [] (fun (n:Nat)=>216 - n) (0) (zbt _) ?_;intro n hI;refine A7 ?_;refine x9 rfl (fun h105=> ?_) (fun h105=> ?_)
 ·
  refine A7 ?_;refine R2 (xj4 (by omega) (by omega)) rfl rfl (Rt (x4 (xs8 kA 0 4 ((n:Int)%3) 1 1) fi4 rfl) ⟨rfl,rfl,rfl,rfl,rfl,rfl,trivial⟩ (R2 (xc2 (n:=2) (f:=tSt) [kA,kB] zgw el9 zf9 rfl (fun _=>inferInstance) rfl rfl rfl) rfl rfl ?_));refine A1 ?_;refine R2 (xj4 (by omega) (by omega)) rfl rfl (R2 (x5 sl32 (n%2) (by omega) (gD (l:=[kA,kB]) (n:=n%2) (d:= .empty) (zfb _ (by decide)))) rfl rfl ?_);refine A2 ?_;refine R2 (za9 (by omega) (by omega) zah) rfl rfl (R2 (xj4 (by omega) (by omega)) rfl rfl (Rt (x4 (xs8 ([kA,kB].getD (n%2) .empty) 2 6 ((n:Int) / 3%3) 2 1) fi4 rfl) ⟨rfl,rfl,rfl,rfl,rfl,rfl,trivial⟩ ?_));refine A1 ?_;refine R2 (xj4 (by omega) (by omega)) rfl rfl ?_;refine A2 ?_;refine R2 (za9 (by omega) (by omega) zah) rfl rfl (R2 (xj4 (by omega) (by omega)) rfl rfl (Rt (x4 (xs8 kA (1+(n:Int)%4) 5 ((n:Int) / 9%3) 1 1) fi4 rfl) ⟨rfl,rfl,rfl,rfl,rfl,rfl,trivial⟩ (RE (xj0 (k:=42) (ents:=rV tFa (l3 n)) zgs el30 zf30 rfl (fun e he=>by obtain ⟨x,_,rfl⟩:=zci.1 he;infer_instance) rfl rfl rfl) qC trivial qA ?_)));refine A3 ?_;refine xi4 (fun (L:List Fa)=>L.length=3/\ ∀f∈L,P3 f) (fun (L:List Fa)=>uO (uV uN 1 (tI n)) 2 (.sl 42 11 0 3)) (fun (L:List Fa)=>uK uN 42 30 11 true (rV tFa L)) (nm [42]) ?_ ?_
  ·
   refine A3 ?_;refine R2 (xj4 (by omega) (by omega)) rfl rfl ?_;refine A3 ?_;refine x9 rfl (fun h107=> ?_) (fun h107=> ?_)
   ·
    refine A3 ?_;refine R2 (xj4 (by omega) (by omega)) rfl rfl ?_;refine A8 ?_;refine R0 (xd3 (r:=tS [⟨1,false,(tE (.int .u8 0))⟩,⟨4,true,zad⟩,⟨1,false,(tE (.int .i64 0))⟩]) (ts:=[]) bu28 zr28.2 zao) (R2 (zag sl33 rfl) rfl rfl ?_);refine A1 ?_;refine RE (xn1 (es:=11) (o:=4) (t2:=tFa (goF ((l3 n).getD (n%3) fa0))) (n%3) ti4 (xc3 (f:=tFa) (xs:=(l3 n)) (d:=fa0) (show n%3 < 3 from zfb _ (by decide))) (Up.g 4 rfl rfl rfl) (by omega) (xf0 rfl)) qB qA trivial (R2 (zag sl33 rfl) rfl rfl ?_);refine A1 ?_;refine RE (xn1 (es:=11) (o:=5) (t2:=tFa (gzF ((l4 n).getD (n%3) fa0))) (n%3) ti28 (xc3 (f:=tFa) (xs:=(l4 n)) (d:=fa0) (by rw [zdn];show n%3 < 3;omega)) (Up.g 5 rfl rfl rfl) (by omega) (xf0 rfl)) qB qA trivial ?_;refine A1 ?_;exact kF ((l5 n)) ⟨(by simp),p3_set2 (p3_three (p3_n 1 (by decide)) (p3_n 2 (by decide)) (p3_n 1 (by decide))) (zfb _ (by decide)) rfl⟩
   ·
    refine A1 ?_;exact kF ((l3 n)) ⟨rfl,p3_three (p3_n 1 (by decide)) (p3_n 2 (by decide)) (p3_n 1 (by decide))⟩
  ·
   intro L hL;refine A1 ?_;have hLo:=ok3 hL.2;have hL3:=hL.1;refine A3 ?_;refine R2 (xj4 (by omega) (by omega)) rfl rfl ?_;refine A1 ?_;refine R2 (xj4 (by omega) (by omega)) rfl rfl ?_;refine A1 ?_;refine RE (yb3 42 30 11 3 [.own (.sl 42 11 0 3),.val _,.val _,.val _] (fun _ _ _ _ h=>h) (xz4 L kA _ _ (by omega) hLo) fi5 (fun _ h=>h) (xe9 hL3) hL3 ⟨.inr ⟨rfl,rfl⟩,.inl rfl,.inl rfl,.inl rfl,trivial⟩ rfl) qD qA trivial ?_;refine A3 ?_;refine RGon rfl rfl (yb3 42 30 11 3 [.own (.sl 42 11 0 3),.val _,.val _,.val _] (fun _ _ _ _ h=>h) (xz4 L kB _ _ (by omega) hLo) fi5 (fun _ h=>h) (xe9 hL3) hL3 ⟨.inr ⟨rfl,rfl⟩,.inl rfl,.inl rfl,.inl rfl,trivial⟩ rfl) rfl qD qA trivial ?_;refine A4 ?_;refine Rg rfl rfl (xj4 (by omega) (by omega)) rfl qB ?_;refine A2 ?_;refine RGcaseD (t:=74) rfl (fun h111=> ?_) (fun h111=> ?_)
   ·
    refine A2 ?_;refine Rg (zbf h111) rfl (xj4 (by omega) (by omega)) rfl qB (Rg (zbf h111) rfl (xh2 zah) rfl qB (RGon (zbf h111) rfl (yb3 42 30 11 3 [.own (.sl 42 11 0 3),.val _,.val _,.val _] (fun _ _ _ _ h=>h) (xw3 L kA _ _ (by omega) hLo) fi6 (fun _ h=>h) (xe9 hL3) hL3 ⟨.inr ⟨rfl,rfl⟩,.inl rfl,.inl rfl,.inl rfl,trivial⟩ rfl) rfl qD qA trivial ?_));refine A1 ?_;refine Rg rfl rfl (xc6 (zbf h111)) rfl qB ?_;refine A12 ?_;exact kF (n+1) ⟨(by omega),(by omega)⟩
   ·
    refine A6 ?_;refine Rg rfl rfl (xc4 (zbg h111)) rfl qB ?_;refine A12 ?_;exact kF (n+1) ⟨(by omega),(by omega)⟩
 ·
  refine A7 ?_;refine Rt (xc2 (n:=8) (f:=(fun n:Int=>tI n)) nums6 zgq el3 zf3 rfl (fun _=>inferInstance) rfl rfl rfl) ⟨rfl,rfl,rfl,rfl,rfl,rfl,rfl,rfl,trivial⟩ ?_;refine A10 ?_;refine cL (fun (i:Nat)=>i<=8) (fun (i:Nat)=>uV (uV uN 4 (tL 1 false (fun n:Int=>tI n) nums6)) 5 (tI i)) (fun (i:Nat)=>fun _=>none) [] (fun (i:Nat)=>8 - i) (0) (zbt _) ?_;intro i hI;have hnl:=nums6_len;refine A9 ?_;refine x9 rfl (fun h116=> ?_) (fun h116=> ?_)
  ·
   refine A10 ?_;refine cL (fun (k:Nat)=>k<=8) (fun (k:Nat)=>uV (uV (uV uN 4 (tL 1 false (fun n:Int=>tI n) nums6)) 5 (tI i)) 6 (tI k)) (fun (k:Nat)=>fun _=>none) [] (fun (k:Nat)=>8 - k) (0) (zbt _) ?_;intro k hI2;refine A9 ?_;refine x9 rfl (fun h117=> ?_) (fun h117=> ?_)
   ·
    refine A8 ?_;refine R2 (x5 sl35 (i) (by omega) (gD (l:=nums6) (n:=i) (d:=0) (by rw [nums6_len];omega))) rfl rfl ?_;have hbi:=nN_bd (i:=i) (by omega);have hbk:=nN_bd (i:=k) (by omega);refine R1 (xf2 ti3) rfl ?_;refine A2 ?_;refine R2 (x5 sl35 (k) (by omega) (gD (l:=nums6) (n:=k) (d:=0) (by rw [nums6_len];omega))) rfl rfl ?_;refine A1 ?_;refine Rt (x4 (xs8 kA (nN i) (nN k) 3 1 1) fi4 rfl) ⟨rfl,rfl,rfl,rfl,rfl,rfl,trivial⟩ ?_;refine A2 ?_;refine R2 (x5 sl35 (i) (by omega) (gD (l:=nums6) (n:=i) (d:=0) (by rw [nums6_len];omega))) rfl rfl ?_;refine A3 ?_;refine R2 (x5 sl35 (k) (by omega) (gD (l:=nums6) (n:=k) (d:=0) (by rw [nums6_len];omega))) rfl rfl ?_;refine A1 ?_;refine Rt (x4 (xs8 kA 0 5 (nN i) 1 (nN k)) fi4 rfl) ⟨rfl,rfl,rfl,rfl,rfl,rfl,trivial⟩ ?_;refine A4 ?_;refine R2 (x5 sl35 (i) (by omega) (gD (l:=nums6) (n:=i) (d:=0) (by rw [nums6_len];omega))) rfl rfl ?_;refine A2 ?_;refine R2 (xj4 (by omega) (by omega)) rfl rfl (R1 (xa8 (r:=((k%2:Nat):Int)) zgy (isS zgo) ((wu8 (by omega) (by omega)).trans (by omega))) rfl (R2 (x4 (qd2 (k%2) 0) fi7 rfl) rfl rfl (Rt (xd3 (r:=tS [⟨1,false,tSt kA⟩,⟨1,false,tI 0⟩,⟨1,false,tI (1+(k:Int))⟩,⟨1,false,tI (nN i)⟩,⟨1,false,tB true⟩,⟨6,true,tVa ⟨k%2,fr0,0⟩⟩]) (ts:=[(0,tSt kA),(1,tI 0),(2,tI (1+(k:Int))),(3,tI (nN i)),(4,tB true),(5,tVa ⟨k%2,fr0,0⟩)]) bu30 zr30.2 (Bc 0 rfl rfl rfl (Bc 1 rfl rfl rfl (Bc 2 rfl rfl rfl (Bc 3 rfl rfl rfl (Bc 4 rfl rfl rfl (Bc 5 rfl rfl rfl zao))))))) ⟨rfl,rfl,rfl,rfl,rfl,rfl,trivial⟩ (R3 (xc2 (n:=3) (f:=tFa) (lG i k) zgs el30 zf30 rfl (fun _=>inferInstance) rfl rfl rfl) rfl rfl rfl ?_))));refine A5 ?_;refine cL (fun (j:Nat)=>j<=3) (fun (j:Nat)=>uV (uV (uV (uV (uV (uV uN 4 (tL 1 false (fun n:Int=>tI n) nums6)) 5 (tI i)) 6 (tI k)) 125 (tL 11 true tFa (lG i k))) 126 (tI 3)) 127 (tI j)) (fun (j:Nat)=>fun _=>none) [] (fun (j:Nat)=>3 - j) (0) (zbt _) ?_;intro j hI3;have hlf:=lG_len (i:=i) (k:=k);refine A6 ?_;refine x9 rfl (fun h118=> ?_) (fun h118=> ?_)
    ·
     refine A6 ?_;refine R2 (x5 sl33 (j) (by omega) (zai (l:=(lG i k)) (n:=j) (d:=fa0))) rfl rfl ?_;refine A1 ?_;refine RE (xb8 (k:=8) (n:=11) (agg:=true) zr30.1 zr30.2 rfl) trivial trivial qA ?_;refine A5 ?_;have hoA:=lJ_at (i:=i) (k:=k) (j:=j) (by omega) (by omega);have hoF:=hoA.1 _ (zbj.2 rfl);refine A2 ?_;refine R1 (x4 (zn1 (lJ i k j) hoF.1) fi8 rfl) rfl ?_;refine A1 ?_;refine R1 (x4 (zn9 (lJ i k j) hoF.1.1 (by have:=hoF.1.2;omega) (by have:=hoF.1.2;omega)) fi9 rfl) rfl ?_;refine A3 ?_;refine xi8 rfl (by simp) ?_;refine A8 ?_;refine RGcaseD (t:=139) rfl (fun h122=> ?_) (fun h122=> ?_)
     ·
      refine A1 ?_;refine Rg (zbf h122) rfl (xc2 (n:=1) (f:=tFa) [(lJ i k j)] zgs el30 zf30 rfl (fun _=>inferInstance) rfl rfl rfl) rfl qA ?_;refine A2 ?_;refine Rg (zbf h122) rfl (x5 sl35 (i) (by omega) (gD (l:=nums6) (n:=i) (d:=0) (by rw [nums6_len];omega))) rfl qB ?_;refine A3 ?_;refine Rg (zbf h122) rfl (x5 sl35 (k) (by omega) (gD (l:=nums6) (n:=k) (d:=0) (by rw [nums6_len];omega))) rfl qB ?_;refine A1 ?_;refine Rg (zbf h122) rfl (x4 (xz4 [(lJ i k j)] kA _ _ (by simp) hoA) fi5 rfl) rfl qD ?_;refine A3 ?_;refine Rg rfl rfl (xc2 (n:=1) (f:=tFa) [(lJ i k j)] zgs el30 zf30 rfl (fun _=>inferInstance) rfl rfl rfl) rfl qA ?_;refine A2 ?_;refine Rg rfl rfl (x5 sl35 (i) (by omega) (gD (l:=nums6) (n:=i) (d:=0) (by rw [nums6_len];omega))) rfl qB ?_;refine A1 ?_;refine Rg rfl rfl (x4 (xw3 [(lJ i k j)] kA _ _ (by simp) hoA) fi6 rfl) rfl qD ?_;refine A1 ?_;refine Rg (zbf h122) rfl (xc4 rfl) rfl qB ?_;refine A11 ?_;exact kF (j+1) ⟨(by omega),(by omega)⟩
     ·
      refine A18 ?_;refine A15 ?_;exact kF (j+1) ⟨(by omega),(by omega)⟩
    ·
     refine A11 ?_;exact kF (k+1) ⟨(by omega),(by omega)⟩
   ·
    refine A11 ?_;exact kF (i+1) ⟨(by omega),(by omega)⟩
  ·
   refine A12 ?_;refine Rt (x4 (xs8 kA 0 1 0 1 1) fi4 rfl) ⟨rfl,rfl,rfl,rfl,rfl,rfl,trivial⟩ (R2 (x4 (qd2 5 1) fi7 rfl) rfl rfl (Rt (xd3 (r:=tS [⟨1,false,tSt kA⟩,⟨1,false,tI 0⟩,⟨1,false,tI 1⟩,⟨1,false,(tE (.int .i64 0))⟩,⟨1,false,(tE (.bool false))⟩,⟨6,true,tVa ⟨5,fr0,1⟩⟩]) (ts:=[(0,tSt kA),(1,tI 0),(2,tI 1),(5,tVa ⟨5,fr0,1⟩)]) bu30 zr30.2 (Bc 0 rfl rfl rfl (Bc 1 rfl rfl rfl (Bc 2 rfl rfl rfl (Bc 5 rfl rfl rfl zao))))) qD (R2 (xc2 (n:=2) (f:=tFa) mxF zgs el30 zf30 rfl (fun _=>inferInstance) rfl rfl rfl) rfl rfl ?_)));refine A10 ?_;refine cL (fun (n:Nat)=>22<=n/\n<=27) (fun (n:Nat)=>uV (uV (uV uN 9 (tSt kZ)) 10 (tL 11 true tFa mxF)) 11 (tI n)) (fun (n:Nat)=>fun _=>none) [] (fun (n:Nat)=>27 - n) (22) ⟨zbq _,by decide⟩ ?_;intro n hI;have hzs:=wg6;refine A7 ?_;refine x9 rfl (fun h130=> ?_) (fun h130=> ?_)
   ·
    refine A8 ?_;refine R2 (zm5 (s:=kZ) (r:=kZ.extract 0 n) zgu (by omega) (by omega) rfl) rfl rfl (Rt (x4 (xs8 (kZ.extract 0 n) 0 1 0 1 1) fi4 rfl) ⟨rfl,rfl,rfl,rfl,rfl,rfl,trivial⟩ (R1 (xc2 (n:=1) (f:=tFa) [(fzF n)] zgs el30 zf30 rfl (fun _=>inferInstance) rfl rfl rfl) rfl ?_));refine A8 ?_;refine R2 (zm5 (s:=kZ) (r:=kZ.extract 0 n) zgu (by omega) (by omega) rfl) rfl rfl (Rt (x4 (xw3 [(fzF n)] _ _ _ (by simp) (okN rfl)) fi6 rfl) qD ?_);refine A3 ?_;refine Rg rfl rfl (x4 (xz4 [(fzF n)] _ _ _ (by simp) (okN rfl)) fi5 rfl) rfl qD ?_;refine A13 ?_;exact kF (n+1) ⟨⟨by omega,by omega⟩,(by omega)⟩
   ·
    refine A9 ?_;refine Rt (x4 (xw3 mxF _ _ _ (by simp) okMX) fi6 rfl) qD ?_;refine A3 ?_;refine Rg rfl rfl (x4 (xz4 mxF _ _ _ (by simp) okMX) fi5 rfl) rfl qD ?_;refine A3 ?_;refine Rg rfl rfl (xd3 (r:=tS [⟨1,false,(tE (.string ⟨#[]⟩))⟩,⟨1,false,(tE (.int .i64 0))⟩,⟨1,false,(tE (.int .i64 0))⟩,⟨1,false,(tE (.int .i64 0))⟩,⟨1,false,(tE (.bool false))⟩,⟨6,true,(tS [⟨1,false,(tE (.int .u8 0))⟩,⟨4,true,zad⟩,⟨1,false,(tE (.int .i64 0))⟩])⟩]) (ts:=[]) bu30 zr30.2 zao) rfl trivial (Rg rfl rfl (xc2 (n:=1) (f:=tFa) [fa0] zgs el30 zf30 rfl (fun _=>inferInstance) rfl rfl rfl) rfl qA (Rg rfl rfl (x4 (xw3 [fa0] _ _ _ (by simp) okZ) fi6 rfl) rfl qD ?_));refine A3 ?_;refine Rg rfl rfl (x4 (jo5 _ _ _) fi6 rfl) rfl qD ?_;refine A9 ?_;refine RE (xi0 (k:=206) (t:=tFa fa0) (ts:=rV tFa (mR 0)) 2001 2001 zgs el30 zr30.2 rfl rfl rfl (zbq _) (by omega) (by omega) (by rw [wg5];exact yd0 (f:=tFa) _ _ rfl)) qB trivial qA ?_;refine A12 ?_;refine cL (fun (i:Nat)=>i<=2001) (fun (i:Nat)=>uV (uV (uO uN 13 (.sl 206 11 0 2001)) 208 (tI 2001)) 209 (tI i)) (fun (i:Nat)=>uK uN 206 30 11 true (rV tFa (mR i))) [206] (fun (i:Nat)=>2001 - i) (0) (zbt _) ?_;intro i hI;refine A6 ?_;refine x9 rfl (fun h140=> ?_) (fun h140=> ?_)
    ·
     refine A14 ?_;refine R2 (xj8 (r:=(i:Int)*3) zah) rfl rfl ?_;refine A1 ?_;refine R2 (xj8 (r:=(i:Int)*3) zah) rfl rfl ?_;refine A2 ?_;refine R2 (xj8 (r:=(i:Int)*7919) zah) rfl rfl (R2 (xj4 (by omega) (by omega)) rfl rfl ?_);refine A1 ?_;refine R2 (xj4 (by omega) (by omega)) rfl rfl (Rt (x4 (xs8 kK ((i:Int)*3) ((i:Int)*3+2) ((i:Int)*7919%2000) ((i:Int)%5) 1) fi4 rfl) ⟨rfl,rfl,rfl,rfl,rfl,rfl,trivial⟩ (R2 (zag sl33 rfl) rfl rfl (RE (xc1 (e:= .val (tFa (fM i))) (i) ti30 (xi5 (by rw [mR_len (by omega)];omega)) (by omega) (xf0 (f:=tFa) (m:=fM i) rfl)) qB qA trivial ?_)));refine A7 ?_;exact kF (i+1) ⟨(by omega),(by omega)⟩ (hh:=((zaq rfl (zat (by rw [<-mR_set (by omega)]))) zax))
    ·
     refine A6 ?_;have hi1:i=2001:=by omega
     subst hi1;have e1:=mR_all;have e2:=w7;have hml:=xu1 (n:=2001);have e3: ∃v,v=vM 2000:=⟨_,rfl⟩
     obtain ⟨v0,ev⟩:=e3;obtain ⟨x0,ex⟩: ∃x,x=lrnA (mF 2000) kK:=⟨_,rfl⟩
     obtain ⟨m2,e3⟩: ∃m,m=mF 2000:=⟨_,rfl⟩
     rw [<-e1,<-e3] at e2;rw [<-e1] at hml;generalize mR 2001=m0 at*
     have hvl:v0.length=2000:=by rw [ev];exact vM_len
     have hxl:x0.length=2000:=by rw [ex];exact jr1
     refine zs4 (t:=13) (k:=206) (f:=tFa) (xs:=m0) rfl rfl (fun _ h=>h) (xe9 hml) hml ?_;refine A2 ?_;refine R2 (y3 (xs:=m0) (ys:=m2) sl33 2000 rfl (by omega) e2) rfl rfl (R3 (x4 (wb0 (v:=v0) e3 ev) fi10 rfl) rfl rfl rfl ?_);refine A10 ?_;refine R3 (x4 (ju1 e1) fi10 rfl) rfl rfl rfl ?_;refine A12 ?_;refine Rg (zbf (by rfl)) rfl xa3 rfl qA (Rg (zbf (by rfl)) rfl (ya9 zgp) rfl qA (Rg (zbf (by rfl)) rfl ya7 rfl qB (R2 (xc6 (zbf (by rfl))) rfl rfl ?_)));refine A1 ?_;refine Rg (zbf (by rw [hvl];rfl)) rfl xa3 rfl qA (Rg (zbf (by rw [hvl];rfl)) rfl ya7 rfl qB (R2 (xc6 (zbf (by rw [hvl];rfl))) rfl rfl ?_));refine A1 ?_;refine Rg (zbf (by rfl)) rfl xa3 rfl qA (Rg (zbf (by rfl)) rfl (x4 (jo6 e1) fi11 rfl) rfl qA (Rg (zbf (by rfl)) rfl xj9 rfl qA (R2 (xc6 (zbf (by rfl))) rfl rfl ?_)));refine A2 ?_;refine Rg rfl rfl (y3 (xs:=m0) (ys:=m2) sl33 2000 rfl (by omega) e2) rfl qB (Rg rfl rfl (x4 (jt2 (x:=x0) e3 ex) fi12 rfl) rfl qB ?_);refine A4 ?_;refine Rg (zbf (by rw [hxl];rfl)) rfl (x4 jm0 fi13 rfl) rfl trivial (R2 (xc6 (zbf (by rw [hxl];rfl))) rfl rfl ?_);refine A4 ?_;exact E1 rfl rfl zao
end An.S
