/- Part 4 of a proof: F7, P4, F8, Fx, Fy, F9, V16, V17, V18, V19, U20, Ref4, U34, Y0, G5, Fw, Ra, Rb, S17, S18, Sv2, Fz, Rc, R5, Y1, R5b, Y3, G2, LibZs, LibSu, Rd, F10, F11, F12, Mk, F13, F14, F16, LibKe, F17, G3, S9, S10, S11, N1, X1, N2, B1, LibEx, LibEy, LibEz. -/
import Derived.Sort.Walk0
import Derived.Shelf.SlIter.Sorted
import Derived.Test.YtnihkcielnkkpaaGreatDoorK3
set_option maxHeartbeats 4000000
set_option maxRecDepth 100000
namespace An.S
open Go Go.Proofs An Tryz
instance fi47:FnI Tryz.prog 47:=⟨_,func47,by kernel_rfl,rfl⟩
instance fi48:FnI Tryz.prog 48:=⟨_,func48,by kernel_rfl,rfl⟩
instance fi50:FnI Tryz.prog 50:=⟨_,func50,by kernel_rfl,rfl⟩
instance fi65:FnI Tryz.prog 65:=⟨_,func65,by kernel_rfl,rfl⟩
instance fi4:FnI Tryz.prog 4:=⟨_,func4,by kernel_rfl,rfl⟩
instance fi14:FnI Tryz.prog 14:=⟨_,func14,by kernel_rfl,rfl⟩
def nV (n d:Int):Va:=⟨2,fr (kfr n d),0⟩
abbrev kFte:ByteArray:=⟨#[102,116,101]⟩
def dcX (l:List Fa) (key:ByteArray) (d kn:Int):Nat->Int
 | 0=> -1
 | k+1=>if (((l.getD k fa0).key=key/\(l.getD k fa0).lo<=d)/\d < (l.getD k fa0).hi)/\(l.getD k fa0).kn<=kn/\(dcX l key d kn k < 0∨(l.getD (dcX l key d kn k).toNat fa0).kn<=(l.getD k fa0).kn) then (k:Int) else dcX l key d kn k
theorem ze5 {l:List Fa} {key:ByteArray} {d kn:Int}: ∀k, -1<=dcX l key d kn k/\dcX l key d kn k < (k:Int)
 | 0=>⟨by rw [dcX];decide,by rw [dcX];decide⟩
 | k+1=>by
  have:=ze5 (l:=l) (key:=key) (d:=d) (kn:=kn) k;rw [dcX];split <;> omega
theorem yu8 (key:ByteArray) (a b k n d:Int) (h1: -9223372036854775808<=n) (h2:n<=9223372036854775807) (h3: -9223372036854775808<=d) (h4:d<=9223372036854775807):
  Ct Tryz.prog 4 [tSt key,tI a,tI b,tI k,tI n,tI d] (tFa ⟨key,a,b,k,false,nV n d⟩):=by
 refine Ct.intro func4 rfl ntmps4 rfl ?_;intro w F;refine A2 ?_;refine RE (xb8 (k:=12) (n:=11) (agg:=true) zr30.1 zr30.2 rfl) trivial trivial qA ?_;refine A10 ?_;refine R2 (x4 (qu9 n d h1 h2 h3 h4) fi14 rfl) rfl rfl (Rt (xd3 (r:=tS [⟨1,false,tSt key⟩,⟨1,false,tI a⟩,⟨1,false,tI b⟩,⟨1,false,tI k⟩,⟨1,false,(tE (.bool false))⟩,⟨6,true,tVa (nV n d)⟩]) (ts:=[(0,tSt key),(1,tI a),(2,tI b),(3,tI k),(5,tVa (nV n d))]) bu30 zr30.2 (Bc 0 rfl rfl rfl (Bc 1 rfl rfl rfl (Bc 2 rfl rfl rfl (Bc 3 rfl rfl rfl (Bc 5 rfl rfl rfl zao)))))) ⟨rfl,rfl,rfl,rfl,rfl,trivial⟩ ?_);refine A4 ?_;exact EC rfl ⟨_,_,_,_,_,rfl,rfl,ti30,zao⟩
theorem xr5 (a b n d:Int) (h1: -9223372036854775808<=n) (h2:n<=9223372036854775807) (h3: -9223372036854775808<=d) (h4:d<=9223372036854775807):
  Ct Tryz.prog 52 [tI a,tI b,tI n,tI d] (tTs ⟨a,b,nV n d⟩):=by
 refine Ct.intro func52 rfl ntmps52 rfl ?_;intro w F;refine A2 ?_;refine RE (xb8 (k:=8) (n:=8) (agg:=true) zr55.1 zr55.2 rfl) trivial trivial qA ?_;refine A8 ?_;refine R2 (x4 (qu9 n d h1 h2 h3 h4) fi14 rfl) rfl rfl (R3 (xd3 (r:=tS [⟨1,false,tI a⟩,⟨1,false,tI b⟩,⟨6,true,tVa (nV n d)⟩]) (ts:=[(0,tI a),(1,tI b),(2,tVa (nV n d))]) bu55 zr55.2 (Bc 0 rfl rfl rfl (Bc 1 rfl rfl rfl (Bc 2 rfl rfl rfl zao)))) rfl rfl rfl ?_);refine A4 ?_;exact EC rfl ⟨_,_,_,_,_,rfl,rfl,ti55,zao⟩
def exF:List Fa:=[⟨kFte,0,100,10,false,nV 1 1⟩,⟨kFte,40,60,50,false,nV 1 2⟩,⟨kFte,50,70,80,true,An.va0⟩]
theorem qe4:
  Ct Tryz.prog 51 [] (tL 11 true tFa exF):=by
 refine Ct.intro func51 rfl ntmps51 rfl ?_;intro w F;refine A7 ?_;refine Rt (x4 (yu8 kFte 0 100 10 1 1 (by decide) (by decide) (by decide) (by decide)) fi4 rfl) ⟨rfl,rfl,rfl,rfl,rfl,rfl,trivial⟩ (Rt (x4 (yu8 kFte 40 60 50 1 2 (by decide) (by decide) (by decide) (by decide)) fi4 rfl) ⟨rfl,rfl,rfl,rfl,rfl,rfl,trivial⟩ (Rt (xd3 (r:=tS [⟨1,false,tSt kFte⟩,⟨1,false,tI 50⟩,⟨1,false,tI 70⟩,⟨1,false,tI 80⟩,⟨1,false,tB true⟩,⟨6,true,(tS [⟨1,false,(tE (.int .u8 0))⟩,⟨4,true,zad⟩,⟨1,false,(tE (.int .i64 0))⟩])⟩]) (ts:=[(0,tSt kFte),(1,tI 50),(2,tI 70),(3,tI 80),(4,tB true)]) bu30 zr30.2 (Bc 0 rfl rfl rfl (Bc 1 rfl rfl rfl (Bc 2 rfl rfl rfl (Bc 3 rfl rfl rfl (Bc 4 rfl rfl rfl zao)))))) ⟨rfl,rfl,rfl,rfl,rfl,trivial⟩ (R3 (xc2 (n:=3) (f:=tFa) exF zgs el30 zf30 rfl (fun _=>inferInstance) rfl rfl rfl) rfl rfl rfl ?_)));refine A4 ?_;exact E1 rfl rfl zao
end An.S
namespace An.S
open Go
theorem yu4 {T:List Fa} {x d:Int} (h: ∀f∈T,¬(x < f.lo/\f.lo<=d)/\ ¬(x < f.hi/\f.hi<=d)) (hxd:x<=d):lastF T d=lastF T x:=by
 rw [lastF,lastF,List.filter_congr fun f hf=> ?_];have:=h f hf;rw [Bool.eq_iff_iff,xq1,xq1];omega
theorem xo4 {T:List Fa} {d:Int} (h: ∀f∈T,¬(f.lo<=d/\d < f.hi)):lastF T d=none:=by
 rw [lastF,List.filter_eq_nil_iff.2 fun f hf h'=>h f hf (xq1.1 h')];rfl
theorem qt5 {T:List Fa}: ∀{pre ds:List Int},(pre++ds).Pairwise (· < ·)->(∀f∈T,f.lo∈pre++ds/\f.hi∈pre++ds)->cOn (gF T) ds
 | _,[],_,_=>trivial
 | _,[x],_,_=>trivial
 | pre,x::y::r,hp,ha=>by
  have h1:=zec.1 hp;have hq:=zcg.1 h1.2.1;have hq2:=zcg.1 hq.2;have key: ∀z∈pre++x::y::r,z<=x∨y<=z:=fun z hz=>by
   rcases zbp.1 hz with hz | hz
   ·have:=h1.2.2 z hz x (zby ..);omega
   ·rcases zbr.1 hz with rfl | hz
    ·omega
    ·rcases zbr.1 hz with rfl | hz
     ·omega
     ·have:=hq2.1 z hz;omega
  refine ⟨fun d hx hy=> ?_,?_⟩
  ·rw [gF,gF,yu4 (fun f hf=> ?_) hx];have k1:=key _ (ha f hf).1;have k2:=key _ (ha f hf).2;omega
  ·have e:pre++x::y::r=(pre++[x])++(y::r):=by simp
   rw [e] at hp ha;exact qt5 hp ha
theorem zc4 {T:List Fa}: ∀f∈T,f.lo∈bdF T/\f.hi∈bdF T:=fun f hf=>⟨yq2.2 ⟨f,hf,.inl rfl⟩,yq2.2 ⟨f,hf,.inr rfl⟩⟩
theorem segF {T:List Fa} (d:Int):valT (segL (gF T) (bdF T)) d=gF T d:=by
 have hv:=yk0 (xh9 (T:=T)) (qt5 (T:=T) (pre:=[]) xh9 zc4);by_cases h1: ∃x∈bdF T,x<=d
 ·by_cases h2: ∃y∈bdF T,d < y
  ·exact hv.1 d h1 h2
  ·have h3: ∀y∈bdF T,y<=d:=fun y hy=>Int.not_lt.1 fun h'=>h2 ⟨y,hy,h'⟩;rw [hv.2 d (.inr h3),gF,xo4 fun f hf h'=>by have:=h3 _ (zc4 f hf).2;omega];rfl
 ·have h3: ∀x∈bdF T,d < x:=fun x hx=>Int.not_le.1 fun h'=>h1 ⟨x,hx,h'⟩;rw [hv.2 d (.inl h3),gF,xo4 fun f hf h'=>by have:=h3 _ (zc4 f hf).1;omega];rfl
theorem xn9 (T:List Fa):ascT (vwT T)/\nbT (vwT T):=⟨(zh0 xh9).1,(zh0 xh9).2.1⟩
theorem xi9 (T:List Fa) (d:Int):valT (vwT T) d=gF T d:=by rw [vwT,(zh0 xh9).2.2,segF]
theorem zz4 {T U:List Fa} (h: ∀d,gF T d=gF U d):vwT T=vwT U:=za8 (xn9 T).1 (xn9 T).2 (xn9 U).1 (xn9 U).2 fun d=>by rw [xi9,xi9,h d]
def gdF (K:Nat) (D B:Int) (T:List Fa):Prop:= ∀f∈T,(0<=f.lo/\f.lo < f.hi/\f.hi<=65536)/\(f.gone=false->gOk K D B f.v)
theorem yp3 {T:List Fa} {d:Int} {v:Va} (h:gF T d=some v): ∃f∈T,f.gone=false/\f.v=v/\lastF T d=some f:=by
 rw [gF] at h;cases hl:lastF T d with
 | none=>rw [hl] at h;cases h
 | some f=>
  rw [hl,valF] at h;by_cases hg:f.gone=true
  ·rw [if_pos hg] at h;cases h
  ·rw [if_neg hg] at h;exact ⟨f,(xj2 hl).1,by simpa using hg,Option.some.inj h,rfl⟩
theorem vw_ok {K:Nat} {D B:Int} {T:List Fa} (h:gdF K D B T):isG K D B (vwT T):=by
 refine wh5 ((yr4 xh9).2.imp (S:=fun s t:Tst=>s.lo < s.hi->s.hi<=t.lo) fun h' _=>h') fun s hs _=> ?_;obtain ⟨h1,h2,h3⟩:=yv5 hs;have hb: ∀x∈bdF T,0<=x/\x<=65536:=fun x hx=>by
  obtain ⟨f,hf,e⟩:=yq2.1 hx;have:=(h f hf).1;omega
 obtain ⟨f,hf,hg,e,_⟩:=yp3 h3;have:=hb _ h1;have:=hb _ h2;exact ⟨by omega,by rw [<-e];exact (h f hf).2 hg⟩
theorem jp7 {g:Int->Option Va} (ds:List Int):(segL g ds).length<=ds.length:=by
 rw [za4];have:=yv6 (g:=g) (ds:=ds) (ds.length - 1);omega
theorem zs9 {T:List Fa}:(vwT T).length<=2*T.length:=by
 have h:=zg1 (segL (gF T) (bdF T)) [];have h2:=jp7 (g:=gF T) (bdF T);have h3:=zh1 (T:=T);rw [vwT];simp only [List.length_nil] at h;omega
section
variable {α:Type} {k:α->Int}
theorem qv0 {xs ys:List α} (h:Sbl k xs ys) (p:α->Bool):Sbl k (xs.filter p) (ys.filter p):=fun v=>by
 rw [List.filter_filter,List.filter_filter];have e: ∀zs:List α,zs.filter (fun a=>decide (k a=v) && p a)=(zs.filter fun a=>decide (k a=v)).filter p:=fun zs=>by
  rw [List.filter_filter];exact List.filter_congr fun a _=>Bool.and_comm ..
 rw [e,e,h v]
theorem yn4 (p:α->Bool) (xs:List α):(ssort k xs).filter p=ssort k (xs.filter p):=yb0 ((xm8 xs).sublist List.filter_sublist) (qv0 (xm6 xs) p)
theorem yv7 {xs ys:List α} (h:Sbl k xs ys) (x:α):Sbl k (xs++[x]) (ys++[x]):=h.app (Sbl.refl _)
theorem zw0 {xs:List α} {x:α} (h:Srt k xs) (hx: ∀a∈xs,k a<=k x):Srt k (xs++[x]):=zec.2 ⟨h,zek ..,fun a ha b hb=>by rw [zbj.1 hb];exact hx a ha⟩
theorem qs0 {xs:List α} {x:α} (hx: ∀a∈xs,k a<=k x):ssort k (xs++[x])=ssort k xs++[x]:=(yb0 (zw0 (xm8 xs) fun a ha=>hx a (y5.1 ha)) (yv7 (xm6 xs) x)).symm
theorem qv3 {xs:List α} {x:α}:(ssort k (xs++[x])).getLast? =match (ssort k xs).getLast? with
  | none=>some x
  | some g=>if k g<=k x then some x else some g:=by
 cases hl:(ssort k xs).getLast? with
 | none=>
  have h0:xs=[]:=by
   have:=List.getLast?_eq_none_iff.1 hl;have h1:=xo5 (k:=k) xs;rw [this] at h1;exact zde.1 h1.symm
  rw [h0];rfl
 | some g=>
  obtain ⟨ws,hw⟩:=List.getLast?_eq_some_iff.1 hl;have hs:=xm8 (k:=k) xs;rw [hw] at hs;have hg:=(zec.1 hs).2.2;have hmax: ∀a∈xs,k a<=k g:=fun a ha=>by
   have:=(y5 (k:=k)).2 ha;rw [hw] at this;rcases zbp.1 this with h1 | h1
   ·exact hg a h1 g (zbj.2 rfl)
   ·rw [zbj.1 h1];exact zea _
  by_cases hc:k g<=k x
  ·show _=if k g<=k x then some x else some g
   rw [if_pos hc,qs0 fun a ha=>by have:=hmax a ha;omega,List.getLast?_append];rfl
  ·show _=if k g<=k x then some x else some g
   have e:ssort k (xs++[x])=ssort k (ws++[x])++[g]:=by
    refine (yb0 (zw0 (xm8 _) fun a ha=> ?_) ?_).symm
    ·rcases zbp.1 (y5.1 ha) with h1 | h1
     ·exact hg a h1 g (zbj.2 rfl)
     ·rw [zbj.1 h1];omega
    ·have h1:Sbl k (xs++[x]) (ws++([g]++[x])):=by
      have:=yv7 (xm6 (k:=k) xs) x;rw [hw,zdg] at this;exact this
     have h2:Sbl k (ws++([g]++[x])) (ws++([x]++[g])):=(Sbl.refl ws).app (Sbl.swap fun a ha b hb=>by
      rw [zbj.1 ha,zbj.1 hb];omega)
     have h3:Sbl k (ws++([x]++[g])) (ssort k (ws++[x])++[g]):=by
      rw [<-zdg];exact yv7 (xm6 _) g
     exact (h1.trans h2).trans h3
   rw [if_neg hc,e,List.getLast?_append];rfl
end
def onT (a:List Fa) (key:ByteArray) (kn d:Int):List Fa:=(a.filter fun f=>decide (f.key=key) && decide (f.kn<=kn)).filter (onF d)
theorem zk4 (a:List Fa) (key:ByteArray) (kn d:Int):lastF (toldT a key kn) d=(ssort Fa.kn (onT a key kn d)).getLast? :=by
 rw [lastF,toldT,yn4,onT]
theorem jp3 {a:List Fa} {f:Fa} {key:ByteArray} {kn d:Int}:onT (a++[f]) key kn d=onT a key kn d++if ((f.key=key/\f.lo<=d)/\d < f.hi)/\f.kn<=kn then [f] else []:=by
 rw [onT,List.filter_append,List.filter_append,onT]
 congr 1
 by_cases h:((f.key=key/\f.lo<=d)/\d < f.hi)/\f.kn<=kn
 ·rw [if_pos h,List.filter_cons,if_pos (by simp [h.1.1.1,h.2]),List.filter_cons,if_pos (xq1.2 ⟨h.1.1.2,h.1.2⟩)];rfl
 ·rw [if_neg h,List.filter_filter,List.filter_eq_nil_iff];intro x hx hh;rw [zbj.1 hx] at hh;simp only [zbv,zbw,xq1] at hh;exact h ⟨⟨⟨hh.2.1,hh.1.1⟩,hh.1.2⟩,hh.2.2⟩
theorem ja8 {a:List Fa} {key:ByteArray} {kn:Int}:(toldT a key kn).length<=a.length:=by rw [toldT,xo5];exact List.length_filter_le ..
theorem xv8 {a:List Fa} {key:ByteArray} {kn:Int} {f:Fa}:f∈toldT a key kn↔f∈a/\f.key=key/\f.kn<=kn:=by
 rw [toldT,y5,List.mem_filter];simp only [zbv,zbw]
theorem wc5 {K:Nat} {D B:Int} {a:List Fa} {key:ByteArray} {kn:Int} (h:gdF K D B a):gdF K D B (toldT a key kn):=fun f hf=>h f (xv8.1 hf).1
section
variable {α β:Type} [DecidableEq α]
theorem yn5 {a:α}: ∀{l:List (α×β)} {i:Nat},getI a (i+1) l=(getI a i l).map fun x=>(x.1+1,x.2)
 | [],_=>rfl
 | p::r,i=>by
  rw [getI,getI];split
  ·rfl
  ·exact yn5
theorem xz9 {z:β} {p:α×β} {r:List (α×β)} {a:α}:entV z (p::r) a=if a=p.1 then p.2 else entV z r a:=by
 rw [entV,getI];split
 ·rfl
 ·rw [yn5,Option.map_map];rfl
theorem zn6 {p:α×β} {r:List (α×β)} {a:α} {v:β}:putM (p::r) a v=if a=p.1 then (a,v)::r else p::putM r a v:=by
 by_cases h:a=p.1
 ·simp [putM,getI,h]
 ·rw [if_neg h,putM,putM,getI,if_neg h,yn5];cases getI a 0 r with
  | none=>rfl
  | some x=>rfl
theorem zs6 {z v:β} {a b:α}: ∀{l:List (α×β)},entV z (putM l a v) b=if a=b then v else entV z l b
 | []=>by
  show entV z [(a,v)] b=_;rw [xz9];by_cases h:a=b
  ·rw [if_pos h.symm,if_pos h]
  ·rw [if_neg (fun h'=>h h'.symm),if_neg h]
 | p::r=>by
  rw [zn6];by_cases h:a=p.1
  ·rw [if_pos h,xz9,xz9];by_cases h2:a=b
   ·rw [if_pos h2.symm,if_pos h2]
   ·rw [if_neg (fun h'=>h2 h'.symm),if_neg h2,if_neg (fun h':b=p.1=>h2 (h.trans h'.symm))]
  ·rw [if_neg h,xz9,xz9,zs6];by_cases h2:b=p.1
   ·rw [if_pos h2,if_pos h2,if_neg (fun h'=>h (h'.trans h2))]
   ·rw [if_neg h2,if_neg h2]
end
theorem zz5 {m:List (ByteArray×Nat)} {f:Fa} {key:ByteArray}:kGet (kAdd m f) key=if f.key=key then max (kGet m f.key) f.v.kind else kGet m key:=zs6
theorem kM_app {a:List Fa} {f:Fa} {key:ByteArray}:kGet (kM (a++[f])) key=if f.key=key then max (kGet (kM a) f.key) f.v.kind else kGet (kM a) key:=by
 rw [kM,List.foldl_append];exact zz5
theorem kM_nil {key:ByteArray}:kGet (kM []) key=0:=rfl
def gF1 (D B:Int) (f:Fa):Prop:=(((1<=f.key.size/\f.key.size<=24)/\(0<=f.lo/\f.lo < f.hi/\f.hi<=65536))/\(0<=f.kn/\f.kn < 65536))/\if f.gone=true then f.v=An.va0 else gOk 2 D B f.v/\txOk f.v
def gR (D B:Int) (a:List Fa):Prop:=a.length<=2000/\ ∀f∈a,gF1 D B f
section
variable {D B:Int} {a:List Fa} {f:Fa} {key:ByteArray}
theorem gF1.right (h:gF1 D B f):fRight f=true:=by
 obtain ⟨⟨⟨h1,h2⟩,h3⟩,h4⟩:=h;rw [fRight];simp only [zbv,zbw];refine ⟨⟨⟨⟨⟨⟨⟨h1.1,h1.2⟩,h2.1⟩,h2.2.1⟩,h2.2.2⟩,h3.1⟩,h3.2⟩,?_⟩;by_cases hg:f.gone=true
 ·rw [if_pos hg] at h4 ⊢;exact zbf h4
 ·rw [if_neg hg] at h4 ⊢;exact h4.1.1.1
theorem gF1.kind (h:gF1 D B f):f.v.kind=if f.gone=true then 0 else 2:=by
 have h4:=h.2;by_cases hg:f.gone=true
 ·rw [if_pos hg] at h4 ⊢;rw [h4];rfl
 ·rw [if_neg hg] at h4 ⊢;exact h4.1.1.2.1
theorem gF1.lens (h:gF1 D B f):(f.v.f.n.l.length<=1000000/\f.v.f.d.l.length<=1000000)/\f.v.f.dig:=by
 have h4:=h.2;by_cases hg:f.gone=true
 ·rw [if_pos hg] at h4;rw [h4];exact ⟨⟨zbt _,zbt _⟩,⟨fun _ h=>absurd h zdf,fun _ h=>absurd h zdf⟩⟩
 ·rw [if_neg hg] at h4;have:=h4.2.2.2;exact ⟨⟨by omega,by omega⟩,h4.1.dig⟩
theorem gF1.gd (h:gF1 D B f):(0<=f.lo/\f.lo < f.hi/\f.hi<=65536)/\(f.gone=false->gOk 2 D B f.v):=⟨h.1.1.2,fun hg=>by have h4:=h.2;rw [if_neg (by rw [hg];decide)] at h4;exact h4.1⟩
theorem gR.gd (h:gR D B a):gdF 2 D B a:=fun f hf=>(h.2 f hf).gd
theorem gR.kGet (h: ∀f∈a,gF1 D B f): ∀i,i<=a.length-> ∀key,An.S.kGet (kM (a.take i)) key=if ∃f∈a.take i,f.key=key/\f.gone=false then 2 else 0
 | 0,_,key=>by
  rw [zej,kM_nil,if_neg];rintro ⟨f,hf,_⟩;cases hf
 | i+1,hi,key=>by
  have hx:a.take (i+1)=a.take i++[a.getD i fa0]:=by rw [zca (by omega),zbh,zbi (by omega)];rfl
  have ih:=gR.kGet h i (by omega);have hk:=(h _ (xe4 (l:=a) (i:=i) (by omega))).kind;rw [hx,kM_app,ih,ih,hk];generalize a.getD i fa0=f at*
  by_cases h1:f.key=key
  ·rw [if_pos h1,h1];by_cases h2:f.gone=true
   ·rw [if_pos h2];by_cases h3: ∃g∈a.take i,g.key=key/\g.gone=false
    ·rw [if_pos h3,if_pos]
     ·rfl
     ·obtain ⟨g,hg,hh⟩:=h3;exact ⟨g,zbp.2 (.inl hg),hh⟩
    ·rw [if_neg h3,if_neg]
     ·rfl
     ·rintro ⟨g,hg,hh⟩;rcases zbp.1 hg with h4 | h4
      ·exact h3 ⟨g,h4,hh⟩
      ·rw [zbj.1 h4,h2] at hh;exact absurd hh.2 (by decide)
   ·have h2':f.gone=false:=by simpa using h2
    rw [if_neg h2,if_pos (⟨f,zbp.2 (.inr (zbj.2 rfl)),h1,h2'⟩: ∃g∈a.take i++[f],g.key=key/\g.gone=false)];split <;> rfl
  ·rw [if_neg h1];by_cases h3: ∃g∈a.take i,g.key=key/\g.gone=false
   ·rw [if_pos h3,if_pos];obtain ⟨g,hg,hh⟩:=h3;exact ⟨g,zbp.2 (.inl hg),hh⟩
   ·rw [if_neg h3,if_neg];rintro ⟨g,hg,hh⟩;rcases zbp.1 hg with h4 | h4
    ·exact h3 ⟨g,h4,hh⟩
    ·rw [zbj.1 h4] at hh;exact h1 hh.1
theorem gR.rec (h:gR D B a):recOk a=true:=by
 rw [recOk,zbv,zbv];refine ⟨⟨zbf h.1,zdk.2 fun f hf=>(h.2 f hf).right⟩,?_⟩;rw [kOk,zdk];intro i hi;have hi':=zcx.1 hi;rw [zew,<-Bool.not_eq_true,yj2];rintro ⟨h1,h2,h3⟩;have hk:=(h.2 _ (xe4 hi')).kind;rw [h2,if_neg (by decide)] at hk;rw [gR.kGet h.2 i (by omega)] at h1 h3;rw [hk] at h3;split at h3
 ·exact h3 rfl
 ·rename_i hn;rw [if_neg hn] at h1;exact h1 rfl
theorem gR.view (h:gR D B a) (kn:Int):isG 2 D B (vwT (toldT a key kn))/\(vwT (toldT a key kn)).length<=4000:=by
 refine ⟨vw_ok (wc5 h.gd),?_⟩;have h1:=zs9 (T:=toldT a key kn);have h2:=ja8 (a:=a) (key:=key) (kn:=kn);have h3:=h.1;omega
end
end An.S
namespace An.S
open Go Go.Proofs An Tryz
instance fi10:FnI Tryz.prog 10:=⟨_,func10,by kernel_rfl,rfl⟩
instance fi12:FnI Tryz.prog 12:=⟨_,func12,by kernel_rfl,rfl⟩
instance fi17:FnI Tryz.prog 17:=⟨_,func17,by kernel_rfl,rfl⟩
instance fi21:FnI Tryz.prog 21:=⟨_,func21,by kernel_rfl,rfl⟩
instance fi24:FnI Tryz.prog 24:=⟨_,func24,by kernel_rfl,rfl⟩
instance fi32:FnI Tryz.prog 32:=⟨_,func32,by kernel_rfl,rfl⟩
instance fi33:FnI Tryz.prog 33:=⟨_,func33,by kernel_rfl,rfl⟩
instance fi51:FnI Tryz.prog 51:=⟨_,func51,by kernel_rfl,rfl⟩
instance fi52:FnI Tryz.prog 52:=⟨_,func52,by kernel_rfl,rfl⟩
section
variable {D B:Int} {a:List Fa}
theorem gR.sm (h:gR D B a):smF a:=fun f hf=>(h.2 f hf).lens.1
theorem gR.tx (h:gR D B a): ∀f∈a,f.gone=false->txOk f.v:=fun f hf hg=>by
 have h4:=(h.2 f hf).2;rw [if_neg (by rw [hg];decide)] at h4;exact h4.2
end
theorem jq4 (u v:Va) (e:u=v):Ct Tryz.prog 22 [tVa u,tVa v] (tB true):=by
 have h:=xq9 u v;rw [zbf e] at h;exact h
theorem yu5 (u v:List Tst) (e:u=v):Ct Tryz.prog 21 [tL 8 true tTs u,tL 8 true tTs v] (tB true):=by
 have h:=yu1 u v;rw [zbf e] at h;exact h
theorem jw0 (u v:List Sn) (e:u=v):Ct Tryz.prog 32 [tL 2 true tSn u,tL 2 true tSn v] (tB true):=by
 have h:=yt5 u v;rw [zbf e] at h;exact h
theorem jn6 (u w:List Int) (e:u=w):Ct Tryz.prog 33 [tL 1 false tI u,tL 1 false tI w] (tB true):=by
 have h:=zc3 u w;rw [zbf e] at h;exact h
theorem nV_ok {n d D B x:Int} (_hd:d≠0) (e:kfr n d=Rat.divInt x D) (hD:0 < D) (hDb:D<=9223372036854775807) (h1: -B<=x) (h2:x<=B) (hB:B<=9223372036854775807):gOk 2 D B (nV n d):=by
 rw [nV,e];exact gOk.mk (.inl rfl) hD hDb h1 h2 hB
theorem xj7:gR 2 2 exF:=⟨by decide,fun f hf=>by
 simp only [exF,zbr,zdf,or_false] at hf;rcases hf with rfl | rfl | rfl
 ·have h:=nV_ok (n:=1) (d:=1) (D:=2) (B:=2) (x:=2) (by decide) (by decide+kernel) (by decide) (by decide) (by decide) (by decide) (by decide);exact ⟨by decide,⟨h,by decide+kernel,by decide+kernel,by decide+kernel,by decide+kernel,h.dig⟩⟩
 ·have h:=nV_ok (n:=1) (d:=2) (D:=2) (B:=2) (x:=1) (by decide) (by decide+kernel) (by decide) (by decide) (by decide) (by decide) (by decide);exact ⟨by decide,⟨h,by decide+kernel,by decide+kernel,by decide+kernel,by decide+kernel,h.dig⟩⟩
 ·exact ⟨by decide,by rw [if_pos rfl]⟩⟩
theorem qp5: ∀{a b:List Int},a.Pairwise (· < ·)->b.Pairwise (· < ·)->(∀x,x∈a↔x∈b)->a=b
 | [],[],_,_,_=>rfl
 | [],y::s,_,_,h=>absurd ((h y).2 (zby ..)) (zdf)
 | x::r,[],_,_,h=>absurd ((h x).1 (zby ..)) (zdf)
 | x::r,y::s,ha,hb,h=>by
  have pa:=zcg.1 ha;have pb:=zcg.1 hb;have hxy:x=y:=by
   rcases zbr.1 ((h x).1 (zby ..)) with e | h1
   ·exact e
   ·rcases zbr.1 ((h y).2 (zby ..)) with e | h2
    ·exact e.symm
    ·have:=pa.1 y h2;have:=pb.1 x h1;omega
  subst hxy
  congr 1
  refine qp5 pa.2 pb.2 fun z=>⟨fun hz=> ?_,fun hz=> ?_⟩
  ·rcases zbr.1 ((h z).1 (zcd _ hz)) with e | h1
   ·have:=pa.1 z hz;omega
   ·exact h1
  ·rcases zbr.1 ((h z).2 (zcd _ hz)) with e | h1
   ·have:=pb.1 z hz;omega
   ·exact h1
theorem qi8 {xs l:List Int} (h:l.Pairwise (· < ·)) (h1: ∀x∈l,x∈xs) (h2: ∀x∈xs,x∈l):brd xs=l:=qp5 (xw1 xs).1 h fun x=>((xw1 xs).2 x).trans ⟨h2 x,h1 x⟩
theorem ze4 {kn:Int} {ds:List Int} (h:ds.Pairwise (· < ·)) (h1: ∀x∈ds,x∈edF (toldT exF kFte kn)) (h2: ∀x∈edF (toldT exF kFte kn),x∈ds):bdF (toldT exF kFte kn)=ds:=qi8 h h1 h2
theorem exV1:vwT (toldT exF kFte 9)=[]:=by
 rw [vwT,ze4 (ds:=[]) (by decide) (by decide+kernel) (by decide+kernel)];decide+kernel
theorem exV2:vwT (toldT exF kFte 10)=[⟨0,100,nV 1 1⟩]:=by
 rw [vwT,ze4 (ds:=[0,100]) (by decide) (by decide+kernel) (by decide+kernel)];decide+kernel
theorem exV3:vwT (toldT exF kFte 50)=[⟨0,40,nV 1 1⟩,⟨40,60,nV 1 2⟩,⟨60,100,nV 1 1⟩]:=by
 rw [vwT,ze4 (ds:=[0,40,60,100]) (by decide) (by decide+kernel) (by decide+kernel)];decide+kernel
theorem exV4:vwT (toldT exF kFte 80)=[⟨0,40,nV 1 1⟩,⟨40,50,nV 1 2⟩,⟨70,100,nV 1 1⟩]:=by
 rw [vwT,ze4 (ds:=[0,40,50,60,70,100]) (by decide) (by decide+kernel) (by decide+kernel)];decide+kernel
theorem exDf:dfS (vwT (toldT exF kFte 50)) (vwT (toldT exF kFte 80))=[⟨50,70⟩]:=by
 have e:bds [vwT (toldT exF kFte 50),vwT (toldT exF kFte 80)]=[0,40,50,60,70,100]:=by
  rw [exV3,exV4];exact qi8 (by decide) (by decide) (by decide)
 rw [dfS,qp4 (zh2 (xj7.view 50).1.1 (xj7.view 80).1.1),zi2,e,exV3,exV4];decide+kernel
theorem exA1:gF (toldT exF kFte 79) 55=some (nV 1 2):=by decide+kernel
theorem exA2:gF (toldT exF kFte 80) 55=none:=by decide+kernel
theorem exLr:lrnT (toldT exF kFte 65536)=[10,50,80]:=by
 rw [lrnT,ze4 (ds:=[0,40,50,60,70,100]) (by decide) (by decide+kernel) (by decide+kernel)];decide+kernel
theorem qr6 {l:List Fa} {key:ByteArray} {d kn:Int} {k:Nat} (h:(((l.getD k fa0).key=key/\(l.getD k fa0).lo<=d)/\d < (l.getD k fa0).hi)/\(l.getD k fa0).kn<=kn) (h2:(dcX l key d kn k < 0∨(l.getD (dcX l key d kn k).toNat fa0).kn<=(l.getD k fa0).kn)):dcX l key d kn (k+1)=k:=by rw [dcX];exact if_pos ⟨h.1,h.2,h2⟩
theorem jg8 {l:List Fa} {key:ByteArray} {d kn:Int} {k:Nat} (h: ¬(((((l.getD k fa0).key=key/\(l.getD k fa0).lo<=d)/\d < (l.getD k fa0).hi)/\(l.getD k fa0).kn<=kn)/\(dcX l key d kn k < 0∨(l.getD (dcX l key d kn k).toNat fa0).kn<=(l.getD k fa0).kn))):dcX l key d kn (k+1)=dcX l key d kn k:=by rw [dcX];exact if_neg fun hh=>h ⟨⟨hh.1,hh.2.1⟩,hh.2.2⟩
theorem qo0 {l:List Fa} {key:ByteArray} {d kn:Int}: ∀k,k<=l.length->lastF (toldT (l.take k) key kn) d=if dcX l key d kn k < 0 then none else some (l.getD (dcX l key d kn k).toNat fa0)
 | 0,_=>by rw [zej,dcX];rfl
 | k+1,hk=>by
  have hx:l.take (k+1)=l.take k++[l.getD k fa0]:=by rw [zca (by omega),zbh,zbi (by omega)];rfl
  have ih:=qo0 (l:=l) (key:=key) (d:=d) (kn:=kn) k (by omega);rw [zk4] at ih;rw [zk4,hx,jp3];by_cases h1:(((l.getD k fa0).key=key/\(l.getD k fa0).lo<=d)/\d < (l.getD k fa0).hi)/\(l.getD k fa0).kn<=kn
  ·rw [if_pos h1,qv3,ih];by_cases h2:dcX l key d kn k < 0
   ·rw [if_pos h2,qr6 h1 (.inl h2),if_neg (by omega),Int.toNat_natCast]
   ·rw [if_neg h2];show (if (l.getD (dcX l key d kn k).toNat fa0).kn<=(l.getD k fa0).kn then _ else _)=_;by_cases h3:(l.getD (dcX l key d kn k).toNat fa0).kn<=(l.getD k fa0).kn
    ·rw [if_pos h3,qr6 h1 (.inr h3),if_neg (by omega),Int.toNat_natCast]
    ·rw [if_neg h3,jg8 (fun hh=>hh.2.elim h2 h3),if_neg h2]
  ·rw [if_neg h1,zdz,jg8 (fun hh=>h1 hh.1)];exact ih
theorem je1 (l:List Fa) (key:ByteArray) (d kn:Int):lastF (toldT l key kn) d=if dcX l key d kn l.length < 0 then none else some (l.getD (dcX l key d kn l.length).toNat fa0):=by
 have:=qo0 (l:=l) (key:=key) (d:=d) (kn:=kn) l.length (zbq _);rw [zcf] at this;exact this
instance fi258:FnI Tryz.prog 258:=⟨_,func258,by kernel_rfl,rfl⟩
theorem yr6 (a:List Nat):
  Ct Tryz.prog 258 [tLm a] (tLm (trimL a)):=by
 refine Ct.intro func258 rfl ntmps258 rfl ?_;intro w F;refine xg9 (s:=0) rfl (fun hl0=> ?_);refine A14 ?_;refine cL (fun (k:Nat)=>k<=a.length/\trimL (a.take k)=trimL a) (fun (k:Nat)=>uV (uV uN 0 (tLm a)) 3 (tI k)) (fun (k:Nat)=>fun _=>none) [] (fun (k:Nat)=>k) (a.length) ⟨zbq _,by rw [zcf]⟩ ?_;intro k hI;obtain ⟨hk,hc⟩:=hI;refine A6 ?_;refine RGcaseD (t:=8) rfl (fun h12=> ?_) (fun h12=> ?_)
 ·
  refine A2 ?_;refine Rg (zbf h12) rfl (xh2 zah) rfl qB (Rg (zbf h12) rfl (x5 sl22 (k - 1) (by omega) (gN (by omega))) rfl qB ?_);refine A5 ?_;refine x9 rfl (fun h12_2=> ?_) (fun h12_2=> ?_)
  ·
   refine A9 ?_;exact kF (k - 1) ⟨⟨by omega,by rw [qv9 hk (by omega) (by omega)];exact hc⟩,(by omega)⟩
  ·
   refine A9 ?_;refine R2 (y3 sl22 k (by omega) (by omega) rfl) rfl rfl ?_;refine A4 ?_;exact E1 rfl rfl (Le.of (congrArg tLm (by rw [<-hc,qv2 hk (by omega) (by omega)])))
 ·
  refine A18 ?_;refine A1 ?_;refine R2 (y3 sl22 k (by omega) (by omega) rfl) rfl rfl ?_;refine A4 ?_;exact E1 rfl rfl (Le.of (congrArg tLm (by rw [<-hc,show k=0 by omega,zej];rfl)))
theorem qp7 (a b:Nat):
  Ct Tryz.prog 224 [tM a,tM b] (tB (decide (a < b))):=by
 refine Ct.intro func224 rfl ntmps224 rfl ?_;intro w F;refine xg9 (s:=0) rfl (fun hl0=> ?_);refine xg9 (s:=1) rfl (fun hl1=> ?_);have ha:=xq8 xa4 a;have hb:=xq8 xa4 b;refine A15 ?_;refine x9 rfl (fun h20=> ?_) (fun h20=> ?_)
 ·
  refine A12 ?_;exact E1 rfl rfl (zau (zeq.2 ⟨fun h=>qb8 xa4 (by omega),fun h=>by have:=xm3 xa4 (Nat.le_of_lt h);omega⟩))
 ·
  refine A12 ?_;have hlen:(dig 65536 a).length=(dig 65536 b).length:=by omega
  rw [<-hlen] at hb;refine cL (fun (k:Nat)=>k<=(dig 65536 a).length/\a / 65536 ^ k=b / 65536 ^ k) (fun (k:Nat)=>uV (uV (uV uN 0 (tM a)) 1 (tM b)) 5 (tI ((k:Int) - 1))) (fun (k:Nat)=>fun _=>none) [] (fun (k:Nat)=>k) ((dig 65536 a).length) ⟨zbq _,by rw [zdv ha,zdv hb]⟩ ?_;intro k hI;obtain ⟨hk,hc⟩:=hI;refine A7 ?_;refine x9 rfl (fun h23=> ?_) (fun h23=> ?_)
  ·
   obtain ⟨j,rfl⟩: ∃j,k=j+1:=⟨k - 1,by omega⟩
   refine A8 ?_;refine R2 (x5 sl22 (j) (by omega) (gN (by omega))) rfl rfl ?_;refine A3 ?_;refine R2 (x5 sl22 (j) (by omega) (gN (by omega))) rfl rfl ?_;refine A4 ?_;refine x9 rfl (fun h24=> ?_) (fun h24=> ?_)
   ·
    refine A4 ?_;refine R2 (x5 sl22 (j) (by omega) (gN (by omega))) rfl rfl ?_;refine A3 ?_;refine R2 (x5 sl22 (j) (by omega) (gN (by omega))) rfl rfl ?_;refine A11 ?_;exact E1 rfl rfl (zau (zeq.2 ⟨fun h=>zo2 xa4 hc (by omega),fun h=>zfq fun h2=>by have:=zo2 xa4 hc.symm (show (dig 65536 b).getD j 0 < (dig 65536 a).getD j 0 by omega);omega⟩))
   ·
    refine A8 ?_;exact kF (j) ⟨⟨by omega,zu0 (by decide) hc (by rw [<-xf8 xa4,<-xf8 xa4];omega)⟩,(by omega)⟩
  ·
   refine A11 ?_;exact E1 rfl rfl (zau (zbg (by have h0:=hc;rw [show k=0 by omega] at h0;simp at h0;omega)).symm)
theorem jb0 {v:Nat}:(0:Int) < ((dig 65536 v).length:Nat)↔v≠0:=by
 have h:(dig 65536 v).length=0↔v=0:=by rw [zde,xm9 xa4]
 omega
theorem iquo64 {a b:Nat} (ha:a < 9223372036854775808):IntKind.i64.wrap ((a:Int).tdiv (b:Int))=((a / b:Nat):Int):=by
 rw [Int.tdiv_eq_ediv_of_nonneg (by omega)];have h:(a:Int) / (b:Int)=((a / b:Nat):Int):=(Int.natCast_ediv a b).symm;rw [h];have:=Nat.div_le_self a b;generalize a / b=q at*
 exact wr64 (by omega) (by omega)
theorem jw6 (a d:Nat) (ha:(dig 65536 a).length<=100000) (hd:0 < d) (hdW:d < 65536):
  Ct Tryz.prog 223 [tM a,tI d] (tT [tM (a / d),tM (a%d)]):=by
 refine Ct.intro func223 rfl ntmps223 rfl ?_;intro w F;refine A10 ?_;refine RE (xi0 (k:=11) (t:=tE (.int .u16 0)) (ts:=rW .u16 (List.replicate ((dig 65536 a).length) 0)) ((dig 65536 a).length) ((dig 65536 a).length) zgf el140 (fun _ _=>rfl) rfl (by omega) (by omega) (zbq _) (by omega) (by omega) (z8 _)) qB trivial qA ?_;refine A18 ?_;refine cL (fun (fm:(Nat)×(List Nat))=>(fun (k:Nat) (qs:List Nat)=>k<=(dig 65536 a).length/\qs.length=(dig 65536 a).length/\Dig 65536 qs/\val 65536 (qs.drop k)=a / 65536 ^ k / d) fm.1 fm.2) (wB fun (k:Nat) (qs:List Nat)=>uV (uV (uO (uV (uV uN 0 (tM a)) 1 (tI d)) 6 (.sl 11 1 0 (dig 65536 a).length)) 7 (tI ((a / 65536 ^ k%d:Nat):Int))) 8 (tI ((k:Int) - 1))) (wB fun (k:Nat) (qs:List Nat)=>uK uN 11 140 1 false (rW .u16 qs)) [11] (fun (fm:(Nat)×(List Nat))=>(fun (k:Nat) (qs:List Nat)=>k) fm.1 fm.2) (((dig 65536 a).length,List.replicate (dig 65536 a).length 0)) (by dsimp only;exact ⟨zbq _,by simp,Dig.rep (by decide) _,by rw [zdv (xq8 xa4 a),Nat.zero_div,List.drop_replicate,y4]⟩) (hg:=(sI (Sub.le rfl (zba (by dsimp only;rw [zdv (xq8 xa4 a),Nat.zero_mod];rfl)) (sC (sI (sC zay)))))) ?_;intro fm hI;obtain ⟨k,qs⟩:=fm;replace hI:k<=(dig 65536 a).length/\qs.length=(dig 65536 a).length/\Dig 65536 qs/\val 65536 (qs.drop k)=a / 65536 ^ k / d:=hI;show wc _ _ _ _ (uV (uV (uO (uV (uV uN 0 (tM a)) 1 (tI d)) 6 (.sl 11 1 0 (dig 65536 a).length)) 7 (tI ((a / 65536 ^ k%d:Nat):Int))) 8 (tI ((k:Int) - 1))) (uK uN 11 140 1 false (rW .u16 qs)) _;obtain ⟨hk,hl,hD,hv⟩:=hI;have hr:a / 65536 ^ k%d < d:=zfb _ hd;refine A7 ?_;refine x9 rfl (fun h93=> ?_) (fun h93=> ?_)
 ·
  obtain ⟨j,rfl⟩: ∃j,k=j+1:=⟨k - 1,by omega⟩
  have hx:=xf8 xa4 a j;have hx1:=(xi2 xa4 a).getD (by decide) j;obtain ⟨n1,n2,n3,n4,n5⟩:=q9 (k:=j) (by omega) hl hD hd rfl hv (by rw [<-hx]);have hq0:=zbt (((a / 65536 ^ (j+1)%d)*65536+(dig 65536 a).getD j 0) / d);refine A7 ?_;refine R2 (xj8 (r:=(((a / 65536 ^ (j+1)%d)*65536:Nat):Int)) (by rw [wr64 (by omega) (by omega)];omega)) rfl rfl ?_;refine A2 ?_;refine R2 (x5 sl22 (j) (by omega) (gN (by omega))) rfl rfl ?_;refine A1 ?_;refine R1 (xa8 zgo (isS zgi) zah) rfl (R2 (xh3 (r:=((((a / 65536 ^ (j+1)%d)*65536+(dig 65536 a).getD j 0):Nat):Int)) (by rw [wr64 (by omega) (by omega)];omega)) rfl rfl ?_);refine A9 ?_;refine R2 (ya8 (r:=((((a / 65536 ^ (j+1)%d)*65536+(dig 65536 a).getD j 0) / d:Nat):Int)) (by omega) (iquo64 (by omega))) rfl rfl (R1 (xa8 zgi (isS zgo) (wu16 (by omega) (by omega))) rfl (R2 (zag sl22 rfl) rfl rfl (RE (xc1 (j) ti140 (yr8 (by omega)) (by omega) (yg9 (m:=_) rfl)) qB qA trivial ?_)));refine A5 ?_;refine R2 (ya4 (by omega) wrem64) rfl rfl ?_;refine A9 ?_;exact kF ((j,qs.set j (((a / 65536 ^ (j+1)%d)*65536+(dig 65536 a).getD j 0) / d))) ⟨(by dsimp only;exact ⟨by omega,n1,n2,n4⟩),(by dsimp only;omega)⟩ (hg:=(sI (Sub.le rfl (zba (by dsimp only;rw [hx,n3])) (sC (sI (sC zay))))))
 ·
  have hk0:k=0:=by omega
  subst hk0;rw [List.drop_zero,zft,Nat.div_one] at hv;refine A7 ?_;refine RE (xi6 (f:=fun n:Nat=>tE (.int .u16 n)) (fun _ h=>h) (y6 hl) hl) qA qA trivial (R1 (x4 (yr6 _) fi258 rfl) rfl ?_);refine A1 ?_;refine R1 (xa8 zgi (isS zgo) (wu16 (by omega) (by omega))) rfl (R1 (xu5 (n:=1) [a / 65536 ^ 0%d] zgf el140 zf140 rfl rfl rfl) rfl (R1 (x4 (yr6 _) fi258 rfl) rfl ?_));refine A5 ?_;exact E2 rfl rfl rfl (Le.of (congrArg tLm (by rw [xo2 xa4 hD,hv]))) (Le.of (congrArg tLm (by rw [trim1L (by omega),zft,Nat.div_one])))
theorem ys7 (a b:Nat) (ha:(dig 65536 a).length<=100000) (hb:(dig 65536 b).length<=100000):
  Ct Tryz.prog 225 [tM a,tM b] (tM (a+b)):=by
 have hab:=yq1 ha hb;refine Ct.intro func225 rfl ntmps225 rfl ?_;intro w F;refine A7 ?_;refine RE (xg1 (k:=5) 140 1 false rfl (fun _=>rfl)) trivial trivial qA ?_;refine A14 ?_;refine cL (fun (fm:(Nat)×(Nat)×(List Nat))=>(fun (i:Nat) (n:Nat) (cs:List Nat)=>i<=(dig 65536 (a+b)).length/\n=(a%65536 ^ i+b%65536 ^ i) / 65536 ^ i/\cs=dgs 65536 i (a+b)) fm.1 fm.2.1 fm.2.2) (wC fun (i:Nat) (n:Nat) (cs:List Nat)=>uV (uV (uO (uV (uV uN 0 (tM a)) 1 (tM b)) 5 (.sl 5 1 0 cs.length)) 7 (tI i)) 6 (tI n)) (wC fun (i:Nat) (n:Nat) (cs:List Nat)=>uK uN 5 140 1 false (rW .u16 cs)) [5] (fun (fm:(Nat)×(Nat)×(List Nat))=>(fun (i:Nat) (n:Nat) (cs:List Nat)=>(dig 65536 (a+b)).length - i) fm.1 fm.2.1 fm.2.2) ((0,0,[])) (by dsimp only;exact ⟨zbt _,by simp [Nat.mod_one],rfl⟩) ?_;intro fm hI;obtain ⟨i,n,cs⟩:=fm;replace hI:i<=(dig 65536 (a+b)).length/\n=(a%65536 ^ i+b%65536 ^ i) / 65536 ^ i/\cs=dgs 65536 i (a+b):=hI;show wc _ _ _ _ (uV (uV (uO (uV (uV uN 0 (tM a)) 1 (tM b)) 5 (.sl 5 1 0 cs.length)) 7 (tI i)) 6 (tI n)) (uK uN 5 140 1 false (rW .u16 cs)) _;obtain ⟨hi,hn,hcs⟩:=hI;have hcl:cs.length=i:=by rw [hcs,xn2]
 have hn1:=qe2 hn;have xa:=xf8 xa4 a i;have xb:=xf8 xa4 b i;have xa1:=(xi2 xa4 a).getD (by decide) i;have xb1:=(xi2 xa4 b).getD (by decide) i;refine A8 ?_;refine RGcaseD (t:=12) rfl (fun h35=> ?_) (fun h35=> ?_)
 ·
  have hmore:=yk1 hn (.inl (by omega));refine A16 ?_;refine xi4 (fun (m1:Nat)=>m1=(n+a / 65536 ^ i%65536)) (fun (m1:Nat)=>uV (uV (uO (uV (uV uN 0 (tM a)) 1 (tM b)) 5 (.sl 5 1 0 cs.length)) 7 (tI i)) 6 (tI m1)) (fun (m1:Nat)=>uK uN 5 140 1 false (rW .u16 cs)) (nm [5]) ?_ ?_
  ·
   refine A8 ?_;refine x9 rfl (fun h36=> ?_) (fun h36=> ?_)
   ·
    refine A4 ?_;refine R2 (x5 sl22 (i) (by omega) (gN (by omega))) rfl rfl ?_;refine A1 ?_;refine R1 (xa8 zgo (isS zgi) zah) rfl (R2 (xh3 (r:=((n+(dig 65536 a).getD i 0:Nat):Int)) (by rw [wr64 (by omega) (by omega)];omega)) rfl rfl ?_);refine A2 ?_;exact kF (n+(dig 65536 a).getD i 0) (by rw [xa])
   ·
    refine A1 ?_;exact kF (n) (by rw [xv6 xa4 (by omega),zeh])
  ·
   intro m1 hm1;refine xi4 (fun (m2:Nat)=>m2=(m1+b / 65536 ^ i%65536)) (fun (m2:Nat)=>uV (uV (uO (uV (uV uN 0 (tM a)) 1 (tM b)) 5 (.sl 5 1 0 cs.length)) 7 (tI i)) 6 (tI m2)) (fun (m2:Nat)=>uK uN 5 140 1 false (rW .u16 cs)) (nm [5]) ?_ ?_
   ·
    refine A8 ?_;refine x9 rfl (fun h39=> ?_) (fun h39=> ?_)
    ·
     refine A4 ?_;refine R2 (x5 sl22 (i) (by omega) (gN (by omega))) rfl rfl ?_;refine A1 ?_;refine R1 (xa8 zgo (isS zgi) zah) rfl (R2 (xh3 (r:=((m1+(dig 65536 b).getD i 0:Nat):Int)) (by rw [wr64 (by omega) (by omega)];omega)) rfl rfl ?_);refine A2 ?_;exact kF (m1+(dig 65536 b).getD i 0) (by rw [xb])
    ·
     refine A1 ?_;exact kF (m1) (by rw [xv6 xa4 (by omega),zeh])
   ·
    intro m2 hm2;refine A4 ?_;refine R2 (ya4 (r:=((m2%65536:Nat):Int)) (by decide) (wrem64 (b:=65536))) rfl rfl (R1 (xa8 zgi (isS zgo) (wu16 (by omega) (by omega))) rfl (R1 (xu5 (n:=1) [m2%65536] zgf el140 zf140 rfl rfl rfl) rfl (RE (xb3 (k:=5) (k':=51) (ts':=rW .u16 (cs++[m2%65536])) zgf el140 zf140 rfl rfl (fun _=>inferInstance) xo7 (by simp;omega) (by simp;omega) (by simp [rW]) (n':=cs.length+1) rfl) ⟨rfl,rfl,trivial⟩ ⟨rfl,trivial⟩ ⟨rfl,trivial⟩ ?_)));refine A5 ?_;refine R2 (ya8 (r:=((m2 / 65536:Nat):Int)) (by decide) (iquo64 (b:=65536) (by omega))) rfl rfl ?_;refine A9 ?_;obtain ⟨n1,n2⟩:=yw5 (s:=m2) hn (by rw [hm2,hm1]);exact xe3 (l:=[5]) (zab 5 51) ((i+1,m2 / 65536,cs++[m2%65536])) ⟨(by dsimp only;exact ⟨hmore,n2,by rw [hcs];exact n1⟩),(by dsimp only;omega)⟩ (zaf rfl (zaf rfl ((zbc rfl (zaw (by dsimp only;rw [zbm];rfl))) (zas rfl (zas rfl zbd))))) ((zbb rfl (zat yf3.symm)) zbe) (zaj (zaj (zak rfl (zaj (zaj zar))))) (zam rfl (supJ xn3) zaz) (lkOk rfl) rfl rfl (fun _ h=>by cases h)
 ·
  refine A6 ?_;refine RGcaseD (t:=18) rfl (fun h35_2=> ?_) (fun h35_2=> ?_)
  ·
   have hmore:=yk1 hn (.inr (.inl (by omega)));refine A10 ?_;refine xi4 (fun (m1:Nat)=>m1=(n+a / 65536 ^ i%65536)) (fun (m1:Nat)=>uV (uV (uO (uV (uV uN 0 (tM a)) 1 (tM b)) 5 (.sl 5 1 0 cs.length)) 7 (tI i)) 6 (tI m1)) (fun (m1:Nat)=>uK uN 5 140 1 false (rW .u16 cs)) (nm [5]) ?_ ?_
   ·
    refine A8 ?_;refine x9 rfl (fun h36=> ?_) (fun h36=> ?_)
    ·
     refine A4 ?_;refine R2 (x5 sl22 (i) (by omega) (gN (by omega))) rfl rfl ?_;refine A1 ?_;refine R1 (xa8 zgo (isS zgi) zah) rfl (R2 (xh3 (r:=((n+(dig 65536 a).getD i 0:Nat):Int)) (by rw [wr64 (by omega) (by omega)];omega)) rfl rfl ?_);refine A2 ?_;exact kF (n+(dig 65536 a).getD i 0) (by rw [xa])
    ·
     refine A1 ?_;exact kF (n) (by rw [xv6 xa4 (by omega),zeh])
   ·
    intro m1 hm1;refine xi4 (fun (m2:Nat)=>m2=(m1+b / 65536 ^ i%65536)) (fun (m2:Nat)=>uV (uV (uO (uV (uV uN 0 (tM a)) 1 (tM b)) 5 (.sl 5 1 0 cs.length)) 7 (tI i)) 6 (tI m2)) (fun (m2:Nat)=>uK uN 5 140 1 false (rW .u16 cs)) (nm [5]) ?_ ?_
    ·
     refine A8 ?_;refine x9 rfl (fun h39=> ?_) (fun h39=> ?_)
     ·
      refine A4 ?_;refine R2 (x5 sl22 (i) (by omega) (gN (by omega))) rfl rfl ?_;refine A1 ?_;refine R1 (xa8 zgo (isS zgi) zah) rfl (R2 (xh3 (r:=((m1+(dig 65536 b).getD i 0:Nat):Int)) (by rw [wr64 (by omega) (by omega)];omega)) rfl rfl ?_);refine A2 ?_;exact kF (m1+(dig 65536 b).getD i 0) (by rw [xb])
     ·
      refine A1 ?_;exact kF (m1) (by rw [xv6 xa4 (by omega),zeh])
    ·
     intro m2 hm2;refine A4 ?_;refine R2 (ya4 (r:=((m2%65536:Nat):Int)) (by decide) (wrem64 (b:=65536))) rfl rfl (R1 (xa8 zgi (isS zgo) (wu16 (by omega) (by omega))) rfl (R1 (xu5 (n:=1) [m2%65536] zgf el140 zf140 rfl rfl rfl) rfl (RE (xb3 (k:=5) (k':=51) (ts':=rW .u16 (cs++[m2%65536])) zgf el140 zf140 rfl rfl (fun _=>inferInstance) xo7 (by simp;omega) (by simp;omega) (by simp [rW]) (n':=cs.length+1) rfl) ⟨rfl,rfl,trivial⟩ ⟨rfl,trivial⟩ ⟨rfl,trivial⟩ ?_)));refine A5 ?_;refine R2 (ya8 (r:=((m2 / 65536:Nat):Int)) (by decide) (iquo64 (b:=65536) (by omega))) rfl rfl ?_;refine A9 ?_;obtain ⟨n1,n2⟩:=yw5 (s:=m2) hn (by rw [hm2,hm1]);exact xe3 (l:=[5]) (zab 5 51) ((i+1,m2 / 65536,cs++[m2%65536])) ⟨(by dsimp only;exact ⟨hmore,n2,by rw [hcs];exact n1⟩),(by dsimp only;omega)⟩ (zaf rfl (zaf rfl ((zbc rfl (zaw (by dsimp only;rw [zbm];rfl))) (zas rfl (zas rfl zbd))))) ((zbb rfl (zat yf3.symm)) zbe) (zaj (zaj (zak rfl (zaj (zaj zar))))) (zam rfl (supJ xn3) zaz) (lkOk rfl) rfl rfl (fun _ h=>by cases h)
  ·
   refine A5 ?_;refine x9 rfl (fun h35_3=> ?_) (fun h35_3=> ?_)
   ·
    have hmore:=yk1 hn (.inr (.inr (by omega)));refine A4 ?_;refine xi4 (fun (m1:Nat)=>m1=(n+a / 65536 ^ i%65536)) (fun (m1:Nat)=>uV (uV (uO (uV (uV uN 0 (tM a)) 1 (tM b)) 5 (.sl 5 1 0 cs.length)) 7 (tI i)) 6 (tI m1)) (fun (m1:Nat)=>uK uN 5 140 1 false (rW .u16 cs)) (nm [5]) ?_ ?_
    ·
     refine A8 ?_;refine x9 rfl (fun h36=> ?_) (fun h36=> ?_)
     ·
      refine A4 ?_;refine R2 (x5 sl22 (i) (by omega) (gN (by omega))) rfl rfl ?_;refine A1 ?_;refine R1 (xa8 zgo (isS zgi) zah) rfl (R2 (xh3 (r:=((n+(dig 65536 a).getD i 0:Nat):Int)) (by rw [wr64 (by omega) (by omega)];omega)) rfl rfl ?_);refine A2 ?_;exact kF (n+(dig 65536 a).getD i 0) (by rw [xa])
     ·
      refine A1 ?_;exact kF (n) (by rw [xv6 xa4 (by omega),zeh])
    ·
     intro m1 hm1;refine xi4 (fun (m2:Nat)=>m2=(m1+b / 65536 ^ i%65536)) (fun (m2:Nat)=>uV (uV (uO (uV (uV uN 0 (tM a)) 1 (tM b)) 5 (.sl 5 1 0 cs.length)) 7 (tI i)) 6 (tI m2)) (fun (m2:Nat)=>uK uN 5 140 1 false (rW .u16 cs)) (nm [5]) ?_ ?_
     ·
      refine A8 ?_;refine x9 rfl (fun h39=> ?_) (fun h39=> ?_)
      ·
       refine A4 ?_;refine R2 (x5 sl22 (i) (by omega) (gN (by omega))) rfl rfl ?_;refine A1 ?_;refine R1 (xa8 zgo (isS zgi) zah) rfl (R2 (xh3 (r:=((m1+(dig 65536 b).getD i 0:Nat):Int)) (by rw [wr64 (by omega) (by omega)];omega)) rfl rfl ?_);refine A2 ?_;exact kF (m1+(dig 65536 b).getD i 0) (by rw [xb])
      ·
       refine A1 ?_;exact kF (m1) (by rw [xv6 xa4 (by omega),zeh])
     ·
      intro m2 hm2;refine A4 ?_;refine R2 (ya4 (r:=((m2%65536:Nat):Int)) (by decide) (wrem64 (b:=65536))) rfl rfl (R1 (xa8 zgi (isS zgo) (wu16 (by omega) (by omega))) rfl (R1 (xu5 (n:=1) [m2%65536] zgf el140 zf140 rfl rfl rfl) rfl (RE (xb3 (k:=5) (k':=51) (ts':=rW .u16 (cs++[m2%65536])) zgf el140 zf140 rfl rfl (fun _=>inferInstance) xo7 (by simp;omega) (by simp;omega) (by simp [rW]) (n':=cs.length+1) rfl) ⟨rfl,rfl,trivial⟩ ⟨rfl,trivial⟩ ⟨rfl,trivial⟩ ?_)));refine A5 ?_;refine R2 (ya8 (r:=((m2 / 65536:Nat):Int)) (by decide) (iquo64 (b:=65536) (by omega))) rfl rfl ?_;refine A9 ?_;obtain ⟨n1,n2⟩:=yw5 (s:=m2) hn (by rw [hm2,hm1]);exact xe3 (l:=[5]) (zab 5 51) ((i+1,m2 / 65536,cs++[m2%65536])) ⟨(by dsimp only;exact ⟨hmore,n2,by rw [hcs];exact n1⟩),(by dsimp only;omega)⟩ (zaf rfl (zaf rfl ((zbc rfl (zaw (by dsimp only;rw [zbm];rfl))) (zas rfl (zas rfl zbd))))) ((zbb rfl (zat yf3.symm)) zbe) (zaj (zaj (zak rfl (zaj (zaj zar))))) (zam rfl (supJ xn3) zaz) (lkOk rfl) rfl rfl (fun _ h=>by cases h)
   ·
    refine A7 ?_;refine RE (xi6 (f:=fun n:Nat=>tE (.int .u16 n)) (xs:=cs) (fun _ h=>h) (y6 rfl) rfl) qA qA trivial ?_;refine A4 ?_;exact E1 rfl rfl (Le.of (congrArg tLm (by rw [hcs,jh6 hn (by omega) (by omega) (by omega) hi])))
theorem jt9 (a b:Nat) (hab:b<=a) (ha:(dig 65536 a).length<=100000):
  Ct Tryz.prog 227 [tM a,tM b] (tM (a - b)):=by
 refine Ct.intro func227 rfl ntmps227 rfl ?_;intro w F;refine A7 ?_;refine RE (xg1 (k:=5) 140 1 false rfl (fun _=>rfl)) trivial trivial qA ?_;refine A14 ?_;refine cL (fun (fm:(Nat)×(Nat)×(List Nat))=>(fun (i:Nat) (br:Nat) (cs:List Nat)=>i<=(dig 65536 a).length/\cs.length=i/\Dig 65536 cs/\val 65536 cs+b%65536 ^ i=a%65536 ^ i+br*65536 ^ i/\br<=1) fm.1 fm.2.1 fm.2.2) (wC fun (i:Nat) (br:Nat) (cs:List Nat)=>uV (uV (uO (uV (uV uN 0 (tM a)) 1 (tM b)) 5 (.sl 5 1 0 cs.length)) 6 (tI br)) 7 (tI i)) (wC fun (i:Nat) (br:Nat) (cs:List Nat)=>uK uN 5 140 1 false (rW .u16 cs)) [5] (fun (fm:(Nat)×(Nat)×(List Nat))=>(fun (i:Nat) (br:Nat) (cs:List Nat)=>(dig 65536 a).length - i) fm.1 fm.2.1 fm.2.2) ((0,0,[])) (by dsimp only;exact ⟨zbt _,rfl,Dig.nil _,by simp [val,Nat.mod_one],by omega⟩) ?_;intro fm hI;obtain ⟨i,br,cs⟩:=fm;replace hI:i<=(dig 65536 a).length/\cs.length=i/\Dig 65536 cs/\val 65536 cs+b%65536 ^ i=a%65536 ^ i+br*65536 ^ i/\br<=1:=hI;show wc _ _ _ _ (uV (uV (uO (uV (uV uN 0 (tM a)) 1 (tM b)) 5 (.sl 5 1 0 cs.length)) 6 (tI br)) 7 (tI i)) (uK uN 5 140 1 false (rW .u16 cs)) _;obtain ⟨hi,hl,hD,hv,hbr⟩:=hI;have xa:=xf8 xa4 a i;have xb:=xf8 xa4 b i;have xa1:=(xi2 xa4 a).getD (by decide) i;have xb1:=(xi2 xa4 b).getD (by decide) i;refine A9 ?_;refine x9 rfl (fun h52=> ?_) (fun h52=> ?_)
 ·
  refine A8 ?_;refine R2 (x5 sl22 (i) (by omega) (gN (by omega))) rfl rfl ?_;refine A1 ?_;refine R1 (xa8 zgo (isS zgi) zah) rfl (R2 (xh3 (r:=((65536+((dig 65536 a).getD i 0):Nat):Int)) (by rw [wr64 (by omega) (by omega)];omega)) rfl rfl ?_);refine A1 ?_;refine R2 (xh2 (r:=((65536+((dig 65536 a).getD i 0) - br:Nat):Int)) (by rw [wr64 (by omega) (by omega)];omega)) rfl rfl ?_;refine A3 ?_;refine xi4 (fun (m:Nat)=>m+br+b / 65536 ^ i%65536=65536+a / 65536 ^ i%65536) (fun (m:Nat)=>uV (uV (uV (uO (uV (uV uN 0 (tM a)) 1 (tM b)) 5 (.sl 5 1 0 cs.length)) 6 (tI br)) 7 (tI i)) 8 (tI m)) (fun (m:Nat)=>uK uN 5 140 1 false (rW .u16 cs)) (nm [5]) ?_ ?_
  ·
   refine A8 ?_;refine x9 rfl (fun h54=> ?_) (fun h54=> ?_)
   ·
    refine A4 ?_;refine R2 (x5 sl22 (i) (by omega) (gN (by omega))) rfl rfl ?_;refine A1 ?_;refine R1 (xa8 zgo (isS zgi) zah) rfl (R2 (xh2 (r:=((65536+((dig 65536 a).getD i 0) - br - ((dig 65536 b).getD i 0):Nat):Int)) (by rw [wr64 (by omega) (by omega)];omega)) rfl rfl ?_);refine A2 ?_;exact kF (65536+((dig 65536 a).getD i 0) - br - ((dig 65536 b).getD i 0)) (by omega)
   ·
    refine A1 ?_;exact kF (65536+((dig 65536 a).getD i 0) - br) (by rw [xv6 xa4 (v:=b) (i:=i) (by omega)];omega)
  ·
   intro m hm;refine A4 ?_;refine R2 (ya4 (r:=((m%65536:Nat):Int)) (by decide) (wrem64 (b:=65536))) rfl rfl (R1 (xa8 zgi (isS zgo) (wu16 (by omega) (by omega))) rfl (R1 (xu5 (n:=1) [m%65536] zgf el140 zf140 rfl rfl rfl) rfl (RE (xb3 (k:=5) (k':=39) (ts':=rW .u16 (cs++[m%65536])) zgf el140 zf140 rfl rfl (fun _=>inferInstance) xo7 (by simp;omega) (by simp;omega) (by simp [rW]) (n':=cs.length+1) rfl) ⟨rfl,rfl,trivial⟩ ⟨rfl,trivial⟩ ⟨rfl,trivial⟩ ?_)));refine A5 ?_;refine R2 (ya8 (r:=((m / 65536:Nat):Int)) (by decide) (iquo64 (b:=65536) (by omega))) rfl rfl (R2 (xh2 (r:=((1 - m / 65536:Nat):Int)) (by rw [wr64 (by omega) (by omega)];omega)) rfl rfl ?_);refine A9 ?_;obtain ⟨n1,n2,n3⟩:=j9 hl hv hbr hm;exact xe3 (l:=[5]) (zab 5 39) ((i+1,1 - m / 65536,cs++[m%65536])) ⟨(by dsimp only;exact ⟨by omega,by rw [zbm,hl];rfl,hD.append (Dig.cons (zfb _ (by decide)) (Dig.nil _)),n1,n3⟩),(by dsimp only;omega)⟩ (zaf rfl (zaf rfl ((zbc rfl (zaw (by dsimp only;rw [zbm];rfl))) (zas rfl (zas rfl zbd))))) ((zbb rfl (zat yf3.symm)) zbe) (zaj (zaj (zak rfl (zaj (zaj zar))))) (zam rfl (supJ xn3) zaz) (lkOk rfl) rfl rfl (fun _ h=>by cases h)
 ·
  refine A7 ?_;refine RE (xi6 (f:=fun n:Nat=>tE (.int .u16 n)) (xs:=cs) (fun _ h=>h) (y6 rfl) rfl) qA qA trivial (R1 (x4 (yr6 _) fi258 rfl) rfl ?_);refine A4 ?_;exact E1 rfl rfl (Le.of (congrArg tLm (by rw [show i=(dig 65536 a).length by omega] at hv hl;exact qt3 hl hD (xq8 xa4 a) hab hv)))
theorem we8 (a:Nat) (ha:(dig 65536 a).length<=200000):
  Ct Tryz.prog 226 [tM a] (tM (a / 2)):=by
 refine Ct.intro func226 rfl ntmps226 rfl ?_;intro w F;refine A9 ?_;refine RE (xi0 (k:=8) (t:=tE (.int .u16 0)) (ts:=rW .u16 (List.replicate ((dig 65536 a).length) 0)) ((dig 65536 a).length) ((dig 65536 a).length) zgf el140 (fun _ _=>rfl) rfl (by omega) (by omega) (zbq _) (by omega) (by omega) (z8 _)) qB trivial qA ?_;refine A18 ?_;refine cL (fun (fm:(Nat)×(Nat)×(List Nat))=>(fun (k:Nat) (n:Nat) (qs:List Nat)=>k<=(dig 65536 a).length/\qs.length=(dig 65536 a).length/\Dig 65536 qs/\n%2=a / 65536 ^ k%2/\val 65536 (qs.drop k)=a / 65536 ^ k / 2) fm.1 fm.2.1 fm.2.2) (wC fun (k:Nat) (n:Nat) (qs:List Nat)=>uV (uV (uO (uV uN 0 (tM a)) 3 (.sl 8 1 0 (dig 65536 a).length)) 4 (tI n)) 5 (tI ((k:Int) - 1))) (wC fun (k:Nat) (n:Nat) (qs:List Nat)=>uK uN 8 140 1 false (rW .u16 qs)) [8] (fun (fm:(Nat)×(Nat)×(List Nat))=>(fun (k:Nat) (n:Nat) (qs:List Nat)=>k) fm.1 fm.2.1 fm.2.2) (((dig 65536 a).length,0,List.replicate (dig 65536 a).length 0)) (by dsimp only;exact ⟨zbq _,by simp,Dig.rep (by decide) _,by rw [zdv (xq8 xa4 a)],by rw [zdv (xq8 xa4 a),Nat.zero_div,List.drop_replicate,y4]⟩) ?_;intro fm hI;obtain ⟨k,n,qs⟩:=fm;replace hI:k<=(dig 65536 a).length/\qs.length=(dig 65536 a).length/\Dig 65536 qs/\n%2=a / 65536 ^ k%2/\val 65536 (qs.drop k)=a / 65536 ^ k / 2:=hI;show wc _ _ _ _ (uV (uV (uO (uV uN 0 (tM a)) 3 (.sl 8 1 0 (dig 65536 a).length)) 4 (tI n)) 5 (tI ((k:Int) - 1))) (uK uN 8 140 1 false (rW .u16 qs)) _;obtain ⟨hk,hl,hD,hn,hv⟩:=hI;refine A7 ?_;refine x9 rfl (fun h82=> ?_) (fun h82=> ?_)
 ·
  obtain ⟨j,rfl⟩: ∃j,k=j+1:=⟨k - 1,by omega⟩
  have hx:=xf8 xa4 a j;have hx1:=(xi2 xa4 a).getD (by decide) j;obtain ⟨n1,n2,n3,n4,n5⟩:=w2 (k:=j) (by omega) hl hD hn hv rfl;rw [<-hx] at n1 n2 n3 n4 n5;refine A7 ?_;refine R2 (ya4 (r:=((n%2:Nat):Int)) (by decide) (wrem64 (b:=2))) rfl rfl (R2 (xj8 (r:=((n%2*65536:Nat):Int)) (by rw [wr64 (by omega) (by omega)];omega)) rfl rfl ?_);refine A2 ?_;refine R2 (x5 sl22 (j) (by omega) (gN (by omega))) rfl rfl ?_;refine A1 ?_;refine R1 (xa8 zgo (isS zgi) zah) rfl (R2 (xh3 (r:=(((n%2*65536+(dig 65536 a).getD j 0):Nat):Int)) (by rw [wr64 (by omega) (by omega)];omega)) rfl rfl ?_);refine A7 ?_;refine R2 (ya8 (r:=(((n%2*65536+(dig 65536 a).getD j 0) / 2:Nat):Int)) (by decide) (iquo64 (b:=2) (by omega))) rfl rfl (R1 (xa8 zgi (isS zgo) (wu16 (by omega) (by omega))) rfl (R2 (zag sl22 rfl) rfl rfl (RE (xc1 (j) ti140 (yr8 (by omega)) (by omega) (yg9 (m:=_) rfl)) qB qA trivial ?_)));refine A8 ?_;exact kF ((j,(n%2*65536+(dig 65536 a).getD j 0),qs.set j ((n%2*65536+(dig 65536 a).getD j 0) / 2))) ⟨(by dsimp only;exact ⟨by omega,n1,n2,n3,n4⟩),(by dsimp only;omega)⟩
 ·
  have hk0:k=0:=by omega
  subst hk0;rw [List.drop_zero,zft,Nat.div_one] at hv;refine A7 ?_;refine RE (xi6 (f:=fun n:Nat=>tE (.int .u16 n)) (xs:=qs) (fun _ h=>h) (y6 hl) hl) qA qA trivial (R1 (x4 (yr6 _) fi258 rfl) rfl ?_);refine A4 ?_;exact E1 rfl rfl (Le.of (congrArg tLm (by rw [xo2 xa4 hD,hv])))
instance fi187:FnI Tryz.prog 187:=⟨_,func187,by kernel_rfl,rfl⟩
instance fi223:FnI Tryz.prog 223:=⟨_,func223,by kernel_rfl,rfl⟩
instance fi224:FnI Tryz.prog 224:=⟨_,func224,by kernel_rfl,rfl⟩
instance fi225:FnI Tryz.prog 225:=⟨_,func225,by kernel_rfl,rfl⟩
instance fi226:FnI Tryz.prog 226:=⟨_,func226,by kernel_rfl,rfl⟩
instance fi227:FnI Tryz.prog 227:=⟨_,func227,by kernel_rfl,rfl⟩
theorem qs8 (q:Nat) (h:(dig 65536 q).length<=100000):Ct Tryz.prog 225 [tM q,tLm [1]] (tM (q+1)):=by
 have e:dig 65536 1=[1]:=by rw [xm2 xa4 (by decide),show (1:Nat) / 65536=0 by decide,xf3]
 have:=ys7 q 1 h (by rw [e];decide);rw [tM,tM,e] at this;exact this
theorem lenM {a b k:Nat} (h:a<=b) (hb:(dig 65536 b).length<=k):(dig 65536 a).length<=k:=zdc (xm3 xa4 h) hb
theorem wf4 {l:List Nat} (h:l.length=1):decide (((l.getD 0 0:Nat):Int)=1)=decide (l=[1]):=by
 obtain ⟨a,rfl⟩:=List.length_eq_one_iff.1 h;simp;omega
theorem qs1 (a b:Nat) (hb:0 < b) (ha:(dig 65536 a).length<=4000) (hbl:(dig 65536 b).length<=4000):
  Ct Tryz.prog 187 [tM a,tM b] (tT [tM (a / b),tM (a%b)]):=by
 refine Ct.intro func187 rfl ntmps187 rfl ?_;intro w F;refine A14 ?_;refine x9 rfl (fun h103=> ?_) (fun h103=> ?_)
 ·
  have hb0:=jv6 (b:=b) (by omega);have hbW:=(xi2 xa4 b).getD (by decide) 0;refine A4 ?_;refine R2 (x5 sl22 (0) (by omega) (gN (by omega))) rfl rfl ?_;refine A1 ?_;refine R1 (xa8 zgo (isS zgi) zah) rfl (R2 (x4 (jw6 a _ (by omega) (by omega) (by omega)) fi223 rfl) rfl rfl ?_);refine A8 ?_;exact E2 rfl rfl rfl (Le.of (by rw [hb0])) (Le.of (by rw [hb0]))
 ·
  refine A15 ?_;refine cL (fun (n:Nat)=>n=0∨b*2 ^ n<=a+a) (fun (n:Nat)=>uV (uV (uV (uV uN 0 (tM a)) 1 (tM b)) 6 (tI n)) 7 (tM (b*2 ^ n))) (fun (n:Nat)=>fun _=>none) [] (fun (n:Nat)=>a+1 - b*2 ^ n) (0) (.inl rfl) (hg:=(Sub.le rfl (Le.of (by first | rw [zft,zdr] | (dsimp only;rw [zft,zdr]))) (sI (sC (sC zay))))) ?_;intro n hI;have hn:n < 16*4001:=by
   rcases hI with h | h
   ·omega
   ·refine wh0 (a:=a+a) ?_ (by have:=yq1 ha ha;omega);exact zdc (Nat.le_mul_of_pos_left _ hb) h
  refine A5 ?_;refine R2 (x4 (qp7 a (b*2 ^ n)) fi224 rfl) rfl rfl ?_;refine A3 ?_;refine xc7 rfl (fun h107=> ?_) (fun h107=> ?_)
  ·
   have hle:b*2 ^ n<=a:=by
    have h:=h107;simp at h;exact h
   have hnl:=lenM hle ha;refine A7 ?_;refine R2 (x4 (ys7 (b*2 ^ n) (b*2 ^ n) (by omega) (by omega)) fi225 rfl) rfl rfl ?_;refine A9 ?_;have he:b*2 ^ n+b*2 ^ n=b*2 ^ (n+1):=by rw [zex,<-zfu,Nat.mul_two]
   have hp:0 < b*2 ^ n:=Nat.mul_pos hb (zfs (by decide));exact kF (n+1) ⟨(.inr (by omega)),(by show a+1 - b*2 ^ (n+1) < a+1 - b*2 ^ n;omega)⟩ (hg:=(Sub.le rfl (Le.of (by rw [he])) (sI (sC (sC zay)))))
  ·
   have hlt:a < b*2 ^ n:=by
    have h:=h107;simp at h;exact h
   have hnl:(dig 65536 (b*2 ^ n)).length<=4001:=by
    rcases hI with h | h
    ·rw [h,zft,zdr];omega
    ·exact lenM h (yq1 ha ha)
   refine A18 ?_;refine cL (fun (i:Nat)=>i<=n) (fun (i:Nat)=>uV (uV (uV (uV (uV uN 0 (tM a)) 1 (tM b)) 6 (tI n)) 8 (tM (b*2 ^ i))) 9 (tI i)) (fun (i:Nat)=>fun _=>none) [] (fun (i:Nat)=>n - i) (0) (zbt _) (hg:=(sI (Sub.le rfl (Le.of (by first | rw [zft,zdr] | (dsimp only;rw [zft,zdr]))) (sI (sC (sC zay)))))) ?_;intro i hJ;refine A8 ?_;refine x9 rfl (fun h111=> ?_) (fun h111=> ?_)
   ·
    have hil:(dig 65536 (b*2 ^ i)).length<=4001:=lenM (zge _ (Nat.pow_le_pow_right (by decide) (by omega))) hnl;refine A7 ?_;refine R2 (x4 (ys7 (b*2 ^ i) (b*2 ^ i) (by omega) (by omega)) fi225 rfl) rfl rfl ?_;refine A9 ?_;have he:b*2 ^ i+b*2 ^ i=b*2 ^ (i+1):=by rw [zex,<-zfu,Nat.mul_two]
    exact kF (i+1) ⟨(by omega),(by omega)⟩ (hg:=(sI (Sub.le rfl (Le.of (by rw [he])) (sI (sC (sC zay))))))
   ·
    refine A12 ?_;refine RE (xj0 (k:=43) (ents:=[]) zgf el140 zf140 rfl (by simp) rfl rfl rfl) trivial trivial qA ?_;refine A1 ?_;refine RE (xb3 (k:=43) (k':=45) (ts':=rW .u16 (dig 65536 a)) zgf el140 zf140 rfl rfl (fun _=>inferInstance) rfl (by simp;omega) (by simp;omega) (by simp [rW]) (n':=(dig 65536 a).length) (by simp)) ⟨rfl,rfl,trivial⟩ ⟨rfl,trivial⟩ ⟨rfl,trivial⟩ (RE (ym3 (f:=fun n:Nat=>tE (.int .u16 n)) (xs:=dig 65536 a) (fun _ h=>h) (y6 rfl) rfl) ⟨rfl,trivial⟩ ⟨rfl,trivial⟩ trivial ?_);refine A9 ?_;refine cL (fun (fm:(Nat)×(Nat)×(Nat)×(Nat))=>(fun (j:Nat) (q:Nat) (r:Nat) (d:Nat)=>j<=n/\d=b*2 ^ (n - j)/\a=q*d+r/\r < d) fm.1 fm.2.1 fm.2.2.1 fm.2.2.2) (wD fun (j:Nat) (q:Nat) (r:Nat) (d:Nat)=>uV (uV (uV (uV (uV uN 6 (tI n)) 8 (tM d)) 10 (tM q)) 11 (tM r)) 12 (tI j)) (wD fun (j:Nat) (q:Nat) (r:Nat) (d:Nat)=>fun _=>none) [] (fun (fm:(Nat)×(Nat)×(Nat)×(Nat))=>(fun (j:Nat) (q:Nat) (r:Nat) (d:Nat)=>n - j) fm.1 fm.2.1 fm.2.2.1 fm.2.2.2) ((0,0,a,b*2 ^ n)) (by dsimp only;exact ⟨zbt _,rfl,by omega,by omega⟩) (hg:=(sI (sC (Sub.le rfl (leNil (xf3 _)) (Sub.le rfl (Le.of (by first | rw [show i=n by omega] | (dsimp only;rw [show i=n by omega]))) (sI zay)))))) ?_;intro fm hK;obtain ⟨j,q,r,d⟩:=fm;replace hK:j<=n/\d=b*2 ^ (n - j)/\a=q*d+r/\r < d:=hK;show wc _ _ _ _ (uV (uV (uV (uV (uV uN 6 (tI n)) 8 (tM d)) 10 (tM q)) 11 (tM r)) 12 (tI j)) (fun _=>none) _;obtain ⟨hj,hd,hq,hr⟩:=hK;have hqa:q<=a:=by
     have h1:q*1<=q*d:=zge _ (by omega);omega
    have hql:=lenM hqa ha;have hdn:b*2 ^ (n - j)<=b*2 ^ n:=zge _ (Nat.pow_le_pow_right (by decide) (by omega));have hdl:(dig 65536 d).length<=4001:=by rw [<-hd] at hdn;exact lenM hdn hnl
    have hqq:=yq1 hql hql;refine A8 ?_;refine x9 rfl (fun h116=> ?_) (fun h116=> ?_)
    ·
     refine A7 ?_;refine R1 (x4 (we8 d (by omega)) fi226 rfl) rfl ?_;refine A7 ?_;refine R2 (x4 (ys7 q q (by omega) (by omega)) fi225 rfl) rfl rfl ?_;refine A7 ?_;refine R2 (x4 (qp7 r (d / 2)) fi224 rfl) rfl rfl ?_;refine A3 ?_;refine xc7 rfl (fun h119=> ?_) (fun h119=> ?_)
     ·
      have hge:d / 2<=r:=by
       have h:=h119;simp at h;exact h
      refine A4 ?_;refine R2 (x4 (jt9 r (d / 2) (by omega) (by have:=lenM (Nat.le_of_lt hr) hdl;omega)) fi227 rfl) rfl rfl ?_;refine A5 ?_;refine R1 (xu5 (n:=1) [1] zgf el140 zf140 rfl rfl rfl) rfl (R2 (x4 (qs8 (q+q) (by omega)) fi225 rfl) rfl rfl ?_);refine A9 ?_;obtain ⟨b1,b2,b3⟩:=qj2 (by omega) hd hq hr;obtain ⟨b4,b5,b6⟩:=b3 (by omega);exact kF ((j+1,q+q+1,r - d / 2,d / 2)) ⟨(by dsimp only;exact ⟨by omega,b1,b4,b5⟩),(by dsimp only;omega)⟩
     ·
      have hge:r < d / 2:=by
       have h:=h119;simp at h;exact h
      refine A8 ?_;obtain ⟨b1,b2,b3⟩:=qj2 (by omega) hd hq hr;exact kF ((j+1,q+q,r,d / 2)) ⟨(by dsimp only;exact ⟨by omega,b1,b2 (by omega),by omega⟩),(by dsimp only;omega)⟩
    ·
     have hdb:d=b:=by rw [hd,show n - j=0 by omega,zft,zdr]
     rw [hdb] at hq hr;obtain ⟨e1,e2⟩:=jw1 hq hr;refine A14 ?_;exact E2 rfl rfl rfl (Le.of (by rw [e1])) (Le.of (by rw [e2]))
theorem qz1 (a b:Nat) (ha:(dig 65536 a).length<=4000) (hb:(dig 65536 b).length<=4000):
  Ct Tryz.prog 129 [tM a,tM b] (tM (Nat.gcd a b)):=by
 refine Ct.intro func129 rfl ntmps129 rfl ?_;intro w F;refine A7 ?_;refine cL (fun (fm:(Nat)×(Nat))=>(fun (x:Nat) (y:Nat)=>Nat.gcd x y=Nat.gcd a b/\(dig 65536 x).length<=4000/\(dig 65536 y).length<=4000) fm.1 fm.2) (wB fun (x:Nat) (y:Nat)=>uV (uV uN 0 (tM x)) 1 (tM y)) (wB fun (x:Nat) (y:Nat)=>fun _=>none) [] (fun (fm:(Nat)×(Nat))=>(fun (x:Nat) (y:Nat)=>y) fm.1 fm.2) ((a,b)) (by dsimp only;exact ⟨rfl,ha,hb⟩) ?_;intro fm hI;obtain ⟨x,y⟩:=fm;replace hI:Nat.gcd x y=Nat.gcd a b/\(dig 65536 x).length<=4000/\(dig 65536 y).length<=4000:=hI;show wc _ _ _ _ (uV (uV uN 0 (tM x)) 1 (tM y)) (fun _=>none) _;obtain ⟨hg,hx,hy⟩:=hI;refine A8 ?_;refine x9 rfl (fun h261=> ?_) (fun h261=> ?_)
 ·
  have hy0:0 < y:=by have:=jb0.1 h261;omega
  refine A7 ?_;refine R2 (x4 (qs1 x y hy0 hx hy) fi187 rfl) rfl rfl ?_;refine A18 ?_;have hlt:x%y < y:=zfb _ hy0;exact kF ((y,x%y)) ⟨(by dsimp only;exact ⟨by rw [zgb,<-Nat.gcd_rec,zgb];exact hg,hy,lenM (Nat.le_of_lt hlt) hy⟩),(by dsimp only;omega)⟩
 ·
  have hy0:y=0:=zfq fun h=>h261 (jb0.2 h);refine A12 ?_;exact E1 rfl rfl (Le.of (by rw [<-hg,hy0,Nat.gcd_zero_right]))
theorem c_Rone (l:List Nat):
  Ct Tryz.prog 128 [tLm l] (tB (decide (l=[1]))):=by
 refine Ct.intro func128 rfl ntmps128 rfl ?_;intro w F;refine A11 ?_;refine RGcaseD (t:=6) rfl (fun h24=> ?_) (fun h24=> ?_)
 ·
  refine A1 ?_;refine Rg (zbf h24) rfl (x5 sl22 (0) (by omega) (gN (by omega))) rfl qB ?_;refine A7 ?_;exact E1 rfl rfl (zau (wf4 (by omega)))
 ·
  refine A9 ?_;exact E1 rfl rfl (zau (zbg (fun h=>h24 (by rw [h];rfl))).symm)
end An.S
namespace An
open Go
end An
namespace An.S
open Go Go.Proofs An Tryz
instance fi126:FnI Tryz.prog 126:=⟨_,func126,by kernel_rfl,rfl⟩
instance fi127:FnI Tryz.prog 127:=⟨_,func127,by kernel_rfl,rfl⟩
instance fi128:FnI Tryz.prog 128:=⟨_,func128,by kernel_rfl,rfl⟩
instance fi129:FnI Tryz.prog 129:=⟨_,func129,by kernel_rfl,rfl⟩
theorem zz1 (x:Wh):
  Ct Tryz.prog 126 [tWh x] (tB x.valid):=by
 refine Ct.intro func126 rfl ntmps126 rfl ?_;intro w F;refine A15 ?_;refine x9 rfl (fun h142=> ?_) (fun h142=> ?_)
 ·
  refine A10 ?_;exact E1 rfl rfl (zau (by simp only [Wh.valid];rw [if_pos (by omega)]))
 ·
  refine A3 ?_;refine xg9 (s:=4) rfl (fun hl4=> ?_);refine A6 ?_;refine RGcaseD (t:=14) rfl (fun h145=> ?_) (fun h145=> ?_)
  ·
   refine A5 ?_;refine Rg (zbf h145) rfl (xh2 zah) rfl qB (Rg (zbf h145) rfl (x5 sl22 (x.l.length - 1) (by omega) (gN (by omega))) rfl qB ?_);refine A7 ?_;exact E1 rfl rfl (zau (by simp only [Wh.valid];rw [if_neg (by omega),zbf (show x.l.length<=1024 by omega),zdq];exact zeq.2 (by omega)))
  ·
   refine A14 ?_;exact E1 rfl rfl (zau (by simp only [Wh.valid];rw [if_neg (by omega),zbg (show ¬x.l.length<=1024 by omega),zfj]))
theorem we9 {x:Int}:(wh x).l.length=0↔x=0:=by
 show (dig 65536 x.natAbs).length=0↔_;rw [zde,xm9 xa4];omega
theorem wd9 (f:Fr):
  Ct Tryz.prog 127 [tFr f] (tB f.sh):=by
 refine Ct.intro func127 rfl ntmps127 rfl ?_;intro w F;refine A10 ?_;refine xn7 (0) ti22 rfl rfl rfl (At.t (At.g 0 rfl rfl) (At.g 1 rfl rfl)) rfl ?_;refine A3 ?_;refine RGcaseD (t:=8) rfl (fun h27=> ?_) (fun h27=> ?_)
 ·
  refine A2 ?_;refine xb9 (zbf h27) rfl rfl (0) ti22 rfl rfl rfl (At.t (At.g 1 rfl rfl) (At.g 1 rfl rfl)) rfl ?_;refine A7 ?_;exact E1 rfl rfl (zau (by rw [Fr.sh,zbf (show f.n.l.length<=256 by omega),zdq];exact zeq.2 (by omega)))
 ·
  refine A10 ?_;exact E1 rfl rfl (zau (by rw [Fr.sh,zbg (show ¬f.n.l.length<=256 by omega)];rfl))
theorem jq5 {x y:Int}:decide (dig 65536 (Nat.gcd x.natAbs y.natAbs)=[1])=decide (Int.gcd x y=1):=by
 have h1:dig 65536 1=[1]:=by rw [xm2 xa4 (by decide),show (1:Nat) / 65536=0 by decide,xf3]
 refine zeq.2 ⟨fun h=> ?_,fun h=> ?_⟩
 ·rw [<-h1] at h;have h2:=congrArg (val 65536) h;rw [xn5 xa4,xn5 xa4] at h2;exact h2
 ·have h:Nat.gcd x.natAbs y.natAbs=1:=h;rw [h,h1]
theorem zn0 (f:Fr) (hn:Dig 65536 f.n.l) (hd:Dig 65536 f.d.l):
  Ct Tryz.prog 72 [tFr f] (tB f.valid):=by
 obtain ⟨n,d⟩:=f;replace hn:Dig 65536 n.l:=hn;replace hd:Dig 65536 d.l:=hd;refine Ct.intro func72 rfl ntmps72 rfl ?_;intro w F;refine A11 ?_;refine R1 (x4 (zz1 n) fi126 rfl) rfl ?_;refine A2 ?_;refine RGcase (t:=7) rfl (fun h39=> ?_) (fun h39=> ?_)
 ·
  have hv1:n.valid=false:=by simpa using h39
  refine A18 ?_;refine A14 ?_;exact E1 rfl rfl (zau (by simp only [Fr.valid,hv1,Bool.and_false,zfj]))
 ·
  have hv1:n.valid=true:=by simpa using h39
  refine A2 ?_;refine Rg h39 rfl (x4 (zz1 d) fi126 rfl) rfl qA ?_;refine A3 ?_;refine RGcase (t:=13) rfl (fun h39_2=> ?_) (fun h39_2=> ?_)
  ·
   have hv2:d.valid=false:=by simpa using h39_2
   refine A18 ?_;refine A8 ?_;exact E1 rfl rfl (zau (by simp only [Fr.valid,hv2,Bool.and_false,zfj]))
  ·
   have hv2:d.valid=true:=by simpa using h39_2
   obtain ⟨x,rfl,hxl⟩:=Wh.of_valid hn hv1;obtain ⟨y,rfl,hyl⟩:=Wh.of_valid hd hv2;have ix:=y8 x;have iy:=y8 y;refine A1 ?_;refine Rg h39_2 rfl (x4 (wd9 _) fi127 rfl) rfl qA ?_;refine A3 ?_;refine RGcase (t:=18) rfl (fun h39_3=> ?_) (fun h39_3=> ?_)
   ·
    have hs:(⟨wh x,wh y⟩:Fr).sh=false:=by simpa using h39_3
    refine A18 ?_;refine A3 ?_;exact E1 rfl rfl (zau (by simp only [Fr.valid,hs,zfj]))
   ·
    have hs:(⟨wh x,wh y⟩:Fr).sh=true:=by simpa using h39_3
    refine A2 ?_;refine xb9 h39_3 rfl rfl (0) ti4 rfl rfl rfl (At.t (At.g 1 rfl rfl) (At.g 0 rfl rfl)) rfl ?_;refine A2 ?_;refine RGcase (t:=23) rfl (fun h39_4=> ?_) (fun h39_4=> ?_)
    ·
     have hy0: ¬0 < y:=by have:y < 0:=zdt h39_4;omega
     refine A16 ?_;exact E1 rfl rfl (zau (by simp only [Fr.valid,ix,iy,zbg hy0,Bool.and_false,zfj]))
    ·
     refine A2 ?_;refine xb9 h39_4 rfl rfl (0) ti22 rfl rfl rfl (At.t (At.g 1 rfl rfl) (At.g 1 rfl rfl)) rfl ?_;refine A5 ?_;refine x9 rfl (fun h39_5=> ?_) (fun h39_5=> ?_)
     ·
      have h5:(((wh y).l.length:Nat):Int)=0:=h39_5;have hy0: ¬0 < y:=fun h=>by have:=we9.1 (show (wh y).l.length=0 by omega);omega
      refine A7 ?_;exact E1 rfl rfl (zau (by simp only [Fr.valid,ix,iy,zbg hy0,Bool.and_false,zfj]))
     ·
      have h5: ¬(((wh y).l.length:Nat):Int)=0:=h39_5;have hy0:0 < y:=zk6 h39_4 (by omega);refine A6 ?_;refine xn7 (0) ti22 rfl rfl rfl (At.t (At.g 0 rfl rfl) (At.g 1 rfl rfl)) rfl ?_;refine A2 ?_;refine xn7 (0) ti22 rfl rfl rfl (At.t (At.g 1 rfl rfl) (At.g 1 rfl rfl)) rfl (R2 (x4 (qz1 x.natAbs y.natAbs (by show len16 x<=4000;omega) (by show len16 y<=4000;omega)) fi129 rfl) rfl rfl (R1 (x4 (c_Rone _) fi128 rfl) rfl ?_));refine A4 ?_;exact E1 rfl rfl (zau (by simp only [Fr.valid,ix,iy,hs,hv1,hv2,zbf hy0,zdq];exact jq5))
instance fi71:FnI Tryz.prog 71:=⟨_,func71,by kernel_rfl,rfl⟩
instance fi72:FnI Tryz.prog 72:=⟨_,func72,by kernel_rfl,rfl⟩
theorem fr0_eq {f:Fr} (h1:f.n.neg=false) (h2:f.d.neg=false) (h3:f.n.l.length=0) (h4:f.d.l.length=0):f=fr0:=by
 obtain ⟨⟨n1,l1⟩,⟨n2,l2⟩⟩:=f;simp only at h1 h2 h3 h4;rw [h1,h2,zde.1 h3,zde.1 h4];rfl
theorem fr0_ne {f:Fr} (h:f.n.neg=true∨f.d.neg=true∨0 < f.n.l.length∨0 < f.d.l.length):f≠fr0:=by
 rintro rfl;rcases h with h | h | h | h <;> cases h
theorem qu3 {v:Va} (h1: ¬(v.kind=2∨v.kind=3)) (h2:v.f≠fr0):v.valid=false:=by
 simp only [Va.valid];rw [if_neg h1,zbg h2];simp
theorem qs7 {u v:Va}:u=v↔u.kind=v.kind/\u.i=v.i/\u.f.n=v.f.n/\u.f.d=v.f.d:=by
 constructor
 ·rintro rfl;exact ⟨rfl,rfl,rfl,rfl⟩
 ·obtain ⟨k,⟨n,d⟩,i⟩:=u;obtain ⟨k2,⟨n2,d2⟩,i2⟩:=v;rintro ⟨h1,h2,h3,h4⟩;simp only at h1 h2 h3 h4;rw [h1,h2,h3,h4]
theorem zo9 (v:Va) (hD:v.f.dig) (h1:v.f.n.l.length<=1048576) (h2:v.f.d.l.length<=1048576):
  Ct Tryz.prog 39 [tVa v] (tB v.valid):=by
 refine Ct.intro func39 rfl ntmps39 rfl ?_;intro w F;refine A13 ?_;refine RGcaseD (t:=6) rfl (fun h14=> ?_) (fun h14=> ?_)
 ·
  refine A13 ?_;refine RGcaseD (t:=14) rfl (fun h15=> ?_) (fun h15=> ?_)
  ·
   refine A2 ?_;refine Rg (zbf h15) rfl (x4 (zn0 v.f hD.1 hD.2) fi72 rfl) rfl qA ?_;refine A6 ?_;exact E1 rfl rfl (zau (by simp only [Va.valid];rw [if_pos (show v.kind=2∨v.kind=3 by omega),zbf h15,zdq]))
  ·
   refine A9 ?_;exact E1 rfl rfl (zau (by simp only [Va.valid];rw [if_pos (show v.kind=2∨v.kind=3 by omega),zbg h15];rfl))
 ·
  refine A6 ?_;refine x9 rfl (fun h14_2=> ?_) (fun h14_2=> ?_)
  ·
   refine A6 ?_;refine RGcaseD (t:=14) rfl (fun h15=> ?_) (fun h15=> ?_)
   ·
    refine A2 ?_;refine Rg (zbf h15) rfl (x4 (zn0 v.f hD.1 hD.2) fi72 rfl) rfl qA ?_;refine A6 ?_;exact E1 rfl rfl (zau (by simp only [Va.valid];rw [if_pos (show v.kind=2∨v.kind=3 by omega),zbf h15,zdq]))
   ·
    refine A9 ?_;exact E1 rfl rfl (zau (by simp only [Va.valid];rw [if_pos (show v.kind=2∨v.kind=3 by omega),zbg h15];rfl))
  ·
   refine A8 ?_;refine xn7 (0) ti4 rfl rfl rfl (At.t (At.g 1 rfl rfl) (At.t (At.g 0 rfl rfl) (At.g 0 rfl rfl))) rfl ?_;refine A1 ?_;refine RGcase (t:=23) rfl (fun h17=> ?_) (fun h17=> ?_)
   ·
    have hnf:v.f≠fr0:=fr0_ne (.inl h17);refine A18 ?_;refine A11 ?_;exact E1 rfl rfl (zau (qu3 (by omega) hnf).symm)
   ·
    refine A3 ?_;refine xb9 h17 rfl rfl (0) ti4 rfl rfl rfl (At.t (At.g 1 rfl rfl) (At.t (At.g 1 rfl rfl) (At.g 0 rfl rfl))) rfl ?_;refine A2 ?_;refine RGcase (t:=29) rfl (fun h17_2=> ?_) (fun h17_2=> ?_)
    ·
     have hnf:v.f≠fr0:=fr0_ne (.inr (.inl h17_2));refine A18 ?_;refine A5 ?_;exact E1 rfl rfl (zau (qu3 (by omega) hnf).symm)
    ·
     refine A3 ?_;refine xb9 h17_2 rfl rfl (0) ti22 rfl rfl rfl (At.t (At.g 1 rfl rfl) (At.t (At.g 0 rfl rfl) (At.g 1 rfl rfl))) rfl ?_;refine A4 ?_;refine xb9 h17_2 rfl rfl (0) ti22 rfl rfl rfl (At.t (At.g 1 rfl rfl) (At.t (At.g 1 rfl rfl) (At.g 1 rfl rfl))) rfl ?_;refine A1 ?_;refine Rg h17_2 rfl (xh3 zah) rfl qB ?_;refine A4 ?_;refine x9 rfl (fun h17_3=> ?_) (fun h17_3=> ?_)
     ·
      have hnf:v.f≠fr0:=fr0_ne (by omega);refine A7 ?_;exact E1 rfl rfl (zau (qu3 (by omega) hnf).symm)
     ·
      have hf0:v.f=fr0:=fr0_eq h17 h17_2 (by omega) (by omega);refine A16 ?_;refine x9 rfl (fun h21=> ?_) (fun h21=> ?_)
      ·
       refine A6 ?_;refine RGcaseD (t:=50) rfl (fun h22=> ?_) (fun h22=> ?_)
       ·
        refine A10 ?_;exact E1 rfl rfl (zau (by simp only [Va.valid];rw [if_neg (show ¬(v.kind=2∨v.kind=3) by omega),if_pos (show v.kind=1 by omega),zbf hf0,zdq,zbf (show 0<=v.i by omega),zbf (show v.i<=1 by omega)];rfl))
       ·
        refine A10 ?_;exact E1 rfl rfl (zau (by simp only [Va.valid];rw [if_neg (show ¬(v.kind=2∨v.kind=3) by omega),if_pos (show v.kind=1 by omega),zbf hf0,zdq,<-Bool.decide_and];exact zeq.2 (by omega)))
      ·
       refine A6 ?_;refine x9 rfl (fun h23=> ?_) (fun h23=> ?_)
       ·
        refine A6 ?_;refine RGcaseD (t:=60) rfl (fun h24=> ?_) (fun h24=> ?_)
        ·
         refine A10 ?_;exact E1 rfl rfl (zau (by simp only [Va.valid];rw [if_neg (show ¬(v.kind=2∨v.kind=3) by omega),if_neg (show ¬v.kind=1 by omega),if_pos (show v.kind=4 by omega),zbf hf0,zdq,<-Bool.decide_and];exact zeq.2 (by omega)))
        ·
         refine A10 ?_;exact E1 rfl rfl (zau (by simp only [Va.valid];rw [if_neg (show ¬(v.kind=2∨v.kind=3) by omega),if_neg (show ¬v.kind=1 by omega),if_pos (show v.kind=4 by omega),zbf hf0,zdq,zbg (show ¬0<=v.i by omega)];rfl))
       ·
        refine A7 ?_;refine x9 rfl (fun h25=> ?_) (fun h25=> ?_)
        ·
         refine A2 ?_;refine yn3 rfl (zbf (by omega)) ?_;refine A6 ?_;refine RGcaseD (t:=71) rfl (fun h26=> ?_) (fun h26=> ?_)
         ·
          refine A10 ?_;exact E1 rfl rfl (zau (by simp only [Va.valid];rw [if_neg (show ¬(v.kind=2∨v.kind=3) by omega),if_neg (show ¬v.kind=1 by omega),if_neg (show ¬v.kind=4 by omega),if_pos (show v.kind=5∨v.kind=6 by omega),zbf hf0,zdq,<-Bool.decide_and];exact zeq.2 (by omega)))
         ·
          refine A10 ?_;exact E1 rfl rfl (zau (by simp only [Va.valid];rw [if_neg (show ¬(v.kind=2∨v.kind=3) by omega),if_neg (show ¬v.kind=1 by omega),if_neg (show ¬v.kind=4 by omega),if_pos (show v.kind=5∨v.kind=6 by omega),zbf hf0,zdq,zbg (show ¬ -1048576<=v.i by omega)];rfl))
        ·
         refine A5 ?_;refine x9 rfl (fun h25_2=> ?_) (fun h25_2=> ?_)
         ·
          refine A6 ?_;refine RGcaseD (t:=71) rfl (fun h26=> ?_) (fun h26=> ?_)
          ·
           refine A10 ?_;exact E1 rfl rfl (zau (by simp only [Va.valid];rw [if_neg (show ¬(v.kind=2∨v.kind=3) by omega),if_neg (show ¬v.kind=1 by omega),if_neg (show ¬v.kind=4 by omega),if_pos (show v.kind=5∨v.kind=6 by omega),zbf hf0,zdq,<-Bool.decide_and];exact zeq.2 (by omega)))
          ·
           refine A10 ?_;exact E1 rfl rfl (zau (by simp only [Va.valid];rw [if_neg (show ¬(v.kind=2∨v.kind=3) by omega),if_neg (show ¬v.kind=1 by omega),if_neg (show ¬v.kind=4 by omega),if_pos (show v.kind=5∨v.kind=6 by omega),zbf hf0,zdq,zbg (show ¬ -1048576<=v.i by omega)];rfl))
         ·
          refine A9 ?_;exact E1 rfl rfl (zau (by simp only [Va.valid];rw [if_neg (show ¬(v.kind=2∨v.kind=3) by omega),if_neg (show ¬v.kind=1 by omega),if_neg (show ¬v.kind=4 by omega),if_neg (show ¬(v.kind=5∨v.kind=6) by omega)]))
theorem zp2 (x y:Wh) (hx:x.l.length<=1048576):
  Ct Tryz.prog 71 [tWh x,tWh y] (tB (decide (x=y))):=by
 refine Ct.intro func71 rfl ntmps71 rfl ?_;intro w F;refine A16 ?_;refine RGcase (t:=11) rfl (fun h33=> ?_) (fun h33=> ?_)
 ·
  have hn:x.neg≠y.neg:=fun h=>by rw [h] at h33;simp at h33
  refine A18 ?_;exact E1 rfl rfl (zau (zbg (fun h=>hn (by rw [h]))).symm)
 ·
  have hn:x.neg=y.neg:=by simpa using h33
  refine A10 ?_;refine x9 rfl (fun h33_2=> ?_) (fun h33_2=> ?_)
  ·
   refine A7 ?_;exact E1 rfl rfl (zau (zbg (fun h=>by rw [h] at h33_2;omega)).symm)
  ·
   have hll:x.l.length=y.l.length:=by omega
   refine A9 ?_;refine cL (fun (i:Nat)=>i<=x.l.length/\x.l.take i=y.l.take i) (fun (i:Nat)=>uV (uO (uO uN 2 (.ptr 2 0)) 3 (.ptr 3 0)) 5 (tI i)) (fun (i:Nat)=>uK (uK uN 2 24 2 true [.val (tWh x)]) 3 24 2 true [.val (tWh y)]) [2,3] (fun (i:Nat)=>x.l.length - i) (0) ⟨zbt _,rfl⟩ ?_;intro i hI;obtain ⟨hi,ht⟩:=hI;refine A10 ?_;refine x9 rfl (fun h36=> ?_) (fun h36=> ?_)
   ·
    refine A9 ?_;refine R2 (x5 sl22 (i) (by omega) (gN (by omega))) rfl rfl ?_;refine A4 ?_;refine R2 (x5 sl22 (i) (by omega) (gN (by omega))) rfl rfl ?_;refine A4 ?_;refine x9 rfl (fun h37=> ?_) (fun h37=> ?_)
    ·
     refine A11 ?_;exact E1 rfl rfl (zau (zbg (fun h=>by rw [h] at h37;omega)).symm)
    ·
     refine A8 ?_;exact kF (i+1) ⟨⟨by omega,by rw [xf7 x.l i (by omega),xf7 y.l i (by omega),ht,show x.l.getD i 0=y.l.getD i 0 by omega]⟩,(by omega)⟩
   ·
    refine A11 ?_;exact E1 rfl rfl (zau (zbf (by rw [show i=x.l.length by omega,zcf,hll,zcf] at ht;obtain ⟨a,b⟩:=x;obtain ⟨c,d⟩:=y;simp only at hn ht;rw [hn,ht])).symm)
theorem yj5 (u v:Va) (h1:u.f.n.l.length<=1048576) (h2:u.f.d.l.length<=1048576):
  Ct Tryz.prog 38 [tVa u,tVa v] (tB (decide (u=v))):=by
 refine Ct.intro func38 rfl ntmps38 rfl ?_;intro w F;refine A15 ?_;refine RGcaseD (t:=10) rfl (fun h46=> ?_) (fun h46=> ?_)
 ·
  refine A7 ?_;refine RGcaseD (t:=17) rfl (fun h46_2=> ?_) (fun h46_2=> ?_)
  ·
   refine A2 ?_;refine xb9 (zbf h46_2) rfl rfl (0) ti24 rfl rfl rfl (At.t (At.g 1 rfl rfl) (At.g 0 rfl rfl)) rfl ?_;refine A2 ?_;refine xb9 (zbf h46_2) rfl rfl (0) ti24 rfl rfl rfl (At.t (At.g 1 rfl rfl) (At.g 0 rfl rfl)) rfl (Rg (zbf h46_2) rfl (x4 (zp2 _ _ h1) fi71 rfl) rfl qB ?_);refine A2 ?_;refine RGcaseD (t:=26) rfl (fun h46_3=> ?_) (fun h46_3=> ?_)
   ·
    refine A2 ?_;refine xb9 (zbf h46_3) rfl rfl (0) ti24 rfl rfl rfl (At.t (At.g 1 rfl rfl) (At.g 1 rfl rfl)) rfl ?_;refine A2 ?_;refine xb9 (zbf h46_3) rfl rfl (0) ti24 rfl rfl rfl (At.t (At.g 1 rfl rfl) (At.g 1 rfl rfl)) rfl (Rg (zbf h46_3) rfl (x4 (zp2 _ _ h2) fi71 rfl) rfl qB ?_);refine A5 ?_;exact E1 rfl rfl (zau (zeq.2 (by rw [qs7];exact ⟨fun h=>⟨by omega,by omega,h46_3,h⟩,fun h=>h.2.2.2⟩)))
   ·
    refine A12 ?_;exact E1 rfl rfl (zau (zbg (fun h=>h46_3 (qs7.1 h).2.2.1)).symm)
  ·
   refine A18 ?_;refine A3 ?_;exact E1 rfl rfl (zau (zbg (fun h=>h46_2 (qs7.1 h).2.1)).symm)
 ·
  refine A18 ?_;refine A10 ?_;exact E1 rfl rfl (zau (zbg (fun h=>h46 (by rw [h]))).symm)
instance fi38:FnI Tryz.prog 38:=⟨_,func38,by kernel_rfl,rfl⟩
instance fi39:FnI Tryz.prog 39:=⟨_,func39,by kernel_rfl,rfl⟩
theorem zn9 (f:Fa) (hD:f.v.f.dig) (h1:f.v.f.n.l.length<=1048576) (h2:f.v.f.d.l.length<=1048576):
  Ct Tryz.prog 9 [tFa f] (tB (fRight f)):=by
 refine Ct.intro func9 rfl ntmps9 rfl ?_;intro w F;refine A11 ?_;refine R1 (z6 zgu) rfl ?_;refine A2 ?_;refine RGcaseD (t:=7) rfl (fun h13=> ?_) (fun h13=> ?_)
 ·
  refine A18 ?_;refine A18 ?_;refine A6 ?_;exact E1 rfl rfl (zau (by symm;rw [Bool.eq_false_iff];intro hr;simp only [fRight,zbv,zbw] at hr;first | omega | (simp_all;done) | (simp at*;omega)))
 ·
  refine A2 ?_;refine Rg (zbg h13) rfl (z6 zgu) rfl qA ?_;refine A3 ?_;refine RGcaseD (t:=13) rfl (fun h13_2=> ?_) (fun h13_2=> ?_)
  ·
   refine A18 ?_;refine A18 ?_;exact E1 rfl rfl (zau (by symm;rw [Bool.eq_false_iff];intro hr;simp only [fRight,zbv,zbw] at hr;first | omega | (simp_all;done) | (simp at*;omega)))
  ·
   refine A5 ?_;refine RGcaseD (t:=18) rfl (fun h13_3=> ?_) (fun h13_3=> ?_)
   ·
    refine A18 ?_;refine A13 ?_;exact E1 rfl rfl (zau (by symm;rw [Bool.eq_false_iff];intro hr;simp only [fRight,zbv,zbw] at hr;first | omega | (simp_all;done) | (simp at*;omega)))
   ·
    refine A7 ?_;refine RGcaseD (t:=25) rfl (fun h13_4=> ?_) (fun h13_4=> ?_)
    ·
     refine A18 ?_;refine A6 ?_;exact E1 rfl rfl (zau (by symm;rw [Bool.eq_false_iff];intro hr;simp only [fRight,zbv,zbw] at hr;first | omega | (simp_all;done) | (simp at*;omega)))
    ·
     refine A5 ?_;refine RGcaseD (t:=30) rfl (fun h13_5=> ?_) (fun h13_5=> ?_)
     ·
      refine A18 ?_;refine A1 ?_;exact E1 rfl rfl (zau (by symm;rw [Bool.eq_false_iff];intro hr;simp only [fRight,zbv,zbw] at hr;first | omega | (simp_all;done) | (simp at*;omega)))
     ·
      refine A5 ?_;refine RGcaseD (t:=35) rfl (fun h13_6=> ?_) (fun h13_6=> ?_)
      ·
       refine A14 ?_;exact E1 rfl rfl (zau (by symm;rw [Bool.eq_false_iff];intro hr;simp only [fRight,zbv,zbw] at hr;first | omega | (simp_all;done) | (simp at*;omega)))
      ·
       refine A6 ?_;refine x9 rfl (fun h13_7=> ?_) (fun h13_7=> ?_)
       ·
        refine A7 ?_;exact E1 rfl rfl (zau (by symm;rw [Bool.eq_false_iff];intro hr;simp only [fRight,zbv,zbw] at hr;first | omega | (simp_all;done) | (simp at*;omega)))
       ·
        refine A9 ?_;refine xc7 rfl (fun h16=> ?_) (fun h16=> ?_)
        ·
         refine A4 ?_;refine R0 (xd3 (r:=tS [⟨1,false,(tE (.int .u8 0))⟩,⟨4,true,zad⟩,⟨1,false,(tE (.int .i64 0))⟩]) (ts:=[]) bu28 zr28.2 zao) (R2 (x4 (yj5 f.v An.va0 h1 h2) fi38 rfl) rfl rfl ?_);refine A5 ?_;exact E1 rfl rfl (zau (by rw [fRight];simp only [Bool.not_eq_false',zbv,zbw, *] at*;simp;omega))
        ·
         refine A6 ?_;refine R1 (x4 (zo9 f.v hD h1 h2) fi39 rfl) rfl ?_;refine A4 ?_;exact E1 rfl rfl (zau (by rw [fRight];simp only [Bool.not_eq_false',zbv,zbw, *] at*;simp;omega))
end An.S
namespace An.S
open Go
theorem za1 {g h:Int->Option Va}: ∀{ds:List Int},(∀x∈ds,g x=h x)->segL g ds=segL h ds
 | [],_=>rfl
 | [_],_=>rfl
 | x::y::r,he=>by rw [segL,segL,he x (zby ..),za1 (ds:=y::r) fun z hz=>he z (zcd _ hz)]
theorem segF2 {T:List Fa} {ds:List Int} (hp:ds.Pairwise (· < ·)) (ha: ∀f∈T,f.lo∈ds/\f.hi∈ds) (d:Int):valT (segL (gF T) ds) d=gF T d:=by
 have hv:=yk0 hp (qt5 (T:=T) (pre:=[]) hp ha);by_cases h1: ∃x∈ds,x<=d
 ·by_cases h2: ∃y∈ds,d < y
  ·exact hv.1 d h1 h2
  ·have h3: ∀y∈ds,y<=d:=fun y hy=>Int.not_lt.1 fun h'=>h2 ⟨y,hy,h'⟩;rw [hv.2 d (.inr h3),gF,xo4 fun f hf h'=>by have:=h3 _ (ha f hf).2;omega];rfl
 ·have h3: ∀x∈ds,d < x:=fun x hx=>Int.not_le.1 fun h'=>h1 ⟨x,hx,h'⟩;rw [hv.2 d (.inl h3),gF,xo4 fun f hf h'=>by have:=h3 _ (ha f hf).1;omega];rfl
theorem wd4 {T U:List Fa} {ds:List Int} (hp:ds.Pairwise (· < ·)) (hT: ∀f∈T,f.lo∈ds/\f.hi∈ds) (hU: ∀f∈U,f.lo∈ds/\f.hi∈ds) (h: ∀x∈ds,gF T x=gF U x):vwT T=vwT U:=
 zz4 fun d=>by rw [<-segF2 hp hT,<-segF2 hp hU,za1 h]
theorem zh6 {D B:Int} {f g:Fa} (hf:gF1 D B f) (hg:gF1 D B g) (h:txt f=txt g):valF (some f)=valF (some g):=by
 have h1:=hf.2;have h2:=hg.2;rw [valF,valF];have pos: ∀v:Va,(⟨#[]⟩:ByteArray)≠strOf (txtB v):=fun v e=>by
  have h3:(bts ⟨#[]⟩).length=(txtB v).length:=congrArg (fun s:ByteArray=>(bts s).length) e;have h4:=qi6 v;have h5:(bts ⟨#[]⟩).length=0:=rfl;omega
 rw [txt,txt] at h;by_cases c1:f.gone=true
 ·by_cases c2:g.gone=true
  ·rw [if_pos c1,if_pos c2]
  ·rw [if_pos c1,if_neg c2] at h;exact absurd h (pos _)
 ·by_cases c2:g.gone=true
  ·rw [if_neg c1,if_pos c2] at h;exact absurd h.symm (pos _)
  ·rw [if_neg c1,if_neg c2] at h;rw [if_neg c1] at h1;rw [if_neg c2] at h2;rw [if_neg c1,if_neg c2];have h3:=we7 h1.2 h2.2 (congrArg bts h);have k1:=h1.1.1.2.1;have k2:=h2.1.1.2.1
   congr 1
   have e: ∀{u v:Va},u.kind=v.kind->u.i=v.i->u.f=v.f->u=v:=fun {u v} a b c=>by cases u;cases v;simp_all
   exact e (k1.trans k2.symm) h3.1 h3.2
theorem zv1 {D B:Int} {o p:Option Fa} (ho: ∀f,o=some f->gF1 D B f) (hp: ∀f,p=some f->gF1 D B f):txtO o=txtO p↔valF o=valF p:=by
 have key: ∀{o:Option Fa},txtO o=match valF o with | none=>⟨#[]⟩ | some v=>strOf (txtB v):=fun {o}=>by
  cases o with
  | none=>rfl
  | some f=>rw [txtO,txt,valF];split <;> rfl
 refine ⟨fun h=> ?_,fun h=>by rw [key,key,h]⟩;cases o with
 | none=>
  cases p with
  | none=>rfl
  | some g=>
   have h2:gF1 D B {g with gone:=true,v:=An.va0}:=by
    have:=hp g rfl;exact ⟨this.1,by rw [if_pos rfl]⟩
   have h3:=zh6 h2 (hp g rfl) (by rw [txt,if_pos rfl];exact h);rw [<-h3];rfl
 | some f=>
  cases p with
  | none=>
   have h2:gF1 D B {f with gone:=true,v:=An.va0}:=by
    have:=ho f rfl;exact ⟨this.1,by rw [if_pos rfl]⟩
   have h3:=zh6 (ho f rfl) h2 (by rw [show txt {f with gone:=true,v:=An.va0}=⟨#[]⟩ by rw [txt,if_pos rfl]];exact h);rw [h3];rfl
  | some g=>exact zh6 (ho f rfl) (hp g rfl) h
section
variable {D B:Int} {T:List Fa}
theorem qh3 (hT: ∀f∈T,gF1 D B f) (i j:Nat):nowA T (bdF T) i=nowA T (bdF T) j↔vwT (T.take i)=vwT (T.take j):=by
 have hin: ∀k,∀f∈T.take k,f.lo∈bdF T/\f.hi∈bdF T:=fun k f hf=>zc4 f ((List.take_sublist ..).subset hf);have hl: ∀k d f,lastF (T.take k) d=some f->gF1 D B f:=fun k d f h=>hT f ((List.take_sublist ..).subset (xj2 h).1);constructor
 ·intro h;refine wd4 xh9 (hin i) (hin j) fun x hx=> ?_;obtain ⟨p,hp,e⟩:=List.mem_iff_getElem.1 hx;have h1:=congrArg (fun l:List ByteArray=>l[p]?) h;simp only [nowA,rowA,List.map_map,zbs,zbi hp,zdm,zck,Function.comp] at h1;rw [e] at h1;exact (zv1 (hl i x) (hl j x)).1 h1
 ·intro h;rw [nowA,nowA,rowA,rowA,List.map_map,List.map_map];refine zfw fun x _=> ?_;refine (zv1 (hl i x) (hl j x)).2 ?_;have:=congrArg (fun l=>valT l x) h;simp only [xi9] at this;exact this
theorem jv4 {i:Nat} (hi:i < T.length):(∀q,i<=q->q < grpE T i->(T.getD q fa0).kn=(T.getD i fa0).kn)/\(grpE T i < T.length->(T.getD (grpE T i) fa0).kn≠(T.getD i fa0).kn):=by
 have hp: ∀(l:List Fa) (P:Fa->Bool),(∀q,q < (l.takeWhile P).length->P (l.getD q fa0)=true)/\((l.takeWhile P).length < l.length->P (l.getD (l.takeWhile P).length fa0)=false):=by
  intro l P
  induction l with
  | nil=>exact ⟨fun q h=>by simp at h,fun h=>by simp at h⟩
  | cons x r ih=>
   by_cases hx:P x=true
   ·rw [List.takeWhile_cons,if_pos hx];refine ⟨fun q h=> ?_,fun h=> ?_⟩
    ·cases q with
     | zero=>exact hx
     | succ q=>have:=ih.1 q (by simpa using h);simpa using this
    ·have:=ih.2 (by simpa using h);simpa using this
   ·rw [List.takeWhile_cons,if_neg hx];exact ⟨fun q h=>by simp at h,fun _=>by simpa using hx⟩
 have h:=hp (T.drop i) fun f=>decide (f.kn=(T.getD i fa0).kn);refine ⟨fun q h1 h2=> ?_,fun h1=> ?_⟩
 ·have:=h.1 (q - i) (by rw [grpE] at h2;omega);rw [xk2,show i+(q - i)=q by omega] at this;exact zdt this
 ·have:=h.2 (by rw [grpE] at h1;rw [List.length_drop];omega);rw [xk2,<-grpE] at this;exact of_decide_eq_false this
def knw (T:List Fa) (K:Int):List Fa:=T.filter fun f=>decide (f.kn<=K)
theorem yp7 {K:Int} {i:Nat} (h1: ∀q,q < i->q < T.length->(T.getD q fa0).kn<=K) (h2: ∀q,i<=q->q < T.length->K < (T.getD q fa0).kn):knw T K=T.take i:=by
 have e1:(T.take i).filter (fun f=>decide (f.kn<=K))=T.take i:=List.filter_eq_self.2 fun f hf=>by
  obtain ⟨q,hq,rfl⟩:=List.mem_iff_getElem.1 hf;rw [zcu] at hq;have:=h1 q (by omega) (by omega);rw [List.getElem_take];rw [zbh,zbi (by omega)] at this;exact zbf this
 have e2:(T.drop i).filter (fun f=>decide (f.kn<=K))=[]:=List.filter_eq_nil_iff.2 fun f hf hh=>by
  obtain ⟨q,hq,rfl⟩:=List.mem_iff_getElem.1 hf;rw [List.length_drop] at hq;have:=h2 (i+q) (by omega) (by omega);rw [List.getElem_drop] at hh;rw [zbh,zbi (by omega)] at this;have h3:=zdt hh;simp only [Option.getD_some] at this;omega
 rw [knw]
 conv=>lhs;rw [<-List.take_append_drop i T]
 rw [List.filter_append,e1,e2,zdz]
def lst (R:List Int) (K:Int):Option Int:=(R.filter fun k=>decide (k<=K)).getLast?
theorem lrn_ok (hT: ∀f∈T,gF1 D B f) (hs: ∀i j,i < j->j < T.length->(T.getD i fa0).kn<=(T.getD j fa0).kn): ∀(n i:Nat),T.length - i<=n->(∀q,q < i->i < T.length->(T.getD q fa0).kn < (T.getD i fa0).kn)->
  (∀k∈lrn T (bdF T) (T.length - i) i,(i < T.length/\(T.getD i fa0).kn<=k)/\(∃f∈T,f.kn=k)/\vwT (knw T (k - 1))≠vwT (knw T k))/\(lrn T (bdF T) (T.length - i) i).Pairwise (· < ·)/\ ∀K,(∀q,q < i->q < T.length->(T.getD q fa0).kn<=K)->vwT (knw T K)=match lst (lrn T (bdF T) (T.length - i) i) K with | none=>vwT (T.take i) | some k=>vwT (knw T k):=by
 intro n
 induction n using Nat.strongRecOn with
 | _ n ih=>
  intro i hn hb;rcases zcb i T.length with hi | hi
  ·obtain ⟨g1,g2⟩:=zv9 hi;obtain ⟨s1,s2⟩:=jv4 hi;have hg3: ∀q,grpE T i<=q->q < T.length->(T.getD i fa0).kn < (T.getD q fa0).kn:=fun q h1 h2=>by
    have h3:=s2 (by omega);have h4:=hs i (grpE T i) g1 (by omega);rcases zcb (grpE T i) q with h5 | h5
    ·have:=hs _ q h5 h2;omega
    ·rw [show q=grpE T i by omega];omega
   have hb2: ∀q,q < grpE T i->grpE T i < T.length->(T.getD q fa0).kn < (T.getD (grpE T i) fa0).kn:=fun q h1 h2=>by
    have h3:=hg3 (grpE T i) (zbq _) h2;rcases zcb q i with h4 | h4
    ·have:=hb q h4 hi;omega
    ·have:=s1 q h4 h1;omega
   have IH:=ih (T.length - grpE T i) (by omega) (grpE T i) (zbq _) hb2;obtain ⟨a1,a2,a3⟩:=IH;have cutJ:knw T (T.getD i fa0).kn=T.take (grpE T i):=yp7 (fun q h1 h2=>by
    rcases zcb q i with h4 | h4
    ·have:=hb q h4 hi;omega
    ·have:=s1 q h4 h1;omega) hg3
   have cutI:knw T ((T.getD i fa0).kn - 1)=T.take i:=yp7 (fun q h1 _=>by have:=hb q h1 hi;omega) (fun q h1 h2=>by
    rcases zcb i q with h4 | h4
    ·have:=hs i q h4 h2;omega
    ·rw [show q=i by omega];omega)
   have hlow: ∀K,K < (T.getD i fa0).kn->(∀q,q < i->q < T.length->(T.getD q fa0).kn<=K)->knw T K=T.take i:=fun K hK hq=>yp7 hq fun q h1 h2=>by
    rcases zcb i q with h4 | h4
    ·have:=hs i q h4 h2;omega
    ·rw [show q=i by omega];exact hK
   have hRlow: ∀k∈lrn T (bdF T) (T.length - grpE T i) (grpE T i),(T.getD i fa0).kn < k:=fun k hk=>by
    have h1:=(a1 k hk).1;have h2:=hg3 (grpE T i) (zbq _) h1.1;omega
   have hup: ∀K,(T.getD i fa0).kn<=K-> ∀q,q < grpE T i->q < T.length->(T.getD q fa0).kn<=K:=fun K hK q h1 _=>by
    rcases zcb q i with h4 | h4
    ·have:=hb q h4 hi;omega
    ·have:=s1 q h4 h1;omega
   rw [yd2 hi];by_cases hnow:nowA T (bdF T) i=nowA T (bdF T) (grpE T i)
   ·have hv:=(qh3 hT i (grpE T i)).1 hnow;rw [if_pos hnow,List.nil_append];refine ⟨fun k hk=>⟨⟨hi,by have:=hRlow k hk;omega⟩,(a1 k hk).2⟩,a2,fun K hq=> ?_⟩;rcases Int.lt_or_le K (T.getD i fa0).kn with h1 | h1
    ·have e:lst (lrn T (bdF T) (T.length - grpE T i) (grpE T i)) K=none:=by
      rw [lst,List.filter_eq_nil_iff.2 fun k hk hh=>by have:=hRlow k hk;have:=zdt hh;omega];rfl
     rw [e,hlow K h1 hq]
    ·rw [a3 K (hup K h1)];cases lst (lrn T (bdF T) (T.length - grpE T i) (grpE T i)) K with
     | none=>exact hv.symm
     | some k=>rfl
   ·have hv:vwT (T.take i)≠vwT (T.take (grpE T i)):=fun h=>hnow ((qh3 hT i (grpE T i)).2 h);rw [if_neg hnow];refine ⟨fun k hk=> ?_,zec.2 ⟨zek ..,a2,fun x hx y hy=>by rw [zbj.1 hx];exact hRlow y hy⟩,fun K hq=> ?_⟩
    ·rcases zbp.1 hk with h1 | h1
     ·rw [zbj.1 h1];exact ⟨⟨hi,zea _⟩,⟨_,xe4 hi,rfl⟩,by rw [cutI,cutJ];exact hv⟩
     ·exact ⟨⟨hi,by have:=hRlow k h1;omega⟩,(a1 k h1).2⟩
    ·rcases Int.lt_or_le K (T.getD i fa0).kn with h1 | h1
     ·have e:lst ([(T.getD i fa0).kn]++lrn T (bdF T) (T.length - grpE T i) (grpE T i)) K=none:=by
       rw [lst,List.filter_eq_nil_iff.2 fun k hk hh=>by
        have:=zdt hh;rcases zbp.1 hk with h2 | h2
        ·rw [zbj.1 h2] at this;omega
        ·have:=hRlow k h2;omega];rfl
      rw [e,hlow K h1 hq]
     ·rw [a3 K (hup K h1),lst,lst,List.filter_append,List.filter_cons,if_pos (zbf h1),List.filter_nil,List.getLast?_append];cases ((lrn T (bdF T) (T.length - grpE T i) (grpE T i)).filter fun k=>decide (k<=K)).getLast? with
      | none=>show vwT (T.take (grpE T i))=vwT (knw T (T.getD i fa0).kn);rw [cutJ]
      | some k=>rfl
  ·rw [show T.length - i=0 by omega,show lrn T (bdF T) 0 i=[] from rfl];refine ⟨fun k hk=>absurd hk zdf,.nil,fun K hq=> ?_⟩;show vwT (knw T K)=vwT (T.take i);rw [yp7 (i:=i) hq fun q h1 h2=>by omega]
end
def nxX (a:List Fa) (key:ByteArray) (day:Int):Nat->Int
 | 0=>65536
 | i+1=>if (a.getD i fa0).key=key/\day < (a.getD i fa0).hi then min (if (a.getD i fa0).key=key/\day < (a.getD i fa0).lo then min (nxX a key day i) (a.getD i fa0).lo else nxX a key day i) (a.getD i fa0).hi else if (a.getD i fa0).key=key/\day < (a.getD i fa0).lo then min (nxX a key day i) (a.getD i fa0).lo else nxX a key day i
section
variable {a:List Fa} {key:ByteArray} {day kn:Int}
theorem zr1 (hd:day < 65536): ∀i,nxX a key day i<=65536/\day < nxX a key day i
 | 0=>⟨by rw [nxX];decide,by rw [nxX];exact hd⟩
 | i+1=>by
  have ih:=zr1 hd i;rw [nxX]
  repeat' split
  all_goals omega
theorem nx_no: ∀i j,j < i->(a.getD j fa0).key=key->(day < (a.getD j fa0).lo->nxX a key day i<=(a.getD j fa0).lo)/\(day < (a.getD j fa0).hi->nxX a key day i<=(a.getD j fa0).hi)
 | 0,j,hj,_=>by omega
 | i+1,j,hj,hk=>by
  have hle:nxX a key day (i+1)<=nxX a key day i:=by
   rw [nxX]
   repeat' split
   all_goals omega
  rcases zcb j i with h | h
  ·have ih:=nx_no i j h hk;exact ⟨fun h1=>Int.le_trans hle (ih.1 h1),fun h1=>Int.le_trans hle (ih.2 h1)⟩
  ·have e:j=i:=by omega
   subst e;refine ⟨fun h1=> ?_,fun h1=> ?_⟩
   ·rw [nxX,if_pos (show _/\_ from ⟨hk,h1⟩)];split <;> omega
   ·rw [nxX,if_pos (show _/\_ from ⟨hk,h1⟩)];omega
def nxA (a:List Fa) (key:ByteArray) (day:Int):Int:=nxX a key day a.length
theorem wg3 (hd:day < 65536) {f:Fa} (hf:f∈toldT a key kn): ¬(day < f.lo/\f.lo < nxA a key day)/\ ¬(day < f.hi/\f.hi < nxA a key day):=by
 obtain ⟨h1,h2,_⟩:=xv8.1 hf;obtain ⟨j,hj,rfl⟩:=List.getElem_of_mem h1;have e:a.getD j fa0=a[j]:=by rw [zbh,zbi hj];rfl
 have h3:=nx_no (a:=a) (key:=key) (day:=day) a.length j hj (by rw [e];exact h2);rw [e] at h3;exact ⟨fun h=>by have:=h3.1 h.1;rw [nxA] at h;omega,fun h=>by have:=h3.2 h.1;rw [nxA] at h;omega⟩
theorem qc8 (hd:day < 65536) {d:Int} (h1:day<=d) (h2:d < nxA a key day):gF (toldT a key kn) d=gF (toldT a key kn) day:=by
 rw [gF,gF,yu4 (fun f hf=> ?_) h1];have:=wg3 (kn:=kn) hd hf;omega
def rvI (T:List Fa) (day:Int) (out:List Tst):Prop:=ascT out/\nbT out/\(∀s∈out,s.hi<=day)/\ ∀d,valT out d=if d < day then gF T d else none
theorem wa6 {T:List Fa} (h: ∀f∈T,0<=f.lo):rvI T (-1) []:=⟨⟨fun s hs=>(by cases hs),List.Pairwise.nil⟩,trivial,fun s hs=>(by cases hs),fun d=>by
 split
 ·next hd=>rw [gF,xo4 fun f hf h'=>by have:=h f hf;omega];rfl
 ·rfl⟩
theorem ys3 {out:List Tst} {v:Va} (h:rvI (toldT a key kn) day out) (hd:day < 65536) (hv:gF (toldT a key kn) day=some v):rvI (toldT a key kn) (nxA a key day) (pst1 out ⟨day,nxA a key day,v⟩):=by
 obtain ⟨h1,h2,h3,h4⟩:=h;have hn:=(zr1 (a:=a) (key:=key) hd a.length).2;obtain ⟨p1,p2,p3,p4⟩:=pst1_val (s:=⟨day,nxA a key day,v⟩) h1 h2 hn h3;refine ⟨p1,p2,p3,fun d=> ?_⟩;rw [p4,h4];dsimp only;by_cases hlt:d < day
 ·rw [if_pos hlt,if_neg (by omega),if_pos (by rw [nxA];omega)];cases gF (toldT a key kn) d <;> rfl
 ·rw [if_neg hlt];by_cases h5:d < nxA a key day
  ·rw [if_pos ⟨by omega,h5⟩,if_pos h5,qc8 hd (by omega) h5,hv];rfl
  ·rw [if_neg (fun hh=>h5 hh.2),if_neg h5];rfl
theorem qr4 {out:List Tst} (h:rvI (toldT a key kn) day out) (hd:day < 65536) (hv:gF (toldT a key kn) day=none):rvI (toldT a key kn) (nxA a key day) out:=by
 obtain ⟨h1,h2,h3,h4⟩:=h;have hn:=(zr1 (a:=a) (key:=key) hd a.length).2;refine ⟨h1,h2,fun s hs=>by have:=h3 s hs;rw [nxA];omega,fun d=> ?_⟩;rw [h4];by_cases hlt:d < day
 ·rw [if_pos hlt,if_pos (by rw [nxA];omega)]
 ·rw [if_neg hlt];by_cases h5:d < nxA a key day
  ·rw [if_pos h5,qc8 hd (by omega) h5,hv]
  ·rw [if_neg h5]
theorem rv_end {T:List Fa} {out:List Tst} (h:rvI T 65536 out) (hT: ∀f∈T,f.hi<=65536):out=vwT T:=by
 obtain ⟨h1,h2,h3,h4⟩:=h;refine za8 h1 h2 (xn9 T).1 (xn9 T).2 fun d=> ?_;rw [h4,xi9];split
 ·rfl
 ·next hd=>rw [gF,xo4 fun f hf h'=>by have:=hT f hf;omega];rfl
end
def pairBad (f g:Fa):Bool:=decide (f.key=g.key) && !f.gone && !g.gone && decide (f.v.kind≠g.v.kind)
def rvOk (a:List Fa) (i:Nat):Bool:=fRight (a.getD i fa0) && (List.range i).all fun k=> !pairBad (a.getD k fa0) (a.getD i fa0)
def rvAll (a:List Fa):Bool:=decide (a.length<=2000) && (List.range a.length).all (rvOk a)
theorem zd7 {f:Fa} (h:fRight f=true):f.v.kind=0↔f.gone=true:=by
 simp only [fRight,zbv] at h;have h:=h.2;cases hg:f.gone with
 | true=>
  rw [if_pos hg,zbw] at h;rw [h];exact ⟨fun _=>rfl,fun _=>rfl⟩
 | false=>
  rw [if_neg (by rw [hg];decide)] at h;refine ⟨fun hk=> ?_,fun hh=>by cases hh⟩;rw [Va.valid,hk] at h;simp at h
section
variable {a:List Fa}
theorem yf5 (hr: ∀f∈a,fRight f=true): ∀j,j<=a.length->(∀i,i < j-> ∀k,k < i->pairBad (a.getD k fa0) (a.getD i fa0)=false)-> ∀key,
  (∀k,k < j->(a.getD k fa0).key=key->(a.getD k fa0).gone=false->(a.getD k fa0).v.kind=kGet (kM (a.take j)) key)/\(kGet (kM (a.take j)) key≠0-> ∃k,k < j/\(a.getD k fa0).key=key/\(a.getD k fa0).gone=false/\(a.getD k fa0).v.kind=kGet (kM (a.take j)) key)
 | 0,_,_,key=>⟨fun k hk=>by omega,fun h=>absurd (by rw [zej];rfl) h⟩
 | j+1,hj,hp,key=>by
  obtain ⟨h1,h2⟩:=yf5 hr j (by omega) (fun i hi=>hp i (by omega)) key;have hrj:=zd7 (hr _ (xe4 (l:=a) (i:=j) (by omega)));rw [qj0 (by omega),zz5];by_cases hk:(a.getD j fa0).key=key
  ·rw [if_pos hk,hk];cases hg:(a.getD j fa0).gone with
   | true=>
    have h0:=hrj.2 hg;rw [h0,Nat.max_zero];refine ⟨fun k hk2 hk3 hk4=> ?_,fun h=> ?_⟩
    ·rcases zcb k j with h | h
     ·exact h1 k h hk3 hk4
     ·rw [show k=j by omega,hg] at hk4;cases hk4
    ·obtain ⟨k,q1,q2⟩:=h2 h;exact ⟨k,by omega,q2⟩
   | false=>
    have h0:(a.getD j fa0).v.kind≠0:=fun h=>by rw [hrj.1 h] at hg;cases hg
    have hsame: ∀k,k < j->(a.getD k fa0).key=key->(a.getD k fa0).gone=false->(a.getD k fa0).v.kind=(a.getD j fa0).v.kind:=fun k q1 q2 q3=>by
     have:=hp j (by omega) k q1;rw [pairBad,q2,hk,q3,hg] at this;simpa using this
    have hm:max (kGet (kM (a.take j)) key) (a.getD j fa0).v.kind=(a.getD j fa0).v.kind:=by
     by_cases hz:kGet (kM (a.take j)) key=0
     ·rw [hz,Nat.zero_max]
     ·obtain ⟨k,q1,q2,q3,q4⟩:=h2 hz;rw [<-q4,hsame k q1 q2 q3,Nat.max_self]
    rw [hm];refine ⟨fun k hk2 hk3 hk4=> ?_,fun _=>⟨j,by omega,hk,hg,rfl⟩⟩;rcases zcb k j with h | h
    ·exact hsame k h hk3 hk4
    ·rw [show k=j by omega]
  ·rw [if_neg hk];refine ⟨fun k hk2 hk3 hk4=> ?_,fun h=> ?_⟩
   ·rcases zcb k j with h | h
    ·exact h1 k h hk3 hk4
    ·rw [show k=j by omega] at hk3;exact absurd hk3 hk
   ·obtain ⟨k,q1,q2⟩:=h2 h;exact ⟨k,by omega,q2⟩
theorem ym2:rvAll a=recOk a:=by
 rw [Bool.eq_iff_iff];simp only [rvAll,recOk,zbv,zbw,zdk,zcx,rvOk,zew,kOk];constructor
 ·rintro ⟨h1,h2⟩;have hr: ∀f∈a,fRight f=true:=fun f hf=>by
   obtain ⟨i,hi,rfl⟩:=List.getElem_of_mem hf;have:=(h2 i hi).1
   rwa [zbh,zbi hi] at this
  refine ⟨⟨h1,hr⟩,fun i hi=>Bool.eq_false_iff.2 fun hb=> ?_⟩;obtain ⟨q1,q2,q3⟩:=yj2.1 hb;obtain ⟨k,r1,r2,r3,r4⟩:=(yf5 hr i (by omega) (fun i' hi' k hk=>(h2 i' (by omega)).2 k hk) (a.getD i fa0).key).2 q1;have:=(h2 i hi).2 k r1;rw [pairBad,r2,r3,q2,r4] at this;exact q3 (by simpa using this)
 ·rintro ⟨⟨h1,hr⟩,h2⟩;have key: ∀j,j<=a.length-> ∀i,i < j-> ∀k,k < i->pairBad (a.getD k fa0) (a.getD i fa0)=false:=by
   intro j
   induction j with
   | zero=>intro _ i hi;omega
   | succ j ih=>
    intro hj i hi k hk;have ihj:=ih (by omega);rcases zcb i j with h | h
    ·exact ihj i h k hk
    ·have e:i=j:=by omega
     subst e;refine Bool.eq_false_iff.2 fun hb=> ?_;simp only [pairBad,zbv,zbw,zew] at hb;obtain ⟨⟨⟨q1,q2⟩,q3⟩,q4⟩:=hb;have hs:=(yf5 hr i (by omega) ihj (a.getD i fa0).key).1 k hk q1 q2;have h3:=h2 i (by omega);have h5:kGet (kM (a.take i)) (a.getD i fa0).key≠0:=fun h0=>by
      rw [h0] at hs;have:=(zd7 (hr _ (xe4 (l:=a) (i:=k) (by omega)))).1 hs;rw [q2] at this;cases this
     have h4:kBad (kM (a.take i)) (a.getD i fa0)=true:=yj2.2 ⟨h5,q3,fun h0=>q4 (by rw [hs,h0])⟩;rw [h3] at h4;cases h4
  refine ⟨h1,fun i hi=>⟨hr _ (xe4 hi),fun k hk=>key _ (zbq _) i hi k hk⟩⟩
theorem yn0 (h:recOk a=true):(∀f∈a,fRight f=true)/\ ∀i,i < a.length-> ∀k,k < i->pairBad (a.getD k fa0) (a.getD i fa0)=false:=by
 rw [<-ym2] at h;simp only [rvAll,zbv,zbw,zdk,zcx,rvOk,zew] at h;refine ⟨fun f hf=> ?_,fun i hi k hk=>(h.2 i hi).2 k hk⟩;obtain ⟨i,hi,rfl⟩:=List.getElem_of_mem hf;have:=(h.2 i hi).1
 rwa [zbh,zbi hi] at this
theorem qv6 (h:recOk a=true) {key:ByteArray} {i:Nat} (hi:i < a.length) (h1:(a.getD i fa0).key=key) (h2:(a.getD i fa0).gone=false):kGet (kM a) key=(a.getD i fa0).v.kind:=by
 obtain ⟨hr,hp⟩:=yn0 h;have:=(yf5 hr a.length (zbq _) hp key).1 i hi h1 h2;rw [zcf] at this;exact this.symm
theorem je0 (h:recOk a=true) {key:ByteArray} (hn: ∀i,i < a.length-> ¬((a.getD i fa0).key=key/\(a.getD i fa0).gone=false)):kGet (kM a) key=0:=by
 obtain ⟨hr,hp⟩:=yn0 h;refine zfq fun h0=> ?_;have:=(yf5 hr a.length (zbq _) hp key).2;rw [zcf] at this;obtain ⟨k,q1,q2,q3,_⟩:=this h0;exact hn k q1 ⟨q2,q3⟩
end
end An.S
namespace An.S
open Go Go.Proofs An Tryz
end An.S
namespace An.S
open Go
theorem qh2 {l:List Sn} (h:sVal l=true): ∀i,i < l.length->(i:Int)<=(l.getD i sn0).lo
 | 0,hi=>(xs1 h hi).1
 | i+1,hi=>by
  have ih:=qh2 h i (by omega);have h1:=xs1 h (i:=i) (by omega);have h2:=qj1 h (show i < i+1 by omega) hi;omega
section
variable {D B:Int} {a b:List Fa} {f:Fa} {key:ByteArray} {kn:Int}
theorem zh7 (h:gR D B a) (g:gR D B b) {k1 k2:Int}:sVal (dfS (vwT (toldT a key k1)) (vwT (toldT b key k2)))=true/\ ∀d,mem (dfS (vwT (toldT a key k1)) (vwT (toldT b key k2))) d=true↔gF (toldT a key k1) d≠gF (toldT b key k2) d:=by
 have:=qk2 (h.view (key:=key) k1).1.1 (g.view (key:=key) k2).1.1;refine ⟨this.1,fun d=> ?_⟩;rw [this.2 d,dfB,zbw,xi9,xi9]
end
theorem qp1: ∀{xs ys:List Int},xs.Pairwise (· < ·)->ys.Pairwise (· < ·)->(∀x,x∈xs↔x∈ys)->xs=ys
 | [],[],_,_,_=>rfl
 | [],y::_,_,_,h=>by have:=(h y).2 (zby ..);cases this
 | x::_,[],_,_,h=>by have:=(h x).1 (zby ..);cases this
 | x::xs,y::ys,hx,hy,h=>by
  obtain ⟨hx1,hx2⟩:=zcg.1 hx;obtain ⟨hy1,hy2⟩:=zcg.1 hy;have e:x=y:=by
   have q1:=(h x).1 (zby ..);have q2:=(h y).2 (zby ..);rcases zbr.1 q1 with q1 | q1
   ·exact q1
   ·rcases zbr.1 q2 with q2 | q2
    ·exact q2.symm
    ·have:=hx1 y q2;have:=hy1 x q1;omega
  subst e
  congr 1
  refine qp1 hx2 hy2 fun z=>⟨fun hz=> ?_,fun hz=> ?_⟩
  ·rcases zbr.1 ((h z).1 (zcd _ hz)) with q | q
   ·have:=hx1 z hz;omega
   ·exact q
  ·rcases zbr.1 ((h z).2 (zcd _ hz)) with q | q
   ·have:=hy1 z hz;omega
   ·exact q
section
variable {D B:Int} {a:List Fa}
theorem js9 (h:gR D B a) (key:ByteArray) (K:Int):knw (toldT a key 65536) K=toldT a key K:=by
 rw [knw,toldT,yn4,toldT,List.filter_filter]
 congr 1
 refine List.filter_congr fun f hf=> ?_;have:=(h.2 f hf).1.2;rw [Bool.eq_iff_iff];simp only [zbv,zbw];exact ⟨fun hh=>⟨hh.2.1,hh.1⟩,fun hh=>⟨hh.2,hh.1,by omega⟩⟩
theorem js0 (key:ByteArray) (K:Int): ∀i j,i < j->j < (toldT a key K).length->((toldT a key K).getD i fa0).kn<=((toldT a key K).getD j fa0).kn:=fun i j h1 h2=>by
 have h3:=zdx.1 (xm8 (k:=Fa.kn) (a.filter fun f=>decide (f.key=key) && decide (f.kn<=K))) i j (by rw [toldT] at h2;omega) (by rw [toldT] at h2;exact h2) h1;rw [zbh,zbh,zbi (by omega),zbi h2];exact h3
theorem qz6:vwT []=[]:=zda (by have:=zs9 (T:=[]);simpa using this)
theorem lrnLaw (h:gR D B a) (key:ByteArray):(∀k∈lrnT (toldT a key 65536),(0<=k/\k<=65535)/\(∃f∈a,f.kn=k/\f.key=key)/\(dfS (vwT (toldT a key (k - 1))) (vwT (toldT a key k))).length≠0)/\(lrnT (toldT a key 65536)).Pairwise (· < ·)/\ ∀K,vwT (toldT a key K)=vwT (toldT a key ((lst (lrnT (toldT a key 65536)) K).getD (-1)))/\(lst (lrnT (toldT a key 65536)) K=none->(vwT (toldT a key K)).length=0):=by
 have hT: ∀f∈toldT a key 65536,gF1 D B f:=fun f hf=>h.2 f (xv8.1 hf).1;have hm:=lrn_ok hT (js0 key 65536) _ 0 (zbq _) fun q hq=>absurd hq (Nat.not_lt_zero q);rw [Nat.sub_zero,<-lrnT] at hm;obtain ⟨h1,h2,h3⟩:=hm;have z: ∀K,vwT (knw (toldT a key 65536) K)=vwT (toldT a key K):=fun K=>by rw [js9 h]
 refine ⟨fun k hk=> ?_,h2,fun K=> ?_⟩
 ·obtain ⟨_,⟨f,hf,e⟩,hv⟩:=h1 k hk;have hf2:=xv8.1 hf;have hf3:=(h.2 f hf2.1).1.2;refine ⟨by omega,⟨f,hf2.1,e,hf2.2.1⟩,fun h0=>hv ?_⟩;rw [z,z];have hd:=zh7 h h (key:=key) (k1:=k - 1) (k2:=k);rw [zda h0] at hd;exact zz4 fun d=>Decidable.byContradiction fun hc=>by have:=(hd.2 d).2 hc;cases this
 ·have h4:=h3 K fun q hq=>absurd hq (Nat.not_lt_zero q);rw [z,zej,qz6] at h4;cases hl:lst (lrnT (toldT a key 65536)) K with
  | none=>
   rw [hl] at h4;have h5:vwT (toldT a key K)=[]:=h4;have h6:toldT a key (-1)=[]:=List.eq_nil_iff_forall_not_mem.2 fun f hf=>by
    have h7:=xv8.1 hf;have:=(h.2 f h7.1).1.2;omega
   refine ⟨?_,fun _=>by rw [h5];rfl⟩;show _=vwT (toldT a key (-1));rw [h5,h6,qz6]
  | some k=>
   rw [hl] at h4;have h5:vwT (toldT a key K)=vwT (knw (toldT a key 65536) k):=h4;exact ⟨by rw [h5,z];rfl,fun h=>by cases h⟩
end
theorem zs1 {S:List Sn} (h:sVal S=true): ∀s∈S,0<=s.lo/\s.lo < s.hi/\s.hi<=65536:=fun s hs=>by
 obtain ⟨i,hi,rfl⟩:=List.mem_iff_getElem.1 hs;have:=xs1 h hi;rw [zbh,zbi hi] at this;exact this
def nkX (a:List Fa) (key:ByteArray) (k:Int):Nat->Int
 | 0=>65536
 | i+1=>if (a.getD i fa0).key=key/\k < (a.getD i fa0).kn then min (nkX a key k i) (a.getD i fa0).kn else nkX a key k i
def nkA (a:List Fa) (key:ByteArray) (k:Int):Int:=nkX a key k a.length
section
variable {D B:Int} {a:List Fa} {key:ByteArray} {k:Int}
theorem zd1 (hk:k < 65536): ∀i,nkX a key k i<=65536/\k < nkX a key k i
 | 0=>⟨by rw [nkX];decide,by rw [nkX];exact hk⟩
 | i+1=>by
  have ih:=zd1 hk i;rw [nkX];split <;> omega
theorem qt7: ∀i j,j < i->(a.getD j fa0).key=key->k < (a.getD j fa0).kn->nkX a key k i<=(a.getD j fa0).kn
 | 0,j,hj,_,_=>by omega
 | i+1,j,hj,h1,h2=>by
  have hle:nkX a key k (i+1)<=nkX a key k i:=by
   rw [nkX];split <;> omega
  rcases zcb j i with h | h
  ·exact Int.le_trans hle (qt7 i j h h1 h2)
  ·have e:j=i:=by omega
   subst e;rw [nkX,if_pos ⟨h1,h2⟩];omega
theorem zr2: ∀i,nkX a key k i=65536∨ ∃j,j < i/\(a.getD j fa0).key=key/\(a.getD j fa0).kn=nkX a key k i
 | 0=> .inl rfl
 | i+1=>by
  rw [nkX];split
  ·next h=>
   rcases Int.le_total (nkX a key k i) (a.getD i fa0).kn with h1 | h1
   ·rw [Int.min_eq_left h1];rcases zr2 i with h2 | ⟨j,q1,q2⟩
    ·exact .inl h2
    ·exact .inr ⟨j,by omega,q2⟩
   ·rw [Int.min_eq_right h1];exact .inr ⟨i,by omega,h.1,rfl⟩
  ·rcases zr2 i with h2 | ⟨j,q1,q2⟩
   ·exact .inl h2
   ·exact .inr ⟨j,by omega,q2⟩
def lrI (a:List Fa) (key:ByteArray) (k:Int) (out:List Int):Prop:=out.Pairwise (· < ·)/\ ∀x,x∈out↔x<=k/\(∃f∈a,f.key=key/\f.kn=x)/\vwT (toldT a key (x - 1))≠vwT (toldT a key x)
theorem wc4 (h:gR D B a):lrI a key (-1) []:=⟨List.Pairwise.nil,fun x=>⟨fun hx=>(by cases hx),fun ⟨h1,⟨f,h2,_,h3⟩,_⟩=>by
 have:=(h.2 f h2).1.2;omega⟩⟩
theorem qh1 (h:gR D B a) {out:List Int} (hI:lrI a key k out) (hk:k < 65536) (hn:nkA a key k≠65536):lrI a key (nkA a key k) (if (dfS (vwT (toldT a key (nkA a key k - 1))) (vwT (toldT a key (nkA a key k)))).length=0 then out else out++[nkA a key k]):=by
 obtain ⟨h1,h2⟩:=hI;have hb:=(zd1 (a:=a) (key:=key) hk a.length).2;rw [<-nkA] at hb;have hin: ∃f∈a,f.key=key/\f.kn=nkA a key k:=by
  rcases zr2 (a:=a) (key:=key) (k:=k) a.length with h3 | ⟨j,q1,q2,q3⟩
  ·exact absurd h3 hn
  ·exact ⟨_,xe4 q1,q2,q3⟩
 have hno: ∀f∈a,f.key=key->k < f.kn->nkA a key k<=f.kn:=fun f hf q1 q2=>by
  obtain ⟨j,hj,rfl⟩:=List.getElem_of_mem hf;have e:a.getD j fa0=a[j]:=by rw [zbh,zbi hj];rfl
  have:=qt7 (a:=a) (key:=key) (k:=k) a.length j hj (by rw [e];exact q1) (by rw [e];exact q2);rw [e] at this;exact this
 have hd:=zh7 h h (key:=key) (k1:=nkA a key k - 1) (k2:=nkA a key k);have hdl:(dfS (vwT (toldT a key (nkA a key k - 1))) (vwT (toldT a key (nkA a key k)))).length=0↔vwT (toldT a key (nkA a key k - 1))=vwT (toldT a key (nkA a key k)):=by
  constructor
  ·intro h0;rw [zda h0] at hd;exact zz4 fun d=>Decidable.byContradiction fun hc=>by have:=(hd.2 d).2 hc;cases this
  ·intro he;have hg: ∀d,gF (toldT a key (nkA a key k - 1)) d=gF (toldT a key (nkA a key k)) d:=fun d=>by rw [<-xi9,<-xi9,he]
   cases hl:dfS (vwT (toldT a key (nkA a key k - 1))) (vwT (toldT a key (nkA a key k))) with
   | nil=>rfl
   | cons s r=>
    have hs:=hd.1;rw [hl] at hs;have h5:=qh2 hs;have hlo:s.lo < s.hi:=by
     have:=(zs1 hs s (by simp))
     omega
    have h6:mem (dfS (vwT (toldT a key (nkA a key k - 1))) (vwT (toldT a key (nkA a key k)))) s.lo=true:=by
     rw [hl,mem_iff];exact ⟨s,by simp,by omega,hlo⟩
    exact absurd (hg s.lo) ((hd.2 s.lo).1 h6)
 split
 ·next h0=>
  refine ⟨h1,fun x=>⟨fun hx=> ?_,fun ⟨q1,⟨f,q2,q3,q4⟩,q5⟩=> ?_⟩⟩
  ·obtain ⟨q1,q2⟩:=(h2 x).1 hx;exact ⟨by omega,q2⟩
  ·refine (h2 x).2 ⟨?_,⟨f,q2,q3,q4⟩,q5⟩;rcases Int.lt_or_le k x with h3 | h3
   ·have:=hno f q2 q3 (by omega);have e:x=nkA a key k:=by omega
    rw [e] at q5;exact absurd (hdl.1 h0) q5
   ·exact h3
 ·next h0=>
  refine ⟨zec.2 ⟨h1,zek ..,fun x hx y hy=> ?_⟩,fun x=>⟨fun hx=> ?_,fun ⟨q1,⟨f,q2,q3,q4⟩,q5⟩=> ?_⟩⟩
  ·rw [zbj.1 hy];have:=((h2 x).1 hx).1;omega
  ·rcases zbp.1 hx with hx | hx
   ·obtain ⟨q1,q2⟩:=(h2 x).1 hx;exact ⟨by omega,q2⟩
   ·rw [zbj.1 hx];exact ⟨zea _,hin,fun he=>h0 (hdl.2 he)⟩
  ·rcases Int.lt_or_le k x with h3 | h3
   ·have:=hno f q2 q3 (by omega);have e:x=nkA a key k:=by omega
    rw [e];simp
   ·exact zbp.2 (.inl ((h2 x).2 ⟨h3,⟨f,q2,q3,q4⟩,q5⟩))
theorem jk2 (h:gR D B a) {out:List Int} (hI:lrI a key k out) (hk:k < 65536) (hn:nkA a key k=65536):out=lrnT (toldT a key 65536):=by
 obtain ⟨h1,h2⟩:=hI;obtain ⟨l1,l2,l3⟩:=lrnLaw h key;refine qp1 h1 l2 fun x=> ?_;rw [h2];constructor
 ·rintro ⟨_,⟨f,q2,q3,q4⟩,q5⟩;refine zfq fun hx=>q5 ?_;have e:lst (lrnT (toldT a key 65536)) x=lst (lrnT (toldT a key 65536)) (x - 1):=by
   rw [lst,lst]
   congr 1
   refine List.filter_congr fun y hy=> ?_;have hne:y≠x:=fun e=>hx (e▸hy);rw [Bool.eq_iff_iff,zbw,zbw];omega
  rw [(l3 x).1,(l3 (x - 1)).1,e]
 ·intro hx;obtain ⟨q1,⟨f,q2,q3,q4⟩,q5⟩:=l1 x hx;have hle:x<=k:=by
   refine Int.not_lt.1 fun hlt=> ?_;obtain ⟨j,hj,rfl⟩:=List.getElem_of_mem q2;have e:a.getD j fa0=a[j]:=by rw [zbh,zbi hj];rfl
   have:=qt7 (a:=a) (key:=key) (k:=k) a.length j hj (by rw [e];exact q4) (by rw [e,q3];exact hlt);rw [e,q3,<-nkA,hn] at this;omega
  refine ⟨hle,⟨f,q2,q4,q3⟩,fun he=>q5 ?_⟩;have hd:=zh7 h h (key:=key) (k1:=x - 1) (k2:=x);have hg: ∀d,gF (toldT a key (x - 1)) d=gF (toldT a key x) d:=fun d=>by rw [<-xi9,<-xi9,he]
  cases hl:dfS (vwT (toldT a key (x - 1))) (vwT (toldT a key x)) with
  | nil=>rfl
  | cons s r=>
   have hs:=hd.1;rw [hl] at hs;have hlo:s.lo < s.hi:=by
    have:=(zs1 hs s (by simp))
    omega
   have h6:mem (dfS (vwT (toldT a key (x - 1))) (vwT (toldT a key x))) s.lo=true:=by
    rw [hl,mem_iff];exact ⟨s,by simp,by omega,hlo⟩
   exact absurd (hg s.lo) ((hd.2 s.lo).1 h6)
end
def rOk (l:List Tst) (i:Nat):Prop:=((0<=(l.getD i tst0).lo/\(l.getD i tst0).lo < (l.getD i tst0).hi/\(l.getD i tst0).hi<=65536)/\(l.getD i tst0).v.valid=true/\(l.getD i tst0).v.kind=(l.getD 0 tst0).v.kind)/\
 (i=0∨(l.getD (i - 1) tst0).hi<=(l.getD i tst0).lo/\ ¬((l.getD (i - 1) tst0).hi=(l.getD i tst0).lo/\(l.getD (i - 1) tst0).v=(l.getD i tst0).v))
theorem qq3 {l:List Tst}:tRight l=true↔ ∀i,i < l.length->rOk l i:=by
 constructor
 ·intro h i hi;have h1:=xm7 h hi;exact ⟨⟨⟨h1.1,h1.2.1,h1.2.2.1⟩,q8 h _ (xg4 hi),qk6 h hi⟩,h1.2.2.2.imp id fun h2=>⟨h2.1,h2.2.2⟩⟩
 ·intro h;refine ze7.2 ⟨fun i hi=>xv9.2 ?_,fun s hs=> ?_⟩
  ·have h1:=h i hi;refine ⟨h1.1.1.1,h1.1.1.2.1,h1.1.1.2.2,h1.2.imp id fun h2=>⟨h2.1,?_,h2.2⟩⟩;rw [h1.1.2.2];by_cases h0:i=0
   ·subst h0;rfl
   ·exact (h (i - 1) (by omega)).1.2.2
  ·obtain ⟨i,hi,rfl⟩:=xz1 hs;exact (h i hi).1.2.1
theorem xr4 {l:List Tst} {i:Nat} (hi:i < l.length) (h: ¬rOk l i):false=tRight l:=by
 cases hr:tRight l with
 | false=>rfl
 | true=>exact absurd (qq3.1 hr i hi) h
end An.S
namespace An.S
open Go Go.Proofs An Tryz
theorem zm4 (l:List Tst) (hl:l.length<=500000) (hD: ∀s∈l,s.v.f.dig) (hs: ∀s∈l,s.v.f.n.l.length<=1048576/\s.v.f.d.l.length<=1048576):
  Ct Tryz.prog 118 [tL 8 true tTs l] (tB (tRight l)):=by
 refine Ct.intro func118 rfl ntmps118 rfl ?_;intro w F;refine A12 ?_;refine cL (fun (i:Nat)=>i<=l.length/\ ∀j,j < i->rOk l j) (fun (i:Nat)=>uV (uV uN 0 (tL 8 true tTs l)) 3 (tI i)) (fun (i:Nat)=>fun _=>none) [] (fun (i:Nat)=>l.length - i) (0) ⟨zbt _,fun j hj=>by omega⟩ ?_;intro i hI;obtain ⟨hi,hok⟩:=hI;refine A9 ?_;refine x9 rfl (fun h51=> ?_) (fun h51=> ?_)
 ·
  refine A9 ?_;refine R2 (x5 sl38 (i) (by omega) (zai (l:=l) (n:=i) (d:=tst0))) rfl rfl (R1 (xa6 fo55_0.h (At.f 0 rfl rfl) rfl) rfl ?_);refine A3 ?_;refine RGcaseD (t:=16) rfl (fun h52=> ?_) (fun h52=> ?_)
  ·
   refine A18 ?_;refine A18 ?_;refine A18 ?_;refine A4 ?_;exact E1 rfl rfl (zau (xr4 (i:=i) (by omega) (fun h=>by have q1:=h.1.1;have q2:=h.1.2.1;have q3:=h.1.2.2;first | omega | (rw [q2] at h52_4;cases h52_4))))
  ·
   refine A2 ?_;refine Rg (zbg h52) rfl (x5 sl38 (i) (by omega) (zai (l:=l) (n:=i) (d:=tst0))) rfl ⟨rfl,rfl,trivial⟩ (Rg (zbg h52) rfl (xa6 fo55_0.h (At.f 0 rfl rfl) rfl) rfl ⟨rfl,trivial⟩ ?_);refine A3 ?_;refine Rg (zbg h52) rfl (x5 sl38 (i) (by omega) (zai (l:=l) (n:=i) (d:=tst0))) rfl ⟨rfl,rfl,trivial⟩ (Rg (zbg h52) rfl (xa6 fo55_1.h (At.f 1 rfl rfl) rfl) rfl ⟨rfl,trivial⟩ ?_);refine A4 ?_;refine RGcaseD (t:=29) rfl (fun h52_2=> ?_) (fun h52_2=> ?_)
   ·
    refine A18 ?_;refine A18 ?_;refine A9 ?_;exact E1 rfl rfl (zau (xr4 (i:=i) (by omega) (fun h=>by have q1:=h.1.1;have q2:=h.1.2.1;have q3:=h.1.2.2;first | omega | (rw [q2] at h52_4;cases h52_4))))
   ·
    refine A2 ?_;refine Rg (zbg h52_2) rfl (x5 sl38 (i) (by omega) (zai (l:=l) (n:=i) (d:=tst0))) rfl ⟨rfl,rfl,trivial⟩ (Rg (zbg h52_2) rfl (xa6 fo55_1.h (At.f 1 rfl rfl) rfl) rfl ⟨rfl,trivial⟩ ?_);refine A4 ?_;refine RGcaseD (t:=37) rfl (fun h52_3=> ?_) (fun h52_3=> ?_)
    ·
     refine A18 ?_;refine A18 ?_;refine A1 ?_;exact E1 rfl rfl (zau (xr4 (i:=i) (by omega) (fun h=>by have q1:=h.1.1;have q2:=h.1.2.1;have q3:=h.1.2.2;first | omega | (rw [q2] at h52_4;cases h52_4))))
    ·
     refine A2 ?_;refine Rg (zbg h52_3) rfl (x5 sl38 (i) (by omega) (zai (l:=l) (n:=i) (d:=tst0))) rfl ⟨rfl,rfl,trivial⟩ (Rg (zbg h52_3) rfl (xa6 fo55_2.h (At.f 2 rfl rfl) rfl) rfl ⟨rfl,trivial⟩ ?_);refine A1 ?_;refine Rg (zbg h52_3) rfl (x4 (zo9 _ (hD _ (xg4 (l:=l) (i:=i) (by omega))) (hs _ (xg4 (l:=l) (i:=i) (by omega))).1 (hs _ (xg4 (l:=l) (i:=i) (by omega))).2) fi39 rfl) rfl qA ?_;refine A3 ?_;refine RGcase (t:=46) rfl (fun h52_4=> ?_) (fun h52_4=> ?_)
     ·
      refine A18 ?_;refine A10 ?_;exact E1 rfl rfl (zau (xr4 (i:=i) (by omega) (fun h=>by have q1:=h.1.1;have q2:=h.1.2.1;have q3:=h.1.2.2;first | omega | (rw [q2] at h52_4;cases h52_4))))
     ·
      have hv:(l.getD i tst0).v.valid=true:=by simpa using h52_4
      refine A2 ?_;refine Rg h52_4 rfl (x5 sl38 (i) (by omega) (zai (l:=l) (n:=i) (d:=tst0))) rfl ⟨rfl,rfl,trivial⟩ (Rg h52_4 rfl (xa6 fo55_2.h (At.f 2 rfl rfl) rfl) rfl ⟨rfl,trivial⟩ (Rg h52_4 rfl (xa6 fo28_0.h (At.f 0 rfl rfl) rfl) rfl ⟨rfl,trivial⟩ ?_));refine A2 ?_;refine Rg h52_4 rfl (x5 sl38 (0) (by omega) (zai (l:=l) (n:=0) (d:=tst0))) rfl ⟨rfl,rfl,trivial⟩ (Rg h52_4 rfl (xa6 fo55_2.h (At.f 2 rfl rfl) rfl) rfl ⟨rfl,trivial⟩ (Rg h52_4 rfl (xa6 fo28_0.h (At.f 0 rfl rfl) rfl) rfl ⟨rfl,trivial⟩ ?_));refine A5 ?_;refine x9 rfl (fun h52_5=> ?_) (fun h52_5=> ?_)
      ·
       refine A12 ?_;exact E1 rfl rfl (zau (xr4 (i:=i) (by omega) (fun h=>by have q1:=h.1.1;have q2:=h.1.2.1;have q3:=h.1.2.2;first | omega | (rw [q2] at h52_4;cases h52_4))))
      ·
       refine A7 ?_;refine RGcaseD (t:=62) rfl (fun h55=> ?_) (fun h55=> ?_)
       ·
        refine A2 ?_;refine Rg (zbf h55) rfl (xh2 zah) rfl ⟨rfl,rfl,trivial⟩ (Rg (zbf h55) rfl (x5 sl38 (i - 1) (by omega) (zai (l:=l) (n:=i - 1) (d:=tst0))) rfl ⟨rfl,rfl,trivial⟩ (Rg (zbf h55) rfl (xa6 fo55_1.h (At.f 1 rfl rfl) rfl) rfl ⟨rfl,trivial⟩ ?_));refine A3 ?_;refine Rg (zbf h55) rfl (x5 sl38 (i) (by omega) (zai (l:=l) (n:=i) (d:=tst0))) rfl ⟨rfl,rfl,trivial⟩ (Rg (zbf h55) rfl (xa6 fo55_0.h (At.f 0 rfl rfl) rfl) rfl ⟨rfl,trivial⟩ ?_);refine A3 ?_;refine RGcaseD (t:=75) rfl (fun h55_2=> ?_) (fun h55_2=> ?_)
        ·
         refine A18 ?_;refine A8 ?_;refine Rg (zbf h55) rfl (xc6 (zbf h55_2)) rfl qB ?_;refine A15 ?_;exact E1 rfl rfl (zau (xr4 (i:=i) (by omega) (fun h=>by have q:=h.2;first | omega | exact (q.resolve_left (by omega)).2 ⟨by omega,by assumption⟩)))
        ·
         refine A2 ?_;refine Rg (zbg h55_2) rfl (xh2 zah) rfl ⟨rfl,rfl,trivial⟩ (Rg (zbg h55_2) rfl (x5 sl38 (i - 1) (by omega) (zai (l:=l) (n:=i - 1) (d:=tst0))) rfl ⟨rfl,rfl,trivial⟩ (Rg (zbg h55_2) rfl (xa6 fo55_1.h (At.f 1 rfl rfl) rfl) rfl ⟨rfl,trivial⟩ ?_));refine A3 ?_;refine Rg (zbg h55_2) rfl (x5 sl38 (i) (by omega) (zai (l:=l) (n:=i) (d:=tst0))) rfl ⟨rfl,rfl,trivial⟩ (Rg (zbg h55_2) rfl (xa6 fo55_0.h (At.f 0 rfl rfl) rfl) rfl ⟨rfl,trivial⟩ ?_);refine A3 ?_;refine RGcaseD (t:=88) rfl (fun h55_3=> ?_) (fun h55_3=> ?_)
         ·
          refine A2 ?_;refine Rg (zbf h55_3) rfl (xh2 zah) rfl ⟨rfl,rfl,trivial⟩ (Rg (zbf h55_3) rfl (x5 sl38 (i - 1) (by omega) (zai (l:=l) (n:=i - 1) (d:=tst0))) rfl ⟨rfl,rfl,trivial⟩ (Rg (zbf h55_3) rfl (xa6 fo55_2.h (At.f 2 rfl rfl) rfl) rfl ⟨rfl,trivial⟩ ?_));refine A3 ?_;refine Rg (zbf h55_3) rfl (x5 sl38 (i) (by omega) (zai (l:=l) (n:=i) (d:=tst0))) rfl ⟨rfl,rfl,trivial⟩ (Rg (zbf h55_3) rfl (xa6 fo55_2.h (At.f 2 rfl rfl) rfl) rfl ⟨rfl,trivial⟩ ?_);refine A1 ?_;refine Rg (zbf h55_3) rfl (x4 (yj5 _ _ (hs _ (xg4 (l:=l) (i:=i - 1) (by omega))).1 (hs _ (xg4 (l:=l) (i:=i - 1) (by omega))).2) fi38 rfl) rfl qB (Rg (zbg h55_2) rfl (xc6 (zbf h55_3)) rfl qB (Rg (zbf h55) rfl (xc4 (zbg h55_2)) rfl qB ?_));refine A3 ?_;refine x9 rfl (fun h55_4=> ?_) (fun h55_4=> ?_)
          ·
           refine A11 ?_;exact E1 rfl rfl (zau (xr4 (i:=i) (by omega) (fun h=>by have q:=h.2;first | omega | exact (q.resolve_left (by omega)).2 ⟨by omega,by assumption⟩)))
          ·
           refine A8 ?_;exact xf5 (i+1) ⟨⟨by omega,fun j hj=>by
  by_cases hji:j=i
  ·subst hji;exact ⟨⟨⟨by omega,by omega,by omega⟩,hv,by omega⟩,.inr ⟨by omega,fun h=>h55_4 h.2⟩⟩
  ·exact hok j (by omega)⟩, (by omega)⟩ (Sub.int rfl (by first | omega | rfl | (dsimp only; omega)) (zan rfl zay)) zax (zaj (zaj zar)) zaz (lkOk rfl)
         ·
          refine A12 ?_;refine Rg (zbg h55_2) rfl (xc4 (zbg h55_3)) rfl qB (Rg (zbf h55) rfl (xc4 (zbg h55_2)) rfl qB ?_);refine A12 ?_;exact xf5 (i+1) ⟨⟨by omega,fun j hj=>by
  by_cases hji:j=i
  ·subst hji;exact ⟨⟨⟨by omega,by omega,by omega⟩,hv,by omega⟩,.inr ⟨by omega,fun h=>by omega⟩⟩
  ·exact hok j (by omega)⟩, (by omega)⟩ (Sub.int rfl (by first | omega | rfl | (dsimp only; omega)) (zan rfl zay)) zax (zaj (zaj zar)) zaz (lkOk rfl)
       ·
        refine A18 ?_;refine A18 ?_;refine A16 ?_;exact xf5 (i+1) ⟨⟨by omega,fun j hj=>by
  by_cases hji:j=i
  ·subst hji;exact ⟨⟨⟨by omega,by omega,by omega⟩,hv,by omega⟩,.inl (by omega)⟩
  ·exact hok j (by omega)⟩,(by omega)⟩ (zae rfl (zan rfl zay)) zax (zaj (zaj zar)) zaz (lkOk rfl)
 ·
  refine A11 ?_;exact E1 rfl rfl (zau (qq3.2 (fun j hj=>hok j (by omega))).symm)
end An.S
namespace An.S
open Go
@[irreducible] def rowD {α:Type} (f:Nat->α):List α:=(List.range 65536).map f
theorem xg6 {α:Type} {f:Nat->α}:(rowD f).length=65536:=by unfold rowD;rw [zch,List.length_range]
theorem xg5 {α:Type} {f:Nat->α} {d:Nat} (h:d < 65536):(rowD f)[d]? =some (f d):=by
 unfold rowD;rw [zbs,zet h];rfl
theorem zv5 {α:Type} {f g:Nat->α} {d:Nat} {v:α} (hv:g d=v) (hg: ∀e,e≠d->g e=f e):(rowD f).set d v=rowD g:=by
 apply zfc;intro e;rw [zfk];by_cases he:d=e
 ·subst he;rw [if_pos rfl];by_cases h:d < 65536
  ·rw [if_pos (by rw [xg6];exact h),xg5 h,hv]
  ·rw [if_neg (by rw [xg6];exact h),zcv (by rw [xg6];omega)]
 ·rw [if_neg he];by_cases h:e < 65536
  ·rw [xg5 h,xg5 h,hg e (fun h'=>he h'.symm)]
  ·rw [zcv (by rw [xg6];omega),zcv (by rw [xg6];omega)]
theorem zu8 {α:Type} (x:α):List.replicate 65536 x=rowD fun _=>x:=by
 unfold rowD;rw [List.map_const',List.length_range]
def tabI (l:List Tst):Nat->Nat->Int
 | 0,_=>0
 | i+1,d=>if (l.getD i tst0).lo<=d/\(d:Int) < (l.getD i tst0).hi then (i:Int)+1 else tabI l i d
def tabF (l:List Tst) (i:Nat) (e:Int) (d:Nat):Int:=if (l.getD i tst0).lo<=d/\(d:Int) < e then (i:Int)+1 else tabI l i d
theorem tabF_0 {l:List Tst} {i:Nat}:tabF l i (l.getD i tst0).lo=tabI l i:=by
 funext d;rw [tabF,if_neg (by omega)]
theorem tabF_1 {l:List Tst} {i:Nat} {e:Int} (h:e=(l.getD i tst0).hi):tabF l i e=tabI l (i+1):=by
 subst h;funext d;rfl
theorem wb7 {l:List Tst} {i d:Nat} {e:Int} (he:e=(d:Int)) (h:(l.getD i tst0).lo<=d):(rowD (tabF l i e)).set d ((i:Int)+1)=rowD (tabF l i (e+1)):=by
 subst he;refine zv5 (by rw [tabF,if_pos (by omega)]) fun x hx=> ?_;rw [tabF,tabF];by_cases h1:(l.getD i tst0).lo<=x/\(x:Int) < d
 ·rw [if_pos h1,if_pos (by omega)]
 ·rw [if_neg h1,if_neg (by omega)]
theorem jd1 {l:List Tst} {i:Nat} (hi:i < l.length) (d:Int):valT (l.take (i+1)) d=(valT (l.take i) d).or (if (l.getD i tst0).lo<=d/\d < (l.getD i tst0).hi then some (l.getD i tst0).v else none):=by
 rw [zca hi,xw5,xe2,zbh,zbi hi];rfl
theorem qk5 {l:List Tst} (h:tRight l=true) (d:Nat): ∀i,i<=l.length->(tabI l i d=0/\valT (l.take i) d=none)∨ ∃j,j < i/\tabI l i d=(j:Int)+1/\valT (l.take i) d=some (l.getD j tst0).v
 | 0,_=> .inl ⟨rfl,by simp [valT]⟩
 | i+1,hi=>by
  have ih:=qk5 h d i (by omega);rw [jd1 (by omega)];by_cases hd:(l.getD i tst0).lo<=d/\(d:Int) < (l.getD i tst0).hi
  ·refine .inr ⟨i,by omega,by rw [tabI,if_pos hd],?_⟩;have hn:valT (l.take i) d=none:=xm5.2 fun s hs hsd=>by
    obtain ⟨j,hj,e⟩:=List.getElem_of_mem hs;rw [zcu] at hj;have h1:=yo0 h (i:=j) (j:=i) (by omega) (by omega);rw [List.getElem_take] at e;have e2:l.getD j tst0=s:=by rw [zbh,zbi (by omega)];exact e
    rw [e2] at h1;omega
   rw [hn,if_pos hd];rfl
  ·rw [tabI,if_neg hd,if_neg hd,Option.or_none];rcases ih with ih | ⟨j,hj,h1,h2⟩
   ·exact .inl ih
   ·exact .inr ⟨j,by omega,h1,h2⟩
abbrev tabT (l:List Tst):Nat->Int:=tabI l l.length
theorem yw2 {l:List Tst} (h:tRight l=true) (d:Nat):(tabT l d=0/\valT l d=none)∨ ∃j,j < l.length/\tabT l d=(j:Int)+1/\valT l d=some (l.getD j tst0).v:=by
 have:=qk5 h d l.length (zbq _)
 rwa [zcf] at this
def setK (f:Nat->Bool):Nat->List Sn
 | 0=>[]
 | d+1=>if f d then (if 0 < d/\f (d - 1)=true then (setK f d).set ((setK f d).length - 1) ⟨(lastS (setK f d)).lo,(d:Int)+1⟩ else setK f d++[⟨(d:Int),(d:Int)+1⟩]) else setK f d
theorem qn7 {f:Nat->Bool} {d:Nat} (h:f d=false):setK f (d+1)=setK f d:=by rw [setK,h];rfl
theorem zk7 {f:Nat->Bool} {d:Nat} (h:f d=true) (h0:0 < d/\f (d - 1)=true):setK f (d+1)=(setK f d).set ((setK f d).length - 1) ⟨(lastS (setK f d)).lo,(d:Int)+1⟩:=by rw [setK,if_pos h,if_pos h0]
theorem yv3 {f:Nat->Bool} {d:Nat} (h:f d=true) (h0: ¬(0 < d/\f (d - 1)=true)):setK f (d+1)=setK f d++[⟨(d:Int),(d:Int)+1⟩]:=by rw [setK,if_pos h,if_neg h0]
theorem yh9 {l:List Sn} {s:Sn}:lastS (l++[s])=s:=by rw [lastS,xu3,zbm];simp
theorem yi5 {f:Nat->Bool}: ∀d,d<=65536->sVal (setK f d)=true/\(∀x:Int,mem (setK f d) x=true↔0<=x/\x < d/\f x.toNat=true)/\(0 < (setK f d).length->(lastS (setK f d)).hi<=d)/\(0 < d/\f (d - 1)=true->0 < (setK f d).length/\(lastS (setK f d)).hi=d)/\(setK f d).length<=d/\(0 < (setK f d).length-> ¬(0 < d/\f (d - 1)=true)->(lastS (setK f d)).hi < d)
 | 0,_=>⟨rfl,fun x=>by simp [setK,mem];omega,fun h=>by simp [setK] at h,fun h=>by omega,by simp [setK],fun h=>by simp [setK] at h⟩
 | d+1,hd=>by
  obtain ⟨h1,h2,h3,h4,h5,h6⟩:=yi5 (f:=f) d (by omega);cases hf:f d with
  | false=>
   rw [qn7 hf];refine ⟨h1,fun x=> ?_,fun h=>by have:=h3 h;omega,fun h=>(by rw [Nat.add_sub_cancel,hf] at h;cases h.2),by omega,fun h _=>by have:=h3 h;omega⟩;rw [h2];constructor
   ·rintro ⟨q1,q2,q3⟩;exact ⟨q1,by omega,q3⟩
   ·rintro ⟨q1,q2,q3⟩;refine ⟨q1,?_,q3⟩;by_cases hx:x.toNat=d
    ·rw [hx,hf] at q3;cases q3
    ·omega
  | true=>
   have hlast:0 < d+1/\f (d+1 - 1)=true:=⟨by omega,hf⟩
   by_cases h0:0 < d/\f (d - 1)=true
   ·obtain ⟨k1,k2⟩:=h4 h0;rw [zk7 hf h0];have hl:lastS ((setK f d).set ((setK f d).length - 1) ⟨(lastS (setK f d)).lo,(d:Int)+1⟩)=⟨(lastS (setK f d)).lo,(d:Int)+1⟩:=by
     rw [ye6 k1];exact yh9
    refine ⟨zp1 h1 k1 (by omega) (by omega),fun x=> ?_,fun _=>by rw [hl];dsimp only;omega,fun _=>⟨by rw [zdn];exact k1,by rw [hl];dsimp only;omega⟩,by rw [zdn];omega,fun _ h=>absurd hlast h⟩;have e1:=yh3 k1;have e2: ∀x,mem (setK f d) x=(mem ((setK f d).take ((setK f d).length - 1)) x || (decide ((lastS (setK f d)).lo<=x) && decide (x < (lastS (setK f d)).hi))):=fun x=>by
     conv=>lhs;rw [e1]
     exact xw2
    have hok:=xs1 h1 (i:=(setK f d).length - 1) (by omega);have hlo:(lastS (setK f d)).lo < (lastS (setK f d)).hi:=hok.2.1;rw [ye6 k1,xw2];have h2x:=h2 x;rw [e2,zdp,zbv,zbw,zbw] at h2x;rw [zdp,zbv,zbw,zbw];by_cases hx:x=d
    ·subst hx;refine ⟨fun _=>⟨by omega,by omega,by simpa using hf⟩,fun _=> .inr ⟨by dsimp only;omega,by dsimp only;omega⟩⟩
    ·constructor
     ·intro hq;have:=h2x.1 (hq.imp id fun h=>⟨h.1,by dsimp only at h;omega⟩);exact ⟨this.1,by omega,this.2.2⟩
     ·intro hq;exact (h2x.2 ⟨hq.1,by omega,hq.2.2⟩).imp id fun h=>⟨h.1,by dsimp only;omega⟩
   ·rw [yv3 hf h0];refine ⟨zm7 h1 ⟨by dsimp only;omega,by dsimp only;omega,by dsimp only;omega⟩ (fun h=>by have:=h6 h h0;dsimp only;omega),fun x=> ?_,fun _=>by rw [yh9];dsimp only;omega,fun _=>⟨by rw [zbm];simp,by rw [yh9];dsimp only;omega⟩,by rw [zbm];simp;omega,fun _ h=>absurd hlast h⟩;rw [xw2,zdp,zbv,zbw,zbw,h2];by_cases hx:x=d
    ·subst hx;exact ⟨fun _=>⟨by omega,by omega,by simpa using hf⟩,fun _=> .inr ⟨by dsimp only;omega,by dsimp only;omega⟩⟩
    ·constructor
     ·rintro (q | q)
      ·exact ⟨q.1,by omega,q.2.2⟩
      ·dsimp only at q;omega
     ·rintro ⟨q1,q2,q3⟩;exact .inl ⟨q1,by omega,q3⟩
abbrev setD (f:Nat->Bool):List Sn:=setK f 65536
theorem set_is {f:Nat->Bool} {S:List Sn} (h:sVal S=true) (hm: ∀d:Nat,d < 65536->f d=mem S d):setD f=S:=by
 obtain ⟨h1,h2,_⟩:=yi5 (f:=f) 65536 (zbq _);refine yv4 h1 h fun x=> ?_;have h2x:=h2 x;by_cases hx:0<=x/\x < 65536
 ·have e:((x.toNat:Nat):Int)=x:=by omega
  have:=hm x.toNat (by omega);rw [e] at this;rw [<-this];cases hfx:f x.toNat with
  | true=>exact h2x.2 ⟨hx.1,by omega,hfx⟩
  | false=>exact Bool.eq_false_iff.2 fun h=>by have:=(h2x.1 h).2.2;rw [hfx] at this;cases this
 ·rw [Bool.eq_false_iff.2 fun h=>hx ⟨(h2x.1 h).1,by have:=(h2x.1 h).2.1;omega⟩];refine (jb7.2 fun s hs hsd=> ?_).symm;obtain ⟨i,hi,rfl⟩:=yu3 hs;have:=xs1 h hi;omega
def dfR (a b:List Tst) (d:Nat):Bool:=if 0 < tabT a d/\0 < tabT b d then !decide ((a.getD (tabT a d - 1).toNat tst0).v=(b.getD (tabT b d - 1).toNat tst0).v) else decide (0 < tabT a d+tabT b d)
theorem diff_R {a b:List Tst} (ha:tRight a=true) (hb:tRight b=true):setD (dfR a b)=dfS a b:=by
 obtain ⟨h1,h2⟩:=qk2 ha hb;refine set_is h1 fun d hd=> ?_;rw [h2,dfB,dfR];rcases yw2 ha d with ⟨e1,e2⟩ | ⟨i,_,e1,e2⟩ <;> rcases yw2 hb d with ⟨f1,f2⟩ | ⟨j,_,f1,f2⟩
 ·rw [if_neg (by omega),e1,e2,f1,f2];rfl
 ·rw [if_neg (by omega),e1,e2,f1,f2,zbf (by omega)];simp
 ·rw [if_neg (by omega),e1,e2,f1,f2,zbf (by omega)];simp
 ·rw [if_pos ⟨by omega,by omega⟩,e1,e2,f1,f2,show ((i:Int)+1 - 1).toNat=i by omega,show ((j:Int)+1 - 1).toNat=j by omega];simp
theorem tab0 {l:List Tst}:tabI l 0=fun _=>0:=rfl
theorem qj8 {l:List Tst} (h:tRight l=true) (d:Nat):0<=tabT l d/\tabT l d<=l.length:=by
 rcases yw2 h d with ⟨e,_⟩ | ⟨j,hj,e,_⟩ <;> rw [e] <;> omega
def mk (f:Nat->Bool) (d e:Nat):Bool:=decide (e < d) && f e
theorem mkD0 {f:Nat->Bool}:mk f 0=fun _=>false:=by funext e;simp [mk]
theorem zj1 {f:Nat->Bool} {d:Nat}:(rowD (mk f d)).set d (f d)=rowD (mk f (d+1)):=
 zv5 (by simp [mk]) fun e he=>by
  rw [mk,mk]
  congr 1
  exact zeq.2 (by omega)
theorem wa4 {f:Nat->Bool}:rowD (mk f 65536)=rowD f:=by
 apply zfc;intro e;by_cases h:e < 65536
 ·rw [xg5 h,xg5 h,mk,zbf h,zdq]
 ·rw [zcv (by rw [xg6];omega),zcv (by rw [xg6];omega)]
attribute [irreducible] setK tabI
end An.S
namespace An.S
open Go Go.Proofs An Tryz
instance sl179:SlI Tryz.prog 179 4 1 false:=⟨underlying179,ti4⟩
instance fi118:FnI Tryz.prog 118:=⟨_,func118,by kernel_rfl,rfl⟩
instance fi119:FnI Tryz.prog 119:=⟨_,func119,by kernel_rfl,rfl⟩
instance fi120:FnI Tryz.prog 120:=⟨_,func120,by kernel_rfl,rfl⟩
theorem el4:ElI Tryz.prog 4 1 1 false (.bool false):=⟨ti4,by kernel_rfl,by kernel_rfl⟩
theorem zp3 (l:List Tst) (hl:l.length<=500000) (hok:tRight l=true):
  Ct Tryz.prog 119 [tL 8 true tTs l] (tL 1 false tI (rowD (tabT l))):=by
 obtain ⟨n,hn⟩: ∃n:Nat,n=65536:=⟨_,rfl⟩
 refine Ct.intro func119 rfl ntmps119 rfl ?_;intro w F;refine A7 ?_;refine RE (xi0 (k:=6) (t:=tI 0) (ts:=rV tI (List.replicate n 0)) n n zgq el3 (fun _ _=>rfl) rfl (by omega) (by omega) (zbq _) (by omega) (by omega) (yd0 _ _ rfl)) qB trivial qA ?_;refine A10 ?_;refine cL (fun (i:Nat)=>i<=l.length) (fun (i:Nat)=>uV (uO (uV uN 0 (tL 8 true tTs l)) 3 (.sl 6 1 0 n)) 4 (tI i)) (fun (i:Nat)=>uK uN 6 3 1 false (rV tI (rowD (tabI l i)))) [6] (fun (i:Nat)=>l.length - i) (0) (zbt _) (hh:=((zaq rfl (zat (by rw [hn,zu8,tab0]))) zax)) ?_;intro i hI;refine A9 ?_;refine x9 rfl (fun h65=> ?_) (fun h65=> ?_)
 ·
  refine A8 ?_;refine R2 (x5 sl38 (i) (by omega) (zai (l:=l) (n:=i) (d:=tst0))) rfl rfl (R1 (xa6 fo55_0.h (At.f 0 rfl rfl) rfl) rfl ?_);refine A5 ?_;have hat:=xm7 hok (i:=i) (by omega);refine cL (fun (e:Int)=>(l.getD i tst0).lo<=e/\e<=(l.getD i tst0).hi) (fun (e:Int)=>uV (uV (uO (uV uN 0 (tL 8 true tTs l)) 3 (.sl 6 1 0 n)) 4 (tI i)) 5 (tI e)) (fun (e:Int)=>uK uN 6 3 1 false (rV tI (rowD (tabF l i e)))) [6] (fun (e:Int)=>((l.getD i tst0).hi - e).toNat) ((l.getD i tst0).lo) ⟨by omega,by omega⟩ (hh:=((zaq rfl (zat (by rw [tabF_0]))) zax)) ?_;intro e hI2;obtain ⟨he1,he2⟩:=hI2;refine A6 ?_;refine R2 (x5 sl38 (i) (by omega) (zai (l:=l) (n:=i) (d:=tst0))) rfl rfl (R1 (xa6 fo55_1.h (At.f 1 rfl rfl) rfl) rfl ?_);refine A4 ?_;refine x9 rfl (fun h66=> ?_) (fun h66=> ?_)
  ·
   refine A9 ?_;refine R2 (zag sl35 rfl) rfl rfl (RE (xc1 (e.toNat) ti3 (xi5 (by rw [xg6];omega)) (by omega) (xf0 (f:=tI) (m:=(i:Int)+1) rfl)) qB qA trivial ?_);refine A8 ?_;exact kF (e+1) ⟨⟨by omega,by omega⟩,(by omega)⟩ (hh:=((zaq rfl (zat (by rw [wb7 (by omega) (by omega)]))) zax))
  ·
   refine A11 ?_;exact kF (i+1) ⟨(by omega),(by omega)⟩ (hh:=((zaq rfl (zat (by rw [tabF_1 (by omega)]))) zax))
 ·
  refine A7 ?_;refine RE (xi6 (f:=tI) (xs:=rowD (tabI l i)) (fun _ h=>h) (xe9 (by rw [xg6];omega)) (by rw [xg6];omega)) qA qA trivial ?_;refine A4 ?_;exact E1 rfl rfl (Le.of (by rw [show i=l.length by omega]))
theorem wh4 (f:Nat->Bool):
  Ct Tryz.prog 120 [tL 1 false tB (rowD f)] (tL 2 true tSn (setD f)):=by
 refine Ct.intro func120 rfl ntmps120 rfl ?_;intro w F;refine xd9 ?_;refine xe0 ?_;refine R1 xb0 rfl (xc9 (by kernel_rfl) (xb6 (xd9 ?_)));refine xe0 ?_;refine RE (xg1 (k:=3) 83 2 true rfl (fun h=>by cases h)) trivial trivial qA (xc9 (by kernel_rfl) (xb6 (xd9 (xd9 ?_))));refine xe0 ?_;refine R1 xb0 rfl (xc9 (by kernel_rfl) (xb6 (xi1 ?_)));refine cL (fun (fm:(Nat)×(List Sn))=>(fun (d:Nat) (xs:List Sn)=>d<=65536/\xs=setK f d) fm.1 fm.2) (wB fun (d:Nat) (xs:List Sn)=>uV (uO (uV uN 0 (tL 1 false tB (rowD f))) 3 (.sl 3 2 0 xs.length)) 4 (tI d)) (wB fun (d:Nat) (xs:List Sn)=>uK uN 3 83 2 true (rV tSn xs)) [3] (fun (fm:(Nat)×(List Sn))=>(fun (d:Nat) (xs:List Sn)=>65536 - d) fm.1 fm.2) ((0,[])) (by dsimp only;exact ⟨zbt _,by rw [setK]⟩) ?_;intro fm hI;obtain ⟨d,xs⟩:=fm;replace hI:d<=65536/\xs=setK f d:=hI;show wc _ _ _ _ (uV (uO (uV uN 0 (tL 1 false tB (rowD f))) 3 (.sl 3 2 0 xs.length)) 4 (tI d)) (uK uN 3 83 2 true (rV tSn xs)) _;obtain ⟨hd,hx⟩:=hI;have hxl:xs.length<=d:=by rw [hx];exact (yi5 d hd).2.2.2.2.1
 refine xd9 (xd9 ?_);refine xe0 ?_;refine R1 xa3 rfl (R2 zr6 rfl rfl (xc9 (by kernel_rfl) (xb6 ?_)));refine x9 rfl (fun h35=> ?_) (fun h35=> ?_)
 ·
  refine xq5 (xb6 (xd9 (xi1 (xd9 (xd9 ?_)))));refine xe0 ?_;refine R1 xa3 rfl (R1 xa3 rfl (R2 (x5 sl179 (d) (by omega) (xg5 (by omega))) rfl rfl (R1 (xf2 ti4) rfl (R1 xj9 rfl (xc9 (by kernel_rfl) (xb6 ?_))))));refine xc7 rfl (fun h36=> ?_) (fun h36=> ?_)
  ·
   have hf:f d=false:=by simpa using h36
   refine yf6 (xw9 (yq0 (xb6 ?_)));refine xe0 ?_;refine R1 xa3 rfl (R2 (xh3 zah) rfl rfl (R1 xb0 rfl (xc9 (by kernel_rfl) ?_)));exact kF ((d+1,xs)) ⟨(by dsimp only;exact ⟨by omega,by rw [qn7 hf,<-hx]⟩),(by dsimp only;omega)⟩
  ·
   have hf:f d=true:=by simpa using h36
   refine xq5 (xb6 (xd9 ?_));refine xe0 ?_;refine R1 xa3 rfl (R2 xw8 rfl rfl (R1 xa3 rfl ?_));refine RGcaseD (t:=16) rfl (fun h39=> ?_) (fun h39=> ?_)
   ·
    refine Rg (zbf h39) rfl xa3 rfl qA (Rg (zbf h39) rfl xa3 rfl qA (Rg (zbf h39) rfl (xh2 zah) rfl qB (Rg (zbf h39) rfl (x5 sl179 (d - 1) (by omega) (xg5 (by omega))) rfl qB (Rg (zbf h39) rfl (xf2 ti4) rfl qA (R2 (xc6 (zbf h39)) rfl rfl (xc9 (by kernel_rfl) (xb6 ?_)))))));refine xc7 rfl (fun h39_2=> ?_) (fun h39_2=> ?_)
    ·
     have hk:=(yi5 (f:=f) d (by omega)).2.2.2.1 ⟨by omega,h39_2⟩;rw [<-hx] at hk;refine xe0 ?_;refine R1 xa3 rfl (R1 xa3 rfl (R1 (zt4 zgn) rfl (R2 (xh2 zah) rfl rfl (R1 xa3 rfl (R2 (xh3 zah) rfl rfl (R2 (zag sl57 rfl) rfl rfl (R1 (xb5 fo83_1.h rfl) rfl (RE (xn1 (es:=2) (o:=1) (t2:=tSn ⟨(xs.getD (xs.length - 1) sn0).lo,(d:Int)+1⟩) (xs.length - 1) ti3 (xc3 (d:=sn0) (by omega)) (Up.g 1 rfl rfl rfl) (by omega) (xf0 rfl)) qB qA trivial (xc9 (by kernel_rfl) (xz6 (xb6 ?_)))))))))));refine xe0 ?_;refine R1 xa3 rfl (R2 (xh3 zah) rfl rfl (R1 xb0 rfl (xc9 (by kernel_rfl) ?_)));exact kF ((d+1,(xs.set (xs.length - 1) ⟨(xs.getD (xs.length - 1) sn0).lo,(d:Int)+1⟩))) ⟨(by dsimp only;exact ⟨by omega,by rw [zk7 hf ⟨by omega,h39_2⟩,<-hx];rfl⟩),(by dsimp only;omega)⟩ (hg:=(sI ((zav rfl (zaw (by dsimp only;rw [zdn]))) (sC zay))))
    ·
     refine xe0 ?_;refine R1 xa3 rfl (R1 xa3 rfl (R1 xa3 rfl (R2 (xh3 zah) rfl rfl (R2 (xd3 (r:=tS [⟨1,false,tI (d:Int)⟩,⟨1,false,tI ((d:Int)+1)⟩]) (ts:=[(0,tI (d:Int)),(1,tI ((d:Int)+1))]) bu83 zr83.2 (Bc 0 rfl rfl rfl (Bc 1 rfl rfl rfl zao))) rfl rfl (R1 (xc2 (n:=1) (f:=tSn) [(⟨(d:Int),(d:Int)+1⟩:Sn)] zgn el83 zf83 rfl (fun _=>inferInstance) rfl rfl rfl) rfl (RE (xb3 (k:=3) (k':=37) (f:=tSn) (ys:=[(⟨(d:Int),(d:Int)+1⟩:Sn)]) (ts':=rV tSn (xs++[(⟨(d:Int),(d:Int)+1⟩:Sn)])) zgn el83 zf83 rfl rfl (fun _=>inferInstance) xc0 (by simp;omega) (by simp;omega) (by simp [rV]) (n':=xs.length+1) rfl) qB qA qA (R1 xb0 rfl (xc9 (by kernel_rfl) (xz6 (xb6 ?_))))))))));refine xe0 ?_;refine R1 xa3 rfl (R2 (xh3 zah) rfl rfl (R1 xb0 rfl (xc9 (by kernel_rfl) ?_)));exact xe3 (l:=[3]) (zab 3 37) ((d+1,xs++[(⟨(d:Int),(d:Int)+1⟩:Sn)])) ⟨(by dsimp only;exact ⟨by omega,by rw [yv3 hf (fun h=>by rw [h39_2] at h;cases h.2),<-hx]⟩),(by dsimp only;omega)⟩ (zaf rfl ((zbc rfl (zaw (by dsimp only;rw [zbm];rfl))) (zas rfl zbd))) ((zbb rfl (zat x8.symm)) zbe) (zaj (zak rfl (zaj zar))) (zam rfl (supJ x6) zaz) (lkOk rfl) rfl rfl (fun _ h=>by cases h)
   ·
    refine RGoff (zbg h39) rfl rfl (RGoff (zbg h39) rfl rfl (RGoff (zbg h39) rfl rfl (RGoff (zbg h39) rfl rfl (RGoff (zbg h39) rfl rfl (R2 (xc4 (zbg h39)) rfl rfl (xc9 (by kernel_rfl) (xb6 (xi8 rfl rfl ?_))))))));refine xe0 ?_;refine R1 xa3 rfl (R1 xa3 rfl (R1 xa3 rfl (R2 (xh3 zah) rfl rfl (R2 (xd3 (r:=tS [⟨1,false,tI (d:Int)⟩,⟨1,false,tI ((d:Int)+1)⟩]) (ts:=[(0,tI (d:Int)),(1,tI ((d:Int)+1))]) bu83 zr83.2 (Bc 0 rfl rfl rfl (Bc 1 rfl rfl rfl zao))) rfl rfl (R1 (xc2 (n:=1) (f:=tSn) [(⟨(d:Int),(d:Int)+1⟩:Sn)] zgn el83 zf83 rfl (fun _=>inferInstance) rfl rfl rfl) rfl (RE (xb3 (k:=3) (k':=37) (f:=tSn) (ys:=[(⟨(d:Int),(d:Int)+1⟩:Sn)]) (ts':=rV tSn (xs++[(⟨(d:Int),(d:Int)+1⟩:Sn)])) zgn el83 zf83 rfl rfl (fun _=>inferInstance) xc0 (by simp;omega) (by simp;omega) (by simp [rV]) (n':=xs.length+1) rfl) qB qA qA (R1 xb0 rfl (xc9 (by kernel_rfl) (xz6 (xb6 ?_))))))))));refine xe0 ?_;refine R1 xa3 rfl (R2 (xh3 zah) rfl rfl (R1 xb0 rfl (xc9 (by kernel_rfl) ?_)));exact xe3 (l:=[3]) (zab 3 37) ((d+1,xs++[(⟨(d:Int),(d:Int)+1⟩:Sn)])) ⟨(by dsimp only;exact ⟨by omega,by rw [yv3 hf (fun h=>by omega),<-hx]⟩),(by dsimp only;omega)⟩ (zaf rfl ((zbc rfl (zaw (by dsimp only;rw [zbm];rfl))) (zas rfl zbd))) ((zbb rfl (zat x8.symm)) zbe) (zaj (zak rfl (zaj zar))) (zam rfl (supJ x6) zaz) (lkOk rfl) rfl rfl (fun _ h=>by cases h)
 ·
  refine yf6 (xw9 (xw9 (yq0 (xb6 (xd9 ?_)))));refine xe0 ?_;refine RE (xi6 (f:=tSn) (xs:=xs) (fun _ h=>h) (xe9 rfl) rfl) qA qA trivial (R1 xb0 rfl (xc9 (by kernel_rfl) (xb6 (xt9 ?_))));exact E1 rfl rfl (Le.of (by rw [hx,show d=65536 by omega]))
theorem jo9 (a b:List Tst) (hla:a.length<=200000) (hlb:b.length<=200000) (hDa: ∀s∈a,s.v.f.dig) (hDb: ∀s∈b,s.v.f.dig) (hsa: ∀s∈a,s.v.f.n.l.length<=1048576/\s.v.f.d.l.length<=1048576) (hsb: ∀s∈b,s.v.f.n.l.length<=1048576/\s.v.f.d.l.length<=1048576):
  Ct Tryz.prog 66 [tL 8 true tTs a,tL 8 true tTs b] (tT [tL 2 true tSn (if tRight a=true/\tRight b=true then dfS a b else []),tI (if tRight a=true/\tRight b=true then 0 else 2)]):=by
 obtain ⟨n,hn⟩: ∃n:Nat,n=65536:=⟨_,rfl⟩
 refine Ct.intro func66 rfl ntmps66 rfl ?_;intro w F;refine xd9 ?_;refine xe0 ?_;refine R1 xb0 rfl (R1 xb0 rfl (xc9 (by kernel_rfl) (xb6 (xd9 (xd9 ?_)))));refine xe0 ?_;refine R1 xa3 rfl (R1 (x4 (zm4 a (by omega) hDa hsa) fi118 rfl) rfl (R1 xj9 rfl (R1 xa3 rfl ?_)));refine RGcase (t:=13) rfl (fun h200=> ?_) (fun h200=> ?_)
 ·
  refine RGoff h200 rfl rfl (RGoff h200 rfl rfl (RGoff h200 rfl rfl (R2 (xc6 h200) rfl rfl (xc9 (by kernel_rfl) (xb6 (yn3 rfl rfl (xd9 ?_)))))));refine xe0 ?_;refine R1 xb0 rfl (R1 xb0 rfl (xc9 (by kernel_rfl) (xb6 (xt9 (ym0 ?_)))));exact E2 rfl rfl rfl (leNil (if_neg (fun h=>by simp [h.1] at*))) (zba (if_neg (fun h=>by simp [h.1] at*)).symm)
 ·
  refine Rg h200 rfl xa3 rfl qA (Rg h200 rfl (x4 (zm4 b (by omega) hDb hsb) fi118 rfl) rfl qA (Rg h200 rfl xj9 rfl qA (R2 (xc4 h200) rfl rfl (xc9 (by kernel_rfl) (xb6 ?_)))));refine xc7 rfl (fun h200_2=> ?_) (fun h200_2=> ?_)
  ·
   refine xd9 ?_;refine xe0 ?_;refine R1 xb0 rfl (R1 xb0 rfl (xc9 (by kernel_rfl) (xb6 (xt9 (ym0 ?_)))));exact E2 rfl rfl rfl (leNil (if_neg (fun h=>by simp [h.1,h.2] at*))) (zba (if_neg (fun h=>by simp [h.1,h.2] at*)).symm)
  ·
   refine xq5 (xb6 (xd9 ?_));have hok:tRight a=true/\tRight b=true:=⟨by simpa using h200,by simpa using h200_2⟩
   refine xe0 ?_;refine R1 xa3 rfl (R1 (x4 (zp3 a (by omega) hok.1) fi119 rfl) rfl (R1 xa3 rfl (R1 (x4 (zp3 b (by omega) hok.2) fi119 rfl) rfl (R1 xb0 rfl (R1 xb0 rfl (xc9 (by kernel_rfl) (xb6 (xd9 ?_))))))));refine xe0 ?_;refine RE (xi0 (k:=22) (t:=tB false) (ts:=rV tB (List.replicate n false)) n n underlying179 el4 (fun _ _=>rfl) rfl (by omega) (by omega) (zbq _) (by omega) (by omega) (yd0 _ _ rfl)) qB trivial qA (R1 xb0 rfl (xc9 (by kernel_rfl) (xb6 (xd9 (xd9 ?_)))));refine xe0 ?_;refine R1 xb0 rfl (xc9 (by kernel_rfl) (xb6 (xi1 ?_)));refine cL (fun (d:Nat)=>d<=65536) (fun (d:Nat)=>uV (uO (uV (uV (uV (uV uN 0 (tL 8 true tTs a)) 1 (tL 8 true tTs b)) 6 (tL 1 false tI (rowD (tabT a)))) 7 (tL 1 false tI (rowD (tabT b)))) 8 (.sl 22 1 0 n)) 9 (tI d)) (fun (d:Nat)=>uK uN 22 4 1 false (rV tB (rowD (mk (dfR a b) d)))) [22] (fun (d:Nat)=>65536 - d) (0) (zbt _) (hh:=((zaq rfl (zat (by rw [hn,zu8,mkD0]))) zax)) ?_;intro d hI;have qa:=qj8 hok.1 d;have qb:=qj8 hok.2 d;refine xd9 (xd9 ?_);refine xe0 ?_;refine R1 xa3 rfl (R2 zr6 rfl rfl (xc9 (by kernel_rfl) (xb6 ?_)));refine x9 rfl (fun h205=> ?_) (fun h205=> ?_)
   ·
    refine xq5 (xb6 (xd9 (xi1 (xd9 ?_))));refine xe0 ?_;refine R1 xa3 rfl (R1 xa3 rfl (R2 (x5 sl35 (d) (by omega) (xg5 (by omega))) rfl rfl (R1 (xf2 ti3) rfl (R2 xw8 rfl rfl (R1 xa3 rfl ?_)))));refine RGcaseD (t:=32) rfl (fun h206=> ?_) (fun h206=> ?_)
    ·
     refine Rg (zbf h206) rfl xa3 rfl qA (Rg (zbf h206) rfl xa3 rfl qA (Rg (zbf h206) rfl (x5 sl35 (d) (by omega) (xg5 (by omega))) rfl qB (Rg (zbf h206) rfl (xf2 ti3) rfl qA (Rg (zbf h206) rfl xw8 rfl qB (R2 (xc6 (zbf h206)) rfl rfl (xc9 (by kernel_rfl) (xb6 ?_)))))));refine x9 rfl (fun h206_2=> ?_) (fun h206_2=> ?_)
     ·
      refine za0 mixed ?_;refine R1 xa3 rfl (R1 xa3 rfl (R1 xa3 rfl (R1 xa3 rfl (R1 xa3 rfl (R2 (x5 sl35 (d) (by omega) (xg5 (by omega))) rfl rfl (R1 (xf2 ti3) rfl (R2 (xh2 zah) rfl rfl (R2 (x5 sl38 ((tabT a d - 1).toNat) (by omega) (zai (l:=a) (n:=(tabT a d - 1).toNat) (d:=tst0))) rfl rfl (R1 (xa6 fo55_2.h (At.f 2 rfl rfl) rfl) rfl (R1 (xf2 ti28) rfl (R1 xa3 rfl (R1 xa3 rfl (R1 xa3 rfl (R2 (x5 sl35 (d) (by omega) (xg5 (by omega))) rfl rfl (R1 (xf2 ti3) rfl ?_)))))))))))))));refine R2 (xh2 zah) rfl rfl (R2 (x5 sl38 ((tabT b d - 1).toNat) (by omega) (zai (l:=b) (n:=(tabT b d - 1).toNat) (d:=tst0))) rfl rfl (R1 (xa6 fo55_2.h (At.f 2 rfl rfl) rfl) rfl (R1 (xf2 ti28) rfl (R2 (x4 (yj5 _ _ (hsa _ (xg4 (by omega))).1 (hsa _ (xg4 (by omega))).2) fi38 rfl) rfl rfl (R1 xj9 rfl (R2 (zag sl179 rfl) rfl rfl (RE (xc1 (d) ti4 (xi5 (by rw [xg6];omega)) (by omega) (xf0 (f:=tB) (m:=dfR a b d) (by rw [dfR,if_pos ⟨by omega,by omega⟩]))) ⟨rfl,rfl,trivial⟩ ⟨rfl,trivial⟩ trivial (zr0 (by kernel_rfl) (xz6 (xb6 ?_))))))))));refine xe0 ?_;refine R1 xa3 rfl (R2 (xh3 zah) rfl rfl (R1 xb0 rfl (xc9 (by kernel_rfl) ?_)));exact kF (d+1) ⟨(by omega),(by omega)⟩ (hh:=((zaq rfl (zat (by rw [zj1 (f:=(dfR a b))]))) zax))
     ·
      refine za0 mixed ?_;refine R1 xa3 rfl (R1 xa3 rfl (R1 xa3 rfl (R1 xa3 rfl (R2 (x5 sl35 (d) (by omega) (xg5 (by omega))) rfl rfl (R1 (xf2 ti3) rfl (R1 xa3 rfl (R1 xa3 rfl (R2 (x5 sl35 (d) (by omega) (xg5 (by omega))) rfl rfl (R1 (xf2 ti3) rfl (R2 (xh3 zah) rfl rfl (R2 xw8 rfl rfl (R2 (zag sl179 rfl) rfl rfl (RE (xc1 (d) ti4 (xi5 (by rw [xg6];omega)) (by omega) (xf0 (f:=tB) (m:=dfR a b d) (by rw [dfR,if_neg (by omega)]))) qB qA trivial (zr0 (by kernel_rfl) (xz6 ?_)))))))))))))));refine xb6 ?_;refine xe0 ?_;refine R1 xa3 rfl (R2 (xh3 zah) rfl rfl (R1 xb0 rfl (xc9 (by kernel_rfl) ?_)));exact kF (d+1) ⟨(by omega),(by omega)⟩ (hh:=((zaq rfl (zat (by rw [zj1 (f:=(dfR a b))]))) zax))
    ·
     refine RGoff (zbg h206) rfl rfl (RGoff (zbg h206) rfl rfl (RGoff (zbg h206) rfl rfl (RGoff (zbg h206) rfl rfl (RGoff (zbg h206) rfl rfl (R2 (xc4 (zbg h206)) rfl rfl (xc9 (by kernel_rfl) (xb6 (xi8 rfl rfl ?_))))))));refine za0 mixed ?_;refine R1 xa3 rfl (R1 xa3 rfl (R1 xa3 rfl (R1 xa3 rfl (R2 (x5 sl35 (d) (by omega) (xg5 (by omega))) rfl rfl (R1 (xf2 ti3) rfl (R1 xa3 rfl (R1 xa3 rfl (R2 (x5 sl35 (d) (by omega) (xg5 (by omega))) rfl rfl (R1 (xf2 ti3) rfl (R2 (xh3 zah) rfl rfl (R2 xw8 rfl rfl (R2 (zag sl179 rfl) rfl rfl (RE (xc1 (d) ti4 (xi5 (by rw [xg6];omega)) (by omega) (xf0 (f:=tB) (m:=dfR a b d) (by rw [dfR,if_neg (by omega)]))) qB qA trivial (zr0 (by kernel_rfl) (xz6 ?_)))))))))))))));refine xb6 ?_;refine xe0 ?_;refine R1 xa3 rfl (R2 (xh3 zah) rfl rfl (R1 xb0 rfl (xc9 (by kernel_rfl) ?_)));exact kF (d+1) ⟨(by omega),(by omega)⟩ (hh:=((zaq rfl (zat (by rw [zj1 (f:=(dfR a b))]))) zax))
   ·
    refine yf6 (xw9 (xw9 (yq0 (xb6 (xd9 ?_)))));have hd6:d=65536:=by omega
    refine xt7 (k:=22) (e':=⟨4,1,false,rV tB (rowD (dfR a b))⟩) rfl (by rw [hd6,wa4]) ?_;refine xe0 ?_;refine RE (xi6 (f:=tB) (xs:=rowD (dfR a b)) (fun _ h=>h) (xe9 (by rw [xg6];omega)) (by rw [xg6];omega)) qA qA trivial (R1 (x4 (wh4 (dfR a b)) fi120 rfl) rfl (R1 xb0 rfl (R1 xb0 rfl (xc9 (by kernel_rfl) (xb6 (xt9 ?_))))));exact E2 rfl rfl rfl (Le.of (by rw [if_pos hok,diff_R hok.1 hok.2])) (zba (by rw [if_pos hok]))
instance fi9:FnI Tryz.prog 9:=⟨_,func9,by kernel_rfl,rfl⟩
instance fi16:FnI Tryz.prog 16:=⟨_,func16,by kernel_rfl,rfl⟩
instance fi25:FnI Tryz.prog 25:=⟨_,func25,by kernel_rfl,rfl⟩
instance fi27:FnI Tryz.prog 27:=⟨_,func27,by kernel_rfl,rfl⟩
instance fi56:FnI Tryz.prog 56:=⟨_,func56,by kernel_rfl,rfl⟩
instance fi66:FnI Tryz.prog 66:=⟨_,func66,by kernel_rfl,rfl⟩
theorem pb_t {f g:Fa} (h1:f.key=g.key) (h2:f.gone=false) (h3:g.gone=false) (h4: ¬((f.v.kind:Nat):Int)=((g.v.kind:Nat):Int)):pairBad f g=true:=by
 rw [pairBad,zbf h1,h2,h3,zbf (by omega)];rfl
theorem pb_f {f g:Fa} (h: ¬f.key=g.key∨f.gone=true∨g.gone=true∨((f.v.kind:Nat):Int)=((g.v.kind:Nat):Int)):pairBad f g=false:=by
 rw [pairBad];rcases h with h | h | h | h
 ·rw [zbg h];rfl
 ·rw [h];simp
 ·rw [h];simp
 ·rw [zbg (show ¬f.v.kind≠g.v.kind by omega)];simp
theorem xt3 (a:List Fa) (hl:a.length<=100000) (hs:smF a) (hD: ∀f∈a,f.v.f.dig):
  Ct Tryz.prog 27 [tL 11 true tFa a] (tB (recOk a)):=by
 refine Ct.intro func27 rfl ntmps27 rfl ?_;intro w F;refine A13 ?_;refine x9 rfl (fun h24=> ?_) (fun h24=> ?_)
 ·
  refine A7 ?_;exact E1 rfl rfl (zau (by rw [<-ym2,rvAll,zbg (by omega)];rfl))
 ·
  refine A9 ?_;refine cL (fun (i:Nat)=>i<=a.length/\(List.range i).all (rvOk a)=true) (fun (i:Nat)=>uV (uV uN 0 (tL 11 true tFa a)) 3 (tI i)) (fun (i:Nat)=>fun _=>none) [] (fun (i:Nat)=>a.length - i) (0) ⟨zbt _,rfl⟩ ?_;intro i hI;obtain ⟨hi,ha⟩:=hI;refine A9 ?_;refine x9 rfl (fun h27=> ?_) (fun h27=> ?_)
  ·
   refine A9 ?_;refine R2 (x5 sl33 (i) (by omega) (zai (l:=a) (n:=i) (d:=fa0))) rfl rfl ?_;refine A1 ?_;refine R1 (x4 (zn9 (a.getD i fa0) (hD _ (xe4 (by omega))) (by have:=(hs _ (xe4 (l:=a) (i:=i) (by omega))).1;omega) (by have:=(hs _ (xe4 (l:=a) (i:=i) (by omega))).2;omega)) fi9 rfl) rfl ?_;refine A3 ?_;refine xc7 rfl (fun h28=> ?_) (fun h28=> ?_)
   ·
    refine A12 ?_;exact E1 rfl rfl (zau (by rw [<-ym2,rvAll,xq7 (i:=i) (by omega) (by rw [rvOk,show fRight (a.getD i fa0)=false by simpa using h28];rfl),Bool.and_false]))
   ·
    refine A8 ?_;refine cL (fun (k:Nat)=>k<=i/\(List.range k).all (fun k=> !pairBad (a.getD k fa0) (a.getD i fa0))=true) (fun (k:Nat)=>uV (uV (uV uN 0 (tL 11 true tFa a)) 3 (tI i)) 4 (tI k)) (fun (k:Nat)=>fun _=>none) [] (fun (k:Nat)=>i - k) (0) ⟨zbt _,rfl⟩ ?_;intro k hI;obtain ⟨hk,hk2⟩:=hI;refine A8 ?_;refine x9 rfl (fun h31=> ?_) (fun h31=> ?_)
    ·
     refine A8 ?_;refine R2 (x5 sl33 (k) (by omega) (zai (l:=a) (n:=k) (d:=fa0))) rfl rfl (R1 (xa6 fo30_0.h (At.f 0 rfl rfl) rfl) rfl ?_);refine A3 ?_;refine R2 (x5 sl33 (i) (by omega) (zai (l:=a) (n:=i) (d:=fa0))) rfl rfl (R1 (xa6 fo30_0.h (At.f 0 rfl rfl) rfl) rfl ?_);refine A1 ?_;refine R2 (ya0) rfl rfl ?_;refine A1 ?_;refine RGcaseD (t:=36) rfl (fun h32=> ?_) (fun h32=> ?_)
     ·
      refine A2 ?_;refine Rg (zbf h32) rfl (x5 sl33 (k) (by omega) (zai (l:=a) (n:=k) (d:=fa0))) rfl ⟨rfl,rfl,trivial⟩ (Rg (zbf h32) rfl (xa6 fo30_4.h (At.f 4 rfl rfl) rfl) rfl ⟨rfl,trivial⟩ ?_);refine A4 ?_;refine RGcase (t:=44) rfl (fun h32_2=> ?_) (fun h32_2=> ?_)
      ·
       refine A2 ?_;refine Rg h32_2 rfl (x5 sl33 (i) (by omega) (zai (l:=a) (n:=i) (d:=fa0))) rfl ⟨rfl,rfl,trivial⟩ (Rg h32_2 rfl (xa6 fo30_4.h (At.f 4 rfl rfl) rfl) rfl ⟨rfl,trivial⟩ ?_);refine A4 ?_;refine RGcase (t:=52) rfl (fun h32_3=> ?_) (fun h32_3=> ?_)
       ·
        refine A2 ?_;refine Rg h32_3 rfl (x5 sl33 (k) (by omega) (zai (l:=a) (n:=k) (d:=fa0))) rfl ⟨rfl,rfl,trivial⟩ (Rg h32_3 rfl (xa6 fo30_5.h (At.f 5 rfl rfl) rfl) rfl ⟨rfl,trivial⟩ (Rg h32_3 rfl (xa6 fo28_0.h (At.f 0 rfl rfl) rfl) rfl ⟨rfl,trivial⟩ ?_));refine A3 ?_;refine Rg h32_3 rfl (x5 sl33 (i) (by omega) (zai (l:=a) (n:=i) (d:=fa0))) rfl ⟨rfl,rfl,trivial⟩ (Rg h32_3 rfl (xa6 fo30_5.h (At.f 5 rfl rfl) rfl) rfl ⟨rfl,trivial⟩ (Rg h32_3 rfl (xa6 fo28_0.h (At.f 0 rfl rfl) rfl) rfl ⟨rfl,trivial⟩ ?_));refine A5 ?_;refine x9 rfl (fun h32_4=> ?_) (fun h32_4=> ?_)
        ·
         refine A15 ?_;exact E1 rfl rfl (zau (by rw [<-ym2,rvAll,xq7 (i:=i) (by omega) (by rw [rvOk,xq7 (i:=k) (by omega) (by rw [pb_t (by assumption) (by simpa using h32_2) (by simpa using h32_3) (by omega)];rfl),Bool.and_false]),Bool.and_false]))
        ·
         refine A8 ?_;exact kF (k+1) ⟨⟨by omega,by rw [xj1,hk2,(pb_f (f:=(a.getD k fa0)) (g:=(a.getD i fa0)) (by first | exact .inl (by assumption) | exact .inr (.inl (by simpa using h32_2)) | exact .inr (.inr (.inl (by simpa using h32_3))) | exact .inr (.inr (.inr (by omega)))))];rfl⟩,(by omega)⟩
       ·
        refine A18 ?_;refine A7 ?_;exact kF (k+1) ⟨⟨by omega,by rw [xj1,hk2,(pb_f (f:=(a.getD k fa0)) (g:=(a.getD i fa0)) (by first | exact .inl (by assumption) | exact .inr (.inl (by simpa using h32_2)) | exact .inr (.inr (.inl (by simpa using h32_3))) | exact .inr (.inr (.inr (by omega)))))];rfl⟩,(by omega)⟩
      ·
       refine A18 ?_;refine A15 ?_;exact kF (k+1) ⟨⟨by omega,by rw [xj1,hk2,(pb_f (f:=(a.getD k fa0)) (g:=(a.getD i fa0)) (by first | exact .inl (by assumption) | exact .inr (.inl (by simpa using h32_2)) | exact .inr (.inr (.inl (by simpa using h32_3))) | exact .inr (.inr (.inr (by omega)))))];rfl⟩,(by omega)⟩
     ·
      refine A18 ?_;refine A18 ?_;refine A5 ?_;exact kF (k+1) ⟨⟨by omega,by rw [xj1,hk2,(pb_f (f:=(a.getD k fa0)) (g:=(a.getD i fa0)) (by first | exact .inl (by assumption) | exact .inr (.inl (by simpa using h32_2)) | exact .inr (.inr (.inl (by simpa using h32_3))) | exact .inr (.inr (.inr (by omega)))))];rfl⟩,(by omega)⟩
    ·
     refine A11 ?_;exact kF (i+1) ⟨⟨by omega,by rw [show k=i by omega] at hk2;rw [xj1,ha,rvOk,show fRight (a.getD i fa0)=true by simpa using h28,hk2];rfl⟩,(by omega)⟩
  ·
   refine A11 ?_;exact E1 rfl rfl (zau (by rw [<-ym2,rvAll,zbf (by omega),show a.length=i by omega,ha];rfl))
def rkA (a:List Fa) (key:ByteArray):Nat:=if recOk a=true then kGet (kM a) key else 0
theorem jm2 {a:List Fa} {key:ByteArray} {i:Nat} (h:a.length<=i∨recOk a=false) (hn: ∀j,j < i-> ¬((a.getD j fa0).key=key/\(a.getD j fa0).gone=false)):rkA a key=0:=by
 rw [rkA];split
 ·next hr=>
  rcases h with h | h
  ·exact je0 hr fun j hj=>hn j (by omega)
  ·rw [h] at hr;cases hr
 ·rfl
theorem jn9 (a:List Fa) (key:ByteArray) (hl:a.length<=100000) (hs:smF a) (hD: ∀f∈a,f.v.f.dig):
  Ct Tryz.prog 29 [tL 11 true tFa a,tSt key] (tE (.int .u8 ((rkA a key:Nat):Int))):=by
 refine Ct.intro func29 rfl ntmps29 rfl ?_;intro w F;refine A12 ?_;refine cL (fun (i:Nat)=>i<=a.length/\ ∀j,j < i-> ¬((a.getD j fa0).key=key/\(a.getD j fa0).gone=false)) (fun (i:Nat)=>uV (uV (uV uN 0 (tL 11 true tFa a)) 1 (tSt key)) 5 (tI i)) (fun (i:Nat)=>fun _=>none) [] (fun (i:Nat)=>a.length - i) (0) ⟨zbt _,fun j hj=>absurd hj (Nat.not_lt_zero j)⟩ ?_;intro i hI;obtain ⟨hi,hn⟩:=hI;refine A8 ?_;refine RGcaseD (t:=10) rfl (fun h60=> ?_) (fun h60=> ?_)
 ·
  refine A1 ?_;refine Rg (zbf h60) rfl (x4 (xt3 a hl hs hD) fi27 rfl) rfl qA ?_;refine A3 ?_;refine xc7 rfl (fun h60_2=> ?_) (fun h60_2=> ?_)
  ·
   refine A8 ?_;refine R2 (x5 sl33 (i) (by omega) (zai (l:=a) (n:=i) (d:=fa0))) rfl rfl (R1 (xa6 fo30_0.h (At.f 0 rfl rfl) rfl) rfl ?_);refine A2 ?_;refine R2 (ya0) rfl rfl ?_;refine A1 ?_;refine RGcaseD (t:=23) rfl (fun h61=> ?_) (fun h61=> ?_)
   ·
    refine A2 ?_;refine Rg (zbf h61) rfl (x5 sl33 (i) (by omega) (zai (l:=a) (n:=i) (d:=fa0))) rfl ⟨rfl,rfl,trivial⟩ (Rg (zbf h61) rfl (xa6 fo30_4.h (At.f 4 rfl rfl) rfl) rfl ⟨rfl,trivial⟩ ?_);refine A5 ?_;refine xc7 rfl (fun h61_2=> ?_) (fun h61_2=> ?_)
    ·
     refine A4 ?_;refine R2 (x5 sl33 (i) (by omega) (zai (l:=a) (n:=i) (d:=fa0))) rfl rfl (R1 (xa6 fo30_5.h (At.f 5 rfl rfl) rfl) rfl (R1 (xa6 fo28_0.h (At.f 0 rfl rfl) rfl) rfl ?_));refine A10 ?_;exact E1 rfl rfl (Le.of (by rw [rkA,if_pos (by simp_all),qv6 (i:=i) (by simp_all) (by omega) (by simp_all) (by simp_all)]))
    ·
     refine A8 ?_;exact kF (i+1) ⟨⟨by omega,(fun j hj=>(zcb j i).elim (hn j) fun h hh=>by rw [show j=i by omega] at hh;obtain ⟨q1,q2⟩:=hh;first | contradiction | (simp_all;done))⟩,(by omega)⟩
   ·
    refine A18 ?_;exact kF (i+1) ⟨⟨by omega,(fun j hj=>(zcb j i).elim (hn j) fun h hh=>by rw [show j=i by omega] at hh;obtain ⟨q1,q2⟩:=hh;first | contradiction | (simp_all;done))⟩,(by omega)⟩
  ·
   refine A11 ?_;exact E1 rfl rfl (Le.of (by rw [jm2 (i:=i) (by first | (left;omega) | (right;simp_all;done)) hn];rfl))
 ·
  refine A17 ?_;exact E1 rfl rfl (Le.of (by rw [jm2 (i:=i) (by first | (left;omega) | (right;simp_all;done)) hn];rfl))
theorem qc3 (a:List Fa) (key:ByteArray) (d kn:Int) (hl:a.length<=100000):
  Ct Tryz.prog 56 [tL 11 true tFa a,tSt key,tI d,tI kn] (tI (dcX a key d kn a.length)):=by
 refine Ct.intro func56 rfl ntmps56 rfl ?_;intro w F;refine A17 ?_;refine cL (fun (i:Nat)=>i<=a.length) (fun (i:Nat)=>uV (uV (uV (uV (uV (uV uN 0 (tL 11 true tFa a)) 1 (tSt key)) 2 (tI d)) 3 (tI kn)) 9 (tI (dcX a key d kn i))) 10 (tI i)) (fun (i:Nat)=>fun _=>none) [] (fun (i:Nat)=>a.length - i) (0) (zbt _) ?_;intro i hI;have hdb:=ze5 (l:=a) (key:=key) (d:=d) (kn:=kn) i;refine A9 ?_;refine x9 rfl (fun h71=> ?_) (fun h71=> ?_)
 ·
  refine A8 ?_;refine R2 (x5 sl33 (i) (by omega) (zai (l:=a) (n:=i) (d:=fa0))) rfl rfl (R1 (xa6 fo30_0.h (At.f 0 rfl rfl) rfl) rfl ?_);refine A2 ?_;refine R2 (ya0) rfl rfl ?_;refine A1 ?_;refine RGcaseD (t:=24) rfl (fun h72=> ?_) (fun h72=> ?_)
  ·
   refine A2 ?_;refine Rg (zbf h72) rfl (x5 sl33 (i) (by omega) (zai (l:=a) (n:=i) (d:=fa0))) rfl ⟨rfl,rfl,trivial⟩ (Rg (zbf h72) rfl (xa6 fo30_3.h (At.f 3 rfl rfl) rfl) rfl ⟨rfl,trivial⟩ ?_);refine A5 ?_;refine RGcaseD (t:=33) rfl (fun h72_2=> ?_) (fun h72_2=> ?_)
   ·
    refine A2 ?_;refine Rg (zbf h72_2) rfl (x5 sl33 (i) (by omega) (zai (l:=a) (n:=i) (d:=fa0))) rfl ⟨rfl,rfl,trivial⟩ (Rg (zbf h72_2) rfl (xa6 fo30_1.h (At.f 1 rfl rfl) rfl) rfl ⟨rfl,trivial⟩ ?_);refine A5 ?_;refine RGcaseD (t:=42) rfl (fun h72_3=> ?_) (fun h72_3=> ?_)
    ·
     refine A3 ?_;refine Rg (zbf h72_3) rfl (x5 sl33 (i) (by omega) (zai (l:=a) (n:=i) (d:=fa0))) rfl ⟨rfl,rfl,trivial⟩ (Rg (zbf h72_3) rfl (xa6 fo30_2.h (At.f 2 rfl rfl) rfl) rfl ⟨rfl,trivial⟩ ?_);refine A4 ?_;refine RGcaseD (t:=51) rfl (fun h72_4=> ?_) (fun h72_4=> ?_)
     ·
      refine A3 ?_;refine RGcaseD (t:=54) rfl (fun h72_5=> ?_) (fun h72_5=> ?_)
      ·
       refine A11 ?_;refine Rg (zbf h72_4) rfl (xc6 (zbf h72_5)) rfl qB ?_;refine A15 ?_;exact kF (i+1) ⟨(by omega),(by omega)⟩ (hg:=(sI ((zav rfl (Imp.int (by rw [dcX];first | exact (if_pos ⟨⟨⟨(by assumption),(by omega)⟩,(by omega)⟩,(by omega),(by omega)⟩).symm | exact (if_neg (fun hh=>by obtain ⟨⟨⟨k1,k2⟩,k3⟩,k4,k5⟩:=hh;first | omega | contradiction)).symm))) (sI (sI (sC (sC zay)))))))
      ·
       refine A2 ?_;refine Rg (zbg h72_5) rfl (x5 sl33 (i) (by omega) (zai (l:=a) (n:=i) (d:=fa0))) rfl ⟨rfl,rfl,trivial⟩ (Rg (zbg h72_5) rfl (xa6 fo30_3.h (At.f 3 rfl rfl) rfl) rfl ⟨rfl,trivial⟩ ?_);refine A3 ?_;refine Rg (zbg h72_5) rfl (x5 sl33 ((dcX a key d kn i).toNat) (by omega) (zai (l:=a) (n:=(dcX a key d kn i).toNat) (d:=fa0))) rfl ⟨rfl,rfl,trivial⟩ (Rg (zbg h72_5) rfl (xa6 fo30_3.h (At.f 3 rfl rfl) rfl) rfl ⟨rfl,trivial⟩ ?_);refine A2 ?_;refine Rg (zbf h72_4) rfl (xc4 (zbg h72_5)) rfl qB ?_;refine A3 ?_;refine x9 rfl (fun h72_6=> ?_) (fun h72_6=> ?_)
       ·
        refine A11 ?_;exact kF (i+1) ⟨(by omega),(by omega)⟩ (hg:=(sI ((zav rfl (Imp.int (by rw [dcX];first | exact (if_pos ⟨⟨⟨(by assumption),(by omega)⟩,(by omega)⟩,(by omega),(by omega)⟩).symm | exact (if_neg (fun hh=>by obtain ⟨⟨⟨k1,k2⟩,k3⟩,k4,k5⟩:=hh;first | omega | contradiction)).symm))) (sI (sI (sC (sC zay)))))))
       ·
        refine A8 ?_;exact kF (i+1) ⟨(by omega),(by omega)⟩ (hg:=(sI ((zav rfl (Imp.int (by rw [dcX];first | exact (if_pos ⟨⟨⟨(by assumption),(by omega)⟩,(by omega)⟩,(by omega),(by omega)⟩).symm | exact (if_neg (fun hh=>by obtain ⟨⟨⟨k1,k2⟩,k3⟩,k4,k5⟩:=hh;first | omega | contradiction)).symm))) (sI (sI (sC (sC zay)))))))
     ·
      refine A18 ?_;refine A9 ?_;exact kF (i+1) ⟨(by omega),(by omega)⟩ (hg:=(sI ((zav rfl (Imp.int (by rw [dcX];first | exact (if_pos ⟨⟨⟨(by assumption),(by omega)⟩,(by omega)⟩,(by omega),(by omega)⟩).symm | exact (if_neg (fun hh=>by obtain ⟨⟨⟨k1,k2⟩,k3⟩,k4,k5⟩:=hh;first | omega | contradiction)).symm))) (sI (sI (sC (sC zay)))))))
    ·
     refine A18 ?_;refine A18 ?_;exact kF (i+1) ⟨(by omega),(by omega)⟩ (hg:=(sI ((zav rfl (Imp.int (by rw [dcX];first | exact (if_pos ⟨⟨⟨(by assumption),(by omega)⟩,(by omega)⟩,(by omega),(by omega)⟩).symm | exact (if_neg (fun hh=>by obtain ⟨⟨⟨k1,k2⟩,k3⟩,k4,k5⟩:=hh;first | omega | contradiction)).symm))) (sI (sI (sC (sC zay)))))))
   ·
    refine A18 ?_;refine A18 ?_;refine A9 ?_;exact kF (i+1) ⟨(by omega),(by omega)⟩ (hg:=(sI ((zav rfl (Imp.int (by rw [dcX];first | exact (if_pos ⟨⟨⟨(by assumption),(by omega)⟩,(by omega)⟩,(by omega),(by omega)⟩).symm | exact (if_neg (fun hh=>by obtain ⟨⟨⟨k1,k2⟩,k3⟩,k4,k5⟩:=hh;first | omega | contradiction)).symm))) (sI (sI (sC (sC zay)))))))
  ·
   refine A18 ?_;refine A18 ?_;refine A18 ?_;exact kF (i+1) ⟨(by omega),(by omega)⟩ (hg:=(sI ((zav rfl (Imp.int (by rw [dcX];first | exact (if_pos ⟨⟨⟨(by assumption),(by omega)⟩,(by omega)⟩,(by omega),(by omega)⟩).symm | exact (if_neg (fun hh=>by obtain ⟨⟨⟨k1,k2⟩,k3⟩,k4,k5⟩:=hh;first | omega | contradiction)).symm))) (sI (sI (sC (sC zay)))))))
 ·
  refine A12 ?_;exact E1 rfl rfl (zba (by rw [show i=a.length by omega]))
section
variable {a:List Fa} {key:ByteArray} {d kn:Int}
theorem yc3 (h:0<=dcX a key d kn a.length) (hg:(a.getD (dcX a key d kn a.length).toNat fa0).gone=false):gF (toldT a key kn) d=some (a.getD (dcX a key d kn a.length).toNat fa0).v:=by
 rw [gF,je1,if_neg (by omega),valF,hg];rfl
theorem yb6 (h:0<=dcX a key d kn a.length->(a.getD (dcX a key d kn a.length).toNat fa0).gone=true):gF (toldT a key kn) d=none:=by
 rw [gF,je1];split
 ·rfl
 ·rw [valF,h (by omega)];rfl
theorem jd0 (h:recOk a=true): ∀f∈toldT a key kn,0<=f.lo/\f.hi<=65536:=fun f hf=>by
 have:=(yn0 h).1 f (xk5 hf).1;simp only [fRight,zbv,zbw] at this;omega
end
theorem yq8: ∀{l:List Tst},ascT l-> ∀s∈l,valT l s.lo=some s.v
 | [],_,s,hs=>by cases hs
 | t::r,h,s,hs=>by
  have hp:=zcg.1 h.2;rw [xe2];rcases zbr.1 hs with rfl | hs
  ·rw [if_pos ⟨zea _,h.1 s (zby ..)⟩]
  ·have:=hp.1 s hs;rw [if_neg (by omega)];exact yq8 ⟨fun x hx=>h.1 x (zcd _ hx),hp.2⟩ s hs
theorem rv_mem {T:List Fa} {day:Int} {out:List Tst} (h:rvI T day out): ∀s∈out,∃f∈T,f.v=s.v:=fun s hs=>by
 obtain ⟨h1,h2,h3,h4⟩:=h;have h5:=yq8 h1 s hs;rw [h4,if_pos (by have:=h1.1 s hs;have:=h3 s hs;omega),gF] at h5;cases hl:lastF T s.lo with
 | none=>rw [hl] at h5;cases h5
 | some f=>
  rw [hl,valF] at h5;refine ⟨f,(xj2 hl).1,?_⟩;split at h5
  ·cases h5
  ·exact Option.some.inj h5
theorem rv_sm {a:List Fa} {key:ByteArray} {day kn:Int} {out:List Tst} (h:rvI (toldT a key kn) day out) (hs:smF a): ∀s∈out,s.v.f.n.l.length<=1048576/\s.v.f.d.l.length<=1048576:=fun s hs2=>by
 obtain ⟨f,hf,e⟩:=rv_mem h s hs2;have:=hs f (xk5 hf).1;rw [e] at this;omega
theorem vw_sm {a:List Fa} {key:ByteArray} {kn:Int} (hs:smF a): ∀s∈vwT (toldT a key kn),s.v.f.n.l.length<=1048576/\s.v.f.d.l.length<=1048576:=fun s hs2=>by
 have h5:=yq8 (xn9 _).1 s hs2;rw [xi9,gF] at h5;cases hl:lastF (toldT a key kn) s.lo with
 | none=>rw [hl] at h5;cases h5
 | some f=>
  rw [hl,valF] at h5;split at h5
  ·cases h5
  ·have:=hs f (xk5 (xj2 hl).1).1;rw [Option.some.inj h5] at this;omega
def rvA (a:List Fa) (key:ByteArray) (kn:Int):List Tst:=if recOk a=true then vwT (toldT a key kn) else []
def rE (a:List Fa):Int:=if recOk a=true then 0 else 2
theorem rE_bd {a:List Fa}:rE a=0/\recOk a=true∨rE a=2/\recOk a=false:=by
 rw [rE];cases h:recOk a with
 | true=>exact .inl ⟨rfl,rfl⟩
 | false=>exact .inr ⟨rfl,rfl⟩
theorem yz6 (a:List Fa) (key:ByteArray) (kn:Int) (hl:a.length<=100000) (hs:smF a) (hD: ∀f∈a,f.v.f.dig):
  Ct Tryz.prog 16 [tL 11 true tFa a,tSt key,tI kn] (tT [tL 8 true tTs (rvA a key kn),tI (rE a)]):=by
 refine Ct.intro func16 rfl ntmps16 rfl ?_;intro w F;refine A10 ?_;refine R1 (x4 (xt3 a hl hs hD) fi27 rfl) rfl ?_;refine A3 ?_;refine xc7 rfl (fun h81=> ?_) (fun h81=> ?_)
 ·
  have hno:recOk a=false:=by simpa using h81
  refine A8 ?_;exact E2 rfl rfl rfl (leNil (by rw [rvA,hno];rfl)) (zba (by rw [rE,hno];rfl))
 ·
  have hok:recOk a=true:=by simpa using h81
  refine A4 ?_;refine RE (xg1 (k:=8) 55 8 true rfl (fun h=>by cases h)) trivial trivial qA ?_;refine A8 ?_;refine cL (fun (fm:(Int)×(List Tst))=>(fun (day:Int) (xs:List Tst)=>rvI (toldT a key kn) day xs/\ -1<=day/\day < 65536/\(xs.length:Int)<=day+1) fm.1 fm.2) (wB fun (day:Int) (xs:List Tst)=>uV (uO (uV (uV (uV uN 0 (tL 11 true tFa a)) 1 (tSt key)) 2 (tI kn)) 8 (.sl 8 8 0 xs.length)) 9 (tI day)) (wB fun (day:Int) (xs:List Tst)=>uK uN 8 55 8 true (rV tTs xs)) [8] (fun (fm:(Int)×(List Tst))=>(fun (day:Int) (xs:List Tst)=>(65536 - day).toNat) fm.1 fm.2) ((-1,[])) (by dsimp only;exact ⟨wa6 (fun f hf=>(jd0 hok f hf).1),by decide,by decide,by decide⟩) ?_;intro fm hI;obtain ⟨day,xs⟩:=fm;replace hI:rvI (toldT a key kn) day xs/\ -1<=day/\day < 65536/\(xs.length:Int)<=day+1:=hI;show wc _ _ _ _ (uV (uO (uV (uV (uV uN 0 (tL 11 true tFa a)) 1 (tSt key)) 2 (tI kn)) 8 (.sl 8 8 0 xs.length)) 9 (tI day)) (uK uN 8 55 8 true (rV tTs xs)) _;obtain ⟨hv,hd1,hd2,hxl⟩:=hI;have hnb:nxA a key day<=65536/\day < nxA a key day:=zr1 hd2 a.length;have hdv:=ze5 (l:=a) (key:=key) (d:=day) (kn:=kn) a.length;refine A13 ?_;refine cL (fun (i:Nat)=>i<=a.length) (fun (i:Nat)=>uV (uV (uV (uO (uV (uV (uV uN 0 (tL 11 true tFa a)) 1 (tSt key)) 2 (tI kn)) 8 (.sl 8 8 0 xs.length)) 9 (tI day)) 10 (tI (nxX a key day i))) 11 (tI i)) (fun (i:Nat)=>uK uN 8 55 8 true (rV tTs xs)) [8] (fun (i:Nat)=>a.length - i) (0) (zbt _) ?_;intro i hI;refine A9 ?_;refine x9 rfl (fun h87=> ?_) (fun h87=> ?_)
  ·
   refine A4 ?_;refine xi4 (fun (m:Int)=>m=if (a.getD i fa0).key=key/\day < (a.getD i fa0).lo then min (nxX a key day i) (a.getD i fa0).lo else nxX a key day i) (fun (m:Int)=>uV (uV (uV (uO (uV (uV (uV uN 0 (tL 11 true tFa a)) 1 (tSt key)) 2 (tI kn)) 8 (.sl 8 8 0 xs.length)) 9 (tI day)) 10 (tI m)) 11 (tI i)) (fun (m:Int)=>uK uN 8 55 8 true (rV tTs xs)) (nm [8]) ?_ ?_
   ·
    refine A4 ?_;refine R2 (x5 sl33 (i) (by omega) (zai (l:=a) (n:=i) (d:=fa0))) rfl rfl (R1 (xa6 fo30_0.h (At.f 0 rfl rfl) rfl) rfl ?_);refine A2 ?_;refine R2 (ya0) rfl rfl ?_;refine A1 ?_;refine RGcaseD (t:=30) rfl (fun h88=> ?_) (fun h88=> ?_)
    ·
     refine A2 ?_;refine Rg (zbf h88) rfl (x5 sl33 (i) (by omega) (zai (l:=a) (n:=i) (d:=fa0))) rfl ⟨rfl,rfl,trivial⟩ (Rg (zbf h88) rfl (xa6 fo30_1.h (At.f 1 rfl rfl) rfl) rfl ⟨rfl,trivial⟩ ?_);refine A6 ?_;refine x9 rfl (fun h88_2=> ?_) (fun h88_2=> ?_)
     ·
      refine A4 ?_;refine R2 (x5 sl33 (i) (by omega) (zai (l:=a) (n:=i) (d:=fa0))) rfl rfl (R1 (xa6 fo30_1.h (At.f 1 rfl rfl) rfl) rfl ?_);refine A1 ?_;refine R2 zt2 rfl rfl ?_;refine A2 ?_;exact kF (_) (by first | exact (if_pos ⟨by assumption,by omega⟩).symm | exact (if_neg (fun hh=>by obtain ⟨k1,k2⟩:=hh;first | omega | contradiction)).symm)
     ·
      refine A1 ?_;exact kF (_) (by first | exact (if_pos ⟨by assumption,by omega⟩).symm | exact (if_neg (fun hh=>by obtain ⟨k1,k2⟩:=hh;first | omega | contradiction)).symm)
    ·
     refine A12 ?_;exact kF (_) (by first | exact (if_pos ⟨by assumption,by omega⟩).symm | exact (if_neg (fun hh=>by obtain ⟨k1,k2⟩:=hh;first | omega | contradiction)).symm)
   ·
    intro m hm;refine A4 ?_;refine R2 (x5 sl33 (i) (by omega) (zai (l:=a) (n:=i) (d:=fa0))) rfl rfl (R1 (xa6 fo30_0.h (At.f 0 rfl rfl) rfl) rfl ?_);refine A2 ?_;refine R2 (ya0) rfl rfl ?_;refine A1 ?_;refine RGcaseD (t:=53) rfl (fun h91=> ?_) (fun h91=> ?_)
    ·
     refine A2 ?_;refine Rg (zbf h91) rfl (x5 sl33 (i) (by omega) (zai (l:=a) (n:=i) (d:=fa0))) rfl ⟨rfl,rfl,trivial⟩ (Rg (zbf h91) rfl (xa6 fo30_2.h (At.f 2 rfl rfl) rfl) rfl ⟨rfl,trivial⟩ ?_);refine A6 ?_;refine x9 rfl (fun h91_2=> ?_) (fun h91_2=> ?_)
     ·
      refine A4 ?_;refine R2 (x5 sl33 (i) (by omega) (zai (l:=a) (n:=i) (d:=fa0))) rfl rfl (R1 (xa6 fo30_2.h (At.f 2 rfl rfl) rfl) rfl ?_);refine A1 ?_;refine R2 zt2 rfl rfl ?_;refine A9 ?_;exact kF (i+1) ⟨(by omega),(by omega)⟩ (hg:=(sI ((zav rfl (Imp.int (by rw [nxX,<-hm];first | exact (if_pos ⟨by assumption,by omega⟩).symm | exact (if_neg (fun hh=>by obtain ⟨k1,k2⟩:=hh;first | omega | contradiction)).symm))) (sI (sC (sI (sC (sC zay))))))))
     ·
      refine A8 ?_;exact kF (i+1) ⟨(by omega),(by omega)⟩ (hg:=(sI ((zav rfl (Imp.int (by rw [nxX,<-hm];first | exact (if_pos ⟨by assumption,by omega⟩).symm | exact (if_neg (fun hh=>by obtain ⟨k1,k2⟩:=hh;first | omega | contradiction)).symm))) (sI (sC (sI (sC (sC zay))))))))
    ·
     refine A18 ?_;refine A1 ?_;exact kF (i+1) ⟨(by omega),(by omega)⟩ (hg:=(sI ((zav rfl (Imp.int (by rw [nxX,<-hm];first | exact (if_pos ⟨by assumption,by omega⟩).symm | exact (if_neg (fun hh=>by obtain ⟨k1,k2⟩:=hh;first | omega | contradiction)).symm))) (sI (sC (sI (sC (sC zay))))))))
  ·
   refine A5 ?_;refine xi4 (fun (ys:List Tst)=>rvI (toldT a key kn) (nxA a key day) ys/\(ys.length:Int)<=nxA a key day+1) (fun (ys:List Tst)=>uV (uV (uO (uV (uV (uV uN 0 (tL 11 true tFa a)) 1 (tSt key)) 2 (tI kn)) 8 (.sl 8 8 0 ys.length)) 9 (tI day)) 10 (tI (nxA a key day))) (fun (ys:List Tst)=>uK uN 8 55 8 true (rV tTs ys)) (nm [8]) ?_ ?_
   ·
    refine A1 ?_
    try (have hil:i=a.length:=(by omega);subst hil)
    refine A5 ?_;refine Rt (x4 (qc3 a key day kn hl) fi56 rfl) qD ?_;refine A4 ?_
    try (have hil:i=a.length:=(by omega);subst hil)
    refine A4 ?_;refine RGcaseD (t:=76) rfl (fun h95=> ?_) (fun h95=> ?_)
    ·
     refine A2 ?_;refine Rg (zbf h95) rfl (x5 sl33 ((dcX a key day kn a.length).toNat) (by omega) (zai (l:=a) (n:=(dcX a key day kn a.length).toNat) (d:=fa0))) rfl ⟨rfl,rfl,trivial⟩ (Rg (zbf h95) rfl (xa6 fo30_4.h (At.f 4 rfl rfl) rfl) rfl ⟨rfl,trivial⟩ ?_);refine A5 ?_;refine xc7 rfl (fun h95_2=> ?_) (fun h95_2=> ?_)
     ·
      refine A13 ?_;refine RGcaseD (t:=89) rfl (fun h97=> ?_) (fun h97=> ?_)
      ·
       refine A2 ?_;refine Rg (zbf h97) rfl (zag sl38 rfl) rfl qB ?_;refine A1 ?_;refine RGon (zbf h97) rfl (xp2 (es:=8) (o:=1) (xs.length - 1) ti3 (xc3 (d:=tst0) (by omega)) (At.g 1 rfl rfl) (by omega)) rfl qA qA trivial ?_;refine A4 ?_;refine RGcaseD (t:=98) rfl (fun h97_2=> ?_) (fun h97_2=> ?_)
       ·
        refine A2 ?_;refine Rg (zbf h97_2) rfl (zag sl38 rfl) rfl qB ?_;refine A1 ?_;refine RGon (zbf h97_2) rfl (xp2 (es:=8) (o:=2) (xs.length - 1) ti28 (xc3 (d:=tst0) (by omega)) (At.g 2 rfl rfl) (by omega)) rfl qA qA trivial ?_;refine A2 ?_;refine Rg (zbf h97_2) rfl (x5 sl33 ((dcX a key day kn a.length).toNat) (by omega) (zai (l:=a) (n:=(dcX a key day kn a.length).toNat) (d:=fa0))) rfl ⟨rfl,rfl,trivial⟩ (Rg (zbf h97_2) rfl (xa6 fo30_5.h (At.f 5 rfl rfl) rfl) rfl ⟨rfl,trivial⟩ ?_);refine A1 ?_;refine Rg (zbf h97_2) rfl (x4 (yj5 (xs.getD (xs.length - 1) tst0).v (a.getD (dcX a key day kn a.length).toNat fa0).v (rv_sm hv hs _ (xg4 (by omega))).1 (rv_sm hv hs _ (xg4 (by omega))).2) fi38 rfl) rfl qB ?_;refine A3 ?_;refine x9 rfl (fun h97_3=> ?_) (fun h97_3=> ?_)
        ·
         refine A4 ?_;refine R2 (zag sl38 rfl) rfl rfl ?_;refine A1 ?_;refine RE (xn1 (es:=8) (o:=1) (t2:=tTs ⟨(xs.getD (xs.length - 1) tst0).lo,nxA a key day,(xs.getD (xs.length - 1) tst0).v⟩) (xs.length - 1) ti3 (xc3 (d:=tst0) (by omega)) (Up.g 1 rfl rfl rfl) (by omega) (xf0 rfl)) qB qA trivial ?_;refine A1 ?_;exact kF ((xs.set (xs.length - 1) ⟨(xs.getD (xs.length - 1) tst0).lo,nxA a key day,(xs.getD (xs.length - 1) tst0).v⟩)) ⟨by have q:=ys3 (a:=a) hv hd2 (yc3 (by omega) (by simpa using h95_2));rw [pst1,if_neg (by dsimp only;omega),if_pos ⟨by omega,by dsimp only;omega,h97_3⟩] at q;exact q,by rw [zdn];omega⟩ (hg:=((zav rfl (Imp.int rfl)) (sI ((zav rfl (zaw (by rw [zdn]))) (sI (sC (sC zay)))))))
        ·
         refine A6 ?_;refine R2 (x5 sl33 ((dcX a key day kn a.length).toNat) (by omega) (zai (l:=a) (n:=(dcX a key day kn a.length).toNat) (d:=fa0))) rfl rfl (R1 (xa6 fo30_5.h (At.f 5 rfl rfl) rfl) rfl ?_);refine A1 ?_;refine R3 (xd3 (r:=tS [⟨1,false,tI day⟩,⟨1,false,tI (nxA a key day)⟩,⟨6,true,tVa (a.getD (dcX a key day kn a.length).toNat fa0).v⟩]) (ts:=[(0,tI day),(1,tI (nxA a key day)),(2,tVa (a.getD (dcX a key day kn a.length).toNat fa0).v)]) bu55 zr55.2 (Bc 0 rfl rfl rfl (Bc 1 rfl rfl rfl (Bc 2 rfl rfl rfl zao)))) rfl rfl rfl (R1 (xc2 (n:=1) (f:=tTs) [(⟨day,nxA a key day,(a.getD (dcX a key day kn a.length).toNat fa0).v⟩:Tst)] zgp el55 zf55 rfl (fun _=>inferInstance) rfl rfl rfl) rfl (RE (xb3 (k:=8) (k':=126) (f:=tTs) (ys:=[(⟨day,nxA a key day,(a.getD (dcX a key day kn a.length).toNat fa0).v⟩:Tst)]) (ts':=rV tTs (xs++[(⟨day,nxA a key day,(a.getD (dcX a key day kn a.length).toNat fa0).v⟩:Tst)])) zgp el55 zf55 rfl rfl (fun _=>inferInstance) xc0 (by simp;omega) (by simp;omega) (by simp [rV]) (n':=xs.length+1) rfl) qB qA qA ?_));refine A2 ?_;exact xe3 (l:=[8]) (zab 8 126) ((xs++[(⟨day,nxA a key day,(a.getD (dcX a key day kn a.length).toNat fa0).v⟩:Tst)])) ⟨by have q:=ys3 (a:=a) hv hd2 (yc3 (by omega) (by simpa using h95_2));rw [pst1,if_neg (by dsimp only;omega),if_neg (fun h=>h97_3 h.2.2)] at q;exact q,by rw [zbm];simp;omega⟩ ((zbc rfl (Imp.int rfl)) (zaf rfl ((zbc rfl (zaw (by rw [zbm];rfl))) (zaf rfl (zas rfl (zas rfl zbd)))))) ((zbb rfl (zat x8.symm)) zbe) (zaj (zaj (zak rfl (zaj (zaj (zaj zar)))))) (zam rfl (supJ x6) zaz) (lkOk rfl) rfl rfl (fun _ h=>by cases h)
       ·
        refine A18 ?_;refine A3 ?_;refine R2 (x5 sl33 ((dcX a key day kn a.length).toNat) (by omega) (zai (l:=a) (n:=(dcX a key day kn a.length).toNat) (d:=fa0))) rfl rfl (R1 (xa6 fo30_5.h (At.f 5 rfl rfl) rfl) rfl ?_);refine A1 ?_;refine R3 (xd3 (r:=tS [⟨1,false,tI day⟩,⟨1,false,tI (nxA a key day)⟩,⟨6,true,tVa (a.getD (dcX a key day kn a.length).toNat fa0).v⟩]) (ts:=[(0,tI day),(1,tI (nxA a key day)),(2,tVa (a.getD (dcX a key day kn a.length).toNat fa0).v)]) bu55 zr55.2 (Bc 0 rfl rfl rfl (Bc 1 rfl rfl rfl (Bc 2 rfl rfl rfl zao)))) rfl rfl rfl (R1 (xc2 (n:=1) (f:=tTs) [(⟨day,nxA a key day,(a.getD (dcX a key day kn a.length).toNat fa0).v⟩:Tst)] zgp el55 zf55 rfl (fun _=>inferInstance) rfl rfl rfl) rfl (RE (xb3 (k:=8) (k':=126) (f:=tTs) (ys:=[(⟨day,nxA a key day,(a.getD (dcX a key day kn a.length).toNat fa0).v⟩:Tst)]) (ts':=rV tTs (xs++[(⟨day,nxA a key day,(a.getD (dcX a key day kn a.length).toNat fa0).v⟩:Tst)])) zgp el55 zf55 rfl rfl (fun _=>inferInstance) xc0 (by simp;omega) (by simp;omega) (by simp [rV]) (n':=xs.length+1) rfl) qB qA qA ?_));refine A2 ?_;exact xe3 (l:=[8]) (zab 8 126) ((xs++[(⟨day,nxA a key day,(a.getD (dcX a key day kn a.length).toNat fa0).v⟩:Tst)])) ⟨by have q:=ys3 (a:=a) hv hd2 (yc3 (by omega) (by simpa using h95_2));rw [pst1,if_neg (by dsimp only;omega),if_neg (fun h=>by have h2:=h.2.1;dsimp only at h2;omega)] at q;exact q,by rw [zbm];simp;omega⟩ ((zbc rfl (Imp.int rfl)) (zaf rfl ((zbc rfl (zaw (by rw [zbm];rfl))) (zaf rfl (zas rfl (zas rfl zbd)))))) ((zbb rfl (zat x8.symm)) zbe) (zaj (zaj (zak rfl (zaj (zaj (zaj zar)))))) (zam rfl (supJ x6) zaz) (lkOk rfl) rfl rfl (fun _ h=>by cases h)
      ·
       refine A18 ?_;refine A12 ?_;refine R2 (x5 sl33 ((dcX a key day kn a.length).toNat) (by omega) (zai (l:=a) (n:=(dcX a key day kn a.length).toNat) (d:=fa0))) rfl rfl (R1 (xa6 fo30_5.h (At.f 5 rfl rfl) rfl) rfl ?_);refine A1 ?_;refine R3 (xd3 (r:=tS [⟨1,false,tI day⟩,⟨1,false,tI (nxA a key day)⟩,⟨6,true,tVa (a.getD (dcX a key day kn a.length).toNat fa0).v⟩]) (ts:=[(0,tI day),(1,tI (nxA a key day)),(2,tVa (a.getD (dcX a key day kn a.length).toNat fa0).v)]) bu55 zr55.2 (Bc 0 rfl rfl rfl (Bc 1 rfl rfl rfl (Bc 2 rfl rfl rfl zao)))) rfl rfl rfl (R1 (xc2 (n:=1) (f:=tTs) [(⟨day,nxA a key day,(a.getD (dcX a key day kn a.length).toNat fa0).v⟩:Tst)] zgp el55 zf55 rfl (fun _=>inferInstance) rfl rfl rfl) rfl (RE (xb3 (k:=8) (k':=126) (f:=tTs) (ys:=[(⟨day,nxA a key day,(a.getD (dcX a key day kn a.length).toNat fa0).v⟩:Tst)]) (ts':=rV tTs (xs++[(⟨day,nxA a key day,(a.getD (dcX a key day kn a.length).toNat fa0).v⟩:Tst)])) zgp el55 zf55 rfl rfl (fun _=>inferInstance) xc0 (by simp;omega) (by simp;omega) (by simp [rV]) (n':=xs.length+1) rfl) qB qA qA ?_));refine A2 ?_;exact xe3 (l:=[8]) (zab 8 126) ((xs++[(⟨day,nxA a key day,(a.getD (dcX a key day kn a.length).toNat fa0).v⟩:Tst)])) ⟨by have q:=ys3 (a:=a) hv hd2 (yc3 (by omega) (by simpa using h95_2));rw [pst1,if_neg (by dsimp only;omega),if_neg (fun h=>by have h2:=h.1;omega)] at q;exact q,by rw [zbm];simp;omega⟩ ((zbc rfl (Imp.int rfl)) (zaf rfl ((zbc rfl (zaw (by rw [zbm];rfl))) (zaf rfl (zas rfl (zas rfl zbd)))))) ((zbb rfl (zat x8.symm)) zbe) (zaj (zaj (zak rfl (zaj (zaj (zaj zar)))))) (zam rfl (supJ x6) zaz) (lkOk rfl) rfl rfl (fun _ h=>by cases h)
     ·
      refine A1 ?_;exact kF (xs) ⟨qr4 (a:=a) hv hd2 (yb6 (fun hh=>by simpa using h95_2)),by omega⟩ (hg:=((zav rfl (Imp.int rfl)) (sI (sC (sI (sC (sC zay)))))))
    ·
     refine A11 ?_;exact kF (xs) ⟨qr4 (a:=a) hv hd2 (yb6 (fun hh=>by omega)),by omega⟩ (hg:=((zav rfl (Imp.int rfl)) (sI (sC (sI (sC (sC zay)))))))
   ·
    intro ys hj;refine A7 ?_;refine x9 rfl (fun h103=> ?_) (fun h103=> ?_)
    ·
     refine A2 ?_;refine RE (xi6 (f:=tTs) (xs:=ys) (fun _ h=>h) (xe9 rfl) rfl) qA qA trivial ?_;refine A9 ?_;exact E2 rfl rfl rfl (Le.of (by rw [rvA,if_pos hok,rv_end (show rvI (toldT a key kn) 65536 ys by rw [<-h103];exact hj.1) (fun f hf=>(jd0 hok f hf).2)])) (zba (by rw [rE,if_pos hok]))
    ·
     refine A7 ?_;exact kF ((nxA a key day,ys)) ⟨(by dsimp only;exact ⟨hj.1,by omega,by omega,hj.2⟩),(by dsimp only;omega)⟩
theorem c_R6At (a:List Fa) (key:ByteArray) (d kn:Int) (hl:a.length<=100000) (hs:smF a) (hD: ∀f∈a,f.v.f.dig):
  Ct Tryz.prog 18 [tL 11 true tFa a,tSt key,tI d,tI kn] (tT [tVa ((atF a key d kn).getD An.va0),tB (atF a key d kn).isSome]):=by
 have hdv:=ze5 (l:=a) (key:=key) (d:=d) (kn:=kn) a.length;refine Ct.intro func18 rfl ntmps18 rfl ?_;intro w F;refine A2 ?_;refine RE (xb8 (k:=8) (n:=6) (agg:=true) zr28.1 zr28.2 rfl) trivial trivial qA ?_;refine A7 ?_;refine R1 (x4 (xt3 a hl hs hD) fi27 rfl) rfl ?_;refine A3 ?_;refine xc7 rfl (fun h112=> ?_) (fun h112=> ?_)
 ·
  have hno: ¬recOk a=true:=by simpa using h112
  refine A2 ?_;refine R0 (xd3 (r:=tS [⟨1,false,(tE (.int .u8 0))⟩,⟨4,true,zad⟩,⟨1,false,(tE (.int .i64 0))⟩]) (ts:=[]) bu28 zr28.2 zao) ?_;refine A6 ?_;exact EN (rs:=[.cell 8 28,.tmp 9]) rfl rfl ⟨⟨_,_,_,_,_,rfl,rfl,ti28,(Le.of (by rw [atF,if_neg hno];rfl))⟩,⟨_,rfl,(zau (by rw [atF,if_neg hno];rfl))⟩,trivial⟩
 ·
  have hok:recOk a=true:=by simpa using h112
  refine A8 ?_;refine Rt (x4 (qc3 a key d kn hl) fi56 rfl) qD ?_;refine A9 ?_;refine RGcaseD (t:=22) rfl (fun h116=> ?_) (fun h116=> ?_)
  ·
   refine A11 ?_;refine R0 (xd3 (r:=tS [⟨1,false,(tE (.int .u8 0))⟩,⟨4,true,zad⟩,⟨1,false,(tE (.int .i64 0))⟩]) (ts:=[]) bu28 zr28.2 zao) ?_;refine A6 ?_;exact EN (rs:=[.cell 8 28,.tmp 9]) rfl rfl ⟨⟨_,_,_,_,_,rfl,rfl,ti28,(Le.of (by rw [atF,if_pos hok,yb6 (fun hh=>by first | omega | simpa using h116_2)];rfl))⟩,⟨_,rfl,(zau (by rw [atF,if_pos hok,yb6 (fun hh=>by first | omega | simpa using h116_2)];rfl))⟩,trivial⟩
  ·
   refine A2 ?_;refine Rg (zbg h116) rfl (x5 sl33 ((dcX a key d kn a.length).toNat) (by omega) (zai (l:=a) (n:=(dcX a key d kn a.length).toNat) (d:=fa0))) rfl ⟨rfl,rfl,trivial⟩ (Rg (zbg h116) rfl (xa6 fo30_4.h (At.f 4 rfl rfl) rfl) rfl ⟨rfl,trivial⟩ ?_);refine A4 ?_;refine xc7 rfl (fun h116_2=> ?_) (fun h116_2=> ?_)
   ·
    refine A2 ?_;refine R0 (xd3 (r:=tS [⟨1,false,(tE (.int .u8 0))⟩,⟨4,true,zad⟩,⟨1,false,(tE (.int .i64 0))⟩]) (ts:=[]) bu28 zr28.2 zao) ?_;refine A6 ?_;exact EN (rs:=[.cell 8 28,.tmp 9]) rfl rfl ⟨⟨_,_,_,_,_,rfl,rfl,ti28,(Le.of (by rw [atF,if_pos hok,yb6 (fun hh=>by first | omega | simpa using h116_2)];rfl))⟩,⟨_,rfl,(zau (by rw [atF,if_pos hok,yb6 (fun hh=>by first | omega | simpa using h116_2)];rfl))⟩,trivial⟩
   ·
    refine A6 ?_;refine R2 (x5 sl33 ((dcX a key d kn a.length).toNat) (by omega) (zai (l:=a) (n:=(dcX a key d kn a.length).toNat) (d:=fa0))) rfl rfl (R1 (xa6 fo30_5.h (At.f 5 rfl rfl) rfl) rfl ?_);refine A6 ?_;exact EN (rs:=[.cell 8 28,.tmp 9]) rfl rfl ⟨⟨_,_,_,_,_,rfl,rfl,ti28,(Le.of (by rw [atF,if_pos hok,yc3 (by omega) (by simpa using h116_2)];rfl))⟩,⟨_,rfl,(zau (by rw [atF,if_pos hok,yc3 (by omega) (by simpa using h116_2)];rfl))⟩,trivial⟩
def rdA (a:List Fa) (key:ByteArray) (k1 k2:Int):List Sn:=if recOk a=true then dfS (rvA a key k1) (rvA a key k2) else []
theorem ye3 {D B:Int} {a:List Fa} (h:gR D B a) (key:ByteArray) (kn:Int):rvA a key kn=vwT (toldT a key kn):=by rw [rvA,if_pos h.rec]
theorem ji6 {D B:Int} {a:List Fa} (h:gR D B a) (hs:smF a) (key:ByteArray) (k1 k2:Int):Ct Tryz.prog 66 [tL 8 true tTs (rvA a key k1),tL 8 true tTs (rvA a key k2)] (tT [tL 2 true tSn (dfS (rvA a key k1) (rvA a key k2)),tI 0]):=by
 rw [ye3 h,ye3 h];have v1:=h.view (key:=key) k1;have v2:=h.view (key:=key) k2;have h1:=jo9 (vwT (toldT a key k1)) (vwT (toldT a key k2)) (by omega) (by omega) v1.1.dig v2.1.dig (vw_sm hs) (vw_sm hs);rw [if_pos ⟨v1.1.1,v2.1.1⟩,if_pos ⟨v1.1.1,v2.1.1⟩] at h1;exact h1
theorem zs5 {D B:Int} (a:List Fa) (key:ByteArray) (k1 k2:Int) (hl:a.length<=100000) (hs:smF a) (hD: ∀f∈a,f.v.f.dig) (hq:recOk a=true->gR D B a):
  Ct Tryz.prog 25 [tL 11 true tFa a,tSt key,tI k1,tI k2] (tT [tL 2 true tSn (rdA a key k1 k2),tI (rE a)]):=by
 have hE:=rE_bd (a:=a);refine Ct.intro func25 rfl ntmps25 rfl ?_;intro w F;refine A11 ?_;refine R3 (x4 (yz6 a key k1 hl hs hD) fi16 rfl) rfl rfl rfl ?_;refine A12 ?_;refine R3 (x4 (yz6 a key k2 hl hs hD) fi16 rfl) rfl rfl rfl ?_;refine A16 ?_;refine x9 rfl (fun h126=> ?_) (fun h126=> ?_)
 ·
  have hno:recOk a=false:=by
   rcases hE with h | h
   ·omega
   ·exact h.2
  refine A8 ?_;exact E2 rfl rfl rfl (leNil (by rw [rdA,hno];rfl)) (zba (by rw [rE,hno];rfl))
 ·
  have hok:recOk a=true:=by
   rcases hE with h | h
   ·exact h.2
   ·omega
  refine A6 ?_;refine R2 (x4 (ji6 (hq hok) hs key k1 k2) fi66 rfl) rfl rfl ?_;refine A7 ?_;exact E2 rfl rfl rfl (Le.of (by rw [rdA,if_pos hok])) (zba (by rw [rE,if_pos hok]))
theorem qu0 {D B:Int} (a:List Fa) (key:ByteArray) (hl:a.length<=100000) (hs:smF a) (hD: ∀f∈a,f.v.f.dig) (hq:recOk a=true->gR D B a):
  Ct Tryz.prog 34 [tL 11 true tFa a,tSt key] (tL 1 false tI (lrnA a key)):=by
 refine Ct.intro func34 rfl ntmps34 rfl ?_;intro w F;refine A7 ?_;refine RE (xg1 (k:=5) 3 1 false rfl (fun _=>rfl)) trivial trivial qA ?_;refine A6 ?_;refine R1 (x4 (xt3 a hl hs hD) fi27 rfl) rfl ?_;refine A3 ?_;refine xc7 rfl (fun h135=> ?_) (fun h135=> ?_)
 ·
  have hno:recOk a=false:=by simpa using h135
  refine A7 ?_;exact E1 rfl rfl (leNil (by rw [lrnA,hno];rfl))
 ·
  have hok:recOk a=true:=by simpa using h135
  have hG:=hq hok;refine A8 ?_;refine cL (fun (fm:(Int)×(List Int))=>(fun (k:Int) (xs:List Int)=>lrI a key k xs/\ -1<=k/\k < 65536/\(xs.length:Int)<=k+1) fm.1 fm.2) (wB fun (k:Int) (xs:List Int)=>uV (uO (uV (uV uN 0 (tL 11 true tFa a)) 1 (tSt key)) 5 (.sl 5 1 0 xs.length)) 6 (tI k)) (wB fun (k:Int) (xs:List Int)=>uK uN 5 3 1 false (rV tI xs)) [5] (fun (fm:(Int)×(List Int))=>(fun (k:Int) (xs:List Int)=>(65536 - k).toNat) fm.1 fm.2) ((-1,[])) (by dsimp only;exact ⟨wc4 hG,by decide,by decide,by decide⟩) ?_;intro fm hI;obtain ⟨k,xs⟩:=fm;replace hI:lrI a key k xs/\ -1<=k/\k < 65536/\(xs.length:Int)<=k+1:=hI;show wc _ _ _ _ (uV (uO (uV (uV uN 0 (tL 11 true tFa a)) 1 (tSt key)) 5 (.sl 5 1 0 xs.length)) 6 (tI k)) (uK uN 5 3 1 false (rV tI xs)) _;obtain ⟨hv,hk1,hk2,hxl⟩:=hI;have hnb:k < nkA a key k/\nkA a key k<=65536:=⟨(zd1 hk2 a.length).2,(zd1 hk2 a.length).1⟩
  refine A13 ?_;refine cL (fun (i:Nat)=>i<=a.length) (fun (i:Nat)=>uV (uV (uV (uO (uV (uV uN 0 (tL 11 true tFa a)) 1 (tSt key)) 5 (.sl 5 1 0 xs.length)) 6 (tI k)) 7 (tI (nkX a key k i))) 8 (tI i)) (fun (i:Nat)=>uK uN 5 3 1 false (rV tI xs)) [5] (fun (i:Nat)=>a.length - i) (0) (zbt _) ?_;intro i hI;refine A9 ?_;refine x9 rfl (fun h140=> ?_) (fun h140=> ?_)
  ·
   refine A8 ?_;refine R2 (x5 sl33 (i) (by omega) (zai (l:=a) (n:=i) (d:=fa0))) rfl rfl (R1 (xa6 fo30_0.h (At.f 0 rfl rfl) rfl) rfl ?_);refine A2 ?_;refine R2 (ya0) rfl rfl ?_;refine A1 ?_;refine RGcaseD (t:=27) rfl (fun h141=> ?_) (fun h141=> ?_)
   ·
    refine A2 ?_;refine Rg (zbf h141) rfl (x5 sl33 (i) (by omega) (zai (l:=a) (n:=i) (d:=fa0))) rfl ⟨rfl,rfl,trivial⟩ (Rg (zbf h141) rfl (xa6 fo30_3.h (At.f 3 rfl rfl) rfl) rfl ⟨rfl,trivial⟩ ?_);refine A6 ?_;refine x9 rfl (fun h141_2=> ?_) (fun h141_2=> ?_)
    ·
     refine A4 ?_;refine R2 (x5 sl33 (i) (by omega) (zai (l:=a) (n:=i) (d:=fa0))) rfl rfl (R1 (xa6 fo30_3.h (At.f 3 rfl rfl) rfl) rfl ?_);refine A1 ?_;refine R2 zt2 rfl rfl ?_;refine A9 ?_;exact kF (i+1) ⟨(by omega),(by omega)⟩ (hg:=(sI ((zav rfl (Imp.int (by rw [nkX];first | exact (if_pos ⟨by assumption,by omega⟩).symm | exact (if_neg (fun hh=>by obtain ⟨k1,k2⟩:=hh;first | omega | contradiction)).symm))) (sI (sC (sC (sC zay)))))))
    ·
     refine A8 ?_;exact kF (i+1) ⟨(by omega),(by omega)⟩ (hg:=(sI ((zav rfl (Imp.int (by rw [nkX];first | exact (if_pos ⟨by assumption,by omega⟩).symm | exact (if_neg (fun hh=>by obtain ⟨k1,k2⟩:=hh;first | omega | contradiction)).symm))) (sI (sC (sC (sC zay)))))))
   ·
    refine A18 ?_;refine A1 ?_;exact kF (i+1) ⟨(by omega),(by omega)⟩ (hg:=(sI ((zav rfl (Imp.int (by rw [nkX];first | exact (if_pos ⟨by assumption,by omega⟩).symm | exact (if_neg (fun hh=>by obtain ⟨k1,k2⟩:=hh;first | omega | contradiction)).symm))) (sI (sC (sC (sC zay)))))))
  ·
   refine A5 ?_;refine xi4 (fun (_j:Unit)=>nkA a key k≠65536) (fun (_j:Unit)=>uV (uO (uV (uV uN 0 (tL 11 true tFa a)) 1 (tSt key)) 5 (.sl 5 1 0 xs.length)) 7 (tI (nkA a key k))) (fun (_j:Unit)=>uK uN 5 3 1 false (rV tI xs)) (nm [5]) ?_ ?_
   ·
    refine A6 ?_;refine x9 rfl (fun h145=> ?_) (fun h145=> ?_)
    ·
     refine A2 ?_;refine RE (xi6 (f:=tI) (xs:=xs) (fun _ h=>h) (xe9 rfl) rfl) qA qA trivial ?_;refine A8 ?_;exact E1 rfl rfl (Le.of (by rw [lrnA,if_pos hok,jk2 hG hv hk2 (by rw [nkA,<-show i=a.length by omega];exact h145)]))
    ·
     refine A1 ?_;exact kF (()) (by rw [nkA,<-show i=a.length by omega];exact h145) (hg:=((zav rfl (Imp.int (by rw [nkA,show i=a.length by omega]))) (sC (sC (sC zay)))))
   ·
    intro _j hne;refine A13 ?_;refine Rt (x4 (zs5 a key (nkA a key k - 1) (nkA a key k) hl hs hD hq) fi25 rfl) qD ?_;refine A8 ?_;have hdq:rdA a key (nkA a key k - 1) (nkA a key k)=dfS (vwT (toldT a key (nkA a key k - 1))) (vwT (toldT a key (nkA a key k))):=by rw [rdA,if_pos hok,ye3 hG,ye3 hG]
    refine A6 ?_;refine x9 rfl (fun h150=> ?_) (fun h150=> ?_)
    ·
     refine A3 ?_;refine R1 (xc2 (n:=1) (f:=fun n:Int=>tI n) [nkA a key k] zgq el3 zf3 rfl (fun _=>inferInstance) rfl rfl rfl) rfl (RE (xb3 (k:=5) (k':=62) (f:=fun n:Int=>tI n) (ys:=[nkA a key k]) (ts':=rV tI (xs++[nkA a key k])) zgq el3 zf3 rfl rfl (fun _=>inferInstance) xc0 (by simp;omega) (by simp;omega) (by simp [rV]) (n':=xs.length+1) rfl) qB qA qA ?_);refine A3 ?_;exact xe3 (l:=[5]) (zab 5 62) ((nkA a key k,xs++[nkA a key k])) ⟨(by dsimp only;exact ⟨by have q:=qh1 hG hv hk2 hne;rw [if_neg (by rw [<-hdq];omega)] at q;exact q,by omega,by omega,by rw [zbm];simp;omega⟩),(by dsimp only;omega)⟩ (zaf rfl ((zbc rfl (zaw (by dsimp only;rw [zbm];rfl))) (zas rfl (zas rfl zbd)))) ((zbb rfl (zat x8.symm)) zbe) (zaj (zak rfl (zaj (zaj zar)))) (zam rfl (supJ x6) zaz) (lkOk rfl) rfl rfl (fun _ h=>by cases h)
    ·
     refine A2 ?_;exact kF ((nkA a key k,xs)) ⟨(by dsimp only;exact ⟨by have q:=qh1 hG hv hk2 hne;rw [if_pos (by rw [<-hdq];omega)] at q;exact q,by omega,by omega,by omega⟩),(by dsimp only;omega)⟩
end An.S
namespace An
open Go Go.Proofs Go.Shelf Go.Sort Tryz
def srtS (xs:List (List UInt8)):List (List UInt8):=xs.mergeSort fun x y=>decide (x<=y)
def srtB (xs:List ByteArray):List ByteArray:=(srtS (xs.map bts)).map strOf
theorem jt4 (xs:List ByteArray):(srtB xs).length=xs.length:=by
 rw [srtB,zch,srtS,List.length_mergeSort,zch]
theorem jt3 {xs:List ByteArray} {s:ByteArray}:s∈srtB xs↔s∈xs:=by
 rw [srtB,zci];constructor
 ·rintro ⟨l,hl,rfl⟩;obtain ⟨u,hu,rfl⟩:=zci.1 (List.mem_mergeSort.1 hl);exact hu
 ·intro h;exact ⟨bts s,List.mem_mergeSort.2 (zci.2 ⟨s,h,rfl⟩),rfl⟩
end An
namespace An
open Go
theorem lsB {p q:ByteArray}:Op.bytesLess p.toList q.toList=decide (bts p < bts q):=by
 rw [Go.Proofs.bytesLess_eq,ByteArray.toList_eq,ByteArray.toList_eq];rfl
theorem yp6 {p q:ByteArray} (h:bts p=bts q):p=q:=by cases p;cases q;congr 1;exact Array.toList_inj.1 h
theorem we1 {p q:ByteArray}:(!(decide (bts p < bts q) || decide (p=q)))=decide (bts q < bts p):=by
 by_cases h1:bts q < bts p
 ·have h2: ¬bts p < bts q:=fun h=>List.lt_irrefl _ (List.lt_trans h h1);have h3:p≠q:=fun e=>by subst e;exact List.lt_irrefl _ h1
  simp [h1,h2,h3]
 ·by_cases h3:p=q
  ·subst h3;simp [h1]
  ·have h2:bts p < bts q:=by
    refine zfq fun h2=>h3 (yp6 ?_);exact List.le_antisymm (List.not_lt.1 h1) (List.not_lt.1 h2)
   simp [h1,h2]
section
variable {P:Program} {c:Base} {d ty:Nat} {pos:String} {af:Array Edge} {gd:Option (Nat×Bool)}
theorem jh3 {T yT:TypeId} {x y:Operand} {p q:ByteArray}:Does P c ⟨some d,.binOp .lss T x y yT,ty,pos,af,gd⟩ ⟨[(x,.val (tSt p)),(y,.val (tSt q))],[],some (d,some (.val (tB (decide (bts p < bts q))))),[],[]⟩:=
 xi7 fun w=>by simp only [eqGuard,binOp,zbu,zbx,zbn,Op.stringOp,lsB,Bool.not_false,if_true]
theorem d_gtrS {T yT:TypeId} {x y:Operand} {p q:ByteArray}:Does P c ⟨some d,.binOp .gtr T x y yT,ty,pos,af,gd⟩ ⟨[(x,.val (tSt p)),(y,.val (tSt q))],[],some (d,some (.val (tB (decide (bts q < bts p))))),[],[]⟩:=
 xi7 fun w=>by simp only [eqGuard,binOp,zbu,zbx,zbn,Op.stringOp,lsB,beqB,we1,Bool.not_false,if_true]
end
end An
namespace An.S
open Go
def aftB (o:List ByteArray) (s:ByteArray):Bool:=decide (o.length=0) || decide (bts (o.getD (o.length - 1) .empty) < bts s)
def bsX (a:List Fa) (o:List ByteArray):Nat->Int
 | 0=> -1
 | i+1=>if aftB o (a.getD i fa0).key=true/\(bsX a o i < 0∨bts (a.getD i fa0).key < bts (a.getD (bsX a o i).toNat fa0).key) then i else bsX a o i
section
variable {a:List Fa} {o:List ByteArray}
theorem yf8: ∀i,(bsX a o i= -1/\ ∀j,j < i->aftB o (a.getD j fa0).key=false)∨ ∃b:Nat,bsX a o i=b/\b < i/\aftB o (a.getD b fa0).key=true/\ ∀j,j < i->aftB o (a.getD j fa0).key=true-> ¬bts (a.getD j fa0).key < bts (a.getD b fa0).key
 | 0=> .inl ⟨rfl,fun j hj=>absurd hj (Nat.not_lt_zero j)⟩
 | i+1=>by
  rw [bsX];rcases yf8 i with ⟨h1,h2⟩ | ⟨b,h1,h2,h3,h4⟩
  ·rw [h1];by_cases ha:aftB o (a.getD i fa0).key=true
   ·rw [if_pos ⟨ha,.inl (by decide)⟩];refine .inr ⟨i,rfl,Nat.lt_succ_self i,ha,fun j hj hj2=> ?_⟩;rcases zcb j i with h | h
    ·rw [h2 j h] at hj2;cases hj2
    ·rw [show j=i by omega];exact List.lt_irrefl _
   ·rw [if_neg fun hh=>ha hh.1];refine .inl ⟨rfl,fun j hj=> ?_⟩;rcases zcb j i with h | h
    ·exact h2 j h
    ·rw [show j=i by omega];exact Bool.eq_false_iff.2 ha
  ·rw [h1,Int.toNat_natCast];by_cases ha:aftB o (a.getD i fa0).key=true/\bts (a.getD i fa0).key < bts (a.getD b fa0).key
   ·rw [if_pos ⟨ha.1,.inr ha.2⟩];refine .inr ⟨i,rfl,Nat.lt_succ_self i,ha.1,fun j hj hj2 hl=> ?_⟩;rcases zcb j i with h | h
    ·exact h4 j h hj2 (List.lt_trans hl ha.2)
    ·rw [show j=i by omega] at hl;exact List.lt_irrefl _ hl
   ·rw [if_neg fun hh=>ha ⟨hh.1,hh.2.resolve_left (by omega)⟩];refine .inr ⟨b,rfl,by omega,h3,fun j hj hj2=> ?_⟩;rcases zcb j i with h | h
    ·exact h4 j h hj2
    ·rw [show j=i by omega] at hj2 ⊢;exact fun hl=>ha ⟨hj2,hl⟩
theorem bs_bd (i:Nat): -1<=bsX a o i/\bsX a o i < (i:Int):=by
 rcases yf8 (a:=a) (o:=o) i with ⟨h,_⟩ | ⟨b,h,h2,_⟩ <;> omega
def ksI (a:List Fa) (o:List ByteArray):Prop:=o.Pairwise (fun p q=>bts p < bts q)/\(∀s∈o,∃f∈a,f.key=s)/\ ∀f∈a,aftB o f.key=false->f.key∈o
theorem wb3:ksI a []:=⟨List.Pairwise.nil,fun s hs=>(by cases hs),fun f _ h=>by cases h⟩
theorem wf9 (hp:o.Pairwise (fun p q=>bts p < bts q)) {s:ByteArray} (h:aftB o s=true): ∀p∈o,bts p < bts s:=fun p hp2=>by
 obtain ⟨i,hi,rfl⟩:=List.getElem_of_mem hp2;simp only [aftB,zdp,zbw] at h;have h:=h.resolve_left (by omega);rw [zbh,zbi (by omega)] at h;by_cases e:i=o.length - 1
 ·subst e;exact h
 ·exact List.lt_trans (zdx.1 hp i (o.length - 1) hi (by omega) (by omega)) h
theorem jq6 {p s:ByteArray}:aftB (o++[p]) s=decide (bts p < bts s):=by
 rw [aftB,zbm,zfp,show o.length+1 - 1=o.length by omega,zbh,zcr (zbq _),Nat.sub_self];simp
theorem wa1 (h:ksI a o) {b:Nat} (hb:bsX a o a.length=b):b < a.length/\ksI a (o++[(a.getD b fa0).key]):=by
 obtain ⟨h1,h2,h3⟩:=h;rcases yf8 (a:=a) (o:=o) a.length with ⟨q,_⟩ | ⟨b',q1,q2,q3,q4⟩
 ·omega
 ·have e:b'=b:=by omega
  subst e;refine ⟨q2,zec.2 ⟨h1,zek ..,fun p hp q hq=> ?_⟩,fun s hs=> ?_,fun f hf ha=> ?_⟩
  ·rw [zbj.1 hq];exact wf9 h1 q3 p hp
  ·rcases zbp.1 hs with hs | hs
   ·exact h2 s hs
   ·rw [zbj.1 hs];exact ⟨_,xe4 q2,rfl⟩
  ·rw [jq6,decide_eq_false_iff_not] at ha;by_cases h4:aftB o f.key=true
   ·obtain ⟨j,hj,rfl⟩:=List.getElem_of_mem hf;have e:a.getD j fa0=a[j]:=by rw [zbh,zbi hj];rfl
    have h5:=q4 j hj (by rw [e];exact h4);rw [e] at h5;have h6:a[j].key=(a.getD b' fa0).key:=yp6 (List.le_antisymm (List.not_lt.1 ha) (List.not_lt.1 h5));rw [h6];simp
   ·exact zbp.2 (.inl (h3 f hf (Bool.eq_false_iff.2 h4)))
theorem ks_end (h:ksI a o) (hb:bsX a o a.length < 0): ∀s,s∈o↔ ∃f∈a,f.key=s:=fun s=>by
 obtain ⟨h1,h2,h3⟩:=h;refine ⟨h2 s,fun ⟨f,hf,e⟩=>e▸h3 f hf ?_⟩;rcases yf8 (a:=a) (o:=o) a.length with ⟨_,q⟩ | ⟨b',q1,_⟩
 ·obtain ⟨j,hj,rfl⟩:=List.getElem_of_mem hf;have:=q j hj
  rwa [zbh,zbi hj] at this
 ·omega
theorem qp2: ∀{xs ys:List (List UInt8)},xs.Nodup->(∀x∈xs,x∈ys)->xs.length<=ys.length
 | [],_,_,_=>zbt _
 | x::xs,ys,h,hs=>by
  obtain ⟨h1,h2⟩:=List.nodup_cons.1 h;have h3:=hs x (zby ..);have h4:=qp2 (xs:=xs) (ys:=ys.erase x) h2 fun y hy=>(List.mem_erase_of_ne (fun e=>by subst e;exact h1 hy)).2 (hs y (zcd _ hy));rw [List.length_erase_of_mem h3] at h4;have:=List.length_pos_of_mem h3;rw [zdb];omega
theorem jj2 (h:ksI a o):o.length<=a.length:=by
 have h1:o.Nodup:=h.1.imp fun h e=>by subst e;exact List.lt_irrefl _ h
 have:=qp2 (List.Pairwise.map _ (fun p q hne e=>hne (yp6 e)) h1:(o.map bts).Nodup) (ys:=a.map fun f=>bts f.key) fun s hs=>by
  obtain ⟨p,hp,rfl⟩:=zci.1 hs;obtain ⟨f,hf,e⟩:=h.2.1 p hp;exact zci.2 ⟨f,hf,by rw [e]⟩
 rwa [zch,zch] at this
end
theorem qk1: ∀{xs ys:List ByteArray},xs.Pairwise (fun p q=>bts p < bts q)->ys.Pairwise (fun p q=>bts p < bts q)->(∀x,x∈xs↔x∈ys)->xs=ys
 | [],[],_,_,_=>rfl
 | [],y::_,_,_,h=>by have:=(h y).2 (zby ..);cases this
 | x::_,[],_,_,h=>by have:=(h x).1 (zby ..);cases this
 | x::xs,y::ys,hx,hy,h=>by
  obtain ⟨hx1,hx2⟩:=zcg.1 hx;obtain ⟨hy1,hy2⟩:=zcg.1 hy;have e:x=y:=by
   rcases zbr.1 ((h x).1 (zby ..)) with q1 | q1
   ·exact q1
   ·rcases zbr.1 ((h y).2 (zby ..)) with q2 | q2
    ·exact q2.symm
    ·exact absurd (List.lt_trans (hx1 y q2) (hy1 x q1)) (List.lt_irrefl _)
  subst e
  congr 1
  refine qk1 hx2 hy2 fun z=>⟨fun hz=> ?_,fun hz=> ?_⟩
  ·rcases zbr.1 ((h z).1 (zcd _ hz)) with q | q
   ·subst q;exact absurd (hx1 z hz) (List.lt_irrefl _)
   ·exact q
  ·rcases zbr.1 ((h z).2 (zcd _ hz)) with q | q
   ·subst q;exact absurd (hy1 z hz) (List.lt_irrefl _)
   ·exact q
theorem we0 {xs:List ByteArray} (h:xs.Nodup):(srtB xs).Pairwise (fun p q=>bts p < bts q):=by
 have h1:(srtS (xs.map bts)).Pairwise (fun x y=>decide (x<=y)=true):=List.pairwise_mergeSort (fun x y z q1 q2=>by simp only [zbw] at*;exact List.le_trans q1 q2) (fun x y=>by simp only [zdp,zbw];exact List.le_total x y) _;have h2:(srtS (xs.map bts)).Nodup:=(List.mergeSort_perm ..).nodup_iff.2 (List.Pairwise.map _ (fun p q hne e=>hne (yp6 e)) h);rw [srtB];refine List.Pairwise.map _ (fun x y hxy=> ?_) (h1.and h2);show x < y;obtain ⟨q1,q2⟩:=hxy;simp only [zbw] at q1;exact Decidable.byContradiction fun hn=>q2 (List.le_antisymm q1 (List.not_lt.1 hn))
theorem ks_srt {a:List Fa} {o:List ByteArray} (h:ksI a o) (hb:bsX a o a.length < 0) {xs:List ByteArray} (hn:xs.Nodup) (hm: ∀s,s∈xs↔ ∃f∈a,f.key=s):o=srtB xs:=
 qk1 h.1 (we0 hn) fun s=>by rw [ks_end h hb,jt3,hm]
end An.S
namespace An.S
open Go Go.Proofs An Tryz
end An.S
namespace An.S
open Go
end An.S
namespace An.S
open Go Go.Proofs An Tryz
section
variable {a:List Fa}
end
end An.S
namespace An
open Go Go.Proofs Go.Shelf Go.Sort Go.RowKit Tryz
def rNo:Value->Option (DataW Unit×List MemPlace):=fun _=>some (.nil,[])
theorem rd_SU {P:Program} {k:TypeId} (hk:P.underlying k=some .string) {s:ByteArray} (hs:s.size<=maxLen) {v:Value} {i:Nat}:Go.WideElems.rd P k rNo ⟨.string s,v,i⟩=some (.string s.data.toList,.nil):=by
 simp only [Go.WideElems.rd,rNo,Go.WideMaps.keyOf_string_mk hk hs,Option.bind_some,zdm]
theorem ym7: ∀(l:List (ByteArray×Nat)) (i:Nat),(mkSU.ents i l).map (·.key)=l.map fun p=>Value.string p.1
 | [],_=>rfl
 | p::r,i=>by rw [MK.ents,zcy,ym7 r];rfl
theorem own_SU {P:Program} {k:TypeId} (hk:P.underlying k=some .string) {w:World} {b:Nat} {l:List (ByteArray×Nat)} (hb:w.heap[b]? =some (mkSU.obj l)) (hn:(l.map (·.1)).Nodup) (hs: ∀p∈l,p.1.size<=maxLen) (hl:l.length<=maxLen):
  w.ownsMap P k rNo b l.length (.map (((mkSU.ents 0 l).map (Go.WideElems.rg P k rNo)).foldr DataW.insert [])):=by
 have hlen:(mkSU.ents 0 l).length=l.length:=by
  have:=congrArg List.length (ym7 l 0);simpa using this
 refine ⟨(mkSU.ents 0 l).toArray,l.length,hb,⟨?_,⟨fun x hx=> ?_,?_,?_⟩,fun x hx=> ?_⟩,?_,rfl⟩
 ·show (mkSU.ents 0 l).length<=maxLen;rw [hlen];exact hl
 ·exact MK.ents_lt hx
 ·exact MK.ents_nodup
 ·show ((mkSU.ents 0 l).map (·.key)).Nodup;rw [ym7,show (l.map fun p=>Value.string p.1)=(l.map (·.1)).map Value.string by rw [List.map_map];rfl];exact List.Pairwise.map _ (fun a b hab h=>hab (by injection h)) hn
 ·obtain ⟨i,p,h1,rfl⟩:=MK.ents_mem hx;exact ⟨_,rd_SU hk (hs p (zdw h1))⟩
 ·show (mkSU.ents 0 l).length<=l.length;rw [hlen];exact zbq _
theorem qh9 {P:Program} {k:TypeId} (hk:P.underlying k=some .string): ∀(l:List (ByteArray×Nat)) (i:Nat),(∀p∈l,p.1.size<=maxLen)->((mkSU.ents i l).map (Go.WideElems.rg P k rNo)).map (fun p=>Go.strOf p.1)=l.map fun p=>bts p.1
 | [],_,_=>rfl
 | p::r,i,hs=>by
  rw [MK.ents,zcy,zcy,qh9 hk r (i+1) fun q hq=>hs q (zcd _ hq),zcy]
  congr 1
  rw [Go.WideElems.rg,rd_SU hk (hs p (zby ..))];rfl
theorem qv1 {P:Program} {k:TypeId} (hk:P.underlying k=some .string) {l:List (ByteArray×Nat)} (hs: ∀p∈l,p.1.size<=maxLen):(strKeys (.map (((mkSU.ents 0 l).map (Go.WideElems.rg P k rNo)).foldr DataW.insert []):DataW Unit)).Perm (l.map fun p=>bts p.1):=by
 rw [<-qh9 hk l 0 hs];exact (Go.WideShapes.sorted_perm _).map _
end An
namespace An.S
open Go Go.Proofs An Tryz
instance ti69:TyI Tryz.prog 69 1 false:=⟨by kernel_rfl,by kernel_rfl⟩
instance fi67:FnI Tryz.prog 67:=⟨_,func67,by kernel_rfl,rfl⟩
instance fi68:FnI Tryz.prog 68:=⟨_,func68,by kernel_rfl,rfl⟩
def laySortedR:Go.Shelf.Ren:=⟨fun n=>match n with | 6=>67 | 8=>121 | 9=>122 | 11=>179 | n=>n,fun n=>match n with | 0=>0 | 24=>32 | 26=>9 | 28=>123 | 33=>182 | n=>n,fun n=>n⟩
theorem laySorted:Go.Proofs.SlLaysZ.n6 Tryz.prog laySortedR where
 mixed:=by kernel_rfl
 f6:=⟨f67.name,by kernel_rfl,by kernel_rfl⟩
 f8:=⟨f121.name,by kernel_rfl,by kernel_rfl⟩
 f11:=⟨f179.name,by kernel_rfl,by kernel_rfl⟩
 t0:=by kernel_rfl
 a0:=fun w=>by kernel_rfl
 z0:=fun w=>by kernel_rfl
 v0:=fun w=>by kernel_rfl
 t24:=by kernel_rfl
 a24:=fun w=>by kernel_rfl
 z24:=fun w=>by kernel_rfl
 v24:=fun w=>by kernel_rfl
 t26:=by kernel_rfl
 a26:=fun w=>by kernel_rfl
 z26:=fun w=>by kernel_rfl
 v26:=fun w=>by kernel_rfl
 t28:=by kernel_rfl
 a28:=fun w=>by kernel_rfl
 z28:=fun w=>by kernel_rfl
 v28:=fun w=>by kernel_rfl
 i26:=by kernel_rfl
def layKeys1R:Go.Shelf.Ren:=⟨fun n=>match n with | 10=>123 | n=>n,fun n=>match n with | 0=>0 | 3=>5 | 4=>4 | 23=>69 | 26=>9 | 33=>182 | n=>n,fun n=>n⟩
theorem layKeys1:Go.Proofs.SlLaysZ.n10 Tryz.prog layKeys1R where
 mixed:=by kernel_rfl
 f10:=⟨f123.name,by kernel_rfl,by kernel_rfl⟩
 t0:=by kernel_rfl
 a0:=fun w=>by kernel_rfl
 z0:=fun w=>by kernel_rfl
 v0:=fun w=>by kernel_rfl
 t4:=by kernel_rfl
 a4:=fun w=>by kernel_rfl
 z4:=fun w=>by kernel_rfl
 v4:=fun w=>by kernel_rfl
 t23:=by kernel_rfl
 a23:=fun w=>by kernel_rfl
 z23:=fun w=>by kernel_rfl
 v23:=fun w=>by kernel_rfl
 t26:=by kernel_rfl
 a26:=fun w=>by kernel_rfl
 z26:=fun w=>by kernel_rfl
 v26:=fun w=>by kernel_rfl
 t33:=by kernel_rfl
 a33:=fun w=>by kernel_rfl
 z33:=fun w=>by kernel_rfl
 v33:=fun w=>by kernel_rfl
def laySortSR:Go.Shelf.Ren:=⟨fun n=>match n with | 125=>133 | 128=>199 | 129=>200 | 190=>122 | 258=>180 | 302=>213 | 303=>214 | 304=>215 | 305=>216 | 306=>217 | 307=>218 | 308=>219 | 309=>220 | 310=>221 | 329=>230 | 330=>231 | 333=>250 | 334=>251 | 335=>252 | 336=>253 | 344=>269 | n=>n,fun n=>match n with | 0=>0 | 3=>3 | 4=>4 | 5=>5 | 9=>9 | 31=>32 | 46=>141 | 51=>289 | 53=>144 | 131=>286 | 182=>280 | 183=>281 | 218=>310 | 222=>314 | 228=>334 | 229=>79 | n=>n,fun n=>n⟩
theorem laySortS:Go.Proofs.Lays.n190 Tryz.prog laySortSR where
 mixed:=by kernel_rfl
 f125:=by kernel_rfl
 f128:=by kernel_rfl
 f129:=by kernel_rfl
 f190:=by kernel_rfl
 f258:=by kernel_rfl
 f302:=by kernel_rfl
 f303:=by kernel_rfl
 f304:=by kernel_rfl
 f305:=by kernel_rfl
 f306:=by kernel_rfl
 f307:=by kernel_rfl
 f308:=by kernel_rfl
 f309:=by kernel_rfl
 f310:=by kernel_rfl
 f329:=by kernel_rfl
 f330:=by kernel_rfl
 f333:=by kernel_rfl
 f334:=by kernel_rfl
 f335:=by kernel_rfl
 f336:=by kernel_rfl
 f344:=by kernel_rfl
 t0:=by kernel_rfl
 a0:=fun w=>by kernel_rfl
 z0:=fun w=>by kernel_rfl
 v0:=fun w=>by kernel_rfl
 t3:=by kernel_rfl
 a3:=fun w=>by kernel_rfl
 z3:=fun w=>by kernel_rfl
 v3:=fun w=>by kernel_rfl
 t4:=by kernel_rfl
 a4:=fun w=>by kernel_rfl
 z4:=fun w=>by kernel_rfl
 v4:=fun w=>by kernel_rfl
 t5:=by kernel_rfl
 a5:=fun w=>by kernel_rfl
 z5:=fun w=>by kernel_rfl
 v5:=fun w=>by kernel_rfl
 t9:=by kernel_rfl
 a9:=fun w=>by kernel_rfl
 z9:=fun w=>by kernel_rfl
 v9:=fun w=>by kernel_rfl
 t31:=by kernel_rfl
 a31:=fun w=>by kernel_rfl
 z31:=fun w=>by kernel_rfl
 v31:=fun w=>by kernel_rfl
 t46:=by kernel_rfl
 a46:=fun w=>by kernel_rfl
 z46:=fun w=>by kernel_rfl
 v46:=fun w=>by kernel_rfl
 t51:=by kernel_rfl
 a51:=fun w=>by kernel_rfl
 z51:=fun w=>by kernel_rfl
 v51:=fun w=>by kernel_rfl
 t53:=by kernel_rfl
 a53:=fun w=>by kernel_rfl
 z53:=fun w=>by kernel_rfl
 v53:=fun w=>by kernel_rfl
 t131:=by kernel_rfl
 a131:=fun w=>by kernel_rfl
 z131:=fun w=>by kernel_rfl
 v131:=fun w=>by kernel_rfl
 t182:=by kernel_rfl
 a182:=fun w=>by kernel_rfl
 z182:=fun w=>by kernel_rfl
 v182:=fun w=>by kernel_rfl
 t183:=by kernel_rfl
 a183:=fun w=>by kernel_rfl
 z183:=fun w=>by kernel_rfl
 v183:=fun w=>by kernel_rfl
 t218:=by kernel_rfl
 a218:=fun w=>by kernel_rfl
 z218:=fun w=>by kernel_rfl
 v218:=fun w=>by kernel_rfl
 t222:=by kernel_rfl
 a222:=fun w=>by kernel_rfl
 z222:=fun w=>by kernel_rfl
 v222:=fun w=>by kernel_rfl
 t228:=by kernel_rfl
 a228:=fun w=>by kernel_rfl
 z228:=fun w=>by kernel_rfl
 v228:=fun w=>by kernel_rfl
 t229:=by kernel_rfl
 a229:=fun w=>by kernel_rfl
 z229:=fun w=>by kernel_rfl
 v229:=fun w=>by kernel_rfl
open Go.Proofs Go.Shelf Go.Sort Go.RowKit in
theorem sortsS:AnyZ.SortsIn Tryz.prog laySortedR Fence.wide 4:=
 ⟨fun blk off cap ss W hH hblk hsz=>callsIn_wide.2 (Any.slices_Sort_string laySortS blk off cap ss W hH hblk hsz),fun p cap W=>callsIn_wide.2 (Any.slices_Sort_string_none laySortS p cap W)⟩
open Go.Proofs Go.Shelf Go.Sort Go.RowKit in
instance {α β:Type} {M:MK α β} {l:List (α×β)}:Shape (tMp M (some l)) 1 false:=⟨fun ⟨_,h,_⟩=>by rw [h];exact xd2 rfl⟩
theorem ym9 {a:ByteArray} {v:Nat}: ∀{l:List (ByteArray×Nat)},(a∈l.map (·.1)/\(putM l a v).map (·.1)=l.map (·.1))∨(¬a∈l.map (·.1)/\(putM l a v).map (·.1)=l.map (·.1)++[a])
 | []=> .inr ⟨by simp,rfl⟩
 | p::r=>by
  have ih:=ym9 (a:=a) (v:=v) (l:=r);rw [zn6,zcy];by_cases h:a=p.1
  ·rw [if_pos h,zcy,h];exact .inl ⟨zby ..,rfl⟩
  ·rw [if_neg h,zcy];rcases ih with ⟨hm,e⟩ | ⟨hm,e⟩
   ·exact .inl ⟨zcd _ hm,by rw [e]⟩
   ·exact .inr ⟨fun hh=>(zbr.1 hh).elim h hm,by rw [e];rfl⟩
theorem qa2 {Q:ByteArray->Prop}: ∀(a:List Fa) (m:List (ByteArray×Nat)),(m.map (·.1)).Nodup->(∀k∈m.map (·.1),Q k)->(∀f∈a,Q f.key)->((a.foldl kAdd m).map (·.1)).Nodup/\(∀k∈(a.foldl kAdd m).map (·.1),Q k)/\(a.foldl kAdd m).length<=m.length+a.length
 | [],m,h1,h2,_=>⟨h1,h2,zbq _⟩
 | f::r,m,h1,h2,h3=>by
  have h5:((kAdd m f).map (·.1)).Nodup/\(∀k∈(kAdd m f).map (·.1),Q k)/\((kAdd m f).map (·.1)).length<=m.length+1:=by
   rcases ym9 (l:=m) (a:=f.key) (v:=max (kGet m f.key) f.v.kind) with ⟨hm,e⟩ | ⟨hm,e⟩
   ·rw [kAdd,e];exact ⟨h1,h2,by rw [zch];omega⟩
   ·rw [kAdd,e];refine ⟨zec.2 ⟨h1,zek ..,fun x hx y hy=> ?_⟩,fun k hk=> ?_,by rw [zbm,zch];exact zbq _⟩
    ·rw [zbj.1 hy];exact fun hh=>hm (hh▸hx)
    ·rcases zbp.1 hk with h | h
     ·exact h2 k h
     ·rw [zbj.1 h];exact h3 f (zby ..)
  rw [zch] at h5;obtain ⟨i1,i2,i3⟩:=qa2 r (kAdd m f) h5.1 h5.2.1 fun x hx=>h3 x (zcd _ hx);exact ⟨i1,i2,by rw [List.foldl_cons,zdb];omega⟩
theorem gR.keys {D B:Int} {a:List Fa} (h:gR D B a):((kM a).map (·.1)).Nodup/\(∀p∈kM a,p.1.size<=maxLen)/\(kM a).length<=1000000:=by
 obtain ⟨h1,h2,h3⟩:=qa2 (Q:=fun k=>k.size<=24) a [] List.nodup_nil (fun k hk=>by cases hk) fun f hf=>(h.2 f hf).1.1.1.2;refine ⟨h1,fun p hp=> ?_,?_⟩
 ·have:=h2 p.1 (zcz hp);exact zdc this (by decide)
 ·have h4:=h.1;have h5:(kM a).length<=0+a.length:=h3;omega
def keyB (a:List Fa):List ByteArray:=srtB ((kM a).map (·.1))
theorem qu1 (l:List (ByteArray×Nat)):
  CtG Tryz.prog 68 [] [.val (tMp mkSU (some l))] (.own (.fn 123 [.ptr 1 0])) [(1,⟨69,1,false,[.val (tMp mkSU (some l))]⟩)] [1]:=by
 refine CtG.intro [] func68 rfl ntmps68 rfl rfl trivial ?_;intro w F η;refine A8 ?_;refine R1 (xt6 (ps:=[.ptr 1 0]) rfl) rfl ?_;refine A4 ?_;exact xg0 LentC.mk' rfl rfl Imp.refl qA rfl ⟨⟨rfl,(SupX.lit rfl)⟩,trivial⟩ rfl
theorem qo5 {s:ByteArray}: ∀(a:List Fa) (m:List (ByteArray×Nat)),s∈(a.foldl kAdd m).map (·.1)↔(∃f∈a,f.key=s)∨s∈m.map (·.1)
 | [],m=>by simp
 | f::r,m=>by
  rw [List.foldl_cons,qo5 r];have h:s∈(kAdd m f).map (·.1)↔f.key=s∨s∈m.map (·.1):=by
   rcases ym9 (l:=m) (a:=f.key) (v:=max (kGet m f.key) f.v.kind) with ⟨hm,e⟩ | ⟨hm,e⟩
   ·rw [kAdd,e];exact ⟨.inr,fun h=>h.elim (fun h=>h▸hm) id⟩
   ·rw [kAdd,e,zbp,zbj];exact ⟨fun h=>h.elim .inr fun h=> .inl h.symm,fun h=>h.elim (fun h=> .inr h.symm) .inl⟩
  rw [h];simp only [zbr,exists_eq_or_imp,or_assoc];exact ⟨fun h=>by rcases h with h | h | h <;> simp [h],fun h=>by rcases h with h | h | h <;> simp [h]⟩
theorem je6 (a:List Fa):((kM a).map (·.1)).Nodup/\ ∀s,s∈(kM a).map (·.1)↔ ∃f∈a,f.key=s:=
 ⟨(qa2 (Q:=fun _=>True) a [] List.nodup_nil (fun _ _=>trivial) fun _ _=>trivial).1,fun s=>by rw [kM,qo5];simp⟩
def rkB (a:List Fa):List ByteArray:=if recOk a=true then keyB a else []
theorem ju0 (a:List Fa) (hl:a.length<=100000) (hs:smF a) (hD: ∀f∈a,f.v.f.dig):
  Ct Tryz.prog 31 [tL 11 true tFa a] (tL 1 false tSt (rkB a)):=by
 refine Ct.intro func31 rfl ntmps31 rfl ?_;intro w F;refine A7 ?_;refine RE (xg1 (k:=3) 9 1 false rfl (fun _=>rfl)) trivial trivial qA ?_;refine A4 ?_;refine cL (fun (xs:List ByteArray)=>ksI a xs/\(xs=[]∨recOk a=true)) (fun (xs:List ByteArray)=>uO (uV uN 0 (tL 11 true tFa a)) 3 (.sl 3 1 0 xs.length)) (fun (xs:List ByteArray)=>uK uN 3 9 1 false (rV tSt xs)) [3] (fun (xs:List ByteArray)=>a.length - xs.length) ([]) ⟨wb3,.inl rfl⟩ ?_;intro xs hI;obtain ⟨hk,hz⟩:=hI;have hxl:=jj2 hk;refine A4 ?_;refine R1 (x4 (xt3 a hl hs hD) fi27 rfl) rfl ?_;refine A2 ?_;refine xc7 rfl (fun h43=> ?_) (fun h43=> ?_)
 ·
  refine A15 ?_;refine cL (fun (i:Nat)=>i<=a.length) (fun (i:Nat)=>uV (uV (uO (uV uN 0 (tL 11 true tFa a)) 3 (.sl 3 1 0 xs.length)) 4 (tI (bsX a xs i))) 5 (tI i)) (fun (i:Nat)=>uK uN 3 9 1 false (rV tSt xs)) [3] (fun (i:Nat)=>a.length - i) (0) (zbt _) ?_;intro i hI;have hbb:=bs_bd (a:=a) (o:=xs) i;refine A9 ?_;refine x9 rfl (fun h45=> ?_) (fun h45=> ?_)
  ·
   refine A10 ?_;refine RGcaseD (t:=17) rfl (fun h46=> ?_) (fun h46=> ?_)
   ·
    refine A17 ?_;refine RGcaseD (t:=34) rfl (fun h46_2=> ?_) (fun h46_2=> ?_)
    ·
     refine A11 ?_;refine Rg rfl rfl (xc6 (zbf h46_2)) rfl qB ?_;refine A15 ?_;exact kF (i+1) ⟨(by omega),(by omega)⟩ (hg:=(sI ((zav rfl (Imp.int (by rw [bsX];simp only [aftB,zdp,zbw];first | exact (if_pos ⟨by first | (left;omega) | (right;assumption),by first | (left;omega) | (right;assumption)⟩).symm | exact (if_neg (fun hh=>by obtain ⟨k1,k2⟩:=hh;rcases k1 with k1 | k1 <;> rcases k2 with k2 | k2 <;> first | omega | contradiction)).symm))) (sC (sC zay)))))
    ·
     refine A2 ?_;refine Rg (zbg h46_2) rfl (x5 sl33 (i) (by omega) (zai (l:=a) (n:=i) (d:=fa0))) rfl ⟨rfl,rfl,trivial⟩ (Rg (zbg h46_2) rfl (xa6 fo30_0.h (At.f 0 rfl rfl) rfl) rfl ⟨rfl,trivial⟩ ?_);refine A3 ?_;refine Rg (zbg h46_2) rfl (x5 sl33 ((bsX a xs i).toNat) (by omega) (zai (l:=a) (n:=(bsX a xs i).toNat) (d:=fa0))) rfl ⟨rfl,rfl,trivial⟩ (Rg (zbg h46_2) rfl (xa6 fo30_0.h (At.f 0 rfl rfl) rfl) rfl ⟨rfl,trivial⟩ ?_);refine A1 ?_;refine Rg (zbg h46_2) rfl (jh3) rfl qB (Rg rfl rfl (xc4 (zbg h46_2)) rfl qB ?_);refine A3 ?_;refine x9 rfl (fun h46_3=> ?_) (fun h46_3=> ?_)
     ·
      refine A11 ?_;exact kF (i+1) ⟨(by omega),(by omega)⟩ (hg:=(sI ((zav rfl (Imp.int (by rw [bsX];simp only [aftB,zdp,zbw];first | exact (if_pos ⟨by first | (left;omega) | (right;assumption),by first | (left;omega) | (right;assumption)⟩).symm | exact (if_neg (fun hh=>by obtain ⟨k1,k2⟩:=hh;rcases k1 with k1 | k1 <;> rcases k2 with k2 | k2 <;> first | omega | contradiction)).symm))) (sC (sC zay)))))
     ·
      refine A8 ?_;exact kF (i+1) ⟨(by omega),(by omega)⟩ (hg:=(sI ((zav rfl (Imp.int (by rw [bsX];simp only [aftB,zdp,zbw];first | exact (if_pos ⟨by first | (left;omega) | (right;assumption),by first | (left;omega) | (right;assumption)⟩).symm | exact (if_neg (fun hh=>by obtain ⟨k1,k2⟩:=hh;rcases k1 with k1 | k1 <;> rcases k2 with k2 | k2 <;> first | omega | contradiction)).symm))) (sC (sC zay)))))
   ·
    refine A2 ?_;refine Rg (zbg h46) rfl (x5 sl33 (i) (by omega) (zai (l:=a) (n:=i) (d:=fa0))) rfl ⟨rfl,rfl,trivial⟩ (Rg (zbg h46) rfl (xa6 fo30_0.h (At.f 0 rfl rfl) rfl) rfl ⟨rfl,trivial⟩ ?_);refine A3 ?_;refine Rg (zbg h46) rfl (zt4 zgw) rfl qA (Rg (zbg h46) rfl (xh2 zah) rfl qB (Rg (zbg h46) rfl (zag sl32 rfl) rfl qB (RGon (zbg h46) rfl (xa5 (xs.length - 1) ti9 (xc3 (f:=tSt) (xs:=xs) (d:= .empty) (by omega)) (by omega)) rfl qA qA trivial (Rg (zbg h46) rfl (d_gtrS) rfl qB ?_))));refine A2 ?_;refine RGcaseD (t:=31) rfl (fun h46_2=> ?_) (fun h46_2=> ?_)
    ·
     refine A3 ?_;refine RGcaseD (t:=34) rfl (fun h46_3=> ?_) (fun h46_3=> ?_)
     ·
      refine A11 ?_;refine Rg (zbf h46_2) rfl (xc6 (zbf h46_3)) rfl qB ?_;refine A15 ?_;exact kF (i+1) ⟨(by omega),(by omega)⟩ (hg:=(sI ((zav rfl (Imp.int (by rw [bsX];simp only [aftB,zdp,zbw];first | exact (if_pos ⟨by first | (left;omega) | (right;assumption),by first | (left;omega) | (right;assumption)⟩).symm | exact (if_neg (fun hh=>by obtain ⟨k1,k2⟩:=hh;rcases k1 with k1 | k1 <;> rcases k2 with k2 | k2 <;> first | omega | contradiction)).symm))) (sC (sC zay)))))
     ·
      refine A2 ?_;refine Rg (zbg h46_3) rfl (x5 sl33 (i) (by omega) (zai (l:=a) (n:=i) (d:=fa0))) rfl ⟨rfl,rfl,trivial⟩ (Rg (zbg h46_3) rfl (xa6 fo30_0.h (At.f 0 rfl rfl) rfl) rfl ⟨rfl,trivial⟩ ?_);refine A3 ?_;refine Rg (zbg h46_3) rfl (x5 sl33 ((bsX a xs i).toNat) (by omega) (zai (l:=a) (n:=(bsX a xs i).toNat) (d:=fa0))) rfl ⟨rfl,rfl,trivial⟩ (Rg (zbg h46_3) rfl (xa6 fo30_0.h (At.f 0 rfl rfl) rfl) rfl ⟨rfl,trivial⟩ ?_);refine A1 ?_;refine Rg (zbg h46_3) rfl (jh3) rfl qB (Rg (zbf h46_2) rfl (xc4 (zbg h46_3)) rfl qB ?_);refine A3 ?_;refine x9 rfl (fun h46_4=> ?_) (fun h46_4=> ?_)
      ·
       refine A11 ?_;exact kF (i+1) ⟨(by omega),(by omega)⟩ (hg:=(sI ((zav rfl (Imp.int (by rw [bsX];simp only [aftB,zdp,zbw];first | exact (if_pos ⟨by first | (left;omega) | (right;assumption),by first | (left;omega) | (right;assumption)⟩).symm | exact (if_neg (fun hh=>by obtain ⟨k1,k2⟩:=hh;rcases k1 with k1 | k1 <;> rcases k2 with k2 | k2 <;> first | omega | contradiction)).symm))) (sC (sC zay)))))
      ·
       refine A8 ?_;exact kF (i+1) ⟨(by omega),(by omega)⟩ (hg:=(sI ((zav rfl (Imp.int (by rw [bsX];simp only [aftB,zdp,zbw];first | exact (if_pos ⟨by first | (left;omega) | (right;assumption),by first | (left;omega) | (right;assumption)⟩).symm | exact (if_neg (fun hh=>by obtain ⟨k1,k2⟩:=hh;rcases k1 with k1 | k1 <;> rcases k2 with k2 | k2 <;> first | omega | contradiction)).symm))) (sC (sC zay)))))
    ·
     refine A18 ?_;refine A9 ?_;exact kF (i+1) ⟨(by omega),(by omega)⟩ (hg:=(sI ((zav rfl (Imp.int (by rw [bsX];simp only [aftB,zdp,zbw];first | exact (if_pos ⟨by first | (left;omega) | (right;assumption),by first | (left;omega) | (right;assumption)⟩).symm | exact (if_neg (fun hh=>by obtain ⟨k1,k2⟩:=hh;rcases k1 with k1 | k1 <;> rcases k2 with k2 | k2 <;> first | omega | contradiction)).symm))) (sC (sC zay)))))
  ·
   refine A12 ?_;refine x9 rfl (fun h50=> ?_) (fun h50=> ?_)
   ·
    refine A8 ?_;refine RE (xi6 (f:=tSt) (xs:=xs) (fun _ h=>h) (xe9 rfl) rfl) qA qA trivial ?_;refine A4 ?_;exact E1 rfl rfl (Le.of (by rw [rkB,if_pos h43,keyB,ks_srt hk (by rw [<-show i=a.length by omega];omega) (je6 a).1 (je6 a).2]))
   ·
    refine A6 ?_;refine R2 (x5 sl33 ((bsX a xs i).toNat) (by omega) (zai (l:=a) (n:=(bsX a xs i).toNat) (d:=fa0))) rfl rfl (R1 (xa6 fo30_0.h (At.f 0 rfl rfl) rfl) rfl ?_);refine A1 ?_;refine R1 (xc2 (n:=1) (f:=tSt) [(a.getD (bsX a xs i).toNat fa0).key] zgw el9 zf9 rfl (fun _=>inferInstance) rfl rfl rfl) rfl (RE (xb3 (k:=3) (k':=58) (f:=tSt) (ys:=[(a.getD (bsX a xs i).toNat fa0).key]) (ts':=rV tSt (xs++[(a.getD (bsX a xs i).toNat fa0).key])) zgw el9 zf9 rfl rfl (fun _=>inferInstance) xc0 (by simp;omega) (by simp;omega) (by simp [rV]) (n':=xs.length+1) rfl) qB qA qA ?_);refine A3 ?_;have hbs:=yf8 (a:=a) (o:=xs) a.length;have hil:i=a.length:=by omega
    have hkn:=wa1 hk (b:=(bsX a xs a.length).toNat) (by rw [<-hil];omega);have hkl:=jj2 hkn.2;rw [zbm,zfp] at hkl;have hal:(xs++[(a.getD (bsX a xs i).toNat fa0).key]).length=xs.length+1:=by rw [zbm];rfl
    exact xe3 (l:=[3]) (zab 3 58) ((xs++[(a.getD (bsX a xs i).toNat fa0).key])) ⟨⟨by rw [hil];exact hkn.2,.inr h43⟩,(by omega)⟩ ((zbc rfl (zaw (by rw [hal];rfl))) (zas rfl zbd)) ((zbb rfl (zat x8.symm)) zbe) (zak rfl (zaj zar)) (zam rfl (supJ x6) zaz) (lkOk rfl) rfl rfl (fun _ h=>by cases h)
 ·
  refine A7 ?_;refine RE (xi6 (f:=tSt) (xs:=xs) (fun _ h=>h) (xe9 rfl) rfl) qA qA trivial ?_;refine A4 ?_;exact E1 rfl rfl (Le.of (by rw [rkB,show recOk a=false by simpa using h43,hz.resolve_right (by simp_all)];rfl))
theorem xu6 {m n:Nat} {t:Ty} (h:n<=m):Le (tG (up m) t) (tG (up n) t):=jk4 fun _ hb=>zdc h hb
theorem le_T {ts us:List Ty} (h:LeL ts us):Le (tT ts) (tT us):=fun _ _ _ ⟨vs,h1,h2⟩=>⟨vs,h1,h.all h2⟩
theorem fr0N {G:Dom}:Le (tFr fr0) (tG G (tFr fr0)):=xk0 ⟨⟨rfl,rfl,xk0 ⟨⟨rfl,rfl,xf9⟩,⟨rfl,rfl,qo7⟩,trivial⟩⟩,⟨rfl,rfl,xk0 ⟨⟨rfl,rfl,xf9⟩,⟨rfl,rfl,qo7⟩,trivial⟩⟩,trivial⟩
instance fi86:FnI Tryz.prog 86:=⟨_,func86,by kernel_rfl,rfl⟩
instance fi138:FnI Tryz.prog 138:=⟨_,func138,by kernel_rfl,rfl⟩
instance fi202:FnI Tryz.prog 202:=⟨_,func202,by kernel_rfl,rfl⟩
instance fi238:FnI Tryz.prog 238:=⟨_,func238,by kernel_rfl,rfl⟩
def mk16:List Nat:=(List.range 12).map fun i=>(8000024+i)%65536
theorem mk16_len:mk16.length=12:=rfl
theorem mk16_at {j:Nat} (h:j < 12):mk16.getD j 0=(8000024+j)%65536:=by
 have: ∀j,j < 12->mk16.getD j 0=(8000024+j)%65536:=by decide
 exact this j h
theorem mk16_take {i:Nat} (h:i < 12):mk16.take (i+1)=mk16.take i++[(8000024+i)%65536]:=by
 rw [zca (by rw [mk16_len];exact h)]
 congr 2
 have:=mk16_at h;rw [zbh,zbi (by rw [mk16_len];exact h)] at this;exact this
theorem cutM {i:Nat}:IntKind.u16.wrap (1000003*(1+7)+(i:Int))=(((8000024+i)%65536:Nat):Int):=by rw [mu16];omega
abbrev tLmK (l:List Nat):Ty:=tLK 1 false (fun n:Nat=>tE (.int .u16 (n:Int))) l mk16
abbrev tWhK (x:Wh):Ty:=tS [⟨1,false,tB x.neg⟩,⟨1,false,tLmK x.l⟩]
abbrev tFrK (f:Fr):Ty:=tS [⟨2,true,tWhK f.n⟩,⟨2,true,tWhK f.d⟩]
abbrev tVaK (v:Va):Ty:=tS [⟨1,false,tE (.int .u8 (v.kind:Int))⟩,⟨4,true,tFrK v.f⟩,⟨1,false,tI v.i⟩]
theorem zv8 {x:Wh}:Le (tWhK x) (tWh x):=Le.tS ⟨⟨rfl,rfl,zao⟩,⟨rfl,rfl,ja6⟩,trivial⟩
theorem jc4 {f:Fr}:Le (tFrK f) (tFr f):=Le.tS ⟨⟨rfl,rfl,zv8⟩,⟨rfl,rfl,zv8⟩,trivial⟩
theorem jk3 {v:Va}:Le (tVaK v) (tVa v):=Le.tS ⟨⟨rfl,rfl,zao⟩,⟨rfl,rfl,jc4⟩,⟨rfl,rfl,zao⟩,trivial⟩
theorem yi0 {l m:List Nat} {i:Nat} (h:i < l.length):(l++m).getD i 0=l.getD i 0:=by
 rw [zbh,zct h,<-zbh]
theorem app_r {l m:List Nat} {i:Nat} (h:l.length<=i):(l++m).getD i 0=m.getD (i - l.length) 0:=by
 rw [zbh,zcr h,<-zbh]
theorem qq9 (i:Nat) (h:i < 12):
  Ct Tryz.prog 86 [tI 1,tI i] (tI (1000003*(1+7)+(i:Int))):=by
 refine Ct.intro func86 rfl ntmps86 rfl ?_;intro w F;refine A9 ?_;refine R2 (xj8 zah) rfl rfl ?_;refine A6 ?_;exact E1 rfl rfl zao
abbrev tLmW (l:List Nat):Ty:=tLW 140 1 false (fun n:Nat=>tE (.int .u16 (n:Int))) l mk16
abbrev tWhW (x:Wh):Ty:=tS [⟨1,false,tB x.neg⟩,⟨1,false,tLmW x.l⟩]
abbrev tFrW (f:Fr):Ty:=tS [⟨2,true,tWhW f.n⟩,⟨2,true,tWhW f.d⟩]
abbrev tVaW (v:Va):Ty:=tS [⟨1,false,tE (.int .u8 (v.kind:Int))⟩,⟨4,true,tFrW v.f⟩,⟨1,false,tI v.i⟩]
abbrev tTsW (s:Tst):Ty:=tS [⟨1,false,tI s.lo⟩,⟨1,false,tI s.hi⟩,⟨6,true,tVaW s.v⟩]
theorem whWK {x:Wh}:Le (tWhW x) (tWhK x):=Le.tS ⟨⟨rfl,rfl,zao⟩,⟨rfl,rfl,zb8⟩,trivial⟩
theorem frWK {f:Fr}:Le (tFrW f) (tFrK f):=Le.tS ⟨⟨rfl,rfl,whWK⟩,⟨rfl,rfl,whWK⟩,trivial⟩
theorem vaWK {v:Va}:Le (tVaW v) (tVaK v):=Le.tS ⟨⟨rfl,rfl,zao⟩,⟨rfl,rfl,frWK⟩,⟨rfl,rfl,zao⟩,trivial⟩
theorem vaW_le {v:Va}:Le (tVaW v) (tVa v):=Le.trans vaWK jk3
abbrev tTsM (x:Tst×Bool):Ty:=cond x.2 (tTsW x.1) (tTs x.1)
instance {x:Tst×Bool}:Shape (tTsM x) 8 true:=by
 obtain ⟨s,b⟩:=x;cases b
 ·exact (inferInstance:Shape (tTs s) 8 true)
 ·exact (inferInstance:Shape (tTsW s) 8 true)
def va00:Va:=⟨0,fr0,0⟩
theorem va00N {G:Dom}:Le (tVa va00) (tG G (tVa va00)):=xk0 ⟨⟨rfl,rfl,xf9⟩,⟨rfl,rfl,fr0N⟩,⟨rfl,rfl,xf9⟩,trivial⟩
theorem zt8 (l:List Nat) (hl:l.length<=1048576):
  CtN Tryz.prog 238 [tLm l] (fun nw=>tG (up nw) (tLmW l)):=by
 refine CtN.intro func238 rfl ntmps238 rfl ?_;intro w F;refine A10 ?_;refine RE (xi0 (k:=8) (t:=tE (.int .u16 0)) (ts:=([]:List Ent)) (0) (l.length+12) zgf el140 (fun _ _=>rfl) rfl (by omega) (by omega) (by omega) (by omega) (by omega) rfl) qB trivial qA ?_;refine A7 ?_;refine RE (xb3 (k:=8) (k':=11) (ys:=l) (ts':=rW .u16 l) zgf el140 zf140 rfl rfl (fun _=>inferInstance) rfl (by simp;omega) (by simp;omega) (by simp [rW]) (n':=l.length) (by simp)) ⟨rfl,rfl,trivial⟩ ⟨rfl,trivial⟩ ⟨rfl,trivial⟩ ?_;refine A10 ?_;refine cL (fun (i:Nat)=>i<=12) (fun (i:Nat)=>uV (uO (uV uN 0 (tLm l)) 3 (.sl 11 1 0 (l.length+i))) 4 (tI i)) (fun (i:Nat)=>uK uN 11 140 1 false (rW .u16 (l++mk16.take i))) [11] (fun (i:Nat)=>12 - i) (0) (zbt _) (hh:=((zaq rfl (zat (by rw [zej,zdz]))) zax)) ?_;intro i hI;have htl:(l++mk16.take i).length=l.length+i:=by rw [zbm,zcu,mk16_len];omega
 refine A7 ?_;refine x9 rfl (fun h64=> ?_) (fun h64=> ?_)
 ·
  refine A7 ?_;refine R2 (x4 (qq9 i (by omega)) fi86 rfl) rfl rfl (R1 (xa8 zgi (isS zgo) cutM) rfl (R1 (xu5 (n:=1) [((8000024+i)%65536)] zgf el140 zf140 rfl rfl rfl) rfl (RE (xb3 (k:=11) (k':=21) (ys:=[((8000024+i)%65536)]) (ts':=rW .u16 (l++mk16.take i++[((8000024+i)%65536)])) zgf el140 zf140 rfl rfl (fun _=>inferInstance) (xo7.trans htl) (by simp;omega) (by simp;omega) (by simp [rW]) (n':=l.length+i+1) rfl) qB qA qA ?_)));refine A9 ?_;exact xe3 (l:=[11]) (zab 11 21) (i+1) ⟨(by omega),(by omega)⟩ (zaf rfl (zas rfl (zas rfl zbd))) ((zbb rfl (zat (by rw [mk16_take (by omega),<-zdg];exact yf3.symm))) zbe) (zaj (zak rfl (zaj zar))) (zam rfl (supJ xn3) zaz) (lkOk rfl) rfl rfl (fun _ h=>by cases h)
 ·
  refine A10 ?_;refine RE (zw2 (k:=11) (f:=fun n:Nat=>tE (.int .u16 (n:Int))) (xs:=l) (ms:=mk16) (up w.heap.size) (fun _ h=>h) sl22 (fun _ h=>h) (fun _ _=>xf9) (by rw [rW,show i=12 by omega,show mk16.take 12=mk16 from rfl]) (by rw [mk16_len];omega) (by omega) rfl) qB qA trivial ?_;refine A4 ?_;exact E1 rfl rfl zao
theorem qg4 (l:List Nat) (hl:l.length<=1048576):
  Ct Tryz.prog 239 [tLmK l,tLm l] (tB true):=by
 have hml:(l++mk16).length=l.length+12:=by rw [zbm,mk16_len]
 refine Ct.intro func239 rfl ntmps239 rfl ?_;intro w F;refine A9 ?_;refine R1 (d_lenK zgf) rfl ?_;refine A5 ?_;refine xi8 rfl (zbg (by omega)) ?_;refine A8 ?_;refine R2 (jw3 sl22 (by rw [mk16_len];omega)) rfl rfl ?_;refine A10 ?_;refine cL (fun (i:Nat)=>i<=(l++mk16).length) (fun (i:Nat)=>uV (uV (uV uN 1 (tLm l)) 5 (tLm (l++mk16))) 6 (tI i)) (fun (i:Nat)=>fun _=>none) [] (fun (i:Nat)=>(l++mk16).length - i) (0) (zbt _) ?_;intro i hI;refine A9 ?_;refine x9 rfl (fun h75=> ?_) (fun h75=> ?_)
 ·
  refine A11 ?_;refine RGcaseD (t:=27) rfl (fun h76=> ?_) (fun h76=> ?_)
  ·
   refine A2 ?_;refine Rg (zbf h76) rfl (x5 sl22 (i) (by omega) (gN (by omega))) rfl qB ?_;refine A3 ?_;refine Rg (zbf h76) rfl (x5 sl22 (i) (by omega) (gN (by omega))) rfl qB ?_;refine A5 ?_;refine Rg (xb4 (by rw [yi0 (by omega)])) rfl xa3 rfl qA (Rg (xb4 (by rw [yi0 (by omega)])) rfl xa3 rfl qA (Rg (xb4 (by rw [yi0 (by omega)])) rfl (ya9 zgf) rfl qA (Rg (xb4 (by rw [yi0 (by omega)])) rfl qu4 rfl qB (Rg (xb4 (by rw [yi0 (by omega)])) rfl xa3 rfl qA (RGoff (zbg (by omega)) rfl rfl (RGoff (zbg (by omega)) rfl rfl (RGoff (zbg (by omega)) rfl rfl (RGoff (zbg (by omega)) rfl rfl (RGoff (zbg (by omega)) rfl rfl (RGoff (zbg (by omega)) rfl rfl (RGoff (zbg (by omega)) rfl rfl (RGoff (zbg (by omega)) rfl rfl (RGoff (zbg (by omega)) rfl rfl (RGoff (zbg (by omega)) rfl rfl (RGoff (zbg (by omega)) rfl rfl ?_)))))))))))))));refine RGoff (zbg (by omega)) rfl rfl (Rg (xb4 (by rw [yi0 (by omega)])) rfl (xc4 (zbg (by omega))) rfl qB (R2 (xc4 (xb4 (by rw [yi0 (by omega)]))) rfl rfl ?_));refine A11 ?_;exact kF (i+1) ⟨(by omega),(by omega)⟩
  ·
   refine A17 ?_;refine Rg (zbf (by omega)) rfl xa3 rfl qA (Rg (zbf (by omega)) rfl xa3 rfl qA (Rg (zbf (by omega)) rfl (x5 sl22 (i) (by omega) (gN (by omega))) rfl qB (Rg (zbf (by omega)) rfl (xf2 ti140) rfl qA (Rg (zbf (by omega)) rfl xa3 rfl qA (Rg (zbf (by omega)) rfl xa3 rfl qA (Rg (zbf (by omega)) rfl (ya9 zgf) rfl qA (Rg (zbf (by omega)) rfl (xh2 (r:=((i - l.length:Nat):Int)) (by rw [wr64 (by omega) (by omega)];omega)) rfl qB (Rg (zbf (by omega)) rfl (x4 (qq9 (i - l.length) (by omega)) fi86 rfl) rfl qB (Rg (zbf (by omega)) rfl (xa8 zgi (isS zgo) cutM) rfl qA (Rg (zbf (by omega)) rfl ya7 rfl qB (Rg (zbf (by omega)) rfl xj9 rfl qA (Rg rfl rfl (xc6 (zbf (by omega))) rfl qB ?_))))))))))));refine A3 ?_;refine xi8 rfl (xb4 (by rw [app_r (by omega),mk16_at (by omega)])) ?_;refine A8 ?_;exact kF (i+1) ⟨(by omega),(by omega)⟩
 ·
  refine A11 ?_;exact E1 rfl rfl zao
theorem yn6 (x:Wh) (hl:x.l.length<=1048576):
  CtN Tryz.prog 202 [tWh x] (fun nw=>tG (up nw) (tWhW x)):=by
 refine CtN.intro func202 rfl ntmps202 rfl ?_;intro w F;refine A3 ?_;refine RE (xb8 (k:=2) (n:=2) (agg:=true) zr24.1 zr24.2 rfl) trivial trivial qA ?_;refine A6 ?_;refine R1 (xm0 (ts:=[_]) (r:=tG (up w.heap.size) _) (zt8 x.l hl) fi238 (fun m hm=>xu6 hm) ⟨zao,trivial⟩ rfl) rfl ?_;refine A1 ?_;refine xr9 (0) ti22 rfl rfl rfl rfl (Up.g 1 rfl rfl rfl) rfl rfl ?_;refine A3 ?_;refine xt7 (k:=1) (e':=⟨24,2,true,[.val (tS [⟨1,false,tB x.neg⟩,⟨1,false,tG (up w.heap.size) (tLmW x.l)⟩])]⟩) rfl rfl ?_;refine A6 ?_;exact EC rfl ⟨_,_,_,_,_,rfl,rfl,ti24,(xk0 ⟨⟨rfl,rfl,xf9⟩,⟨rfl,rfl,zao⟩,trivial⟩)⟩
theorem qf3 (f:Fr) (h1:f.n.l.length<=1048576) (h2:f.d.l.length<=1048576):
  CtN Tryz.prog 138 [tFr f] (fun nw=>tG (up nw) (tFrW f)):=by
 refine CtN.intro func138 rfl ntmps138 rfl ?_;intro w F;refine A3 ?_;refine RE (xb8 (k:=2) (n:=4) (agg:=true) zr26.1 zr26.2 rfl) trivial trivial qA ?_;refine A6 ?_;refine R1 (xm0 (ts:=[_]) (r:=tG (up w.heap.size) _) (yn6 f.n h1) fi202 (fun m hm=>xu6 hm) ⟨zao,trivial⟩ rfl) rfl ?_;refine A1 ?_;refine xr9 (0) ti24 rfl rfl rfl rfl (Up.g 0 rfl rfl rfl) rfl rfl ?_;refine A6 ?_;refine R1 (xm0 (ts:=[_]) (r:=tG (up w.heap.size) _) (yn6 f.d h2) fi202 (fun m hm=>xu6 hm) ⟨zao,trivial⟩ rfl) rfl ?_;refine A1 ?_;refine xr9 (0) ti24 rfl rfl rfl rfl (Up.g 1 rfl rfl rfl) rfl rfl ?_;refine A3 ?_;refine xt7 (k:=1) (e':=⟨26,4,true,[.val (tS [⟨2,true,tG (up w.heap.size) (tWhW f.n)⟩,⟨2,true,tG (up w.heap.size) (tWhW f.d)⟩])]⟩) rfl rfl ?_;refine A6 ?_;exact EC rfl ⟨_,_,_,_,_,rfl,rfl,ti26,(xk0 ⟨⟨rfl,rfl,zao⟩,⟨rfl,rfl,zao⟩,trivial⟩)⟩
theorem qb2 (v:Va) (h1:v.f.n.l.length<=1048576) (h2:v.f.d.l.length<=1048576):
  CtN Tryz.prog 85 [tVa v] (fun nw=>tG (up nw) (tVaW v)):=by
 refine CtN.intro func85 rfl ntmps85 rfl ?_;intro w F;refine A3 ?_;refine RE (xb8 (k:=2) (n:=6) (agg:=true) zr28.1 zr28.2 rfl) trivial trivial qA ?_;refine A6 ?_;refine R1 (xm0 (ts:=[_]) (r:=tG (up w.heap.size) _) (qf3 v.f h1 h2) fi138 (fun m hm=>xu6 hm) ⟨zao,trivial⟩ rfl) rfl ?_;refine A1 ?_;refine xr9 (0) ti26 rfl rfl rfl rfl (Up.g 1 rfl rfl rfl) rfl rfl ?_;refine A3 ?_;refine xt7 (k:=1) (e':=⟨28,6,true,[.val (tS [⟨1,false,tE (.int .u8 (v.kind:Int))⟩,⟨4,true,tG (up w.heap.size) (tFrW v.f)⟩,⟨1,false,tI v.i⟩])]⟩) rfl rfl ?_;refine A6 ?_;exact EC rfl ⟨_,_,_,_,_,rfl,rfl,ti28,(xk0 ⟨⟨rfl,rfl,xf9⟩,⟨rfl,rfl,zao⟩,⟨rfl,rfl,xf9⟩,trivial⟩)⟩
theorem qi9 (k i:Nat) (hk:k < 1000) (hi:i < 10000000):
  Ct Tryz.prog 86 [tI k,tI i] (tI (1000003*((k:Int)+7)+(i:Int))):=by
 refine Ct.intro func86 rfl ntmps86 rfl ?_;intro w F;refine A9 ?_;refine R2 (xj8 zah) rfl rfl ?_;refine A6 ?_;exact E1 rfl rfl zao
theorem jj3 (l:List Sn) (hl:l.length<=1000000):
  CtN Tryz.prog 117 [tL 2 true tSn l] (fun nw=>tT [tG (up nw) (tL 2 true tSn (if l.all Sn.ok=true then mkS l else [])),tI (if l.all Sn.ok=true then 0 else 2)]):=by
 refine CtN.intro func117 rfl ntmps117 rfl ?_;intro w F;refine A8 ?_;refine RE (xg1 (k:=4) 83 2 true rfl (fun h=>by cases h)) trivial trivial qA ?_;refine A11 ?_;refine cL (fun (fm:(Nat)×(List Sn))=>(fun (i:Nat) (xs:List Sn)=>i<=l.length/\(l.take i).all Sn.ok=true/\xs=(l.take i).filter pos) fm.1 fm.2) (wB fun (i:Nat) (xs:List Sn)=>uV (uV (uV (uO (uV uN 0 (tL 2 true tSn l)) 4 (.sl 4 2 0 xs.length)) 11 (tL 2 true tSn l)) 12 (tI l.length)) 13 (tI i)) (wB fun (i:Nat) (xs:List Sn)=>uK uN 4 83 2 true (rV tSn xs)) [4] (fun (fm:(Nat)×(List Sn))=>(fun (i:Nat) (xs:List Sn)=>l.length - i) fm.1 fm.2) ((0,[])) (by dsimp only;exact ⟨zbt _,rfl,rfl⟩) ?_;intro fm hI;obtain ⟨i,xs⟩:=fm;replace hI:i<=l.length/\(l.take i).all Sn.ok=true/\xs=(l.take i).filter pos:=hI;show wc _ _ _ _ (uV (uV (uV (uO (uV uN 0 (tL 2 true tSn l)) 4 (.sl 4 2 0 xs.length)) 11 (tL 2 true tSn l)) 12 (tI l.length)) 13 (tI i)) (uK uN 4 83 2 true (rV tSn xs)) _;obtain ⟨hi,ha,hx⟩:=hI;have hxl:xs.length<=i:=hx▸jm3;refine A6 ?_;refine x9 rfl (fun h31=> ?_) (fun h31=> ?_)
 ·
  refine A6 ?_;refine R2 (x5 sl57 (i) (by omega) (zai (l:=l) (n:=i) (d:=sn0))) rfl rfl ?_;refine A1 ?_;refine RE (xb8 (k:=6) (n:=2) (agg:=true) zr83.1 zr83.2 rfl) trivial trivial qA ?_;refine A7 ?_;refine R1 (x4 (jr2 _) fi176 rfl) rfl ?_;refine A3 ?_;refine xc7 rfl (fun h32=> ?_) (fun h32=> ?_)
  ·
   have hbad:l.all Sn.ok=false:=jh8 (i:=i) (by omega) (by rw [zew] at h32;exact h32);refine A13 ?_;exact E2 rfl rfl rfl (leNilG (by rw [if_neg (by rw [hbad];exact Bool.false_ne_true)])) (zba (by rw [if_neg (by rw [hbad];exact Bool.false_ne_true)]))
  ·
   rw [Bool.not_eq_false'] at h32;refine A11 ?_;refine x9 rfl (fun h35=> ?_) (fun h35=> ?_)
   ·
    refine A3 ?_;refine R1 (xc2 (n:=1) (f:=tSn) [(l.getD i sn0)] zgn el83 zf83 rfl (fun _=>inferInstance) rfl rfl rfl) rfl (RE (xb3 (k:=4) (k':=28) (f:=tSn) (ys:=[(l.getD i sn0)]) (ts':=rV tSn (xs++[(l.getD i sn0)])) zgn el83 zf83 rfl rfl (fun _=>inferInstance) xc0 (by simp;omega) (by simp;omega) (by simp [rV]) (n':=xs.length+1) rfl) qB qA qA ?_);refine A8 ?_;exact xe3 (l:=[4]) (zab 4 28) ((i+1,xs++[(l.getD i sn0)])) ⟨(by dsimp only;exact ⟨by omega,by rw [zj7 (by omega),ha,h32];rfl,by rw [yt4 (by omega),<-hx,if_pos (show pos _=true from zbf h35)]⟩),(by dsimp only;omega)⟩ (zaf rfl (zaf rfl (zas rfl ((zbc rfl (zaw (by dsimp only;rw [zbm];rfl))) (zas rfl zbd))))) ((zbb rfl (zat x8.symm)) zbe) (zaj (zaj (zaj (zak rfl (zaj zar))))) (zam rfl (supJ x6) zaz) (lkOk rfl) rfl rfl (fun _ h=>by cases h)
   ·
    refine A7 ?_;exact kF ((i+1,xs)) ⟨(by dsimp only;exact ⟨by omega,by rw [zj7 (by omega),ha,h32];rfl,by rw [yt4 (by omega),<-hx,if_neg (by rw [pos,zbg h35];exact Bool.false_ne_true),zdz]⟩),(by dsimp only;omega)⟩
 ·
  refine A6 ?_;have hil:i=l.length:=by omega
  subst hil;rw [zcf] at ha hx;have hall:=ha;have hmk:mkS l=mrg (srt cfSn xs):=by rw [mkS,hx]
  refine A2 ?_;refine RE (xb7 (fun _=>4) (jo2 xs (by omega)) fi177 rfl (krC (ρ:=fun _=>4) (k:=1) x8 (krN (ρ:=fun _=>4))) (krC (ρ:=fun _=>4) (k:=1) x8 (krN (ρ:=fun _=>4))) ⟨⟨rfl,x6⟩,trivial⟩ rfl) qB qA trivial ?_;refine A4 ?_;refine RE (xg1 (k:=7) 83 2 true rfl (fun h=>by cases h)) trivial trivial qA ?_;refine A11 ?_;refine cL (fun (fm:(Nat)×(List Sn))=>(fun (i:Nat) (zs:List Sn)=>i<=xs.length/\zs=mrg ((srt cfSn xs).take i)) fm.1 fm.2) (wB fun (i:Nat) (zs:List Sn)=>uV (uV (uO (uO (uO uN 4 (.sl 4 2 0 xs.length)) 7 (.sl 7 2 0 zs.length)) 32 (.sl 4 2 0 xs.length)) 33 (tI xs.length)) 34 (tI i)) (wB fun (i:Nat) (zs:List Sn)=>uK (uK uN 4 83 2 true (rV tSn (srt cfSn xs))) 7 83 2 true (rV tSn zs)) [4,7] (fun (fm:(Nat)×(List Sn))=>(fun (i:Nat) (zs:List Sn)=>xs.length - i) fm.1 fm.2) ((0,[])) (by dsimp only;exact ⟨zbt _,rfl⟩) ?_;intro fm hI;obtain ⟨i,zs⟩:=fm;replace hI:i<=xs.length/\zs=mrg ((srt cfSn xs).take i):=hI;show wc _ _ _ _ (uV (uV (uO (uO (uO uN 4 (.sl 4 2 0 xs.length)) 7 (.sl 7 2 0 zs.length)) 32 (.sl 4 2 0 xs.length)) 33 (tI xs.length)) 34 (tI i)) (uK (uK uN 4 83 2 true (rV tSn (srt cfSn xs))) 7 83 2 true (rV tSn zs)) _;obtain ⟨hi',hz⟩:=hI;have hsl:=qw6 (xs:=xs);have hzl:zs.length<=i:=by
   have h:=qj4 ((srt cfSn xs).take i) [];rw [zcu] at h;have h2:zs.length<=([]:List Sn).length+min i (srt cfSn xs).length:=by rw [hz];exact h
   simp at h2;omega
  refine A6 ?_;refine x9 rfl (fun h41=> ?_) (fun h41=> ?_)
  ·
   refine A6 ?_;refine R2 (zag sl57 rfl) rfl rfl (RE (xa5 (i) ti83 (xc3 (d:=sn0) (by omega)) (by omega)) qA qA trivial (RE (xb8 (k:=9) (n:=2) (agg:=true) zr83.1 zr83.2 rfl) trivial trivial qA ?_));refine A15 ?_;refine RGcaseD (t:=42) rfl (fun h42=> ?_) (fun h42=> ?_)
   ·
    refine A2 ?_;refine Rg (zbf h42) rfl (xh2 zah) rfl qB (Rg (zbf h42) rfl (zag sl57 rfl) rfl qB ?_);refine A1 ?_;refine RGon (zbf h42) rfl (xp2 (es:=2) (o:=1) (zs.length - 1) ti3 (xc3 (d:=sn0) (by omega)) (At.g 1 rfl rfl) (by omega)) rfl qA qA trivial ?_;refine A6 ?_;refine x9 rfl (fun h42_2=> ?_) (fun h42_2=> ?_)
    ·
     refine A7 ?_;refine R2 (zag sl57 rfl) rfl rfl ?_;refine A1 ?_;refine RE (xp2 (es:=2) (o:=1) (zs.length - 1) ti3 (xc3 (d:=sn0) (by omega)) (At.g 1 rfl rfl) (by omega)) qA qA trivial ?_;refine A2 ?_;refine R2 zc6 rfl rfl (R2 (zag sl57 rfl) rfl rfl ?_);refine A1 ?_;refine RE (xn1 (es:=2) (o:=1) (t2:=tSn ⟨(zs.getD (zs.length - 1) sn0).lo,max (zs.getD (zs.length - 1) sn0).hi ((srt cfSn xs).getD i sn0).hi⟩) (zs.length - 1) ti3 (xc3 (d:=sn0) (by omega)) (Up.f (f:=⟨1,false,tI (zs.getD (zs.length - 1) sn0).hi⟩) 1 rfl rfl rfl) (by omega) (xf0 rfl)) qB qA trivial ?_;refine A7 ?_;exact kF ((i+1,(zs.set (zs.length - 1) ⟨(zs.getD (zs.length - 1) sn0).lo,max (zs.getD (zs.length - 1) sn0).hi ((srt cfSn xs).getD i sn0).hi⟩))) ⟨(by dsimp only;exact ⟨by omega,by rw [yw1 (by omega),<-hz,mrg1,if_pos ⟨by omega,by omega⟩]⟩),(by dsimp only;omega)⟩ (hg:=(sI (sI (sC ((zav rfl (zaw (by dsimp only;rw [zdn]))) (sC zay))))))
    ·
     refine A3 ?_;refine R1 (xc2 (n:=1) (f:=tSn) [((srt cfSn xs).getD i sn0)] zgn el83 zf83 rfl (fun _=>inferInstance) rfl rfl rfl) rfl (RE (xb3 (k:=7) (k':=70) (f:=tSn) (ys:=[((srt cfSn xs).getD i sn0)]) (ts':=rV tSn (zs++[((srt cfSn xs).getD i sn0)])) zgn el83 zf83 rfl rfl (fun _=>inferInstance) xc0 (by simp;omega) (by simp;omega) (by simp [rV]) (n':=zs.length+1) rfl) qB qA qA ?_);refine A8 ?_;exact xe3 (l:=[4,7]) (zab 7 70) ((i+1,zs++[((srt cfSn xs).getD i sn0)])) ⟨(by dsimp only;exact ⟨by omega,by rw [yw1 (by omega),<-hz,mrg1,if_neg (by omega)]⟩),(by dsimp only;omega)⟩ (zaf rfl (zaf rfl (zas rfl ((zbc rfl (zaw (by dsimp only;rw [zbm];rfl))) (zas rfl zbd))))) ((zbb rfl (zat x8.symm)) ((zbb rfl (zat x8.symm)) zbe)) (zaj (zaj (zak rfl (zak rfl (zak rfl zar))))) (zam rfl (supJ x6) (zam rfl (supJ x6) zaz)) (lkOk rfl) rfl rfl (fun _ h=>by cases h)
   ·
    refine A16 ?_;refine R1 (xc2 (n:=1) (f:=tSn) [((srt cfSn xs).getD i sn0)] zgn el83 zf83 rfl (fun _=>inferInstance) rfl rfl rfl) rfl (RE (xb3 (k:=7) (k':=70) (f:=tSn) (ys:=[((srt cfSn xs).getD i sn0)]) (ts':=rV tSn (zs++[((srt cfSn xs).getD i sn0)])) zgn el83 zf83 rfl rfl (fun _=>inferInstance) xc0 (by simp;omega) (by simp;omega) (by simp [rV]) (n':=zs.length+1) rfl) qB qA qA ?_);refine A8 ?_;exact xe3 (l:=[4,7]) (zab 7 70) ((i+1,zs++[((srt cfSn xs).getD i sn0)])) ⟨(by dsimp only;exact ⟨by omega,by rw [yw1 (by omega),<-hz,mrg1,if_neg (by omega)]⟩),(by dsimp only;omega)⟩ (zaf rfl (zaf rfl (zas rfl ((zbc rfl (zaw (by dsimp only;rw [zbm];rfl))) (zas rfl zbd))))) ((zbb rfl (zat x8.symm)) ((zbb rfl (zat x8.symm)) zbe)) (zaj (zaj (zak rfl (zak rfl (zak rfl zar))))) (zam rfl (supJ x6) (zam rfl (supJ x6) zaz)) (lkOk rfl) rfl rfl (fun _ h=>by cases h)
  ·
   refine A8 ?_;refine RE (yh8 (f:=tSn) (xs:=zs) (up w.heap.size) (fun _ h=>h) (fun _=>Free.S ⟨Free.E,Free.E,trivial⟩) (fun _ h=>h) (xe9 rfl) rfl) qA qA trivial ?_;refine A4 ?_;exact E2 rfl rfl rfl (Le.of (by rw [if_pos hall,hmk,hz,show i=(srt cfSn xs).length by omega,zcf])) (zba (by rw [if_pos hall]))
def _root_.An.Fr.dgs (f:Fr):Prop:=f.dig/\f.n.l.length<=4/\f.d.l.length<=4
theorem len32_4 {x:Int} (h:len16 x<=4):(dig 4294967296 x.natAbs).length<=2:=by
 have h1:(dig 65536 x.natAbs).length<=4:=h;rw [len32];omega
theorem yz0 (a b:Nat) (ha:(dig 4294967296 a).length<=2) (hb:(dig 4294967296 b).length<=2):
  Ct Tryz.prog 256 [tN a,tN b] (tN (Nat.gcd a b)):=by
 refine Ct.intro func256 rfl ntmps256 rfl ?_;intro w F;refine A5 ?_;refine xi4 (fun (fm:(Nat)×(Nat))=>(fun (p:Nat) (q:Nat)=>q<=p/\Nat.gcd p q=Nat.gcd a b/\(dig 4294967296 p).length<=2) fm.1 fm.2) (wB fun (p:Nat) (q:Nat)=>uV (uV uN 0 (tN p)) 1 (tN q)) (wB fun (p:Nat) (q:Nat)=>fun _=>none) (nm []) ?_ ?_
 ·
  refine A4 ?_;refine Rt (x4 (jd7 _ _) fi271 rfl) qB ?_;refine A3 ?_;refine x9 rfl (fun h10=> ?_) (fun h10=> ?_)
  ·
   refine A6 ?_;exact kF ((b,a)) (by dsimp only;exact ⟨Nat.le_of_lt (qb0.1 h10),zgb _ _,hb⟩)
  ·
   refine A1 ?_;exact kF ((a,b)) (by dsimp only;exact ⟨by have:=mt qb0.2 h10;omega,rfl,ha⟩)
 ·
  intro fm hj;obtain ⟨p,q⟩:=fm;replace hj:q<=p/\Nat.gcd p q=Nat.gcd a b/\(dig 4294967296 p).length<=2:=hj;show wc _ _ _ _ (uV (uV uN 0 (tN p)) 1 (tN q)) (fun _=>none) _;obtain ⟨j1,j2,j3⟩:=hj;have hyx:=xm3 xd7 j1;refine A2 ?_;refine cL (fun (_u:Unit)=>True) (fun (_u:Unit)=>uV (uV uN 0 (tN p)) 1 (tN q)) (fun (_u:Unit)=>fun _=>none) [] (fun (_u:Unit)=>0) (()) trivial ?_;intro _u _hz;refine A8 ?_;refine xi8 rfl (zbg (by omega)) ?_;refine A13 ?_;refine x9 rfl (fun h24=> ?_) (fun h24=> ?_)
  ·
   refine A8 ?_;have hy0:q=0:=(xm9 xd7).1 (zde.1 (by omega));subst hy0;exact E1 rfl rfl (Le.of (by rw [<-j2,Nat.gcd_zero_right]))
  ·
   refine A10 ?_;refine xi8 rfl (zbg (by omega)) ?_;refine A5 ?_;refine R1 (x4 (je9 (dig 4294967296 p) (by omega) (xi2 xd7 _)) fi275 rfl) rfl ?_;refine A1 ?_;refine R1 (x4 (je9 (dig 4294967296 q) (by omega) (xi2 xd7 _)) fi275 rfl) rfl ?_;refine A6 ?_;have hp2:=(xe1 xd7 p 2).1 j3;have hq2:=(xe1 xd7 q 2).1 (by omega);refine cL (fun (fm:(Nat)×(Nat))=>(fun (r:Nat) (t:Nat)=>Nat.gcd r t=Nat.gcd a b/\r < 18446744073709551616/\t < 18446744073709551616) fm.1 fm.2) (wB fun (r:Nat) (t:Nat)=>uV (uV uN 10 (tE (.int .u64 ((r:Nat):Int)))) 11 (tE (.int .u64 ((t:Nat):Int)))) (wB fun (r:Nat) (t:Nat)=>fun _=>none) [] (fun (fm:(Nat)×(Nat))=>(fun (r:Nat) (t:Nat)=>t) fm.1 fm.2) ((p,q)) (by dsimp only;exact ⟨j2,hp2,hq2⟩) (hg:=(Sub.le rfl (zba (by dsimp only;rw [xn5 xd7])) (Sub.le rfl (zba (by dsimp only;rw [xn5 xd7])) zay))) ?_;intro fm hT;obtain ⟨r,t⟩:=fm;replace hT:Nat.gcd r t=Nat.gcd a b/\r < 18446744073709551616/\t < 18446744073709551616:=hT;show wc _ _ _ _ (uV (uV uN 10 (tE (.int .u64 ((r:Nat):Int)))) 11 (tE (.int .u64 ((t:Nat):Int)))) (fun _=>none) _;obtain ⟨t1,t2,t3⟩:=hT;refine A7 ?_;refine x9 rfl (fun h32=> ?_) (fun h32=> ?_)
   ·
    refine A7 ?_;refine R2 (ya4 (by omega) wrem64) rfl rfl ?_;refine A4 ?_;have hlt:r%t < t:=zfb _ (by omega);exact kF ((t,r%t)) ⟨(by dsimp only;exact ⟨by rw [zgb,<-Nat.gcd_rec,zgb];exact t1,by omega,by omega⟩),(by dsimp only;omega)⟩
   ·
    refine A8 ?_;refine Rt (x4 (wb2 _ (by omega)) fi276 rfl) qA ?_;refine A4 ?_;exact E1 rfl rfl (Le.of (by rw [<-t1,show t=0 by omega,Nat.gcd_zero_right]))
theorem c_GcdS (x y:Int) (hx:len16 x<=4) (hy:len16 y<=4):
  Ct Tryz.prog 222 [tWh (wh x),tWh (wh y)] (tT [tWh (wh ((Int.gcd x y:Nat):Int)),tI 0]):=by
 have hx32:=len32_4 hx;have hy32:=len32_4 hy;have hg:=jz9 (k:=2) (m:=x.natAbs) (n:=y.natAbs) hx32 hy32;refine Ct.intro func222 rfl ntmps222 rfl ?_;intro w F;refine A4 ?_;refine RE (xb8 (k:=4) (n:=2) (agg:=true) zr24.1 zr24.2 rfl) trivial trivial qA ?_;refine A8 ?_;refine R2 (xc2 (n:=2) (f:=tWh) [wh x,wh y] zgk el24 zf24 rfl (fun _=>inferInstance) rfl rfl rfl) rfl rfl (R1 (x4 (qd3 x y (by omega) (by omega)) fi254 rfl) rfl ?_);refine A10 ?_;refine R1 (x4 (qr0 (Int.natAbs x) (by show len16 x<=1000000;omega)) fi257 rfl) rfl ?_;refine A2 ?_;refine R1 (x4 (qr0 (Int.natAbs y) (by show len16 y<=1000000;omega)) fi257 rfl) rfl (R2 (x4 (yz0 x.natAbs y.natAbs (by omega) (by omega)) fi256 rfl) rfl rfl (R2 (x4 (js7 false (Nat.gcd x.natAbs y.natAbs) (by omega)) fi255 rfl) rfl rfl ?_));refine A5 ?_;exact EN (rs:=[.cell 4 24,.tmp 5]) rfl rfl ⟨⟨_,_,_,_,_,rfl,rfl,ti24,zao⟩,⟨_,rfl,zao⟩,trivial⟩
theorem qu6 (x y:Int) (hx:len16 x<=4) (hy:len16 y<=4):
  Ct Tryz.prog 186 [tWh (wh x),tWh (wh y)] (tWh (wh ((Int.gcd x y:Nat):Int))):=by
 refine Ct.intro func186 rfl ntmps186 rfl ?_;intro w F;refine A4 ?_;refine RE (xb8 (k:=4) (n:=2) (agg:=true) zr24.1 zr24.2 rfl) trivial trivial qA ?_;refine A6 ?_;refine R2 (x4 (c_GcdS x y hx hy) fi222 rfl) rfl rfl ?_;refine A3 ?_;refine RE (xb8 (k:=5) (n:=2) (agg:=true) zr24.1 zr24.2 rfl) trivial trivial qA ?_;refine A11 ?_;exact EC rfl ⟨_,_,_,_,_,rfl,rfl,ti24,zao⟩
theorem qz9 (f:Fr) (h:f.dgs):
  Ct Tryz.prog 125 [tTm f] (tB f.valid):=by
 obtain ⟨n,d⟩:=f;obtain ⟨⟨hn,hd⟩,h4n,h4d⟩:=h;replace hn:Dig 65536 n.l:=hn;replace hd:Dig 65536 d.l:=hd;replace h4n:n.l.length<=4:=h4n;replace h4d:d.l.length<=4:=h4d;refine Ct.intro func125 rfl ntmps125 rfl ?_;intro w F;refine A10 ?_;refine R1 (x4 (wc7 _) fi182 rfl) rfl ?_;refine A1 ?_;refine RGcase (t:=5) rfl (fun h38=> ?_) (fun h38=> ?_)
 ·
  have hs:(⟨n,d⟩:Fr).sh=false:=by simpa using h38
  refine A18 ?_;refine A18 ?_;refine A1 ?_;exact E1 rfl rfl (zau (by simp only [Fr.valid,hs,zfj]))
 ·
  have hs:(⟨n,d⟩:Fr).sh=true:=by simpa using h38
  refine A2 ?_;refine xb9 h38 rfl rfl (0) ti24 rfl rfl rfl (At.t (At.g 0 rfl rfl) (At.g 0 rfl rfl)) rfl (Rg h38 rfl (x4 (yw4 n) fi183 rfl) rfl qA ?_);refine A3 ?_;refine RGcase (t:=12) rfl (fun h38_2=> ?_) (fun h38_2=> ?_)
  ·
   have hv1:n.valid=false:=by simpa using h38_2
   refine A18 ?_;refine A12 ?_;exact E1 rfl rfl (zau (by simp only [Fr.valid,hv1,Bool.and_false,zfj]))
  ·
   have hv1:n.valid=true:=by simpa using h38_2
   refine A2 ?_;refine xb9 h38_2 rfl rfl (0) ti24 rfl rfl rfl (At.t (At.g 0 rfl rfl) (At.g 1 rfl rfl)) rfl (Rg h38_2 rfl (x4 (yw4 d) fi183 rfl) rfl qA ?_);refine A3 ?_;refine RGcase (t:=19) rfl (fun h38_3=> ?_) (fun h38_3=> ?_)
   ·
    have hv2:d.valid=false:=by simpa using h38_3
    refine A18 ?_;refine A5 ?_;exact E1 rfl rfl (zau (by simp only [Fr.valid,hv2,Bool.and_false,zfj]))
   ·
    have hv2:d.valid=true:=by simpa using h38_3
    obtain ⟨x,rfl,hxl⟩:=Wh.of_valid hn hv1;obtain ⟨y,rfl,hyl⟩:=Wh.of_valid hd hv2;have ix:=y8 x;have iy:=y8 y;refine A3 ?_;refine xb9 h38_3 rfl rfl (0) ti4 rfl rfl rfl (At.t (At.g 0 rfl rfl) (At.t (At.g 1 rfl rfl) (At.g 0 rfl rfl))) rfl ?_;refine A2 ?_;refine RGcase (t:=25) rfl (fun h38_4=> ?_) (fun h38_4=> ?_)
    ·
     have hy0: ¬0 < y:=by have:y < 0:=zdt h38_4;omega
     refine A17 ?_;exact E1 rfl rfl (zau (by simp only [Fr.valid,ix,iy,zbg hy0,Bool.and_false,zfj]))
    ·
     refine A3 ?_;refine xb9 h38_4 rfl rfl (0) ti22 rfl rfl rfl (At.t (At.g 0 rfl rfl) (At.t (At.g 1 rfl rfl) (At.g 1 rfl rfl))) rfl ?_;refine A5 ?_;refine x9 rfl (fun h38_5=> ?_) (fun h38_5=> ?_)
     ·
      have hy0: ¬0 < y:=fun h=>by
       have h5:(((wh y).l.length:Nat):Int)=0:=h38_5;have h2:(wh y).l.length=0:=by omega
       have h3:y.natAbs=0:=(xm9 xa4).1 (zde.1 h2);omega
      refine A7 ?_;exact E1 rfl rfl (zau (by simp only [Fr.valid,ix,iy,zbg hy0,Bool.and_false,zfj]))
     ·
      have h5: ¬(((wh y).l.length:Nat):Int)=0:=h38_5;have hy0:0 < y:=zk6 h38_4 (by omega);refine A3 ?_;refine xt7 (k:=1) (e':=⟨184,4,true,[.val (tTm ⟨wh x,wh y⟩)]⟩) rfl rfl ?_;refine A2 ?_;refine R1 (x4 (qg8 _) fi184 rfl) rfl ?_;refine A1 ?_;refine RGcase (t:=35) rfl (fun h41=> ?_) (fun h41=> ?_)
      ·
       have hy1:y=1:=by have h:=zdt h41;exact An.wh_inj (h.trans qe1.symm)
       refine A13 ?_;exact E1 rfl rfl (zau (by simp only [Fr.valid,ix,iy,hs,hv1,hv2,zdq];rw [hy1];simp))
      ·
       have hy1: ¬y=1:=fun h=>of_decide_eq_false h41 (by show wh y=_;rw [h,qe1]);refine A2 ?_;refine xb9 h41 rfl rfl (0) ti24 rfl rfl rfl (At.t (At.g 0 rfl rfl) (At.g 0 rfl rfl)) rfl ?_;refine A2 ?_;refine xb9 h41 rfl rfl (0) ti24 rfl rfl rfl (At.t (At.g 0 rfl rfl) (At.g 1 rfl rfl)) rfl (Rg h41 rfl (x4 (qu6 x y h4n h4d) fi186 rfl) rfl qB (Rg h41 rfl (x4 (qr2 _) fi185 rfl) rfl qA ?_));refine A5 ?_;exact E1 rfl rfl (zau (by simp only [Fr.valid,ix,iy,hs,hv1,hv2,zbf hy0,zdq];exact qf7))
theorem zo1 (f:Fr) (h:f.dgs):
  Ct Tryz.prog 70 [tFr f] (tB f.valid):=by
 refine Ct.intro func70 rfl ntmps70 rfl ?_;intro w F;refine A9 ?_;refine R1 (xd3 (r:=tS [⟨4,true,tFr f⟩]) (ts:=[(0,tFr f)]) bu184 zr184.2 (Bc 0 rfl rfl rfl zao)) rfl (R1 (x4 (qz9 f h) fi125 rfl) rfl ?_);refine A4 ?_;exact E1 rfl rfl zao
theorem zk1 (v:Va) (hD:v.f.dgs):
  Ct Tryz.prog 37 [tVa v] (tB v.valid):=by
 refine Ct.intro func37 rfl ntmps37 rfl ?_;intro w F;refine A18 ?_;refine A3 ?_;refine x9 rfl (fun h20=> ?_) (fun h20=> ?_)
 ·
  refine A2 ?_;refine x9 rfl (fun h20_2=> ?_) (fun h20_2=> ?_)
  ·
   refine A6 ?_;refine RGcaseD (t:=11) rfl (fun h21=> ?_) (fun h21=> ?_)
   ·
    refine A2 ?_;refine Rg (zbf h21) rfl (x4 (zo1 _ hD) fi70 rfl) rfl qA ?_;refine A7 ?_;exact E1 rfl rfl (zau (va23 (by omega) (by first | (simp [*];done) | simp [*])))
   ·
    refine A10 ?_;exact E1 rfl rfl (zau (va23 (by omega) (by first | (simp [*];done) | simp [*])))
  ·
   refine A6 ?_;refine x9 rfl (fun h22=> ?_) (fun h22=> ?_)
   ·
    refine A4 ?_;refine R0 (xd3 (r:=zad) (ts:=[]) bu26 zr26.2 zao) (R2 (x4 (xp3 _ fr0) fi69 rfl) rfl rfl ?_);refine A1 ?_;refine RGcaseD (t:=22) rfl (fun h23=> ?_) (fun h23=> ?_)
    ·
     refine A5 ?_;refine RGcaseD (t:=27) rfl (fun h23_2=> ?_) (fun h23_2=> ?_)
     ·
      refine A10 ?_;exact E1 rfl rfl (zau (va1 (by omega) (by simp [*])))
     ·
      refine A10 ?_;exact E1 rfl rfl (zau (va1 (by omega) (by simp [*])))
    ·
     refine A15 ?_;exact E1 rfl rfl (zau (va1 (by omega) (by simp [*])))
   ·
    refine A6 ?_;refine x9 rfl (fun h24=> ?_) (fun h24=> ?_)
    ·
     refine A4 ?_;refine R0 (xd3 (r:=zad) (ts:=[]) bu26 zr26.2 zao) (R2 (x4 (xp3 _ fr0) fi69 rfl) rfl rfl ?_);refine A1 ?_;refine RGcaseD (t:=38) rfl (fun h25=> ?_) (fun h25=> ?_)
     ·
      refine A5 ?_;refine RGcaseD (t:=43) rfl (fun h25_2=> ?_) (fun h25_2=> ?_)
      ·
       refine A10 ?_;exact E1 rfl rfl (zau (va4 (by omega) (by simp [*])))
      ·
       refine A10 ?_;exact E1 rfl rfl (zau (va4 (by omega) (by simp [*])))
     ·
      refine A15 ?_;exact E1 rfl rfl (zau (va4 (by omega) (by simp [*])))
    ·
     refine A7 ?_;refine x9 rfl (fun h26=> ?_) (fun h26=> ?_)
     ·
      refine A2 ?_;refine x9 rfl (fun h26_2=> ?_) (fun h26_2=> ?_)
      ·
       refine A4 ?_;refine R0 (xd3 (r:=zad) (ts:=[]) bu26 zr26.2 zao) (R2 (x4 (xp3 _ fr0) fi69 rfl) rfl rfl ?_);refine A1 ?_;refine RGcaseD (t:=55) rfl (fun h27=> ?_) (fun h27=> ?_)
       ·
        refine A5 ?_;refine RGcaseD (t:=60) rfl (fun h27_2=> ?_) (fun h27_2=> ?_)
        ·
         refine A10 ?_;exact E1 rfl rfl (zau (va56 (by omega) (by simp [*])))
        ·
         refine A10 ?_;exact E1 rfl rfl (zau (va56 (by omega) (by simp [*])))
       ·
        refine A15 ?_;exact E1 rfl rfl (zau (va56 (by omega) (by simp [*])))
      ·
       refine A9 ?_;exact E1 rfl rfl (zau (va0 (by omega) (by omega) (by omega) (by omega)))
     ·
      refine A5 ?_;refine x9 rfl (fun h26_2=> ?_) (fun h26_2=> ?_)
      ·
       refine A4 ?_;refine R0 (xd3 (r:=zad) (ts:=[]) bu26 zr26.2 zao) (R2 (x4 (xp3 _ fr0) fi69 rfl) rfl rfl ?_);refine A1 ?_;refine RGcaseD (t:=55) rfl (fun h27=> ?_) (fun h27=> ?_)
       ·
        refine A5 ?_;refine RGcaseD (t:=60) rfl (fun h27_2=> ?_) (fun h27_2=> ?_)
        ·
         refine A10 ?_;exact E1 rfl rfl (zau (va56 (by omega) (by simp [*])))
        ·
         refine A10 ?_;exact E1 rfl rfl (zau (va56 (by omega) (by simp [*])))
       ·
        refine A15 ?_;exact E1 rfl rfl (zau (va56 (by omega) (by simp [*])))
      ·
       refine A9 ?_;exact E1 rfl rfl (zau (va0 (by omega) (by omega) (by omega) (by omega)))
 ·
  refine A5 ?_;refine x9 rfl (fun h20_2=> ?_) (fun h20_2=> ?_)
  ·
   refine A6 ?_;refine RGcaseD (t:=11) rfl (fun h21=> ?_) (fun h21=> ?_)
   ·
    refine A2 ?_;refine Rg (zbf h21) rfl (x4 (zo1 _ hD) fi70 rfl) rfl qA ?_;refine A7 ?_;exact E1 rfl rfl (zau (va23 (by omega) (by first | (simp [*];done) | simp [*])))
   ·
    refine A10 ?_;exact E1 rfl rfl (zau (va23 (by omega) (by first | (simp [*];done) | simp [*])))
  ·
   refine A6 ?_;refine x9 rfl (fun h22=> ?_) (fun h22=> ?_)
   ·
    refine A4 ?_;refine R0 (xd3 (r:=zad) (ts:=[]) bu26 zr26.2 zao) (R2 (x4 (xp3 _ fr0) fi69 rfl) rfl rfl ?_);refine A1 ?_;refine RGcaseD (t:=22) rfl (fun h23=> ?_) (fun h23=> ?_)
    ·
     refine A5 ?_;refine RGcaseD (t:=27) rfl (fun h23_2=> ?_) (fun h23_2=> ?_)
     ·
      refine A10 ?_;exact E1 rfl rfl (zau (va1 (by omega) (by simp [*])))
     ·
      refine A10 ?_;exact E1 rfl rfl (zau (va1 (by omega) (by simp [*])))
    ·
     refine A15 ?_;exact E1 rfl rfl (zau (va1 (by omega) (by simp [*])))
   ·
    refine A6 ?_;refine x9 rfl (fun h24=> ?_) (fun h24=> ?_)
    ·
     refine A4 ?_;refine R0 (xd3 (r:=zad) (ts:=[]) bu26 zr26.2 zao) (R2 (x4 (xp3 _ fr0) fi69 rfl) rfl rfl ?_);refine A1 ?_;refine RGcaseD (t:=38) rfl (fun h25=> ?_) (fun h25=> ?_)
     ·
      refine A5 ?_;refine RGcaseD (t:=43) rfl (fun h25_2=> ?_) (fun h25_2=> ?_)
      ·
       refine A10 ?_;exact E1 rfl rfl (zau (va4 (by omega) (by simp [*])))
      ·
       refine A10 ?_;exact E1 rfl rfl (zau (va4 (by omega) (by simp [*])))
     ·
      refine A15 ?_;exact E1 rfl rfl (zau (va4 (by omega) (by simp [*])))
    ·
     refine A7 ?_;refine x9 rfl (fun h26=> ?_) (fun h26=> ?_)
     ·
      refine A2 ?_;refine x9 rfl (fun h26_2=> ?_) (fun h26_2=> ?_)
      ·
       refine A4 ?_;refine R0 (xd3 (r:=zad) (ts:=[]) bu26 zr26.2 zao) (R2 (x4 (xp3 _ fr0) fi69 rfl) rfl rfl ?_);refine A1 ?_;refine RGcaseD (t:=55) rfl (fun h27=> ?_) (fun h27=> ?_)
       ·
        refine A5 ?_;refine RGcaseD (t:=60) rfl (fun h27_2=> ?_) (fun h27_2=> ?_)
        ·
         refine A10 ?_;exact E1 rfl rfl (zau (va56 (by omega) (by simp [*])))
        ·
         refine A10 ?_;exact E1 rfl rfl (zau (va56 (by omega) (by simp [*])))
       ·
        refine A15 ?_;exact E1 rfl rfl (zau (va56 (by omega) (by simp [*])))
      ·
       refine A9 ?_;exact E1 rfl rfl (zau (va0 (by omega) (by omega) (by omega) (by omega)))
     ·
      refine A5 ?_;refine x9 rfl (fun h26_2=> ?_) (fun h26_2=> ?_)
      ·
       refine A4 ?_;refine R0 (xd3 (r:=zad) (ts:=[]) bu26 zr26.2 zao) (R2 (x4 (xp3 _ fr0) fi69 rfl) rfl rfl ?_);refine A1 ?_;refine RGcaseD (t:=55) rfl (fun h27=> ?_) (fun h27=> ?_)
       ·
        refine A5 ?_;refine RGcaseD (t:=60) rfl (fun h27_2=> ?_) (fun h27_2=> ?_)
        ·
         refine A10 ?_;exact E1 rfl rfl (zau (va56 (by omega) (by simp [*])))
        ·
         refine A10 ?_;exact E1 rfl rfl (zau (va56 (by omega) (by simp [*])))
       ·
        refine A15 ?_;exact E1 rfl rfl (zau (va56 (by omega) (by simp [*])))
      ·
       refine A9 ?_;exact E1 rfl rfl (zau (va0 (by omega) (by omega) (by omega) (by omega)))
theorem qv7 (s:Tst) (hD:s.v.f.dgs):
  Ct Tryz.prog 172 [tTs s] (tB (!s.v.valid)):=by
 refine Ct.intro func172 rfl ntmps172 rfl ?_;intro w F;refine A10 ?_;refine R1 (x4 (zk1 s.v hD) fi37 rfl) rfl ?_;refine A5 ?_;exact E1 rfl rfl zao
theorem qz5 (l:List Tst) (hD: ∀s∈l,s.v.f.dgs):
  Ct Tryz.prog 211 [tL 8 true tTs l,tE (.func (.func 172) #[] #[])] (tI (ixF (fun s:Tst=> !s.v.valid) l)):=by
 refine Ct.intro func211 rfl ntmps211 rfl ?_;intro w F;refine xg9 (s:=0) rfl (fun hl0=> ?_);refine A14 ?_;refine cL (fun (i:Nat)=>i<=l.length/\(l.take i).any (fun s:Tst=> !s.v.valid)=false) (fun (i:Nat)=>uV (uV (uV (uV uN 0 (tL 8 true tTs l)) 1 (tE (.func (.func 172) #[] #[]))) 7 (tI l.length)) 8 (tI i)) (fun (i:Nat)=>fun _=>none) [] (fun (i:Nat)=>l.length - i) (0) ⟨zbt _,rfl⟩ ?_;intro i hI;obtain ⟨hi,ha⟩:=hI;refine A6 ?_;refine x9 rfl (fun h108=> ?_) (fun h108=> ?_)
 ·
  refine A15 ?_;refine R2 (x5 sl38 (i) (by omega) (zai (l:=l) (n:=i) (d:=tst0))) rfl rfl ?_;refine A1 ?_;refine R2 (xq0 (qv7 (l.getD i tst0) (hD _ (xg4 (by omega)))) fi172 rfl) rfl rfl ?_;refine A2 ?_;refine xc7 rfl (fun h109=> ?_) (fun h109=> ?_)
  ·
   refine A12 ?_;exact E1 rfl rfl (zba (ji7 (by omega) ha h109))
  ·
   refine A7 ?_;exact kF (i+1) ⟨⟨by omega,by rw [An.any_next (by omega),ha,h109];rfl⟩,(by omega)⟩
 ·
  refine A11 ?_;exact E1 rfl rfl (zba (wi0 (by rw [<-ha,show i=l.length by omega,zcf])))
theorem qd4 (l:List Tst) (hD: ∀s∈l,s.v.f.dgs):
  Ct Tryz.prog 171 [tL 8 true tTs l,tE (.func (.func 172) #[] #[])] (tB (l.any (fun s:Tst=> !s.v.valid))):=by
 refine Ct.intro func171 rfl ntmps171 rfl ?_;intro w F;refine A9 ?_;refine R2 (x4 (qz5 l hD) fi211 rfl) rfl rfl ?_;refine A5 ?_;exact E1 rfl rfl (zau wb5)
theorem zn8 (l:List Tst) (hD: ∀s∈l,s.v.f.dgs):
  Ct Tryz.prog 115 [tL 8 true tTs l] (tB (tRight l)):=by
 refine Ct.intro func115 rfl ntmps115 rfl ?_;intro w F;refine xg9 (s:=0) rfl (fun hl0=> ?_);refine A14 ?_;refine cL (fun (i:Nat)=>i<=l.length/\(List.range i).all (tOk l)=true) (fun (i:Nat)=>uV (uV (uV (uV uN 0 (tL 8 true tTs l)) 6 (tL 8 true tTs l)) 7 (tI l.length)) 8 (tI i)) (fun (i:Nat)=>fun _=>none) [] (fun (i:Nat)=>l.length - i) (0) ⟨zbt _,rfl⟩ ?_;intro i hI;obtain ⟨hi,ha⟩:=hI;refine A6 ?_;refine x9 rfl (fun h39=> ?_) (fun h39=> ?_)
 ·
  refine A7 ?_;refine R2 (x5 sl38 (i) (by omega) (zai (l:=l) (n:=i) (d:=tst0))) rfl rfl ?_;refine A1 ?_;refine RE (xb8 (k:=4) (n:=8) (agg:=true) zr55.1 zr55.2 rfl) trivial trivial qA ?_;refine A11 ?_;refine RGcaseD (t:=16) rfl (fun h40=> ?_) (fun h40=> ?_)
  ·
   refine A18 ?_;refine A8 ?_;exact E1 rfl rfl (zau (xq2 (i:=i) (by omega) (by omega)))
  ·
   refine A7 ?_;refine RGcaseD (t:=23) rfl (fun h40_2=> ?_) (fun h40_2=> ?_)
   ·
    refine A18 ?_;refine A1 ?_;exact E1 rfl rfl (zau (xq2 (i:=i) (by omega) (by omega)))
   ·
    refine A6 ?_;refine x9 rfl (fun h40_3=> ?_) (fun h40_3=> ?_)
    ·
     refine A12 ?_;exact E1 rfl rfl (zau (xq2 (i:=i) (by omega) (by omega)))
    ·
     refine A9 ?_;refine x9 rfl (fun h43=> ?_) (fun h43=> ?_)
     ·
      refine A8 ?_;have hok:tOk l i=true:=xv9.2 ⟨by omega,by omega,by omega,.inl (by omega)⟩;exact kF (i+1) ⟨⟨by omega,by rw [xj1,ha,zdq];exact hok⟩,(by omega)⟩
     ·
      refine A7 ?_;refine R2 (x5 sl38 (i - 1) (by omega) (zai (l:=l) (n:=i - 1) (d:=tst0))) rfl rfl ?_;refine A1 ?_;refine RE (xb8 (k:=5) (n:=8) (agg:=true) zr55.1 zr55.2 rfl) trivial trivial qA ?_;refine A11 ?_;refine RGcaseD (t:=40) rfl (fun h47=> ?_) (fun h47=> ?_)
      ·
       refine A18 ?_;refine A18 ?_;exact E1 rfl rfl (zau (xq2 (i:=i) (by omega) (by omega)))
      ·
       refine A2 ?_;refine xb9 (zbg h47) rfl rfl (0) ti5 rfl rfl rfl (At.t (At.g 2 rfl rfl) (At.g 0 rfl rfl)) rfl ?_;refine A2 ?_;refine xb9 (zbg h47) rfl rfl (0) ti5 rfl rfl rfl (At.t (At.g 2 rfl rfl) (At.g 0 rfl rfl)) rfl ?_;refine A3 ?_;refine RGcaseD (t:=49) rfl (fun h47_2=> ?_) (fun h47_2=> ?_)
       ·
        refine A18 ?_;refine A9 ?_;exact E1 rfl rfl (zau (xq2 (i:=i) (by omega) (by omega)))
       ·
        refine A6 ?_;refine RGcaseD (t:=55) rfl (fun h47_3=> ?_) (fun h47_3=> ?_)
        ·
         refine A4 ?_;refine Rg (zbf h47_3) rfl (x4 (yq5 _ _) fi36 rfl) rfl qB (Rg (zbg h47_2) rfl (xc6 (zbf h47_3)) rfl qB ?_);refine A3 ?_;refine x9 rfl (fun h47_4=> ?_) (fun h47_4=> ?_)
         ·
          refine A11 ?_;exact E1 rfl rfl (zau (xq2 (i:=i) (by omega) (by rintro ⟨_,_,_,h | ⟨_,_,h⟩⟩;omega;exact h ⟨by omega,h47_4⟩)))
         ·
          refine A7 ?_;have hok:tOk l i=true:=xv9.2 ⟨by omega,by omega,by omega,.inr ⟨by omega,by omega,fun h=>h47_4 h.2⟩⟩;exact kF (i+1) ⟨⟨by omega,by rw [xj1,ha,zdq];exact hok⟩,(by omega)⟩
        ·
         refine A5 ?_;refine Rg (zbg h47_2) rfl (xc4 (zbg h47_3)) rfl qB ?_;refine A11 ?_;have hok:tOk l i=true:=xv9.2 ⟨by omega,by omega,by omega,.inr ⟨by omega,by omega,fun h=>h47_3 h.1⟩⟩;exact kF (i+1) ⟨⟨by omega,by rw [xj1,ha,zdq];exact hok⟩,(by omega)⟩
 ·
  refine A8 ?_;refine R2 (x4 (qd4 l hD) fi171 rfl) rfl rfl ?_;refine A5 ?_;exact E1 rfl rfl (zau (by rw [tRight,<-we5,<-show i=l.length by omega,ha,zdq]))
theorem jd4 (a b:List Tst) (hla:a.length<=200000) (hlb:b.length<=200000) (hDa: ∀s∈a,s.v.f.dgs) (hDb: ∀s∈b,s.v.f.dgs):
  CtN Tryz.prog 65 [tL 8 true tTs a,tL 8 true tTs b] (fun nw=>tT [tG (up nw) (tL 2 true tSn (if tRight a=true/\tRight b=true then dfS a b else [])),tI (if tRight a=true/\tRight b=true then 0 else 2)]):=by
 refine CtN.intro func65 rfl ntmps65 rfl ?_;intro w F;refine A10 ?_;refine R1 (x4 (zn8 a hDa) fi115 rfl) rfl ?_;refine A2 ?_;refine RGcase (t:=12) rfl (fun h223=> ?_) (fun h223=> ?_)
 ·
  refine A15 ?_;exact E2 rfl rfl rfl (leNilG (by rw [if_neg fun h=>by rw [h.1] at h223;cases h223])) (zba (by rw [if_neg fun h=>by rw [h.1] at h223;cases h223]))
 ·
  refine A1 ?_;refine Rg h223 rfl (x4 (zn8 b hDb) fi115 rfl) rfl qA ?_;refine A4 ?_;refine xc7 rfl (fun h223_2=> ?_) (fun h223_2=> ?_)
  ·
   refine A8 ?_;exact E2 rfl rfl rfl (leNilG (by rw [if_neg fun h=>by rw [h.2] at h223_2;cases h223_2])) (zba (by rw [if_neg fun h=>by rw [h.2] at h223_2;cases h223_2]))
  ·
   refine A4 ?_;refine RE (xb8 (k:=6) (n:=1) (agg:=false) zr57.1 zr57.2 rfl) trivial trivial qA ?_;refine A4 ?_;have hok:tRight a=true/\tRight b=true:=⟨by simpa using h223,by simpa using h223_2⟩
   refine yo1 (q:=6) 60 83 2 true 0 rfl rfl rfl rfl (fun h=>by cases h) rfl rfl ?_;refine A3 ?_;refine RE (xb7 (fun j=>cond (Nat.beq j 2) 19 (1019)) (qu2 a b) fi116 rfl (krN (ρ:=fun j=>cond (Nat.beq j 2) 19 (1019))) (krC (ρ:=fun j=>cond (Nat.beq j 2) 19 (1019)) (k:=2) rfl (krC (ρ:=fun j=>cond (Nat.beq j 2) 19 (1019)) (k:=3) rfl (krN (ρ:=fun j=>cond (Nat.beq j 2) 19 (1019))))) ⟨⟨rfl,(SupX.lit rfl)⟩,⟨rfl,(SupX.lit rfl)⟩,trivial⟩ rfl) qB trivial qB ?_;refine A3 ?_;refine ys2 (caps:=[.ptr 1 0,.ptr 2 0]) (κ:=Empty) (zaa 2 1019 (zab 1 19)) rfl (fun _ h=>h) trivial (qw2 a b (zb0 hok.1) (zb0 hok.2) hla hlb) fi173 rfl qB rfl rfl (fun _ _=>rfl) (uO uN 6 (.ptr 6 0)) [6,60] [6] (zan rfl zay) (zak rfl zar) rfl (lkOk rfl) (fun (k:Nat) (xs:List Sn)=>xs=dfK a b k/\xs.length<=k) (fun (k:Nat) (xs:List Sn)=>uK (uK uN 6 57 1 false [.own (.sl 60 2 0 xs.length)]) 60 83 2 true (rV tSn xs)) (fun k x=>(zam rfl (supJ x6) (zam rfl (supJL rfl) zaz))) (fun k x y hy=>by simp only [zbr,zdf,or_false] at hy;rcases hy with rfl | rfl <;> rfl) (fun _ _=>False) (fun i=>i.elim) (fun _ _ h=>h.elim) ([]) ⟨rfl,zbq _⟩ (SubK.cons rfl (SubK.cons rfl zax)) ?_ ?_ ?_
   ·
    intro D lp o1 o2 O W lη lb V0 k xs hk hI;obtain ⟨hx,hxl⟩:=hI;have hdl:=zj2 (ls:=[a,b]);have htl:tlen [a,b]<=400000:=by simp [tlen];omega
    apply zd2
    ·
     refine A2 ?_;refine RE (xb8 (k:=7) (n:=2) (agg:=true) zr83.1 zr83.2 rfl) trivial trivial qA ?_;refine A4 ?_;refine RE (xb8 (k:=8) (n:=2) (agg:=true) zr176.1 zr176.2 rfl) trivial trivial qA ?_;refine A2 ?_;exact yp9 fun _ _ h=>h
    ·
     refine A6 ?_;refine R1 (yw9 zgz) rfl ?_;refine A1 ?_;refine RGcase (t:=25) rfl (fun h228=> ?_) (fun h228=> ?_)
     ·
      refine A2 ?_;refine Rg h228 rfl (yw9 zgz) rfl qA ?_;refine A2 ?_;refine RGcase (t:=30) rfl (fun h228_2=> ?_) (fun h228_2=> ?_)
      ·
       refine A18 ?_;refine A8 ?_;exact xz0 (xs) ⟨by rw [qw7 (by rw [Option.isNone_iff_eq_none.1 h228,Option.isNone_iff_eq_none.1 h228_2])];exact hx,by omega⟩ (SubK.cons rfl (SubK.cons rfl zax)) (zam rfl (supJ x6) (zam rfl (supJL rfl) zaz)) (lkOk rfl)
      ·
       refine A2 ?_;refine Rg h228_2 rfl (yz2 zgz) rfl qA ?_;refine A1 ?_;refine RGoff (by exact congrArg Bool.not h228) rfl rfl (RGoff (by exact congrArg Bool.not h228) rfl rfl (RGoff (by exact congrArg Bool.not h228) rfl rfl (Rg h228_2 rfl (xc4 (by exact congrArg Bool.not h228)) rfl qB ?_)));refine A10 ?_;refine Rg h228_2 rfl (xc4 rfl) rfl qB ?_;refine A7 ?_;refine RE (xa5 (ts:=[.own (.sl 60 2 0 xs.length)]) (0) ti57 rfl rfl) qA qA trivial ?_;refine A1 ?_;refine R1 (xc2 (n:=1) (f:=tSn) [(⟨((bds [a,b]).getD k 0),((bds [a,b]).getD (k+1) 0)⟩:Sn)] zgn el83 zf83 rfl (fun _=>inferInstance) rfl rfl rfl) rfl (RE (xb3 (k:=60) (k':=54) (f:=tSn) (ys:=[(⟨((bds [a,b]).getD k 0),((bds [a,b]).getD (k+1) 0)⟩:Sn)]) (ts':=rV tSn (xs++[(⟨((bds [a,b]).getD k 0),((bds [a,b]).getD (k+1) 0)⟩:Sn)])) zgn el83 zf83 rfl rfl (fun _=>inferInstance) xc0 (by simp;omega) (by simp;omega) (by simp [rV]) (n':=xs.length+1) rfl) qB qA qA (RE (xc1 (es:=1) (agg:=false) (e:= .own (.sl 54 2 0 (xs.length+1))) (0) ti57 rfl rfl rfl) qB qA trivial ?_));refine A2 ?_;exact zb3 (g':=fun _=>none) [6,60] (zab 60 54) zbd ((zbb rfl (zat x8.symm)) ((zbb rfl (zat (by rw [zbm];rfl))) zbe)) zar (zam rfl (supJ x6) (zam rfl (supJL rfl) zaz)) (lkOk rfl) rfl rfl (fun _ h=>by cases h) (xz0 ((xs++[(⟨((bds [a,b]).getD k 0),((bds [a,b]).getD (k+1) 0)⟩:Sn)])) ⟨by rw [qc7 (fun e=>by rw [e,h228_2] at h228;cases h228),<-hx],by rw [zbm];simp;omega⟩ SubK.refl (zam rfl (supJ x6) (zam rfl (supJL rfl) zaz)) (lkOk rfl))
     ·
      refine A7 ?_;refine Rg rfl rfl (yz2 zgz) rfl qA ?_;refine A1 ?_;refine Rg (by exact congrArg Bool.not h228) rfl (xb5 fo176_1.h rfl) rfl qA (xb9 (by exact congrArg Bool.not h228) rfl rfl (0) ti174 rfl rfl rfl (At.g 1 rfl rfl) rfl (Rg (by exact congrArg Bool.not h228) rfl (yz2 zgz) rfl qA (Rg rfl rfl (xc6 (by exact congrArg Bool.not h228)) rfl qB ?_)));refine A1 ?_;refine RGcase (t:=39) rfl (fun h228_3=> ?_) (fun h228_3=> ?_)
      ·
       obtain ⟨u,hu⟩:=jz1 h228;obtain ⟨v,hv⟩:=qa5 h228_3;refine A2 ?_;refine Rg h228_3 rfl (xr7 hu) rfl qA ?_;refine A3 ?_;refine Rg h228_3 rfl (xr7 hv) rfl qA ?_;refine A1 ?_;refine Rg h228_3 rfl (x4 (yq5 _ _) fi36 rfl) rfl qB (Rg rfl rfl (xc6 h228_3) rfl qB ?_);refine A3 ?_;refine x9 rfl (fun h228_4=> ?_) (fun h228_4=> ?_)
       ·
        refine A3 ?_;exact xz0 (xs) ⟨by rw [qw7 (by rw [hu,hv,h228_4])];exact hx,by omega⟩ (SubK.cons rfl (SubK.cons rfl zax)) (zam rfl (supJ x6) (zam rfl (supJL rfl) zaz)) (lkOk rfl)
       ·
        refine A3 ?_;refine RE (xa5 (ts:=[.own (.sl 60 2 0 xs.length)]) (0) ti57 rfl rfl) qA qA trivial ?_;refine A1 ?_;refine R1 (xc2 (n:=1) (f:=tSn) [(⟨((bds [a,b]).getD k 0),((bds [a,b]).getD (k+1) 0)⟩:Sn)] zgn el83 zf83 rfl (fun _=>inferInstance) rfl rfl rfl) rfl (RE (xb3 (k:=60) (k':=54) (f:=tSn) (ys:=[(⟨((bds [a,b]).getD k 0),((bds [a,b]).getD (k+1) 0)⟩:Sn)]) (ts':=rV tSn (xs++[(⟨((bds [a,b]).getD k 0),((bds [a,b]).getD (k+1) 0)⟩:Sn)])) zgn el83 zf83 rfl rfl (fun _=>inferInstance) xc0 (by simp;omega) (by simp;omega) (by simp [rV]) (n':=xs.length+1) rfl) qB qA qA (RE (xc1 (es:=1) (agg:=false) (e:= .own (.sl 54 2 0 (xs.length+1))) (0) ti57 rfl rfl rfl) qB qA trivial ?_));refine A2 ?_;exact zb3 (g':=fun _=>none) [6,60] (zab 60 54) zbd ((zbb rfl (zat x8.symm)) ((zbb rfl (zat (by rw [zbm];rfl))) zbe)) zar (zam rfl (supJ x6) (zam rfl (supJL rfl) zaz)) (lkOk rfl) rfl rfl (fun _ h=>by cases h) (xz0 ((xs++[(⟨((bds [a,b]).getD k 0),((bds [a,b]).getD (k+1) 0)⟩:Sn)])) ⟨by rw [qc7 (fun e=>by rw [hu,hv] at e;exact h228_4 (Option.some.inj e)),<-hx],by rw [zbm];simp;omega⟩ SubK.refl (zam rfl (supJ x6) (zam rfl (supJL rfl) zaz)) (lkOk rfl))
      ·
       refine A9 ?_;refine Rg rfl rfl (xc4 h228_3) rfl qB ?_;refine A7 ?_;refine RE (xa5 (ts:=[.own (.sl 60 2 0 xs.length)]) (0) ti57 rfl rfl) qA qA trivial ?_;refine A1 ?_;refine R1 (xc2 (n:=1) (f:=tSn) [(⟨((bds [a,b]).getD k 0),((bds [a,b]).getD (k+1) 0)⟩:Sn)] zgn el83 zf83 rfl (fun _=>inferInstance) rfl rfl rfl) rfl (RE (xb3 (k:=60) (k':=54) (f:=tSn) (ys:=[(⟨((bds [a,b]).getD k 0),((bds [a,b]).getD (k+1) 0)⟩:Sn)]) (ts':=rV tSn (xs++[(⟨((bds [a,b]).getD k 0),((bds [a,b]).getD (k+1) 0)⟩:Sn)])) zgn el83 zf83 rfl rfl (fun _=>inferInstance) xc0 (by simp;omega) (by simp;omega) (by simp [rV]) (n':=xs.length+1) rfl) qB qA qA (RE (xc1 (es:=1) (agg:=false) (e:= .own (.sl 54 2 0 (xs.length+1))) (0) ti57 rfl rfl rfl) qB qA trivial ?_));refine A2 ?_;exact zb3 (g':=fun _=>none) [6,60] (zab 60 54) zbd ((zbb rfl (zat x8.symm)) ((zbb rfl (zat (by rw [zbm];rfl))) zbe)) zar (zam rfl (supJ x6) (zam rfl (supJL rfl) zaz)) (lkOk rfl) rfl rfl (fun _ h=>by cases h) (xz0 ((xs++[(⟨((bds [a,b]).getD k 0),((bds [a,b]).getD (k+1) 0)⟩:Sn)])) ⟨by rw [qc7 (fun e=>by rw [<-e,h228] at h228_3;cases h228_3),<-hx],by rw [zbm];simp;omega⟩ SubK.refl (zam rfl (supJ x6) (zam rfl (supJL rfl) zaz)) (lkOk rfl))
   ·
    intro D hD xs hI;obtain ⟨hx,hxl⟩:=hI;have hdl:=zj2 (ls:=[a,b]);have htl:tlen [a,b]<=400000:=by simp [tlen];omega
    have hx:xs=dfT a b:=hx;have hall:=wi8 (zh2 hok.1 hok.2);refine A4 ?_;refine RE (Does.giveL (k:=60) (es:=2) (off:=0) (len:=xs.length) (xs:=xs) (f:=tSn) (ts:=rV tSn xs) (xa5 (ts:=[.own (.sl 60 2 0 xs.length)]) (0) ti57 rfl rfl) (fun _ h=>h) (xe9 rfl) rfl) qA qB trivial (R1 (xm0 (ts:=[_]) (r:=tT [tG (up w.heap.size) _,_]) (jj3 xs (by omega)) fi117 (fun m hm=>le_T ⟨xu6 hm,zao,trivial⟩) ⟨zao,trivial⟩ rfl) rfl ?_);refine A7 ?_;exact zw7 (Plain.loop Plain.mk' hD) rfl rfl rfl (Le.of (by rw [if_pos hok,hx,if_pos hall];rfl)) (zba (by rw [if_pos hok,hx,if_pos hall]))
   ·
    intro D hD e i;exact i.elim
theorem zn1 (f:Fa) (hD:f.v.f.dgs):
  Ct Tryz.prog 8 [tFa f] (tB (fRight f)):=by
 refine Ct.intro func8 rfl ntmps8 rfl ?_;intro w F;refine A11 ?_;refine R1 (z6 zgu) rfl ?_;refine A2 ?_;refine RGcaseD (t:=7) rfl (fun h23=> ?_) (fun h23=> ?_)
 ·
  refine A18 ?_;refine A18 ?_;refine A2 ?_;exact E1 rfl rfl (zau (by symm;rw [Bool.eq_false_iff];intro hr;simp only [fRight,zbv,zbw] at hr;first | omega | (simp_all;done) | (simp at*;omega)))
 ·
  refine A2 ?_;refine Rg (zbg h23) rfl (z6 zgu) rfl qA ?_;refine A3 ?_;refine RGcaseD (t:=13) rfl (fun h23_2=> ?_) (fun h23_2=> ?_)
  ·
   refine A18 ?_;refine A14 ?_;exact E1 rfl rfl (zau (by symm;rw [Bool.eq_false_iff];intro hr;simp only [fRight,zbv,zbw] at hr;first | omega | (simp_all;done) | (simp at*;omega)))
  ·
   refine A5 ?_;refine RGcaseD (t:=18) rfl (fun h23_3=> ?_) (fun h23_3=> ?_)
   ·
    refine A18 ?_;refine A9 ?_;exact E1 rfl rfl (zau (by symm;rw [Bool.eq_false_iff];intro hr;simp only [fRight,zbv,zbw] at hr;first | omega | (simp_all;done) | (simp at*;omega)))
   ·
    refine A7 ?_;refine RGcaseD (t:=25) rfl (fun h23_4=> ?_) (fun h23_4=> ?_)
    ·
     refine A18 ?_;refine A2 ?_;exact E1 rfl rfl (zau (by symm;rw [Bool.eq_false_iff];intro hr;simp only [fRight,zbv,zbw] at hr;first | omega | (simp_all;done) | (simp at*;omega)))
    ·
     refine A5 ?_;refine RGcaseD (t:=30) rfl (fun h23_5=> ?_) (fun h23_5=> ?_)
     ·
      refine A15 ?_;exact E1 rfl rfl (zau (by symm;rw [Bool.eq_false_iff];intro hr;simp only [fRight,zbv,zbw] at hr;first | omega | (simp_all;done) | (simp at*;omega)))
     ·
      refine A2 ?_;refine Rg (zbg h23_5) rfl (x4 (jg3 f.kn) fi35 rfl) rfl qA ?_;refine A4 ?_;refine xc7 rfl (fun h23_6=> ?_) (fun h23_6=> ?_)
      ·
       refine A7 ?_;exact E1 rfl rfl (zau (by symm;rw [Bool.eq_false_iff];intro hr;simp only [fRight,zbv,zbw] at hr;first | omega | (simp_all;done) | (simp at*;omega)))
      ·
       refine A9 ?_;refine xc7 rfl (fun h26=> ?_) (fun h26=> ?_)
       ·
        refine A4 ?_;refine R0 (xd3 (r:=tS [⟨1,false,(tE (.int .u8 0))⟩,⟨4,true,zad⟩,⟨1,false,(tE (.int .i64 0))⟩]) (ts:=[]) bu28 zr28.2 zao) (R2 (x4 (yq5 f.v An.va0) fi36 rfl) rfl rfl ?_);refine A5 ?_;exact E1 rfl rfl (zau (by rw [fRight];simp only [Bool.not_eq_false',zbv,zbw, *] at*;simp;omega))
       ·
        refine A6 ?_;refine R1 (x4 (zk1 f.v hD) fi37 rfl) rfl ?_;refine A4 ?_;exact E1 rfl rfl (zau (by rw [fRight];simp only [Bool.not_eq_false',zbv,zbw, *] at*;simp;omega))
theorem qw1 (f:Fa) (hD:f.v.f.dgs):
  Ct Tryz.prog 42 [tFa f] (tB (!fRight f)):=by
 refine Ct.intro func42 rfl ntmps42 rfl ?_;intro w F;refine A9 ?_;refine R1 (x4 (zn1 f hD) fi8 rfl) rfl ?_;refine A5 ?_;exact E1 rfl rfl zao
theorem qs4 (a:List Fa) (hD: ∀f∈a,f.v.f.dgs):
  Ct Tryz.prog 73 [tL 11 true tFa a,tE (.func (.func 42) #[] #[])] (tI (ixA (fun f:Fa=> !fRight f) a)):=by
 refine Ct.intro func73 rfl ntmps73 rfl ?_;intro w F;refine xg9 (s:=0) rfl (fun hl0=> ?_);refine A14 ?_;refine cL (fun (i:Nat)=>i<=a.length/\(a.take i).any (fun f:Fa=> !fRight f)=false) (fun (i:Nat)=>uV (uV (uV (uV uN 0 (tL 11 true tFa a)) 1 (tE (.func (.func 42) #[] #[]))) 7 (tI a.length)) 8 (tI i)) (fun (i:Nat)=>fun _=>none) [] (fun (i:Nat)=>a.length - i) (0) ⟨zbt _,rfl⟩ ?_;intro i hI;obtain ⟨hi,ha⟩:=hI;refine A6 ?_;refine x9 rfl (fun h108=> ?_) (fun h108=> ?_)
 ·
  refine A15 ?_;refine R2 (x5 sl33 (i) (by omega) (zai (l:=a) (n:=i) (d:=fa0))) rfl rfl ?_;refine A1 ?_;refine R2 (xq0 (qw1 (a.getD i fa0) (hD _ (xe4 (by omega)))) fi42 rfl) rfl rfl ?_;refine A2 ?_;refine xc7 rfl (fun h109=> ?_) (fun h109=> ?_)
  ·
   refine A12 ?_;exact E1 rfl rfl (zba (qz7 (by omega) ha h109))
  ·
   refine A7 ?_;exact kF (i+1) ⟨⟨by omega,by rw [jm9 (by omega),ha,h109];rfl⟩,(by omega)⟩
 ·
  refine A11 ?_;exact E1 rfl rfl (zba (wh1 (by rw [<-ha,show i=a.length by omega,zcf])))
theorem zp9 (a:List Fa) (hD: ∀f∈a,f.v.f.dgs):
  Ct Tryz.prog 41 [tL 11 true tFa a,tE (.func (.func 42) #[] #[])] (tB (a.any (fun f:Fa=> !fRight f))):=by
 refine Ct.intro func41 rfl ntmps41 rfl ?_;intro w F;refine A9 ?_;refine R2 (x4 (qs4 a hD) fi73 rfl) rfl rfl ?_;refine A5 ?_;exact E1 rfl rfl (zau wd0)
theorem xk1 (a:List Fa) (hD: ∀f∈a,f.v.f.dgs):
  Ct Tryz.prog 11 [tL 11 true tFa a] (tB (recOk a)):=by
 refine Ct.intro func11 rfl ntmps11 rfl ?_;intro w F;refine xg9 (s:=0) rfl (fun hl0=> ?_);refine A12 ?_;refine RGcaseD (t:=8) rfl (fun h47=> ?_) (fun h47=> ?_)
 ·
  refine A13 ?_;exact E1 rfl rfl (zau (by symm;rw [Bool.eq_false_iff];intro hr;simp only [recOk,zbv,zbw] at hr;first | omega | (rw [yz3,hr.1.2] at h47_2;cases h47_2)))
 ·
  refine A1 ?_;refine Rg (zbg h47) rfl (x4 (zp9 a hD) fi41 rfl) rfl qB ?_;refine A3 ?_;refine xc7 rfl (fun h47_2=> ?_) (fun h47_2=> ?_)
  ·
   refine A7 ?_;exact E1 rfl rfl (zau (by symm;rw [Bool.eq_false_iff];intro hr;simp only [recOk,zbv,zbw] at hr;first | omega | (rw [yz3,hr.1.2] at h47_2;cases h47_2)))
  ·
   refine A5 ?_;refine R1 (x4 (qp6 a) fi43 rfl) rfl ?_;refine A14 ?_;exact E1 rfl rfl (zau (by rw [recOk];rw [yz3] at*;rw [zbf (by omega)];simp_all))
theorem qr5: ∀{l:List Tst},ascT l-> ∀s∈l,valT l s.lo=some s.v
 | [],_,s,hs=>by cases hs
 | t::r,h,s,hs=>by
  have hp:=zcg.1 h.2;rw [xe2];rcases zbr.1 hs with rfl | hs
  ·rw [if_pos ⟨zea _,h.1 s (zby ..)⟩]
  ·have:=hp.1 s hs;rw [if_neg (by omega)];exact qr5 ⟨fun x hx=>h.1 x (zcd _ hx),hp.2⟩ s hs
theorem jn3 {a:List Fa} {key:ByteArray} {kn:Int} (hs: ∀f∈a,f.v.f.dgs): ∀s∈vwT (toldT a key kn),s.v.f.dgs:=fun s hs2=>by
 have h5:=qr5 (xn9 _).1 s hs2;rw [xi9] at h5;obtain ⟨f,hf,_,e,_⟩:=yp3 h5;rw [<-e];exact hs f (xk5 hf).1
end An.S
namespace An
open Go
def tEx {ι:Type} (I:ι->Prop) (r:ι->Ty):Ty:=⟨fun F w v=> ∃i,I i/\(r i).p F w v,fun ⟨i,h1,h2⟩ hk=>⟨i,h1,(r i).mono h2 hk⟩⟩
structure Hd where
  A:Option Addr
  n:Nat
  c:Nat
abbrev Hd.v (u:Hd):Value:= .slice u.A u.n u.c
def Hd.b (u:Hd):Option Nat:=match u.A with
 | some A=>if 0 < u.c then some A.block else none
 | none=>none
abbrev tH (u:Hd):Ty:=tE u.v
def tLmX (T:Nat) (u:Hd) (l:List Nat):Ty:=
  ⟨fun F w v=>v=u.v/\u.n=l.length/\u.n<=u.c/\u.c<=9223372036854775807/\(0 < u.c-> ∃b cs,u.A=some ⟨b,0,none⟩/\F b/\w.heap[b]? =some (.cells cs T (0,0))/\cs.size=u.c/\ ∀(i x:Nat),l[i]? =some x->cs.getD i undef= .int .u16 (x:Int)),
   fun ⟨h1,h2,h3,h4,h5⟩ hk=>⟨h1,h2,h3,h4,fun hc=>by
     obtain ⟨b,cs,e1,e2,e3,e4,e5⟩:=h5 hc;obtain ⟨k1,k2⟩:=hk b _ e2 e3 rfl;exact ⟨b,cs,e1,k1,k2,e4,e5⟩⟩⟩
theorem lmX_le {T:Nat} {u:Hd} {l:List Nat}:Le (tLmX T u l) (tLm l):=fun F w v ⟨h1,h2,h3,h4,h5⟩=>⟨u.A,u.c,by rw [h1,<-h2],by omega,h4,by
 cases l with
 | nil=>exact .inl rfl
 | cons y r=>
  obtain ⟨b,cs,e1,e2,e3,e4,e5⟩:=h5 (by simp at h2;omega);refine .inr ⟨b,0,e1,e2,fun i x hi=>⟨.int .u16 x,⟨cs,T,(0,0),e3,?_,by omega,fun _=>rfl,?_⟩,rfl⟩⟩
  ·have:=(zbo.1 hi).1;omega
  ·simp only [pick,zdy,zcn,zdr];exact (e5 i x hi).symm⟩
theorem lmX_h {T:Nat} {u:Hd} {l:List Nat}:Le (tLmX T u l) (tH u):=fun _ _ _ h=>h.1
instance {T:Nat} {u:Hd} {l:List Nat}:Shape (tLmX T u l) 1 false:=⟨fun ⟨h1,_⟩=>by rw [h1];exact xd2 rfl⟩
instance {u:Hd}:Shape (tH u) 1 false:=⟨fun h=>by have h:_=_:=h;rw [h];exact xd2 rfl⟩
theorem qk3 {T:Nat} {u:Hd} {l:List Nat} {F:Dom} {w:World} {v:Value} (h:(tLmX T u l).p F w v) {b:Nat} (hb:u.b=some b):F b/\ ∃cs,w.heap[b]? =some (.cells cs T (0,0)):=by
 obtain ⟨_,h2,h3,h4,h5⟩:=h;by_cases hc:0 < u.c
 ·obtain ⟨b',cs,e1,e2,e3,_⟩:=h5 hc;simp only [Hd.b,e1,if_pos hc,zck] at hb;subst hb;exact ⟨e2,cs,e3⟩
 ·cases hA:u.A <;> simp [Hd.b,hA,hc] at hb
def Its (T:Nat) (t:Ty) (us:List (Hd×List Nat)):Prop:= ∀F w v,t.p F w v-> ∀u∈us,(tLmX T u.1 u.2).p F w u.1.v
theorem Its.lm {T:Nat} {u:Hd} {l:List Nat}:Its T (tLmX T u l) [(u,l)]:=fun F w v h u' hu=>by
 cases zbj.1 hu;exact ⟨rfl,h.2⟩
theorem Its.app {T:Nat} {t:Ty} {us us':List (Hd×List Nat)} (h:Its T t us) (h':Its T t us'):Its T t (us++us'):=fun F w v hp u hu=>by
 rcases zbp.1 hu with hu | hu
 ·exact h F w v hp u hu
 ·exact h' F w v hp u hu
theorem Fd.all_at {F:Dom} {w:World} {cs:Array Value}: ∀{fs:List Fd} {o i:Nat} {f:Fd},fs[i]? =some f->Fd.all F w cs o fs-> ∃v,f.t.p F w v
 | [],_,_,_,h,_=>by simp at h
 | g::r,o,0,f,h,ha=>by cases h;exact ⟨_,ha.1.2⟩
 | g::r,o,i+1,f,h,ha=>Fd.all_at (fs:=r) (by simpa using h) ha.2
theorem Its.fd {T:Nat} {fs:List Fd} {us:List (Hd×List Nat)} (i:Nat) {f:Fd} (hi:fs[i]? =some f) (h:Its T f.t us):Its T (tS fs) us:=fun F w v ⟨cs,_,_,h3⟩ u hu=>by
 obtain ⟨v',hv⟩:=Fd.all_at hi h3;exact h F w v' hv u hu
section
variable {P:Program} {c:Base} {g:Slots} {h:Keys} {al:Names}
def ItSt (T:Nat) (c:Base) (g:Slots) (h:Keys) (us:List (Hd×List Nat)):Prop:= ∀al a w η,St' c g h al a w η-> ∀u∈us,(tLmX T u.1 u.2).p (c.dom h η) w u.1.v
theorem ItSt.app {T:Nat} {us us':List (Hd×List Nat)} (h1:ItSt T c g h us) (h2:ItSt T c g h us'):ItSt T c g h (us++us'):=fun al a w η s u hu=>by
 rcases zbp.1 hu with hu | hu
 ·exact h1 al a w η s u hu
 ·exact h2 al a w η s u hu
theorem ItSt.key {T k T0 es:Nat} {agg:Bool} {α:Type} {f:α->Ty} {zs:List α} {us:α->List (Hd×List Nat)} (hk:h k=some ⟨T0,es,agg,rV f zs⟩) (ht: ∀z∈zs,Its T (f z) (us z)):ItSt T c g h (zs.flatMap us):=fun al a w η st u hu=>by
 obtain ⟨z,hz,hu⟩:=zcc.1 hu;obtain ⟨i,hi,rfl⟩:=List.getElem_of_mem hz;obtain ⟨_,_,⟨h3,_,_,_,h7⟩,_⟩:=st.key k _ hk;have hc:0 < η.c k:=by simp only [rV,zch] at h3;omega
 obtain ⟨cs,_,_,m⟩:=h7 hc;exact ht _ (zfa hi) _ _ _ (m i (.val (f zs[i])) (by simp [rV,hi])) u hu
def WitSt (c:Base) (g:Slots) (h:Keys) (us:List Hd):Prop:= ∀al a w η,St' c g h al a w η-> ∀u∈us,∀b,u.b=some b->c.dom h η b/\b < w.heap.size
theorem ItSt.wit {T:Nat} {us:List (Hd×List Nat)} {vs:List Hd} (hs:ItSt T c g h us) (e:us.map (·.1)=vs):WitSt c g h vs:=fun al a w η st u hu b hb=>by
 subst e;obtain ⟨u',h1,rfl⟩:=zci.1 hu;obtain ⟨h2,cs,h3⟩:=qk3 (hs al a w η st u' h1) hb;exact ⟨h2,xa7 h3⟩
theorem WitSt.nil:WitSt c g h []:=fun _ _ _ _ _ _ hu=>by cases hu
theorem WitSt.app {us us':List Hd} (h1:WitSt c g h us) (h2:WitSt c g h us'):WitSt c g h (us++us'):=fun al a w η s u hu=>by
 rcases zbp.1 hu with hu | hu
 ·exact h1 al a w η s u hu
 ·exact h2 al a w η s u hu
def SepH (us:List Hd):Prop:=us.Pairwise fun u v=> ∀b,u.b=some b->v.b≠some b
def NewH (n:Nat) (us:List Hd):Prop:= ∀u∈us,∀b,u.b=some b->n<=b
def OldH (n:Nat) (us:List Hd):Prop:= ∀u∈us,∀b,u.b=some b->b < n
theorem SepH.app {us vs:List Hd} {n:Nat} (h1:SepH us) (h2:SepH vs) (ho:OldH n us) (hn:NewH n vs):SepH (us++vs):=zec.2 ⟨h1,h2,fun u hu v hv b hb hb'=>by have:=ho u hu b hb;have:=hn v hv b hb';omega⟩
theorem NewH.app {n:Nat} {us vs:List Hd} (h1:NewH n us) (h2:NewH n vs):NewH n (us++vs):=fun u hu=>by
 rcases zbp.1 hu with hu | hu
 ·exact h1 u hu
 ·exact h2 u hu
theorem NewH.le {n m:Nat} {us:List Hd} (h1:NewH n us) (h2:m<=n):NewH m us:=fun u hu b hb=>zdc h2 (h1 u hu b hb)
variable {A:Array Oper} {Q:Exit->Act->World->Prop} {rest:List Oper} {d ty:Nat} {pos:String} {af:Array Edge}
theorem zw1 {ι:Type} {I:Nat->ι->Prop} {r:ι->Ty} {f:FuncId} {xs:List Operand} {aT:Array TypeId} {ts us:List Ty} (hs:List Hd) (hc:CtN P f us (fun n=>tEx (I n) r)) (hf:FnI P f) (hle:LeL ts us) (hl:xs.length=ts.length) (hr:Rd g (xs.zip (ts.map Ent.val))) (hw:WitSt c g h hs) (hdN:Nat.blt d c.N=true)
  (H: ∀i n,c.w0.heap.size<=n->OldH n hs->I n i->wl P c A Q rest (upd g d (some (.val (r i)))) h al):
  wl P c A Q (⟨some d,.call {callee:= .value (.func f),args:=xs.toArray,argTypes:=aT},ty,pos,af,none⟩::rest) g h al:=by
 rintro a w ⟨η,s⟩;unfold wpListIn;rw [if_pos (by rfl)];obtain ⟨fn,h1,h2,h3⟩:=hf;have hargs:=hle.all (Tup.all_of s xs ts hr hl);have hrun:(execOp a.eval ⟨some d,.call {callee:= .value (.func f),args:=xs.toArray,argTypes:=aT},ty,pos,af,none⟩).run P w= .ok (.enter f (xs.map a.eval).toArray) w:=by
  simp only [execOp,resolve,Act.eval,Deferred.ofValue,zbu,zbx,zbn,invoke];simp only [zdu,zdj,zcs];exact xd1 h1 h2 h3 _ w
 refine xe6 hrun (zei (hc _ w (xs.map a.eval) hargs) ?_);rintro e w' ⟨v,rfl,hext,i,hI,hv⟩;refine ⟨v,rfl,H i w.heap.size s.fr.size (fun u hu b hb=>(hw al a w η s u hu b hb).2) hI _ _ ⟨η,(s.ext hext).put (by simpa using hdN) (e:= .val (r i)) ((r i).mono hv fun b o hb hl _=>⟨?_,hl⟩) (fun k hk=>by cases hk)⟩⟩;rcases hb with hb | hb
 ·exact yf2 s hb
 ·exact hb
end
theorem CtN.exact {P:Program} {f:FuncId} {t:Ty} {k T n:Nat} {l:List Nat} (h:CtG P f [] [.val t] (.own (.sl k 1 0 n)) [(k,⟨T,1,false,rW .u16 l⟩)] [k]) (hl:l.length=n):CtN P f [t] (fun nw=>tEx (fun u=>NewH nw [u]) (fun u=>tLmX T u l)):=by
 intro F w vs hvs;cases vs with
 | nil=>exact hvs.elim
 | cons v r=>
  cases r with
  | cons _ _=>exact hvs.2.elim
  | nil=>
   refine zei (h F w ⟨fun _=>0,fun _=>0,fun _=>False⟩ [v] ⟨hvs.1,trivial⟩ (fun x hx=>by cases hx) (fun x hx=>by cases hx) (fun b _ hb=>by obtain ⟨x,hx,_⟩:=hb;cases hx)) ?_;rintro e w' ⟨u,η',he,ho⟩;obtain ⟨A,h1,h2,h3⟩:=ho.res;have hk:=ho.keys _ (zbj.2 rfl);obtain ⟨k1,k2,k3,k4,k5⟩:=hk;simp only [Nat.sub_zero,zcn,zef] at h1 h2 h3;refine ⟨u,he,⟨ho.stp.os,ho.stp.tape,ho.stp.output,ho.stp.size,fun b hb=>ho.stp.block b hb fun hk=>by obtain ⟨x,hx,_⟩:=hk;cases hx⟩,⟨A,n,η'.c k⟩,?_⟩;have hnew:0 < η'.c k->w.heap.size<=η'.b k:=fun hc=>by
    rcases ho.new (η'.b k) ⟨_,zbj.2 rfl,hc,rfl⟩ with hh | hh
    ·obtain ⟨x,hx,_⟩:=hh;cases hx
    ·exact hh
   refine ⟨fun u' hu b hb=> ?_,h1,hl.symm,h2,k4,fun hc=> ?_⟩
   ·cases zbj.1 hu;by_cases hc:0 < η'.c k
    ·have hA:=h3 hc;simp only [Hd.b,hA,if_pos hc,zck] at hb;subst hb;exact hnew hc
    ·cases A <;> simp [Hd.b,hc] at hb
   ·obtain ⟨cs,m1,m2,m3⟩:=k5 hc;refine ⟨η'.b k,cs,h3 hc,.inl (hnew hc),m1,by rw [m2];simp,fun i x hi=> ?_⟩;have hm:pick false 1 cs (i*1)= .int .u16 (x:Int):=m3 i (.val (tE (.int .u16 (x:Int)))) (by simp [rW,hi]);simpa [pick] using hm
theorem LeavesIn.mono' {F:Fence} {n:Nat} {P:Program} {fn:Func} {tmps:Array Value} {R R':Ending->World->Prop} (h: ∀e w,R e w->R' e w): ∀(ds:List Deferred) (u:FrameMode) (w:World),LeavesIn F n P fn tmps R ds u w->LeavesIn F n P fn tmps R' ds u w
 | [],.returning,_,⟨v,h1,h2⟩=>⟨v,h1,h _ _ h2⟩
 | [],.panicking _,_,hh=>h _ _ hh
 | [],.run,_,hh=>hh
 | _::ds,_,_,⟨a,b,fv,cap,f,args,h1,h2,h3,h4⟩=>⟨a,b,fv,cap,f,args,h1,h2,h3,CallsDIn.mono h4 fun e u' w' hh=>by
   cases e with
   | returned _=>exact LeavesIn.mono' h ds _ w' hh
   | panicked _=>exact LeavesIn.mono' h ds _ w' hh
   | outgrown=>exact h _ _ hh⟩
theorem LeavesInM.mono' {F:Fence} {n:Nat} {P:Program} {fn:Func} {tmps:Array Value} {R R':Ending->World->Prop} (h: ∀e w,R e w->R' e w): ∀(ds:List Deferred) (u:FrameMode) (w:World),LeavesInM F n P fn tmps R ds u w->LeavesInM F n P fn tmps R' ds u w
 | [],u,w,hh=>LeavesIn.mono' h [] u w hh
 | _::ds,_,_,⟨h0,hh⟩=>⟨h0,hh.imp (fun ⟨r,w',h1,h2,h3⟩=>⟨r,w',h1,h2,LeavesInM.mono' h ds _ w' h3⟩) fun ⟨a,fv,cap,f,args,h1,h2,h3,h4⟩=>⟨a,fv,cap,f,args,h1,h2,h3,CallsDIn.mono h4 fun e u' w' hh=>by
   cases e with
   | returned _=>exact LeavesInM.mono' h ds _ w' hh
   | panicked _=>exact LeavesInM.mono' h ds _ w' hh
   | outgrown=>exact h _ _ hh⟩⟩
theorem PostR.mono {P:Program} {fn:Func} {R R':Value->World->Prop} (h: ∀v w,R v w->R' v w) {e:Exit} {a:Act} {w:World} (hp:PostR P fn R e a w):PostR P fn R' e a w:=by
 have hh: ∀(e:Ending) w,(∃v,e= .returned v/\R v w)-> ∃v,e= .returned v/\R' v w:=fun e w ⟨v,h1,h2⟩=>⟨v,h1,h v w h2⟩
 cases e with
 | normal=>exact LeavesInM.mono' hh _ _ _ hp
 | ret=>exact LeavesInM.mono' hh _ _ _ hp
 | panic c=>exact LeavesInM.mono' hh _ _ _ hp
 | outgrown=>exact hh _ _ hp
 | _=>exact hp
def CtX (P:Program) (f:FuncId) (H:List (Nat×HEnt)) (ps:List Ent) {ι:Type} (R:Nat->ι->Prop) (re:ι->Ent) (H':ι->List (Nat×HEnt)) (nn:List Nat):Prop:=
 ∀(F:Dom) (w:World) (η:Env) (vs:List Value),SatL F w η ps vs->AllK F w η H->InjK η H->(∀b,F b-> ¬OwnK η H b)->
  Calls P f vs.toArray w fun e w'=> ∃i v η',R w.heap.size i/\e= .returned v/\Out F w η H (re i) (H' i) nn v w' η'
def PostX (P:Program) (w:World) (F:Dom) (η:Env) (fn:Func) (H:List (Nat×HEnt)) {ι:Type} (R:Nat->ι->Prop) (re:ι->Ent) (H':ι->List (Nat×HEnt)) (nn:List Nat):Exit->Act->World->Prop:=PostR P fn fun v w'=> ∃η' i,R w.heap.size i/\Out F w η H (re i) (H' i) nn v w' η'
section
variable {P:Program} {c:Base} {g:Slots} {h:Keys} {al:Names}
theorem CtX.intro {f:FuncId} {fn:Func} {x:Code} {N:Nat} {H:List (Nat×HEnt)} {ps:List Ent} {ι:Type} {R:Nat->ι->Prop} {re:ι->Ent} {H':ι->List (Nat×HEnt)} {nn:List Nat} (l0:List Nat) (hf:P.funcs[f]? =some fn) (hb:fn.body=some x) (hN:fn.ntmps=N) (hlb:Nat.ble ps.length N=true) (hl0:subN (suppE ps) l0=true) (hlH:SupHs H l0)
  (hw: ∀w F η,wc P (Base.lent N w F η l0 H) x (PostX P w F η fn H R re H' nn) (argsE 0 ps) (keysOf H) (nm l0)):CtX P f H ps R re H' nn:=by
 intro F w η vs hvs hK hinj hF;have hl:ps.length<=N:=zdo hlb;have hlen:=hvs.len;have hmem: ∀k∈suppE ps++suppH H,k∈l0:=fun k hk=>by
  rcases zbp.1 hk with hk | hk
  ·exact xe8 hl0 k hk
  ·exact hlH.spec k hk
 refine zei (xh6 (R:=fun v w'=> ∃η' i,R w.heap.size i/\Out F w η H (re i) (H' i) nn v w' η') hf hb (hw w F η _ w ⟨⟨η.b,η.c,fun _=>False⟩,?_⟩)) (fun e w' ⟨v,he,η',i,hi,ho⟩=>⟨i,v,η',hi,he,ho⟩);have hKp:Keep F ((Base.lent N w F η l0 H).dom (keysOf H) ⟨η.b,η.c,fun _=>False⟩) w w:=fun b o hb hl _=>⟨⟨.inr ⟨hb,hF b hb⟩,fun ⟨k,x,hk,hc,e⟩=>hF b hb ⟨(k,x),xd4 hk,hc,e⟩,fun hv=>hv,fun hv=>hv⟩,hl⟩
 refine ⟨?_,rfl,fun s e hs=> ?_,fun k x hx=> ?_,fun k k' x x' hx hx' hne hc hc'=> ?_,⟨rfl,rfl,rfl,zbq _,fun _ _ _ _=>rfl,fun _ hb=>hb,fun _ hb=>hb.elim⟩,fun k hk=>⟨xb2.2 hk,rfl,rfl⟩,fun x hx=>(by cases hx),fun b hb=>hb.elim,fun k hk=>(by cases hk),fun k x hk=>(by cases hk),fun b hb=> ?_⟩
 ·simp [hlen,hN,Base.lent];omega
 ·obtain ⟨j,h1,h2⟩:=xp5 ps 0 s e hs;have hj:j < ps.length:=(zbo.1 h2).1;obtain ⟨v,hv,hp⟩:=SatL.get ps vs j e hvs h2;refine ⟨by show s < N;omega,fun k hk=>xb2.2 (hmem k (zbp.2 (.inl (zcc.2 ⟨e,zdw h2,hk⟩)))),?_⟩;have e1:(vs.toArray++Array.replicate (fn.ntmps - vs.toArray.size) undef).getD s undef=v:=by
   rw [zbk,zfh,if_pos (by simp;omega)];rw [h1,zcn,zer,hv];rfl
  simp only [e1];exact Ent.sat_go hp hKp fun _ _=>⟨rfl,rfl⟩
 ·have hm:=xd4 hx;exact ⟨xb2.2 (hmem k (zbp.2 (.inr (zcc.2 ⟨_,hm,by simp⟩)))),fun j hj=>xb2.2 (hmem j (zbp.2 (.inr (zcc.2 ⟨_,hm,by simp [hj]⟩)))),
   HEnt.sat_go (hK _ hm) (fun _=>rfl) hKp ⟨rfl,rfl⟩ fun _ _=>⟨rfl,rfl⟩,fun hc=>⟨.inr ⟨_,hm,hc,rfl⟩,fun hv=>hv,fun hv=>hv⟩⟩
 ·exact hinj _ (xd4 hx) _ (xd4 hx') hne hc hc'
 ·obtain ⟨x,hx,hc,rfl⟩:=hb;exact HEnt.lt (hK x hx) hc
theorem E_X {fn:Func} {w0:World} {F:Dom} {η0:Env} {H:List (Nat×HEnt)} {ι:Type} {R:Nat->ι->Prop} {re:ι->Ent} {H':ι->List (Nat×HEnt)} {nn:List Nat} {e:Exit} (i:ι) (hR:R w0.heap.size i) (hk:wk c e (PostG P w0 F η0 fn H (re i) (H' i) nn) g h al):wk c e (PostX P w0 F η0 fn H R re H' nn) g h al:=
 fun a w s=>PostR.mono (fun _ _ ⟨η',ho⟩=>⟨η',i,hR,ho⟩) (hk a w s)
theorem Kr.ren {ρ:Nat->Nat}: ∀{H:List (Nat×HEnt)},Kr h (H.map fun x=>(ρ x.1,x.2.ren ρ))-> ∀x∈H,h (ρ x.1)=some (x.2.ren ρ)
 | y::r,hr,x,hx=>by
  rcases zbr.1 hx with rfl | hx
  ·exact hr.1
  ·exact Kr.ren (H:=r) hr.2 x hx
theorem Nk.ren {ρ:Nat->Nat}: ∀{l:List Nat},Nk al (l.map ρ)-> ∀n∈l,al (ρ n)=false
 | y::r,hr,n,hn=>by
  rcases zbr.1 hn with rfl | hn
  ·exact hr.1
  ·exact Nk.ren (l:=r) hr.2 n hn
variable {A:Array Oper} {Q:Exit->Act->World->Prop} {rest:List Oper} {d ty:Nat} {pos:String} {af:Array Edge}
theorem jp9 {f:FuncId} {xs:List Operand} {aT:Array TypeId} {H h1:List (Nat×HEnt)} {ps:List Ent} {ι:Type} {R:Nat->ι->Prop} {re:ι->Ent} {H' h2:ι->List (Nat×HEnt)} {nn:List Nat} (hs:List Hd) (ρ:Nat->Nat) (hc:CtX P f H ps R re H' nn) (hf:FnI P f) (hl:xs.length=ps.length)
  (e1:H.map (fun x=>(ρ x.1,x.2.ren ρ))=h1) (e2: ∀i,(H' i).map (fun x=>(ρ x.1,x.2.ren ρ))=h2 i) (hsH: ∀i,SupHs (H' i) (nn++(suppE ps++H.map (·.1)))) (hij:injN ρ (H.map (·.1))=true) (hok: ∀i,gB ρ H (H' i) (re i) ps nn c.yk=true)
  (hr:Rd g (xs.zip (ps.map (Ent.ren ρ)))) (hkr:Kr h h1) (hnk:Nk al (nn.map ρ)) (hw:WitSt c g h hs) (hdN:Nat.blt d c.N=true)
  (HH: ∀i n,c.w0.heap.size<=n->OldH n hs->R n i->wl P c A Q rest (upd g d (some ((re i).ren ρ))) (updK h (H.map (fun x=>(ρ x.1,none))++(h2 i).map (fun x=>(x.1,some x.2)))) (fun j=>memN j (nn.map ρ) || al j)):
  wl P c A Q (⟨some d,.call {callee:= .value (.func f),args:=xs.toArray,argTypes:=aT},ty,pos,af,none⟩::rest) g h al:=by
 rintro a w ⟨η,s⟩;unfold wpListIn;rw [if_pos (by rfl)];obtain ⟨fn,f1,f2,f3⟩:=hf;obtain ⟨hsat,hal⟩:=SatL.of s xs ps hr hl;have hrun:(execOp a.eval ⟨some d,.call {callee:= .value (.func f),args:=xs.toArray,argTypes:=aT},ty,pos,af,none⟩).run P w= .ok (.enter f (xs.map a.eval).toArray) w:=by
  simp only [execOp,resolve,Act.eval,Deferred.ofValue,zbu,zbx,zbn,invoke];simp only [zdu,zdj,zcs];exact xd1 f1 f2 f3 _ w
 subst e1;have hH':=Kr.ren hkr;have hnn:=Nk.ren hnk;have hall:AllK (c.dom h η) w (η.pre ρ) H:=fun x hx=>HEnt.sat_ren.1 (s.key _ _ (hH' x hx)).2.2.1;have hps: ∀k∈suppE ps,al (ρ k)=true:=fun k hk=>hal _ (xn4 hk);refine xe6 hrun (zei (hc (c.dom h η) w (η.pre ρ) (xs.map a.eval) hsat hall (fun x hx y hy hne hcx hcy=> ?_) (fun b hb ho=> ?_)) ?_)
 ·exact s.inj (ρ x.1) (ρ y.1) _ _ (hH' x hx) (hH' y hy) (xm4 hij x.1 y.1 (zcz hx) (zcz hy) hne) hcx hcy
 ·obtain ⟨x,hx,hcx,rfl⟩:=ho;exact hb.2.1 ⟨ρ x.1,_,hH' x hx,hcx,rfl⟩
 ·rintro e w' ⟨i,v,η',hR,rfl,hout⟩;have hok:=hok i;simp only [gB,zbv] at hok;obtain ⟨s',hres⟩:=s.back ρ hH' hout hnn hok.1.1.1 (fun k hk=>by
   have hm:k∈nn++(suppE ps++H.map (·.1)):=by
    rcases zbp.1 hk with hk | hk
    ·exact xe8 hok.1.2 k hk
    ·exact (hsH i).spec k hk
   rw [zbp,zbp] at hm;rcases hm with hm | hm | hm
   ·exact .inl hm
   ·exact .inr (hps k hm)
   ·right;obtain ⟨x,hx,rfl⟩:=zci.1 hm;exact (s.key _ _ (hH' x hx)).1) hok.2
  refine ⟨v,rfl,?_⟩;rw [yg1 (e2 i)] at s' hres;refine HH i w.heap.size s.fr.size (fun u hu b hb=>(hw al a w η s u hu b hb).2) hR _ _ ⟨_,s'.put (by simpa using hdN) hres fun k hk=> ?_⟩
  revert hk
  generalize hre:re i=ree at*
  intro hk;cases ree with
  | val t=>cases hk
  | own p=>
   obtain ⟨j,hj,rfl⟩:=VP.ren_supp1 p k hk;have hm:=xe8 hok.1.2 j hj;rw [zbp,zbp] at hm;rcases hm with hm | hm | hm
   ·rw [xb2.2 (zcz hm)];rfl
   ·rw [hps j hm,Bool.or_true]
   ·obtain ⟨x,hx,rfl⟩:=zci.1 hm;rw [(s.key _ _ (hH' x hx)).1,Bool.or_true]
end
def XI (T:Nat) (V:Dom) (us:List (Hd×List Nat)):OvJ where
 D:=fun b=>V b∨ ∃u∈us,u.1.b=some b
 J:=fun n w=>n=0-> ∀u∈us,(tLmX T u.1 u.2).p (fun b=> ∃u∈us,u.1.b=some b) w u.1.v
 loc:=fun _ _ _ hJ _ hb h0 u hu=>(tLmX T u.1 u.2).mono (hJ h0 u hu) fun b _ hF hl _=>⟨hF,(hb b (.inr hF) (xa7 hl)).trans hl⟩
def Wk (e e':Ent):Prop:=(e'=e/\((∃k o,e= .own (.ptr k o))∨ ∃k es o l,e= .own (.sl k es o l)))∨ ∃t t',e= .val t/\e'= .val t'/\Le t t'/\Free t'
theorem Wk.ptr {k o:Nat}:Wk (.own (.ptr k o)) (.own (.ptr k o)):= .inl ⟨rfl,.inl ⟨k,o,rfl⟩⟩
theorem Wk.sl {k es o l:Nat}:Wk (.own (.sl k es o l)) (.own (.sl k es o l)):= .inl ⟨rfl,.inr ⟨k,es,o,l,rfl⟩⟩
theorem Wk.val {t t':Ty} (h:Le t t') (hf:Free t'):Wk (.val t) (.val t'):= .inr ⟨t,t',rfl,rfl,h,hf⟩
theorem Wk.supp {e e':Ent} (h:Wk e e'): ∀k∈e'.supp,k∈e.supp:=fun k hk=>by
 rcases h with ⟨rfl,_⟩ | ⟨_,_,_,rfl,_⟩
 ·exact hk
 ·cases hk
theorem Wk.sat {e e':Ent} (h:Wk e e') {F F':Dom} {w w':World} {η η':Env} {v:Value} (hs:e.sat F w η v) (hη:η'.b=η.b/\η'.c=η.c):e'.sat F' w' η' v:=by
 obtain ⟨h1,h2⟩:=hη;rcases h with ⟨rfl,⟨k,o,rfl⟩ | ⟨k,es,o,l,rfl⟩⟩ | ⟨t,t',rfl,rfl,hl,hf⟩
 ·have hs:v= .pointer (some ⟨η.b k,o,none⟩):=hs;show v= .pointer (some ⟨η'.b k,o,none⟩);rw [h1];exact hs
 ·obtain ⟨A,e1,e2,e3⟩:=hs;exact ⟨A,by rw [h2];exact e1,by rw [h2];exact e2,by rw [h1,h2];exact e3⟩
 ·exact hf _ _ _ _ _ (hl _ _ _ hs)
def SlW (g g':Slots):Prop:= ∀s e',g' s=some e'-> ∃e,g s=some e/\Wk e e'
theorem SlW.nil {g:Slots}:SlW g (fun _=>none):=fun _ _ h=>by cases h
theorem SlW.cons {g g':Slots} {s:Nat} {e e':Ent} (hs:g s=some e) (hl:Wk e e') (hr:SlW g g'):SlW g (upd g' s (some e')):=fun s' e1 he=>by
 by_cases hss:s'=s
 ·subst hss;rw [x7] at he;cases he;exact ⟨e,hs,hl⟩
 ·rw [x3 _ _ _ hss] at he;exact hr s' e1 he
def WkL (ts ts':List Ent):Prop:=ts'.length=ts.length/\ ∀(i:Nat) (e':Ent),ts'[i]? =some e'-> ∃e:Ent,ts[i]? =some e/\Wk e e'
def KyW (h h':Keys):Prop:= ∀(k:Nat) (x':HEnt),h' k=some x'-> ∃x:HEnt,h k=some x/\x'.T=x.T/\x'.es=x.es/\x'.agg=x.agg/\WkL x.ts x'.ts
theorem KyW.nil {h:Keys}:KyW h (fun _=>none):=fun _ _ h=>by cases h
theorem KyW.cons {h h':Keys} {k T es:Nat} {agg:Bool} {ts ts':List Ent} (hs:h k=some ⟨T,es,agg,ts⟩) (ht:WkL ts ts') (hr:KyW h h'):KyW h (upd h' k (some ⟨T,es,agg,ts'⟩)):=fun k' x' hx=>by
 by_cases hkk:k'=k
 ·subst hkk;rw [x7] at hx;cases hx;exact ⟨_,hs,rfl,rfl,rfl,ht⟩
 ·rw [x3 _ _ _ hkk] at hx;exact hr k' x' hx
theorem wk_rV {α:Type} {f f':α->Ty} {xs:List α} (h: ∀x,Le (f x) (f' x)) (hf: ∀x,Free (f' x)):WkL (rV f xs) (rV f' xs):=⟨by simp [rV],fun i e' he=>by
 simp only [rV,zbs] at he ⊢;obtain ⟨x,hx,rfl⟩:=zdd.1 he;exact ⟨.val (f x),by rw [hx];rfl,.val (h x) (hf x)⟩⟩
section
variable {P:Program} {g:Slots} {h:Keys} {al:Names} {Q:Exit->Act->World->Prop}
theorem St'.over2 {N K T:Nat} {w0:World} {F:Dom} {X:OvJ} {a:Act} {w:World} {η:Env} {g':Slots} {h':Keys} {us:List (Hd×List Nat)} (s:St' (ovb N w0 F K X) g h al a w η) (hX: ∀b,X.D b->w0.heap.size<=b) (hI: ∀u∈us,(tLmX T u.1 u.2).p ((ovb N w0 F K X).dom h η) w u.1.v) (hnew:NewH w0.heap.size (us.map (·.1))) (hg:SlW g g') (hh:KyW h h'):
  (∀b,η.vo b->w0.heap.size<=b)/\St (ovb N w0 F K (XI T η.vo us)) g' (upd h' K (some ⟨0,1,false,[]⟩)) al a w:=by
 have hvo: ∀b,η.vo b->w0.heap.size<=b/\b < w.heap.size:=fun b hb=>by
  obtain ⟨h1,_,h2⟩:=s.fr.vnew b hb;exact ⟨h2.elim (fun h3=>hX b h3) id,h1⟩
 have hit': ∀b,(∃u∈us,u.1.b=some b)->w0.heap.size<=b/\(ovb N w0 F K X).dom h η b/\b < w.heap.size:=fun b ⟨u,hu,hb⟩=>by
  obtain ⟨h1,cs,h2⟩:=qk3 (hI u hu) hb;exact ⟨hnew _ (zcz hu) b hb,h1,xa7 h2⟩
 have hkK:(ovb N w0 F K X).lη.c K=0:=by simp [ovb,Base.over,envK]
 have hlkK:=s.lk K (by simp [ovb,Base.over]);have hcK:η.c K=0:=hlkK.2.2.trans hkK;have hDo: ∀b,(XI T η.vo us).D b->w0.heap.size<=b/\b < w.heap.size/\ ¬Own h η b:=fun b hb=>by
  rcases hb with hb | hb
  ·refine ⟨(hvo b hb).1,(hvo b hb).2,fun ⟨k,y,hy,hc,e⟩=> ?_⟩;exact ((s.key k y hy).2.2.2 hc).2.1 (e▸hb)
  ·obtain ⟨h1,h2,h3⟩:=hit' b hb;exact ⟨h1,h3,h2.2.1⟩
 obtain ⟨η',hη⟩: ∃η':Env,η'=⟨η.b,η.c,(XI T η.vo us).D⟩:=⟨_,rfl⟩
 have eb:η'.b=η.b:=by rw [hη]
 have ec:η'.c=η.c:=by rw [hη]
 have evo:η'.vo=(XI T η.vo us).D:=by rw [hη]
 have hown: ∀b,Own (upd h' K (some ⟨0,1,false,[]⟩)) η' b->Own h η b:=by
  rintro b ⟨k,x',hx,hc,rfl⟩;rw [ec] at hc;by_cases hk:k=K
  ·subst hk;omega
  ·rw [x3 _ _ _ hk] at hx;obtain ⟨y,h1,_⟩:=hh k x' hx;exact ⟨k,y,h1,hc,by rw [eb]⟩
 refine ⟨fun b hb=>(hvo b hb).1,η',s.tn,s.df,fun t e' he=> ?_,fun k x' hx=> ?_,fun k k' x x' hx hx' hkk hck hck'=> ?_,⟨s.fr.os,s.fr.tape,s.fr.output,s.fr.size,fun b hb hl hv=> ?_,fun b hb=>(by rw [evo];exact hb),fun b hb=> ?_⟩,fun k hk=> ?_,fun x hx=>(by cases hx),fun b hb=>hb.elim,s.yal,fun k x hk hx=> ?_,fun b ⟨x,hx,_⟩=>(by cases hx)⟩
 ·obtain ⟨e,h1,h2⟩:=hg t e' he;obtain ⟨n1,n2,n3⟩:=s.slot t e h1;exact ⟨n1,fun k hk=>n2 k (h2.supp k hk),h2.sat n3 ⟨eb,ec⟩⟩
 ·by_cases hk:k=K
  ·subst hk;rw [x7] at hx;cases hx;exact ⟨hlkK.1,fun j hj=>(by cases hj),⟨by simp,by simp,fun _=>rfl,by rw [ec,hcK];omega,fun hc=>by rw [ec,hcK] at hc;omega⟩,fun hc=>by rw [ec,hcK] at hc;omega⟩
  ·rw [x3 _ _ _ hk] at hx;obtain ⟨y,h1,r1,r2,r3,r4,r5⟩:=hh k x' hx;have r5: ∀(i:Nat) (e':Ent),x'.ts[i]? =some e'-> ∃e:Ent,y.ts[i]? =some e/\Wk e e':=r5;obtain ⟨q1,q2,⟨p1,p2,p3,p4,p5⟩,q4⟩:=s.key k _ h1;refine ⟨q1,fun j hj=> ?_,⟨by rw [r4,ec];exact p1,by rw [r2];exact p2,by rw [r2,r3];exact p3,by rw [ec];exact p4,fun hc=> ?_⟩,fun hc=> ?_⟩
   ·obtain ⟨e',he',hj⟩:=zcc.1 hj;obtain ⟨i,hi,rfl⟩:=List.getElem_of_mem he';obtain ⟨e,h5,h6⟩:=r5 i _ (zbi hi);exact q2 j (zcc.2 ⟨e,zdw h5,h6.supp j hj⟩)
   ·rw [ec] at hc;obtain ⟨cs,c1,c2,c3⟩:=p5 hc;refine ⟨cs,by rw [eb,r1];exact c1,by rw [ec,r2];exact c2,fun i e' hi=> ?_⟩;obtain ⟨e,h5,h6⟩:=r5 i e' hi;rw [r2,r3];exact h6.sat (c3 i e h5) ⟨eb,ec⟩
   ·rw [ec] at hc;obtain ⟨m1,m2,m3⟩:=q4 hc;rw [eb,evo];exact ⟨m1,fun hD=>(hDo _ hD).2.2 ⟨k,_,h1,hc,rfl⟩,m3⟩
 ·have h0: ∀k x,upd h' K (some ⟨0,1,false,[]⟩) k=some x->0 < η'.c k-> ∃y,h k=some y:=fun k x hx hc=>by
   by_cases hk:k=K
   ·subst hk;rw [ec] at hc;omega
   ·rw [x3 _ _ _ hk] at hx;obtain ⟨y,h1,_⟩:=hh k x hx;exact ⟨y,h1⟩
  obtain ⟨y,h1⟩:=h0 k x hx hck;obtain ⟨y',h1'⟩:=h0 k' x' hx' hck';rw [eb];rw [ec] at hck hck';exact s.inj k k' y y' h1 h1' hkk hck hck'
 ·exact s.fr.block b hb hl fun h'=>hv (by rw [evo];exact .inl h')
 ·rw [evo] at hb;exact ⟨(hDo b hb).2.1,rfl,.inl hb⟩
 ·have:=s.lk k hk;rw [eb,ec];exact this
 ·have hk:some K=some k:=hk;cases hk;rw [x7] at hx;cases hx;refine ⟨fun _ u hu=>(tLmX T u.1 u.2).mono (F:=fun b=>(ovb N w0 F K X).dom h η b/\ ∃u∈us,u.1.b=some b) ?_ fun b o hb hl _=>⟨hb.2,hl⟩,fun b hb=>⟨by rw [evo];exact hb,?_,(hDo b hb).2.1⟩⟩
  ·obtain ⟨h1,h2,h3,h4,h5⟩:=hI u hu;refine ⟨h1,h2,h3,h4,fun hc=> ?_⟩;obtain ⟨b,cs,e1,e2,e3⟩:=h5 hc;exact ⟨b,cs,e1,⟨e2,u,hu,by simp [Hd.b,e1,hc]⟩,e3⟩
  ·rintro (hb' | hb' | ⟨y,hy,_⟩)
   ·exact (hDo b hb).2.2 (hown b hb')
   ·exact hb'
   ·cases hy
theorem jv1 {N K T:Nat} {w0:World} {F:Dom} {X:OvJ} {A:Array Oper} {rest:List Oper} {g':Slots} {h':Keys} {us:List (Hd×List Nat)} (hX: ∀b,X.D b->w0.heap.size<=b) (hit:ItSt T (ovb N w0 F K X) g h us) (hnew:NewH w0.heap.size (us.map (·.1))) (hg:SlW g g') (hh:KyW h h')
  (H: ∀V:Dom,(∀b,V b->w0.heap.size<=b)->wl P (ovb N w0 F K (XI T V us)) A Q rest g' (upd h' K (some ⟨0,1,false,[]⟩)) al):wl P (ovb N w0 F K X) A Q rest g h al:=by
 rintro a w ⟨η,s⟩;obtain ⟨h1,h2⟩:=s.over2 hX (hit al a w η s) hnew hg hh;exact H η.vo h1 a w h2
theorem XI_new {T:Nat} {V:Dom} {us:List (Hd×List Nat)} {n:Nat} (hV: ∀b,V b->n<=b) (hu:NewH n (us.map (·.1))): ∀b,(XI T V us).D b->n<=b:=fun b hb=>by
 rcases hb with hb | ⟨u,hu',hb⟩
 ·exact hV b hb
 ·exact hu _ (zcz hu') b hb
end
end An
