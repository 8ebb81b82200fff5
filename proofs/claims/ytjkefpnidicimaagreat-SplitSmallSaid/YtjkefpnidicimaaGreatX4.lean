/- Part 4 of a proof: Sums, Mw, M32, Ref4, U34, M35, M36, M37, LibLk, LibNw, N1, LibOv, LibLw, LibLx, LibN2, LibEx, LibEy, LibAp, LibAq, LibEz, LibFa, LibFb, LibFc, LibKn, LibAt, LibAw, J1, LibGv, LibGa, LibGb, K1, K2, LibGc, K3, LibGd, K4, K5, P4, X1, X2, LibGe, K6, K7, K8, X3. -/
import Derived.Test.YtjkefpnidicimaaGreatX3
set_option maxHeartbeats 4000000
set_option maxRecDepth 100000
namespace An.S
open An Go Go.Proofs Go.Sort
structure Sm where
  acc:Int
  amt:Int
  h:0<=acc/\acc<=1099511627776
def sm0:Sm:=⟨0,0,by decide⟩
instance:Inhabited Sm:=⟨sm0⟩
abbrev tSm (s:Sm):Ty:=tS [⟨1,false,tI s.acc⟩,⟨1,false,tI s.amt⟩]
def cfSm (x y:Sm):Int:=x.acc - y.acc
theorem ltSm (x y:Sm):ltOf cfSm x y=decide (x.acc < y.acc):=by
 unfold ltOf cfSm;by_cases h:x.acc < y.acc
 ·simp [h];omega
 ·simp [h];omega
theorem swoSm:SWO (ltOf cfSm) where
 irrefl x:=by rw [ltSm];simp
 trans x y z h1 h2:=by rw [ltSm] at*;simp at*;omega
 ntrans x y z h1 h2:=by rw [ltSm] at*;simp at*;omega
theorem zm6: ∀{xs ys:List Sm},xs.Perm ys->(xs.Pairwise fun a b=>a.acc<=b.acc)->(ys.Pairwise fun a b=>a.acc<=b.acc)->(xs.map Sm.acc).Nodup->xs=ys
 | [],ys,hp,_,_,_=>hp.symm.eq_nil.symm
 | x::xs,[],hp,_,_,_=>absurd hp.eq_nil (by simp)
 | x::xs,y::ys,hp,hx,hy,hn=>by
  obtain ⟨x1,x2⟩:=zgn.1 hx;obtain ⟨y1,y2⟩:=zgn.1 hy;rw [zcx,List.nodup_cons] at hn;have hxy:x=y:=by
   rcases zbt.1 (hp.mem_iff.1 (List.mem_cons_self ..)) with e | h1
   ·exact e
   ·rcases zbt.1 (hp.mem_iff.2 (List.mem_cons_self ..)) with e | h2
    ·exact e.symm
    ·have a1:=y1 x h1;have a2:=x1 y h2;exact absurd (zcb.2 ⟨y,h2,by omega⟩) hn.1
  subst hxy;rw [zm6 (List.perm_cons x |>.1 hp) x2 y2 hn.2]
theorem zw2 (xs:List Sm):(srt cfSm xs).Pairwise fun a b=>a.acc<=b.acc:=by
 refine (xs7 swoSm xs).2.2.imp fun {a b} h=> ?_;rw [ltSm] at h;simp at h;omega
theorem jd9 {xs ys:List Sm} (hp:xs.Perm ys) (hn:(xs.map Sm.acc).Nodup):srt cfSm xs=srt cfSm ys:=by
 have h1:=(xs7 swoSm xs).2.1;have h2:=(xs7 swoSm ys).2.1;refine zm6 (h1.trans (hp.trans h2.symm)) (zw2 xs) (zw2 ys) ?_;exact (h1.map Sm.acc).nodup_iff.2 hn
theorem jm6 {m:List (Int×Int)} {a v:Int}:((putM m a v).map (·.2)).sum=(m.map (·.2)).sum - entV 0 m a+v:=by
 have set2: ∀{m:List (Int×Int)} {i:Nat} {u:Int},m[i]? =some (a,u)->((m.set i (a,v)).map (·.2)).sum=(m.map (·.2)).sum - u+v:=by
  intro m
  induction m with
  | nil=>intro i u h;simp at h
  | cons p r ih=>
   intro i u h;cases i with
   | zero=>simp at h;subst h;simp;omega
   | succ i=>
    have:=ih (i:=i) (u:=u) (by simpa using h);simp only [List.set_cons_succ,zcx,List.sum_cons];rw [this];omega
 cases hg:getI a 0 m with
 | none=>simp [putM,entV,hg]
 | some x=>
  obtain ⟨i,u⟩:=x;have:=(xq2 hg).2;simp only [Nat.sub_zero] at this;simp only [putM,entV,hg,zdv,Option.getD_some];exact set2 this
theorem qg1 {m:List (Int×Int)} {a v:Int} {e:Int×Int} (h:e∈putM m a v):e∈m∨e=(a,v):=by
 rw [putM] at h;split at h
 ·exact zgj h
 ·rcases zbj.1 h with h | h
  ·exact .inl h
  ·exact .inr (zbq.1 h)
theorem ja0 {m:List (Int×Int)} {a v:Int} (hn:(m.map (·.1)).Nodup):((putM m a v).map (·.1)).Nodup:=by
 cases hg:getI a 0 m with
 | none=>
  simp only [putM,hg,zer,zcx,zfn];rw [List.nodup_append];refine ⟨hn,by simp,fun x hx y hy=> ?_⟩;rw [zbq.1 hy];obtain ⟨p,hp,rfl⟩:=zcb.1 hx;exact yg1.1 hg p hp
 | some x=>
  obtain ⟨i,u⟩:=x;have:=(xq2 hg).2;simp only [Nat.sub_zero] at this;have e:(m.set i (a,v)).map (·.1)=m.map (·.1):=by
   apply zes;intro j;rw [zbp,zbp,zeo];by_cases h:i=j
   ·subst h;rw [if_pos rfl,if_pos (zbi.1 this).1,this];rfl
   ·rw [if_neg h]
  simp only [putM,hg];rw [e];exact hn
theorem jn6 {m:List (Int×Int)} {a v:Int}:(putM m a v).length<=m.length+1:=by
 rw [putM];split <;> simp
theorem ym2 {m:List (Int×Int)} {a:Int}:entV 0 m a=0∨(a,entV 0 m a)∈m:=by
 cases hg:getI a 0 m with
 | none=>left;simp [entV,hg]
 | some x=>
  obtain ⟨i,u⟩:=x;right;have:=(xq2 hg).2;simp only [entV,hg,zdv,Option.getD_some];exact zdc this
theorem sum_tk {l:List Int} {k:Nat} (hk:k < l.length):(l.take (k+1)).sum=(l.take k).sum+l.getD k 0:=by
 rw [zcn hk,List.sum_append,zbh,zbk hk];simp
theorem je1 {xs ys:List Int} (h:xs.Perm ys):xs.sum=ys.sum:=by
 induction h with
 | nil=>rfl
 | cons x _ ih=>simp [ih]
 | swap x y l=>simp;omega
 | trans _ _ h1 h2=>exact h1.trans h2
def mpS (l:List Deal) (p:List Int):Nat->List (Int×Int)
 | 0=>[]
 | i+1=>putM (mpS l p i) (l.getD i deal0).acc (entV 0 (mpS l p i) (l.getD i deal0).acc+p.getD i 0)
structure MpI (l:List Deal) (p:List Int) (i:Nat):Prop where
  keys:((mpS l p i).map (·.1)).Nodup
  acc: ∀e∈mpS l p i,1<=e.1/\e.1<=1099511627776
  amt: ∀e∈mpS l p i, -((i:Int)*1099511627776)<=e.2/\e.2<=(i:Int)*1099511627776
  sum:((mpS l p i).map (·.2)).sum=(p.take i).sum
  len:(mpS l p i).length<=i
theorem MpI.at {l:List Deal} {p:List Int} (hv:validL l=true) (hl:p.length=l.length) (hw: ∀i,i < l.length->wIn (p.getD i 0)=true): ∀i,i<=l.length->MpI l p i
 | 0,_=>⟨List.nodup_nil,fun e he=>(by cases he),fun e he=>(by cases he),rfl,zbm _⟩
 | i+1,hi=>by
  have ih:=MpI.at hv hl hw i (by omega);have hw:=xd0.1 (hw i (by omega));have ha:=(Deal.valid_iff.1 (xq6 hv (show i < l.length by omega))).2.2.2.2.2.2.2.2;have hb: -((i:Int)*1099511627776)<=entV 0 (mpS l p i) (l.getD i deal0).acc/\entV 0 (mpS l p i) (l.getD i deal0).acc<=(i:Int)*1099511627776:=by
   rcases ym2 (m:=mpS l p i) (a:=(l.getD i deal0).acc) with h | h
   ·rw [h];omega
   ·exact ih.amt _ h
  refine ⟨ja0 ih.keys,fun e he=> ?_,fun e he=> ?_,?_,?_⟩
  ·rcases qg1 he with h | rfl
   ·exact ih.acc e h
   ·exact ha
  ·rcases qg1 he with h | rfl
   ·have:=ih.amt e h;rw [Int.natCast_add];omega
   ·rw [Int.natCast_add];simp only;omega
  ·rw [mpS,jm6,ih.sum,sum_tk (show i < p.length by omega)];omega
  ·have:=jn6 (m:=mpS l p i) (a:=(l.getD i deal0).acc) (v:=entV 0 (mpS l p i) (l.getD i deal0).acc+p.getD i 0);have:=ih.len;rw [mpS];omega
def mkSm (e:Int×Int):Sm:=if h:0<=e.1/\e.1<=1099511627776 then ⟨e.1,e.2,h⟩ else sm0
theorem yz7 (x:Sm):mkSm (x.acc,x.amt)=x:=by simp [mkSm,x.h]
def own0 (o:Int):Sm:=⟨0,o,by decide⟩
theorem own0_eq {o:Int}:mkSm (0,o)=own0 o:=yz7 (own0 o)
def vsS (o:Int) (m:List (Int×Int)) (q:List Nat):List Sm:=own0 o::q.map fun i=>mkSm (m.getD i (0,0))
def sumsL (o:Int) (m:List (Int×Int)):List Sm:=srt cfSm (mkSm (0,o)::m.map mkSm)
theorem za4 {q:List Nat} {n:Nat} (hn:q.Nodup) (hq: ∀i∈q,i < n) (hf: ∀i,i < n->i∈q):q.Perm (List.range n):=by
 rw [List.perm_iff_count];intro a;by_cases h:a < n
 ·rw [Nat.le_antisymm (List.nodup_iff_count.1 hn a) (List.count_pos_iff.2 (hf a h)),Nat.le_antisymm (List.nodup_iff_count.1 List.nodup_range a) (List.count_pos_iff.2 (zcw.2 h))]
 ·rw [List.count_eq_zero.2 (fun hm=>h (hq a hm)),List.count_eq_zero.2 (fun hm=>h (zcw.1 hm))]
theorem qs3 {q:List Nat} {n:Nat} (hn:q.Nodup) (hq: ∀i∈q,i < n):q.length<=n:=by
 have hp:q.Perm ((List.range n).filter fun i=>decide (i∈q)):=by
  rw [List.perm_iff_count];intro a;have hf:((List.range n).filter fun i=>decide (i∈q)).Nodup:=List.Pairwise.filter _ List.nodup_range;by_cases h:a∈q
  ·rw [Nat.le_antisymm (List.nodup_iff_count.1 hn a) (List.count_pos_iff.2 h),Nat.le_antisymm (List.nodup_iff_count.1 hf a) (List.count_pos_iff.2 (List.mem_filter.2 ⟨zcw.2 (hq a h),zbg h⟩))]
  ·rw [List.count_eq_zero.2 h,List.count_eq_zero.2 (fun hm=>h (by simpa using (List.mem_filter.1 hm).2))]
 have:=hp.length_eq;have h2:=List.length_filter_le (fun i=>decide (i∈q)) (List.range n);rw [List.length_range] at h2;omega
def lft (n:Nat) (q:List Nat):Nat:=((List.range n).filter fun i=>decide (i∉q)).length
theorem jc8 {n i:Nat} {q:List Nat} (hi:i < n) (hq:i∉q):lft n (q++[i]) < lft n q:=
 filter_lt _ _ (fun x hx=>by simp at hx ⊢;exact hx.1) i (by simpa using hq) (by simp) _ (zcw.2 hi)
theorem qg6 {o:Int} {m:List (Int×Int)} {q:List Nat} {i:Nat} {k v:Int} (h:m[i]? =some (k,v)):vsS o m (q++[i])=vsS o m q++[mkSm (k,v)]:=by
 simp [vsS,h]
theorem qe0 {o:Int} {m:List (Int×Int)} (hk:(m.map (·.1)).Nodup) (ha: ∀e∈m,1<=e.1/\e.1<=1099511627776):((mkSm (0,o)::m.map mkSm).map Sm.acc).Nodup:=by
 have e1:(m.map mkSm).map Sm.acc=m.map (·.1):=by
  rw [List.map_map];refine zfm fun e he=> ?_;have:=ha e he;simp [mkSm,show 0<=e.1/\e.1<=1099511627776 by omega]
 rw [zcx,e1,List.nodup_cons];refine ⟨fun h=> ?_,hk⟩;obtain ⟨e,he,h0⟩:=zcb.1 h;have:=ha e he;simp [mkSm] at h0;omega
theorem ji8 {o:Int} {m:List (Int×Int)} {q:List Nat} (hn:q.Nodup) (hq: ∀i∈q,i < m.length) (hf: ∀i,i < m.length->i∈q) (hk:(m.map (·.1)).Nodup) (ha: ∀e∈m,1<=e.1/\e.1<=1099511627776):srt cfSm (vsS o m q)=sumsL o m:=by
 have hp:=(za4 hn hq hf).map fun i=>mkSm (m.getD i (0,0));have e:(List.range m.length).map (fun i=>mkSm (m.getD i (0,0)))=m.map mkSm:=by
  apply zes;intro j;rw [zbp,zbp];by_cases h:j < m.length
  ·rw [zeh h,zbk h];simp [h]
  ·rw [zcp (by simp;omega),zcp (by omega)];rfl
 rw [e] at hp;have hp2:(vsS o m q).Perm (mkSm (0,o)::m.map mkSm):=own0_eq▸hp.cons _;exact (jd9 hp2.symm (qe0 hk ha)).symm
theorem zs7 {o:Int} {m:List (Int×Int)} {q:List Nat}:(vsS o m q).length=q.length+1:=by simp [vsS]
theorem mp_sm {m:List (Int×Int)} (ha: ∀e∈m,1<=e.1/\e.1<=1099511627776) {i:Nat} {k v:Int} (h:m[i]? =some (k,v)): ∃x:Sm,k=x.acc/\v=x.amt:=by
 have:=ha _ (zdc h);exact ⟨⟨k,v,by simp only at this;omega⟩,rfl,rfl⟩
theorem q_snoc {q:List Nat} {n i:Nat} (hn:q.Nodup) (hq: ∀i∈q,i < n) (hi:i < n) (h:i∉q):(q++[i]).Nodup/\ ∀j∈q++[i],j < n:=by
 refine ⟨?_,fun j hj=> ?_⟩
 ·rw [List.nodup_append];exact ⟨hn,by simp,fun x hx y hy e=>h (by rw [zbq.1 hy] at e;exact e▸hx)⟩
 ·rcases zbj.1 hj with hj | hj
  ·exact hq j hj
  ·rw [zbq.1 hj];exact hi
theorem ye1 {e:Int×Int} (h:0<=e.1/\e.1<=1099511627776):(mkSm e).acc=e.1/\(mkSm e).amt=e.2:=by simp [mkSm,h]
theorem zi6 {o:Int} {m:List (Int×Int)} (hk:(m.map (·.1)).Nodup) (ha: ∀e∈m,1<=e.1/\e.1<=1099511627776):
  ((sumsL o m).map Sm.amt).sum=o+(m.map (·.2)).sum/\(sumsL o m).Pairwise (fun a b=>a.acc < b.acc)/\(sumsL o m).length=m.length+1/\ ∀s∈sumsL o m,s.amt=o∨ ∃e∈m,s.amt=e.2:=by
 obtain ⟨h1,h2,_⟩:=xs7 swoSm (mkSm (0,o)::m.map mkSm);have hs:=zw2 (mkSm (0,o)::m.map mkSm);have hno:=(h2.map Sm.acc).nodup_iff.2 (qe0 (o:=o) hk ha);refine ⟨?_,?_,by simpa [sumsL] using h1,fun s hs'=> ?_⟩
 ·have:=je1 (h2.map Sm.amt);rw [sumsL,this,zcx,List.sum_cons,List.map_map];have e1:(m.map (Sm.amt∘mkSm))=m.map (·.2):=zfm fun e he=>(ye1 (by have:=ha e he;omega)).2;rw [e1,(ye1 (e:=(0,o)) ⟨Int.le_refl _,by simp⟩).2]
 ·rw [List.Nodup,List.pairwise_map] at hno;exact (hs.and hno).imp fun h=>by omega
 ·rcases zbt.1 (h2.mem_iff.1 hs') with rfl | h
  ·exact .inl (ye1 (e:=(0,o)) ⟨Int.le_refl _,by simp⟩).2
  ·obtain ⟨e,he,rfl⟩:=zcb.1 h;exact .inr ⟨e,he,(ye1 (by have:=ha e he;omega)).2⟩
end An.S
namespace An.S
open Go Go.Proofs An Tryz
open An
section
variable {l:List Deal} {o:Int} {b p:List Int} {m a:Int}
theorem qs0 {l:List Deal} (hv:validL l=true) (hd: ∀d∈l,d.share.dig): ∀(is:List Nat) (s:Dv) (k:Nat),(∀i∈is,i < l.length)->DvI l k s->(∀j, -2199023255552<=s.q.getD j 0/\s.q.getD j 0<=2199023255552)->(dvRun l s is).2=true->
  DvI l (k+is.length) (dvRun l s is).1/\ ∀j, -2199023255552<=(dvRun l s is).1.q.getD j 0/\(dvRun l s is).1.q.getD j 0<=2199023255552
 | [],s,k,_,h,hq,_=>⟨h,hq⟩
 | i::r,s,k,hi,h,hq,ht=>by
  rw [xm3] at ht ⊢;split at ht
  ·rename_i hw;rw [if_pos hw];have hin:=hi i (by simp);have hp:=xd0.1 (DvI.pd (s:=s) hv hd hin hw);have hp2:=xd0.1 (h.w i hin).2;have:=qs0 hv hd r (dv1 l s i) (k+1) (fun j hj=>hi j (by simp [hj])) (h.next hv hd hin hw) (fun j=>by
    by_cases hj:j=i+1
    ·subst hj;have e:(dv1 l s i).q.getD (i+1) 0=s.pd l i - s.p.getD i 0:=zk4 (by rw [h.q];omega);rw [e];omega
    ·have e:(dv1 l s i).q.getD j 0=s.q.getD j 0:=xt6 hj;rw [e];exact hq j) ht
   rw [zek,show k+(r.length+1)=k+1+r.length by omega];exact this
  ·cases ht
end
theorem ja3 {q:Rat} {n:Int}:q.num*n / (q.den:Int)=take q n:=by
 have hd:(0:Int) < q.den:=by have:=q.den_nz;omega
 have hd':(0:Rat) < (q.den:Rat):=by exact_mod_cast hd
 have hq:q*(n:Rat)*(q.den:Rat)=((q.num*n:Int):Rat):=by
  have h1:q*(q.den:Rat)=(q.num:Rat):=by
   have h2:=Rat.num_divInt_den q;rw [Rat.divInt_eq_div] at h2
   conv=>lhs;lhs;rw [<-h2]
   have h3:((q.den:Int):Rat)=(q.den:Rat):=Rat.intCast_natCast q.den;rw [h3,Rat.div_mul_cancel (by intro h;rw [h] at hd';exact Rat.lt_irrefl hd')]
  rw [Rat.intCast_mul,<-h1];grind
 have e1:=Int.mul_ediv_add_emod (q.num*n) q.den;have e2:=Int.emod_nonneg (q.num*n) (show (q.den:Int)≠0 by omega);have e3:=Int.emod_lt_of_pos (q.num*n) hd;generalize q.num*n / (q.den:Int)=k at e1 ⊢;generalize q.num*n%(q.den:Int)=r at e1 e2 e3;have l1: ¬take q n < k:=fun h=>by
  have h2:=Rat.floor_lt_iff.1 (show (q*(n:Rat)).floor < k from h);have h3:=Rat.mul_lt_mul_of_pos_right h2 hd';rw [hq] at h3;have h4:((q.num*n:Int):Rat) < ((k*q.den:Int):Rat):=by rw [Rat.intCast_mul k];exact h3
  have h5:q.num*n < k*q.den:=by exact_mod_cast h4
  rw [Int.mul_comm k] at h5;omega
 have l2:take q n < k+1:=by
  refine Rat.floor_lt_iff.2 ?_;have h4:q.num*n < (k+1)*q.den:=by rw [Int.add_mul,Int.mul_comm k];omega
  refine Rat.not_le.1 fun h5=> ?_
  ·have h6:=Rat.mul_le_mul_of_nonneg_right h5 (Rat.le_of_lt hd');rw [hq,<-Rat.intCast_natCast,<-Rat.intCast_mul] at h6;have h7:(k+1)*(q.den:Int)<=q.num*n:=by exact_mod_cast h6
   omega
 omega
theorem yn4 {l:List Deal}: ∀(is js:List Nat) (s:Dv),(dvRun l s is).2=true->dvRun l s (is++js)=dvRun l (dvRun l s is).1 js
 | [],_,_,_=>rfl
 | i::r,js,s,h=>by
  rw [xm3] at h;rw [List.cons_append,xm3,xm3];split at h
  ·rename_i hw;rw [if_pos hw,if_pos hw];exact yn4 r js _ h
  ·cases h
theorem yp7 {l:List Deal}: ∀(is js:List Nat) (s:Dv),(dvRun l s is).2=false->(dvRun l s (is++js)).2=false
 | [],_,_,h=>by cases h
 | i::r,js,s,h=>by
  rw [xm3] at h;rw [List.cons_append,xm3];split at h
  ·rename_i hw;rw [if_pos hw];exact yp7 r js _ h
  ·rename_i hw;rw [if_neg hw]
def rsD (l:List Deal) (m:Int) (b p:List Int) (a:Int) (i:Nat):Dv:=(dvRun l ⟨b,p,List.replicate (l.length+1) 0,a⟩ (apl1 l m i)).1
structure RsI (l:List Deal) (m:Int) (b p:List Int) (a:Int) (i:Nat):Prop where
  ok:(dvRun l ⟨b,p,List.replicate (l.length+1) 0,a⟩ (apl1 l m i)).2=true
  fit:(rsD l m b p a i).fit l.length
  kb: ∀j,i<=j->(rsD l m b p a i).b.getD j 0=b.getD j 0/\(rsD l m b p a i).p.getD j 0=p.getD j 0/\(rsD l m b p a i).q.getD (j+1) 0=0
theorem RsI.zero {l:List Deal} {m:Int} {b p:List Int} {a:Int} (hb:b.length=l.length) (hp:p.length=l.length):RsI l m b p a 0:=by
 have hf:=An.fit0 (a:=a) hb hp;refine ⟨rfl,qi9 _ _ hf,fun j _=> ?_⟩;obtain ⟨h1,h2,h3⟩:=zr5 (l:=l) (apl1 l m 0) ⟨b,p,List.replicate (l.length+1) 0,a⟩ j (by simp [apl1]);exact ⟨h1,h2,h3.trans (by simp only [grep0])⟩
theorem apl1_lt {l:List Deal} {m:Int} {i j:Nat} (h:j∈apl1 l m i):j < i:=zcw.1 (List.mem_filter.1 h).1
section
variable {l:List Deal} {m:Int} {b p:List Int} {a:Int} {i:Nat}
theorem zc0 (h:(l.getD i deal0).on m=false):rsD l m b p a (i+1)=rsD l m b p a i:=by rw [rsD,rsD,apl1_no h]
theorem RsI.off (s:RsI l m b p a i) (h:(l.getD i deal0).on m=false):RsI l m b p a (i+1):=
 ⟨by rw [apl1_no h];exact s.ok,by rw [zc0 h];exact s.fit,fun j hj=>by rw [zc0 h];exact s.kb j (by omega)⟩
theorem rs_on (s:RsI l m b p a i) (h:(l.getD i deal0).on m=true) (hw:wIn ((rsD l m b p a i).n i)=true):dvRun l ⟨b,p,List.replicate (l.length+1) 0,a⟩ (apl1 l m (i+1))=(dv1 l (rsD l m b p a i) i,true):=by
 rw [apl1_yes h,yn4 _ _ _ s.ok];show dvRun l (rsD l m b p a i) [i]=_;rw [xm3,if_pos hw];rfl
theorem ze1 (s:RsI l m b p a i) (h:(l.getD i deal0).on m=true) (hw:wIn ((rsD l m b p a i).n i)=true):rsD l m b p a (i+1)=dv1 l (rsD l m b p a i) i:=by rw [rsD,rs_on s h hw]
theorem RsI.on (s:RsI l m b p a i) (_:i < l.length) (h:(l.getD i deal0).on m=true) (hw:wIn ((rsD l m b p a i).n i)=true):RsI l m b p a (i+1):=by
 refine ⟨by rw [rs_on s h hw],by rw [ze1 s h hw];exact s.fit.next,fun j hj=> ?_⟩;rw [ze1 s h hw];obtain ⟨h1,h2,h3⟩:=s.kb j (by omega);have hji:j≠i:=by omega
 simp only [dv1];exact ⟨(xt6 hji).trans h1,(xt6 hji).trans h2,(xt6 (by omega)).trans h3⟩
theorem RsI.stop (s:RsI l m b p a i) (hi:i < l.length) (h:(l.getD i deal0).on m=true) (hw:wIn ((rsD l m b p a i).n i)=false):(dvAll l m b p a).2=false:=by
 obtain ⟨r,hr⟩:=apl1_pre (l:=l) (m:=m) (i+1) (l.length - (i+1));rw [show i+1+(l.length - (i+1))=l.length by omega] at hr;have hr:apl l m=apl1 l m (i+1)++r:=hr;show (dvRun l _ (apl l m)).2=false;rw [hr];refine yp7 _ _ _ ?_;rw [apl1_yes h,yn4 _ _ _ s.ok];show (dvRun l (rsD l m b p a i) [i]).2=false;rw [xm3,if_neg (by rw [hw];exact Bool.false_ne_true)]
def rsQ (l:List Deal) (m:Int) (b p:List Int) (a:Int) (i:Nat):List Int:=0::((rsD l m b p a i).q.drop 1).take i
theorem jj7 (s:RsI l m b p a i) (hi:i<=l.length):(rsQ l m b p a i).length=i+1:=by
 have:=s.fit.q;simp [rsQ];omega
theorem drop1_take {q:List Int} {i:Nat} (h:i+1 < q.length):(q.drop 1).take (i+1)=(q.drop 1).take i++[q.getD (i+1) 0]:=by
 rw [zcn (by simp;omega)]
 congr 2
 rw [List.getElem_drop,zbh,zbk h];simp [Nat.add_comm]
theorem jk5 (s:RsI l m b p a i) (hi:i < l.length) (h:(l.getD i deal0).on m=false):rsQ l m b p a (i+1)=rsQ l m b p a i++[0]:=by
 have:=s.fit.q;rw [rsQ,rsQ,zc0 h,drop1_take (by omega),(s.kb i (zbm _)).2.2];rfl
theorem rsQ_on (s:RsI l m b p a i) (hi:i < l.length) (h:(l.getD i deal0).on m=true) (hw:wIn ((rsD l m b p a i).n i)=true):rsQ l m b p a (i+1)=rsQ l m b p a i++[(rsD l m b p a i).pd l i - p.getD i 0]:=by
 have hq:=s.fit.q;have hp:=(s.kb i (zbm _)).2.1;rw [rsQ,rsQ,ze1 s h hw];have e:(dv1 l (rsD l m b p a i) i).q=(rsD l m b p a i).q.set (i+1) ((rsD l m b p a i).pd l i - p.getD i 0):=by simp only [dv1];rw [hp]
 rw [e,drop1_take (by rw [zdx];omega),zk4 (by omega)];have e2:(((rsD l m b p a i).q.set (i+1) ((rsD l m b p a i).pd l i - p.getD i 0)).drop 1).take i=((rsD l m b p a i).q.drop 1).take i:=by
  rw [List.drop_set,if_neg (by omega),List.take_set_of_le (by omega)]
 rw [e2];rfl
theorem rs_end (s:RsI l m b p a l.length):(dvAll l m b p a).2=true/\(dvAll l m b p a).1=rsD l m b p a l.length/\(rsQ l m b p a l.length).set 0 (dvAll l m b p a).1.r=(dvAll l m b p a).1.q.set 0 (dvAll l m b p a).1.r:=by
 refine ⟨s.ok,rfl,?_⟩;have hq:=s.fit.q;show (rsQ l m b p a l.length).set 0 (rsD l m b p a l.length).r=(rsD l m b p a l.length).q.set 0 (rsD l m b p a l.length).r;rw [rsQ];cases hc:(rsD l m b p a l.length).q with
 | nil=>rw [hc] at hq;simp at hq
 | cons x t=>
  rw [hc] at hq;simp only [List.drop_succ_cons,List.drop_zero,List.set_cons_zero];rw [List.take_of_length_le (by simp at hq;omega)]
end
theorem qj0 {m:List (Int×Int)} (hn:(m.map (·.1)).Nodup) {i j:Nat} {x y:Int×Int} (hi:m[i]? =some x) (hj:m[j]? =some y) (h:x.1=y.1):i=j:=by
 have hil:=(zbi.1 hi).1;have hjl:=(zbi.1 hj).1;rcases Nat.lt_trichotomy i j with h1 | h1 | h1
 ·have:=zfj.1 hn i j (by simpa using hil) (by simpa using hjl) h1;rw [List.getElem_map,List.getElem_map,(zbi.1 hi).2,(zbi.1 hj).2] at this;exact absurd h this
 ·exact h1
 ·have:=zfj.1 hn j i (by simpa using hjl) (by simpa using hil) h1;rw [List.getElem_map,List.getElem_map,(zbi.1 hi).2,(zbi.1 hj).2] at this;exact absurd h.symm this
theorem qc0 {m:List (Int×Int)} (hn:(m.map (·.1)).Nodup) {k v:Int} {e:Int×Int}:e∈putM m k v↔(e∈m/\e.1≠k)∨e=(k,v):=by
 cases hg:getI k 0 m with
 | none=>
  have h0:=yg1.1 hg;simp only [putM,hg,zbj,zbq];exact ⟨fun h=>h.imp (fun h=>⟨h,h0 e h⟩) id,fun h=>h.imp (·.1) id⟩
 | some x=>
  obtain ⟨i,u⟩:=x;have hi:=(xq2 hg).2;simp only [Nat.sub_zero] at hi;have hil:=(zbi.1 hi).1;simp only [putM,hg];constructor
  ·intro h;obtain ⟨j,hj⟩:=zdq h;rw [zeo] at hj;split at hj
   ·exact .inr (Option.some.inj hj).symm
   ·rename_i hne;exact .inl ⟨zdc hj,fun h=>hne (qj0 hn hi hj h.symm)⟩
  ·rintro (⟨h,hk⟩ | rfl)
   ·obtain ⟨j,hj⟩:=zdq h;refine zdc (i:=j) ?_;rw [zeo,if_neg (fun e'=>hk (by subst e';rw [hi] at hj;cases hj;rfl))];exact hj
   ·refine zdc (i:=i) ?_;rw [zeo,if_pos rfl,if_pos hil]
def sumA (l:List Deal) (p:List Int) (a:Int):Nat->Int
 | 0=>0
 | i+1=>sumA l p a i+if (l.getD i deal0).acc=a then p.getD i 0 else 0
theorem yv0 {l:List Deal} {p:List Int} {a:Int}: ∀{i:Nat},(∀j,j < i->(l.getD j deal0).acc≠a)->sumA l p a i=0
 | 0,_=>rfl
 | i+1,h=>by rw [sumA,yv0 fun j hj=>h j (by omega),if_neg (h i (by omega))];rfl
theorem qz5 {l:List Deal} {p:List Int} (hv:validL l=true) (hl:p.length=l.length) (hw: ∀i,i < l.length->wIn (p.getD i 0)=true): ∀i,i<=l.length-> ∀a x,(a,x)∈mpS l p i↔(∃j,j < i/\(l.getD j deal0).acc=a)/\x=sumA l p a i
 | 0,_,a,x=>by simp [mpS]
 | i+1,hi,a,x=>by
  have ih:=qz5 hv hl hw i (by omega);have hm:=MpI.at hv hl hw i (by omega);have he:entV 0 (mpS l p i) (l.getD i deal0).acc=sumA l p (l.getD i deal0).acc i:=by
   by_cases hex: ∃j,j < i/\(l.getD j deal0).acc=(l.getD i deal0).acc
   ·have h1:=(ih (l.getD i deal0).acc _).2 ⟨hex,rfl⟩;rcases ym2 (m:=mpS l p i) (a:=(l.getD i deal0).acc) with h2 | h2
    ·obtain ⟨j,hj⟩:=zdq h1;cases hg:getI (l.getD i deal0).acc 0 (mpS l p i) with
     | none=>exact absurd rfl (yg1.1 hg _ h1)
     | some y=>
      obtain ⟨k,u⟩:=y;have hk:=(xq2 hg).2;simp only [Nat.sub_zero] at hk;have:=qj0 hm.keys hk hj rfl;subst this;rw [hk] at hj;cases hj;rw [entV,hg];rfl
    ·exact ((ih _ _).1 h2).2
   ·rw [yv0 fun j hj h=>hex ⟨j,hj,h⟩];rcases ym2 (m:=mpS l p i) (a:=(l.getD i deal0).acc) with h2 | h2
    ·exact h2
    ·exact absurd ((ih _ _).1 h2).1 hex
  rw [mpS,qc0 hm.keys,he,sumA,ih];by_cases ha:(l.getD i deal0).acc=a
  ·subst ha;simp only [ne_eq,not_true_eq_false,and_false,false_or,Prod.mk.injEq,true_and,↓reduceIte];exact ⟨fun h=>⟨⟨i,by omega,rfl⟩,h⟩,fun h=>h.2⟩
  ·rw [if_neg ha,Int.add_zero];constructor
   ·rintro (⟨⟨⟨j,hj,h1⟩,h2⟩,_⟩ | h)
    ·exact ⟨⟨j,by omega,h1⟩,h2⟩
    ·exact absurd (congrArg Prod.fst h).symm ha
   ·rintro ⟨⟨j,hj,h1⟩,h2⟩;refine .inl ⟨⟨⟨j,?_,h1⟩,h2⟩,fun h=>ha h.symm⟩;rcases zcs j i with h3 | h3
    ·exact h3
    ·have:j=i:=by omega
     subst this;exact absurd h1 ha
def nxI (l:List Deal) (last:Int) (i:Nat) (nx:Int):Prop:=(nx=0/\ ∀j,j < i-> ¬last < (l.getD j deal0).acc)∨(last < nx/\(∃j,j < i/\(l.getD j deal0).acc=nx)/\ ∀j,j < i->last < (l.getD j deal0).acc->nx<=(l.getD j deal0).acc)
theorem ja9 {l:List Deal} {last:Int}:nxI l last 0 0:= .inl ⟨rfl,fun j hj=>by omega⟩
theorem yv4 {l:List Deal} {last nx:Int} {i:Nat} (h0:0<=last) (h:nxI l last i nx) (h1:last < (l.getD i deal0).acc) (h2:nx=0∨(l.getD i deal0).acc < nx):nxI l last (i+1) (l.getD i deal0).acc/\ ∀j,j < i->(l.getD j deal0).acc≠(l.getD i deal0).acc:=by
 have hno: ∀j,j < i->last < (l.getD j deal0).acc->(l.getD i deal0).acc < (l.getD j deal0).acc:=fun j hj hl=>by
  rcases h with ⟨h3,h4⟩ | ⟨h3,_,h5⟩
  ·exact absurd hl (h4 j hj)
  ·have:=h5 j hj hl;omega
 refine ⟨.inr ⟨h1,⟨i,by omega,rfl⟩,fun j hj hl=> ?_⟩,fun j hj h3=> ?_⟩
 ·rcases zcs j i with h3 | h3
  ·exact Int.le_of_lt (hno j h3 hl)
  ·rw [show j=i by omega];exact Int.le_refl _
 ·have:=hno j hj (by omega);omega
theorem yu3 {l:List Deal} {last nx:Int} {i:Nat} (h:nxI l last i nx) (h1: ¬(last < (l.getD i deal0).acc/\(nx=0∨(l.getD i deal0).acc < nx))):nxI l last (i+1) nx:=by
 have hs: ∀j,j < i+1->j < i∨j=i:=fun j hj=>by omega
 rcases h with ⟨h2,h3⟩ | ⟨h2,⟨j,hj,h3⟩,h4⟩
 ·refine .inl ⟨h2,fun j hj hl=> ?_⟩;rcases hs j hj with h | rfl
  ·exact h3 j h hl
  ·exact h1 ⟨hl,.inl h2⟩
 ·refine .inr ⟨h2,⟨j,by omega,h3⟩,fun k hk hl=> ?_⟩;rcases hs k hk with h | rfl
  ·exact h4 k h hl
  ·rcases Int.lt_or_le (l.getD k deal0).acc nx with h | h
   ·exact absurd ⟨hl,.inr h⟩ h1
   ·exact h
theorem zt0 {o:Int} {m:List (Int×Int)} (ha: ∀e∈m,1<=e.1/\e.1<=1099511627776) {s:Sm}:s∈sumsL o m↔s=own0 o∨(s.acc,s.amt)∈m:=by
 obtain ⟨_,h2,_⟩:=xs7 swoSm (mkSm (0,o)::m.map mkSm);rw [sumsL,h2.mem_iff,own0_eq,zbt];refine or_congr Iff.rfl ⟨fun h=> ?_,fun h=> ?_⟩
 ·obtain ⟨e,he,rfl⟩:=zcb.1 h;obtain ⟨h3,h4⟩:=ye1 (e:=e) (by have:=ha e he;omega);rw [h3,h4];exact he
 ·exact zcb.2 ⟨_,h,yz7 s⟩
theorem jg2 {l:List Deal} {p:List Int} {o:Int} (hv:validL l=true) (hl:p.length=l.length) (hw: ∀i,i < l.length->wIn (p.getD i 0)=true) {r:Nat} (hr:r < (sumsL o (mpS l p l.length)).length) {nx:Int}
  (h:nxI l ((sumsL o (mpS l p l.length)).getD r sm0).acc l.length nx):
  (nx=0->r+1=(sumsL o (mpS l p l.length)).length)/\(nx≠0->r+1 < (sumsL o (mpS l p l.length)).length/\((sumsL o (mpS l p l.length)).getD (r+1) sm0).acc=nx/\((sumsL o (mpS l p l.length)).getD (r+1) sm0).amt=sumA l p nx l.length):=by
 have hm:=MpI.at hv hl hw l.length (zbm _);have hiff:=qz5 hv hl hw l.length (zbm _);obtain ⟨_,hpw,_,_⟩:=zi6 (o:=o) hm.keys hm.acc;have hmem:= @zt0 o (mpS l p l.length) hm.acc;generalize sumsL o (mpS l p l.length)=S at*
 have get: ∀i (hi:i < S.length),S.getD i sm0=S[i]:=fun i hi=>by rw [zbh,zbk hi];rfl
 have lt: ∀i j,i < j->j < S.length->(S.getD i sm0).acc < (S.getD j sm0).acc:=fun i j hij hj=>by
  rw [get i (by omega),get j hj];exact zfj.1 hpw i j (by omega) hj hij
 have nn:0<=(S.getD r sm0).acc:=(S.getD r sm0).h.1;have big: ∀i,i < S.length->r < i-> ∃j,j < l.length/\(l.getD j deal0).acc=(S.getD i sm0).acc/\(S.getD i sm0).amt=sumA l p (S.getD i sm0).acc l.length:=fun i hi hri=>by
  have h1:S.getD i sm0∈S:=by rw [get i hi];exact zdw hi
  have h2:=lt r i hri hi;rcases hmem.1 h1 with h3 | h3
  ·rw [h3] at h2;have:(own0 o).acc=0:=rfl;omega
  ·obtain ⟨⟨j,hj,h4⟩,h5⟩:=(hiff _ _).1 h3;exact ⟨j,hj,h4,h5⟩
 refine ⟨fun h0=> ?_,fun h0=> ?_⟩
 ·rcases zcs (r+1) S.length with h1 | h1
  ·obtain ⟨j,hj,h2,_⟩:=big (r+1) h1 (by omega);have h3:=lt r (r+1) (by omega) h1;rcases h with ⟨_,h4⟩ | ⟨h4,_⟩
   ·exact absurd (by rw [h2];exact h3) (h4 j hj)
   ·omega
  ·omega
 ·rcases h with ⟨h1,_⟩ | ⟨h1,⟨j,hj,h2⟩,h3⟩
  ·exact absurd h1 h0
  ·have hacc:=(Deal.valid_iff.1 (xq6 hv hj)).2.2.2.2.2.2.2.2;have hin:(⟨nx,sumA l p nx l.length,by omega⟩:Sm)∈S:=hmem.2 (.inr ((hiff _ _).2 ⟨⟨j,hj,h2⟩,rfl⟩));obtain ⟨t,ht,h4⟩:=List.getElem_of_mem hin;have h5:(S.getD t sm0).acc=nx:=by rw [get t ht,h4]
   have h6:(S.getD t sm0).amt=sumA l p nx l.length:=by rw [get t ht,h4]
   have h7:r < t:=by
    rcases zcs r t with h8 | h8
    ·exact h8
    ·rcases zcs t r with h9 | h9
     ·have:=lt t r h9 hr;omega
     ·rw [show t=r by omega] at h5;omega
   obtain ⟨k,hk,h8,_⟩:=big (r+1) (by omega) (by omega);have h9:=h3 k hk (by rw [h8];exact lt r (r+1) (by omega) (by omega));have h10:t=r+1:=by
    rcases zcs (r+1) t with h11 | h11
    ·have:=lt (r+1) t h11 ht;omega
    ·omega
   subst h10;exact ⟨ht,h5,h6⟩
theorem qs8 {l:List Deal} {p:List Int} {o:Int} (hv:validL l=true) (hl:p.length=l.length) (hw: ∀i,i < l.length->wIn (p.getD i 0)=true):0 < (sumsL o (mpS l p l.length)).length/\(sumsL o (mpS l p l.length)).getD 0 sm0=own0 o:=by
 have hm:=MpI.at hv hl hw l.length (zbm _);obtain ⟨_,hpw,hlen,_⟩:=zi6 (o:=o) hm.keys hm.acc;have hmem:= @zt0 o (mpS l p l.length) hm.acc;generalize sumsL o (mpS l p l.length)=S at*
 have h0:0 < S.length:=by omega
 refine ⟨h0,?_⟩;obtain ⟨t,ht,h4⟩:=List.getElem_of_mem (hmem.2 (.inl rfl));rw [zbh,zbk h0];rcases zcg t with h5 | h5
 ·subst h5;exact h4
 ·have:=zfj.1 hpw 0 t h0 ht h5;rw [h4] at this;have h6:(own0 o).acc=0:=rfl;have:=S[0].h.1;omega
end An.S
namespace An.S
open Go Go.Proofs An Tryz
open Go.RowKit Go.Sort
instance ti163:TyI Tryz.prog 163 2 true:=⟨by kernel_rfl,by kernel_rfl⟩
instance fi228:FnI Tryz.prog 228:=⟨_,func228,by kernel_rfl,rfl⟩
theorem el163:ElI Tryz.prog 163 2 16 true (.agg #[.int .i64 0,.int .i64 0]):=⟨ti163,by kernel_rfl,by kernel_rfl⟩
theorem zr163:(Tryz.prog.info? 163).bind (·.zero)=some (.agg #[.int .i64 0,.int .i64 0])/\ ∀F w,(tS [⟨1,false,(tE (.int .i64 0))⟩,⟨1,false,(tE (.int .i64 0))⟩]).p F w (.agg #[.int .i64 0,.int .i64 0]):=⟨by kernel_rfl,fun _ _=>⟨_,rfl,rfl,⟨fun _=>rfl,rfl⟩,⟨fun _=>rfl,rfl⟩,trivial⟩⟩
theorem bu163:BuI Tryz.prog 163 (fun i=>[(0,1),(1,1)][i]?) (.agg #[.int .i64 0,.int .i64 0]):=BuI.struct underlying163 (by kernel_rfl) (by kernel_rfl)
theorem zf163:Flat 2 true (.agg #[.int .i64 0,.int .i64 0]):=xn3 (by intro u hu;simp at hu;rcases hu with rfl | rfl <;> rfl)
instance un156:UnI Tryz.prog 156 (.slice 163):=⟨zhf⟩
def sortSumR:Go.Shelf.Ren:=⟨fun n=>match n with | 6=>228 | 14=>293 | 15=>294 | 20=>339 | 21=>340 | 22=>341 | 23=>342 | 24=>343 | 25=>344 | 26=>345 | 27=>346 | 28=>347 | 29=>348 | 46=>383 | 47=>384 | 48=>385 | 49=>386 | 50=>387 | 57=>399 | n=>n,fun n=>match n with | 0=>0 | 3=>3 | 4=>4 | 5=>5 | 9=>9 | 22=>156 | 24=>163 | 25=>245 | 39=>213 | 45=>371 | 46=>372 | 50=>376 | 53=>284 | 55=>123 | 66=>410 | 70=>414 | 76=>424 | 77=>425 | n=>n,fun n=>n⟩
theorem sortSum:Go.Proofs.SlLaysF0.n6 Tryz.prog sortSumR where
 mixed:=by kernel_rfl
 f6:=⟨f228.name,by kernel_rfl,by kernel_rfl⟩
 f14:=⟨f293.name,by kernel_rfl,by kernel_rfl⟩
 f15:=by kernel_rfl
 f20:=⟨f339.name,by kernel_rfl,by kernel_rfl⟩
 f21:=⟨f340.name,by kernel_rfl,by kernel_rfl⟩
 f22:=⟨f341.name,by kernel_rfl,by kernel_rfl⟩
 f23:=⟨f342.name,by kernel_rfl,by kernel_rfl⟩
 f24:=⟨f343.name,by kernel_rfl,by kernel_rfl⟩
 f25:=⟨f344.name,by kernel_rfl,by kernel_rfl⟩
 f26:=⟨f345.name,by kernel_rfl,by kernel_rfl⟩
 f27:=⟨f346.name,by kernel_rfl,by kernel_rfl⟩
 f28:=by kernel_rfl
 f29:=by kernel_rfl
 f46:=⟨f383.name,by kernel_rfl,by kernel_rfl⟩
 f47:=by kernel_rfl
 f48:=by kernel_rfl
 f49:=⟨f386.name,by kernel_rfl,by kernel_rfl⟩
 f50:=⟨f387.name,by kernel_rfl,by kernel_rfl⟩
 f57:=⟨f399.name,by kernel_rfl,by kernel_rfl⟩
 t0:=by kernel_rfl
 a0:=fun w=>by kernel_rfl
 z0:=fun w=>by kernel_rfl
 v0:=fun w=>by kernel_rfl
 t3:=by kernel_rfl
 a3:=fun w=>by kernel_rfl
 z3:=fun w=>by kernel_rfl
 v3:=fun w=>by kernel_rfl
 t4:=by kernel_rfl
 a4:=fun w=>by kernel_rfl
 z4:=fun w=>by kernel_rfl
 v4:=fun w=>by kernel_rfl
 t5:=by kernel_rfl
 a5:=fun w=>by kernel_rfl
 z5:=fun w=>by kernel_rfl
 v5:=fun w=>by kernel_rfl
 t9:=by kernel_rfl
 a9:=fun w=>by kernel_rfl
 z9:=fun w=>by kernel_rfl
 v9:=fun w=>by kernel_rfl
 t22:=by kernel_rfl
 a22:=fun w=>by kernel_rfl
 z22:=fun w=>by kernel_rfl
 v22:=fun w=>by kernel_rfl
 t25:=by kernel_rfl
 a25:=fun w=>by kernel_rfl
 z25:=fun w=>by kernel_rfl
 v25:=fun w=>by kernel_rfl
 t39:=by kernel_rfl
 a39:=fun w=>by kernel_rfl
 z39:=fun w=>by kernel_rfl
 v39:=fun w=>by kernel_rfl
 t45:=by kernel_rfl
 a45:=fun w=>by kernel_rfl
 z45:=fun w=>by kernel_rfl
 v45:=fun w=>by kernel_rfl
 t46:=by kernel_rfl
 a46:=fun w=>by kernel_rfl
 z46:=fun w=>by kernel_rfl
 v46:=fun w=>by kernel_rfl
 t50:=by kernel_rfl
 a50:=fun w=>by kernel_rfl
 z50:=fun w=>by kernel_rfl
 v50:=fun w=>by kernel_rfl
 t53:=by kernel_rfl
 a53:=fun w=>by kernel_rfl
 z53:=fun w=>by kernel_rfl
 v53:=fun w=>by kernel_rfl
 t55:=by kernel_rfl
 a55:=fun w=>by kernel_rfl
 z55:=fun w=>by kernel_rfl
 v55:=fun w=>by kernel_rfl
 t66:=by kernel_rfl
 a66:=fun w=>by kernel_rfl
 z66:=fun w=>by kernel_rfl
 v66:=fun w=>by kernel_rfl
 t70:=by kernel_rfl
 a70:=fun w=>by kernel_rfl
 z70:=fun w=>by kernel_rfl
 v70:=fun w=>by kernel_rfl
 t76:=by kernel_rfl
 a76:=fun w=>by kernel_rfl
 z76:=fun w=>by kernel_rfl
 v76:=fun w=>by kernel_rfl
 t77:=by kernel_rfl
 a77:=fun w=>by kernel_rfl
 z77:=fun w=>by kernel_rfl
 v77:=fun w=>by kernel_rfl
def encSm (x:Sm):List Value:=[.int .i64 x.acc,.int .i64 x.amt]
theorem tSm_mk {F:Dom} {w:World} {s:Sm}:(tSm s).p F w (.agg (encSm s).toArray):=⟨_,rfl,rfl,⟨fun _=>rfl,rfl⟩,⟨fun _=>rfl,rfl⟩,trivial⟩
theorem jk3 {F:Dom} {w:World} {s:Sm} {v:Value} (h:(tSm s).p F w v):v= .agg (encSm s).toArray:=by
 obtain ⟨cs,rfl,h1,h2⟩:=h;have h1:cs.size=2:=h1;obtain ⟨⟨_,h3⟩,⟨_,h4⟩,_⟩:=h2;have h3:cs.getD 0 undef= .int .i64 s.acc:=h3;have h4:cs.getD 1 undef= .int .i64 s.amt:=h4
 congr 1
 apply Array.ext
 ·simpa [encSm] using h1
 ·intro i hi hi2;simp [encSm] at hi2;rw [zbn] at h3 h4
  match i,hi2 with
  | 0,_=>rw [zdb (by omega)] at h3;simpa [encSm] using h3
  | 1,_=>rw [zdb (by omega)] at h4;simpa [encSm] using h4
theorem closSm (x y:Sm) (W:World):Calls Tryz.prog 229 #[.agg (encSm x).toArray,.agg (encSm y).toArray] W fun e w'=>e= .returned (.int .i64 (cfSm x y))/\ ∃q os',w'=grow (W.drewN q) os':=by
 have hx:=x.h;have hy:=y.h;have hw:IntKind.i64.wrap (x.acc - y.acc)=cfSm x y:=wr64 (by omega) (by omega);show Calls Tryz.prog 229 #[.agg #[.int .i64 x.acc,.int .i64 x.amt],.agg #[.int .i64 y.acc,.int .i64 y.amt]] W fun e w'=>e= .returned (.int .i64 (cfSm x y))/\ ∃q os',w'=grow (W.drewN q) os';generalize cfSm x y=r at hw ⊢
 go_enter func229,ntmps229
 go_wp2
 go_ret
 exact ⟨rfl,0,_,by rw [alloc_eq_grow,alloc_eq_grow,grow_grow];rfl⟩
theorem jh4 (xs:List Sm) (hn:xs.length < 4611686018427387904):CtG Tryz.prog 228 [(1,⟨163,2,true,rV tSm xs⟩)] [.own (.sl 1 2 0 xs.length),.val (tE (.func (.func 229) #[] #[]))] (.val (tE (.tuple #[]))) [(1,⟨163,2,true,rV tSm (srt cfSm xs)⟩)] []:=
 sortG sortSum (enc:=encSm) (cf:=cfSm) (fun w=>by kernel_rfl) (fun w=>by kernel_rfl) (fun _=>rfl) (fun x v hv=>by simp [encSm] at hv;rcases hv with rfl | rfl <;> rfl) (fun F w x v h=>jk3 h) (fun F w x=>tSm_mk) swoSm (enters_of func229 (by kernel_rfl) rfl) closSm xs hn
theorem zm8 {xs:List Sm}:(srt cfSm xs).length=xs.length:=(xs7 swoSm xs).1
theorem hMF:MapF Tryz.prog 243 mkII 0:=jp7 underlying243 zgz (fun w=>by kernel_rfl)
theorem c_Sums (l:List Deal) (o:Int) (b p:List Int) (hd: ∀d∈l,d.share.dig):
  Ct Tryz.prog 150 [tL 7 true tDeal l,tState o b p] (tT [tL 2 true tSm (if rightL l o b p=true then sumsL o (mpS l p l.length) else []),tI (if rightL l o b p=true then 0 else 2)]):=by
 refine Ct.introM mkII 90 func150 rfl ntmps150 rfl ?_;intro w F hM;refine A12 ?_;refine R2 (x3 (yn9 l o b p hd) fi16 rfl) rfl rfl ?_;refine A3 ?_;refine xc7 rfl (fun h147=> ?_) (fun h147=> ?_)
 ·
  have hr: ¬rightL l o b p=true:=by simpa using h147
  refine A8 ?_;exact ya3 Plain.maps rfl rfl rfl (leNil (by rw [if_neg hr])) (zba (by rw [if_neg hr]))
 ·
  have hr:rightL l o b p=true:=by simpa using h147
  refine A3 ?_;obtain ⟨v1,v2,v3,v4,v5⟩:=xo9 hd hr;have hl16:=xf8 v1;have hpw: ∀i,i < l.length->wIn (p.getD i 0)=true:=fun i hi=>by
   obtain ⟨h1,h2⟩:=v5 i hi;obtain ⟨q0,q1⟩:=ye3 v1 hd hi;rw [h2];exact xq1 q0 q1 h1
  have hm:=MpI.at v1 v3 hpw l.length (zbm _);have hml:=hm.len;refine xe3 ?_;refine jd7 hM (xm9 rfl) rfl rfl (fun bm=> ?_);refine xa5 xb8 qA trivial trivial rfl (xd1 ?_);refine A10 ?_;refine cL (fun (i:Nat)=>i<=l.length) (fun (i:Nat)=>uV (uV (uV (uV (uO uN 3 (.ptr 3 0)) 6 (tE (.map (some bm)))) 17 (tL 7 true tDeal l)) 18 (tI l.length)) 19 (tI i)) (fun (i:Nat)=>uK (uK uN 3 25 3 true [.val (tState o b p)]) 90 (mkII.cd bm (mpS l p i)) 1 false []) [3,90] (fun (i:Nat)=>l.length - i) (0) (zbs _) ?_;intro i hI;refine A6 ?_;refine xa6 rfl (fun h151=> ?_) (fun h151=> ?_)
  ·
   refine A7 ?_;refine R2 (x8 sl22 (i) (by omega) (zai (l:=l) (n:=i) (d:=deal0))) rfl rfl ?_;refine A1 ?_;refine RE (xa3 (k:=8) (n:=7) (agg:=true) zr44.1 zr44.2 rfl) trivial trivial qA ?_;refine A4 ?_;have hmi:=MpI.at v1 v3 hpw i (by omega);have hpi:=xd0.1 (hpw i (by omega));have hbi: -(16*1099511627776)<=entV 0 (mpS l p i) (l.getD i deal0).acc/\entV 0 (mpS l p i) (l.getD i deal0).acc<=16*1099511627776:=by
    rcases ym2 (m:=mpS l p i) (a:=(l.getD i deal0).acc) with h | h
    ·rw [h];omega
    ·have:=hmi.amt _ h;simp only at this;omega
   refine qd3 (n:=10) mixed ?_;refine A3 ?_;refine RE (qt2 hMF hM bm (mpS l p i) (l.getD i deal0).acc) qB qA trivial ?_;refine A3 ?_;refine R2 (x8 sl23 (i) (by omega) (gZ (by omega))) rfl rfl ?_;refine A2 ?_;refine qo7 (by kernel_rfl) (js4 (b:=bm) (l:=(mpS l p i)) (a:=(l.getD i deal0).acc) (v:=(entV 0 (mpS l p i) (l.getD i deal0).acc+p.getD i 0)) hMF hM (xm9 rfl) rfl rfl rfl rfl (xd1 ?_));refine A6 ?_;exact kF (i+1) ⟨(by omega),(by omega)⟩
  ·
   refine A6 ?_;have hil:i=l.length:=by omega
   subst hil;refine A3 ?_;refine R2 (xb7 (r:=tS [⟨1,false,tI 0⟩,⟨1,false,tI o⟩]) (ts:=[(0,tI 0),(1,tI o)]) bu163 zr163.2 (Bc 0 rfl rfl rfl (Bc 1 rfl rfl rfl zao))) rfl rfl (RE (xi0 (k:=38) (ents:=rV tSm [own0 o]) zhf el163 zf163 rfl (fun e he=>by simp only [rV,zcx,zfn,zbq] at he;subst he;infer_instance) rfl rfl rfl) qA trivial qA ?_);refine A5 ?_;refine xe3 ?_;refine xa5 xa4 qA trivial trivial rfl ?_;refine qu6 (b:=bm) (l:=(mpS l p l.length)) underlying243 hM (xm9 rfl) rfl rfl rfl (fun ri=> ?_);refine xd1 ?_;refine A2 ?_;refine cL (fun (q:List Nat)=>q.Nodup/\ ∀i∈q,i < (mpS l p l.length).length) (fun (q:List Nat)=>uV (uO uN 9 (.sl 38 2 0 (vsS o (mpS l p l.length) q).length)) 40 (tE (.pointer (some ⟨ri,0,none⟩)))) (fun (q:List Nat)=>uK (uK uN 38 163 2 true (rV tSm (vsS o (mpS l p l.length) q))) 90 (mkII.ci bm (mpS l p l.length) ri q) 1 false []) [38,90] (fun (q:List Nat)=>lft (mpS l p l.length).length q) ([]) ⟨List.nodup_nil,fun _ h=>by cases h⟩ ?_;intro q hI;obtain ⟨hq1,hq2⟩:=hI;have hql:=qs3 hq1 hq2;refine A1 ?_;refine xe3 ?_;refine jg6 (b:=bm) (l:=(mpS l p l.length)) (r:=ri) (q:=q) hM (xm9 rfl) rfl rfl rfl (fun hend=> ?_) (fun ie ke ve hie hqe=> ?_)
   ·
    refine xa5 (xd9 rfl) qA trivial trivial rfl (xd1 ?_);refine A9 ?_;have hq9:q.length<=l.length:=by have:=(za4 hq1 hq2 hend).length_eq;rw [List.length_range] at this;omega
    refine A2 ?_;refine RE (xe9 (fun _=>38) (jh4 (vsS o (mpS l p l.length) q) (by rw [zs7];omega)) fi228 rfl (krC (ρ:=fun _=>38) (k:=1) xc2 (krN (ρ:=fun _=>38))) (krC (ρ:=fun _=>38) (k:=1) xc2 (krN (ρ:=fun _=>38))) ⟨⟨rfl,xb2⟩,trivial⟩ rfl) qB qA trivial ?_;refine A5 ?_;refine RE (xo2 (f:=tSm) (xs:=srt cfSm (vsS o (mpS l p l.length) q)) (fun _ h=>h) (xn8 zm8) zm8) qA qA trivial ?_;refine A4 ?_;exact ya3 Plain.maps rfl rfl rfl (Le.of (by rw [if_pos hr,ji8 hq1 hq2 hend hm.keys hm.acc])) (zba (by rw [if_pos hr]))
   ·
    obtain ⟨x,rfl,rfl⟩:=mp_sm hm.acc hie;have hil:=(zbi.1 hie).1;have hq3:=q_snoc hq1 hq2 hil hqe;refine xa5 (xd9 rfl) qA trivial trivial rfl (xd1 ?_);refine A7 ?_;refine xe3 ?_;refine jm1 (b:=bm) (l:=(mpS l p l.length)) (r:=ri) (i:=ie) (q:=q) hie hM (xm9 rfl) rfl rfl rfl (xa5 (xd9 rfl) qA trivial trivial rfl (xa5 (xd9 rfl) qA trivial trivial rfl (xa5 xb8 qA trivial trivial rfl (xa5 xb8 qA trivial trivial rfl (xd1 ?_)))));refine A5 ?_;refine R2 (xb7 (r:=tS [⟨1,false,tI x.acc⟩,⟨1,false,tI x.amt⟩]) (ts:=[(0,tI x.acc),(1,tI x.amt)]) bu163 zr163.2 (Bc 0 rfl rfl rfl (Bc 1 rfl rfl rfl zao))) rfl rfl (R1 (xb6 (n:=1) (f:=tSm) [x] zhf el163 zf163 rfl (fun _=>inferInstance) rfl rfl rfl) rfl (RE (xc5 (k:=38) (k':=51) (f:=tSm) (ys:=[x]) (ts':=rV tSm ((vsS o (mpS l p l.length) q)++[x])) zhf el163 zf163 rfl rfl (fun _=>inferInstance) xe0 (by simp [zs7];omega) (by simp [zs7];omega) (by simp [rV]) (n':=(vsS o (mpS l p l.length) q).length+1) rfl) qB qA qA ?_));refine A3 ?_;exact xh0 (l:=[38,90]) (zab 38 51) (q++[ie]) ⟨hq3,(jc8 hil hqe)⟩ (zas rfl ((zbc rfl (zaw (by rw [qg6 hie,zck];rfl))) zbd)) ((zbb rfl zap) ((zbb rfl (zat (by rw [qg6 hie,yz7];exact xc2.symm))) zbe)) (zaj (zak rfl zar)) (zam rfl (supJL rfl) (zam rfl (supJ xb2) zaz)) (lkOk rfl) rfl rfl (fun k h=>by have h:some 90=some k:=h;cases h;rfl)
end An.S
namespace An
open Go
theorem zq1 {x y:Nat} (hx:x < 65536) (hy:y < 65536):x*y<=4294836225:=by
 have:=Nat.mul_le_mul (show x<=65535 by omega) (show y<=65535 by omega);omega
theorem qs4 {b i j c x y s la:Nat} {w0 vs:List Nat} (hl:vs.length=la) (hD:Dig 65536 vs) (hw:w0.length=la) (hdr:vs.drop (i+j)=w0.drop (i+j)) (hij:i+j < la) (hc:c < 65536) (hx:x < 65536) (hy:y=b / 65536 ^ j%65536)
  (hs:s=x*y+vs.getD (i+j) 0+c) (h:val 65536 (vs.take (i+j))+c*65536 ^ (i+j)=val 65536 (w0.take (i+j))+x*65536 ^ i*(b%65536 ^ j)):
  (vs.set (i+j) (s%65536)).length=la/\Dig 65536 (vs.set (i+j) (s%65536))/\(vs.set (i+j) (s%65536)).drop (i+(j+1))=w0.drop (i+(j+1))/\s / 65536 < 65536/\
   val 65536 ((vs.set (i+j) (s%65536)).take (i+(j+1)))+s / 65536*65536 ^ (i+(j+1))=val 65536 (w0.take (i+(j+1)))+x*65536 ^ i*(b%65536 ^ (j+1)):=by
 have hyW:y < 65536:=by rw [hy];exact zcd _ (by decide)
 have hg:vs.getD (i+j) 0 < 65536:=hD.getD (by decide) _;refine ⟨by simpa using hl,hD.set (zcd _ (by decide)),by rw [<-zfq,xf2];exact xj4 hdr (by omega),?_,?_⟩
 ·have:=zq1 hx hyW;refine zdd ?_;show s < 65536*65536;have:vs.getD (i+j) 0 < 65536:=hg;have:c < 65536:=hc;omega
 ·rw [<-zfq,xg0 (by omega),xe6 _ w0 _ (by omega),<-xi3 hdr (zbm _)];exact zz6 h hs hy
theorem qm7 {a b i c la lb:Nat} {w0 vs:List Nat} (hi:i < la) (hw:w0.length=la+lb) (hl:vs.length=la+lb) (hD:Dig 65536 vs) (hdr:vs.drop (i+lb)=w0.drop (i+lb)) (hz:w0.drop (i+lb)=List.replicate (la - i) 0) (hc:c < 65536)
  (h0:val 65536 (w0.take (i+lb))=a%65536 ^ i*b) (hb:b < 65536 ^ lb) (h:val 65536 (vs.take (i+lb))+c*65536 ^ (i+lb)=val 65536 (w0.take (i+lb))+a / 65536 ^ i%65536*65536 ^ i*(b%65536 ^ lb)):
  (vs.set (i+lb) c).length=la+lb/\Dig 65536 (vs.set (i+lb) c)/\(vs.set (i+lb) c).drop (i+1+lb)=List.replicate (la - (i+1)) 0/\val 65536 ((vs.set (i+lb) c).take (i+1+lb))=a%65536 ^ (i+1)*b:=by
 refine ⟨by simpa using hl,hD.set hc,?_,?_⟩
 ·rw [show i+1+lb=i+lb+1 by omega,xf2,xj4 (j:=i+lb+1) hdr (by omega),<-List.drop_drop,hz,zfd];congr 1
 ·rw [show i+1+lb=i+lb+1 by omega,xg0 (by omega),zbz _ c,h,h0,xi1,zbx hb,zch]
  congr 1
  rw [zbz (65536 ^ i)]
theorem qm3 {a b la lb:Nat} {ws:List Nat} (hl:ws.length=la+lb) (hD:Dig 65536 ws) (ha:a < 65536 ^ la) (h:val 65536 (ws.take (la+lb))=a%65536 ^ la*b):trimL ws=dig 65536 (a*b):=by
 rw [xe8 xa0 hD];rw [<-hl,zci,zbx ha] at h;rw [h]
end An
namespace An.S
open Go Go.Proofs An Tryz
instance fi52:FnI Tryz.prog 52:=⟨_,func52,by kernel_rfl,rfl⟩
instance fi135:FnI Tryz.prog 135:=⟨_,func135,by kernel_rfl,rfl⟩
instance fi136:FnI Tryz.prog 136:=⟨_,func136,by kernel_rfl,rfl⟩
instance fi139:FnI Tryz.prog 139:=⟨_,func139,by kernel_rfl,rfl⟩
instance fi140:FnI Tryz.prog 140:=⟨_,func140,by kernel_rfl,rfl⟩
instance fi143:FnI Tryz.prog 143:=⟨_,func143,by kernel_rfl,rfl⟩
instance fi148:FnI Tryz.prog 148:=⟨_,func148,by kernel_rfl,rfl⟩
instance fi217:FnI Tryz.prog 217:=⟨_,func217,by kernel_rfl,rfl⟩
instance fi218:FnI Tryz.prog 218:=⟨_,func218,by kernel_rfl,rfl⟩
instance fi219:FnI Tryz.prog 219:=⟨_,func219,by kernel_rfl,rfl⟩
theorem je4 (a b:Nat) (ha:(dig 65536 a).length<=100000) (hb:(dig 65536 b).length<=100000):
  Ct Tryz.prog 219 [tM a,tM b] (tM (a*b)):=by
 refine Ct.intro func219 rfl ntmps219 rfl ?_;intro w F;have hbW:=xg9 xa0 b;refine A12 ?_;refine RE (xe5 (k:=14) (t:=tE (.int .u16 0)) (ts:=rW .u16 (List.replicate (((dig 65536 a).length+(dig 65536 b).length)) 0)) (((dig 65536 a).length+(dig 65536 b).length)) (((dig 65536 a).length+(dig 65536 b).length)) zgr el64 (fun _ _=>rfl) rfl (by omega) (by omega) (zbm _) (by omega) (by omega) (xp5 _)) qB trivial qA ?_;refine A10 ?_;refine cL (fun (fm:(Nat)×(List Nat))=>(fun (i:Nat) (ws:List Nat)=>i<=(dig 65536 a).length/\ws.length=(dig 65536 a).length+(dig 65536 b).length/\Dig 65536 ws/\ws.drop (i+(dig 65536 b).length)=List.replicate ((dig 65536 a).length - i) 0/\val 65536 (ws.take (i+(dig 65536 b).length))=a%65536 ^ i*b) fm.1 fm.2) (wB fun (i:Nat) (ws:List Nat)=>uV (uO (uV (uV uN 0 (tM a)) 1 (tM b)) 5 (.sl 14 1 0 ((dig 65536 a).length+(dig 65536 b).length))) 6 (tI i)) (wB fun (i:Nat) (ws:List Nat)=>uK uN 14 64 1 false (rW .u16 ws)) [14] (fun (fm:(Nat)×(List Nat))=>(fun (i:Nat) (ws:List Nat)=>(dig 65536 a).length - i) fm.1 fm.2) ((0,List.replicate ((dig 65536 a).length+(dig 65536 b).length) 0)) (by dsimp only;exact ⟨zbs _,by simp,Dig.rep (by decide) _,by rw [zfd];congr 1;omega,by rw [List.take_replicate,xg6,zeg,zfo,zfa]⟩) ?_;intro fm hI;obtain ⟨i,ws⟩:=fm;replace hI:i<=(dig 65536 a).length/\ws.length=(dig 65536 a).length+(dig 65536 b).length/\Dig 65536 ws/\ws.drop (i+(dig 65536 b).length)=List.replicate ((dig 65536 a).length - i) 0/\val 65536 (ws.take (i+(dig 65536 b).length))=a%65536 ^ i*b:=hI;show wc _ _ _ _ (uV (uO (uV (uV uN 0 (tM a)) 1 (tM b)) 5 (.sl 14 1 0 ((dig 65536 a).length+(dig 65536 b).length))) 6 (tI i)) (uK uN 14 64 1 false (rW .u16 ws)) _;obtain ⟨hi,hl,hD,hz,hv⟩:=hI;have hx:=xc1 xa0 a i;have hx1:=(xc3 xa0 a).getD (by omega) i;refine A9 ?_;refine xa6 rfl (fun h66=> ?_) (fun h66=> ?_)
 ·
  refine A16 ?_;refine cL (fun (fm:(Nat)×(List Nat)×(Nat))=>(fun (j:Nat) (vs:List Nat) (c:Nat)=>j<=(dig 65536 b).length/\vs.length=(dig 65536 a).length+(dig 65536 b).length/\Dig 65536 vs/\vs.drop (i+j)=ws.drop (i+j)/\c < 65536/\val 65536 (vs.take (i+j))+c*65536 ^ (i+j)=val 65536 (ws.take (i+j))+(dig 65536 a).getD i 0*65536 ^ i*(b%65536 ^ j)) fm.1 fm.2.1 fm.2.2) (wC fun (j:Nat) (vs:List Nat) (c:Nat)=>uV (uV (uV (uO (uV (uV uN 0 (tM a)) 1 (tM b)) 5 (.sl 14 1 0 ((dig 65536 a).length+(dig 65536 b).length))) 6 (tI i)) 7 (tI c)) 8 (tI j)) (wC fun (j:Nat) (vs:List Nat) (c:Nat)=>uK uN 14 64 1 false (rW .u16 vs)) [14] (fun (fm:(Nat)×(List Nat)×(Nat))=>(fun (j:Nat) (vs:List Nat) (c:Nat)=>(dig 65536 b).length - j) fm.1 fm.2.1 fm.2.2) ((0,ws,0)) (by dsimp only;exact ⟨zbs _,hl,hD,rfl,by omega,by rw [zeg,zfo];omega⟩) ?_;intro fm hJ;obtain ⟨j,vs,c⟩:=fm;replace hJ:j<=(dig 65536 b).length/\vs.length=(dig 65536 a).length+(dig 65536 b).length/\Dig 65536 vs/\vs.drop (i+j)=ws.drop (i+j)/\c < 65536/\val 65536 (vs.take (i+j))+c*65536 ^ (i+j)=val 65536 (ws.take (i+j))+(dig 65536 a).getD i 0*65536 ^ i*(b%65536 ^ j):=hJ;show wc _ _ _ _ (uV (uV (uV (uO (uV (uV uN 0 (tM a)) 1 (tM b)) 5 (.sl 14 1 0 ((dig 65536 a).length+(dig 65536 b).length))) 6 (tI i)) 7 (tI c)) 8 (tI j)) (uK uN 14 64 1 false (rW .u16 vs)) _;obtain ⟨hj,kl,kD,kdr,kc,kv⟩:=hJ;have hy:=xc1 xa0 b j;have hy1:=(xc3 xa0 b).getD (by omega) j;have hw1:=kD.getD (by omega) (i+j);have hxy:=zq1 hx1 hy1;refine A9 ?_;refine xa6 rfl (fun h68=> ?_) (fun h68=> ?_)
  ·
   refine A9 ?_;refine R2 (x8 sl37 (i) (by omega) (gN (by omega))) rfl rfl ?_;refine A1 ?_;refine R1 (x9 zgz (isS zgv) zah) rfl ?_;refine A2 ?_;refine R2 (x8 sl37 (j) (by omega) (gN (by omega))) rfl rfl ?_;refine A1 ?_;refine R1 (x9 zgz (isS zgv) zah) rfl (R2 (xj0 (r:=(((dig 65536 a).getD i 0*(dig 65536 b).getD j 0:Nat):Int)) (by rw [<-zdr,wr64 (by omega) (by omega)])) rfl rfl (R2 (xc9 (r:=((c+(dig 65536 a).getD i 0*(dig 65536 b).getD j 0:Nat):Int)) (by rw [wr64 (by omega) (by omega)];omega)) rfl rfl ?_));refine A4 ?_;refine R2 (zag sl37 rfl) rfl rfl (RE (x7 (i+j) ti64 (xo6 (by omega)) (by omega)) qA qA trivial (R1 (x9 zgz (isS zgv) zah) rfl (R2 (xc9 (r:=(((c+(dig 65536 a).getD i 0*(dig 65536 b).getD j 0+vs.getD (i+j) 0):Nat):Int)) (by rw [wr64 (by omega) (by omega)];omega)) rfl rfl ?_)));refine A10 ?_;refine R2 (xr1 (r:=(((c+(dig 65536 a).getD i 0*(dig 65536 b).getD j 0+vs.getD (i+j) 0)%65536:Nat):Int)) (by decide) (wrem64 (b:=65536))) rfl rfl (R1 (x9 zgv (isS zgz) (wu16 (by omega) (by omega))) rfl (R2 (zag sl37 rfl) rfl rfl (RE (xa8 (i+j) ti64 (xj2 (by omega)) (by omega) (xh1 (m:=_) rfl)) qB qA trivial ?_)));refine A4 ?_;refine R2 (xs3 (r:=(((c+(dig 65536 a).getD i 0*(dig 65536 b).getD j 0+vs.getD (i+j) 0) / 65536:Nat):Int)) (by decide) (iquo64 (b:=65536) (by omega))) rfl rfl ?_;refine A9 ?_;obtain ⟨n1,n2,n3,n4,n5⟩:=qs4 (s:=(c+(dig 65536 a).getD i 0*(dig 65536 b).getD j 0+vs.getD (i+j) 0)) kl kD hl kdr (by omega) kc hx1 hy (by omega) kv;exact kF ((j+1,vs.set (i+j) ((c+(dig 65536 a).getD i 0*(dig 65536 b).getD j 0+vs.getD (i+j) 0)%65536),(c+(dig 65536 a).getD i 0*(dig 65536 b).getD j 0+vs.getD (i+j) 0) / 65536)) ⟨(by dsimp only;exact ⟨by omega,n1,n2,n3,n4,n5⟩),(by dsimp only;omega)⟩
  ·
   have hjb:j=(dig 65536 b).length:=by omega
   refine A12 ?_;refine R1 (x9 zgv (isS zgz) (wu16 (by omega) (by omega))) rfl (R2 (zag sl37 rfl) rfl rfl (RE (xa8 (i+(dig 65536 b).length) ti64 (xj2 (by omega)) (by omega) (xh1 (m:=_) rfl)) qB qA trivial ?_));refine A8 ?_;obtain ⟨n1,n2,n3,n4⟩:=qm7 (by omega) hl kl kD (by rw [<-hjb];exact kdr) hz kc hv hbW (by rw [<-hjb,<-hx];exact kv);exact kF ((i+1,vs.set (i+(dig 65536 b).length) c)) ⟨(by dsimp only;exact ⟨by omega,n1,n2,n3,n4⟩),(by dsimp only;omega)⟩
 ·
  refine A7 ?_;refine RE (xi5 (f:=fun n:Nat=>tE (.int .u16 n)) (xs:=ws) (fun _ h=>h) (xk2 hl) hl) qA qA trivial (R1 (x3 (yi2 _) fi284 rfl) rfl ?_);refine A4 ?_;exact E1 rfl rfl (Le.of (congrArg tLm (qm3 hl hD (xg9 xa0 a) (by rw [<-show i=(dig 65536 a).length by omega];exact hv))))
theorem yz0 (x:Wh):
  Ct Tryz.prog 135 [tWh x] (tB x.valid):=by
 refine Ct.intro func135 rfl ntmps135 rfl ?_;intro w F;refine A15 ?_;refine xa6 rfl (fun h142=> ?_) (fun h142=> ?_)
 ·
  refine A10 ?_;exact E1 rfl rfl (zau (by simp only [Wh.valid];rw [if_pos (by omega)]))
 ·
  refine A3 ?_;refine xj5 (s:=4) rfl (fun hl4=> ?_);refine A6 ?_;refine RGcaseD (t:=14) rfl (fun h145=> ?_) (fun h145=> ?_)
  ·
   refine A5 ?_;refine Rg (zbg h145) rfl (xf9 zah) rfl qB (Rg (zbg h145) rfl (x8 sl37 (x.l.length - 1) (by omega) (gN (by omega))) rfl qB ?_);refine A7 ?_;exact E1 rfl rfl (zau (by simp only [Wh.valid];rw [if_neg (by omega),zbg (show x.l.length<=1024 by omega),zec];exact zfb.2 (by omega)))
  ·
   refine A14 ?_;exact E1 rfl rfl (zau (by simp only [Wh.valid];rw [if_neg (by omega),zbf (show ¬x.l.length<=1024 by omega),zdz]))
theorem rsum1 {x y:Int} (h:((wh x).neg==(wh y).neg)=true):sgn (wh x).neg (x.natAbs+y.natAbs)=x+y:=by
 have h:decide (x < 0)=decide (y < 0):=eq_of_beq h;show sgn (decide (x < 0)) _=_;by_cases hx:x < 0 <;> by_cases hy:y < 0 <;> simp [hx,hy] at h <;> simp [sgn,hx] <;> omega
theorem rsum2 {x y:Int} (h:((wh x).neg==(wh y).neg)=false) (hl:x.natAbs < y.natAbs):sgn (wh y).neg (y.natAbs - x.natAbs)=x+y:=by
 have h:(decide (x < 0)==decide (y < 0))=false:=h;show sgn (decide (y < 0)) _=_;by_cases hx:x < 0 <;> by_cases hy:y < 0 <;> simp [hx,hy] at h <;> simp [sgn,hy] <;> omega
theorem rsum3 {x y:Int} (h:((wh x).neg==(wh y).neg)=false) (hl: ¬x.natAbs < y.natAbs):sgn (wh x).neg (x.natAbs - y.natAbs)=x+y:=by
 have h:(decide (x < 0)==decide (y < 0))=false:=h;show sgn (decide (x < 0)) _=_;by_cases hx:x < 0 <;> by_cases hy:y < 0 <;> simp [hx,hy] at h <;> simp [sgn,hx] <;> omega
theorem rneg1 {x:Int}:sgn (!(wh x).neg) x.natAbs= -x:=by
 show sgn (!decide (x < 0)) _=_;by_cases hx:x < 0 <;> simp [sgn,hx] <;> omega
theorem qu5 (z:Int) (h:len16 z<=1024):Ct Tryz.prog 135 [tWh (wh z)] (tB true):=by
 have:=yz0 (wh z);rw [xw3 h] at this;exact this
theorem zj2 {x:Int}:(wh x).l.length=0↔x=0:=by
 show (dig 65536 x.natAbs).length=0↔_;rw [zco,xe2 xa0];omega
theorem qz4 (x y:Int) (hx:len16 x<=4001) (hy:len16 y<=4001):
  Ct Tryz.prog 217 [tWh (wh x),tWh (wh y)] (tWh (wh (x+y))):=by
 refine Ct.intro func217 rfl ntmps217 rfl ?_;intro w F;refine A4 ?_;refine RE (xa3 (k:=4) (n:=2) (agg:=true) zr39.1 zr39.2 rfl) trivial trivial qA ?_;refine A12 ?_;refine xc7 rfl (fun h198=> ?_) (fun h198=> ?_)
 ·
  refine A8 ?_;refine R2 (x3 (yk4 x.natAbs y.natAbs (by show len16 x<=100000;omega) (by show len16 y<=100000;omega)) fi224 rfl) rfl rfl (R2 (x3 (xi7 _ _) fi155 rfl) rfl rfl ?_);refine A5 ?_;exact EC rfl ⟨_,_,_,_,_,rfl,rfl,ti39,(Le.of (by rw [rsum1 h198]))⟩
 ·
  refine A9 ?_;refine R2 (x3 (zj8 x.natAbs y.natAbs) fi255 rfl) rfl rfl ?_;refine A2 ?_;refine xa6 rfl (fun h201=> ?_) (fun h201=> ?_)
  ·
   refine A8 ?_;refine R2 (x3 (ym4 y.natAbs x.natAbs (by omega) (by show len16 y<=100000;omega)) fi225 rfl) rfl rfl (R2 (x3 (xi7 _ _) fi155 rfl) rfl rfl ?_);refine A5 ?_;exact EC rfl ⟨_,_,_,_,_,rfl,rfl,ti39,(Le.of (by rw [rsum2 h198 h201]))⟩
  ·
   refine A10 ?_;refine R2 (x3 (ym4 x.natAbs y.natAbs (by omega) (by show len16 x<=100000;omega)) fi225 rfl) rfl rfl (R2 (x3 (xi7 _ _) fi155 rfl) rfl rfl ?_);refine A4 ?_;exact EC rfl ⟨_,_,_,_,_,rfl,rfl,ti39,(Le.of (by rw [rsum3 h198 h201]))⟩
theorem qt3 (x:Int):
  Ct Tryz.prog 218 [tWh (wh x)] (tWh (wh (-x))):=by
 refine Ct.intro func218 rfl ntmps218 rfl ?_;intro w F;refine A3 ?_;refine RE (xa3 (k:=2) (n:=2) (agg:=true) zr39.1 zr39.2 rfl) trivial trivial qA ?_;refine A9 ?_;refine R2 (x3 (xi7 _ x.natAbs) fi155 rfl) rfl rfl ?_;refine A4 ?_;exact EC rfl ⟨_,_,_,_,_,rfl,rfl,ti39,(Le.of (by rw [rneg1]))⟩
theorem xm2 (x y:Int) (hx:len16 x<=4001) (hy:len16 y<=4001):
  Ct Tryz.prog 140 [tWh (wh x),tWh (wh y)] (tWh (wh (x*y))):=by
 refine Ct.intro func140 rfl ntmps140 rfl ?_;intro w F;refine A4 ?_;refine RE (xa3 (k:=4) (n:=2) (agg:=true) zr39.1 zr39.2 rfl) trivial trivial qA ?_;refine A13 ?_;refine R2 (x3 (je4 x.natAbs y.natAbs (by show len16 x<=100000;omega) (by show len16 y<=100000;omega)) fi219 rfl) rfl rfl (R2 (x3 (xi7 _ _) fi155 rfl) rfl rfl ?_);refine A4 ?_;exact EC rfl ⟨_,_,_,_,_,rfl,rfl,ti39,(Le.of (by rw [zj9]))⟩
theorem jb3 (x y:Int) (hx:len16 x<=4000) (hy:len16 y<=4000) (hy0:0 < y):
  Ct Tryz.prog 143 [tWh (wh x),tWh (wh y)] (tT [tWh (wh (x / y)),tWh (wh (x%y))]):=by
 have hrl:x.natAbs%y.natAbs < y.natAbs:=zcd _ (by omega);have ey:(wh y).neg=false:=zbf (by omega);have ex:(wh x).neg=decide (x < 0):=rfl;have hql:(dig 65536 (x.natAbs / y.natAbs)).length<=4000:=lenM (Nat.div_le_self _ _) hx;refine Ct.intro func143 rfl ntmps143 rfl ?_;intro w F;refine A4 ?_;refine RE (xa3 (k:=4) (n:=2) (agg:=true) zr39.1 zr39.2 rfl) trivial trivial qA (RE (xa3 (k:=5) (n:=2) (agg:=true) zr39.1 zr39.2 rfl) trivial trivial qA ?_);refine A8 ?_;refine R2 (x3 (yb0 x.natAbs y.natAbs (by omega) hx hy) fi156 rfl) rfl rfl ?_;refine A16 ?_;refine RGcase (t:=21) rfl (fun h240=> ?_) (fun h240=> ?_)
 ·
  have hxn:decide (x < 0)=true:=by have h:=h240;rw [ey,ex] at h;simpa using h
  refine A6 ?_;refine xa6 rfl (fun h240_2=> ?_) (fun h240_2=> ?_)
  ·
   have hr0:x.natAbs%y.natAbs≠0:=fun h=>by rw [h,xc4] at h240_2;simp at h240_2
   have hQR:=xu4 hy0 (Q:=(x.natAbs / y.natAbs+1)) (R:=(y.natAbs - x.natAbs%y.natAbs)) ⟨fun _=>⟨rfl,rfl⟩,fun h=>(h ⟨hxn,hr0⟩).elim⟩;refine A3 ?_;refine R1 (xm7 (n:=1) [1] zgr el64 zf64 rfl rfl rfl) rfl (R2 (x3 (zb0 (x.natAbs / y.natAbs) (by omega)) fi224 rfl) rfl rfl ?_);refine A7 ?_;refine R2 (x3 (ym4 y.natAbs (x.natAbs%y.natAbs) (by omega) (by show len16 y<=100000;omega)) fi225 rfl) rfl rfl ?_;refine A11 ?_;refine R2 (x3 (xi7 _ (x.natAbs / y.natAbs+1)) fi155 rfl) rfl rfl ?_;refine A3 ?_;refine R2 (x3 (xi7 _ (y.natAbs - x.natAbs%y.natAbs)) fi155 rfl) rfl rfl ?_;refine A5 ?_;exact EN (rs:=[.cell 4 39,.cell 5 39]) rfl rfl ⟨⟨_,_,_,_,_,rfl,rfl,ti39,(Le.of (by rw [hQR.1]))⟩,⟨_,_,_,_,_,rfl,rfl,ti39,(Le.of (by rw [hQR.2]))⟩,trivial⟩
  ·
   have hr0:x.natAbs%y.natAbs=0:=(xe2 xa0).1 (zco.1 (by omega));have hQR:=xu4 hy0 (Q:=(x.natAbs / y.natAbs)) (R:=(x.natAbs%y.natAbs)) ⟨fun h=>(h.2 hr0).elim,fun _=>⟨rfl,rfl⟩⟩;refine A10 ?_;refine R2 (x3 (xi7 _ (x.natAbs / y.natAbs)) fi155 rfl) rfl rfl ?_;refine A3 ?_;refine R2 (x3 (xi7 _ (x.natAbs%y.natAbs)) fi155 rfl) rfl rfl ?_;refine A5 ?_;exact EN (rs:=[.cell 4 39,.cell 5 39]) rfl rfl ⟨⟨_,_,_,_,_,rfl,rfl,ti39,(Le.of (by rw [hQR.1]))⟩,⟨_,_,_,_,_,rfl,rfl,ti39,(Le.of (by rw [hQR.2]))⟩,trivial⟩
 ·
  have hxn: ¬decide (x < 0)=true:=by have h:=h240;rw [ey,ex] at h;simpa using h
  have hQR:=xu4 hy0 (Q:=(x.natAbs / y.natAbs)) (R:=(x.natAbs%y.natAbs)) ⟨fun h=>(hxn h.1).elim,fun _=>⟨rfl,rfl⟩⟩;refine A17 ?_;refine R2 (x3 (xi7 _ (x.natAbs / y.natAbs)) fi155 rfl) rfl rfl ?_;refine A3 ?_;refine R2 (x3 (xi7 _ (x.natAbs%y.natAbs)) fi155 rfl) rfl rfl ?_;refine A5 ?_;exact EN (rs:=[.cell 4 39,.cell 5 39]) rfl rfl ⟨⟨_,_,_,_,_,rfl,rfl,ti39,(Le.of (by rw [hQR.1]))⟩,⟨_,_,_,_,_,rfl,rfl,ti39,(Le.of (by rw [hQR.2]))⟩,trivial⟩
theorem c_RInt (z:Int) (hz:len16 z<=1024):
  Ct Tryz.prog 144 [tWh (wh z)] (tT [tI (if fits z then z else 0),tI (if fits z then 0 else 3)]):=by
 have hzl:(wh z).l.length<=1024:=hz;have hD:Dig 65536 (wh z).l:=xc3 xa0 _;refine Ct.intro func144 rfl ntmps144 rfl ?_;intro w F;refine A11 ?_;refine R1 (x3 (qu5 z hz) fi135 rfl) rfl ?_;refine A15 ?_;refine xa6 rfl (fun h180=> ?_) (fun h180=> ?_)
 ·
  have hf:fits z=false:=zt8 (by show 4 < (wh z).l.length;omega);refine A8 ?_;exact E2 rfl rfl rfl (zba (by rw [hf];rfl)) (zba (by rw [hf];rfl))
 ·
  have hlt:z.natAbs < 18446744073709551616:=zt1 (by show (wh z).l.length<=4;omega);have hl4:(wh z).l.length<=4:=by omega
  refine A18 ?_;refine cL (fun (k:Nat)=>k<=(wh z).l.length) (fun (k:Nat)=>uV (uV (uO uN 1 (.ptr 1 0)) 4 (tE (.int .u64 ((val 65536 ((wh z).l.drop k):Nat):Int)))) 5 (tI ((k:Int) - 1))) (fun (k:Nat)=>uK uN 1 39 2 true [.val (tWh (wh z))]) [1] (fun (k:Nat)=>k) ((wh z).l.length) (zbm _) (hg:=(sI (Sub.le rfl (zba (by rw [List.drop_length];rfl)) (sC zay)))) ?_;intro k hI;refine A7 ?_;refine xa6 rfl (fun h184=> ?_) (fun h184=> ?_)
  ·
   obtain ⟨j,rfl⟩: ∃j,k=j+1:=⟨k - 1,by omega⟩
   have hv:=xo8 (hD.drop (j+1));rw [List.length_drop] at hv;have hk1:65536 ^ ((wh z).l.length - (j+1))<=65536 ^ 3:=Nat.pow_le_pow_right (by decide) (by omega);have hw:=hD.getD (by decide) j;have hst:=xj7 65536 (wh z).l j (by omega);rw [zbz] at hst;have hv48:val 65536 ((wh z).l.drop (j+1)) < 281474976710656:=by omega
   refine A6 ?_;refine R2 (xj0 (r:=((val 65536 ((wh z).l.drop (j+1))*65536:Nat):Int)) (by rw [wu64 (by omega) (by omega)];omega)) rfl rfl ?_;refine A3 ?_;refine R2 (x8 sl37 (j) (by omega) (gN (by omega))) rfl rfl ?_;refine A1 ?_;refine R1 (x9 zgw (isS zgv) (by first | exact wu64 (by omega) (by omega) | exact mu64)) rfl (R2 (xc9 (r:=((val 65536 ((wh z).l.drop (j+1))*65536+(wh z).l.getD j 0:Nat):Int)) (by rw [wu64 (by omega) (by omega)];omega)) rfl rfl ?_);refine A9 ?_;exact kF (j) ⟨(by omega),(by omega)⟩ (hg:=(sI (Sub.le rfl (zba (by rw [hst,Nat.add_comm])) (sC zay))))
  ·
   refine A7 ?_;have hk0:k=0:=by omega
   subst hk0;have hval:val 65536 ((wh z).l.drop 0)=z.natAbs:=by rw [List.drop_zero];exact xk4 xa0 _
   rw [hval];refine A4 ?_;refine RGcase (t:=32) rfl (fun h187=> ?_) (fun h187=> ?_)
   ·
    have hz0:z < 0:=zdt h187;refine A5 ?_;refine xa6 rfl (fun h187_2=> ?_) (fun h187_2=> ?_)
    ·
     have hf:fits z=true:=by simp only [fits,zcf,zee];omega
     refine A3 ?_;refine R1 (yb4 (negU64 (by omega))) rfl (R1 (x9 zgz (isS zgw) (toI64 (zcd _ (by decide)))) rfl ?_);refine A6 ?_;exact E2 rfl rfl rfl (zba (by rw [hf];simp only [↓reduceIte];split <;> omega)) (zba (by rw [hf];rfl))
    ·
     have hf:fits z=false:=by simp only [fits,Bool.and_eq_false_iff,decide_eq_false_iff_not];omega
     refine A9 ?_;refine RGoff (by simp [h187]) rfl rfl (RGoff (by simp [h187]) rfl rfl (R2 (xc8 (by simp [h187])) rfl rfl ?_));refine A12 ?_;exact E2 rfl rfl rfl (zba (by rw [hf];rfl)) (zba (by rw [hf];rfl))
   ·
    have hz0: ¬z < 0:=of_decide_eq_false h187;refine A15 ?_;refine Rg (by simp [h187]) rfl xa4 rfl qA (Rg (by simp [h187]) rfl yo2 rfl qB (R2 (xm0 (by simp [h187])) rfl rfl ?_));refine A2 ?_;refine xa6 rfl (fun h190_2=> ?_) (fun h190_2=> ?_)
    ·
     have hf:fits z=true:=by simp only [fits,zcf,zee];omega
     refine A3 ?_;refine R1 (x9 zgz (isS zgw) (toI64 (by omega))) rfl ?_;refine A6 ?_;exact E2 rfl rfl rfl (zba (by rw [hf];simp only [↓reduceIte];split <;> omega)) (zba (by rw [hf];rfl))
    ·
     have hf:fits z=false:=by simp only [fits,Bool.and_eq_false_iff,decide_eq_false_iff_not];omega
     refine A9 ?_;exact E2 rfl rfl rfl (zba (by rw [hf];rfl)) (zba (by rw [hf];rfl))
theorem je2 (x y:Int) (hx:len16 x<=4000) (hy:len16 y<=4000):
  Ct Tryz.prog 139 [tWh (wh x),tWh (wh y)] (tI (cmpZ x y)):=by
 have hny:=len16_neg y;refine Ct.intro func139 rfl ntmps139 rfl ?_;intro w F;refine A11 ?_;refine R1 (x3 (qt3 y) fi218 rfl) rfl (R2 (x3 (qz4 x (-y) (by omega) (by omega)) fi217 rfl) rfl rfl (RE (xa3 (k:=5) (n:=2) (agg:=true) zr39.1 zr39.2 rfl) trivial trivial qA ?_));refine A10 ?_;refine xc7 rfl (fun h280=> ?_) (fun h280=> ?_)
 ·
  have hlt:x+ -y < 0:=zdt h280;refine A7 ?_;exact E1 rfl rfl (zba (by rw [cmpZ,if_pos (by omega)]))
 ·
  have hlt: ¬x+ -y < 0:=of_decide_eq_false h280;refine A11 ?_;refine xa6 rfl (fun h283=> ?_) (fun h283=> ?_)
  ·
   have hne:x+ -y≠0:=fun h=>by have:=zj2.2 h;omega
   refine A7 ?_;exact E1 rfl rfl (zba (by rw [cmpZ,if_neg (by omega),if_neg (by omega)]))
  ·
   have hne:x+ -y=0:=zj2.1 (by omega);refine A8 ?_;exact E1 rfl rfl (zba (by rw [cmpZ,if_neg (by omega),if_pos (by omega)]))
theorem jk6 (f:Fr):
  Ct Tryz.prog 136 [tFr f] (tB f.sh):=by
 refine Ct.intro func136 rfl ntmps136 rfl ?_;intro w F;refine A10 ?_;refine xj6 (0) ti37 rfl rfl rfl (At.t (At.g 0 rfl rfl) (At.g 1 rfl rfl)) rfl ?_;refine A3 ?_;refine RGcaseD (t:=8) rfl (fun h27=> ?_) (fun h27=> ?_)
 ·
  refine A2 ?_;refine xg1 (zbg h27) rfl rfl (0) ti37 rfl rfl rfl (At.t (At.g 1 rfl rfl) (At.g 1 rfl rfl)) rfl ?_;refine A7 ?_;exact E1 rfl rfl (zau (by rw [Fr.sh,zbg (show f.n.l.length<=256 by omega),zec];exact zfb.2 (by omega)))
 ·
  refine A10 ?_;exact E1 rfl rfl (zau (by rw [Fr.sh,zbf (show ¬f.n.l.length<=256 by omega)];rfl))
theorem jf0 {x y:Int}:decide (dig 65536 (Nat.gcd x.natAbs y.natAbs)=[1])=decide (Int.gcd x y=1):=by
 have h1:dig 65536 1=[1]:=by rw [xk7 xa0 (by decide),show (1:Nat) / 65536=0 by decide,xc4]
 refine zfb.2 ⟨fun h=> ?_,fun h=> ?_⟩
 ·rw [<-h1] at h;have h2:=congrArg (val 65536) h;rw [xk4 xa0,xk4 xa0] at h2;exact h2
 ·have h:Nat.gcd x.natAbs y.natAbs=1:=h;rw [h,h1]
theorem jh8 {a b:Rat}:Rat.divInt (a.num*b.num) ((a.den:Int)*(b.den:Int))=a*b:=by
 rw [Rat.mul_def,<-zdr,Rat.divInt_ofNat,Rat.normalize_eq_mkRat]
theorem qr2 (f:Fr) (hn:Dig 65536 f.n.l) (hd:Dig 65536 f.d.l):
  Ct Tryz.prog 52 [tFr f] (tB f.valid):=by
 obtain ⟨n,d⟩:=f;replace hn:Dig 65536 n.l:=hn;replace hd:Dig 65536 d.l:=hd;refine Ct.intro func52 rfl ntmps52 rfl ?_;intro w F;refine A11 ?_;refine R1 (x3 (yz0 n) fi135 rfl) rfl ?_;refine A2 ?_;refine RGcase (t:=7) rfl (fun h39=> ?_) (fun h39=> ?_)
 ·
  have hv1:n.valid=false:=by simpa using h39
  refine A18 ?_;refine A14 ?_;exact E1 rfl rfl (zau (by simp only [Fr.valid,hv1,Bool.and_false,zdz]))
 ·
  have hv1:n.valid=true:=by simpa using h39
  refine A2 ?_;refine Rg h39 rfl (x3 (yz0 d) fi135 rfl) rfl qA ?_;refine A3 ?_;refine RGcase (t:=13) rfl (fun h39_2=> ?_) (fun h39_2=> ?_)
  ·
   have hv2:d.valid=false:=by simpa using h39_2
   refine A18 ?_;refine A8 ?_;exact E1 rfl rfl (zau (by simp only [Fr.valid,hv2,Bool.and_false,zdz]))
  ·
   have hv2:d.valid=true:=by simpa using h39_2
   obtain ⟨x,rfl,hxl⟩:=Wh.of_valid hn hv1;obtain ⟨y,rfl,hyl⟩:=Wh.of_valid hd hv2;have ix:=xq7 x;have iy:=xq7 y;refine A1 ?_;refine Rg h39_2 rfl (x3 (jk6 _) fi136 rfl) rfl qA ?_;refine A3 ?_;refine RGcase (t:=18) rfl (fun h39_3=> ?_) (fun h39_3=> ?_)
   ·
    have hs:(⟨wh x,wh y⟩:Fr).sh=false:=by simpa using h39_3
    refine A18 ?_;refine A3 ?_;exact E1 rfl rfl (zau (by simp only [Fr.valid,hs,zdz]))
   ·
    have hs:(⟨wh x,wh y⟩:Fr).sh=true:=by simpa using h39_3
    refine A2 ?_;refine xg1 h39_3 rfl rfl (0) ti4 rfl rfl rfl (At.t (At.g 1 rfl rfl) (At.g 0 rfl rfl)) rfl ?_;refine A2 ?_;refine RGcase (t:=23) rfl (fun h39_4=> ?_) (fun h39_4=> ?_)
    ·
     have hy0: ¬0 < y:=by have:y < 0:=zdt h39_4;omega
     refine A16 ?_;exact E1 rfl rfl (zau (by simp only [Fr.valid,ix,iy,zbf hy0,Bool.and_false,zdz]))
    ·
     refine A2 ?_;refine xg1 h39_4 rfl rfl (0) ti37 rfl rfl rfl (At.t (At.g 1 rfl rfl) (At.g 1 rfl rfl)) rfl ?_;refine A5 ?_;refine xa6 rfl (fun h39_5=> ?_) (fun h39_5=> ?_)
     ·
      have h5:(((wh y).l.length:Nat):Int)=0:=h39_5;have hy0: ¬0 < y:=fun h=>by have:=zj2.1 (show (wh y).l.length=0 by omega);omega
      refine A7 ?_;exact E1 rfl rfl (zau (by simp only [Fr.valid,ix,iy,zbf hy0,Bool.and_false,zdz]))
     ·
      have h5: ¬(((wh y).l.length:Nat):Int)=0:=h39_5;have hy0:0 < y:=zm5 h39_4 (by omega);refine A6 ?_;refine xj6 (0) ti37 rfl rfl rfl (At.t (At.g 0 rfl rfl) (At.g 1 rfl rfl)) rfl ?_;refine A2 ?_;refine xj6 (0) ti37 rfl rfl rfl (At.t (At.g 1 rfl rfl) (At.g 1 rfl rfl)) rfl (R2 (x3 (zn9 x.natAbs y.natAbs (by show len16 x<=4000;omega) (by show len16 y<=4000;omega)) fi138 rfl) rfl rfl (R1 (x3 (qu9 _) fi137 rfl) rfl ?_));refine A4 ?_;exact E1 rfl rfl (zau (by simp only [Fr.valid,ix,iy,hs,hv1,hv2,zbg hy0,zec];exact jf0))
theorem qo1 (a b:Rat) (ha:short a) (hb:short b):
  Ct Tryz.prog 148 [tFr (fr a),tFr (fr b)] (tFr (fr (a*b))):=by
 obtain ⟨an,ad⟩:=ha;obtain ⟨bn,bd⟩:=hb;have ha:short a:=⟨an,ad⟩
 have hb:short b:=⟨bn,bd⟩
 have da:=a.den_nz;have db:=b.den_nz;have l1:=len16_mul an bn;have l2:=len16_mul ad bd;refine Ct.intro func148 rfl ntmps148 rfl ?_;intro w F;refine A4 ?_;refine RE (xa3 (k:=4) (n:=4) (agg:=true) zr41.1 zr41.2 rfl) trivial trivial qA ?_;refine A8 ?_;refine R2 (x3 (xm2 a.num b.num (by omega) (by omega)) fi140 rfl) rfl rfl ?_;refine A4 ?_;refine R2 (x3 (xm2 (a.den:Int) (b.den:Int) (by omega) (by omega)) fi140 rfl) rfl rfl (R2 (x3 (ys7 (a.num*b.num) ((a.den:Int)*(b.den:Int)) (by omega) (by omega) (Int.mul_ne_zero (by omega) (by omega))) fi70 rfl) rfl rfl ?_);refine A4 ?_;exact EC rfl ⟨_,_,_,_,_,rfl,rfl,ti41,(Le.of (by rw [jh8]))⟩
theorem qq3 (a b:Rat) (ha:short a) (hb:short b):
  Ct Tryz.prog 53 [tFr (fr a),tFr (fr b)] (tI (cmpQ a b)):=by
 obtain ⟨an,ad⟩:=ha;obtain ⟨bn,bd⟩:=hb;have ha:short a:=⟨an,ad⟩
 have hb:short b:=⟨bn,bd⟩
 have da:=a.den_nz;have db:=b.den_nz;have l1:=len16_mul an bd;have l2:=len16_mul bn ad;refine Ct.intro func53 rfl ntmps53 rfl ?_;intro w F;refine A13 ?_;refine R2 (x3 (xm2 a.num (b.den:Int) (by omega) (by omega)) fi140 rfl) rfl rfl ?_;refine A4 ?_;refine R2 (x3 (xm2 b.num (a.den:Int) (by omega) (by omega)) fi140 rfl) rfl rfl (R2 (x3 (je2 (a.num*(b.den:Int)) (b.num*(a.den:Int)) (by omega) (by omega)) fi139 rfl) rfl rfl ?_);refine A4 ?_;exact E1 rfl rfl (zba (qe4 a b))
theorem xs0 (n:Int) (h1: -9223372036854775808<=n) (h2:n<=9223372036854775807):
  Ct Tryz.prog 23 [tI n] (tFr (fr (n:Rat))):=by
 refine Ct.intro func23 rfl ntmps23 rfl ?_;intro w F;refine A2 ?_;refine RE (xa3 (k:=2) (n:=4) (agg:=true) zr41.1 zr41.2 rfl) trivial trivial qA ?_;refine A5 ?_;refine R1 (x3 (xv1 n h1 h2) fi71 rfl) rfl (R1 (x3 (xv1 1 (by decide) (by decide)) fi71 rfl) rfl (R2 (xb7 (r:=tS [⟨2,true,tWh (wh n)⟩,⟨2,true,tWh (wh 1)⟩]) (ts:=[(0,tWh (wh n)),(1,tWh (wh 1))]) bu41 zr41.2 (Bc 0 rfl rfl rfl (Bc 1 rfl rfl rfl zao))) rfl rfl ?_));refine A4 ?_;exact EC rfl ⟨_,_,_,_,_,rfl,rfl,ti41,(Le.of (by rw [fr,Rat.num_intCast,Rat.den_intCast];rfl))⟩
instance ti34:TyI Tryz.prog 34 3 true:=⟨by kernel_rfl,by kernel_rfl⟩
instance ti79:TyI Tryz.prog 79 7 true:=⟨by kernel_rfl,by kernel_rfl⟩
instance sl30:SlI Tryz.prog 30 79 7 true:=⟨zhg,ti79⟩
instance fo34_0:FoI Tryz.prog 34 0 0:=⟨by kernel_rfl⟩
instance fo34_1:FoI Tryz.prog 34 1 1:=⟨by kernel_rfl⟩
instance fo34_2:FoI Tryz.prog 34 2 2:=⟨by kernel_rfl⟩
instance fo79_0:FoI Tryz.prog 79 0 0:=⟨by kernel_rfl⟩
instance fo79_1:FoI Tryz.prog 79 1 1:=⟨by kernel_rfl⟩
instance fo79_2:FoI Tryz.prog 79 2 2:=⟨by kernel_rfl⟩
instance fo79_3:FoI Tryz.prog 79 3 6:=⟨by kernel_rfl⟩
instance fi14:FnI Tryz.prog 14:=⟨_,func14,by kernel_rfl,rfl⟩
instance fi23:FnI Tryz.prog 23:=⟨_,func23,by kernel_rfl,rfl⟩
instance fi53:FnI Tryz.prog 53:=⟨_,func53,by kernel_rfl,rfl⟩
instance fi56:FnI Tryz.prog 56:=⟨_,func56,by kernel_rfl,rfl⟩
instance fi57:FnI Tryz.prog 57:=⟨_,func57,by kernel_rfl,rfl⟩
instance fi144:FnI Tryz.prog 144:=⟨_,func144,by kernel_rfl,rfl⟩
theorem zr34:(Tryz.prog.info? 34).bind (·.zero)=some (.agg #[.int .i64 0,.slice none 0 0,.slice none 0 0])/\ ∀F w,(tS [⟨1,false,(tE (.int .i64 0))⟩,⟨1,false,(tIs [])⟩,⟨1,false,(tIs [])⟩]).p F w (.agg #[.int .i64 0,.slice none 0 0,.slice none 0 0]):=⟨by kernel_rfl,fun _ _=>⟨_,rfl,rfl,⟨fun _=>rfl,rfl⟩,⟨fun _=>rfl,⟨none,0,rfl,zbm _,by decide,.inl rfl⟩⟩,⟨fun _=>rfl,⟨none,0,rfl,zbm _,by decide,.inl rfl⟩⟩,trivial⟩⟩
theorem zr79:(Tryz.prog.info? 79).bind (·.zero)=some (.agg #[.int .i64 0,.int .i64 0,.bool false,.slice none 0 0,.bool false,.slice none 0 0,.int .i64 0])/\ ∀F w,(tS [⟨1,false,(tE (.int .i64 0))⟩,⟨1,false,(tE (.int .i64 0))⟩,⟨4,true,zad⟩,⟨1,false,(tE (.int .i64 0))⟩]).p F w (.agg #[.int .i64 0,.int .i64 0,.bool false,.slice none 0 0,.bool false,.slice none 0 0,.int .i64 0]):=⟨by kernel_rfl,fun _ _=>⟨_,rfl,rfl,⟨fun _=>rfl,rfl⟩,⟨fun _=>rfl,rfl⟩,⟨fun h=>Bool.noConfusion h,⟨_,rfl,rfl,⟨fun h=>Bool.noConfusion h,⟨_,rfl,rfl,⟨fun _=>rfl,rfl⟩,⟨fun _=>rfl,⟨none,0,rfl,zbm _,by decide,.inl rfl⟩⟩,trivial⟩⟩,⟨fun h=>Bool.noConfusion h,⟨_,rfl,rfl,⟨fun _=>rfl,rfl⟩,⟨fun _=>rfl,⟨none,0,rfl,zbm _,by decide,.inl rfl⟩⟩,trivial⟩⟩,trivial⟩⟩,⟨fun _=>rfl,rfl⟩,trivial⟩⟩
theorem bu34:BuI Tryz.prog 34 (fun i=>[(0,1),(1,1),(2,1)][i]?) (.agg #[.int .i64 0,.slice none 0 0,.slice none 0 0]):=BuI.struct underlying34 (by kernel_rfl) (by kernel_rfl)
instance un30:UnI Tryz.prog 30 (.slice 79):=⟨zhg⟩
theorem qk8 (f:Fr) (hf:f.dig) (vf:f.valid=true):Ct Tryz.prog 53 [tFr f,tFr (fr ((1:Int):Rat))] (tI (cmpQ f.rat 1)):=by
 obtain ⟨e,s⟩:=Fr.of_valid' hf vf;have h:=qq3 f.rat ((1:Int):Rat) s ys4;rw [<-e] at h;exact h
theorem jc6 {l:List Deal} {k:Nat} (hd: ∀d∈l,d.share.dig) (hk:k < l.length):(l.getD k deal0).share.dig:=by
 have e:l.getD k deal0=l[k]:=by simp [hk]
 rw [e];exact hd _ (zdw hk)
theorem xu8 (n:Int):
  Ct Tryz.prog 56 [tI n] (tB (wIn n)):=by
 refine Ct.intro func56 rfl ntmps56 rfl ?_;intro w F;refine A10 ?_;refine RGcaseD (t:=5) rfl (fun h47=> ?_) (fun h47=> ?_)
 ·
  refine A7 ?_;exact E1 rfl rfl (zau (by simp [wIn, *]))
 ·
  refine A7 ?_;exact E1 rfl rfl (zau (by simp [wIn, *]))
theorem ya9 (l:List Deal) (hD: ∀d∈l,d.share.dig):
  Ct Tryz.prog 14 [tL 7 true tDeal l] (tB (validL l)):=by
 refine Ct.intro func14 rfl ntmps14 rfl ?_;intro w F;refine xj5 (s:=0) rfl (fun hl0=> ?_);refine A13 ?_;refine xa6 rfl (fun h31=> ?_) (fun h31=> ?_)
 ·
  refine A7 ?_;exact E1 rfl rfl (zau (by rw [validL,zbf (by omega),zdz]))
 ·
  refine A9 ?_;refine cL (fun (i:Nat)=>i<=l.length/\(l.take i).all Deal.valid=true) (fun (i:Nat)=>uV (uV uN 0 (tL 7 true tDeal l)) 3 (tI i)) (fun (i:Nat)=>fun _=>none) [] (fun (i:Nat)=>l.length - i) (0) ⟨zbs _,rfl⟩ ?_;intro i hI;obtain ⟨hi,ha⟩:=hI;refine A9 ?_;refine xa6 rfl (fun h34=> ?_) (fun h34=> ?_)
  ·
   refine A8 ?_;refine R2 (x8 sl30 (i) (by omega) (zai (l:=l) (n:=i) (d:=deal0))) rfl rfl ?_;refine A1 ?_;refine RE (xa3 (k:=4) (n:=7) (agg:=true) zr79.1 zr79.2 rfl) trivial trivial qA ?_;refine A10 ?_;refine RGcaseD (t:=21) rfl (fun h36=> ?_) (fun h36=> ?_)
   ·
    have hbad:(l.getD i deal0).valid=false:=Bool.eq_false_iff.2 fun h=>by have hv:=Deal.valid_iff.1 h;omega
    refine A18 ?_;refine A18 ?_;exact E1 rfl rfl (zau (by rw [validL,xf0 (l:=l) (i:=i) (d:=deal0) (by omega) hbad,Bool.and_false]))
   ·
    refine A7 ?_;refine RGcaseD (t:=28) rfl (fun h36_2=> ?_) (fun h36_2=> ?_)
    ·
     have hbad:(l.getD i deal0).valid=false:=Bool.eq_false_iff.2 fun h=>by have hv:=Deal.valid_iff.1 h;omega
     refine A18 ?_;refine A11 ?_;exact E1 rfl rfl (zau (by rw [validL,xf0 (l:=l) (i:=i) (d:=deal0) (by omega) hbad,Bool.and_false]))
    ·
     refine A5 ?_;refine RGcaseD (t:=33) rfl (fun h36_3=> ?_) (fun h36_3=> ?_)
     ·
      have hbad:(l.getD i deal0).valid=false:=Bool.eq_false_iff.2 fun h=>by have hv:=Deal.valid_iff.1 h;omega
      refine A18 ?_;refine A6 ?_;exact E1 rfl rfl (zau (by rw [validL,xf0 (l:=l) (i:=i) (d:=deal0) (by omega) hbad,Bool.and_false]))
     ·
      refine A5 ?_;refine RGcaseD (t:=38) rfl (fun h36_4=> ?_) (fun h36_4=> ?_)
      ·
       have hbad:(l.getD i deal0).valid=false:=Bool.eq_false_iff.2 fun h=>by have hv:=Deal.valid_iff.1 h;omega
       refine A18 ?_;refine A1 ?_;exact E1 rfl rfl (zau (by rw [validL,xf0 (l:=l) (i:=i) (d:=deal0) (by omega) hbad,Bool.and_false]))
      ·
       refine A6 ?_;refine xa6 rfl (fun h36_5=> ?_) (fun h36_5=> ?_)
       ·
        have hbad:(l.getD i deal0).valid=false:=Bool.eq_false_iff.2 fun h=>by have hv:=Deal.valid_iff.1 h;omega
        refine A12 ?_;exact E1 rfl rfl (zau (by rw [validL,xf0 (l:=l) (i:=i) (d:=deal0) (by omega) hbad,Bool.and_false]))
       ·
        refine A3 ?_;have hdg:=hD _ (xp9 (l:=l) (i:=i) (d:=deal0) (by omega));refine A4 ?_;refine xj6 (0) ti37 rfl rfl rfl (At.t (At.g 2 rfl rfl) (At.t (At.g 0 rfl rfl) (At.g 1 rfl rfl))) rfl ?_;refine A3 ?_;refine RGcaseD (t:=49) rfl (fun h39=> ?_) (fun h39=> ?_)
        ·
         have hbad:(l.getD i deal0).valid=false:=Bool.eq_false_iff.2 fun h=>by have hv:=Deal.valid_iff.1 h;omega
         refine A18 ?_;refine A18 ?_;refine A4 ?_;exact E1 rfl rfl (zau (by rw [validL,xf0 (l:=l) (i:=i) (d:=deal0) (by omega) hbad,Bool.and_false]))
        ·
         refine A3 ?_;refine xg1 (zbf h39) rfl rfl (0) ti37 rfl rfl rfl (At.t (At.g 2 rfl rfl) (At.t (At.g 1 rfl rfl) (At.g 1 rfl rfl))) rfl ?_;refine A4 ?_;refine RGcaseD (t:=57) rfl (fun h39_2=> ?_) (fun h39_2=> ?_)
         ·
          have hbad:(l.getD i deal0).valid=false:=Bool.eq_false_iff.2 fun h=>by have hv:=Deal.valid_iff.1 h;omega
          refine A18 ?_;refine A14 ?_;exact E1 rfl rfl (zau (by rw [validL,xf0 (l:=l) (i:=i) (d:=deal0) (by omega) hbad,Bool.and_false]))
         ·
          refine A3 ?_;refine xg1 (zbf h39_2) rfl rfl (0) ti4 rfl rfl rfl (At.t (At.g 2 rfl rfl) (At.t (At.g 0 rfl rfl) (At.g 0 rfl rfl))) rfl ?_;refine A2 ?_;refine RGcase (t:=63) rfl (fun h39_3=> ?_) (fun h39_3=> ?_)
          ·
           have hbad:(l.getD i deal0).valid=false:=Bool.eq_false_iff.2 fun h=>by have hv:=Deal.valid_iff.1 h;have h4:=hv.2.2.2.2.1;simp_all
           refine A18 ?_;refine A8 ?_;exact E1 rfl rfl (zau (by rw [validL,xf0 (l:=l) (i:=i) (d:=deal0) (by omega) hbad,Bool.and_false]))
          ·
           have hng:(l.getD i deal0).share.n.neg=false:=h39_3;refine A2 ?_;refine Rg h39_3 rfl (x3 (qr2 _ hdg.1 hdg.2) fi52 rfl) rfl qA ?_;refine A3 ?_;refine RGcase (t:=69) rfl (fun h39_4=> ?_) (fun h39_4=> ?_)
           ·
            have hv:(l.getD i deal0).share.valid=false:=by simpa using h39_4
            have hbad:(l.getD i deal0).valid=false:=Bool.eq_false_iff.2 fun h=>by have hv:=Deal.valid_iff.1 h;have h4:=hv.2.2.2.1;simp_all
            refine A18 ?_;refine A2 ?_;exact E1 rfl rfl (zau (by rw [validL,xf0 (l:=l) (i:=i) (d:=deal0) (by omega) hbad,Bool.and_false]))
           ·
            have hv:(l.getD i deal0).share.valid=true:=by simpa using h39_4
            refine A2 ?_;refine Rg h39_4 rfl (x3 (xs0 1 (by decide) (by decide)) fi23 rfl) rfl qA (Rg h39_4 rfl (x3 (qk8 _ hdg hv) fi53 rfl) rfl qB ?_);refine A4 ?_;refine xa6 rfl (fun h39_5=> ?_) (fun h39_5=> ?_)
            ·
             have hgt:=ym3.1 h39_5;have hbad:(l.getD i deal0).valid=false:=Bool.eq_false_iff.2 fun h=>by have hv:=Deal.valid_iff.1 h;exact hgt hv.2.2.2.2.2.1
             refine A11 ?_;exact E1 rfl rfl (zau (by rw [validL,xf0 (l:=l) (i:=i) (d:=deal0) (by omega) hbad,Bool.and_false]))
            ·
             have hle:(l.getD i deal0).share.rat<=1:=zgk fun h=>h39_5 (ym3.2 h);refine A8 ?_;have hok:(l.getD i deal0).valid=true:=Deal.valid_iff.2 ⟨by omega,by omega,by omega,hv,hng,hle,by omega,by omega,by omega,by omega⟩;exact kF (i+1) ⟨⟨by omega,by rw [ya7 (l:=l) (i:=i) (d:=deal0) (by omega),ha,hok];rfl⟩,(by omega)⟩
  ·
   refine A11 ?_;exact E1 rfl rfl (zau (by rw [validL,zbg (by omega),zec,<-ha,show i=l.length by omega,zci]))
theorem zk9 (d:Deal) (hD:d.share.dig) (hv:d.valid=true) (n:Int) (hn:wIn n=true):
  Ct Tryz.prog 57 [tDeal d,tI n] (tI (take d.share.rat n)):=by
 obtain ⟨lo,hi,sh,ac⟩:=d;obtain ⟨_,_,_,v1,v2,v3,v4,v5,_⟩:=Deal.valid_iff.1 hv;obtain ⟨e,_⟩:=Fr.of_valid' hD v1;obtain ⟨n1,n2⟩:=xd0.1 hn;have q0:=zn4 hD v1 v2;show Ct _ _ [tDeal ⟨lo,hi,sh,ac⟩,tI n] (tI (take sh.rat n));replace e:sh=fr sh.rat:=e;replace v3:sh.rat<=1:=v3;replace q0:0<=sh.rat:=q0;replace v4:sh.n.l.length<=4:=v4;replace v5:sh.d.l.length<=4:=v5;clear v1 v2 hv hD;generalize sh.rat=q at*
 subst e;replace v4:len16 q.num<=4:=v4;replace v5:len16 q.den<=4:=v5;obtain ⟨t1,t2⟩:=xd0.1 (xq1 q0 v3 hn);have ht:q.num*n / (q.den:Int)=take q n:=ja3;have hdp:(0:Int) < (q.den:Int):=by have:=q.den_pos;omega
 have hln:=len16_64 (n:=n) (by omega) (by omega);have hlp:=len16_mul v4 hln;have hlq:len16 (q.num*n / (q.den:Int))<=8:=len16_div hlp;have hf:fits (take q n)=true:=by simp only [fits,zcf,zee];omega
 refine Ct.intro func57 rfl ntmps57 rfl ?_;intro w F;refine A10 ?_;refine xj6 (0) ti39 rfl rfl rfl (At.t (At.g 2 rfl rfl) (At.g 0 rfl rfl)) rfl ?_;refine A1 ?_;refine R1 (x3 (xv1 n (by omega) (by omega)) fi71 rfl) rfl (R2 (x3 (xm2 q.num n (by omega) (by omega)) fi140 rfl) rfl rfl ?_);refine A2 ?_;refine xj6 (0) ti39 rfl rfl rfl (At.t (At.g 2 rfl rfl) (At.g 1 rfl rfl)) rfl (R2 (x3 (jb3 (q.num*n) (q.den:Int) (by omega) (by omega) hdp) fi143 rfl) rfl rfl ?_);refine A3 ?_;refine RE (xa3 (k:=5) (n:=2) (agg:=true) zr39.1 zr39.2 rfl) trivial trivial qA (RE (xa3 (k:=6) (n:=2) (agg:=true) zr39.1 zr39.2 rfl) trivial trivial qA ?_);refine A7 ?_;refine R1 (x3 (c_RInt (q.num*n / (q.den:Int)) (by omega)) fi144 rfl) rfl ?_;refine A14 ?_;exact E1 rfl rfl (zba (by rw [ht,if_pos hf]))
theorem ym1 (l:List Deal) (o:Int) (b p:List Int) (hD: ∀d∈l,d.share.dig):
  Ct Tryz.prog 17 [tL 7 true tDeal l,tState o b p] (tB (rightL l o b p)):=by
 refine Ct.intro func17 rfl ntmps17 rfl ?_;intro w F;refine xj5 (s:=0) rfl (fun hl0=> ?_);refine A10 ?_;refine R1 (x3 (ya9 l hD) fi14 rfl) rfl ?_;refine A2 ?_;refine RGcase (t:=9) rfl (fun h58=> ?_) (fun h58=> ?_)
 ·
  have hvl:validL l=false:=by simpa using h58
  refine A18 ?_;refine A13 ?_;exact E1 rfl rfl (zau (by rw [rightL,hvl];rfl))
 ·
  have hvl:validL l=true:=by simpa using h58
  refine A8 ?_;refine RGcaseD (t:=17) rfl (fun h58_2=> ?_) (fun h58_2=> ?_)
  ·
   refine A18 ?_;refine A5 ?_;exact E1 rfl rfl (zau (by rw [rightL,hvl,zbf (show ¬b.length=l.length by omega)];rfl))
  ·
   refine A8 ?_;refine RGcaseD (t:=25) rfl (fun h58_3=> ?_) (fun h58_3=> ?_)
   ·
    refine A15 ?_;exact E1 rfl rfl (zau (by rw [rightL,hvl,zbf (show ¬p.length=l.length by omega)];simp))
   ·
    refine A2 ?_;refine Rg (zbf h58_3) rfl (x3 (xu8 _) fi56 rfl) rfl qA ?_;refine A4 ?_;refine xc7 rfl (fun h58_4=> ?_) (fun h58_4=> ?_)
    ·
     have hwo:wIn o=false:=by simpa using h58_4
     refine A7 ?_;exact E1 rfl rfl (zau (by rw [rightL,hwo];simp))
    ·
     have hwo:wIn o=true:=by simpa using h58_4
     refine A9 ?_;refine cL (fun (i:Nat)=>i<=l.length/\(List.range i).all (fun i=>wIn (b.getD i 0) && decide (p.getD i 0=take (l.getD i deal0).share.rat (b.getD i 0)))=true) (fun (i:Nat)=>uV (uO (uV uN 0 (tL 7 true tDeal l)) 3 (.ptr 3 0)) 5 (tI i)) (fun (i:Nat)=>uK uN 3 34 3 true [.val (tState o b p)]) [3] (fun (i:Nat)=>l.length - i) (0) ⟨zbs _,rfl⟩ ?_;intro i hI;obtain ⟨hi,ha⟩:=hI;refine A9 ?_;refine xa6 rfl (fun h61=> ?_) (fun h61=> ?_)
     ·
      refine A9 ?_;refine R2 (x8 sl23 (i) (by omega) (gZ (by omega))) rfl rfl ?_;refine A1 ?_;refine R1 (x3 (xu8 _) fi56 rfl) rfl ?_;refine A2 ?_;refine RGcase (t:=44) rfl (fun h62=> ?_) (fun h62=> ?_)
      ·
       have hbad:(fun i=>wIn (b.getD i 0) && decide (p.getD i 0=take (l.getD i deal0).share.rat (b.getD i 0))) i=false:=by
        have hw:wIn (b.getD i 0)=false:=by simpa using h62
        simp only [hw,zdz]
       refine A18 ?_;refine A13 ?_;exact E1 rfl rfl (zau (by rw [rightL,yb2 (i:=i) (by omega) hbad,Bool.and_false]))
      ·
       have hw:wIn (b.getD i 0)=true:=by simpa using h62
       refine A3 ?_;refine Rg h62 rfl (x8 sl23 (i) (by omega) (gZ (by omega))) rfl qB ?_;refine A3 ?_;refine Rg h62 rfl (x8 sl30 (i) (by omega) (zai (l:=l) (n:=i) (d:=deal0))) rfl qB ?_;refine A4 ?_;refine Rg h62 rfl (x8 sl23 (i) (by omega) (gZ (by omega))) rfl qB ?_;refine A1 ?_;refine Rg h62 rfl (x3 (zk9 _ (hD _ (xp9 (l:=l) (i:=i) (d:=deal0) (by omega))) (za3 hvl (by omega)) _ hw) fi57 rfl) rfl qB ?_;refine A4 ?_;refine xa6 rfl (fun h62_2=> ?_) (fun h62_2=> ?_)
       ·
        have hbad:(fun i=>wIn (b.getD i 0) && decide (p.getD i 0=take (l.getD i deal0).share.rat (b.getD i 0))) i=false:=by
         simp only [zbf (show ¬p.getD i 0=take (l.getD i deal0).share.rat (b.getD i 0) by omega),Bool.and_false]
        refine A11 ?_;exact E1 rfl rfl (zau (by rw [rightL,yb2 (i:=i) (by omega) hbad,Bool.and_false]))
       ·
        refine A8 ?_;exact kF (i+1) ⟨⟨by omega,by rw [zc4,ha,zec,hw,zec,zbg (by omega)]⟩,(by omega)⟩
     ·
      refine A11 ?_;exact E1 rfl rfl (zau (by rw [rightL,hvl,hwo,zbg (show b.length=l.length by omega),zbg (show p.length=l.length by omega),<-show i=l.length by omega,ha];rfl))
theorem jc4 (l:List Deal) (hD: ∀d∈l,d.share.dig):
  Ct Tryz.prog 60 [tL 7 true tDeal l] (tT [tState 0 (if validL l then (List.replicate l.length (0:Int)) else []) (if validL l then (List.replicate l.length (0:Int)) else []),tI (if validL l then 0 else 2)]):=by
 refine Ct.intro func60 rfl ntmps60 rfl ?_;intro w F;refine A2 ?_;refine RE (xa3 (k:=2) (n:=3) (agg:=true) zr34.1 zr34.2 rfl) trivial trivial qA ?_;refine A7 ?_;refine R1 (x3 (ya9 l hD) fi14 rfl) rfl ?_;refine A3 ?_;refine xc7 rfl (fun h71=> ?_) (fun h71=> ?_)
 ·
  have hvl:validL l=false:=by simpa using h71
  refine A2 ?_;refine R0 (xb7 (r:=tS [⟨1,false,(tE (.int .i64 0))⟩,⟨1,false,(tIs [])⟩,⟨1,false,(tIs [])⟩]) (ts:=[]) bu34 zr34.2 zao) ?_;refine A6 ?_;exact EN (rs:=[.cell 2 34,.tmp 3]) rfl rfl ⟨⟨_,_,_,_,_,rfl,rfl,ti34,(Le.of (by rw [hvl];rfl))⟩,⟨_,rfl,(zba (by rw [hvl];rfl))⟩,trivial⟩
 ·
  have hvl:validL l=true:=by simpa using h71
  have hl16:=xf8 hvl;refine A6 ?_;refine R2 (yk1 (f:=fun n:Int=>tI n) (y0:=0) (ys:=(List.replicate l.length (0:Int))) l.length l.length zgt el3 (fun _ _=>rfl) inferInstance rfl rfl rfl (zbm _) (by omega) (by omega) rfl) rfl rfl ?_;refine A2 ?_;refine R2 (yk1 (f:=fun n:Int=>tI n) (y0:=0) (ys:=(List.replicate l.length (0:Int))) l.length l.length zgt el3 (fun _ _=>rfl) inferInstance rfl rfl rfl (zbm _) (by omega) (by omega) rfl) rfl rfl (R2 (xb7 (r:=tS [⟨1,false,(tE (.int .i64 0))⟩,⟨1,false,tIs (List.replicate l.length (0:Int))⟩,⟨1,false,tIs (List.replicate l.length (0:Int))⟩]) (ts:=[(1,tIs (List.replicate l.length (0:Int))),(2,tIs (List.replicate l.length (0:Int)))]) bu34 zr34.2 (Bc 1 rfl rfl rfl (Bc 2 rfl rfl rfl zao))) rfl rfl ?_);refine A5 ?_;exact EN (rs:=[.cell 2 34,.tmp 3]) rfl rfl ⟨⟨_,_,_,_,_,rfl,rfl,ti34,(Le.of (by rw [hvl];rfl))⟩,⟨_,rfl,(zba (by rw [hvl];rfl))⟩,trivial⟩
theorem yq6 (d:Deal) (m:Int):
  Ct Tryz.prog 147 [tDeal d,tI m] (tB (d.on m)):=by
 refine Ct.intro func147 rfl ntmps147 rfl ?_;intro w F;refine A13 ?_;refine RGcaseD (t:=9) rfl (fun h78=> ?_) (fun h78=> ?_)
 ·
  refine A9 ?_;exact E1 rfl rfl (zau (by simp [Deal.on, *]))
 ·
  refine A9 ?_;exact E1 rfl rfl (zau (by simp [Deal.on, *]))
instance fi17:FnI Tryz.prog 17:=⟨_,func17,by kernel_rfl,rfl⟩
instance fi147:FnI Tryz.prog 147:=⟨_,func147,by kernel_rfl,rfl⟩
theorem rs_bd {l:List Deal} {m:Int} {b p:List Int} {a:Int} {i:Nat} (hv:validL l=true) (hd: ∀d∈l,d.share.dig) (hb:b.length=l.length) (hp:p.length=l.length) (hok: ∀j,j < l.length->wIn (b.getD j 0)=true/\p.getD j 0=take (shr l j) (b.getD j 0)) (ha:wIn a=true) (s:RsI l m b p a i) (hi:i<=l.length):
  -36283883716608<=(rsD l m b p a i).r/\(rsD l m b p a i).r<=36283883716608:=by
 obtain ⟨a1,a2⟩:=xd0.1 ha;have h0:DvI l 0 ⟨b,p,List.replicate (l.length+1) 0,a⟩:=⟨hb,hp,by simp,fun j hj=>by
  obtain ⟨h1,h2⟩:=hok j hj;obtain ⟨q0,q1⟩:=ye3 hv hd hj;exact ⟨h1,by rw [h2];exact xq1 q0 q1 h1⟩,by simp only [Int.natCast_zero];omega⟩
 have h:=qs0 hv hd (apl1 l m i) _ 0 (fun j hj=>zby (apl1_lt hj) hi) h0 (fun j=>by simp only [grep0];omega) s.ok;have hl:=xf8 hv;have hn:(apl1 l m i).length<=i:=by
  have:=List.length_filter_le (fun j=>(l.getD j deal0).on m) (List.range i);rw [List.length_range] at this;exact this
 have hr:=h.1.r;have e:(dvRun l ⟨b,p,List.replicate (l.length+1) 0,a⟩ (apl1 l m i)).1=rsD l m b p a i:=rfl;rw [e] at hr;omega
theorem qg9 {l:List Deal} {p:List Int} {a:Int} (hw: ∀i,i < l.length->wIn (p.getD i 0)=true): ∀i,i<=l.length-> -((i:Int)*1099511627776)<=sumA l p a i/\sumA l p a i<=(i:Int)*1099511627776
 | 0,_=>by simp [sumA]
 | i+1,hi=>by
  have ih:=qg9 (a:=a) hw i (by omega);have:=xd0.1 (hw i (by omega));rw [sumA,Int.natCast_add];split <;> omega
theorem zb6 {S:List Sm} {r:Nat} (h:r < S.length):S.take (r+1)=S.take r++[S.getD r sm0]:=by
 rw [zcn h,zbh,zbk h];rfl
theorem qz1 (l:List Deal) (o:Int) (b p:List Int) (m a:Int) (hd: ∀d∈l,d.share.dig):
  Ct Tryz.prog 61 [tL 7 true tDeal l,tState o b p,tI m,tI a] (tT [tState (stepO l o b p m a) (stepB l o b p m a) (stepP l o b p m a),tIs (stepQ l o b p m a),tI (stepE l o b p m a)]):=by
 refine Ct.intro func61 rfl ntmps61 rfl ?_;intro w F;refine A3 ?_;refine RE (xa3 (k:=8) (n:=3) (agg:=true) zr34.1 zr34.2 rfl) trivial trivial qA ?_;refine A9 ?_;refine R2 (x3 (ym1 l o b p hd) fi17 rfl) rfl rfl ?_;refine A2 ?_;refine RGcase (t:=20) rfl (fun h82=> ?_) (fun h82=> ?_)
 ·
  have hB:stepBad l o b p m a=true:=by rw [stepBad,h82];rfl
  obtain ⟨e1,e2,e3,e4,e5⟩:=xj8 hB;refine A17 ?_;refine R0 (xb7 (r:=tS [⟨1,false,(tE (.int .i64 0))⟩,⟨1,false,(tIs [])⟩,⟨1,false,(tIs [])⟩]) (ts:=[]) bu34 zr34.2 zao) ?_;refine A7 ?_;exact EN (rs:=[.cell 8 34,.tmp 9,.tmp 10]) rfl rfl ⟨⟨_,_,_,_,_,rfl,rfl,ti34,(Le.of (by first | (rw [e1,e2,e3];done) | (rw [e1,e2,e3];rfl)))⟩,⟨_,rfl,(leNil e4)⟩,⟨_,rfl,(zba (by rw [e5]))⟩,trivial⟩
 ·
  have hr:rightL l o b p=true:=by rw [Bool.not_eq_false'] at h82;exact h82
  refine A4 ?_;refine RGcaseD (t:=24) rfl (fun h82_2=> ?_) (fun h82_2=> ?_)
  ·
   have hB:stepBad l o b p m a=true:=by rw [stepBad,zbg h82_2];simp
   obtain ⟨e1,e2,e3,e4,e5⟩:=xj8 hB;refine A13 ?_;refine R0 (xb7 (r:=tS [⟨1,false,(tE (.int .i64 0))⟩,⟨1,false,(tIs [])⟩,⟨1,false,(tIs [])⟩]) (ts:=[]) bu34 zr34.2 zao) ?_;refine A7 ?_;exact EN (rs:=[.cell 8 34,.tmp 9,.tmp 10]) rfl rfl ⟨⟨_,_,_,_,_,rfl,rfl,ti34,(Le.of (by first | (rw [e1,e2,e3];done) | (rw [e1,e2,e3];rfl)))⟩,⟨_,rfl,(leNil e4)⟩,⟨_,rfl,(zba (by rw [e5]))⟩,trivial⟩
  ·
   refine A4 ?_;refine RGcaseD (t:=28) rfl (fun h82_3=> ?_) (fun h82_3=> ?_)
   ·
    have hB:stepBad l o b p m a=true:=by rw [stepBad,zbg h82_3];simp
    obtain ⟨e1,e2,e3,e4,e5⟩:=xj8 hB;refine A9 ?_;refine R0 (xb7 (r:=tS [⟨1,false,(tE (.int .i64 0))⟩,⟨1,false,(tIs [])⟩,⟨1,false,(tIs [])⟩]) (ts:=[]) bu34 zr34.2 zao) ?_;refine A7 ?_;exact EN (rs:=[.cell 8 34,.tmp 9,.tmp 10]) rfl rfl ⟨⟨_,_,_,_,_,rfl,rfl,ti34,(Le.of (by first | (rw [e1,e2,e3];done) | (rw [e1,e2,e3];rfl)))⟩,⟨_,rfl,(leNil e4)⟩,⟨_,rfl,(zba (by rw [e5]))⟩,trivial⟩
   ·
    refine A1 ?_;refine Rg (zbf h82_3) rfl (x3 (xu8 _) fi56 rfl) rfl qA ?_;refine A4 ?_;refine xc7 rfl (fun h82_4=> ?_) (fun h82_4=> ?_)
    ·
     have hB:stepBad l o b p m a=true:=by rw [stepBad,h82_4];simp
     obtain ⟨e1,e2,e3,e4,e5⟩:=xj8 hB;refine A2 ?_;refine R0 (xb7 (r:=tS [⟨1,false,(tE (.int .i64 0))⟩,⟨1,false,(tIs [])⟩,⟨1,false,(tIs [])⟩]) (ts:=[]) bu34 zr34.2 zao) ?_;refine A7 ?_;exact EN (rs:=[.cell 8 34,.tmp 9,.tmp 10]) rfl rfl ⟨⟨_,_,_,_,_,rfl,rfl,ti34,(Le.of (by first | (rw [e1,e2,e3];done) | (rw [e1,e2,e3];rfl)))⟩,⟨_,rfl,(leNil e4)⟩,⟨_,rfl,(zba (by rw [e5]))⟩,trivial⟩
    ·
     have ha:wIn a=true:=by rw [Bool.not_eq_false'] at h82_4;exact h82_4
     have hB:stepBad l o b p m a=false:=by rw [stepBad,hr,ha,zbf h82_2,zbf h82_3];rfl
     refine A3 ?_;obtain ⟨v1,hbl,hpl,v4,v5⟩:=xo9 hd hr;have hl16:=xf8 v1;have ho:=xd0.1 v4;refine A3 ?_;refine RE (qe1 (k:=36) zgt el3 rfl (fun _=>rfl)) trivial trivial qA ?_;refine A2 ?_;refine RE (xc5 (k:=36) (k':=39) (f:=fun n:Int=>tI n) (ys:=b) (ts':=rV tI b) zgt el3 zf3 rfl rfl (fun _=>inferInstance) rfl (by simp;omega) (by simp;omega) (by simp [rV]) (n':=l.length) (by simp;omega)) ⟨rfl,rfl,trivial⟩ ⟨rfl,trivial⟩ ⟨rfl,trivial⟩ (RE (qe1 (k:=40) zgt el3 rfl (fun _=>rfl)) trivial trivial ⟨rfl,trivial⟩ ?_);refine A2 ?_;refine RE (xc5 (k:=40) (k':=43) (f:=fun n:Int=>tI n) (ys:=p) (ts':=rV tI p) zgt el3 zf3 rfl rfl (fun _=>inferInstance) rfl (by simp;omega) (by simp;omega) (by simp [rV]) (n':=l.length) (by simp;omega)) ⟨rfl,rfl,trivial⟩ ⟨rfl,trivial⟩ ⟨rfl,trivial⟩ (R3 (xz6 (es:=[.val (tI o),.own (.sl 39 1 0 l.length),.own (.sl 43 1 0 l.length)]) (r:=[.val (tI o),.own (.sl 39 1 0 l.length),.own (.sl 43 1 0 l.length)]) bu34 rfl rfl rfl rfl) rfl rfl rfl (RE (ym5 (k:=11) (n:=3) [.int .i64 0,.slice none 0 0,.slice none 0 0] zr34.1 rfl rfl rfl rfl) trivial trivial ⟨rfl,trivial⟩ (RE (ym9 ti34 rfl rfl rfl) ⟨rfl,rfl,trivial⟩ ⟨rfl,trivial⟩ trivial ?_)));refine A4 ?_;refine RE (xi0 (k:=45) (ents:=rV tI [(0:Int)]) zgt el3 zf3 rfl (fun e he=>by simp only [rV,zcx,zfn,zbq] at he;subst he;infer_instance) rfl rfl rfl) qA trivial qA ?_;refine A16 ?_;refine cL (fun (i:Nat)=>i<=l.length/\RsI l m b p a i) (fun (i:Nat)=>uV (uV (uO (uO (uO (uO (uV (uV uN 0 (tL 7 true tDeal l)) 2 (tI m)) 5 (.ptr 5 0)) 8 (.ptr 8 0)) 11 (.ptr 11 0)) 12 (.sl 45 1 0 (i+1))) 13 (tI (rsD l m b p a i).r)) 14 (tI i)) (fun (i:Nat)=>uK (uK (uK (uK (uK (uK uN 5 34 3 true [.val (tState o b p)]) 8 34 3 true [.val (tState 0 [] [])]) 11 34 1 false [.val (tI o),.own (.sl 39 1 0 l.length),.own (.sl 43 1 0 l.length)]) 39 3 1 false (rV tI (rsD l m b p a i).b)) 43 3 1 false (rV tI (rsD l m b p a i).p)) 45 3 1 false (rV tI (rsQ l m b p a i))) [5,8,11,39,43,45] (fun (i:Nat)=>l.length - i) (0) ⟨zbs _,RsI.zero hbl hpl⟩ ?_;intro i hI;obtain ⟨hi,hs⟩:=hI;have hql:=jj7 hs hi;have hbd:=rs_bd v1 hd hbl hpl v5 ha hs hi;have hf1:=hs.fit.b;have hf2:=hs.fit.p;refine A9 ?_;refine xa6 rfl (fun h88=> ?_) (fun h88=> ?_)
     ·
      refine A14 ?_;refine R2 (x8 sl30 (i) (by omega) (zai (l:=l) (n:=i) (d:=deal0))) rfl rfl ?_;refine A2 ?_;refine R2 (x3 (yq6 (l.getD i deal0) m) fi147 rfl) rfl rfl ?_;refine A2 ?_;refine xc7 rfl (fun h90=> ?_) (fun h90=> ?_)
      ·
       have hon:(l.getD i deal0).on m=true:=h90;refine A1 ?_;have hbi:=xd0.1 (v5 i (by omega)).1;have hkb:=(hs.kb i (zbm _)).1;have hkp:=(hs.kb i (zbm _)).2.1;have hnn:(rsD l m b p a i).n i=((b.getD i 0)+(rsD l m b p a i).r):=by rw [Dv.n,hkb]
       refine A2 ?_;refine RE (x7 (1) ti23 rfl rfl) qA qA trivial ?_;refine A4 ?_;refine R2 (x8 sl23 (i) (by omega) (gZ (by omega))) rfl rfl ?_;refine A3 ?_;refine R2 (zag sl23 rfl) rfl rfl (RE (xa8 (i) ti3 (xn4 (by omega)) (by omega) (xm8 (m:=((b.getD i 0)+(rsD l m b p a i).r)) rfl)) ⟨rfl,rfl,trivial⟩ ⟨rfl,trivial⟩ trivial ?_);refine A6 ?_;refine RE (x7 (1) ti23 rfl rfl) qA qA trivial ?_;refine A1 ?_;refine R2 (zag sl23 rfl) rfl rfl (RE (x7 (i) ti3 (xv3 (by omega)) (by omega)) qA qA trivial (R1 (x3 (xu8 _) fi56 rfl) rfl ?_));refine A3 ?_;refine xc7 rfl (fun h92=> ?_) (fun h92=> ?_)
       ·
        have hw:wIn ((b.getD i 0)+(rsD l m b p a i).r)=false:=by rw [zen] at h92;exact h92
        have hF:stepOk l o b p m a=false:=by rw [stepOk,hs.stop (by omega) hon (by rw [hnn];exact hw)];rfl
        obtain ⟨e1,e2,e3,e4,e5⟩:=yh2 hB hF;refine A2 ?_;refine R0 (xb7 (r:=tS [⟨1,false,(tE (.int .i64 0))⟩,⟨1,false,(tIs [])⟩,⟨1,false,(tIs [])⟩]) (ts:=[]) bu34 zr34.2 zao) ?_;refine A13 ?_;exact EN (rs:=[.cell 8 34,.tmp 9,.tmp 10]) rfl rfl ⟨⟨_,_,_,_,_,rfl,rfl,ti34,(Le.of (by first | (rw [e1,e2,e3];done) | (rw [e1,e2,e3];rfl)))⟩,⟨_,rfl,(leNil e4)⟩,⟨_,rfl,(zba (by rw [e5]))⟩,trivial⟩
       ·
        have hw:wIn ((b.getD i 0)+(rsD l m b p a i).r)=true:=by rw [Bool.not_eq_false'] at h92;exact h92
        refine A3 ?_;have hwn:wIn ((rsD l m b p a i).n i)=true:=by rw [hnn];exact hw
        have hpd:(rsD l m b p a i).pd l i=(take (l.getD i deal0).share.rat ((b.getD i 0)+(rsD l m b p a i).r)):=by rw [Dv.pd,hnn];rfl
        obtain ⟨q0,q1⟩:=ye3 v1 hd (show i < l.length by omega);have hti:=xd0.1 (xq1 (q:=(l.getD i deal0).share.rat) q0 q1 hw);have hpi:wIn (p.getD i 0)=true:=by rw [(v5 i (by omega)).2];exact xq1 q0 q1 (v5 i (by omega)).1
        have hpi:=xd0.1 hpi;refine A2 ?_;refine RE (x7 (2) ti23 rfl rfl) qA qA trivial ?_;refine A3 ?_;refine R2 (x8 sl30 (i) (by omega) (zai (l:=l) (n:=i) (d:=deal0))) rfl rfl ?_;refine A2 ?_;refine RE (x7 (1) ti23 rfl rfl) qA qA trivial ?_;refine A1 ?_;refine R2 (zag sl23 rfl) rfl rfl (RE (x7 (i) ti3 (xv3 (by omega)) (by omega)) qA qA trivial (R2 (x3 (zk9 _ (jc6 hd (by omega)) (xq6 v1 (by omega)) _ hw) fi57 rfl) rfl rfl (R2 (zag sl23 rfl) rfl rfl (RE (xa8 (i) ti3 (xn4 (by omega)) (by omega) (xm8 (m:=(take (l.getD i deal0).share.rat ((b.getD i 0)+(rsD l m b p a i).r))) rfl)) qB qA trivial ?_))));refine A4 ?_;refine RE (x7 (2) ti23 rfl rfl) qA qA trivial ?_;refine A1 ?_;refine R2 (zag sl23 rfl) rfl rfl (RE (x7 (i) ti3 (xv3 (by omega)) (by omega)) qA qA trivial ?_);refine A3 ?_;refine R2 (x8 sl23 (i) (by omega) (gZ (by omega))) rfl rfl ?_;refine A9 ?_;refine R1 (xb6 (n:=1) (f:=fun n:Int=>tI n) [((take (l.getD i deal0).share.rat ((b.getD i 0)+(rsD l m b p a i).r)) - p.getD i 0)] zgt el3 zf3 rfl (fun _=>inferInstance) rfl rfl rfl) rfl (RE (xc5 (k:=45) (k':=106) (f:=fun n:Int=>tI n) (ys:=[((take (l.getD i deal0).share.rat ((b.getD i 0)+(rsD l m b p a i).r)) - p.getD i 0)]) (ts':=rV tI ((rsQ l m b p a i)++[((take (l.getD i deal0).share.rat ((b.getD i 0)+(rsD l m b p a i).r)) - p.getD i 0)])) zgt el3 zf3 rfl rfl (fun _=>inferInstance) (xe0.trans hql) (by simp;omega) (by simp;omega) (by simp [rV]) (n':=i+1+1) rfl) qB qA qA ?_);refine A16 ?_;have hT:=ze1 hs hon hwn;have hb2:(rsD l m b p a (i+1)).b=(rsD l m b p a i).b.set i ((b.getD i 0)+(rsD l m b p a i).r):=by rw [hT];simp only [dv1];rw [hnn]
        have hp2:(rsD l m b p a (i+1)).p=(rsD l m b p a i).p.set i (take (l.getD i deal0).share.rat ((b.getD i 0)+(rsD l m b p a i).r)):=by rw [hT];simp only [dv1];rw [hpd]
        have hr2:(rsD l m b p a (i+1)).r=(rsD l m b p a i).r - ((take (l.getD i deal0).share.rat ((b.getD i 0)+(rsD l m b p a i).r)) - p.getD i 0):=by rw [hT];simp only [dv1];rw [hpd,hkp]
        have hq2:=rsQ_on hs (by omega) hon hwn;rw [hpd] at hq2;exact xh0 (l:=[5,8,11,39,43,45]) (zab 45 106) (i+1) ⟨⟨by omega,hs.on (by omega) hon hwn⟩,(by omega)⟩ (zaf rfl ((zbc rfl (zaw (by rw [hr2];rfl))) (zas rfl (zas rfl (zas rfl (zas rfl (zaf rfl (zas rfl zbd)))))))) ((zbb rfl (zat (by rw [hq2];exact xc2.symm))) ((zbb rfl (zat (by rw [hp2];exact xc2.symm))) ((zbb rfl (zat (by rw [hb2];exact xc2.symm))) ((zbb rfl zap) ((zbb rfl zap) ((zbb rfl zap) zbe)))))) (zaj (zaj (zak rfl (zak rfl (zak rfl (zak rfl (zaj (zaj zar)))))))) (zam rfl (supJ xb2) (zam rfl (supJ xb2) (zam rfl (supJ xb2) (zam rfl (supJL rfl) (zam rfl (supJL rfl) (zam rfl (supJL rfl) zaz)))))) (lkOk rfl) rfl rfl (fun _ h=>by cases h)
      ·
       have hon:(l.getD i deal0).on m=false:=h90;refine A6 ?_;refine R1 (xb6 (n:=1) (f:=fun n:Int=>tI n) [(0:Int)] zgt el3 zf3 rfl (fun _=>inferInstance) rfl rfl rfl) rfl (RE (xc5 (k:=45) (k':=106) (f:=fun n:Int=>tI n) (ys:=[(0:Int)]) (ts':=rV tI ((rsQ l m b p a i)++[(0:Int)])) zgt el3 zf3 rfl rfl (fun _=>inferInstance) (xe0.trans hql) (by simp;omega) (by simp;omega) (by simp [rV]) (n':=i+1+1) rfl) qB qA qA ?_);refine A16 ?_;have hT:=zc0 (b:=b) (p:=p) (a:=a) hon;have hq2:=jk5 hs (by omega) hon;exact xh0 (l:=[5,8,11,39,43,45]) (zab 45 106) (i+1) ⟨⟨by omega,hs.off hon⟩,(by omega)⟩ (zaf rfl ((zbc rfl (zaw (by rw [hT,Int.sub_zero];rfl))) (zas rfl (zas rfl (zas rfl (zas rfl (zaf rfl (zas rfl zbd)))))))) ((zbb rfl (zat (by rw [hq2];exact xc2.symm))) ((zbb rfl (zat (by rw [hT];exact xc2.symm))) ((zbb rfl (zat (by rw [hT];exact xc2.symm))) ((zbb rfl zap) ((zbb rfl zap) ((zbb rfl zap) zbe)))))) (zaj (zaj (zak rfl (zak rfl (zak rfl (zak rfl (zaj (zaj zar)))))))) (zam rfl (supJ xb2) (zam rfl (supJ xb2) (zam rfl (supJ xb2) (zam rfl (supJL rfl) (zam rfl (supJL rfl) (zam rfl (supJL rfl) zaz)))))) (lkOk rfl) rfl rfl (fun _ h=>by cases h)
     ·
      refine A6 ?_;have hil:i=l.length:=by omega
      subst hil;obtain ⟨f1,f2,f3⟩:=rs_end hs;rw [f2] at f3;refine A3 ?_;refine R2 (zag sl23 rfl) rfl rfl (RE (xa8 (0) ti3 (xn4 (by omega)) (by omega) (xm8 (m:=(rsD l m b p a l.length).r) rfl)) qB qA trivial ?_);refine A17 ?_;refine R1 (x3 (xu8 _) fi56 rfl) rfl ?_;refine A3 ?_;refine xc7 rfl (fun h103=> ?_) (fun h103=> ?_)
      ·
       have hF:stepOk l o b p m a=false:=by rw [stepOk,f1,f2,zec];rw [zen] at h103;exact h103
       obtain ⟨e1,e2,e3,e4,e5⟩:=yh2 hB hF;refine A2 ?_;refine R0 (xb7 (r:=tS [⟨1,false,(tE (.int .i64 0))⟩,⟨1,false,(tIs [])⟩,⟨1,false,(tIs [])⟩]) (ts:=[]) bu34 zr34.2 zao) ?_;refine A7 ?_;exact EN (rs:=[.cell 8 34,.tmp 9,.tmp 10]) rfl rfl ⟨⟨_,_,_,_,_,rfl,rfl,ti34,(Le.of (by first | (rw [e1,e2,e3];done) | (rw [e1,e2,e3];rfl)))⟩,⟨_,rfl,(leNil e4)⟩,⟨_,rfl,(zba (by rw [e5]))⟩,trivial⟩
      ·
       have hF:stepOk l o b p m a=true:=by rw [stepOk,f1,f2,zec];rw [Bool.not_eq_false'] at h103;exact h103
       obtain ⟨e1,e2,e3,e4,e5,e6⟩:=yt0 hB hF;refine A3 ?_;refine yj5 (q:=11) (j:=39) (f:=fun n:Int=>tI n) (xs:=(rsD l m b p a l.length).b) 1 rfl rfl rfl rfl (NoLbK.of fun _ h=>h) (xn8 hf1) hf1 rfl (yj5 (q:=11) (j:=43) (f:=fun n:Int=>tI n) (xs:=(rsD l m b p a l.length).p) 2 rfl rfl rfl rfl (NoLbK.of fun _ h=>h) (xn8 hf2) hf2 rfl ?_);refine A1 ?_;refine RE (yc7 (us:=[tI (o+(rsD l m b p a l.length).r),tIs (rsD l m b p a l.length).b,tIs (rsD l m b p a l.length).p]) (t:=tState (o+(rsD l m b p a l.length).r) (rsD l m b p a l.length).b (rsD l m b p a l.length).p) ti34 rfl rfl rfl rfl) qA qA trivial ?_;refine A2 ?_;refine RE (xo2 (f:=fun n:Int=>tI n) (xs:=(rsQ l m b p a l.length).set 0 (rsD l m b p a l.length).r) (fun _ h=>h) (xn8 (by rw [zdx];exact hql)) (by rw [zdx];exact hql)) qA qA trivial ?_;refine A4 ?_;exact EN (rs:=[.cell 8 34,.tmp 9,.tmp 10]) rfl rfl ⟨⟨_,_,_,_,_,rfl,rfl,ti34,(Le.of (by rw [e1,e2,e3,f2]))⟩,⟨_,rfl,(Le.of (by rw [e4,f2,f3]))⟩,⟨_,rfl,(zba (by rw [e5]))⟩,trivial⟩
instance ti164:TyI Tryz.prog 164 2 true:=⟨by kernel_rfl,by kernel_rfl⟩
instance sl156:SlI Tryz.prog 156 163 2 true:=⟨zhf,ti163⟩
instance sl159:SlI Tryz.prog 159 164 2 true:=⟨zhh,ti164⟩
instance fo163_0:FoI Tryz.prog 163 0 0:=⟨by kernel_rfl⟩
instance fo163_1:FoI Tryz.prog 163 1 1:=⟨by kernel_rfl⟩
instance fo164_0:FoI Tryz.prog 164 0 0:=⟨by kernel_rfl⟩
instance fo164_1:FoI Tryz.prog 164 1 1:=⟨by kernel_rfl⟩
instance fi15:FnI Tryz.prog 15:=⟨_,func15,by kernel_rfl,rfl⟩
instance fi18:FnI Tryz.prog 18:=⟨_,func18,by kernel_rfl,rfl⟩
instance fi150:FnI Tryz.prog 150:=⟨_,func150,by kernel_rfl,rfl⟩
instance fi151:FnI Tryz.prog 151:=⟨_,func151,by kernel_rfl,rfl⟩
theorem el79:ElI Tryz.prog 79 7 88 true (.agg #[.int .i64 0,.int .i64 0,.bool false,.slice none 0 0,.bool false,.slice none 0 0,.int .i64 0]):=⟨ti79,by kernel_rfl,by kernel_rfl⟩
theorem el164:ElI Tryz.prog 164 2 16 true (.agg #[.int .i64 0,.int .i64 0]):=⟨ti164,by kernel_rfl,by kernel_rfl⟩
theorem zr164:(Tryz.prog.info? 164).bind (·.zero)=some (.agg #[.int .i64 0,.int .i64 0])/\ ∀F w,(tS [⟨1,false,(tE (.int .i64 0))⟩,⟨1,false,(tE (.int .i64 0))⟩]).p F w (.agg #[.int .i64 0,.int .i64 0]):=⟨by kernel_rfl,fun _ _=>⟨_,rfl,rfl,⟨fun _=>rfl,rfl⟩,⟨fun _=>rfl,rfl⟩,trivial⟩⟩
theorem bu79:BuI Tryz.prog 79 (fun i=>[(0,1),(1,1),(2,4),(6,1)][i]?) (.agg #[.int .i64 0,.int .i64 0,.bool false,.slice none 0 0,.bool false,.slice none 0 0,.int .i64 0]):=BuI.struct underlying79 (by kernel_rfl) (by kernel_rfl)
theorem bu164:BuI Tryz.prog 164 (fun i=>[(0,1),(1,1)][i]?) (.agg #[.int .i64 0,.int .i64 0]):=BuI.struct underlying164 (by kernel_rfl) (by kernel_rfl)
theorem zf79:Flat 7 true (.agg #[.int .i64 0,.int .i64 0,.bool false,.slice none 0 0,.bool false,.slice none 0 0,.int .i64 0]):=xn3 (by intro u hu;simp at hu;rcases hu with rfl | rfl | rfl | rfl | rfl | rfl | rfl <;> rfl)
theorem zf164:Flat 2 true (.agg #[.int .i64 0,.int .i64 0]):=xn3 (by intro u hu;simp at hu;rcases hu with rfl | rfl <;> rfl)
theorem zg0 {l:List Deal} {i:Nat} (h:i < l.length):l.take (i+1)=l.take i++[l.getD i deal0]:=by
 rw [zcn h,zbh,zbk h];rfl
theorem yz5 (xs:List Int):Ct Tryz.prog 64 [tIs xs,tIs xs] (tB true):=by
 have h:=zf4 xs xs;rw [zbg rfl] at h;exact h
theorem qq5 (l:List Deal) (o:Int) (b p:List Int) (hd: ∀d∈l,d.share.dig):
  Ct Tryz.prog 151 [tL 7 true tDeal l,tState o b p] (tT [tL 2 true tSm (if rightL l o b p=true then (sumsL o (mpS l p l.length)) else []),tI (if rightL l o b p=true then 0 else 2)]):=by
 refine Ct.intro func151 rfl ntmps151 rfl ?_;intro w F;refine A12 ?_;refine R2 (x3 (ym1 l o b p hd) fi17 rfl) rfl rfl ?_;refine A3 ?_;refine xc7 rfl (fun h111=> ?_) (fun h111=> ?_)
 ·
  have hr: ¬rightL l o b p=true:=by simpa using h111
  refine A8 ?_;exact E2 rfl rfl rfl (leNil (by rw [if_neg hr])) (zba (by rw [if_neg hr]))
 ·
  have hr:rightL l o b p=true:=by simpa using h111
  refine A3 ?_;obtain ⟨v1,v2,v3,v4,v5⟩:=xo9 hd hr;have hl16:=xf8 v1;have hpw: ∀i,i < l.length->wIn (p.getD i 0)=true:=fun i hi=>by
   obtain ⟨h1,h2⟩:=v5 i hi;obtain ⟨q0,q1⟩:=ye3 v1 hd hi;rw [h2];exact xq1 q0 q1 h1
  have hm:=MpI.at v1 v3 hpw l.length (zbm _);have hSl:=(zi6 (o:=o) hm.keys hm.acc).2.2.1;have hml:=hm.len;obtain ⟨hS0,hS1⟩:=qs8 (o:=o) v1 v3 hpw;have hS2:(sumsL o (mpS l p l.length)).take 1=[own0 o]:=by rw [show (1:Nat)=0+1 from rfl,zb6 hS0,hS1];rfl
  refine A3 ?_;refine R2 (xb7 (r:=tS [⟨1,false,tI 0⟩,⟨1,false,tI o⟩]) (ts:=[(0,tI 0),(1,tI o)]) bu164 zr164.2 (Bc 0 rfl rfl rfl (Bc 1 rfl rfl rfl zao))) rfl rfl (RE (xi0 (k:=19) (ents:=rV tSm [own0 o]) zhh el164 zf164 rfl (fun e he=>by simp only [rV,zcx,zfn,zbq] at he;subst he;infer_instance) rfl rfl rfl) qA trivial qA ?_);refine A9 ?_;refine cL (fun (r:Nat)=>r < (sumsL o (mpS l p l.length)).length) (fun (r:Nat)=>uV (uO (uO (uV uN 0 (tL 7 true tDeal l)) 3 (.ptr 3 0)) 6 (.sl 19 2 0 (r+1))) 7 (tI ((sumsL o (mpS l p l.length)).getD r sm0).acc)) (fun (r:Nat)=>uK (uK uN 3 34 3 true [.val (tState o b p)]) 19 164 2 true (rV tSm ((sumsL o (mpS l p l.length)).take (r+1)))) [3,19] (fun (r:Nat)=>(sumsL o (mpS l p l.length)).length - r) (0) hS0 (hg:=((Sub.consI rfl (zaw (by rw [hS1];rfl))) (sC (sC (sC zay))))) (hh:=((zaq rfl (zat (by rw [hS2]))) (SubK.cons rfl zax))) ?_;intro r hI;have hs0:=((sumsL o (mpS l p l.length)).getD r sm0).h.1;refine A18 ?_;refine cL (fun (fm:(Nat)×(Int)×(Int))=>(fun (i:Nat) (nx:Int) (sm:Int)=>i<=l.length/\nxI l ((sumsL o (mpS l p l.length)).getD r sm0).acc i nx/\sm=sumA l p nx i) fm.1 fm.2.1 fm.2.2) (wC fun (i:Nat) (nx:Int) (sm:Int)=>uV (uV (uV (uV (uO (uO (uV uN 0 (tL 7 true tDeal l)) 3 (.ptr 3 0)) 6 (.sl 19 2 0 (r+1))) 7 (tI ((sumsL o (mpS l p l.length)).getD r sm0).acc)) 8 (tI nx)) 9 (tI sm)) 10 (tI i)) (wC fun (i:Nat) (nx:Int) (sm:Int)=>uK (uK uN 3 34 3 true [.val (tState o b p)]) 19 164 2 true (rV tSm ((sumsL o (mpS l p l.length)).take (r+1)))) [3,19] (fun (fm:(Nat)×(Int)×(Int))=>(fun (i:Nat) (nx:Int) (sm:Int)=>l.length - i) fm.1 fm.2.1 fm.2.2) ((0,0,0)) (by dsimp only;exact ⟨zbs _,ja9,rfl⟩) ?_;intro fm hI2;obtain ⟨i,nx,sm⟩:=fm;replace hI2:i<=l.length/\nxI l ((sumsL o (mpS l p l.length)).getD r sm0).acc i nx/\sm=sumA l p nx i:=hI2;show wc _ _ _ _ (uV (uV (uV (uV (uO (uO (uV uN 0 (tL 7 true tDeal l)) 3 (.ptr 3 0)) 6 (.sl 19 2 0 (r+1))) 7 (tI ((sumsL o (mpS l p l.length)).getD r sm0).acc)) 8 (tI nx)) 9 (tI sm)) 10 (tI i)) (uK (uK uN 3 34 3 true [.val (tState o b p)]) 19 164 2 true (rV tSm ((sumsL o (mpS l p l.length)).take (r+1)))) _;obtain ⟨hi,hn,hsm⟩:=hI2;have hsb:=qg9 (a:=nx) hpw i hi;rw [<-hsm] at hsb;refine A9 ?_;refine xa6 rfl (fun h119=> ?_) (fun h119=> ?_)
  ·
   refine A8 ?_;refine R2 (x8 sl30 (i) (by omega) (zai (l:=l) (n:=i) (d:=deal0))) rfl rfl (R1 (xf1 fo79_3.h (At.f 3 rfl rfl) rfl) rfl ?_);refine A11 ?_;refine RGcaseD (t:=34) rfl (fun h121=> ?_) (fun h121=> ?_)
   ·
    refine A3 ?_;refine RGcaseD (t:=37) rfl (fun h121_2=> ?_) (fun h121_2=> ?_)
    ·
     refine A3 ?_;refine Rg (zbg h121) rfl (xm0 (zbg h121_2)) rfl qB ?_;refine A18 ?_;refine A3 ?_;refine C_bT rfl (zbg (by rfl)) ?_;have hpi:=xd0.1 (hpw i (by omega));refine A5 ?_;refine R2 (x8 sl23 (i) (by omega) (gZ (by omega))) rfl rfl ?_;refine A11 ?_;exact kF ((i+1,(l.getD i deal0).acc,0+p.getD i 0)) ⟨(by dsimp only;exact ⟨by omega,(yv4 hs0 hn h121 (.inl h121_2)).1,by rw [sumA,if_pos rfl,yv0 (yv4 hs0 hn h121 (.inl h121_2)).2]⟩),(by dsimp only;omega)⟩
    ·
     refine A3 ?_;refine Rg (zbg h121) rfl (xc8 (zbf h121_2)) rfl qB ?_;refine A3 ?_;refine xa6 rfl (fun h121_3=> ?_) (fun h121_3=> ?_)
     ·
      refine A17 ?_;refine C_bT rfl (zbg (by rfl)) ?_;have hpi:=xd0.1 (hpw i (by omega));refine A5 ?_;refine R2 (x8 sl23 (i) (by omega) (gZ (by omega))) rfl rfl ?_;refine A11 ?_;exact kF ((i+1,(l.getD i deal0).acc,0+p.getD i 0)) ⟨(by dsimp only;exact ⟨by omega,(yv4 hs0 hn h121 (.inr h121_3)).1,by rw [sumA,if_pos rfl,yv0 (yv4 hs0 hn h121 (.inr h121_3)).2]⟩),(by dsimp only;omega)⟩
     ·
      refine A9 ?_;refine xa6 rfl (fun h125=> ?_) (fun h125=> ?_)
      ·
       have hpi:=xd0.1 (hpw i (by omega));refine A5 ?_;refine R2 (x8 sl23 (i) (by omega) (gZ (by omega))) rfl rfl ?_;refine A11 ?_;exact kF ((i+1,nx,sm+p.getD i 0)) ⟨(by dsimp only;exact ⟨by omega,yu3 hn (fun h=>by rcases h.2 with h | h <;> omega),by rw [sumA,if_pos h125,hsm]⟩),(by dsimp only;omega)⟩
      ·
       refine A8 ?_;exact kF ((i+1,nx,sm)) ⟨(by dsimp only;exact ⟨by omega,yu3 hn (fun h=>by rcases h.2 with h | h <;> omega),by rw [sumA,if_neg h125,Int.add_zero,hsm]⟩),(by dsimp only;omega)⟩
   ·
    refine A18 ?_;refine A2 ?_;refine xa6 rfl (fun h125=> ?_) (fun h125=> ?_)
    ·
     have hpi:=xd0.1 (hpw i (by omega));refine A5 ?_;refine R2 (x8 sl23 (i) (by omega) (gZ (by omega))) rfl rfl ?_;refine A11 ?_;exact kF ((i+1,nx,sm+p.getD i 0)) ⟨(by dsimp only;exact ⟨by omega,yu3 hn (fun h=>h121 h.1),by rw [sumA,if_pos h125,hsm]⟩),(by dsimp only;omega)⟩
    ·
     refine A8 ?_;exact kF ((i+1,nx,sm)) ⟨(by dsimp only;exact ⟨by omega,yu3 hn (fun h=>h121 h.1),by rw [sumA,if_neg h125,Int.add_zero,hsm]⟩),(by dsimp only;omega)⟩
  ·
   refine A7 ?_;have hil:i=l.length:=by omega
   subst hil;have hnext:=jg2 (o:=o) v1 v3 hpw hI hn;have htl:((sumsL o (mpS l p l.length)).take (r+1)).length=r+1:=by rw [zcz];omega
   refine A5 ?_;refine xa6 rfl (fun h129=> ?_) (fun h129=> ?_)
   ·
    refine A3 ?_;refine RE (xo2 (f:=tSm) (xs:=(sumsL o (mpS l p l.length)).take (r+1)) (fun _ h=>h) (xn8 htl) htl) qA qA trivial ?_;refine A8 ?_;exact E2 rfl rfl rfl (Le.of (by rw [if_pos hr,hnext.1 h129,zci])) (zba (by rw [if_pos hr]))
   ·
    refine A3 ?_;obtain ⟨g1,g2,g3⟩:=hnext.2 h129;obtain rfl:sm=((sumsL o (mpS l p l.length)).getD (r+1) sm0).amt:=by rw [hsm,g3]
    subst g2;refine A4 ?_;refine R2 (xb7 (r:=tS [⟨1,false,tI ((sumsL o (mpS l p l.length)).getD (r+1) sm0).acc⟩,⟨1,false,tI ((sumsL o (mpS l p l.length)).getD (r+1) sm0).amt⟩]) (ts:=[(0,tI ((sumsL o (mpS l p l.length)).getD (r+1) sm0).acc),(1,tI ((sumsL o (mpS l p l.length)).getD (r+1) sm0).amt)]) bu164 zr164.2 (Bc 0 rfl rfl rfl (Bc 1 rfl rfl rfl zao))) rfl rfl (R1 (xb6 (n:=1) (f:=tSm) [((sumsL o (mpS l p l.length)).getD (r+1) sm0)] zhh el164 zf164 rfl (fun _=>inferInstance) rfl rfl rfl) rfl (RE (xc5 (k:=19) (k':=62) (f:=tSm) (ys:=[((sumsL o (mpS l p l.length)).getD (r+1) sm0)]) (ts':=rV tSm ((sumsL o (mpS l p l.length)).take (r+1)++[((sumsL o (mpS l p l.length)).getD (r+1) sm0)])) zhh el164 zf164 rfl rfl (fun _=>inferInstance) (xe0.trans htl) (by simp;omega) (by simp;omega) (by simp [rV]) (n':=r+1+1) rfl) qB qA qA ?_));refine A8 ?_;exact xh0 (l:=[3,19]) (zab 19 62) (r+1) ⟨g1,(by omega)⟩ (zaf rfl (zas rfl (zas rfl (zas rfl zbd)))) ((zbb rfl (zat (by rw [zb6 g1];exact xc2.symm))) ((zbb rfl zap) zbe)) (zaj (zak rfl (zak rfl (zaj zar)))) (zam rfl (supJ xb2) (zam rfl (supJL rfl) zaz)) (lkOk rfl) rfl rfl (fun _ h=>by cases h)
theorem jo9 (l:List Deal) (hl:l.length<=16):
  Ct Tryz.prog 15 [tL 7 true tDeal l] (tL 7 true tDeal l):=by
 refine Ct.intro func15 rfl ntmps15 rfl ?_;intro w F;refine A7 ?_;refine RE (xh7 (k:=3) 79 7 true rfl (fun h=>by cases h)) trivial trivial qA ?_;refine A9 ?_;refine cL (fun (i:Nat)=>i<=l.length) (fun (i:Nat)=>uV (uO (uV uN 0 (tL 7 true tDeal l)) 3 (.sl 3 7 0 i)) 4 (tI i)) (fun (i:Nat)=>uK uN 3 79 7 true (rV tDeal (l.take i))) [3] (fun (i:Nat)=>l.length - i) (0) (zbs _) ?_;intro i hI;have htl:(l.take i).length=i:=by rw [zcz];omega
 refine A9 ?_;refine xa6 rfl (fun h46=> ?_) (fun h46=> ?_)
 ·
  refine A8 ?_;refine R2 (x8 sl22 (i) (by omega) (zai (l:=l) (n:=i) (d:=deal0))) rfl rfl (R1 (xf1 fo44_0.h (At.f 0 rfl rfl) rfl) rfl ?_);refine A3 ?_;refine R2 (x8 sl22 (i) (by omega) (zai (l:=l) (n:=i) (d:=deal0))) rfl rfl (R1 (xf1 fo44_1.h (At.f 1 rfl rfl) rfl) rfl ?_);refine A3 ?_;refine R2 (x8 sl22 (i) (by omega) (zai (l:=l) (n:=i) (d:=deal0))) rfl rfl (R1 (xf1 fo44_2.h (At.f 2 rfl rfl) rfl) rfl ?_);refine A3 ?_;refine R2 (x8 sl22 (i) (by omega) (zai (l:=l) (n:=i) (d:=deal0))) rfl rfl (R1 (xf1 fo44_3.h (At.f 3 rfl rfl) rfl) rfl ?_);refine A1 ?_;refine Rt (xb7 (r:=tS [⟨1,false,tI (l.getD i deal0).lo⟩,⟨1,false,tI (l.getD i deal0).hi⟩,⟨4,true,tFr (l.getD i deal0).share⟩,⟨1,false,tI (l.getD i deal0).acc⟩]) (ts:=[(0,tI (l.getD i deal0).lo),(1,tI (l.getD i deal0).hi),(2,tFr (l.getD i deal0).share),(3,tI (l.getD i deal0).acc)]) bu79 zr79.2 (Bc 0 rfl rfl rfl (Bc 1 rfl rfl rfl (Bc 2 rfl rfl rfl (Bc 3 rfl rfl rfl zao))))) qD (R1 (xb6 (n:=1) (f:=tDeal) [(l.getD i deal0)] zhg el79 zf79 rfl (fun _=>inferInstance) rfl rfl rfl) rfl (RE (xc5 (k:=3) (k':=34) (f:=tDeal) (ys:=[(l.getD i deal0)]) (ts':=rV tDeal (l.take i++[(l.getD i deal0)])) zhg el79 zf79 rfl rfl (fun _=>inferInstance) (xe0.trans htl) (by simp;omega) (by simp;omega) (by simp [rV]) (n':=i+1) rfl) qB qA qA ?_));refine A9 ?_;exact xh0 (l:=[3]) (zab 3 34) (i+1) ⟨(by omega),(by omega)⟩ (zaf rfl (zas rfl (zas rfl zbd))) ((zbb rfl (zat (by rw [zg0 (by omega)];exact xc2.symm))) zbe) (zaj (zak rfl (zaj zar))) (zam rfl (supJ xb2) zaz) (lkOk rfl) rfl rfl (fun _ h=>by cases h)
 ·
  refine A7 ?_;refine RE (xi5 (f:=tDeal) (xs:=l.take i) (fun _ h=>h) (xn8 htl) htl) qA qA trivial ?_;refine A4 ?_;exact E1 rfl rfl (Le.of (by rw [show i=l.length by omega,zci]))
theorem y8 (o:Int) (b p:List Int):
  Ct Tryz.prog 18 [tState o b p] (tState o b p):=by
 refine Ct.intro func18 rfl ntmps18 rfl ?_;intro w F;refine A3 ?_;refine RE (xa3 (k:=2) (n:=3) (agg:=true) zr34.1 zr34.2 rfl) trivial trivial qA ?_;refine A10 ?_;refine R3 (xb7 (r:=tS [⟨1,false,tI o⟩,⟨1,false,tIs b⟩,⟨1,false,tIs p⟩]) (ts:=[(0,tI o),(1,tIs b),(2,tIs p)]) bu34 zr34.2 (Bc 0 rfl rfl rfl (Bc 1 rfl rfl rfl (Bc 2 rfl rfl rfl zao)))) rfl rfl rfl ?_;refine A4 ?_;exact EC rfl ⟨_,_,_,_,_,rfl,rfl,ti34,zao⟩
theorem zq2 (o:Int) (b p:List Int):
  Ct Tryz.prog 63 [tState o b p,tState o b p] (tB true):=by
 refine Ct.intro func63 rfl ntmps63 rfl ?_;intro w F;refine A15 ?_;refine Rg (zbg (by rfl)) rfl (xf4 fo34_1.h rfl) rfl qA (xg1 (zbg (by rfl)) rfl rfl (0) ti23 rfl rfl rfl (At.g 1 rfl rfl) rfl (Rg (zbg (by rfl)) rfl (xf4 fo34_1.h rfl) rfl qA (xg1 (zbg (by rfl)) rfl rfl (0) ti23 rfl rfl rfl (At.g 1 rfl rfl) rfl (Rg (zbg (by rfl)) rfl (x3 (yz5 b) fi64 rfl) rfl qB (R2 (xm0 (zbg (by rfl))) rfl rfl ?_)))));refine A5 ?_;refine Rg rfl rfl (x3 (yz5 p) fi64 rfl) rfl qB ?_;refine A5 ?_;exact E1 rfl rfl zao
end An.S
namespace An
open Go
def tLK {α:Type} (es:Nat) (agg:Bool) (f:α->Ty) (xs ms:List α):Ty:=
 ⟨fun F w v=> ∃A c,v= .slice A xs.length c/\(tL es agg f (xs++ms)).p F w (.slice A (xs.length+ms.length) c),fun ⟨A,c,h1,h2⟩ hk=>⟨A,c,h1,(tL es agg f (xs++ms)).mono h2 hk⟩⟩
theorem tLK_le {α:Type} {es:Nat} {agg:Bool} {f:α->Ty} {xs ms:List α}:Le (tLK es agg f xs ms) (tL es agg f xs):=fun F w v ⟨A,c,h1,h2⟩=>by
 obtain ⟨A',c',e,h3,h4,h5⟩:=h2;injection e with e1 e2 e3;subst e1 e3;refine ⟨A,c,h1,by simp at h3;omega,h4,?_⟩;rcases h5 with h5 | ⟨b,o,h6,h7,h8⟩
 ·exact .inl (List.append_eq_nil_iff.1 h5).1
 ·exact .inr ⟨b,o,h6,h7,fun i x hi=>h8 i x (by rw [zda (zbi.1 hi).1];exact hi)⟩
instance {α:Type} {es:Nat} {agg:Bool} {f:α->Ty} {xs ms:List α}:Shape (tLK es agg f xs ms) 1 false:=⟨fun ⟨_,_,h,_⟩=>by rw [h];exact xd6 rfl⟩
def LeFs:List Fd->List Fd->Prop
 | [],[]=>True
 | f::r,g::s=>(f.n=g.n/\f.agg=g.agg/\Le f.t g.t)/\LeFs r s
 | _,_=>False
theorem LeFs.sum: ∀{fs gs:List Fd},LeFs fs gs->Fd.sum fs=Fd.sum gs
 | [],[],_=>rfl
 | _::_,_::_,h=>by rw [Fd.sum,Fd.sum,h.1.1,LeFs.sum h.2]
 | [],_::_,h=>h.elim
 | _::_,[],h=>h.elim
theorem LeFs.all {F:Dom} {w:World} {cs:Array Value}: ∀{fs gs:List Fd} {o:Nat},LeFs fs gs->Fd.all F w cs o fs->Fd.all F w cs o gs
 | [],[],_,_,h=>h
 | f::r,g::s,o,h,ha=>by
  obtain ⟨⟨h1,h2,h3⟩,h4⟩:=h;refine ⟨⟨by rw [<-h1,<-h2];exact ha.1.1,by rw [<-h1,<-h2];exact h3 _ _ _ ha.1.2⟩,?_⟩;rw [<-h1];exact LeFs.all h4 ha.2
 | [],_::_,_,h,_=>h.elim
 | _::_,[],_,h,_=>h.elim
theorem Le.tS {fs gs:List Fd} (h:LeFs fs gs):Le (tS fs) (tS gs):=fun _ _ _ ⟨cs,h1,h2,h3⟩=>⟨cs,h1,h2.trans h.sum,h.all h3⟩
theorem add0 {A:Option Addr} {es:Nat}:A.map (·.add (0*es))=A:=by cases A <;> simp [Addr.add]
section
variable {P:Program} {c:Base} {d ty:Nat} {pos:String} {af:Array Edge} {gd:Option (Nat×Bool)}
theorem d_lenK {T:TypeId} {x:Operand} {α:Type} {es:Nat} {agg:Bool} {f:α->Ty} {xs ms:List α} {E:TypeId} (hT:P.underlying T=some (.slice E)):
  Does P c ⟨some d,.call {callee:= .builtin .len,args:= #[x],argTypes:= #[T]},ty,pos,af,gd⟩ ⟨[(x,.val (tLK es agg f xs ms))],[],some (d,some (.val (tI xs.length))),[],[]⟩:=
 Does.value rfl fun g h al a w η hrd _ s=>by
  obtain ⟨A,cc,h1,_⟩:=(xa7 s hrd.1).1;have h1:a.eval x= .slice A xs.length cc:=h1;exact ⟨_,w,by simp only [execOp,resolve,invoke,builtin,zdn,zcx,zfn,h1];simp [Builtin.len_,run_underlying hT,goInt,go_sem],Ext.refl w,rfl,fun k hk=>by cases hk⟩
theorem jd3 {T E es:Nat} {agg:Bool} {α:Type} {f:α->Ty} {xs ms:List α} {x y:Operand} {v:Int} (sl:SlI P T E es agg) (hv:v=((xs.length+ms.length:Nat):Int)):
  Does P c ⟨some d,.slice T x none (some y) none,ty,pos,af,gd⟩ ⟨[(x,.val (tLK es agg f xs ms)),(y,.val (tI v))],[],some (d,some (.val (tL es agg f (xs++ms)))),[],[]⟩:=by
 subst hv;exact Does.value rfl fun g h al a w η hrd _ s=>by
  obtain ⟨A,cap,hA,hm⟩:=(xa7 s hrd.1).1;have hA:a.eval x= .slice A xs.length cap:=hA;have hle:xs.length+ms.length<=cap:=by
   obtain ⟨_,_,e,h1,_⟩:=hm;injection e with e1 e2 e3;subst e3;simpa using h1
  have hb:=xz9 (P:=P) (b:=true) (len:=xs.length) (cap:=cap) s (lo:=none) (hi:=some y) (l:=0) (u:=xs.length+ms.length) (fun _=>rfl) (fun h=>by cases h) hrd.2 (zbs _) hle;simp only [zga] at hb;refine ⟨.slice (if cap=0 then A else A.map (·.add (0*es))) (xs.length+ms.length - 0) (cap - 0),w,?_,Ext.refl w,?_,fun j hj=>by cases hj⟩
  ·simp only [execOp,hA,Instr.sliceAt,zbu,zde sl.und,zbo,Instr.slice,zga,hb,sl.el.size_run w,zbv]
  ·have e:(if cap=0 then A else A.map (·.add (0*es)))=A:=by
    split
    ·rfl
    ·exact add0
   rw [e];exact hm
end
def tG (G:Dom) (t:Ty):Ty:=⟨fun F w v=>t.p (fun b=>F b/\G b) w v,fun h hk=>t.mono h fun b o hb hl hd=>⟨⟨(hk b o hb.1 hl hd).1,hb.2⟩,(hk b o hb.1 hl hd).2⟩⟩
theorem Le.trans {t u v:Ty} (h:Le t u) (k:Le u v):Le t v:=fun _ _ _ hp=>k _ _ _ (h _ _ _ hp)
abbrev zav:=@Le.trans
instance {G:Dom} {t:Ty} {n:Nat} {agg:Bool} [h:Shape t n agg]:Shape (tG G t) n agg:=⟨fun hp=>h.flat (F:=fun b=>_/\G b) hp⟩
def Free (t:Ty):Prop:= ∀F F' w w' v,t.p F w v->t.p F' w' v
theorem Free.E {u:Value}:Free (tE u):=fun _ _ _ _ _ h=>h
def CtN (P:Program) (f:FuncId) (ts:List Ty) (rr:Nat->Ty):Prop:=
 ∀(F:Dom) (w:World) (vs:List Value),Tup.all F w ts vs->Calls P f vs.toArray w fun e w'=> ∃v,e= .returned v/\Ext w w'/\(rr w.heap.size).p (fun b=>w.heap.size<=b∨F b) w' v
section
variable {P:Program}
theorem CtN.intro' {f:FuncId} {fn:Func} {x:Code} {N:Nat} {ts:List Ty} (tt:Nat->List Ty) {rr:Nat->Ty} (hf:P.funcs[f]? =some fn) (hb:fn.body=some x) (hN:fn.ntmps=N) (hlb:Nat.ble ts.length N=true)
  (hl2: ∀n,(tt n).length=ts.length) (htt: ∀F w vs,Tup.all F w ts vs->Tup.all F w (tt w.heap.size) vs)
  (H: ∀w F,wc P (Base.plain N w F) x (Post P w F fn (rr w.heap.size)) (args 0 (tt w.heap.size)) (fun _=>none) (fun _=>false)):CtN P f ts rr:=by
 intro F w vs hvs0;have hvs:=htt F w vs hvs0;have hl:(tt w.heap.size).length<=N:=by rw [hl2];exact zdm hlb
 generalize htq:tt w.heap.size=tq at*
 have hlen:vs.length=tq.length:=by
  clear H hlb hl hl2 htt hvs0 htq
  induction tq generalizing vs with
  | nil=>cases vs with
   | nil=>rfl
   | cons=>exact hvs.elim
  | cons t r ih=>cases vs with
   | nil=>exact hvs.elim
   | cons v s=>simp [ih s hvs.2]
 have H':=H w F;rw [htq] at H';refine xk1 hf hb (H' _ w ⟨⟨fun _=>0,fun _=>0,fun _=>False⟩,?_⟩);refine ⟨?_,rfl,fun s e hs=> ?_,fun k x hx=>(by cases hx),fun k k' x x' hx=>(by cases hx),⟨rfl,rfl,rfl,zbm _,fun _ _ _ _=>rfl,fun _ hb=>hb,fun _ hb=>hb.elim⟩,fun x hx=>(by cases hx),fun x hx=>(by cases hx),fun b hb=>hb.elim,fun k hk=>(by cases hk),fun k x hk=>(by cases hk),fun b hb=>hb.elim⟩
 ·simp [hlen,hN,Base.plain];omega
 ·obtain ⟨j,t,h1,h2,h3⟩:=yg0 tq 0 s e hs;subst h3;have hj:j < tq.length:=(zbi.1 h2).1;obtain ⟨v,hv,hp⟩:=Tup.get tq vs j t hvs h2;refine ⟨by show s < N;omega,fun k hk=>(by cases hk),?_⟩;have e1:(vs.toArray++Array.replicate (fn.ntmps - vs.toArray.size) undef).getD s undef=v:=by
   rw [zbn,zft,if_pos (by simp;omega)];rw [h1,zcj,zfe,hv];rfl
  show t.p _ w _;simp only [e1];exact t.mono hp fun b o hb hl _=>⟨⟨.inr ⟨hb,fun hv=>hv⟩,fun ⟨k,x,hk,_⟩=>(by cases hk),fun hv=>hv,fun hv=>hv⟩,hl⟩
theorem CtN.intro {f:FuncId} {fn:Func} {x:Code} {N:Nat} {ts:List Ty} {rr:Nat->Ty} (hf:P.funcs[f]? =some fn) (hb:fn.body=some x) (hN:fn.ntmps=N) (hlb:Nat.ble ts.length N=true)
  (H: ∀w F,wc P (Base.plain N w F) x (Post P w F fn (rr w.heap.size)) (args 0 ts) (fun _=>none) (fun _=>false)):CtN P f ts rr:=CtN.intro' (fun _=>ts) hf hb hN hlb (fun _=>rfl) (fun _ _ _ h=>h) H
variable {c:Base} {d ty:Nat} {pos:String} {af:Array Edge} {gd:Option (Nat×Bool)}
theorem yv6 {g:Slots} {h:Keys} {al:Nat->Bool} {a:Act} {w:World} {η:Env} (s:St' c g h al a w η) {b:Nat} (hb:w.heap.size<=b):c.dom h η b:=by
 refine ⟨.inl (zce s.fr.size hb),fun ho=> ?_,fun hv=> ?_,fun hv=> ?_⟩
 ·have:=s.olt ho;omega
 ·have:=(s.fr.vnew b hv).1;omega
 ·have:=s.vol b hv;omega
theorem yj8 {f:FuncId} {xs:List Operand} {aT:Array TypeId} {ts us:List Ty} {rr:Nat->Ty} {r:Ty} (hc:CtN P f us rr) (hf:FnI P f) (hr: ∀m,c.w0.heap.size<=m->Le (rr m) r) (hle:LeL ts us) (hl:xs.length=ts.length):
  Does P c ⟨some d,.call {callee:= .value (.func f),args:=xs.toArray,argTypes:=aT},ty,pos,af,gd⟩ ⟨xs.zip (ts.map Ent.val),[],some (d,some (.val r)),[],[]⟩:=by
 intro g h al a w hp ⟨η,s⟩;obtain ⟨fn,h1,h2,h3⟩:=hf;have hargs:=hle.all (Tup.all_of s xs ts hp.rd hl);have hrun:(execOp a.eval ⟨some d,.call {callee:= .value (.func f),args:=xs.toArray,argTypes:=aT},ty,pos,af,gd⟩).run P w= .ok (.enter f (xs.map a.eval).toArray) w:=by
  simp only [execOp,resolve,Act.eval,Deferred.ofValue,zbu,zbv,zbo,invoke];simp only [zeu,zef,zdn];exact xe7 h1 h2 h3 _ w
 refine xh4 hrun (zfc (hc _ w (xs.map a.eval) hargs) ?_);rintro e w' ⟨v,rfl,hext,hv⟩;refine ⟨v,rfl,η,(s.ext hext).put (hp.d _ rfl) (e:= .val r) (hr _ s.fr.size _ _ _ ((rr _).mono hv fun b o hb hl _=>⟨?_,hl⟩)) (fun k hk=>by cases hk)⟩;rcases hb with hb | hb
 ·exact yv6 s hb
 ·exact hb
end
section
variable {P:Program} {c:Base} {d ty:Nat} {pos:String} {af:Array Edge} {gd:Option (Nat×Bool)}
end
section
variable {P:Program} {c:Base} {g:Slots} {h:Keys} {al:Names} {d ty:Nat} {pos:String} {af:Array Edge} {gd:Option (Nat×Bool)}
end
end An
namespace An.S
open Go Go.Proofs An Tryz
theorem le_T {ts us:List Ty} (h:LeL ts us):Le (tT ts) (tT us):=fun _ _ _ ⟨vs,h1,h2⟩=>⟨vs,h1,h.all h2⟩
end An.S
namespace An
open Go
structure OvJ where
  D:Dom
  J:Nat->World->Prop
  loc: ∀n w w',J n w->w.heap.size<=w'.heap.size->(∀b,D b->b < w.heap.size->w'.heap[b]? =w.heap[b]?)->J n w'
def OvJ.JO (X:OvJ) (n:Nat) (O V:Dom) (w:World):Prop:=X.J n w/\ ∀b,X.D b->V b/\ ¬O b/\b < w.heap.size
theorem OvJ.Jc (X:OvJ):JcOf X.JO:=by
 rintro n O O' V w w' ⟨h1,h2⟩ hs hO;refine ⟨X.loc n w w' h1 hs.size fun b hb hlt=>hs.block b hlt (h2 b hb).2.1,fun b hb=>⟨(h2 b hb).1,fun h'=> ?_,zby (h2 b hb).2.2 hs.size⟩⟩;rcases (hO b h').2 with h3 | h3
 ·exact (h2 b hb).2.1 h3
 ·have:=(h2 b hb).2.2;omega
def envK (η:Env) (K:Nat):Env:=⟨η.b,fun k=>if k=K then 0 else η.c k,fun _=>False⟩
def Base.over (N:Nat) (w:World) (F:Dom) (η:Env) (l0:List Nat) (H:List (Nat×HEnt)) (K:Nat) (X:OvJ):Base:=⟨N,w,F,K::l0,envK η K,OwnK η H,none,[],[],fun _=>False,some K,X.D,X.JO,X.Jc⟩
structure OvC (c:Base) (w:World) (η:Env) (H:List (Nat×HEnt)) (K:Nat) (X:OvJ):Prop where
  w0:c.w0=w
  lb:c.lb=OwnK η H
  yk:c.yk=some K
  V0:c.V0=X.D
  J:c.J=X.JO
  df:dfB c.df c.pn
  ln:K∈c.ln
  c0:c.lη.c K=0
theorem OvC.mk' {N:Nat} {w:World} {F:Dom} {η:Env} {l0:List Nat} {H:List (Nat×HEnt)} {K:Nat} {X:OvJ}:OvC (Base.over N w F η l0 H K X) w η H K X:=⟨rfl,rfl,rfl,rfl,rfl,trivial,by simp [Base.over],by simp [Base.over,envK]⟩
section
variable {P:Program} {X:OvJ}
variable {c:Base} {g:Slots} {h:Keys} {al:Names} {d ty:Nat} {pos:String} {af:Array Edge} {gd:Option (Nat×Bool)}
structure RBase (c:Base) (w0:World):Prop where
  ext:Ext w0 c.w0
  lb: ∀b,c.lb b->w0.heap.size<=b
  V0: ∀b,c.V0 b->w0.heap.size<=b
theorem RBase.now {w0 w:World} {a:Act} {η:Env} (hr:RBase c w0) (s:St' c g h al a w η):Ext w0 w:=by
 have hv: ∀b,b < w0.heap.size-> ¬η.vo b:=fun b hb hv=>by
  rcases (s.fr.vnew b hv).2.2 with h1 | h1
  ·have:=hr.V0 b h1;omega
  ·have:=hr.ext.size;omega
 refine ⟨s.fr.os.trans hr.ext.os,s.fr.tape.trans hr.ext.tape,s.fr.output.trans hr.ext.output,zce hr.ext.size s.fr.size,fun b hb=>(s.fr.block b (zby hb hr.ext.size) (fun hl=> ?_) (hv b hb)).trans (hr.ext.block b hb)⟩;have:=hr.lb b hl;omega
theorem E_retB {fn:Func} {u:Value} {t:Nat} {w0:World} {F:Dom} (hp:RBase c w0) (hdf:dfB c.df c.pn) (hr:fn.results= #[.tmp t]) (hx:g t=some (.val (tE u))):wk c .ret (Post P w0 F fn (tE u)) g h al:=
 ys5 (.inl rfl) hdf fun df pn a w η s=>by
  have hp':RBase (c.with df pn) w0:=⟨hp.ext,hp.lb,hp.V0⟩
  exact ⟨_,results_tmp hr a.tmps P w,hp'.now s,xt2 s hx⟩
theorem C_at {x:Code} {Q:Exit->Act->World->Prop} (H: ∀a w,St c g h al a w-> ∃(c':Base) (g':Slots) (h':Keys) (al':Names),c'.ro=c.ro/\St c' g' h' al' a w/\wc P c' x Q g' h' al'):wc P c x Q g h al:=fun a w hs=>by
 obtain ⟨c',g',h',al',h1,h2,h3⟩:=H a w hs;rw [<-h1];exact h3 a w h2
def kval (w:World) (η:Env) (k:Nat) (x:HEnt) (i:Nat):Value:=match w.heap[η.b k]? with
 | some (.cells cs _ _)=>pick x.agg x.es cs (i*x.es)
 | _=>undef
def Cnv (G:Dom) (v:Value) (e e':Ent):Prop:=(e'=e/\ ∃k off,e= .own (.ptr k off))∨(∃t t',e= .val t/\e'= .val t'/\Le t (tG G t'))∨((∃t,e= .val t)/\e'= .val (tE v))
theorem Cnv.val {G:Dom} {v:Value} {t t':Ty} (h:Le t (tG G t')):Cnv G v (.val t) (.val t'):= .inr (.inl ⟨t,t',rfl,rfl,h⟩)
def SlC (G:Dom) (a:Act) (g g':Slots):Prop:= ∀s e',g' s=some e'-> ∃e,g s=some e/\Cnv G (a.tmps.getD s undef) e e'
def KyC (G:Dom) (w:World) (η:Env) (h h':Keys):Prop:= ∀k x',h' k=some x'-> ∃T es agg e e',h k=some ⟨T,es,agg,[e]⟩/\x'=⟨T,es,agg,[e']⟩/\Cnv G (kval w η k ⟨T,es,agg,[e]⟩ 0) e e'/\ ∀j∈e'.supp,j∈e.supp
theorem KyC.nil {G:Dom} {w:World} {η:Env}:KyC G w η h (fun _=>none):=fun _ _ h=>by cases h
theorem St'.over {N:Nat} {a:Act} {w w0:World} {F:Dom} {η:Env} {g':Slots} {h':Keys} (K:Nat) (X:OvJ) (s:St' (Base.plain N w0 F) g h al a w η) (hX: ∀b,X.D b->w0.heap.size<=b/\b < w.heap.size/\ ¬Own h η b) (hJ:X.J 0 w) (hK:al K=false) (hg:SlC (fun b=> ¬X.D b) a g g') (hh:KyC (fun b=> ¬X.D b) w η h h'):
  St (Base.over N w0 F ⟨fun _=>0,fun _=>0,fun _=>False⟩ [] [] K X) g' (upd h' K (some ⟨0,1,false,[]⟩)) (fun j=>al j || Nat.beq j K) a w:=by
 have hKm:(al K || Nat.beq K K)=true:=by simp
 have hal: ∀k,al k=true->(al k || Nat.beq k K)=true:=fun k hk=>by rw [hk];rfl
 have hne: ∀k,al k=true->k≠K:=fun k hk e=>by subst e;rw [hk] at hK;cases hK
 obtain ⟨η',hη⟩: ∃η':Env,η'=⟨fun k=>if k=K then 0 else η.b k,fun k=>if k=K then 0 else η.c k,X.D⟩:=⟨_,rfl⟩
 have eb: ∀k,k≠K->η'.b k=η.b k:=fun k hk=>by rw [hη];simp [hk]
 have ebK:η'.b K=0:=by rw [hη];simp
 have ec: ∀k,k≠K->η'.c k=η.c k:=fun k hk=>by rw [hη];simp [hk]
 have ecK:η'.c K=0:=by rw [hη];simp
 have evo:η'.vo=X.D:=by rw [hη]
 have hh0: ∀k x',k≠K->upd h' K (some ⟨0,1,false,[]⟩) k=some x'-> ∃x,h k=some x/\x'.T=x.T:=fun k x' hk hx=>by
  rw [x4 _ _ _ hk] at hx;obtain ⟨T,es,agg,e,e',h1,rfl,_⟩:=hh k x' hx;exact ⟨_,h1,rfl⟩
 have hown: ∀b,Own (upd h' K (some ⟨0,1,false,[]⟩)) η' b->Own h η b:=by
  rintro b ⟨k,x',hx,hc,rfl⟩;by_cases hk:k=K
  ·subst hk;omega
  ·obtain ⟨x,h1,_⟩:=hh0 k x' hk hx;exact ⟨k,x,h1,by rw [<-ec k hk];exact hc,eb k hk⟩
 have hKp:Keep (fun b=>(Base.plain N w0 F).dom h η b/\ ¬X.D b) ((Base.over N w0 F ⟨fun _=>0,fun _=>0,fun _=>False⟩ [] [] K X).dom (upd h' K (some ⟨0,1,false,[]⟩)) η') w w:=fun b o hb hl _=>
  ⟨⟨hb.1.1.imp id fun hf=>⟨hf.1,fun ⟨x,hx,_⟩=>(by cases hx)⟩,fun ho=>hb.1.2.1 (hown b ho),fun hv=>hb.2 (by rw [evo] at hv;exact hv),fun hv=>hv⟩,hl⟩
 have cnv: ∀(v v':Value) (e e':Ent),e.sat ((Base.plain N w0 F).dom h η) w η v->v'=v->(∀k∈e.supp,al k=true)->Cnv (fun b=> ¬X.D b) v' e e'->(∀k∈e'.supp,al k=true)/\e'.sat ((Base.over N w0 F ⟨fun _=>0,fun _=>0,fun _=>False⟩ [] [] K X).dom (upd h' K (some ⟨0,1,false,[]⟩)) η') w η' v:=by
  intro v v' e e' hs hv hsup hc;subst hv;rcases hc with ⟨rfl,k,off,rfl⟩ | ⟨t,t',rfl,rfl,hl⟩ | ⟨_,rfl⟩
  ·refine ⟨hsup,?_⟩;have hs:v'= .pointer (some ⟨η.b k,off,none⟩):=hs;show v'= .pointer (some ⟨η'.b k,off,none⟩);rw [eb k (hne k (hsup k (by simp [Ent.supp,VP.supp])))];exact hs
  ·exact ⟨fun _ hk=>(by cases hk),t'.mono (hl _ _ _ hs) hKp⟩
  ·exact ⟨fun _ hk=>(by cases hk),rfl⟩
 refine ⟨η',s.tn,s.df,fun t e' he=> ?_,fun k x' hx=> ?_,fun k k' x x' hx hx' hkk hck hck'=> ?_,⟨s.fr.os,s.fr.tape,s.fr.output,s.fr.size,fun b hb _ _=> ?_,fun b hb=>(by rw [evo];exact hb),fun b hb=> ?_⟩,fun k hk=> ?_,fun x hx=>(by cases hx),fun b hb=>hb.elim,fun k hk=>(by cases hk;exact hKm),fun k x hk hx=> ?_,fun b ⟨x,hx,_⟩=>(by cases hx)⟩
 ·obtain ⟨e,h1,h2⟩:=hg t e' he;obtain ⟨n1,n2,n3⟩:=s.slot t e h1;obtain ⟨m1,m2⟩:=cnv _ _ e e' n3 rfl n2 h2;exact ⟨n1,fun k hk=>hal k (m1 k hk),m2⟩
 ·by_cases hk:k=K
  ·subst hk;rw [x6] at hx;cases hx;exact ⟨hKm,fun j hj=>(by cases hj),⟨by simp,by simp,fun _=>rfl,by omega,fun hc=>by omega⟩,fun hc=>by omega⟩
  ·rw [x4 _ _ _ hk] at hx;obtain ⟨T,es,agg,e,e1,h1,rfl,h2,h3⟩:=hh k x' hx;obtain ⟨q1,q2,⟨r1,r2,r3,r4,r5⟩,q4⟩:=s.key k _ h1;have hsupe: ∀j∈e.supp,al j=true:=fun j hj=>q2 j (by simpa [HEnt.supp] using hj);have r1:1<=η.c k:=r1;obtain ⟨cs,c1,c2,c3⟩:=r5 (by omega);have c4:=c3 0 e rfl;have hkv:kval w η k ⟨T,es,agg,[e]⟩ 0=pick agg es cs (0*es):=by simp only [kval,c1]
   obtain ⟨m1,m2⟩:=cnv _ _ e e1 c4 hkv hsupe h2;refine ⟨hal k q1,fun j hj=>hal j (m1 j (by simpa [HEnt.supp] using hj)),⟨by rw [ec k hk];exact r1,r2,r3,by rw [ec k hk];exact r4,fun _=>⟨cs,by rw [eb k hk];exact c1,by rw [ec k hk];exact c2,fun i e0 hi=> ?_⟩⟩,fun _=> ?_⟩
   ·cases i with
    | zero=>cases hi;exact m2
    | succ i=>simp at hi
   ·obtain ⟨p1,p2,p3⟩:=q4 (by omega);rw [eb k hk,evo];exact ⟨.inl (p1.resolve_right fun h=>h),fun hD=>(hX _ hD).2.2 ⟨k,_,h1,by omega,rfl⟩,p3⟩
 ·by_cases hk:k=K
  ·subst hk;omega
  ·by_cases hk':k'=K
   ·subst hk';omega
   ·obtain ⟨y,h1,_⟩:=hh0 k x hk hx;obtain ⟨y',h1',_⟩:=hh0 k' x' hk' hx';rw [eb k hk,eb k' hk'];exact s.inj k k' y y' h1 h1' hkk (by rw [<-ec k hk];exact hck) (by rw [<-ec k' hk'];exact hck')
 ·refine s.fr.block b hb (fun h=>h) fun hv=> ?_;have:=(s.fr.vnew b hv).2.1;cases this
 ·rw [evo] at hb;exact ⟨(hX b hb).2.1,rfl,.inl hb⟩
 ·have hk:k∈[K]:=hk;rw [zbq.1 hk];refine ⟨hKm,?_,?_⟩
  ·rw [ebK];rfl
  ·rw [ecK];simp [Base.over,envK]
 ·have hk:some K=some k:=hk;cases hk;rw [x6] at hx;cases hx;refine ⟨hJ,fun b hb=>⟨by rw [evo];exact hb,?_,(hX b hb).2.1⟩⟩;rintro (hb' | hb' | ⟨y,hy,_⟩)
  ·exact (hX b hb).2.2 (hown b hb')
  ·exact hb'
  ·cases hy
end
def tLW {α:Type} (T es:Nat) (agg:Bool) (f:α->Ty) (xs ms:List α):Ty:=
  ⟨fun F w v=> ∃b c cs,v= .slice (some ⟨b,0,none⟩) xs.length c/\F b/\w.heap[b]? =some (.cells cs T (0,0))/\cs.size=c*es/\0 < es/\(agg=false->es=1)/\xs.length+ms.length<=c/\c<=9223372036854775807/\
      ∀i x,(xs++ms)[i]? =some x->(f x).p (fun b'=>F b'/\b'≠b) w (pick agg es cs (i*es)),
   fun ⟨b,c,cs,h1,hF,hh,h2,h3,h4,h5,h6,hx⟩ hk=>⟨b,c,cs,h1,(hk b _ hF hh rfl).1,(hk b _ hF hh rfl).2,h2,h3,h4,h5,h6,fun i x hi=>(f x).mono (hx i x hi) fun b' o hb hl hd=>⟨⟨(hk b' o hb.1 hl hd).1,hb.2⟩,(hk b' o hb.1 hl hd).2⟩⟩⟩
instance {α:Type} {T es:Nat} {agg:Bool} {f:α->Ty} {xs ms:List α}:Shape (tLW T es agg f xs ms) 1 false:=⟨fun ⟨_,_,_,h,_⟩=>by rw [h];exact xd6 rfl⟩
section
variable {P:Program} {c:Base} {d ty:Nat} {pos:String} {af:Array Edge} {gd:Option (Nat×Bool)}
end
abbrev VM:=Nat->Option (Nat×Nat)
def tSlV (V:VM) (n:Nat):Ty:=⟨fun _ _ v=> ∃b m c,v= .slice (some ⟨b,0,none⟩) n c/\V b=some (m,c)/\n+12<=m,fun h _=>h⟩
instance {V:VM} {n:Nat}:Shape (tSlV V n) 1 false:=⟨fun ⟨_,_,_,h,_⟩=>by rw [h];exact xd6 rfl⟩
def FreeF:List Fd->Prop
 | []=>True
 | f::r=>Free f.t/\FreeF r
theorem FreeF.all {F F':Dom} {w w':World} {cs:Array Value}: ∀{fs:List Fd} {o:Nat},FreeF fs->Fd.all F w cs o fs->Fd.all F' w' cs o fs
 | [],_,_,_=>trivial
 | _::_,_,h,ha=>⟨⟨ha.1.1,h.1 _ _ _ _ _ ha.1.2⟩,h.2.all ha.2⟩
theorem Free.S {fs:List Fd} (h:FreeF fs):Free (tS fs):=fun _ _ _ _ _ ⟨cs,h1,h2,h3⟩=>⟨cs,h1,h2,h.all h3⟩
open Classical in
section
variable {P:Program} {g:Slots} {h:Keys} {al:Names} {Q:Exit->Act->World->Prop}
abbrev ovb (N:Nat) (w0:World) (F:Dom) (K:Nat) (X:OvJ):Base:=Base.over N w0 F ⟨fun _=>0,fun _=>0,fun _=>False⟩ [] [] K X
theorem RBase.ov {N:Nat} {w0:World} {F:Dom} {K:Nat} {X:OvJ} (h: ∀b,X.D b->w0.heap.size<=b):RBase (ovb N w0 F K X) w0:=⟨Ext.refl w0,fun _ ⟨_,hx,_⟩=>(by cases hx),h⟩
end
section
variable {P:Program} {c:Base} {d ty:Nat} {pos:String} {af:Array Edge} {gd:Option (Nat×Bool)}
end
section
variable {P:Program} {c:Base} {d ty:Nat} {pos:String} {af:Array Edge} {gd:Option (Nat×Bool)}
end
def tEx {ι:Type} (I:ι->Prop) (r:ι->Ty):Ty:=⟨fun F w v=> ∃i,I i/\(r i).p F w v,fun ⟨i,h1,h2⟩ hk=>⟨i,h1,(r i).mono h2 hk⟩⟩
theorem tEx_le {ι:Type} {I:ι->Prop} {r:ι->Ty} {t:Ty} (h: ∀i,I i->Le (r i) t):Le (tEx I r) t:=fun _ _ _ ⟨i,h1,h2⟩=>h i h1 _ _ _ h2
structure Hd where
  A:Option Addr
  n:Nat
  c:Nat
abbrev Hd.v (u:Hd):Value:= .slice u.A u.n u.c
def Hd.b (u:Hd):Option Nat:=match u.A with
 | some A=>if 0 < u.c then some A.block else none
 | none=>none
abbrev tH (u:Hd):Ty:=tE u.v
def tLmX (T:Nat) (u:Hd) (l:List Nat):Ty:=
  ⟨fun F w v=>v=u.v/\u.n=l.length/\u.n<=u.c/\u.c<=9223372036854775807/\(0 < u.c-> ∃b cs,u.A=some ⟨b,0,none⟩/\F b/\w.heap[b]? =some (.cells cs T (0,0))/\cs.size=u.c/\ ∀(i x:Nat),l[i]? =some x->cs.getD i undef= .int .u16 (x:Int)),
   fun ⟨h1,h2,h3,h4,h5⟩ hk=>⟨h1,h2,h3,h4,fun hc=>by
     obtain ⟨b,cs,e1,e2,e3,e4,e5⟩:=h5 hc;obtain ⟨k1,k2⟩:=hk b _ e2 e3 rfl;exact ⟨b,cs,e1,k1,k2,e4,e5⟩⟩⟩
theorem lmX_le {T:Nat} {u:Hd} {l:List Nat}:Le (tLmX T u l) (tLm l):=fun F w v ⟨h1,h2,h3,h4,h5⟩=>⟨u.A,u.c,by rw [h1,<-h2],by omega,h4,by
 cases l with
 | nil=>exact .inl rfl
 | cons y r=>
  obtain ⟨b,cs,e1,e2,e3,e4,e5⟩:=h5 (by simp at h2;omega);refine .inr ⟨b,0,e1,e2,fun i x hi=>⟨.int .u16 x,⟨cs,T,(0,0),e3,?_,by omega,fun _=>rfl,?_⟩,rfl⟩⟩
  ·have:=(zbi.1 hi).1;omega
  ·simp only [pick,zeq,zcj,zfr];exact (e5 i x hi).symm⟩
theorem lmX_h {T:Nat} {u:Hd} {l:List Nat}:Le (tLmX T u l) (tH u):=fun _ _ _ h=>h.1
instance {T:Nat} {u:Hd} {l:List Nat}:Shape (tLmX T u l) 1 false:=⟨fun ⟨h1,_⟩=>by rw [h1];exact xd6 rfl⟩
instance {u:Hd}:Shape (tH u) 1 false:=⟨fun h=>by have h:_=_:=h;rw [h];exact xd6 rfl⟩
theorem qf0 {T:Nat} {u:Hd} {l:List Nat} {F:Dom} {w:World} {v:Value} (h:(tLmX T u l).p F w v) {b:Nat} (hb:u.b=some b):F b/\ ∃cs,w.heap[b]? =some (.cells cs T (0,0)):=by
 obtain ⟨_,h2,h3,h4,h5⟩:=h;by_cases hc:0 < u.c
 ·obtain ⟨b',cs,e1,e2,e3,_⟩:=h5 hc;simp only [Hd.b,e1,if_pos hc,zca] at hb;subst hb;exact ⟨e2,cs,e3⟩
 ·cases hA:u.A <;> simp [Hd.b,hA,hc] at hb
def Its (T:Nat) (t:Ty) (us:List (Hd×List Nat)):Prop:= ∀F w v,t.p F w v-> ∀u∈us,(tLmX T u.1 u.2).p F w u.1.v
theorem Its.lm {T:Nat} {u:Hd} {l:List Nat}:Its T (tLmX T u l) [(u,l)]:=fun F w v h u' hu=>by
 cases zbq.1 hu;exact ⟨rfl,h.2⟩
theorem Its.app {T:Nat} {t:Ty} {us us':List (Hd×List Nat)} (h:Its T t us) (h':Its T t us'):Its T t (us++us'):=fun F w v hp u hu=>by
 rcases zbj.1 hu with hu | hu
 ·exact h F w v hp u hu
 ·exact h' F w v hp u hu
theorem Fd.all_at {F:Dom} {w:World} {cs:Array Value}: ∀{fs:List Fd} {o i:Nat} {f:Fd},fs[i]? =some f->Fd.all F w cs o fs-> ∃v,f.t.p F w v
 | [],_,_,_,h,_=>by simp at h
 | g::r,o,0,f,h,ha=>by cases h;exact ⟨_,ha.1.2⟩
 | g::r,o,i+1,f,h,ha=>Fd.all_at (fs:=r) (by simpa using h) ha.2
theorem Its.fd {T:Nat} {fs:List Fd} {us:List (Hd×List Nat)} (i:Nat) {f:Fd} (hi:fs[i]? =some f) (h:Its T f.t us):Its T (tS fs) us:=fun F w v ⟨cs,_,_,h3⟩ u hu=>by
 obtain ⟨v',hv⟩:=Fd.all_at hi h3;exact h F w v' hv u hu
section
variable {P:Program} {c:Base} {g:Slots} {h:Keys} {al:Names}
def ItSt (T:Nat) (c:Base) (g:Slots) (h:Keys) (us:List (Hd×List Nat)):Prop:= ∀al a w η,St' c g h al a w η-> ∀u∈us,(tLmX T u.1 u.2).p (c.dom h η) w u.1.v
theorem ItSt.slot {T s:Nat} {t:Ty} {us:List (Hd×List Nat)} (hs:g s=some (.val t)) (ht:Its T t us):ItSt T c g h us:=fun _ _ _ _ st u hu=>ht _ _ _ (xt2 st hs) u hu
theorem ItSt.key {T k T0 es:Nat} {agg:Bool} {α:Type} {f:α->Ty} {zs:List α} {us:α->List (Hd×List Nat)} (hk:h k=some ⟨T0,es,agg,rV f zs⟩) (ht: ∀z∈zs,Its T (f z) (us z)):ItSt T c g h (zs.flatMap us):=fun al a w η st u hu=>by
 obtain ⟨z,hz,hu⟩:=zbw.1 hu;obtain ⟨i,hi,rfl⟩:=List.getElem_of_mem hz;obtain ⟨_,_,⟨h3,_,_,_,h7⟩,_⟩:=st.key k _ hk;have hc:0 < η.c k:=by simp only [rV,zcq] at h3;omega
 obtain ⟨cs,_,_,m⟩:=h7 hc;exact ht _ (zdw hi) _ _ _ (m i (.val (f zs[i])) (by simp [rV,hi])) u hu
def WitSt (c:Base) (g:Slots) (h:Keys) (us:List Hd):Prop:= ∀al a w η,St' c g h al a w η-> ∀u∈us,∀b,u.b=some b->c.dom h η b/\b < w.heap.size
theorem ItSt.wit {T:Nat} {us:List (Hd×List Nat)} {vs:List Hd} (hs:ItSt T c g h us) (e:us.map (·.1)=vs):WitSt c g h vs:=fun al a w η st u hu b hb=>by
 subst e;obtain ⟨u',h1,rfl⟩:=zcb.1 hu;obtain ⟨h2,cs,h3⟩:=qf0 (hs al a w η st u' h1) hb;exact ⟨h2,xb0 h3⟩
theorem WitSt.nil:WitSt c g h []:=fun _ _ _ _ _ _ hu=>by cases hu
theorem WitSt.app {us us':List Hd} (h1:WitSt c g h us) (h2:WitSt c g h us'):WitSt c g h (us++us'):=fun al a w η s u hu=>by
 rcases zbj.1 hu with hu | hu
 ·exact h1 al a w η s u hu
 ·exact h2 al a w η s u hu
def SepH (us:List Hd):Prop:=us.Pairwise fun u v=> ∀b,u.b=some b->v.b≠some b
def NewH (n:Nat) (us:List Hd):Prop:= ∀u∈us,∀b,u.b=some b->n<=b
def OldH (n:Nat) (us:List Hd):Prop:= ∀u∈us,∀b,u.b=some b->b < n
theorem SepH.app {us vs:List Hd} {n:Nat} (h1:SepH us) (h2:SepH vs) (ho:OldH n us) (hn:NewH n vs):SepH (us++vs):=zem.2 ⟨h1,h2,fun u hu v hv b hb hb'=>by have:=ho u hu b hb;have:=hn v hv b hb';omega⟩
theorem NewH.app {n:Nat} {us vs:List Hd} (h1:NewH n us) (h2:NewH n vs):NewH n (us++vs):=fun u hu=>by
 rcases zbj.1 hu with hu | hu
 ·exact h1 u hu
 ·exact h2 u hu
theorem NewH.le {n m:Nat} {us:List Hd} (h1:NewH n us) (h2:m<=n):NewH m us:=fun u hu b hb=>zce h2 (h1 u hu b hb)
variable {A:Array Oper} {Q:Exit->Act->World->Prop} {rest:List Oper} {d ty:Nat} {pos:String} {af:Array Edge}
theorem yo0 {ι:Type} {I:Nat->ι->Prop} {r:ι->Ty} {f:FuncId} {xs:List Operand} {aT:Array TypeId} {ts us:List Ty} (hs:List Hd) (hc:CtN P f us (fun n=>tEx (I n) r)) (hf:FnI P f) (hle:LeL ts us) (hl:xs.length=ts.length) (hr:Rd g (xs.zip (ts.map Ent.val))) (hw:WitSt c g h hs) (hdN:Nat.blt d c.N=true)
  (H: ∀i n,c.w0.heap.size<=n->OldH n hs->I n i->wl P c A Q rest (upd g d (some (.val (r i)))) h al):
  wl P c A Q (⟨some d,.call {callee:= .value (.func f),args:=xs.toArray,argTypes:=aT},ty,pos,af,none⟩::rest) g h al:=by
 rintro a w ⟨η,s⟩;unfold wpListIn;rw [if_pos (by rfl)];obtain ⟨fn,h1,h2,h3⟩:=hf;have hargs:=hle.all (Tup.all_of s xs ts hr hl);have hrun:(execOp a.eval ⟨some d,.call {callee:= .value (.func f),args:=xs.toArray,argTypes:=aT},ty,pos,af,none⟩).run P w= .ok (.enter f (xs.map a.eval).toArray) w:=by
  simp only [execOp,resolve,Act.eval,Deferred.ofValue,zbu,zbv,zbo,invoke];simp only [zeu,zef,zdn];exact xe7 h1 h2 h3 _ w
 refine xh4 hrun (zfc (hc _ w (xs.map a.eval) hargs) ?_);rintro e w' ⟨v,rfl,hext,i,hI,hv⟩;refine ⟨v,rfl,H i w.heap.size s.fr.size (fun u hu b hb=>(hw al a w η s u hu b hb).2) hI _ _ ⟨η,(s.ext hext).put (by simpa using hdN) (e:= .val (r i)) ((r i).mono hv fun b o hb hl _=>⟨?_,hl⟩) (fun k hk=>by cases hk)⟩⟩;rcases hb with hb | hb
 ·exact yv6 s hb
 ·exact hb
end
theorem CtN.exact {P:Program} {f:FuncId} {t:Ty} {k T n:Nat} {l:List Nat} (h:CtG P f [] [.val t] (.own (.sl k 1 0 n)) [(k,⟨T,1,false,rW .u16 l⟩)] [k]) (hl:l.length=n):CtN P f [t] (fun nw=>tEx (fun u=>NewH nw [u]) (fun u=>tLmX T u l)):=by
 intro F w vs hvs;cases vs with
 | nil=>exact hvs.elim
 | cons v r=>
  cases r with
  | cons _ _=>exact hvs.2.elim
  | nil=>
   refine zfc (h F w ⟨fun _=>0,fun _=>0,fun _=>False⟩ [v] ⟨hvs.1,trivial⟩ (fun x hx=>by cases hx) (fun x hx=>by cases hx) (fun b _ hb=>by obtain ⟨x,hx,_⟩:=hb;cases hx)) ?_;rintro e w' ⟨u,η',he,ho⟩;obtain ⟨A,h1,h2,h3⟩:=ho.res;have hk:=ho.keys _ (zbq.2 rfl);obtain ⟨k1,k2,k3,k4,k5⟩:=hk;simp only [Nat.sub_zero,zcj,zfa] at h1 h2 h3;refine ⟨u,he,⟨ho.stp.os,ho.stp.tape,ho.stp.output,ho.stp.size,fun b hb=>ho.stp.block b hb fun hk=>by obtain ⟨x,hx,_⟩:=hk;cases hx⟩,⟨A,n,η'.c k⟩,?_⟩;have hnew:0 < η'.c k->w.heap.size<=η'.b k:=fun hc=>by
    rcases ho.new (η'.b k) ⟨_,zbq.2 rfl,hc,rfl⟩ with hh | hh
    ·obtain ⟨x,hx,_⟩:=hh;cases hx
    ·exact hh
   refine ⟨fun u' hu b hb=> ?_,h1,hl.symm,h2,k4,fun hc=> ?_⟩
   ·cases zbq.1 hu;by_cases hc:0 < η'.c k
    ·have hA:=h3 hc;simp only [Hd.b,hA,if_pos hc,zca] at hb;subst hb;exact hnew hc
    ·cases A <;> simp [Hd.b,hc] at hb
   ·obtain ⟨cs,m1,m2,m3⟩:=k5 hc;refine ⟨η'.b k,cs,h3 hc,.inl (hnew hc),m1,by rw [m2];simp,fun i x hi=> ?_⟩;have hm:pick false 1 cs (i*1)= .int .u16 (x:Int):=m3 i (.val (tE (.int .u16 (x:Int)))) (by simp [rW,hi]);simpa [pick] using hm
theorem LeavesIn.mono' {F:Fence} {n:Nat} {P:Program} {fn:Func} {tmps:Array Value} {R R':Ending->World->Prop} (h: ∀e w,R e w->R' e w): ∀(ds:List Deferred) (u:FrameMode) (w:World),LeavesIn F n P fn tmps R ds u w->LeavesIn F n P fn tmps R' ds u w
 | [],.returning,_,⟨v,h1,h2⟩=>⟨v,h1,h _ _ h2⟩
 | [],.panicking _,_,hh=>h _ _ hh
 | [],.run,_,hh=>hh
 | _::ds,_,_,⟨a,b,fv,cap,f,args,h1,h2,h3,h4⟩=>⟨a,b,fv,cap,f,args,h1,h2,h3,CallsDIn.mono h4 fun e u' w' hh=>by
   cases e with
   | returned _=>exact LeavesIn.mono' h ds _ w' hh
   | panicked _=>exact LeavesIn.mono' h ds _ w' hh
   | outgrown=>exact h _ _ hh⟩
theorem LeavesInM.mono' {F:Fence} {n:Nat} {P:Program} {fn:Func} {tmps:Array Value} {R R':Ending->World->Prop} (h: ∀e w,R e w->R' e w): ∀(ds:List Deferred) (u:FrameMode) (w:World),LeavesInM F n P fn tmps R ds u w->LeavesInM F n P fn tmps R' ds u w
 | [],u,w,hh=>LeavesIn.mono' h [] u w hh
 | _::ds,_,_,⟨h0,hh⟩=>⟨h0,hh.imp (fun ⟨r,w',h1,h2,h3⟩=>⟨r,w',h1,h2,LeavesInM.mono' h ds _ w' h3⟩) fun ⟨a,fv,cap,f,args,h1,h2,h3,h4⟩=>⟨a,fv,cap,f,args,h1,h2,h3,CallsDIn.mono h4 fun e u' w' hh=>by
   cases e with
   | returned _=>exact LeavesInM.mono' h ds _ w' hh
   | panicked _=>exact LeavesInM.mono' h ds _ w' hh
   | outgrown=>exact h _ _ hh⟩⟩
theorem PostR.mono {P:Program} {fn:Func} {R R':Value->World->Prop} (h: ∀v w,R v w->R' v w) {e:Exit} {a:Act} {w:World} (hp:PostR P fn R e a w):PostR P fn R' e a w:=by
 have hh: ∀(e:Ending) w,(∃v,e= .returned v/\R v w)-> ∃v,e= .returned v/\R' v w:=fun e w ⟨v,h1,h2⟩=>⟨v,h1,h v w h2⟩
 cases e with
 | normal=>exact LeavesInM.mono' hh _ _ _ hp
 | ret=>exact LeavesInM.mono' hh _ _ _ hp
 | panic c=>exact LeavesInM.mono' hh _ _ _ hp
 | outgrown=>exact hh _ _ hp
 | _=>exact hp
def CtX (P:Program) (f:FuncId) (H:List (Nat×HEnt)) (ps:List Ent) {ι:Type} (R:Nat->ι->Prop) (re:ι->Ent) (H':ι->List (Nat×HEnt)) (nn:List Nat):Prop:=
 ∀(F:Dom) (w:World) (η:Env) (vs:List Value),SatL F w η ps vs->AllK F w η H->InjK η H->(∀b,F b-> ¬OwnK η H b)->
  Calls P f vs.toArray w fun e w'=> ∃i v η',R w.heap.size i/\e= .returned v/\Out F w η H (re i) (H' i) nn v w' η'
def PostX (P:Program) (w:World) (F:Dom) (η:Env) (fn:Func) (H:List (Nat×HEnt)) {ι:Type} (R:Nat->ι->Prop) (re:ι->Ent) (H':ι->List (Nat×HEnt)) (nn:List Nat):Exit->Act->World->Prop:=PostR P fn fun v w'=> ∃η' i,R w.heap.size i/\Out F w η H (re i) (H' i) nn v w' η'
section
variable {P:Program} {c:Base} {g:Slots} {h:Keys} {al:Names}
theorem CtX.intro {f:FuncId} {fn:Func} {x:Code} {N:Nat} {H:List (Nat×HEnt)} {ps:List Ent} {ι:Type} {R:Nat->ι->Prop} {re:ι->Ent} {H':ι->List (Nat×HEnt)} {nn:List Nat} (l0:List Nat) (hf:P.funcs[f]? =some fn) (hb:fn.body=some x) (hN:fn.ntmps=N) (hlb:Nat.ble ps.length N=true) (hl0:subN (suppE ps) l0=true) (hlH:SupHs H l0)
  (hw: ∀w F η,wc P (Base.lent N w F η l0 H) x (PostX P w F η fn H R re H' nn) (argsE 0 ps) (keysOf H) (nm l0)):CtX P f H ps R re H' nn:=by
 intro F w η vs hvs hK hinj hF;have hl:ps.length<=N:=zdm hlb;have hlen:=hvs.len;have hmem: ∀k∈suppE ps++suppH H,k∈l0:=fun k hk=>by
  rcases zbj.1 hk with hk | hk
  ·exact xf7 hl0 k hk
  ·exact hlH.spec k hk
 refine zfc (xk1 (R:=fun v w'=> ∃η' i,R w.heap.size i/\Out F w η H (re i) (H' i) nn v w' η') hf hb (hw w F η _ w ⟨⟨η.b,η.c,fun _=>False⟩,?_⟩)) (fun e w' ⟨v,he,η',i,hi,ho⟩=>⟨i,v,η',hi,he,ho⟩);have hKp:Keep F ((Base.lent N w F η l0 H).dom (keysOf H) ⟨η.b,η.c,fun _=>False⟩) w w:=fun b o hb hl _=>⟨⟨.inr ⟨hb,hF b hb⟩,fun ⟨k,x,hk,hc,e⟩=>hF b hb ⟨(k,x),xf5 hk,hc,e⟩,fun hv=>hv,fun hv=>hv⟩,hl⟩
 refine ⟨?_,rfl,fun s e hs=> ?_,fun k x hx=> ?_,fun k k' x x' hx hx' hne hc hc'=> ?_,⟨rfl,rfl,rfl,zbm _,fun _ _ _ _=>rfl,fun _ hb=>hb,fun _ hb=>hb.elim⟩,fun k hk=>⟨xb5.2 hk,rfl,rfl⟩,fun x hx=>(by cases hx),fun b hb=>hb.elim,fun k hk=>(by cases hk),fun k x hk=>(by cases hk),fun b hb=> ?_⟩
 ·simp [hlen,hN,Base.lent];omega
 ·obtain ⟨j,h1,h2⟩:=xu7 ps 0 s e hs;have hj:j < ps.length:=(zbi.1 h2).1;obtain ⟨v,hv,hp⟩:=SatL.get ps vs j e hvs h2;refine ⟨by show s < N;omega,fun k hk=>xb5.2 (hmem k (zbj.2 (.inl (zbw.2 ⟨e,zdc h2,hk⟩)))),?_⟩;have e1:(vs.toArray++Array.replicate (fn.ntmps - vs.toArray.size) undef).getD s undef=v:=by
   rw [zbn,zft,if_pos (by simp;omega)];rw [h1,zcj,zfe,hv];rfl
  simp only [e1];exact Ent.sat_go hp hKp fun _ _=>⟨rfl,rfl⟩
 ·have hm:=xf5 hx;exact ⟨xb5.2 (hmem k (zbj.2 (.inr (zbw.2 ⟨_,hm,by simp⟩)))),fun j hj=>xb5.2 (hmem j (zbj.2 (.inr (zbw.2 ⟨_,hm,by simp [hj]⟩)))),
   HEnt.sat_go (hK _ hm) (fun _=>rfl) hKp ⟨rfl,rfl⟩ fun _ _=>⟨rfl,rfl⟩,fun hc=>⟨.inr ⟨_,hm,hc,rfl⟩,fun hv=>hv,fun hv=>hv⟩⟩
 ·exact hinj _ (xf5 hx) _ (xf5 hx') hne hc hc'
 ·obtain ⟨x,hx,hc,rfl⟩:=hb;exact HEnt.lt (hK x hx) hc
theorem E_X {fn:Func} {w0:World} {F:Dom} {η0:Env} {H:List (Nat×HEnt)} {ι:Type} {R:Nat->ι->Prop} {re:ι->Ent} {H':ι->List (Nat×HEnt)} {nn:List Nat} {e:Exit} (i:ι) (hR:R w0.heap.size i) (hk:wk c e (PostG P w0 F η0 fn H (re i) (H' i) nn) g h al):wk c e (PostX P w0 F η0 fn H R re H' nn) g h al:=
 fun a w s=>PostR.mono (fun _ _ ⟨η',ho⟩=>⟨η',i,hR,ho⟩) (hk a w s)
theorem Kr.ren {ρ:Nat->Nat}: ∀{H:List (Nat×HEnt)},Kr h (H.map fun x=>(ρ x.1,x.2.ren ρ))-> ∀x∈H,h (ρ x.1)=some (x.2.ren ρ)
 | y::r,hr,x,hx=>by
  rcases zbt.1 hx with rfl | hx
  ·exact hr.1
  ·exact Kr.ren (H:=r) hr.2 x hx
theorem Nk.ren {ρ:Nat->Nat}: ∀{l:List Nat},Nk al (l.map ρ)-> ∀n∈l,al (ρ n)=false
 | y::r,hr,n,hn=>by
  rcases zbt.1 hn with rfl | hn
  ·exact hr.1
  ·exact Nk.ren (l:=r) hr.2 n hn
variable {A:Array Oper} {Q:Exit->Act->World->Prop} {rest:List Oper} {d ty:Nat} {pos:String} {af:Array Edge}
theorem za0 {f:FuncId} {xs:List Operand} {aT:Array TypeId} {H h1:List (Nat×HEnt)} {ps:List Ent} {ι:Type} {R:Nat->ι->Prop} {re:ι->Ent} {H' h2:ι->List (Nat×HEnt)} {nn:List Nat} (hs:List Hd) (ρ:Nat->Nat) (hc:CtX P f H ps R re H' nn) (hf:FnI P f) (hl:xs.length=ps.length)
  (e1:H.map (fun x=>(ρ x.1,x.2.ren ρ))=h1) (e2: ∀i,(H' i).map (fun x=>(ρ x.1,x.2.ren ρ))=h2 i) (hsH: ∀i,SupHs (H' i) (nn++(suppE ps++H.map (·.1)))) (hij:injN ρ (H.map (·.1))=true) (hok: ∀i,gB ρ H (H' i) (re i) ps nn c.yk=true)
  (hr:Rd g (xs.zip (ps.map (Ent.ren ρ)))) (hkr:Kr h h1) (hnk:Nk al (nn.map ρ)) (hw:WitSt c g h hs) (hdN:Nat.blt d c.N=true)
  (HH: ∀i n,c.w0.heap.size<=n->OldH n hs->R n i->wl P c A Q rest (upd g d (some ((re i).ren ρ))) (updK h (H.map (fun x=>(ρ x.1,none))++(h2 i).map (fun x=>(x.1,some x.2)))) (fun j=>memN j (nn.map ρ) || al j)):
  wl P c A Q (⟨some d,.call {callee:= .value (.func f),args:=xs.toArray,argTypes:=aT},ty,pos,af,none⟩::rest) g h al:=by
 rintro a w ⟨η,s⟩;unfold wpListIn;rw [if_pos (by rfl)];obtain ⟨fn,f1,f2,f3⟩:=hf;obtain ⟨hsat,hal⟩:=SatL.of s xs ps hr hl;have hrun:(execOp a.eval ⟨some d,.call {callee:= .value (.func f),args:=xs.toArray,argTypes:=aT},ty,pos,af,none⟩).run P w= .ok (.enter f (xs.map a.eval).toArray) w:=by
  simp only [execOp,resolve,Act.eval,Deferred.ofValue,zbu,zbv,zbo,invoke];simp only [zeu,zef,zdn];exact xe7 f1 f2 f3 _ w
 subst e1;have hH':=Kr.ren hkr;have hnn:=Nk.ren hnk;have hall:AllK (c.dom h η) w (η.pre ρ) H:=fun x hx=>HEnt.sat_ren.1 (s.key _ _ (hH' x hx)).2.2.1;have hps: ∀k∈suppE ps,al (ρ k)=true:=fun k hk=>hal _ (xk9 hk);refine xh4 hrun (zfc (hc (c.dom h η) w (η.pre ρ) (xs.map a.eval) hsat hall (fun x hx y hy hne hcx hcy=> ?_) (fun b hb ho=> ?_)) ?_)
 ·exact s.inj (ρ x.1) (ρ y.1) _ _ (hH' x hx) (hH' y hy) (xm6 hij x.1 y.1 (zcr hx) (zcr hy) hne) hcx hcy
 ·obtain ⟨x,hx,hcx,rfl⟩:=ho;exact hb.2.1 ⟨ρ x.1,_,hH' x hx,hcx,rfl⟩
 ·rintro e w' ⟨i,v,η',hR,rfl,hout⟩;have hok:=hok i;simp only [gB,zcf] at hok;obtain ⟨s',hres⟩:=s.back ρ hH' hout hnn hok.1.1.1 (fun k hk=>by
   have hm:k∈nn++(suppE ps++H.map (·.1)):=by
    rcases zbj.1 hk with hk | hk
    ·exact xf7 hok.1.2 k hk
    ·exact (hsH i).spec k hk
   rw [zbj,zbj] at hm;rcases hm with hm | hm | hm
   ·exact .inl hm
   ·exact .inr (hps k hm)
   ·right;obtain ⟨x,hx,rfl⟩:=zcb.1 hm;exact (s.key _ _ (hH' x hx)).1) hok.2
  refine ⟨v,rfl,?_⟩;rw [yj6 (e2 i)] at s' hres;refine HH i w.heap.size s.fr.size (fun u hu b hb=>(hw al a w η s u hu b hb).2) hR _ _ ⟨_,s'.put (by simpa using hdN) hres fun k hk=> ?_⟩
  revert hk
  generalize hre:re i=ree at*
  intro hk;cases ree with
  | val t=>cases hk
  | own p=>
   obtain ⟨j,hj,rfl⟩:=VP.ren_supp1 p k hk;have hm:=xf7 hok.1.2 j hj;rw [zbj,zbj] at hm;rcases hm with hm | hm | hm
   ·rw [xb5.2 (zcr hm)];rfl
   ·rw [hps j hm,Bool.or_true]
   ·obtain ⟨x,hx,rfl⟩:=zcb.1 hm;rw [(s.key _ _ (hH' x hx)).1,Bool.or_true]
end
theorem St'.more {c:Base} {g:Slots} {h:Keys} {al al':Names} {a:Act} {w:World} {η:Env} (s:St' c g h al a w η) (hal: ∀k,al k=true->al' k=true):St' c g h al' a w η:=
  ⟨s.tn,s.df,fun t e he=>⟨(s.slot t e he).1,fun k hk=>hal k ((s.slot t e he).2.1 k hk),(s.slot t e he).2.2⟩,fun k x hx=>⟨hal k (s.key k x hx).1,fun j hj=>hal j ((s.key k x hx).2.1 j hj),(s.key k x hx).2.2⟩,
   s.inj,s.fr,fun k hk=>⟨hal k (s.lk k hk).1,(s.lk k hk).2⟩,s.pin,s.vol,fun k hk=>hal k (s.yal k hk),s.jj,s.lbl⟩
section
variable {P:Program} {c:Base} {g:Slots} {h:Keys} {al:Names} {d ty:Nat} {pos:String} {af:Array Edge} {Q:Exit->Act->World->Prop}
theorem yc3 {A:Array Oper} {rest:List Oper} {T E es by_ k k' n:Nat} {agg:Bool} {z:Value} {α:Type} {f:α->Ty} {ys:List α} {x y:Operand} {ts:List Ent} {T0:Nat} (sl:P.underlying T=some (.slice E)) (el:ElI P E es by_ agg z) (hz:Flat es agg z) (hT:T0=E) (h0:Nat.blt 0 es=true)
  (hf: ∀y,Shape (f y) es agg) (hx:look g x=some (.own (.sl k es 0 n))) (hy:look g y=some (.val (tL es agg f ys))) (hk:h k=some ⟨T0,es,agg,ts⟩) (hk':al k'=false) (hn:ts.length=n) (hb:(n+ys.length)*by_<=140737488355328) (h63:n+ys.length<=9223372036854775807) (hpos:0 < ys.length) (hdN:Nat.blt d c.N=true)
  (H: ∀b:Bool,wl P c A Q rest (upd g d (some (.own (.sl (cond b k k') es 0 (n+ys.length))))) (upd h (cond b k k') (some ⟨T0,es,agg,ts++ys.map (fun y=> .val (f y))⟩)) (fun j=>Nat.beq j k' || al j)):
  wl P c A Q (⟨some d,.call {callee:= .builtin .append,args:= #[x,y],argTypes:= #[T,T]},ty,pos,af,none⟩::rest) g h al:=by
 intro a w ⟨η,s⟩;unfold wpListIn;rw [if_pos (by rfl)];subst hT hn;have h0':0 < es:=by simpa using h0
 have hdN':d < c.N:=by simpa using hdN
 obtain ⟨hxv,hxs⟩:=xa7 s hx;obtain ⟨AA,hA,hcap,hadr⟩:=hxv;simp only [Nat.sub_zero,zcj,zfa] at hA hcap hadr;obtain ⟨A2,c2,news,hyv,hns,hsrc,hone,hnp,_⟩:=zn5 (P:=P) hf h0' (xa7 s hy).1;have hA:a.eval x= .slice AA ts.length (η.c k):=hA;have hyv:a.eval y= .slice A2 ys.length c2:=hyv;obtain ⟨i,hi,hsz,hby,hz'⟩:=el.parts;obtain ⟨k1,k2,⟨k3,k4,k5,k6,k7⟩,k8⟩:=s.key k _ hk;simp only at k3 k4 k5 k6 k7;have hexec: ∀v w',(Builtin.append_ #[T,T] ty #[.slice AA ts.length (η.c k),.slice A2 ys.length c2]).run P w= .ok v w'->
   (execOp a.eval ⟨some d,.call {callee:= .builtin .append,args:= #[x,y],argTypes:= #[T,T]},ty,pos,af,none⟩).run P w= .ok (.value v) w':=fun v w' hr=>by
  simp only [execOp,resolve,invoke,builtin,zdn,zcx,zfn,hA,hyv,zbu,zbv,zbo,hr]
 have hsupp: ∀j∈HEnt.supp ⟨T0,es,agg,ts++ys.map fun y=> .val (f y)⟩,al j=true:=fun j hj=>by
  simp only [HEnt.supp,zbw] at hj;obtain ⟨e,he,hj⟩:=hj;rcases zbj.1 he with he | he
  ·exact k2 j (zbw.2 ⟨e,he,hj⟩)
  ·obtain ⟨y,_,rfl⟩:=zcb.1 he;cases hj
 have hlk: ∀(i:Nat) (e:Ent),(ts++ys.map fun y=>Ent.val (f y))[i]? =some e->(ts[i]? =some e/\i < ts.length)∨(∃y,ys[i - ts.length]? =some y/\e= .val (f y)/\ts.length<=i):=fun i e he=>by
  rcases zcs i ts.length with hlt | hge
  ·rw [zda hlt] at he;exact .inl ⟨he,hlt⟩
  ·rw [zds hge,zbp] at he;obtain ⟨y,hy,rfl⟩:=zdo.1 he;exact .inr ⟨y,hy,rfl,hge⟩
 have hcs: ∃cs:Array Value,(0 < η.c k->AA=some ⟨η.b k,0,none⟩/\w.heap[η.b k]? =some (.cells cs T0 (0,0))/\cs.size=η.c k*es)/\(0 < η.c k-> ∀(i:Nat) (e:Ent),ts[i]? =some e->e.sat (c.dom h η) w η (pick agg es cs (i*es))):=by
  rcases zcg (η.c k) with hc | hc
  ·exact ⟨#[],fun h=>by omega,fun h=>by omega⟩
  ·obtain ⟨cs,m1,m2,m3⟩:=k7 hc;exact ⟨cs,fun _=>⟨hadr hc,m1,m2⟩,fun _=>m3⟩
 obtain ⟨cs,hrow,m3⟩:=hcs;rcases yi0 (P:=P) (ty:=ty) (A:=AA) (n:=ts.length) (cap:=η.c k) (A2:=A2) (c2:=c2) (w:=w) (b:=η.b k) sl hi hsz hby hz' hz.1 h0' k3 cs hrow news hns hsrc hone h63 hb with ⟨hfit,w',hr,hw,_⟩ | ⟨hgt,w',cap',rest',hr,hle,hmax,hrest,hheap,hos,htape,hout,hold⟩
 ·have hc:0 < η.c k:=by omega
  obtain ⟨hAv,m1,m2⟩:=hrow hc;obtain ⟨q1,q2,q3,q4,q5,q6⟩:=hw hc;refine xe1 (hexec _ _ hr) ?_;have hsz2:ts.length*es+ys.length*es<=cs.size:=by rw [m2,<-zch];exact zbr _ hfit
  have hnl:news.toList.length=ys.length*es:=by simpa using hns
  have s1:=s.write (w':=w') k hk ⟨T0,es,agg,ts++ys.map fun y=> .val (f y)⟩ (putAt cs (ts.length*es) news.toList) (by rw [xd8];exact m2) (by simpa using hfit) h0' k5 hsupp
   (fun j e hj=>by
    rcases hlk j e hj with ⟨he,hjl⟩ | ⟨y,hy',rfl,hge⟩
    ·have hle':j*es+es<=ts.length*es:=by rw [<-zdj];exact zbr _ hjl
     simp only [];rw [xh6 (by omega) k5 (.inl hle')];exact m3 hc j e he
    ·have hjl:j - ts.length < ys.length:=(zbi.1 hy').1;have hle':(j - ts.length)*es+es<=ys.length*es:=by rw [<-zdj];exact zbr _ hjl
     have e1:j*es=ts.length*es+(j - ts.length)*es:=by rw [<-zch];congr 1;omega
     have hpk:pick agg es (putAt cs (ts.length*es) news.toList) (j*es)=pick agg es news ((j - ts.length)*es):=by
      have hg: ∀q,q < es->(putAt cs (ts.length*es) news.toList)[j*es+q]? =news[(j - ts.length)*es+q]? :=fun q hq=>by
       rw [xj3 _ _ _ _ (by omega),if_pos (by omega),zgi]
       congr 1;omega
      cases agg with
      | true=>
       simp only [pick,zey,zev];apply zdp;intro q;rw [zcy,zcy,xd8];by_cases hq:q < es
       ·rw [if_pos (by omega),if_pos (by omega),hg q hq]
       ·rw [if_neg (by omega),if_neg (by omega)]
      | false=>
       simp only [pick,zeq];have:=hg 0 h0';rw [zbn,zbn];simp only [zej] at this;rw [this]
     simp only [];rw [hpk];exact hnp _ y hy')
   hc q1 q2 q3 q4 q5 q6 rfl
  refine H true _ _ ⟨_,(s1.put hdN' (e:= .own (.sl k es 0 (ts.length+ys.length))) ⟨AA,rfl,?_,?_⟩ ?_).more ?_⟩
  ·simpa using hfit
  ·intro _;rw [hAv];simp
  ·intro j hj;simp only [Ent.supp,VP.supp,zbq] at hj;subst hj;exact k1
  ·intro j hj;simp [hj]
 ·refine xe1 (hexec _ _ hr) ?_;have hext:Ext w w':=⟨hos,htape,hout,by rw [hheap];simp,fun b hb=>by rw [hheap,zgc,if_neg (by omega)]⟩
  have hpos': ∀j e,ts[j]? =some e->0 < η.c k:=fun j e he=>by
   have:=(zbi.1 he).1;omega
  have s2:=s.new' k' hk' ⟨T0,es,agg,ts++ys.map fun y=> .val (f y)⟩ cap' w.heap.size (by simpa using hle) h0' k5 hmax hsupp hext (fun _=>⟨zbm _,cs.extract 0 (ts.length*es)++news++rest',by rw [hheap];simp,by
    simp only [zgo,hns,hrest,hold];rw [<-zch,<-zch];congr 1;omega,fun j e hj=>by
    rcases hlk j e hj with ⟨he,hjl⟩ | ⟨y,hy',rfl,hge⟩
    ·have hle':j*es+es<=ts.length*es:=by rw [<-zdj];exact zbr _ hjl
     simp only [];rw [Array.append_assoc,xk6 (by rw [hold];exact hle') k5,yp9 hle' (by simp at hold;omega) k5];exact m3 (hpos' j e he) j e he
    ·have hjl:j - ts.length < ys.length:=(zbi.1 hy').1;have hle':(j - ts.length)*es+es<=ys.length*es:=by rw [<-zdj];exact zbr _ hjl
     have e1:j*es=(cs.extract 0 (ts.length*es)).size+(j - ts.length)*es:=by rw [hold,<-zch];congr 1;omega
     simp only [];rw [Array.append_assoc,e1,ya8 (by simp only [zgo,hns];omega) k5,xk6 (by rw [hns];exact hle') k5];exact hnp _ y hy'⟩)
  refine H false _ _ ⟨_,s2.put hdN' (e:= .own (.sl k' es 0 (ts.length+ys.length))) ⟨some ⟨w.heap.size,0,none⟩,?_,?_,?_⟩ ?_⟩
  ·simp [Env.set_c]
  ·simpa [Env.set_c] using hle
  ·intro _;simp [Env.set_b]
  ·intro j hj;simp only [Ent.supp,VP.supp,zbq] at hj;subst hj;simp
theorem yq4 {x:Code} (round:wc P c x (Exit.then (fun _ _=>False) Q) g h al):wc P c (.loop x) Q g h al:=by
 intro a w hs b k cs hro hb hr;obtain ⟨e,a₁,w₁,hq,harr⟩:=round a w hs b (.inLoop x::k) cs hro hb hr;refine ⟨e,a₁,w₁,?_⟩;cases e with
 | normal=>exact hq.elim
 | exit id=>exact ⟨hq,.of_steps (.one (fenced_calm hb hr rfl) stepR_loop) (.pass (x:= .inLoop x) rfl (fun _ _=> .inl (by simp)) harr)⟩
 | goto l=>exact ⟨hq,.of_steps (.one (fenced_calm hb hr rfl) stepR_loop) (.pass (x:= .inLoop x) rfl (fun _ _=> .inl (by simp)) harr)⟩
 | ret=>exact ⟨hq,.of_steps (.one (fenced_calm hb hr rfl) stepR_loop) (.pass (x:= .inLoop x) rfl (fun _ _=> .inl (by simp)) harr)⟩
 | panic ch=>exact ⟨hq,.of_steps (.one (fenced_calm hb hr rfl) stepR_loop) (.pass (x:= .inLoop x) rfl (fun _ _=> .inl (by simp)) harr)⟩
 | outgrown=>exact ⟨hq,.of_steps (.one (fenced_calm hb hr rfl) stepR_loop) (.pass (x:= .inLoop x) rfl (fun _ _=> .inl (by simp)) harr)⟩
theorem xr0 {ι:Type} (I:ι->Prop) (G:ι->Slots) (H:ι->Keys) (al':ι->Names) (μ:ι->Nat) {x:Code} (i:ι) (hi:I i) (hg:Sub (G i) g) (hh:SubK (H i) h) (sg:SupG (G i) (al' i)) (sh:SupH (H i) (al' i)) (hlk:LkOk c (al' i))
  (round: ∀i,I i->wc P c x (Exit.then (fun a w=> ∃j,(I j/\μ j < μ i)/\St c (G j) (H j) (al' j) a w) Q) (G i) (H i) (al' i)):wc P c (.loop x) Q g h al:=by
 intro a w hs b k cs hro hb hr;have key: ∀n i,μ i=n->I i-> ∀a w,St c (G i) (H i) (al' i) a w->
   ∃e a' w',Q e a' w'/\ArrivesIn (Machine.fenced P (fc c.ro)) P (lone (b.atR a (.code x:: .inLoop x::k)) cs w) b k cs e a' w':=by
  intro n
  induction n using Nat.strongRecOn with
  | _ n ih=>
   intro i hn hi a w hs;obtain ⟨e,a₁,w₁,hq,harr⟩:=round i hi a w hs b (.inLoop x::k) cs hro hb hr;cases e with
   | normal=>
    obtain ⟨j,⟨hj,hlt⟩,hs'⟩:=hq;obtain ⟨e₂,a₂,w₂,hq₂,harr₂⟩:=ih (μ j) (hn▸hlt) j rfl hj a₁ w₁ hs';exact ⟨e₂,a₂,w₂,hq₂,.of_steps (StepsIn.trans harr (.one (fenced_calm hb hr rfl) stepR_inLoop)) harr₂⟩
   | exit id=>exact ⟨_,a₁,w₁,hq,.pass (x:= .inLoop x) rfl (fun _ _=> .inl (by simp)) harr⟩
   | goto l=>exact ⟨_,a₁,w₁,hq,.pass (x:= .inLoop x) rfl (fun _ _=> .inl (by simp)) harr⟩
   | ret=>exact ⟨_,a₁,w₁,hq,.pass (x:= .inLoop x) rfl (fun _ _=> .inl (by simp)) harr⟩
   | panic ch=>exact ⟨_,a₁,w₁,hq,.pass (x:= .inLoop x) rfl (fun _ _=> .inl (by simp)) harr⟩
   | outgrown=>exact ⟨_,a₁,w₁,hq,.pass (x:= .inLoop x) rfl (fun _ _=> .inl (by simp)) harr⟩
 obtain ⟨e,a',w',hq,harr⟩:=key _ i rfl hi a w (hs.weaken hg hh sg sh hlk);exact ⟨e,a',w',hq,.of_steps (.one (fenced_calm hb hr rfl) stepR_loop) harr⟩
theorem xv8 {ι:Type} {I:ι->Prop} {G:ι->Slots} {H:ι->Keys} {al':ι->Names} (i:ι) (hi:I i) (hg:Sub (G i) g) (hh:SubK (H i) h) (sg:SupG (G i) (al' i)) (sh:SupH (H i) (al' i)) (hlk:LkOk c (al' i)) {a:Act} {w:World} (hs:St c g h al a w): ∃j,I j/\St c (G j) (H j) (al' j) a w:=
 ⟨i,hi,hs.weaken hg hh sg sh hlk⟩
end
def poolK (n:Nat) (R:Nat->HEnt):Keys:=fun q=>cond (Nat.ble 100 q && Nat.blt q (100+n)) (some (R (q - 100))) none
def poolL (n:Nat) (R:Nat->HEnt):List (Nat×HEnt):=(List.range n).map fun j=>(j+100,R j)
def owns (n es:Nat) (len:Nat->Nat):List Ent:=(List.range n).map fun j=> .own (.sl (j+100) es 0 (len j))
theorem xm1 {n k:Nat} {R:Nat->HEnt} (h:k < n):poolK n R (k+100)=some (R k):=by
 have h1:Nat.ble 100 (k+100)=true:=Nat.ble_eq_true_of_le (by omega);have h2:Nat.blt (k+100) (100+n)=true:=by simp [Nat.blt];omega
 simp [poolK,h1,h2]
theorem xh5 {n q:Nat} {R:Nat->HEnt} {x:HEnt} (h:poolK n R q=some x): ∃k,k < n/\q=k+100/\x=R k:=by
 simp only [poolK] at h;cases hc:(Nat.ble 100 q && Nat.blt q (100+n)) with
 | false=>rw [hc] at h;cases h
 | true=>
  rw [hc] at h;cases h;simp only [zcf,Nat.ble_eq,Nat.blt_eq] at hc;exact ⟨q - 100,by omega,by omega,rfl⟩
theorem xw5 {n q:Nat} {R:Nat->HEnt} (h: ∀k,k < n->q≠k+100):poolK n R q=none:=by
 cases hc:poolK n R q with
 | none=>rfl
 | some x=>obtain ⟨k,h1,h2,_⟩:=xh5 hc;exact absurd h2 (h k h1)
theorem xd3 {n es k:Nat} {len:Nat->Nat} (h:k < n):(owns n es len)[k]? =some (.own (.sl (k+100) es 0 (len k))):=by
 simp [owns,List.getElem?_map,List.getElem?_range h]
theorem zt4 {n es:Nat} {len:Nat->Nat}:(owns n es len).length=n:=by simp [owns]
theorem yh3 {n es k:Nat} {len:Nat->Nat} (h:k∈(owns n es len).flatMap Ent.supp): ∃j,j < n/\k=j+100:=by
 simp only [owns,zbw,zcb,zcw] at h;obtain ⟨e,⟨j,hj,rfl⟩,hk⟩:=h;simp only [Ent.supp,VP.supp,zbq] at hk;exact ⟨j,hj,hk⟩
theorem zk1 {α:Type} {f:α->Ty} {xs:List α} {k:Nat} (h:k∈(rV f xs).flatMap Ent.supp):False:=by
 simp only [rV,zbw,zcb] at h;obtain ⟨e,⟨x,_,rfl⟩,hk⟩:=h;cases hk
theorem ze8 {H:List (Nat×HEnt)} {k:Nat} {x:HEnt} (hx:(k,x)∈H) (hu: ∀y,(k,y)∈H->y=x):keysOf H k=some x:=by
 have key: ∀(l:List (Nat×HEnt)) (h:Keys),(∀y,h k=some y->y=x)->(∀y,(k,y)∈l->y=x)->((k,x)∈l∨h k=some x)->updK h (l.map fun x=>(x.1,some x.2)) k=some x:=by
  intro l
  induction l with
  | nil=>intro h _ _ h2;rcases h2 with h2 | h2;cases h2;exact h2
  | cons y r ih=>
   intro h h0 h1 h2;refine ih _ (fun z hz=> ?_) (fun z hz=>h1 z (zet _ hz)) ?_
   ·by_cases hk:k=y.1
    ·rw [hk,x6] at hz;cases hz;exact h1 _ (by rw [hk];simp)
    ·rw [x4 _ _ _ hk] at hz;exact h0 z hz
   ·rcases h2 with h2 | h2
    ·rcases zbt.1 h2 with rfl | h2
     ·exact .inr (x6 _ _ _)
     ·exact .inl h2
    ·by_cases hk:k=y.1
     ·have:y.2=x:=h1 _ (by rw [hk];simp);exact .inr (by show upd h y.1 (some y.2) k=some x;rw [hk,x6,this])
     ·exact .inr (by show upd h y.1 (some y.2) k=some x;rw [x4 _ _ _ hk];exact h2)
 exact key H _ (fun _ h=>by cases h) hu (.inl hx)
theorem xn9 {n k:Nat} {R:Nat->HEnt} {x:HEnt} (h:(k,x)∈poolL n R): ∃j,j < n/\k=j+100/\x=R j:=by
 simp only [poolL,zcb,zcw,Prod.mk.injEq] at h;obtain ⟨j,hj,h1,h2⟩:=h;exact ⟨j,hj,h1.symm,h2.symm⟩
theorem yh9 {n:Nat} {R:Nat->HEnt} {X:HEnt}:SubK (upd (poolK n R) 20 (some X)) (keysOf ((20,X)::poolL n R)):=fun q x hx=>by
 by_cases hq:q=20
 ·subst hq;rw [x6] at hx;cases hx;exact ⟨_,ze8 (by simp) (fun y hy=>by
   rcases zbt.1 hy with hy | hy
   ·cases hy;rfl
   ·obtain ⟨j,_,h2,_⟩:=xn9 hy;omega),rfl,.refl⟩
 ·rw [x4 _ _ _ hq] at hx;obtain ⟨k,h1,rfl,rfl⟩:=xh5 hx;refine ⟨_,ze8 (x:=R k) (zet _ ?_) (fun y hy=> ?_),rfl,.refl⟩
  ·simp only [poolL,zcb,zcw];exact ⟨k,h1,rfl⟩
  ·rcases zbt.1 hy with hy | hy
   ·exact absurd (Prod.ext_iff.1 hy).1 hq
   ·obtain ⟨j,_,h2,rfl⟩:=xn9 hy;have:j=k:=by omega
    rw [this]
def poolN (n:Nat):List Nat:=20::(List.range n).map (· +100)
theorem qn4 {n k:Nat} (h:k∈poolN n):k=20∨ ∃j,j < n/\k=j+100:=by
 simp only [poolN,zbt,zcb,zcw] at h;rcases h with h | ⟨j,hj,h⟩
 ·exact .inl h
 ·exact .inr ⟨j,hj,h.symm⟩
def alP (b:Bool) (m:Nat):Names:=fun q=>Nat.beq q 20 || (b && Nat.beq q 21) || (Nat.ble 100 q && Nat.blt q m)
theorem xh2 {b:Bool} {m q:Nat} (h1:100<=q) (h2:q < m):alP b m q=true:=by
 simp [alP,Nat.ble_eq_true_of_le h1,Nat.blt];right;omega
theorem yt7 {b:Bool} {m:Nat} (h:100<=m):alP b m m=false:=by
 have nb: ∀k,m≠k->Nat.beq m k=false:=fun k hk=>by
  cases hb:Nat.beq m k with
  | false=>rfl
  | true=>exact absurd (zdk hb) hk
 have h3:Nat.blt m m=false:=by
  cases hb:Nat.blt m m with
  | false=>rfl
  | true=>exact absurd (zdm hb) (Nat.lt_irrefl m)
 simp [alP,nb 20 (by omega),nb 21 (by omega),h3]
theorem lkP {b:Bool} {N n m:Nat} {w:World} {F:Dom} {η:Env} {H:List (Nat×HEnt)} (h:n+100<=m):LkOk (Base.lent N w F η (poolN n) H) (alP b m):=
 ⟨fun k hk=>by
  rcases qn4 hk with rfl | ⟨j,hj,rfl⟩
  ·rfl
  ·exact xh2 (by omega) (by omega),fun k hk=>by cases hk⟩
theorem supP {b:Bool} {n m:Nat} {R:Nat->HEnt} {T es:Nat} {len:Nat->Nat} (h:n+100<=m) (hR: ∀k,k < n->(R k).supp=[]):SupH (upd (poolK n R) 20 (some ⟨T,1,false,owns n es len⟩)) (alP b m):=fun q x hx=>by
 by_cases hq:q=20
 ·subst hq;rw [x6] at hx;cases hx;exact ⟨rfl,fun j hj=>by obtain ⟨i,hi,rfl⟩:=yh3 hj;exact xh2 (by omega) (by omega)⟩
 ·rw [x4 _ _ _ hq] at hx;obtain ⟨k,h1,rfl,rfl⟩:=xh5 hx;exact ⟨xh2 (by omega) (by omega),fun j hj=>by rw [hR k h1] at hj;cases hj⟩
section
variable {α:Type} (L:Nat->List α) (m:Nat->Nat->α) (d:α)
def cM (k i j:Nat):List α:=(List.range (L j).length).map fun t=>if j < k∨(j=k/\t < i) then m j t else (L j).getD t d
def mkL (j n:Nat):List α:=(List.range n).map (m j)
variable {L m d}
theorem yt4 {k i j:Nat}:(cM L m d k i j).length=(L j).length:=by simp [cM]
theorem xi4 {j n:Nat}:(mkL m j n).length=n:=by simp [mkL]
theorem cM_0 {j:Nat}:cM L m d 0 0 j=L j:=by
 apply zes;intro t;rw [cM,zbp];rcases zcs t (L j).length with h | h
 ·rw [zeh h];simp [List.getD_eq_getElem?_getD,List.getElem?_eq_getElem h]
 ·rw [zcp (by simpa using h),zcp h];rfl
theorem zw5 {k i:Nat} (hi:i < (L k).length):(cM L m d k i k).set i (m k i)=cM L m d k (i+1) k:=by
 apply zes;intro t;rw [zeo];rcases zcs t (L k).length with h | h
 ·simp only [cM,zbp,zeh h,zcq,List.length_range,zdv];by_cases hit:i=t
  ·subst hit;simp [h]
  ·rw [if_neg hit];by_cases h1:t < i
   ·simp [h1,show t < i+1 by omega]
   ·simp [h1,show ¬t < i+1 by omega]
 ·rw [if_neg (by omega),zcp (by rw [yt4];exact h),zcp (by rw [yt4];exact h)]
theorem zs2 {k i j:Nat} (h:j≠k):cM L m d k (i+1) j=cM L m d k i j:=by
 simp only [cM]
 congr 1;funext t
 by_cases h1:j < k
 ·rw [if_pos (.inl h1),if_pos (.inl h1)]
 ·rw [if_neg (by omega),if_neg (by omega)]
theorem zj3 {k j:Nat}:cM L m d (k+1) 0 j=cM L m d k (L k).length j:=by
 apply zfm;intro t ht;rw [zcw] at ht;by_cases h1:j < k
 ·rw [if_pos (.inl (by omega)),if_pos (.inl h1)]
 ·by_cases h2:j=k
  ·subst h2;rw [if_pos (.inl (by omega)),if_pos (.inr ⟨rfl,ht⟩)]
  ·rw [if_neg (by omega),if_neg (by omega)]
theorem yi4 {k j:Nat} (h:j < k):cM L m d k 0 j=mkL m j (L j).length:=by
 simp only [cM,mkL]
 congr 1;funext t
 rw [if_pos (.inl h)]
theorem yz3 {j n:Nat}:mkL m j n++[m j n]=mkL m j (n+1):=by simp [mkL,List.range_succ]
theorem xu0 {j n t:Nat} (h:t < n):(mkL m j n)[t]? =some (m j t):=by simp [mkL,List.getElem?_map,List.getElem?_range h]
theorem zg8 {j n k:Nat} (h:k<=n): ∀(t:Nat) (x:α),(mkL m j k)[t]? =some x->(mkL m j n)[t]? =some x:=fun t x hx=>by
 have ht:t < k:=by have:=(zbi.1 hx).1;rwa [xi4] at this
 rw [xu0 ht] at hx;rw [xu0 (by omega),hx]
end
def pileK (κ:Nat->Nat) (R:Nat->HEnt):Nat->Keys->Keys
 | 0,h=>h
 | k+1,h=>upd (pileK κ R k h) (κ k) (some (R k))
theorem xc0 {κ:Nat->Nat} {R:Nat->HEnt} {h:Keys} {q:Nat}: ∀{k:Nat},(∀j,j < k->q≠κ j)->pileK κ R k h q=h q
 | 0,_=>rfl
 | k+1,H=>by rw [pileK,x4 _ _ _ (H k (by omega)),xc0 fun j hj=>H j (by omega)]
theorem xs6 {κ:Nat->Nat} {R:Nat->HEnt} {h:Keys} {j:Nat}: ∀{k:Nat},(∀i,i < k->i≠j->κ j≠κ i)->j < k->pileK κ R k h (κ j)=some (R j)
 | k+1,H,hj=>by
  by_cases hjk:j=k
  ·subst hjk;exact x6 _ _ _
  ·rw [pileK,x4 _ _ _ (H k (by omega) (by omega))];exact xs6 (fun i hi=>H i (by omega)) (by omega)
theorem xw4 {κ:Nat->Nat} {R:Nat->HEnt} {h:Keys} {q:Nat} {x:HEnt}: ∀{k:Nat},pileK κ R k h q=some x->(∃j,j < k/\q=κ j/\x=R j)∨h q=some x
 | 0,H=> .inr H
 | k+1,H=>by
  by_cases hq:q=κ k
  ·subst hq;rw [pileK,x6] at H;cases H;exact .inl ⟨k,by omega,rfl,rfl⟩
  ·rw [pileK,x4 _ _ _ hq] at H;rcases xw4 H with ⟨j,h1,h2⟩ | h1
   ·exact .inl ⟨j,by omega,h2⟩
   ·exact .inr h1
theorem xo3 {κ κ':Nat->Nat} {R:Nat->HEnt} {h:Keys}: ∀{k:Nat},(∀j,j < k->κ' j=κ j)->pileK κ' R k h=pileK κ R k h
 | 0,_=>rfl
 | k+1,H=>by rw [pileK,pileK,xo3 fun j hj=>H j (by omega),H k (by omega)]
theorem xp3 {κ:Nat->Nat} {R:Nat->HEnt} {h h':Keys} {q:Nat} (H:h' q=h q): ∀{k:Nat},pileK κ R k h' q=pileK κ R k h q
 | 0=>H
 | k+1=>by
  by_cases hq:q=κ k
  ·subst hq;rw [pileK,pileK,x6,x6]
  ·rw [pileK,pileK,x4 _ _ _ hq,x4 _ _ _ hq,xp3 H]
theorem SubK.eq {h h':Keys} (H: ∀q x,h' q=some x->h q=some x):SubK h' h:=fun q x hx=>⟨x,H q x hx,rfl,.refl⟩
def setN (κ:Nat->Nat) (k v:Nat):Nat->Nat:=fun j=>if j=k then v else κ j
theorem xo0 {κ:Nat->Nat} {k v:Nat}:setN κ k v k=v:=if_pos rfl
theorem xk3 {κ:Nat->Nat} {k v j:Nat} (h:j≠k):setN κ k v j=κ j:=if_neg h
def okN (k x:Nat):Prop:=x=k+100∨(2000+64*k<=x/\x < 2064+64*k)
theorem okN.lt {k x m:Nat} (h:okN k x) (hk:k<=900) (hm:2064+64*k<=m):100<=x/\x < m:=by rcases h with h | h <;> omega
theorem okN.ne {k j x y:Nat} (h:okN k x) (h':okN j y) (hk:k<=900) (hj:j<=900) (hne:k≠j):x≠y:=by rcases h with h | h <;> rcases h' with h' | h' <;> omega
theorem SubK.over {h:Keys} {v q:Nat} {r r':HEnt} (H: ∀y,h q=some y->r.T=y.T/\ImpK r y):SubK (upd h v (some r')) (upd (upd h q (some r)) v (some r')):=fun t x hx=>by
 by_cases htv:t=v
 ·subst htv;rw [x6] at hx ⊢;exact ⟨_,rfl,by cases hx;rfl,by cases hx;exact .refl⟩
 ·rw [x4 _ _ _ htv] at hx ⊢;by_cases htq:t=q
  ·subst htq;rw [x6];exact ⟨r,rfl,H x hx⟩
  ·rw [x4 _ _ _ htq];exact ⟨x,hx,rfl,.refl⟩
def gsR (n es:Nat) (κ len:Nat->Nat) (t0:Nat->Ent) (k:Nat):List Ent:=(List.range n).map fun j=>if j < k then .own (.sl (κ j) es 0 (len j)) else t0 j
section
variable {n es k:Nat} {κ len:Nat->Nat} {t0:Nat->Ent}
theorem xt8:(gsR n es κ len t0 k).length=n:=by simp [gsR]
theorem xr2 {j:Nat} (hj:j < n) (hk:j < k):(gsR n es κ len t0 k)[j]? =some (.own (.sl (κ j) es 0 (len j))):=by
 simp [gsR,List.getElem?_map,List.getElem?_range hj,hk]
theorem zh7 {e:Ent}:List.replicate n e=gsR n es κ len (fun _=>e) 0:=by
 apply zes;intro t;rw [gsR,zbp];rcases zcs t n with h | h
 ·rw [zeh h,zfp,if_pos h];simp
 ·rw [zcp (by simpa using h),zcp (by simpa using h)];rfl
theorem yc1 {v:Nat} (hk:k < n):(gsR n es κ len t0 k).set k (.own (.sl v es 0 (len k)))=gsR n es (setN κ k v) len t0 (k+1):=by
 apply zes;intro t;rw [zeo];rcases zcs t n with h | h
 ·simp only [gsR,zbp,zeh h,zcq,List.length_range,zdv];by_cases hit:k=t
  ·subst hit;simp [h,setN]
  ·rw [if_neg hit];by_cases h1:t < k
   ·simp [h1,show t < k+1 by omega,xk3 (κ:=κ) (v:=v) (show t≠k by omega)]
   ·simp [h1,show ¬t < k+1 by omega]
 ·rw [if_neg (by omega),zcp (by rw [xt8];exact h),zcp (by rw [xt8];exact h)]
theorem xz5 {q:Nat} (h:q∈(gsR n es κ len t0 k).flatMap Ent.supp):(∃j,j < n/\j < k/\q=κ j)∨ ∃j,j < n/\q∈(t0 j).supp:=by
 simp only [gsR,zbw,zcb,zcw] at h;obtain ⟨e,⟨j,hj,rfl⟩,hk⟩:=h;by_cases hjk:j < k
 ·rw [if_pos hjk] at hk;simp only [Ent.supp,VP.supp,zbq] at hk;exact .inl ⟨j,hj,hjk,hk⟩
 ·rw [if_neg hjk] at hk;exact .inr ⟨j,hj,hk⟩
end
section
variable {P:Program} {c:Base} {g:Slots} {h:Keys} {al:Names} {a:Act} {w:World} {η:Env}
theorem St'.giveL (s:St' c g h al a w η) {k:Nat} {T es off len:Nat} {agg:Bool} {ts:List Ent} {α:Type} {f:α->Ty} {xs:List α} (hk:h k=some ⟨T,es,agg,ts⟩) (hlb:0 < η.c k-> ¬c.lb (η.b k))
  (hts:(ts.drop off).take len=xs.map fun x=> .val (f x)) (hl:xs.length=len) {v:Value} (hv:(Ent.own (.sl k es off len)).sat (c.dom h η) w η v):(tL es agg f xs).p (c.dom (upd h k none) η) w v:=by
 subst hl;obtain ⟨A,h1,h2,h3⟩:=hv;obtain ⟨h4,h5,⟨h6,h7,h8,h9,h10⟩,h11⟩:=s.key k _ hk;simp only at h7 h8 h9 h10;refine ⟨A,_,h1,by omega,by omega,?_⟩;rcases zcg xs.length with h0 | h0
 ·exact .inl (zea h0)
 ·have hc:0 < η.c k:=by omega
  obtain ⟨cs,e1,e2,e3⟩:=h10 hc;obtain ⟨d1,d2,d3⟩:=h11 hc;have d1:c.w0.heap.size<=η.b k:=d1.resolve_right (hlb hc);refine .inr ⟨η.b k,off*es,h3 (by omega),⟨.inl d1,?_,d2,d3⟩,fun i x hi=> ?_⟩
  ·rintro ⟨j,y,hj,hcj,e⟩;by_cases hjk:j=k
   ·subst hjk;rw [x6] at hj;cases hj
   ·rw [x4 _ _ _ hjk] at hj;exact s.inj j k y _ hj hk hjk hcj hc e.symm
  ·have hil:i < xs.length:=(zbi.1 hi).1;have he:=e3 (off+i) _ (yv3 hts i x hi);have hle:off*es+i*es+es<=cs.size:=by
    rw [e2,<-zch,<-zdj];exact zbr _ (by omega)
   refine ⟨_,⟨cs,_,_,e1,hle,h7,h8,rfl⟩,?_⟩;rw [<-zch];exact (f x).mono he (Keep.drop k)
theorem zi1 {Q:Exit->Act->World->Prop} {x:Code} {t k T es off len:Nat} {agg:Bool} {ts:List Ent} {α:Type} {f:α->Ty} {xs:List α} (hg:g t=some (.own (.sl k es off len))) (hk:h k=some ⟨T,es,agg,ts⟩)
  (hlb: ∀b,c.lb b-> ∃j y,j∈c.ln/\j≠k/\h j=some y/\0 < c.lη.c j/\b=c.lη.b j)
  (hts:(ts.drop off).take len=xs.map fun x=> .val (f x)) (hl:xs.length=len) (H:wc P c x Q (upd g t (some (.val (tL es agg f xs)))) (upd h k none) al):wc P c x Q g h al:=fun a w ⟨η,s⟩=>by
 have h2:=s.giveL hk (fun hc hb=>by
  obtain ⟨j,y,h1,h2,h3,h4,h5⟩:=hlb _ hb;obtain ⟨_,e1,e2⟩:=s.lk j h1;exact s.inj j k y _ h3 hk h2 (by rw [e2];exact h4) hc (by rw [e1,<-h5])) hts hl (s.slot t _ hg).2.2
 have s2:=(s.drop k).put (s.slot t _ hg).1 (e:= .val (tL es agg f xs)) h2 fun j hj=>by cases hj
 refine H a w ⟨η,?_⟩;have e:a.put (some t) (a.tmps.getD t undef)=a:=by
  have hlt:t < a.tmps.size:=by rw [s.tn];exact (s.slot t _ hg).1
  have:a.tmps.setIfInBounds t (a.tmps.getD t undef)=a.tmps:=by
   apply zdp;intro i;rw [zdy];by_cases hi:t=i
   ·subst hi;simp [hlt]
   ·simp [hi]
  simp only [Act.put,this]
 rwa [e] at s2
end
def Wk (e e':Ent):Prop:=(e'=e/\((∃k o,e= .own (.ptr k o))∨ ∃k es o l,e= .own (.sl k es o l)))∨ ∃t t',e= .val t/\e'= .val t'/\Le t t'/\Free t'
theorem Wk.ptr {k o:Nat}:Wk (.own (.ptr k o)) (.own (.ptr k o)):= .inl ⟨rfl,.inl ⟨k,o,rfl⟩⟩
theorem Wk.sl {k es o l:Nat}:Wk (.own (.sl k es o l)) (.own (.sl k es o l)):= .inl ⟨rfl,.inr ⟨k,es,o,l,rfl⟩⟩
theorem Wk.val {t t':Ty} (h:Le t t') (hf:Free t'):Wk (.val t) (.val t'):= .inr ⟨t,t',rfl,rfl,h,hf⟩
theorem Wk.supp {e e':Ent} (h:Wk e e'): ∀k∈e'.supp,k∈e.supp:=fun k hk=>by
 rcases h with ⟨rfl,_⟩ | ⟨_,_,_,rfl,_⟩
 ·exact hk
 ·cases hk
theorem Wk.sat {e e':Ent} (h:Wk e e') {F F':Dom} {w w':World} {η η':Env} {v:Value} (hs:e.sat F w η v) (hη:η'.b=η.b/\η'.c=η.c):e'.sat F' w' η' v:=by
 obtain ⟨h1,h2⟩:=hη;rcases h with ⟨rfl,⟨k,o,rfl⟩ | ⟨k,es,o,l,rfl⟩⟩ | ⟨t,t',rfl,rfl,hl,hf⟩
 ·have hs:v= .pointer (some ⟨η.b k,o,none⟩):=hs;show v= .pointer (some ⟨η'.b k,o,none⟩);rw [h1];exact hs
 ·obtain ⟨A,e1,e2,e3⟩:=hs;exact ⟨A,by rw [h2];exact e1,by rw [h2];exact e2,by rw [h1,h2];exact e3⟩
 ·exact hf _ _ _ _ _ (hl _ _ _ hs)
def SlW (g g':Slots):Prop:= ∀s e',g' s=some e'-> ∃e,g s=some e/\Wk e e'
theorem SlW.nil {g:Slots}:SlW g (fun _=>none):=fun _ _ h=>by cases h
theorem SlW.cons {g g':Slots} {s:Nat} {e e':Ent} (hs:g s=some e) (hl:Wk e e') (hr:SlW g g'):SlW g (upd g' s (some e')):=fun s' e1 he=>by
 by_cases hss:s'=s
 ·subst hss;rw [x6] at he;cases he;exact ⟨e,hs,hl⟩
 ·rw [x4 _ _ _ hss] at he;exact hr s' e1 he
def WkL (ts ts':List Ent):Prop:=ts'.length=ts.length/\ ∀(i:Nat) (e':Ent),ts'[i]? =some e'-> ∃e:Ent,ts[i]? =some e/\Wk e e'
def KyW (h h':Keys):Prop:= ∀(k:Nat) (x':HEnt),h' k=some x'-> ∃x:HEnt,h k=some x/\x'.T=x.T/\x'.es=x.es/\x'.agg=x.agg/\WkL x.ts x'.ts
theorem KyW.nil {h:Keys}:KyW h (fun _=>none):=fun _ _ h=>by cases h
theorem KyW.cons {h h':Keys} {k T es:Nat} {agg:Bool} {ts ts':List Ent} (hs:h k=some ⟨T,es,agg,ts⟩) (ht:WkL ts ts') (hr:KyW h h'):KyW h (upd h' k (some ⟨T,es,agg,ts'⟩)):=fun k' x' hx=>by
 by_cases hkk:k'=k
 ·subst hkk;rw [x6] at hx;cases hx;exact ⟨_,hs,rfl,rfl,rfl,ht⟩
 ·rw [x4 _ _ _ hkk] at hx;exact hr k' x' hx
theorem wk_rV {α:Type} {f f':α->Ty} {xs:List α} (h: ∀x,Le (f x) (f' x)) (hf: ∀x,Free (f' x)):WkL (rV f xs) (rV f' xs):=⟨by simp [rV],fun i e' he=>by
 simp only [rV,zbp] at he ⊢;obtain ⟨x,hx,rfl⟩:=zdo.1 he;exact ⟨.val (f x),by rw [hx];rfl,.val (h x) (hf x)⟩⟩
section
variable {P:Program} {g:Slots} {h:Keys} {al:Names} {Q:Exit->Act->World->Prop}
end
def CtU (P:Program) (X:OvJ) (f:FuncId) (H:List (Nat×HEnt)) (ps:List Ent) (n m:Nat) (r:Value):Prop:=
 ∀(w:World) (η:Env) (vs:List Value),SatL (fun _=>False) w η ps vs->AllK (fun _=>False) w η H->InjK η H->(∀b,X.D b->b < w.heap.size/\ ¬OwnK η H b)->X.J n w->
  Calls P f vs.toArray w fun e w'=>e= .returned r/\Stp (fun b=>OwnK η H b∨X.D b) w w'/\X.J m w'
def PostU (P:Program) (X:OvJ) (w:World) (η:Env) (fn:Func) (H:List (Nat×HEnt)) (m:Nat) (r:Value):Exit->Act->World->Prop:=PostR P fn fun v w'=>v=r/\Stp (fun b=>OwnK η H b∨X.D b) w w'/\X.J m w'
section
variable {P:Program} {X:OvJ}
theorem CtU.intro {f:FuncId} {fn:Func} {x:Code} {N n m:Nat} {r:Value} {H:List (Nat×HEnt)} {ps:List Ent} (K:Nat) (l0:List Nat) (hf:P.funcs[f]? =some fn) (hb:fn.body=some x) (hN:fn.ntmps=N) (hlb:Nat.ble ps.length N=true) (hl0:subN (suppE ps) l0=true) (hlH:SupHs H l0) (hK:memN K l0=false)
  (hw: ∀w η,OvC (Base.over N w (fun _=>False) η l0 H K X) w η H K X->wc P (Base.over N w (fun _=>False) η l0 H K X) x (PostU P X w η fn H m r) (argsE 0 ps) (keysOf ((K,⟨n,1,false,[]⟩)::H)) (nm (K::l0))):CtU P X f H ps n m r:=by
 intro w η vs hvs hAK hinj hD hJ;have hl:ps.length<=N:=zdm hlb;have hlen:=hvs.len;have hKl: ∀k∈l0,k≠K:=fun k hk e=>by subst e;rw [xb5.2 hk] at hK;cases hK
 have hmem: ∀k∈suppE ps++suppH H,k∈l0:=fun k hk=>by
  rcases zbj.1 hk with hk | hk
  ·exact xf7 hl0 k hk
  ·exact hlH.spec k hk
 have hKH: ∀x∈H,x.1≠K:=fun x hx=>hKl _ (hmem _ (zbj.2 (.inr (zbw.2 ⟨x,hx,by simp⟩))));have hc: ∀k,k≠K->(envK η K).c k=η.c k:=fun k hk=>by simp [envK,hk]
 have hcK:(envK η K).c K=0:=by simp [envK]
 have hal: ∀k∈l0,nm (K::l0) k=true:=fun k hk=>xb5.2 (by simp [hk]);refine zfc (xk1 (R:=fun v w'=>v=r/\Stp (fun b=>OwnK η H b∨X.D b) w w'/\X.J m w') hf hb (hw w η OvC.mk' _ w ⟨⟨η.b,(envK η K).c,X.D⟩,?_⟩)) (fun e w' ⟨v,he,hv,hr⟩=>⟨by rw [he,hv],hr⟩);have hKp: ∀F',Keep (fun _=>False) F' w w:=fun F' b o hb=>hb.elim;have hown: ∀b,Own (keysOf ((K,⟨n,1,false,[]⟩)::H)) ⟨η.b,(envK η K).c,X.D⟩ b->OwnK η H b:=by
  rintro b ⟨k,x,hk,hck,rfl⟩;rcases zbt.1 (xf5 hk) with e | hm
  ·cases e;simp only [hcK] at hck;omega
  ·have hne:=hKH _ hm;simp only at hne hck;exact ⟨(k,x),hm,by rw [<-hc k hne];exact hck,rfl⟩
 refine ⟨?_,rfl,fun s e hs=> ?_,fun k x hx=> ?_,fun k k' x x' hx hx' hne hck hck'=> ?_,⟨rfl,rfl,rfl,zbm _,fun _ _ _ _=>rfl,fun _ hb=>hb,fun b hb=>⟨(hD b hb).1,rfl,.inl hb⟩⟩,fun k hk=>⟨xb5.2 hk,rfl,rfl⟩,fun x hx=>(by cases hx),fun b hb=>hb.elim,fun k hk=>(by cases hk;exact xb5.2 (by simp)),fun k x hk hx=> ?_,fun b hb=> ?_⟩
 ·simp [hlen,hN,Base.over];omega
 ·obtain ⟨j,h1,h2⟩:=xu7 ps 0 s e hs;have hj:j < ps.length:=(zbi.1 h2).1;obtain ⟨v,hv,hp⟩:=SatL.get ps vs j e hvs h2;have hsup: ∀k∈e.supp,k∈l0:=fun k hk=>hmem k (zbj.2 (.inl (zbw.2 ⟨e,zdc h2,hk⟩)));refine ⟨by show s < N;omega,fun k hk=>hal k (hsup k hk),?_⟩;have e1:(vs.toArray++Array.replicate (fn.ntmps - vs.toArray.size) undef).getD s undef=v:=by
   rw [zbn,zft,if_pos (by simp;omega)];rw [h1,zcj,zfe,hv];rfl
  simp only [e1];exact Ent.sat_go hp (hKp _) fun k hk=>⟨rfl,hc k (hKl k (hsup k hk))⟩
 ·rcases zbt.1 (xf5 hx) with e | hm
  ·cases e;exact ⟨xb5.2 (by simp),fun j hj=>(by cases hj),⟨by simp,by simp,fun _=>rfl,by simp only [hcK];omega,fun hck=>by simp only [hcK] at hck;omega⟩,fun hck=>by simp only [hcK] at hck;omega⟩
  ·have hsup: ∀j∈x.supp,j∈l0:=fun j hj=>hmem j (zbj.2 (.inr (zbw.2 ⟨_,hm,by simp [hj]⟩)));have hk0:k∈l0:=hmem k (zbj.2 (.inr (zbw.2 ⟨_,hm,by simp⟩)));exact ⟨hal k hk0,fun j hj=>hal j (hsup j hj),HEnt.sat_go (hAK _ hm) (fun _=>rfl) (hKp _) ⟨rfl,hc k (hKl k hk0)⟩ fun j hj=>⟨rfl,hc j (hKl j (hsup j hj))⟩,
    fun hck=>⟨.inr ⟨_,hm,by rw [<-hc k (hKl k hk0)];exact hck,rfl⟩,fun hv=>(hD _ hv).2 ⟨_,hm,by rw [<-hc k (hKl k hk0)];exact hck,rfl⟩,fun hv=>hv⟩⟩
 ·rcases zbt.1 (xf5 hx) with e | hm
  ·cases e;simp only [hcK] at hck;omega
  ·rcases zbt.1 (xf5 hx') with e | hm'
   ·cases e;simp only [hcK] at hck';omega
   ·have h1:=hKH _ hm;have h2:=hKH _ hm';simp only at h1 h2 hck hck';exact hinj _ hm _ hm' hne (by rw [<-hc k h1];exact hck) (by rw [<-hc k' h2];exact hck')
 ·have hk:some K=some k:=hk;cases hk;have hxn:x=⟨n,1,false,[]⟩:=by
   rcases zbt.1 (xf5 hx) with e | hm
   ·cases e;rfl
   ·exact absurd rfl (hKH _ hm)
  subst hxn;refine ⟨hJ,fun b hb=>⟨hb,?_,(hD b hb).1⟩⟩;rintro (hb' | hb' | ⟨y,hy,_⟩)
  ·exact (hD b hb).2 (hown b hb')
  ·exact hb'
  ·cases hy
 ·obtain ⟨x,hx,hcx,rfl⟩:=hb;exact HEnt.lt (hAK x hx) hcx
variable {c:Base} {g:Slots} {h:Keys} {al:Names} {d ty:Nat} {pos:String} {af:Array Edge} {gd:Option (Nat×Bool)}
theorem zc6 {fn:Func} {w0:World} {η0:Env} {H:List (Nat×HEnt)} {K m t:Nat} {r:Value} (hp:OvC c w0 η0 H K X) (hr:fn.results= #[.tmp t]) (hx:g t=some (.val (tE r))) (hK:h K=some ⟨m,1,false,[]⟩):wk c .ret (PostU P X w0 η0 fn H m r) g h al:=
 ys5 (.inl rfl) hp.df fun df pn a w η s=>by
  refine ⟨_,results_tmp hr a.tmps P w,xt2 s hx,?_,?_⟩
  ·have e0:(c.with df pn).w0=w0:=hp.w0;refine ⟨e0▸s.fr.os,e0▸s.fr.tape,e0▸s.fr.output,e0▸s.fr.size,fun b hb hn=> ?_⟩;have:=s.fr.block b (by rw [e0];exact hb) (fun hl=>hn (.inl (by have hl:c.lb b:=hl;rwa [hp.lb] at hl))) (fun hv=>by
    rcases (s.fr.vnew b hv).2.2 with h3 | h3
    ·have h3:c.V0 b:=h3;rw [hp.V0] at h3;exact hn (.inr h3)
    ·rw [e0] at h3;omega)
   rwa [e0] at this
  ·have hj:=s.jj K _ hp.yk hK;have hj:c.J m _ _ w:=hj;rw [hp.J] at hj;exact hj.1
theorem zu8: ∀(l1 l2:List (Nat×Option HEnt)) (h:Keys),updK h (l1++l2)=updK (updK h l1) l2
 | [],_,_=>rfl
 | _::r,l2,_=>zu8 r l2 _
theorem zo1: ∀{ks:List Nat} {h:Keys} {k:Nat} {x:HEnt},updK h (ks.map fun k=>(k,none)) k=some x->k∉ks/\h k=some x
 | [],_,_,_,hx=>⟨by simp,hx⟩
 | j::r,h,k,x,hx=>by
  obtain ⟨h1,h2⟩:=zo1 (ks:=r) (h:=upd h j none) hx;by_cases hk:k=j
  ·subst hk;rw [x6] at h2;cases h2
  ·rw [x4 _ _ _ hk] at h2;exact ⟨by simp [hk,h1],h2⟩
theorem St'.after {a:Act} {w w':World} {η:Env} {w0:World} {η0:Env} {H0:List (Nat×HEnt)} {K n m:Nat} (s:St' c g h al a w η) (hp:OvC c w0 η0 H0 K X) (ks:List Nat) (hks: ∀k∈ks,∃x,h k=some x) (hK:h K=some ⟨n,1,false,[]⟩)
  (hst:Stp (fun b=>(∃k∈ks,0 < η.c k/\b=η.b k)∨X.D b) w w') (hJ:X.J m w'):St' c g (updK h (ks.map (fun k=>(k,none))++[(K,some ⟨m,1,false,[]⟩)])) al a w' η:=by
 have hj:=s.jj K _ hp.yk hK;have hj:c.J n _ _ w:=hj;rw [hp.J] at hj;have hlkK:=s.lk K hp.ln;have hcK:η.c K=0:=hlkK.2.2.trans hp.c0;have hDv: ∀b,X.D b->η.vo b:=fun b hb=>(hj.2 b hb).1;have hget: ∀k x,updK h (ks.map (fun k=>(k,none))++[(K,some ⟨m,1,false,[]⟩)]) k=some x->(k=K/\x=⟨m,1,false,[]⟩)∨(k≠K/\k∉ks/\h k=some x):=fun k x hx=>by
  rw [zu8] at hx;by_cases hk:k=K
  ·subst hk;have hx:upd _ k _ k=some x:=hx;rw [x6] at hx;cases hx;exact .inl ⟨rfl,rfl⟩
  ·have hx:upd _ K _ k=some x:=hx;rw [x4 _ _ _ hk] at hx;obtain ⟨h1,h2⟩:=zo1 hx;exact .inr ⟨hk,h1,h2⟩
 generalize updK h (ks.map (fun k=>(k,none))++[(K,some ⟨m,1,false,[]⟩)])=h' at hget;have hown: ∀b,Own h' η b->Own h η b:=by
  rintro b ⟨k,x,hx,hc,rfl⟩;rcases hget k x hx with ⟨rfl,_⟩ | ⟨_,_,h1⟩
  ·omega
  ·exact ⟨k,x,h1,hc,rfl⟩
 have hch: ∀b,((∃k∈ks,0 < η.c k/\b=η.b k)∨X.D b)->Own h η b∨η.vo b:=by
  rintro b (⟨k,hk,hc,rfl⟩ | hb)
  ·obtain ⟨x,hx⟩:=hks k hk;exact .inl ⟨k,x,hx,hc,rfl⟩
  ·exact .inr (hDv b hb)
 have hKp:Keep (c.dom h η) (c.dom h' η) w w':=fun b o hb hl _=>⟨⟨hb.1,fun ho=>hb.2.1 (hown b ho),hb.2.2.1,hb.2.2.2⟩,(hst.block b (xb0 hl) fun h'=>(hch b h').elim hb.2.1 hb.2.2.1).trans hl⟩
 refine ⟨s.tn,s.df,fun t x hx=>⟨(s.slot t x hx).1,(s.slot t x hx).2.1,Ent.sat_go (s.slot t x hx).2.2 hKp fun _ _=>⟨rfl,rfl⟩⟩,fun k x hx=> ?_,fun k k' x x' hx hx' hne hc hc'=> ?_,⟨hst.os.trans s.fr.os,hst.tape.trans s.fr.tape,hst.output.trans s.fr.output,zce s.fr.size hst.size,fun b hb hl hv=> ?_,s.fr.vold,fun b hb=>⟨zby (s.fr.vnew b hb).1 hst.size,(s.fr.vnew b hb).2⟩⟩,
  s.lk,fun x hx=> ?_,fun b hb=>zby (s.vol b hb) hst.size,s.yal,fun k x h1 h2=> ?_,s.lbl⟩
 ·rcases hget k x hx with ⟨rfl,rfl⟩ | ⟨hkK,hkn,h1⟩
  ·exact ⟨hlkK.1,fun j hj=>(by cases hj),⟨by simp,by simp,fun _=>rfl,by rw [hcK];omega,fun hc=>by omega⟩,fun hc=>by omega⟩
  ·obtain ⟨q1,q2,q3,q4⟩:=s.key k x h1;refine ⟨q1,q2,HEnt.sat_go q3 (fun hc=>hst.block _ (HEnt.lt q3 hc) ?_) hKp ⟨rfl,rfl⟩ fun _ _=>⟨rfl,rfl⟩,q4⟩;rintro (⟨j,hj,hcj,e⟩ | hb)
   ·obtain ⟨y,hy⟩:=hks j hj;exact s.inj k j x y h1 hy (fun e=>hkn (e▸hj)) hc hcj e
   ·exact (q4 hc).2.1 (hDv _ hb)
 ·rcases hget k x hx with ⟨rfl,_⟩ | ⟨_,_,h1⟩
  ·omega
  ·rcases hget k' x' hx' with ⟨rfl,_⟩ | ⟨_,_,h2⟩
   ·omega
   ·exact s.inj k k' x x' h1 h2 hne hc hc'
 ·refine (hst.block b (zby hb s.fr.size) fun h'=> ?_).trans (s.fr.block b hb hl hv);rcases hch b h' with ⟨k,x,hx,hc,rfl⟩ | h2
  ·rcases ((s.key k x hx).2.2.2 hc).1 with h3 | h3
   ·omega
   ·exact hl h3
  ·exact hv h2
 ·obtain ⟨p1,p2,p3,p4,p5⟩:=s.pin x hx;refine ⟨(hst.block _ (xb0 p1) fun h'=> ?_).trans p1,p2,p3,p4,p5⟩;rcases hch _ h' with ⟨k,y,hy,hc,e⟩ | h2
  ·obtain ⟨o,h1,h2⟩:=HEnt.data (s.key k y hy).2.2.1 hc;rw [<-e,p1] at h1;cases h1;rw [p2] at h2;cases h2
  ·exact p4 h2
 ·have e:k=K:=by rw [hp.yk] at h1;exact (Option.some.inj h1).symm
  subst e;rcases hget k x h2 with ⟨_,rfl⟩ | ⟨hne,_⟩
  ·show c.J m _ _ w';rw [hp.J];refine ⟨hJ,fun b hb=>⟨hDv b hb,fun hO=> ?_,zby (hj.2 b hb).2.2 hst.size⟩⟩;refine (hj.2 b hb).2.1 ?_;rcases hO with h3 | h3
   ·exact .inl (hown b h3)
   ·exact .inr h3
  ·exact absurd rfl hne
theorem SatL.free {F F':Dom} {w:World} {η:Env}: ∀{ps:List Ent} {vs:List Value},(∀e∈ps,Wk e e)->SatL F w η ps vs->SatL F' w η ps vs
 | [],[],_,_=>trivial
 | _::_,_::_,h,hs=>⟨(h _ (by simp)).sat hs.1 ⟨rfl,rfl⟩,SatL.free (fun e he=>h e (by simp [he])) hs.2⟩
 | [],_::_,_,hs=>hs.elim
 | _::_,[],_,hs=>hs.elim
theorem yv7 {f:FuncId} {xs:List Operand} {aT:Array TypeId} {H h1:List (Nat×HEnt)} {ps:List Ent} {w0:World} {η0:Env} {H0:List (Nat×HEnt)} {K n m:Nat} {r:Value} (ρ:Nat->Nat) (hp:OvC c w0 η0 H0 K X) (hc:CtU P X f H ps n m r) (hf:FnI P f) (hl:xs.length=ps.length)
  (e1:H.map (fun x=>(ρ x.1,x.2.ren ρ))=h1) (hij:injN ρ (H.map (·.1))=true) (hps: ∀e∈ps,Wk e e) (hHs: ∀x∈H,∀e∈x.2.ts,Wk e e):
  Does P c ⟨some d,.call {callee:= .value (.func f),args:=xs.toArray,argTypes:=aT},ty,pos,af,gd⟩ ⟨xs.zip (ps.map (Ent.ren ρ)),(K,⟨n,1,false,[]⟩)::h1,some (d,some (.val (tE r))),H.map (fun x=>(ρ x.1,none))++[(K,some ⟨m,1,false,[]⟩)],[]⟩:=by
 subst e1;intro g h al a w hpre ⟨η,s⟩;obtain ⟨fn,f1,f2,f3⟩:=hf;obtain ⟨hsat,hal⟩:=SatL.of s xs ps hpre.rd hl;have hrun:(execOp a.eval ⟨some d,.call {callee:= .value (.func f),args:=xs.toArray,argTypes:=aT},ty,pos,af,gd⟩).run P w= .ok (.enter f (xs.map a.eval).toArray) w:=by
  simp only [execOp,resolve,Act.eval,Deferred.ofValue,zbu,zbv,zbo,invoke];simp only [zeu,zef,zdn];exact xe7 f1 f2 f3 _ w
 have hKk:h K=some ⟨n,1,false,[]⟩:=hpre.kr.1;have hH':=Kr.ren (h:=h) (ρ:=ρ) (H:=H) hpre.kr.2;have hj:=s.jj K _ hp.yk hKk;have hj:c.J n _ _ w:=hj;rw [hp.J] at hj;have hownH: ∀b,OwnK (η.pre ρ) H b->Own h η b:=by
  rintro b ⟨x,hx,hcx,rfl⟩;exact ⟨ρ x.1,_,hH' x hx,hcx,rfl⟩
 have hall:AllK (fun _=>False) w (η.pre ρ) H:=fun x hx=>by
  obtain ⟨p1,p2,p3,p4,p5⟩:=HEnt.sat_ren.1 (s.key _ _ (hH' x hx)).2.2.1;refine ⟨p1,p2,p3,p4,fun hc0=> ?_⟩;obtain ⟨cs,c1,c2,c3⟩:=p5 hc0;exact ⟨cs,c1,c2,fun i e hi=>(hHs x hx e (zdc hi)).sat (c3 i e hi) ⟨rfl,rfl⟩⟩
 refine xh4 hrun (zfc (hc w (η.pre ρ) (xs.map a.eval) (SatL.free hps hsat) hall (fun x hx y hy hne hcx hcy=> ?_) (fun b hb=>⟨(hj.2 b hb).2.2,fun ho=>(hj.2 b hb).2.1 (.inl (hownH b ho))⟩) hj.1) ?_)
 ·exact s.inj (ρ x.1) (ρ y.1) _ _ (hH' x hx) (hH' y hy) (xm6 hij x.1 y.1 (zcr hx) (zcr hy) hne) hcx hcy
 ·rintro e w' ⟨rfl,hst,hJ⟩;refine ⟨_,rfl,?_⟩;have s2:=s.after hp (H.map fun x=>ρ x.1) (fun k hk=>by obtain ⟨x,hx,rfl⟩:=zcb.1 hk;exact ⟨_,hH' x hx⟩) hKk (hst.mono fun b _ hb=>hb.imp (fun ⟨x,hx,hcx,e⟩=>⟨ρ x.1,zcr (f:=fun x=>ρ x.1) hx,hcx,e⟩) id) hJ;rw [List.map_map] at s2;exact ⟨_,s2.put (hpre.d _ rfl) (e:= .val (tE r)) rfl fun k hk=>by cases hk⟩
end
section
variable {P:Program} {c:Base} {d ty:Nat} {pos:String} {af:Array Edge} {gd:Option (Nat×Bool)}
end
def SzB (m:Nat) (F:Dom) (w:World):Prop:=m=0∨ ∃b o,F b/\w.heap[b]? =some o/\isData o=true/\m<=b+1
def tSz (m:Nat) (t:Ty):Ty:=⟨fun F w v=>t.p F w v/\SzB m F w,fun ⟨h1,h2⟩ hk=>⟨t.mono h1 hk,h2.imp id fun ⟨b,o,e1,e2,e3,e4⟩=>⟨b,o,(hk b o e1 e2 e3).1,(hk b o e1 e2 e3).2,e3,e4⟩⟩⟩
instance {m:Nat} {t:Ty} {n:Nat} {agg:Bool} [h:Shape t n agg]:Shape (tSz m t) n agg:=⟨fun hp=>h.flat hp.1⟩
instance {ι:Type} {I:ι->Prop} {r:ι->Ty} {n:Nat} {agg:Bool} [h: ∀i,Shape (r i) n agg]:Shape (tEx I r) n agg:=⟨fun ⟨i,_,hp⟩=>(h i).flat hp⟩
section
variable {P:Program} {c:Base} {g:Slots} {h:Keys} {al:Names} {d ty:Nat} {pos:String} {af:Array Edge} {gd:Option (Nat×Bool)} {Q:Exit->Act->World->Prop}
theorem St'.rekey {a:Act} {w:World} {η:Env} (s:St' c g h al a w η) {k T es:Nat} {agg:Bool} {ts ts':List Ent} (hk:h k=some ⟨T,es,agg,ts⟩) (hl:ts'.length=ts.length) (hs: ∀j∈ts'.flatMap Ent.supp,al j=true)
  (H: ∀(cs:Array Value) (i:Nat) (e':Ent),w.heap[η.b k]? =some (.cells cs T (0,0))->ts'[i]? =some e'-> ∃e:Ent,ts[i]? =some e/\(e.sat (c.dom h η) w η (pick agg es cs (i*es))->e'.sat (c.dom h η) w η (pick agg es cs (i*es)))):St' c g (upd h k (some ⟨T,es,agg,ts'⟩)) al a w η:=by
 have hget: ∀k' x,upd h k (some ⟨T,es,agg,ts'⟩) k'=some x->(k'=k/\x=⟨T,es,agg,ts'⟩)∨(k'≠k/\h k'=some x):=fun k' x hx=>by
  by_cases e:k'=k
  ·subst e;rw [x6] at hx;cases hx;exact .inl ⟨rfl,rfl⟩
  ·rw [x4 _ _ _ e] at hx;exact .inr ⟨e,hx⟩
 have hsome: ∀k' x,upd h k (some ⟨T,es,agg,ts'⟩) k'=some x-> ∃y,h k'=some y/\y.T=x.T:=fun k' x hx=>by
  rcases hget k' x hx with ⟨rfl,rfl⟩ | ⟨_,h1⟩
  ·exact ⟨_,hk,rfl⟩
  ·exact ⟨_,h1,rfl⟩
 have hown: ∀b,Own (upd h k (some ⟨T,es,agg,ts'⟩)) η b->Own h η b:=by
  rintro b ⟨k',x,hx,hc,rfl⟩;obtain ⟨y,h1,_⟩:=hsome k' x hx;exact ⟨k',y,h1,hc,rfl⟩
 have hKp:Keep (c.dom h η) (c.dom (upd h k (some ⟨T,es,agg,ts'⟩)) η) w w:=fun b o hb hl _=>⟨⟨hb.1,fun ho=>hb.2.1 (hown b ho),hb.2.2⟩,hl⟩
 refine s.turn (fun _ h=>h) (fun _ _=>⟨rfl,rfl⟩) rfl (Stp.refl _ _) (fun b hb=>⟨s.olt (hown b hb),.inl (hown b hb)⟩) (fun k' x hx _=> ?_) (fun k1 k2 x1 x2 h1 h2=> ?_) (fun k' x _ hx=> ?_)
 ·rcases hget k' x hx with ⟨rfl,rfl⟩ | ⟨_,h1⟩
  ·obtain ⟨q1,_,⟨p1,p2,p3,p4,p5⟩,_⟩:=s.key _ _ hk;refine ⟨q1,hs,by simp only at p1 ⊢;omega,p2,p3,p4,fun hc=> ?_⟩;obtain ⟨cs,c1,c2,c3⟩:=p5 hc;refine ⟨cs,c1,c2,fun i e' hi=> ?_⟩;obtain ⟨e,h2,h3⟩:=H cs i e' c1 hi;exact Ent.sat_go (h3 (c3 i e h2)) hKp fun _ _=>⟨rfl,rfl⟩
  ·obtain ⟨q1,q2,q3,_⟩:=s.key _ _ h1;exact ⟨q1,q2,HEnt.sat_go q3 (fun _=>rfl) hKp ⟨rfl,rfl⟩ fun _ _=>⟨rfl,rfl⟩⟩
 ·obtain ⟨y1,g1,_⟩:=hsome k1 x1 h1;obtain ⟨y2,g2,_⟩:=hsome k2 x2 h2;exact s.inj k1 k2 y1 y2 g1 g2
 ·obtain ⟨y,h1,h2⟩:=hsome k' x hx;exact ⟨y,h1,h2⟩
theorem jn8 {x:Code} {k T es:Nat} {agg:Bool} {t:Ty} {ts:List Ent} {ι:Type} {I:ι->Prop} (r:ι->Ty) (hk:h k=some ⟨T,es,agg,ts++[.val t]⟩) (hle:Le t (tEx I r))
  (H: ∀i,I i->wc P c x Q g (upd h k (some ⟨T,es,agg,ts++[.val (r i)]⟩)) al):wc P c x Q g h al:=fun a w ⟨η,s⟩=>by
 obtain ⟨q1,q2,⟨p1,_,_,_,p5⟩,_⟩:=s.key k _ hk;have hc:0 < η.c k:=by simp at p1;omega
 obtain ⟨cs,c1,c2,c3⟩:=p5 hc;have hl:=c3 ts.length (.val t) (by simp);obtain ⟨i,hi,hr⟩:=hle _ _ _ hl;have hsup: ∀j∈(ts++[Ent.val (r i)]).flatMap Ent.supp,al j=true:=fun j hj=>by
  rw [zfk,zbj] at hj;rcases hj with hj | hj
  ·exact q2 j (by simp only [HEnt.supp,zfk,zbj];exact .inl hj)
  ·simp [Ent.supp] at hj
 refine H i hi a w ⟨η,s.rekey hk (by simp) hsup fun cs' j e' hcs hj=> ?_⟩;rcases zcs j ts.length with hlt | hge
 ·rw [zda hlt] at hj;exact ⟨e',by rw [zda hlt];exact hj,id⟩
 ·have hjl:=(zbi.1 hj).1;have e1:j=ts.length:=by simp at hjl;omega
  subst e1;simp only [zds (zbm _),Nat.sub_self,zcm,zca] at hj;subst hj;rw [c1] at hcs;cases hcs;exact ⟨.val t,by simp,fun _=>hr⟩
end
structure Kw where
  p:Dom->World->Prop
  mono: ∀{F F':Dom} {w w':World},p F w->Keep F F' w w'->p F' w'
def tKG (K:Kw) (t:Ty):Ty:=⟨fun F w v=>t.p F w v/\K.p F w,fun h hk=>⟨t.mono h.1 hk,K.mono h.2 hk⟩⟩
def tK (K:Kw):Ty:=⟨fun F w _=>K.p F w,fun h hk=>K.mono h hk⟩
instance {K:Kw} {t:Ty} {n:Nat} {agg:Bool} [h:Shape t n agg]:Shape (tKG K t) n agg:=⟨fun hp=>h.flat hp.1⟩
section
variable {P:Program} {c:Base} {g:Slots} {h:Keys} {al:Names} {d ty:Nat} {pos:String} {af:Array Edge} {gd:Option (Nat×Bool)} {Q:Exit->Act->World->Prop}
end
section
variable {P:Program} {c:Base} {d ty:Nat} {pos:String} {af:Array Edge} {gd:Option (Nat×Bool)}
end
section
variable {P:Program} {c:Base} {g:Slots} {h:Keys} {al:Names} {Q:Exit->Act->World->Prop}
end
section
variable {P:Program} {c:Base} {d ty:Nat} {pos:String} {af:Array Edge} {gd:Option (Nat×Bool)}
end
section
variable {P:Program} {c:Base} {g:Slots} {h:Keys} {al:Names} {Q:Exit->Act->World->Prop}
end
section
variable {P:Program} {c:Base} {d ty:Nat} {pos:String} {af:Array Edge} {gd:Option (Nat×Bool)}
end
end An
namespace An.S
open Go Go.Proofs An Tryz
theorem xo7 {ι:Type} {I:ι->Prop} {r:ι->Ty} (i:ι) (h:I i):Le (r i) (tEx I r):=fun _ _ _ hp=>⟨i,h,hp⟩
theorem SepH.nil:SepH []:=List.Pairwise.nil
theorem NewH.nil {n:Nat}:NewH n []:=fun _ hu=>by cases hu
theorem SepH.one {u:Hd}:SepH [u]:=List.pairwise_singleton _ _
theorem zh3 {n:Nat} {u v:Hd} (h1:OldH n [u]) (h2:NewH n [v]):SepH [u,v]:=SepH.app (us:=[u]) (vs:=[v]) SepH.one SepH.one h1 h2
abbrev tWhX (x:Wh) (u:Hd):Ty:=tS [⟨1,false,tB x.neg⟩,⟨1,false,tLmX 64 u x.l⟩]
abbrev tFrX (f:Fr) (n d:Hd):Ty:=tS [⟨2,true,tWhX f.n n⟩,⟨2,true,tWhX f.d d⟩]
theorem q9 {x:Wh} {u:Hd}:Le (tWhX x u) (tWh x):=Le.tS ⟨⟨rfl,rfl,zao⟩,⟨rfl,rfl,lmX_le⟩,trivial⟩
theorem ye8 {f:Fr} {n d:Hd}:Le (tFrX f n d) (tFr f):=Le.tS ⟨⟨rfl,rfl,q9⟩,⟨rfl,rfl,q9⟩,trivial⟩
structure Zt where
  s:Tst
  n:Hd
  d:Hd
def hds (zs:List Zt):List Hd:=zs.flatMap fun z=>[z.n,z.d]
end An.S
namespace An
open Go
theorem ji9 {P:Program} {c:Base} {g:Slots} {h:Keys} {al:Names} {Q:Exit->Act->World->Prop} {A:Array Oper} {rest:List Oper} {t k T es off len:Nat} {agg:Bool} {ts:List Ent} {α:Type} {f:α->Ty} {xs:List α} (hg:g t=some (.own (.sl k es off len))) (hk:h k=some ⟨T,es,agg,ts⟩) (hlb:NoLb c)
  (hts:(ts.drop off).take len=xs.map fun x=> .val (f x)) (hl:xs.length=len) (H:wl P c A Q rest (upd g t (some (.val (tL es agg f xs)))) (upd h k none) al):wl P c A Q rest g h al:=fun a w ⟨η,s⟩=>by
 have h2:=s.give hk hlb hts hl (s.slot t _ hg).2.2;have s2:=(s.drop k).put (s.slot t _ hg).1 (e:= .val (tL es agg f xs)) h2 fun j hj=>by cases hj
 refine H a w ⟨η,?_⟩;have e:a.put (some t) (a.tmps.getD t undef)=a:=by
  have hlt:t < a.tmps.size:=by rw [s.tn];exact (s.slot t _ hg).1
  have:a.tmps.setIfInBounds t (a.tmps.getD t undef)=a.tmps:=by
   apply zdp;intro i;rw [zdy];by_cases hi:t=i
   ·subst hi;simp [hlt]
   ·simp [hi]
  simp only [Act.put,this]
 rwa [e] at s2
theorem qs1 {c:Base} {g:Slots} {h:Keys} {al:Names} {t k T len:Nat} {ts:List Ent} {l:List Nat} (hg:g t=some (.own (.sl k 1 0 len))) (hk:h k=some ⟨T,1,false,ts⟩) (hlb:NoLb c)
  (hts:ts.take len=rW .u16 l) (hl:l.length=len) (a:Act) (w:World) (hs:St c g h al a w): ∃u,NewH c.w0.heap.size [u]/\St c (upd g t (some (.val (tLmX T u l)))) (upd h k none) al a w:=by
 obtain ⟨η,s⟩:=hs;subst hl;obtain ⟨A0,q1,q2,q3⟩:=(s.slot t _ hg).2.2;obtain ⟨_,_,⟨h6,h7,h8,h9,h10⟩,h11⟩:=s.key k _ hk;simp only [Nat.sub_zero,zcj,zfa] at q1 q2 q3;simp only at h9 h10;have hnew:0 < η.c k->c.w0.heap.size<=η.b k:=fun hc=>((h11 hc).1).resolve_right (hlb _);refine ⟨⟨A0,l.length,η.c k⟩,fun u' hu b hb=> ?_,⟨η,?_⟩⟩
 ·cases zbq.1 hu;by_cases hc:0 < η.c k
  ·simp only [Hd.b,q3 hc,if_pos hc,zca] at hb;subst hb;exact hnew hc
  ·cases A0 <;> simp [Hd.b,hc] at hb
 have hv:(tLmX T ⟨A0,l.length,η.c k⟩ l).p (c.dom (upd h k none) η) w (a.tmps.getD t undef):=by
  refine ⟨q1,rfl,q2,h9,fun hc=> ?_⟩;obtain ⟨cs,m1,m2,m3⟩:=h10 hc;obtain ⟨d1,d2,d3⟩:=h11 hc;refine ⟨η.b k,cs,q3 hc,⟨.inl (hnew hc),?_,d2,d3⟩,m1,by rw [m2];simp,fun i x hi=> ?_⟩
  ·rintro ⟨j,y,hj,hcj,e⟩;by_cases hjk:j=k
   ·subst hjk;rw [x6] at hj;cases hj
   ·rw [x4 _ _ _ hjk] at hj;exact s.inj j k y _ hj hk hjk hcj hc e.symm
  ·have hil:i < l.length:=(zbi.1 hi).1;have ht:ts[i]? =some (.val (tE (.int .u16 (x:Int)))):=by
    have:(ts.take l.length)[i]? =some (.val (tE (.int .u16 (x:Int)))):=by rw [hts];simp [rW,hi]
    rwa [List.getElem?_take,if_pos hil] at this
   have hm:pick false 1 cs (i*1)= .int .u16 (x:Int):=m3 i _ ht;simpa [pick] using hm
 have s2:=(s.drop k).put (s.slot t _ hg).1 (e:= .val (tLmX T ⟨A0,l.length,η.c k⟩ l)) hv fun j hj=>by cases hj
 have e:a.put (some t) (a.tmps.getD t undef)=a:=by
  have hlt:t < a.tmps.size:=by rw [s.tn];exact (s.slot t _ hg).1
  have:a.tmps.setIfInBounds t (a.tmps.getD t undef)=a.tmps:=by
   apply zdp;intro i;rw [zdy];by_cases hi:t=i
   ·subst hi;simp [hlt]
   ·simp [hi]
  simp only [Act.put,this]
 rwa [e] at s2
theorem yz6 {P:Program} {c:Base} {g:Slots} {h:Keys} {al:Names} {Q:Exit->Act->World->Prop} {A:Array Oper} {rest:List Oper} {t k T len:Nat} {ts:List Ent} {l:List Nat} (hg:g t=some (.own (.sl k 1 0 len))) (hk:h k=some ⟨T,1,false,ts⟩) (hlb:NoLb c)
  (hts:ts.take len=rW .u16 l) (hl:l.length=len) (H: ∀u,NewH c.w0.heap.size [u]->wl P c A Q rest (upd g t (some (.val (tLmX T u l)))) (upd h k none) al):wl P c A Q rest g h al:=fun a w hs=>by
 obtain ⟨u,h1,h2⟩:=qs1 hg hk hlb hts hl a w hs;exact H u h1 a w h2
section
variable {P:Program} {c:Base} {g:Slots} {h:Keys} {al:Names} {A:Array Oper} {Q:Exit->Act->World->Prop} {rest:List Oper} {d ty:Nat} {pos:String} {af:Array Edge}
theorem xt7 {rr:Nat->Ty} {f:FuncId} {xs:List Operand} {aT:Array TypeId} {ts us:List Ty} (hs:List Hd) (hc:CtN P f us rr) (hf:FnI P f) (hle:LeL ts us) (hl:xs.length=ts.length) (hr:Rd g (xs.zip (ts.map Ent.val))) (hw:WitSt c g h hs) (hdN:Nat.blt d c.N=true)
  (H: ∀n,c.w0.heap.size<=n->OldH n hs->wl P c A Q rest (upd g d (some (.val (rr n)))) h al):
  wl P c A Q (⟨some d,.call {callee:= .value (.func f),args:=xs.toArray,argTypes:=aT},ty,pos,af,none⟩::rest) g h al:=by
 rintro a w ⟨η,s⟩;unfold wpListIn;rw [if_pos (by rfl)];obtain ⟨fn,h1,h2,h3⟩:=hf;have hargs:=hle.all (Tup.all_of s xs ts hr hl);have hrun:(execOp a.eval ⟨some d,.call {callee:= .value (.func f),args:=xs.toArray,argTypes:=aT},ty,pos,af,none⟩).run P w= .ok (.enter f (xs.map a.eval).toArray) w:=by
  simp only [execOp,resolve,Act.eval,Deferred.ofValue,zbu,zbv,zbo,invoke];simp only [zeu,zef,zdn];exact xe7 h1 h2 h3 _ w
 refine xh4 hrun (zfc (hc _ w (xs.map a.eval) hargs) ?_);rintro e w' ⟨v,rfl,hext,hv⟩;refine ⟨v,rfl,H w.heap.size s.fr.size (fun u hu b hb=>(hw al a w η s u hu b hb).2) _ _ ⟨η,(s.ext hext).put (by simpa using hdN) (e:= .val (rr w.heap.size)) ((rr w.heap.size).mono hv fun b o hb hl _=>⟨?_,hl⟩) (fun k hk=>by cases hk)⟩⟩;rcases hb with hb | hb
 ·exact yv6 s hb
 ·exact hb
theorem ex_aux {t:Nat} {ι:Type} {I:ι->Prop} {r:ι->Ty} (hg:g t=some (.val (tEx I r))) (a:Act) (w:World) (hs:St c g h al a w): ∃i,I i/\St c (upd g t (some (.val (r i)))) h al a w:=by
 obtain ⟨η,s⟩:=hs;obtain ⟨hN,_,i,hI,hv⟩:=s.slot t _ hg;have s2:=s.put hN (e:= .val (r i)) hv fun j hj=>by cases hj
 have e:a.put (some t) (a.tmps.getD t undef)=a:=by
  have hlt:t < a.tmps.size:=by rw [s.tn];exact hN
  have:a.tmps.setIfInBounds t (a.tmps.getD t undef)=a.tmps:=by
   apply zdp;intro i;rw [zdy];by_cases hi:t=i
   ·subst hi;simp [hlt]
   ·simp [hi]
  simp only [Act.put,this]
 rw [e] at s2;exact ⟨i,hI,η,s2⟩
theorem yt8 {t:Nat} {ι:Type} {I:ι->Prop} {r:ι->Ty} (hg:g t=some (.val (tEx I r))) (H: ∀i,I i->wl P c A Q rest (upd g t (some (.val (r i)))) h al):wl P c A Q rest g h al:=fun a w hs=>by
 obtain ⟨i,h1,h2⟩:=ex_aux hg a w hs;exact H i h1 a w h2
end
end An
namespace An.S
open Go Go.Proofs An Tryz
theorem zg4 {T:Nat}:Le (tE (.slice none 0 0)) (tLmX T ⟨none,0,0⟩ []):=fun _ _ _ h=>⟨h,rfl,zbm _,by decide,fun h=>absurd h (Nat.lt_irrefl _)⟩
theorem NewH.none {n:Nat}:NewH n [(⟨none,0,0⟩:Hd)]:=fun u hu b hb=>by cases zbq.1 hu;cases hb
theorem jg8 {xs:List Nat} {n:Nat}:(rW .u16 xs).take n=rW .u16 (xs.take n):=by rw [rW,rW,List.map_take]
theorem qf8 {xs:List Nat} {n:Nat} (h:xs.length=n):(rW .u16 xs).take n=rW .u16 xs:=by subst h;exact List.take_of_length_le (by rw [xp6];exact zbm _)
theorem whZ {F:Dom} {w:World}:(tS [⟨1,false,tE (.bool false)⟩,⟨1,false,tE (.slice none 0 0)⟩]).p F w (.agg #[.bool false,.slice none 0 0]):=⟨_,rfl,rfl,⟨fun _=>rfl,rfl⟩,⟨fun _=>rfl,rfl⟩,trivial⟩
abbrev tWhE (nw:Nat) (x:Wh):Ty:=tEx (fun u=>NewH nw [u]) (fun u=>tWhX x u)
theorem whE {nw:Nat} {x:Wh} {u:Hd} (hu:NewH nw [u]):Le (tWhX x u) (tWhE nw x):=xo7 (I:=fun u=>NewH nw [u]) (r:=fun u=>tWhX x u) u hu
theorem zk8 (p:Bool) (v:Nat) (h:(dig 4294967296 v).length<=100000):
  CtN Tryz.prog 333 [tB p,tN v] (fun nw=>tWhE nw (wh (sgn p v))):=by
 refine CtN.intro func333 rfl ntmps333 rfl ?_;intro w F;refine A2 ?_;refine RE (xa3 (k:=4) (n:=2) (agg:=true) zr39.1 zr39.2 rfl) trivial trivial qA ?_;refine A5 ?_;refine R1 (x3 (qi1 _) fi335 rfl) rfl ?_;refine A11 ?_;refine xa6 rfl (fun h37=> ?_) (fun h37=> ?_)
 ·
  have hv0:v=0:=(xe2 xa2).1 (zco.1 (by omega));subst hv0;refine A2 ?_;refine R0 (xq9 (r:=tS [⟨1,false,tE (.bool false)⟩,⟨1,false,tE (.slice none 0 0)⟩]) (ts:=[]) bu39 (fun _ _=>whZ) ⟨_,rfl⟩ rfl zao) ?_;refine A5 ?_;exact EC rfl ⟨_,_,_,_,_,rfl,rfl,ti39,(zav (u:=tWhX (wh (sgn p 0)) ⟨none,0,0⟩) (Le.tS ⟨⟨rfl,rfl,zau (by rw [xs1,xc4];simp)⟩,⟨rfl,rfl,zav zg4 (Le.of (by rw [xs1,xc4]))⟩,trivial⟩) (whE NewH.none))⟩
 ·
  have hv0:0 < v:=by
   rcases zcg v with h' | h'
   ·subst h';rw [xc4] at h37;simp at h37
   ·exact h'
  refine A6 ?_;refine R2 (xj0 zah) rfl rfl (RE (xe5 (k:=17) (t:=tE (.int .u16 0)) (ts:=rW .u16 (List.replicate (2*(dig 4294967296 v).length) 0)) (2*(dig 4294967296 v).length) (2*(dig 4294967296 v).length) zgr el64 (fun _ _=>rfl) rfl (by omega) (by omega) (zbm _) (by omega) (by omega) (xp5 _)) qB trivial qA ?_);refine A12 ?_;refine cL (fun (fm:(Nat)×(List Nat))=>(fun (i:Nat) (ls:List Nat)=>i<=(dig 4294967296 v).length/\ls.length=2*(dig 4294967296 v).length/\ls.take (2*i)=dgs 65536 (2*i) v) fm.1 fm.2) (wB fun (i:Nat) (ls:List Nat)=>uV (uV (uV (uO (uO (uV uN 0 (tB p)) 4 (.ptr 4 0)) 5 (.sl 17 1 0 (2*(dig 4294967296 v).length))) 18 (tN v)) 19 (tI (dig 4294967296 v).length)) 20 (tI i)) (wB fun (i:Nat) (ls:List Nat)=>uK (uK uN 4 39 2 true [.val (tWh ⟨false,[]⟩)]) 17 64 1 false (rW .u16 ls)) [4,17] (fun (fm:(Nat)×(List Nat))=>(fun (i:Nat) (ls:List Nat)=>(dig 4294967296 v).length - i) fm.1 fm.2) ((0,List.replicate (2*(dig 4294967296 v).length) 0)) (by dsimp only;exact ⟨zbs _,by simp,rfl⟩) ?_;intro fm hI;obtain ⟨i,ls⟩:=fm;replace hI:i<=(dig 4294967296 v).length/\ls.length=2*(dig 4294967296 v).length/\ls.take (2*i)=dgs 65536 (2*i) v:=hI;show wc _ _ _ _ (uV (uV (uV (uO (uO (uV uN 0 (tB p)) 4 (.ptr 4 0)) 5 (.sl 17 1 0 (2*(dig 4294967296 v).length))) 18 (tN v)) 19 (tI (dig 4294967296 v).length)) 20 (tI i)) (uK (uK uN 4 39 2 true [.val (tWh ⟨false,[]⟩)]) 17 64 1 false (rW .u16 ls)) _;obtain ⟨hi,hl,ht⟩:=hI;have hx:=xc1 xa2 v i;have hxW:=(xc3 xa2 v).getD (by decide) i;refine A6 ?_;refine xa6 rfl (fun h41=> ?_) (fun h41=> ?_)
  ·
   refine A7 ?_;refine R2 (x8 sl233 (i) (by omega) (gN (by omega))) rfl rfl ?_;refine A9 ?_;refine R2 (xj0 zah) rfl rfl ?_;refine A1 ?_;refine R1 (x9 zgv (isS zgu) cut16) rfl (R2 (zag sl37 rfl) rfl rfl (RE (xa8 (2*i) ti64 (xj2 (by omega)) (by omega) (xh1 (m:=_) rfl)) qB qA trivial ?_));refine A5 ?_;refine R2 (xj0 zah) rfl rfl ?_;refine A2 ?_;refine R2 (xj1 (by decide) (shrN (s:=16) rfl (by decide))) rfl rfl (R1 (x9 zgv (isS zgu) (wu16 (by omega) (by omega))) rfl (R2 (zag sl37 rfl) rfl rfl (RE (xa8 (2*i+1) ti64 (xj2 (by rw [zdx];omega)) (by omega) (xh1 (m:=_) rfl)) qB qA trivial ?_)));refine A7 ?_;obtain ⟨n1,n2⟩:=zo4 (by omega) hl ht;rw [<-hx] at n1 n2;exact kF ((i+1,(ls.set (2*i) ((dig 4294967296 v).getD i 0%65536)).set (2*i+1) ((dig 4294967296 v).getD i 0 / 2 ^ 16))) ⟨(by dsimp only;exact ⟨by omega,n1,n2⟩),(by dsimp only;omega)⟩
  ·
   have him:i=(dig 4294967296 v).length:=by omega
   subst him;obtain ⟨e1,e2,e3⟩:=za5 rfl hv0 hl ht;refine A12 ?_;refine R2 (zag sl37 rfl) rfl rfl (RE (x7 (2*(dig 4294967296 v).length - 1) ti64 (xo6 (by omega)) (by omega)) qA qA trivial ?_);refine A3 ?_;refine xa6 rfl (fun h45=> ?_) (fun h45=> ?_)
   ·
    refine A5 ?_;refine R2 (xv9 sl37 (2*(dig 4294967296 v).length - 1) (by omega) (by omega) rfl) rfl rfl ?_;refine A4 ?_;refine xe3 ?_;refine xa5 xa4 qA trivial trivial rfl ?_;refine yz6 (t:=5) (k:=17) (T:=64) (l:=ls.take (2*(dig 4294967296 v).length - 1)) rfl rfl (fun _ h=>h) jg8 (by rw [zcz];omega) (fun u hu=> ?_);refine xa5 xa4 qA trivial trivial rfl (xa5 (xb7 (r:=tS [⟨1,false,tB p⟩,⟨1,false,tLmX 64 u (ls.take (2*(dig 4294967296 v).length - 1))⟩]) (ts:=[(0,tB p),(1,tLmX 64 u (ls.take (2*(dig 4294967296 v).length - 1)))]) bu39 zr39.2 (Bc 0 rfl rfl rfl (Bc 1 rfl rfl rfl zao))) qB trivial trivial rfl (xa5 (xa8 (es:=2) (agg:=true) (0) ti39 rfl rfl rfl) qB qA trivial rfl (xd1 ?_)));refine A2 ?_;exact EC rfl ⟨_,_,_,_,_,rfl,rfl,ti39,(zav (Le.of (by rw [xs1,e1 (by omega),zbg (show v≠0 by omega),Bool.and_true])) (whE hu))⟩
   ·
    refine A3 ?_;refine xe3 ?_;refine xa5 xa4 qA trivial trivial rfl ?_;refine yz6 (t:=5) (k:=17) (T:=64) (l:=ls) rfl rfl (fun _ h=>h) (qf8 hl) hl (fun u hu=> ?_);refine xa5 xa4 qA trivial trivial rfl (xa5 (xb7 (r:=tS [⟨1,false,tB p⟩,⟨1,false,tLmX 64 u ls⟩]) (ts:=[(0,tB p),(1,tLmX 64 u ls)]) bu39 zr39.2 (Bc 0 rfl rfl rfl (Bc 1 rfl rfl rfl zao))) qB trivial trivial rfl (xa5 (xa8 (es:=2) (agg:=true) (0) ti39 rfl rfl rfl) qB qA trivial rfl (xd1 ?_)));refine A2 ?_;exact EC rfl ⟨_,_,_,_,_,rfl,rfl,ti39,(zav (Le.of (by rw [xs1,e2 (by omega),zbg (show v≠0 by omega),Bool.and_true])) (whE hu))⟩
theorem zc8 {m n:Nat} {x y:Wh} (h:m<=n) (e:x=y):Le (tWhE n x) (tWhE m y):=by
 subst e;exact fun _ _ _ ⟨u,hu,hp⟩=>⟨u,hu.le h,hp⟩
theorem whE_wh {n:Nat} {x:Wh}:Le (tWhE n x) (tWh x):=tEx_le fun _ _=>q9
theorem qr9 (x y:Int) (hx:len16 x<=1024) (hy:len16 y<=1024) (hy0:0 < y):
  CtN Tryz.prog 285 [tWh (wh x),tWh (wh y)] (fun nw=>tT [tWhE nw (wh (x / y)),tWh (wh (x%y)),tI 0]):=by
 have hx32:=len32_le hx;have hy32:=len32_le hy;have hq32:(dig 4294967296 (x.natAbs / y.natAbs)).length<=1024:=zce (xd4 xa2 (Nat.div_le_self _ _)) hx32;have hrl:x.natAbs%y.natAbs < y.natAbs:=zcd _ (by omega);have hr32:(dig 4294967296 (x.natAbs%y.natAbs)).length<=1024:=zce (xd4 xa2 (zfv hrl)) hy32;have hs32:(dig 4294967296 (y.natAbs - x.natAbs%y.natAbs)).length<=1024:=zce (xd4 xa2 (Nat.sub_le _ _)) hy32;have hq1:=zg9 (k:=1024) (m:=x.natAbs / y.natAbs) (n:=1) hq32 (zce qf4 (by decide));have ey:(wh y).neg=false:=zbf (by omega);have ex:(wh x).neg=decide (x < 0):=rfl;refine CtN.intro func285 rfl ntmps285 rfl ?_;intro w F;refine A4 ?_;refine RE (xa3 (k:=4) (n:=2) (agg:=true) zr39.1 zr39.2 rfl) trivial trivial qA (RE (xa3 (k:=5) (n:=2) (agg:=true) zr39.1 zr39.2 rfl) trivial trivial qA ?_);refine A8 ?_;refine R2 (xb6 (n:=2) (f:=tWh) [wh x,wh y] zha el39 zf39 rfl (fun _=>inferInstance) rfl rfl rfl) rfl rfl (R1 (x3 (xn6 x y hx hy) fi212 rfl) rfl ?_);refine A15 ?_;refine xi9 rfl (zbf (by (intro h;have h2:(wh y).l.length=0:=(by omega);have h3:y.natAbs=0:=(xe2 xa0).1 (zco.1 h2);omega))) ?_;refine A6 ?_;refine R1 (x3 (xk8 (Int.natAbs y) (by show len16 y<=1000000;omega)) fi214 rfl) rfl ?_;refine A7 ?_;refine R1 (x3 (xk8 (Int.natAbs x) (by show len16 x<=1000000;omega)) fi214 rfl) rfl ?_;refine A1 ?_;refine R2 (x3 (yn7 x.natAbs y.natAbs (by omega) (by omega) (by omega)) fi336 rfl) rfl rfl ?_;refine A7 ?_;refine xh3 (fun (fm:(Nat)×(Nat))=>(fun (Q:Nat) (R:Nat)=>(sgn (!((wh x).neg==(wh y).neg)) Q=x / y/\sgn (wh y).neg R=x%y)/\(dig 4294967296 Q).length<=1025/\(dig 4294967296 R).length<=1024) fm.1 fm.2) (wB fun (Q:Nat) (R:Nat)=>uV (uV (uO (uO (uO (uO uN 2 (.ptr 2 0)) 3 (.ptr 3 0)) 4 (.ptr 4 0)) 5 (.ptr 5 0)) 8 (tN Q)) 9 (tN R)) (wB fun (Q:Nat) (R:Nat)=>uK (uK (uK (uK uN 2 39 2 true [.val (tWh (wh x))]) 3 39 2 true [.val (tWh (wh y))]) 4 39 2 true [.val (tWh ⟨false,[]⟩)]) 5 39 2 true [.val (tWh ⟨false,[]⟩)]) (nm [2,3,4,5]) ?_ ?_
 ·
  refine A8 ?_;refine RGcase (t:=39) rfl (fun h140=> ?_) (fun h140=> ?_)
  ·
   have hxn:decide (x < 0)=true:=by have h:=h140;rw [ey,ex] at h;simpa using h
   refine A6 ?_;refine xa6 rfl (fun h140_2=> ?_) (fun h140_2=> ?_)
   ·
    have hr0:x.natAbs%y.natAbs≠0:=fun h=>by rw [h,xc4] at h140_2;simp at h140_2
    refine A3 ?_;refine R1 (xm7 (n:=1) [1] zgs el284 zf284 rfl rfl rfl) rfl (R2 (x3 (zo3 _ (by omega)) fi337 rfl) rfl rfl ?_);refine A6 ?_;refine R2 (x3 (yv1 y.natAbs (x.natAbs%y.natAbs) (by omega) (by omega)) fi338 rfl) rfl rfl ?_;refine A2 ?_;exact kF ((x.natAbs / y.natAbs+1,y.natAbs - x.natAbs%y.natAbs)) (by dsimp only;exact ⟨xu4 hy0 ⟨fun _=>⟨rfl,rfl⟩,fun h=>(h ⟨hxn,hr0⟩).elim⟩,hq1,hs32⟩)
   ·
    have hr0:x.natAbs%y.natAbs=0:=(xe2 xa2).1 (zco.1 (by omega));refine A1 ?_;exact kF ((x.natAbs / y.natAbs,x.natAbs%y.natAbs)) (by dsimp only;exact ⟨xu4 hy0 ⟨fun h=>(h.2 hr0).elim,fun _=>⟨rfl,rfl⟩⟩,by omega,hr32⟩)
  ·
   have hxn: ¬decide (x < 0)=true:=by have h:=h140;rw [ey,ex] at h;simpa using h
   refine A8 ?_;exact kF ((x.natAbs / y.natAbs,x.natAbs%y.natAbs)) (by dsimp only;exact ⟨xu4 hy0 ⟨fun h=>(hxn h.1).elim,fun _=>⟨rfl,rfl⟩⟩,by omega,hr32⟩)
 ·
  intro fm hj;obtain ⟨Q,R⟩:=fm;replace hj:(sgn (!((wh x).neg==(wh y).neg)) Q=x / y/\sgn (wh y).neg R=x%y)/\(dig 4294967296 Q).length<=1025/\(dig 4294967296 R).length<=1024:=hj;show wc _ _ _ _ (uV (uV (uO (uO (uO (uO uN 2 (.ptr 2 0)) 3 (.ptr 3 0)) 4 (.ptr 4 0)) 5 (.ptr 5 0)) 8 (tN Q)) 9 (tN R)) (uK (uK (uK (uK uN 2 39 2 true [.val (tWh (wh x))]) 3 39 2 true [.val (tWh (wh y))]) 4 39 2 true [.val (tWh ⟨false,[]⟩)]) 5 39 2 true [.val (tWh ⟨false,[]⟩)]) _;obtain ⟨⟨hQ,hR⟩,hQl,hRl⟩:=hj;refine A8 ?_;refine R2 (yj8 (ts:=[_,_]) (r:=tWhE w.heap.size _) (zk8 (!((wh x).neg==(wh y).neg)) Q (by omega)) fi333 (fun m hm=>zc8 hm rfl) ⟨zao,zao,trivial⟩ rfl) rfl rfl ?_;refine A3 ?_;refine R2 (yj8 (ts:=[_,_]) (r:=tWhE w.heap.size _) (zk8 (wh y).neg R (by omega)) fi333 (fun m hm=>zc8 hm rfl) ⟨zao,zao,trivial⟩ rfl) rfl rfl ?_;refine A6 ?_;exact EN (rs:=[.cell 4 39,.cell 5 39,.tmp 6]) rfl rfl ⟨⟨_,_,_,_,_,rfl,rfl,ti39,(zc8 (zbm _) (by rw [hQ]))⟩,⟨_,_,_,_,_,rfl,rfl,ti39,(zav whE_wh (Le.of (by rw [hR])))⟩,⟨_,rfl,zao⟩,trivial⟩
theorem zf2 (n:Int) (h1: -9223372036854775808<=n) (h2:n<=9223372036854775807):
  CtN Tryz.prog 134 [tI n] (fun nw=>tWhE nw (wh n)):=by
 refine CtN.intro func134 rfl ntmps134 rfl ?_;intro w F;refine A2 ?_;refine RE (xa3 (k:=2) (n:=2) (agg:=true) zr39.1 zr39.2 rfl) trivial trivial qA ?_;refine A5 ?_;refine R1 (x9 zgw (isS zgz) toU64) rfl ?_;refine A3 ?_;refine xh3 (fun (v:Nat)=>v=n.natAbs) (fun (v:Nat)=>uV (uO (uV uN 0 (tI n)) 2 (.ptr 2 0)) 3 (tE (.int .u64 ((v:Nat):Int)))) (fun (v:Nat)=>uK uN 2 39 2 true [.val (tWh ⟨false,[]⟩)]) (nm [2]) ?_ ?_
 ·
  refine A6 ?_;refine xa6 rfl (fun h48=> ?_) (fun h48=> ?_)
  ·
   refine A2 ?_;refine R1 (yb4 (negU64 (by omega))) rfl ?_;refine A2 ?_;exact kF ((18446744073709551616 - (n%18446744073709551616).toNat)%18446744073709551616) (by omega)
  ·
   refine A1 ?_;exact kF ((n%18446744073709551616).toNat) (by omega)
 ·
  intro v hv;refine A2 ?_;refine RE (zz8 (k:=4) (len:=4) (u:= .int .u16 0) underlying236 (z:= .agg #[.int .u16 0,.int .u16 0,.int .u16 0,.int .u16 0]) (by kernel_rfl) rfl rfl) trivial trivial qA ?_;refine A14 ?_;refine cL (fun (fm:(Nat)×(List Nat)×(Nat))=>(fun (i:Nat) (ls:List Nat) (c:Nat)=>i<=4/\ls.length=4/\ls.take i=dgs 65536 i v/\c=(dig 65536 (v%65536 ^ i)).length) fm.1 fm.2.1 fm.2.2) (wC fun (i:Nat) (ls:List Nat) (c:Nat)=>uV (uV (uO (uV (uO (uV uN 0 (tI n)) 2 (.ptr 2 0)) 3 (tE (.int .u64 ((v:Nat):Int)))) 4 (.ptr 4 0)) 5 (tI c)) 13 (tI i)) (wC fun (i:Nat) (ls:List Nat) (c:Nat)=>uK (uK uN 2 39 2 true [.val (tWh ⟨false,[]⟩)]) 4 236 1 false (rW .u16 ls)) [2,4] (fun (fm:(Nat)×(List Nat)×(Nat))=>(fun (i:Nat) (ls:List Nat) (c:Nat)=>4 - i) fm.1 fm.2.1 fm.2.2) ((0,[0,0,0,0],0)) (by dsimp only;exact ⟨by omega,rfl,rfl,by rw [zeg,zfo,xc4];rfl⟩) ?_;intro fm hI;obtain ⟨i,ls,c⟩:=fm;replace hI:i<=4/\ls.length=4/\ls.take i=dgs 65536 i v/\c=(dig 65536 (v%65536 ^ i)).length:=hI;show wc _ _ _ _ (uV (uV (uO (uV (uO (uV uN 0 (tI n)) 2 (.ptr 2 0)) 3 (tE (.int .u64 ((v:Nat):Int)))) 4 (.ptr 4 0)) 5 (tI c)) 13 (tI i)) (uK (uK uN 2 39 2 true [.val (tWh ⟨false,[]⟩)]) 4 236 1 false (rW .u16 ls)) _;obtain ⟨hi,hl,ht,hc⟩:=hI;obtain ⟨k1,k2⟩:=zd4 hc;have hcl:c<=i:=by rw [hc];exact (xb3 xa0 _ _).2 (zcd _ (zcu (by decide)))
  refine A6 ?_;refine xa6 rfl (fun h53=> ?_) (fun h53=> ?_)
  ·
   refine A15 ?_;refine R2 (xj0 zah) rfl rfl (R2 (xj1 (by omega) (shrN (s:=16*i) (by omega) (by show 16*i<=64;omega))) rfl rfl (R1 (x9 zgv (isS zgw) cut16) rfl (R2 (yn2 ar236 (by omega) (by omega) rfl) rfl rfl (RE (xa8 (i) ti64 (xj2 (by omega)) (by omega) (xh1 (m:=_) rfl)) qB qA trivial ?_))));refine A5 ?_;refine R2 (yn2 ar236 (by omega) (by omega) rfl) rfl rfl (RE (x7 (i) ti64 (xo6 (by rw [zdx];omega)) (by omega)) qA qA trivial ?_);refine A3 ?_;refine xa6 rfl (fun h55=> ?_) (fun h55=> ?_)
   ·
    have hd:(ls.set i (v / 2 ^ (16*i)%65536)).getD i 0=v / 65536 ^ i%65536:=by rw [xk0 (by omega),shr16i]
    refine A11 ?_;rw [hd] at h55;exact kF ((i+1,ls.set i (v / 2 ^ (16*i)%65536),i+1)) ⟨(by dsimp only;exact ⟨by omega,by simpa using hl,by rw [xi8 (by omega),ht,xj9,shr16i],k1 (by omega)⟩),(by dsimp only;omega)⟩
   ·
    have hd:(ls.set i (v / 2 ^ (16*i)%65536)).getD i 0=v / 65536 ^ i%65536:=by rw [xk0 (by omega),shr16i]
    refine A7 ?_;rw [hd] at h55;exact kF ((i+1,ls.set i (v / 2 ^ (16*i)%65536),c)) ⟨(by dsimp only;exact ⟨by omega,by simpa using hl,by rw [xi8 (by omega),ht,xj9,shr16i],k2 (by omega)⟩),(by dsimp only;omega)⟩
  ·
   refine A6 ?_;refine xe3 ?_;refine xa5 xa4 qA trivial trivial rfl (xa5 yo2 qB trivial trivial rfl (xa5 xa4 qA trivial trivial rfl (xa5 (zm9 (f:=fun n:Nat=>tE (.int .u16 n)) (ys:=ls.take c) (u:=c) ar236 (fun _ h=>h) (fun h=>by cases h) (by omega) zq3 (by rw [xp6];exact hl) (by rw [zcz];omega) rfl) qB qA trivial rfl ?_)));refine yo0 (ts:=[_]) [] (CtN.exact (zm1 (ls.take c) (by rw [zcz];omega)) rfl) fi216 ⟨zao,trivial⟩ rfl qA .nil rfl (fun u n1 hn1 _ hu=> ?_);refine xa5 (xb7 (r:=tS [⟨1,false,tB (decide (n < 0))⟩,⟨1,false,tLmX 64 u (ls.take c)⟩]) (ts:=[(0,tB (decide (n < 0))),(1,tLmX 64 u (ls.take c))]) bu39 zr39.2 (Bc 0 rfl rfl rfl (Bc 1 rfl rfl rfl zao))) qB trivial trivial rfl (xa5 (xa8 (es:=2) (agg:=true) (0) ti39 rfl rfl rfl) qB qA trivial rfl (xd1 ?_));refine A2 ?_;have hi4:i=4:=by omega
   subst hi4;have hfin:ls.take c=dig 65536 n.natAbs:=by
    rw [<-hl,zci,hl] at ht;rw [ht,ym8 (by omega),<-hv];rw [zbx (by show v < 18446744073709551616;omega)] at hc;rw [hc,xo4 xa0]
   exact EC rfl ⟨_,_,_,_,_,rfl,rfl,ti39,(zav (u:=tWhX (wh n) u) (Le.of (by rw [hfin];rfl)) (whE (hu.le hn1)))⟩
theorem zb2 (x y:Int) (hx:len16 x<=1024) (hy:len16 y<=1024) (hy0:0 < y):
  CtN Tryz.prog 222 [tWh (wh x),tWh (wh y)] (fun nw=>tT [tWhE nw (wh (x / y)),tWh (wh (x%y))]):=by
 refine CtN.intro func222 rfl ntmps222 rfl ?_;intro w F;refine A4 ?_;refine RE (xa3 (k:=4) (n:=2) (agg:=true) zr39.1 zr39.2 rfl) trivial trivial qA (RE (xa3 (k:=5) (n:=2) (agg:=true) zr39.1 zr39.2 rfl) trivial trivial qA ?_);refine A6 ?_;refine R2 (yj8 (ts:=[_,_]) (r:=tT [tWhE w.heap.size _,_,_]) (qr9 x y hx hy hy0) fi285 (fun m hm=>le_T ⟨zc8 hm rfl,zao,zao,trivial⟩) ⟨zao,zao,trivial⟩ rfl) rfl rfl ?_;refine A17 ?_;exact EN (rs:=[.cell 4 39,.cell 5 39]) rfl rfl ⟨⟨_,_,_,_,_,rfl,rfl,ti39,zao⟩,⟨_,_,_,_,_,rfl,rfl,ti39,zao⟩,trivial⟩
abbrev tTmX (f:Fr) (n d:Hd):Ty:=tS [⟨4,true,tFrX f n d⟩]
abbrev hdI (nw:Nat) (p:Hd×Hd):Prop:=NewH nw [p.1,p.2]/\SepH [p.1,p.2]
abbrev tTmE (nw:Nat) (f:Fr):Ty:=tEx (hdI nw) (fun p=>tTmX f p.1 p.2)
abbrev tFrE (nw:Nat) (f:Fr):Ty:=tEx (hdI nw) (fun p=>tFrX f p.1 p.2)
theorem hdI.le {m n:Nat} {p:Hd×Hd} (h:hdI n p) (hm:m<=n):hdI m p:=⟨h.1.le hm,h.2⟩
theorem qo9 {m n:Nat} {f:Fr} (h:m<=n):Le (tTmE n f) (tTmE m f):=fun _ _ _ ⟨p,hp,hv⟩=>⟨p,hp.le h,hv⟩
theorem tmX_le {f:Fr} {n d:Hd}:Le (tTmX f n d) (tTm f):=Le.tS ⟨⟨rfl,rfl,ye8⟩,trivial⟩
theorem zo2 (n d:Int) (hn:len16 n<=1024) (hd:len16 d<=1024) (hd0:d≠0):
  CtN Tryz.prog 201 [tWh (wh n),tWh (wh d)] (fun nw=>tTmE nw (fr (Rat.divInt n d))):=by
 refine CtN.intro func201 rfl ntmps201 rfl ?_;intro w F;refine A4 ?_;refine RE (xa3 (k:=4) (n:=4) (agg:=true) zr142.1 zr142.2 rfl) trivial trivial qA ?_;refine A2 ?_;refine xh3 (fun (fm:(Int)×(Int))=>(fun (m:Int) (e:Int)=>(0 < e/\Rat.divInt m e=Rat.divInt n d)/\len16 m<=1024/\len16 e<=1024) fm.1 fm.2) (wB fun (m:Int) (e:Int)=>uO (uO (uO uN 2 (.ptr 2 0)) 3 (.ptr 3 0)) 4 (.ptr 4 0)) (wB fun (m:Int) (e:Int)=>uK (uK (uK uN 2 39 2 true [.val (tWh (wh m))]) 3 39 2 true [.val (tWh (wh e))]) 4 142 4 true [.val (tTm fr0)]) (nm [2,3,4]) ?_ ?_
 ·
  refine A6 ?_;refine xc7 rfl (fun h86=> ?_) (fun h86=> ?_)
  ·
   refine A2 ?_;refine R1 (x3 (xr3 n (by omega)) fi204 rfl) rfl ?_;refine A1 ?_;refine R1 (x3 (xr3 d (by omega)) fi204 rfl) rfl ?_;refine A3 ?_;exact kF ((-n, -d)) (by dsimp only;exact ⟨⟨by have:=zdt h86;omega,Rat.neg_divInt_neg _ _⟩,by rw [len16_neg];exact hn,by rw [len16_neg];exact hd⟩)
  ·
   refine A1 ?_;exact kF ((n,d)) (by dsimp only;exact ⟨⟨by have:=of_decide_eq_false h86;omega,rfl⟩,hn,hd⟩)
 ·
  intro fm hj;obtain ⟨m,e⟩:=fm;replace hj:(0 < e/\Rat.divInt m e=Rat.divInt n d)/\len16 m<=1024/\len16 e<=1024:=hj;show wc _ _ _ _ (uO (uO (uO uN 2 (.ptr 2 0)) 3 (.ptr 3 0)) 4 (.ptr 4 0)) (uK (uK (uK uN 2 39 2 true [.val (tWh (wh m))]) 3 39 2 true [.val (tWh (wh e))]) 4 142 4 true [.val (tTm fr0)]) _;obtain ⟨⟨he,hq⟩,hm,hel⟩:=hj;have hg0:0 < Int.gcd m e:=Int.gcd_pos_of_ne_zero_right m (by omega);have hgl:len16 ((Int.gcd m e:Nat):Int)<=1024:=zce (len16_le (by simpa using Nat.le_of_dvd (by omega) (Int.gcd_dvd_natAbs_right m e))) hel;refine A4 ?_;refine R2 (x3 (yr5 m e hm hel) fi209 rfl) rfl rfl (RE (xa3 (k:=5) (n:=2) (agg:=true) zr39.1 zr39.2 rfl) trivial trivial qA ?_);refine A4 ?_;refine xe3 ?_;refine xa5 (x7 (0) ti39 rfl rfl) qA qA trivial rfl (xa5 (x7 (0) ti39 rfl rfl) qA qA trivial rfl ?_);refine xt7 (ts:=[_,_]) [] (zb2 m _ hm hgl (by omega)) fi222 ⟨zao,zao,trivial⟩ rfl qB .nil rfl (fun n1 hn1 ho1=> ?_);refine xa5 xa4 qA trivial trivial rfl (xa5 (xd9 rfl) qA trivial trivial rfl (xa5 (xd9 rfl) qA trivial trivial rfl ?_));refine yt8 (t:=19) rfl (fun u1 hu1=> ?_);refine xa5 (xa8 (0) ti39 rfl rfl rfl) qB qA trivial rfl (xd1 ?_);refine A2 ?_;refine xe3 ?_;refine xa5 (x7 (0) ti39 rfl rfl) qA qA trivial rfl (xa5 (x7 (0) ti39 rfl rfl) qA qA trivial rfl ?_);refine xt7 (ts:=[_,_]) [u1] (zb2 e _ hel hgl (by omega)) fi222 ⟨zao,zao,trivial⟩ rfl qB ((ItSt.key (T:=64) (k:=2) (f:=fun _:Unit=>tWhX (wh (m / ((Int.gcd m e:Nat):Int))) u1) (zs:=[()]) (us:=fun _=>[(u1,(wh (m / ((Int.gcd m e:Nat):Int))).l)]) rfl (fun _ _=> .fd 1 rfl .lm)).wit rfl) rfl (fun n2 hn2 ho2=> ?_);refine xa5 xa4 qA trivial trivial rfl (xa5 (xd9 rfl) qA trivial trivial rfl (xa5 (xd9 rfl) qA trivial trivial rfl ?_));refine yt8 (t:=25) rfl (fun u2 hu2=> ?_);refine xa5 (xa8 (0) ti39 rfl rfl rfl) qB qA trivial rfl (xd1 ?_);refine A5 ?_;refine R2 (xb7 (r:=tS [⟨2,true,tWhX (wh (m / ((Int.gcd m e:Nat):Int))) u1⟩,⟨2,true,tWhX (wh (e / ((Int.gcd m e:Nat):Int))) u2⟩]) (ts:=[(0,tWhX (wh (m / ((Int.gcd m e:Nat):Int))) u1),(1,tWhX (wh (e / ((Int.gcd m e:Nat):Int))) u2)]) bu41 zr41.2 (Bc 0 rfl rfl rfl (Bc 1 rfl rfl rfl zao))) rfl rfl (R1 (xb7 (r:=tS [⟨4,true,tFrX ⟨wh (m / ((Int.gcd m e:Nat):Int)),wh (e / ((Int.gcd m e:Nat):Int))⟩ u1 u2⟩]) (ts:=[(0,tFrX ⟨wh (m / ((Int.gcd m e:Nat):Int)),wh (e / ((Int.gcd m e:Nat):Int))⟩ u1 u2)]) bu142 zr142.2 (Bc 0 rfl rfl rfl zao)) rfl ?_);refine A4 ?_;exact EC rfl ⟨_,_,_,_,_,rfl,rfl,ti142,(zav (u:=tTmX (fr (Rat.divInt n d)) u1 u2) (Le.of (by rw [<-hq,xt1 he])) (xo7 (I:=hdI w.heap.size) (r:=fun p:Hd×Hd=>tTmX (fr (Rat.divInt n d)) p.1 p.2) (u1,u2) ⟨NewH.app (us:=[u1]) (vs:=[u2]) (hu1.le hn1) (hu2.le hn2),zh3 ho2 hu2⟩))⟩
theorem frZ {F:Dom} {w:World}:(tS [⟨2,true,tS [⟨1,false,tE (.bool false)⟩,⟨1,false,tE (.slice none 0 0)⟩]⟩,⟨2,true,tS [⟨1,false,tE (.bool false)⟩,⟨1,false,tE (.slice none 0 0)⟩]⟩]).p F w (.agg #[.bool false,.slice none 0 0,.bool false,.slice none 0 0]):=
 ⟨_,rfl,rfl,⟨fun h=>(by cases h),_,rfl,rfl,⟨fun _=>rfl,rfl⟩,⟨fun _=>rfl,rfl⟩,trivial⟩,⟨fun h=>(by cases h),_,rfl,rfl,⟨fun _=>rfl,rfl⟩,⟨fun _=>rfl,rfl⟩,trivial⟩,trivial⟩
abbrev hd0:Hd:=⟨none,0,0⟩
theorem hdI.none {n:Nat}:hdI n (hd0,hd0):=by
 refine ⟨fun u hu b hb=> ?_,zgn.2 ⟨fun v hv b hb=>(by cases hb),SepH.one⟩⟩;have e:u=hd0:=by simpa using hu
 subst e;cases hb
theorem fr0X:Le (tS [⟨2,true,tS [⟨1,false,tE (.bool false)⟩,⟨1,false,tE (.slice none 0 0)⟩]⟩,⟨2,true,tS [⟨1,false,tE (.bool false)⟩,⟨1,false,tE (.slice none 0 0)⟩]⟩]) (tFrX fr0 hd0 hd0):=
 Le.tS ⟨⟨rfl,rfl,Le.tS ⟨⟨rfl,rfl,zao⟩,⟨rfl,rfl,zg4⟩,trivial⟩⟩,⟨rfl,rfl,Le.tS ⟨⟨rfl,rfl,zao⟩,⟨rfl,rfl,zg4⟩,trivial⟩⟩,trivial⟩
theorem zf5 {nw:Nat} {f g:Fr} {n d:Hd} (h:hdI nw (n,d)) (e:f=g):Le (tFrX f n d) (tFrE nw g):=by
 subst e;exact xo7 (I:=hdI nw) (r:=fun p:Hd×Hd=>tFrX f p.1 p.2) (n,d) h
theorem qj5 (f:Fr) (n d:Hd) (nw:Nat) (hp:hdI nw (n,d)):
  Ct Tryz.prog 202 [tTmX f n d] (tT [tFrE nw (if f.sh then f else fr0),tI (if f.sh then 0 else 3)]):=by
 refine Ct.intro func202 rfl ntmps202 rfl ?_;intro w F;refine A3 ?_;refine RE (xa3 (k:=2) (n:=4) (agg:=true) zr41.1 zr41.2 rfl) trivial trivial qA ?_;refine A7 ?_;refine R1 (xb4 (ts:=[_]) (zi0 f) fi205 rfl ⟨tmX_le,trivial⟩) rfl ?_;refine A2 ?_;refine xc7 rfl (fun h46=> ?_) (fun h46=> ?_)
 ·
  have hs:f.sh=false:=by simpa using h46
  refine A2 ?_;refine R0 (xq9 (r:=tS [⟨2,true,tS [⟨1,false,tE (.bool false)⟩,⟨1,false,tE (.slice none 0 0)⟩]⟩,⟨2,true,tS [⟨1,false,tE (.bool false)⟩,⟨1,false,tE (.slice none 0 0)⟩]⟩]) (ts:=[]) bu41 (fun _ _=>frZ) ⟨_,rfl⟩ rfl zao) ?_;refine A6 ?_;exact EN (rs:=[.cell 2 41,.tmp 3]) rfl rfl ⟨⟨_,_,_,_,_,rfl,rfl,ti41,(zav fr0X (zf5 hdI.none (by rw [hs];rfl)))⟩,⟨_,rfl,(zba (by rw [hs];rfl))⟩,trivial⟩
 ·
  have hs:f.sh=true:=by simpa using h46
  refine A5 ?_;refine xj6 (0) ti41 rfl rfl rfl (At.g 0 rfl (rfl)) rfl ?_;refine A5 ?_;exact EN (rs:=[.cell 2 41,.tmp 3]) rfl rfl ⟨⟨_,_,_,_,_,rfl,rfl,ti41,(zf5 hp (by rw [hs];rfl))⟩,⟨_,rfl,(zba (by rw [hs];rfl))⟩,trivial⟩
theorem zf9 (f:Fr) (nw:Nat):Ct Tryz.prog 202 [tTmE nw f] (tT [tFrE nw (if f.sh then f else fr0),tI (if f.sh then 0 else 3)]):=fun F w vs hv=>by
 cases vs with
 | nil=>exact hv.elim
 | cons v r=>
  obtain ⟨⟨p,hp,hv1⟩,hr⟩:=hv;exact qj5 f p.1 p.2 nw hp F w (v::r) ⟨hv1,hr⟩
theorem jp8 (a b:Rat) (ha:short a) (hb:short b):
  CtN Tryz.prog 127 [tFr (fr a),tFr (fr b)] (fun nw=>tT [tFrE nw (resF (a*b)),tI (resFE (a*b))]):=by
 obtain ⟨an,ad⟩:=ha;obtain ⟨bn,bd⟩:=hb;have hbd:=b.den_nz;have had:=a.den_nz;have m1:len16 (a.num*b.num)<=256+256:=len16_mul an bn;have m2:len16 ((a.den:Int)*(b.den:Int))<=256+256:=len16_mul ad bd;have ha:short a:=⟨an,ad⟩
 have hb:short b:=⟨bn,bd⟩
 refine CtN.intro func127 rfl ntmps127 rfl ?_;intro w F;refine A4 ?_;refine RE (xa3 (k:=4) (n:=4) (agg:=true) zr41.1 zr41.2 rfl) trivial trivial qA ?_;refine A8 ?_;refine R2 (xb6 (n:=2) (f:=fun q:Rat=>tFr (fr q)) [a,b] zhc el41 zf41 rfl (fun _=>inferInstance) rfl rfl rfl) rfl rfl (R1 (x3 (xn1 [a,b] (by simp;exact ⟨ha,hb⟩)) fi131 rfl) rfl ?_);refine A12 ?_;refine R2 (x3 (xg2 (a.num) (b.num) (by omega) (by omega) (by omega)) fi133 rfl) rfl rfl ?_;refine A4 ?_;refine R2 (x3 (xg2 ((a.den:Int)) ((b.den:Int)) (by omega) (by omega) (by omega)) fi133 rfl) rfl rfl (R2 (yj8 (ts:=[_,_]) (r:=tTmE w.heap.size _) (zo2 _ _ (by omega) (by omega) xu3) fi201 (fun m hm=>qo9 hm) ⟨zao,zao,trivial⟩ rfl) rfl rfl (R1 (x3 (zf9 _ _) fi202 rfl) rfl ?_));refine A7 ?_;exact EN (rs:=[.cell 4 41,.tmp 5]) rfl rfl ⟨⟨_,_,_,_,_,rfl,rfl,ti41,(Le.of (by rw [xp1,xv2];by_cases hs:short (a*b) <;> simp [resF,hs]))⟩,⟨_,rfl,(zba (by rw [xp1,xv2];by_cases hs:short (a*b) <;> simp [resFE,hs]))⟩,trivial⟩
theorem jm8 (a b:Rat) (ha:short a) (hb:short b):
  CtN Tryz.prog 128 [tFr (fr a),tFr (fr b)] (fun nw=>tT [tFrE nw (resF (a - b)),tI (resFE (a - b))]):=by
 obtain ⟨an,ad⟩:=ha;obtain ⟨bn,bd⟩:=hb;have hbd:=b.den_nz;have had:=a.den_nz;have m1:len16 (a.num*(b.den:Int))<=256+256:=len16_mul an bd;have m2:len16 (b.num*(a.den:Int))<=256+256:=len16_mul bn ad;have m3:len16 ((a.den:Int)*(b.den:Int))<=256+256:=len16_mul ad bd;have m2n:=len16_neg (b.num*(a.den:Int));have m4:=len16_add m1 (m2n▸m2);have ha:short a:=⟨an,ad⟩
 have hb:short b:=⟨bn,bd⟩
 refine CtN.intro func128 rfl ntmps128 rfl ?_;intro w F;refine A4 ?_;refine RE (xa3 (k:=4) (n:=4) (agg:=true) zr41.1 zr41.2 rfl) trivial trivial qA ?_;refine A8 ?_;refine R2 (xb6 (n:=2) (f:=fun q:Rat=>tFr (fr q)) [a,b] zhc el41 zf41 rfl (fun _=>inferInstance) rfl rfl rfl) rfl rfl (R1 (x3 (xn1 [a,b] (by simp;exact ⟨ha,hb⟩)) fi131 rfl) rfl ?_);refine A12 ?_;refine R2 (x3 (xg2 (a.num) ((b.den:Int)) (by omega) (by omega) (by omega)) fi133 rfl) rfl rfl ?_;refine A4 ?_;refine R2 (x3 (xg2 (b.num) ((a.den:Int)) (by omega) (by omega) (by omega)) fi133 rfl) rfl rfl (R1 (x3 (xr3 (b.num*(a.den:Int)) (by omega)) fi204 rfl) rfl (R2 (x3 (yk2 (a.num*(b.den:Int)) (-(b.num*(a.den:Int))) (by omega) (by omega) (by omega)) fi203 rfl) rfl rfl ?_));refine A4 ?_;refine R2 (x3 (xg2 ((a.den:Int)) ((b.den:Int)) (by omega) (by omega) (by omega)) fi133 rfl) rfl rfl (R2 (yj8 (ts:=[_,_]) (r:=tTmE w.heap.size _) (zo2 _ _ (by omega) (by omega) xu3) fi201 (fun m hm=>qo9 hm) ⟨zao,zao,trivial⟩ rfl) rfl rfl (R1 (x3 (zf9 _ _) fi202 rfl) rfl ?_));refine A7 ?_;exact EN (rs:=[.cell 4 41,.tmp 5]) rfl rfl ⟨⟨_,_,_,_,_,rfl,rfl,ti41,(Le.of (by rw [xp1,yb1];by_cases hs:short (a - b) <;> simp [resF,hs]))⟩,⟨_,rfl,(zba (by rw [xp1,yb1];by_cases hs:short (a - b) <;> simp [resFE,hs]))⟩,trivial⟩
theorem yw8 (n:Int) (h1: -9223372036854775808<=n) (h2:n<=9223372036854775807):
  CtN Tryz.prog 51 [tI n] (fun nw=>tFrE nw (fr (n:Rat))):=by
 refine CtN.intro func51 rfl ntmps51 rfl ?_;intro w F;refine A2 ?_;refine RE (xa3 (k:=2) (n:=4) (agg:=true) zr41.1 zr41.2 rfl) trivial trivial qA ?_;refine A3 ?_;refine xe3 ?_;refine xa5 xa4 qA trivial trivial rfl ?_;refine xt7 (ts:=[_]) [] (zf2 n h1 h2) fi134 ⟨zao,trivial⟩ rfl qA .nil rfl (fun n1 hn1 ho1=> ?_);refine yt8 (t:=4) rfl (fun u1 hu1=> ?_);refine xt7 (ts:=[_]) [u1] (zf2 1 (by decide) (by decide)) fi134 ⟨zao,trivial⟩ rfl qA ((ItSt.slot (T:=64) (s:=4) (us:=[(u1,(wh n).l)]) rfl (.fd 1 rfl .lm)).wit rfl) rfl (fun n2 hn2 ho2=> ?_);refine yt8 (t:=5) rfl (fun u2 hu2=> ?_);refine xa5 (xb7 (r:=tS [⟨2,true,tWhX (wh n) u1⟩,⟨2,true,tWhX (wh 1) u2⟩]) (ts:=[(0,tWhX (wh n) u1),(1,tWhX (wh 1) u2)]) bu41 zr41.2 (Bc 0 rfl rfl rfl (Bc 1 rfl rfl rfl zao))) qB trivial trivial rfl (xa5 (xa8 (es:=4) (agg:=true) (0) ti41 rfl rfl rfl) qB qA trivial rfl (xd1 ?_));refine A2 ?_;exact EC rfl ⟨_,_,_,_,_,rfl,rfl,ti41,(zf5 (n:=u1) (d:=u2) (f:=⟨wh n,wh 1⟩) ⟨NewH.app (us:=[u1]) (vs:=[u2]) (hu1.le hn1) (hu2.le hn2),zh3 ho2 hu2⟩ (by rw [fr,Rat.num_intCast,Rat.den_intCast];rfl))⟩
instance fi226:FnI Tryz.prog 226:=⟨_,func226,by kernel_rfl,rfl⟩
instance fi292:FnI Tryz.prog 292:=⟨_,func292,by kernel_rfl,rfl⟩
theorem zt6 (l:List Nat) (hl:l.length<=1048576):
  CtN Tryz.prog 292 [tLm l] (fun nw=>tEx (fun u=>NewH nw [u]) (fun u=>tLmX 64 u l)):=by
 refine CtN.intro func292 rfl ntmps292 rfl ?_;intro w F;refine A7 ?_;refine RE (xh7 (k:=3) 64 1 false rfl (fun _=>rfl)) trivial trivial qA ?_;refine A3 ?_;refine xe3 ?_;refine xa5 xa4 ⟨rfl,trivial⟩ trivial trivial rfl (xa5 xa4 ⟨rfl,trivial⟩ trivial trivial rfl (xa5 (xc5 (k:=3) (k':=6) (f:=(fun n:Nat=>tE (.int .u16 (n:Int)))) (ys:=l) (ts':=rW .u16 l) zgr el64 zf64 rfl rfl (fun _=>inferInstance) rfl (by simp;omega) (by simp;omega) (by simp [rW]) (n':=l.length) (by simp)) ⟨rfl,rfl,trivial⟩ ⟨rfl,trivial⟩ ⟨rfl,trivial⟩ rfl ?_));refine yz6 (t:=6) (k:=6) (T:=64) (l:=l) rfl rfl (fun _ h=>h) (qf8 rfl) rfl (fun u hu=> ?_);refine xa5 xb8 qA trivial trivial rfl (xd1 ?_);refine A2 ?_;exact E1 rfl rfl (xo7 (I:=fun u=>NewH w.heap.size [u]) (r:=fun u=>tLmX 64 u l) u hu)
theorem ys3 (x:Wh) (hl:x.l.length<=1048576):
  CtN Tryz.prog 226 [tWh x] (fun nw=>tWhE nw x):=by
 refine CtN.intro func226 rfl ntmps226 rfl ?_;intro w F;refine A3 ?_;refine RE (xa3 (k:=2) (n:=2) (agg:=true) zr39.1 zr39.2 rfl) trivial trivial qA ?_;refine A3 ?_;refine xe3 ?_;refine xa5 (xf4 fo39_1.h rfl) qA trivial trivial rfl (xq4 (0) ti37 rfl rfl rfl (At.g 1 rfl rfl) rfl rfl ?_);refine yo0 (ts:=[_]) [] (zt6 x.l hl) fi292 ⟨zao,trivial⟩ rfl qA .nil rfl (fun u n1 hn1 _ hu=> ?_);refine xa5 (xf4 fo39_1.h rfl) qA trivial trivial rfl (xa5 (yk6 (k:=1) (T0:=39) (es:=2) (ts:=[.val (tWh x)]) (t2:=tWhX x u) (0) ti37 rfl (Up.f (f:=⟨1,false,tLm x.l⟩) 1 rfl rfl rfl) rfl rfl) qB qA trivial rfl (xd1 ?_));refine A8 ?_;exact EC rfl ⟨_,_,_,_,_,rfl,rfl,ti39,(whE (hu.le hn1))⟩
theorem qb3 (f:Fr) (h1:f.n.l.length<=1048576) (h2:f.d.l.length<=1048576):
  CtN Tryz.prog 145 [tFr f] (fun nw=>tFrE nw f):=by
 refine CtN.intro func145 rfl ntmps145 rfl ?_;intro w F;refine A3 ?_;refine RE (xa3 (k:=2) (n:=4) (agg:=true) zr41.1 zr41.2 rfl) trivial trivial qA ?_;refine A3 ?_;refine xe3 ?_;refine xa5 (xf4 fo41_0.h rfl) qA trivial trivial rfl (xq4 (0) ti39 rfl rfl rfl (At.g 0 rfl rfl) rfl rfl ?_);refine xt7 (ts:=[_]) [] (ys3 f.n h1) fi226 ⟨zao,trivial⟩ rfl qA .nil rfl (fun n1 hn1 ho1=> ?_);refine xa5 (xf4 fo41_0.h rfl) qA trivial trivial rfl ?_;refine yt8 (t:=5) rfl (fun u1 hu1=> ?_);refine xa5 (yk6 (k:=1) (T0:=41) (es:=4) (ts:=[.val (tFr f)]) (t2:=tS [⟨2,true,tWhX f.n u1⟩,⟨2,true,tWh f.d⟩]) (0) ti39 rfl (Up.f (f:=⟨2,true,tWh f.n⟩) 0 rfl rfl rfl) rfl rfl) qB qA trivial rfl (xd1 ?_);refine A2 ?_;refine xe3 ?_;refine xa5 (xf4 fo41_1.h rfl) qA trivial trivial rfl (xq4 (0) ti39 rfl rfl rfl (At.g 1 rfl rfl) rfl rfl ?_);refine xt7 (ts:=[_]) [u1] (ys3 f.d h2) fi226 ⟨zao,trivial⟩ rfl qA ((ItSt.key (T:=64) (k:=1) (f:=fun _:Unit=>tS [⟨2,true,tWhX f.n u1⟩,⟨2,true,tWh f.d⟩]) (zs:=[()]) (us:=fun _=>[(u1,f.n.l)]) rfl (fun _ _=> .fd 0 rfl (.fd 1 rfl .lm))).wit rfl) rfl (fun n2 hn2 ho2=> ?_);refine xa5 (xf4 fo41_1.h rfl) qA trivial trivial rfl ?_;refine yt8 (t:=9) rfl (fun u2 hu2=> ?_);refine xa5 (yk6 (k:=1) (T0:=41) (es:=4) (ts:=[.val (tS [⟨2,true,tWhX f.n u1⟩,⟨2,true,tWh f.d⟩])]) (t2:=tFrX f u1 u2) (0) ti39 rfl (Up.f (f:=⟨2,true,tWh f.d⟩) 1 rfl rfl rfl) rfl rfl) qB qA trivial rfl (xd1 ?_);refine A8 ?_;exact EC rfl ⟨_,_,_,_,_,rfl,rfl,ti41,(zf5 (n:=u1) (d:=u2) ⟨NewH.app (us:=[u1]) (vs:=[u2]) (hu1.le hn1) (hu2.le hn2),zh3 ho2 hu2⟩ rfl)⟩
end An.S
namespace An
open Go
def FreshH (hs us:List Hd):Prop:= ∀u∈hs,∀b,u.b=some b-> ∀v∈us,v.b≠some b
theorem FreshH.of {n:Nat} {hs us:List Hd} (ho:OldH n hs) (hn:NewH n us):FreshH hs us:=fun u hu b hb v hv e=>by
 have:=ho u hu b hb;have:=hn v hv b e;omega
theorem SepH.fresh {us vs:List Hd} (h1:SepH us) (h2:SepH vs) (hf:FreshH us vs):SepH (us++vs):=zem.2 ⟨h1,h2,fun u hu v hv b hb=>hf u hu b hb v hv⟩
section
variable {P:Program} {c:Base} {d ty:Nat} {pos:String} {af:Array Edge} {gd:Option (Nat×Bool)}
theorem yf3 {f:FuncId} {xs:List Operand} {aT:Array TypeId} {ts us:List Ty} {rr:Nat->Ty} {r:Ty} (hs:List Hd) (kr:List (Nat×HEnt)) (hc:CtN P f us rr) (hf:FnI P f) (hw: ∀g h,Kr h kr->WitSt c g h hs) (hr: ∀m,c.w0.heap.size<=m->OldH m hs->Le (rr m) r) (hle:LeL ts us) (hl:xs.length=ts.length):
  Does P c ⟨some d,.call {callee:= .value (.func f),args:=xs.toArray,argTypes:=aT},ty,pos,af,gd⟩ ⟨xs.zip (ts.map Ent.val),kr,some (d,some (.val r)),[],[]⟩:=by
 intro g h al a w hp ⟨η,s⟩;obtain ⟨fn,h1,h2,h3⟩:=hf;have hargs:=hle.all (Tup.all_of s xs ts hp.rd hl);have hrun:(execOp a.eval ⟨some d,.call {callee:= .value (.func f),args:=xs.toArray,argTypes:=aT},ty,pos,af,gd⟩).run P w= .ok (.enter f (xs.map a.eval).toArray) w:=by
  simp only [execOp,resolve,Act.eval,Deferred.ofValue,zbu,zbv,zbo,invoke];simp only [zeu,zef,zdn];exact xe7 h1 h2 h3 _ w
 refine xh4 hrun (zfc (hc _ w (xs.map a.eval) hargs) ?_);rintro e w' ⟨v,rfl,hext,hv⟩;refine ⟨v,rfl,η,(s.ext hext).put (hp.d _ rfl) (e:= .val r) (hr _ s.fr.size (fun u hu b hb=>(hw g h hp.kr al a w η s u hu b hb).2) _ _ _ ((rr _).mono hv fun b o hb hl _=>⟨?_,hl⟩)) (fun k hk=>by cases hk)⟩;rcases hb with hb | hb
 ·exact yv6 s hb
 ·exact hb
end
end An
namespace An.S
open Go Go.Proofs An Tryz
instance fi145:FnI Tryz.prog 145:=⟨_,func145,by kernel_rfl,rfl⟩
structure Zd where
  s:Deal
  n:Hd
  d:Hd
abbrev tZd (z:Zd):Ty:=tS [⟨1,false,tI z.s.lo⟩,⟨1,false,tI z.s.hi⟩,⟨4,true,tFrX z.s.share z.n z.d⟩,⟨1,false,tI z.s.acc⟩]
theorem zd_le {z:Zd}:Le (tZd z) (tDeal z.s):=Le.tS ⟨⟨rfl,rfl,zao⟩,⟨rfl,rfl,zao⟩,⟨rfl,rfl,ye8⟩,⟨rfl,rfl,zao⟩,trivial⟩
def hdD (zs:List Zd):List Hd:=zs.flatMap fun z=>[z.n,z.d]
def itD (z:Zd):List (Hd×List Nat):=[(z.n,z.s.share.n.l),(z.d,z.s.share.d.l)]
theorem qd7: ∀{zs:List Zd},(zs.flatMap itD).map (·.1)=hdD zs
 | []=>rfl
 | z::r=>by rw [zdu,zer,qd7 (zs:=r)];rfl
theorem yu9 {f:Fr} {n d:Hd}:Its 64 (tFrX f n d) [(n,f.n.l),(d,f.d.l)]:=Its.app (us:=[(n,f.n.l)]) (us':=[(d,f.d.l)]) (.fd 0 rfl (.fd 1 rfl .lm)) (.fd 1 rfl (.fd 1 rfl .lm))
theorem qo5 {z:Zd}:Its 64 (tZd z) (itD z):= .fd 2 rfl yu9
theorem jd4 {c:Base} {g:Slots} {h:Keys} {k T:Nat} {zs:List Zd} (hk:h k=some ⟨T,7,true,rV tZd zs⟩):WitSt c g h (hdD zs):=ItSt.wit (T:=64) (us:=zs.flatMap itD) (.key hk fun _ _=>qo5) qd7
abbrev hdF (nw:Nat) (hs:List Hd) (p:Hd×Hd):Prop:=hdI nw p/\FreshH hs [p.1,p.2]
abbrev tFrF (nw:Nat) (hs:List Hd) (f:Fr):Ty:=tEx (hdF nw hs) (fun p=>tFrX f p.1 p.2)
theorem yq3 {m n:Nat} {hs:List Hd} {f:Fr} (h:n<=m) (ho:OldH m hs):Le (tFrE m f) (tFrF n hs f):=fun _ _ _ ⟨p,hp,hv⟩=>⟨p,⟨hp.le h,FreshH.of ho hp.1⟩,hv⟩
abbrev tZF (nw:Nat) (hs:List Hd) (s:Deal):Ty:=tS [⟨1,false,tI s.lo⟩,⟨1,false,tI s.hi⟩,⟨4,true,tFrF nw hs s.share⟩,⟨1,false,tI s.acc⟩]
theorem tZF_ex {nw:Nat} {hs:List Hd} {s:Deal}:Le (tZF nw hs s) (tEx (hdF nw hs) fun p=>tZd ⟨s,p.1,p.2⟩):=fun _ _ _ ⟨cs,e,hn,h1,h2,⟨h3a,p,hp,h3⟩,h4⟩=>⟨p,hp,cs,e,hn,h1,h2,⟨h3a,h3⟩,h4⟩
theorem zk7 {l:List Deal} {i:Nat} (h:i < l.length):l.getD i deal0∈l:=by
 rw [zbh,zbk h];exact zdw h
theorem qb1 {l:List Deal} {i:Nat} (h:i < l.length):l.take (i+1)=l.take i++[l.getD i deal0]:=by
 rw [zcn h,zbh,zbk h];rfl
theorem zr0 {xs:List Zd} {z:Zd}:hdD (xs++[z])=hdD xs++[z.n,z.d]:=by rw [hdD,hdD,zfk];rfl
theorem qp7 (l:List Deal) (hl:l.length<=1000) (hS: ∀d∈l,d.share.n.l.length<=1048576/\d.share.d.l.length<=1048576):
  CtX Tryz.prog 58 [] [.val (tL 7 true tDeal l)] (fun (nw:Nat) (x:List Zd)=>x.map Zd.s=l/\SepH (hdD x)/\NewH nw (hdD x)) (fun x=> .own (.sl 3 7 0 x.length)) (fun x=>[(3,⟨44,7,true,rV tZd x⟩)]) [3]:=by
 refine CtX.intro [] func58 rfl ntmps58 rfl rfl trivial ?_;intro w F η;refine A7 ?_;refine RE (xh7 (k:=3) 44 7 true rfl (fun h=>by cases h)) trivial trivial ⟨rfl,trivial⟩ ?_;refine A9 ?_;refine xf6 (fun (fm:(Nat)×(List Zd))=>(fun (i:Nat) (xs:List Zd)=>i<=l.length/\xs.map Zd.s=l.take i/\SepH (hdD xs)/\NewH w.heap.size (hdD xs)) fm.1 fm.2) (fun (fm:(Nat)×(List Zd))=>(fun (i:Nat) (xs:List Zd)=>upd (upd (upd (fun _=>none) 0 (some (.val (tL 7 true tDeal l)))) 3 (some (.own (.sl 3 7 0 xs.length)))) 4 (some (.val (tI i)))) fm.1 fm.2) (fun (fm:(Nat)×(List Zd))=>(fun (i:Nat) (xs:List Zd)=>upd (fun _=>none) 3 (some (⟨44,7,true,rV tZd xs⟩))) fm.1 fm.2) (nm [3]) (fun (fm:(Nat)×(List Zd))=>(fun (i:Nat) (xs:List Zd)=>l.length - i) fm.1 fm.2) ((0,[])) (by dsimp only;exact ⟨zbs _,rfl,SepH.nil,NewH.nil⟩) (zae rfl (zan rfl (zan rfl zay))) ((zaq rfl zap) zax) (zaj (zak rfl (zaj zar))) (zam rfl (supJ xb2) zaz) (lkOk rfl) ?_;intro fm hI;obtain ⟨i,xs⟩:=fm;replace hI:i<=l.length/\xs.map Zd.s=l.take i/\SepH (hdD xs)/\NewH w.heap.size (hdD xs):=hI;show wc _ _ _ _ (upd (upd (upd (fun _=>none) 0 (some (.val (tL 7 true tDeal l)))) 3 (some (.own (.sl 3 7 0 xs.length)))) 4 (some (.val (tI i)))) (upd (fun _=>none) 3 (some (⟨44,7,true,rV tZd xs⟩))) _;obtain ⟨hi,hx,hs,hn⟩:=hI;have hxl:xs.length=i:=by
  have h:=congrArg List.length hx;rw [zcq,zcz] at h;omega
 refine A9 ?_;refine xa6 rfl (fun h59=> ?_) (fun h59=> ?_)
 ·
  refine A8 ?_;refine R2 (x8 sl22 (i) (by omega) (zai (l:=l) (n:=i) (d:=deal0))) rfl rfl ?_;refine R1 (xf1 fo44_0.h (At.f 0 rfl rfl) rfl) rfl ?_;refine A3 ?_;refine R2 (x8 sl22 (i) (by omega) (zai (l:=l) (n:=i) (d:=deal0))) rfl rfl ?_;refine R1 (xf1 fo44_1.h (At.f 1 rfl rfl) rfl) rfl ?_;refine A3 ?_;refine R2 (x8 sl22 (i) (by omega) (zai (l:=l) (n:=i) (d:=deal0))) rfl rfl ?_;refine R1 (xf1 fo44_2.h (At.f 2 rfl rfl) rfl) rfl ?_;refine A1 ?_;refine RE (yf3 (ts:=[_]) (r:=tFrF w.heap.size (hdD xs) _) (hdD xs) [(3,⟨44,7,true,rV tZd xs⟩)] (qb3 _ (hS _ (zk7 (l:=l) (by omega))).1 (hS _ (zk7 (l:=l) (by omega))).2) fi145 (fun _ _ hk=>jd4 hk.1) (fun m hm ho=>yq3 hm ho) ⟨zao,trivial⟩ rfl) ⟨rfl,trivial⟩ ⟨rfl,trivial⟩ trivial ?_;refine A2 ?_;refine R2 (x8 sl22 (i) (by omega) (zai (l:=l) (n:=i) (d:=deal0))) rfl rfl ?_;refine R1 (xf1 fo44_3.h (At.f 3 rfl rfl) rfl) rfl ?_;refine A1 ?_;refine RE (xb7 (r:=tS [⟨1,false,tI (l.getD i deal0).lo⟩,⟨1,false,tI (l.getD i deal0).hi⟩,⟨4,true,tFrF w.heap.size (hdD xs) (l.getD i deal0).share⟩,⟨1,false,tI (l.getD i deal0).acc⟩]) (ts:=[(0,tI (l.getD i deal0).lo),(1,tI (l.getD i deal0).hi),(2,tFrF w.heap.size (hdD xs) (l.getD i deal0).share),(3,tI (l.getD i deal0).acc)]) bu44 zr44.2 (Bc 0 rfl rfl rfl (Bc 1 rfl rfl rfl (Bc 2 rfl rfl rfl (Bc 3 rfl rfl rfl zao))))) ⟨rfl,rfl,rfl,rfl,trivial⟩ trivial trivial ?_;refine R1 (xb6 (n:=1) (f:=fun s:Deal=>tZF w.heap.size (hdD xs) s) [(l.getD i deal0)] zhd el44 zf44 rfl (fun _=>inferInstance) rfl rfl rfl) rfl ?_;refine RE (xc5 (k:=3) (k':=35) (f:=fun s:Deal=>tZF w.heap.size (hdD xs) s) (ys:=[(l.getD i deal0)]) (ts':=rV tZd xs++[.val (tZF w.heap.size (hdD xs) (l.getD i deal0))]) zhd el44 zf44 rfl rfl (fun _=>inferInstance) xe0 (by simp;omega) (by simp;omega) rfl (n':=xs.length+1) rfl) ⟨rfl,rfl,trivial⟩ ⟨rfl,trivial⟩ ⟨rfl,trivial⟩ ?_;refine A4 ?_;refine jn8 (k:=35) (ts:=rV tZd xs) (fun u:Hd×Hd=>tZd ⟨(l.getD i deal0),u.1,u.2⟩) rfl tZF_ex (fun u hu=> ?_);refine xp2 (k:=35) (e':=⟨44,7,true,rV tZd (xs++[⟨(l.getD i deal0),u.1,u.2⟩])⟩) rfl (by simp [rV]) ?_;refine A5 ?_;exact xh0 (l:=[3]) (zab 3 35) ((i+1,xs++[⟨(l.getD i deal0),u.1,u.2⟩])) ⟨(by dsimp only;exact ⟨by omega,by rw [zer,hx,qb1 (by omega)];rfl,by rw [zr0];exact hs.fresh hu.1.2 hu.2,by rw [zr0];exact NewH.app hn hu.1.1⟩),(by dsimp only;omega)⟩ (zaf rfl ((zbc rfl (zaw (by dsimp only;rw [zck];rfl))) (zas rfl zbd))) ((zbb rfl (zat xc2.symm)) zbe) (zaj (zak rfl (zaj zar))) (zam rfl (supJ xb2) zaz) (lkOk rfl) rfl rfl (fun _ h=>by cases h)
 ·
  refine A9 ?_;refine A3 ?_;refine E_X (xs) (⟨by rw [hx,List.take_of_length_le (by omega)],hs,hn⟩) ?_;exact xg3 LentC.mk' rfl rfl Imp.refl ⟨rfl,trivial⟩ rfl ⟨⟨rfl,xb2⟩,trivial⟩ rfl
end An.S
namespace An
open Go
section
variable {P:Program} {c:Base} {g:Slots} {h:Keys} {al:Names} {Q:Exit->Act->World->Prop}
theorem ze4 {k T es:Nat} {agg:Bool} {t:Ty} {ts:List Ent} {ι:Type} {I:ι->Prop} (j:Nat) (r:ι->Ty) (hk:h k=some ⟨T,es,agg,ts⟩) (ht:ts[j]? =some (.val t)) (hle:Le t (tEx I r)) (a:Act) (w:World) (hs:St c g h al a w):
  ∃i,I i/\St c g (upd h k (some ⟨T,es,agg,ts.set j (.val (r i))⟩)) al a w:=by
 obtain ⟨η,s⟩:=hs;obtain ⟨q1,q2,⟨p1,_,_,_,p5⟩,_⟩:=s.key k _ hk;have hjl:=(zbi.1 ht).1;have hc:0 < η.c k:=by simp only at p1;omega
 obtain ⟨cs,c1,c2,c3⟩:=p5 hc;obtain ⟨i,hi,hr⟩:=hle _ _ _ (c3 j (.val t) ht);have hsup: ∀m∈(ts.set j (Ent.val (r i))).flatMap Ent.supp,al m=true:=fun m hm=>by
  obtain ⟨e,he,hme⟩:=zbw.1 hm;rcases zgj he with he | rfl
  ·exact q2 m (zbw.2 ⟨e,he,hme⟩)
  ·simp [Ent.supp] at hme
 refine ⟨i,hi,η,s.rekey hk (by simp) hsup fun cs' m e' hcs hm=> ?_⟩;by_cases e1:j=m
 ·subst e1;rw [List.getElem?_set_self hjl] at hm;cases hm;rw [c1] at hcs;cases hcs;exact ⟨.val t,ht,fun _=>hr⟩
 ·rw [List.getElem?_set_ne e1] at hm;exact ⟨e',hm,id⟩
theorem yz4 {x:Code} {k T es:Nat} {agg:Bool} {t:Ty} {ts:List Ent} {ι:Type} {I:ι->Prop} (j:Nat) (r:ι->Ty) (hk:h k=some ⟨T,es,agg,ts⟩) (ht:ts[j]? =some (.val t)) (hle:Le t (tEx I r))
  (H: ∀i,I i->wc P c x Q g (upd h k (some ⟨T,es,agg,ts.set j (.val (r i))⟩)) al):wc P c x Q g h al:=fun a w hs=>by
 obtain ⟨i,h1,h2⟩:=ze4 j r hk ht hle a w hs;exact H i h1 a w h2
theorem jb1 {e:Exit} {k T es:Nat} {agg:Bool} {t:Ty} {ts:List Ent} {ι:Type} {I:ι->Prop} (j:Nat) (r:ι->Ty) (hk:h k=some ⟨T,es,agg,ts⟩) (ht:ts[j]? =some (.val t)) (hle:Le t (tEx I r))
  (H: ∀i,I i->wk c e Q g (upd h k (some ⟨T,es,agg,ts.set j (.val (r i))⟩)) al):wk c e Q g h al:=fun a w hs=>by
 obtain ⟨i,h1,h2⟩:=ze4 j r hk ht hle a w hs;exact H i h1 a w h2
end
end An
namespace An.S
open Go Go.Proofs An Tryz
structure Zf where
  f:Fr
  n:Hd
  d:Hd
def zfr0:Zf:=⟨fr0,hd0,hd0⟩
abbrev tZf (z:Zf):Ty:=tFrX z.f z.n z.d
def hdZ (zs:List Zf):List Hd:=zs.flatMap fun z=>[z.n,z.d]
def itZ (z:Zf):List (Hd×List Nat):=[(z.n,z.f.n.l),(z.d,z.f.d.l)]
theorem zh5: ∀{zs:List Zf},(zs.flatMap itZ).map (·.1)=hdZ zs
 | []=>rfl
 | z::r=>by rw [zdu,zer,zh5 (zs:=r)];rfl
theorem jr8 {c:Base} {g:Slots} {h:Keys} {k T:Nat} {zs:List Zf} (hk:h k=some ⟨T,4,true,rV tZf zs⟩):ItSt 64 c g h (zs.flatMap itZ):= .key hk fun _ _=>yu9
theorem yw9 {c:Base} {g:Slots} {h:Keys} {k T:Nat} {zs:List Zf} (hk:h k=some ⟨T,4,true,rV tZf zs⟩):WitSt c g h (hdZ zs):=(jr8 hk).wit zh5
theorem zj5 {a b:List Zf}:hdZ (a++b)=hdZ a++hdZ b:=by rw [hdZ,hdZ,hdZ,zfk]
theorem qf6 {n:Nat}: ∀u∈hdZ (List.replicate n zfr0),u.b=none:=fun u hu=>by
 obtain ⟨z,hz,hm⟩:=zbw.1 hu;rw [List.eq_of_mem_replicate hz] at hm;rcases zbt.1 hm with rfl | hm
 ·rfl
 ·rw [zbq.1 hm];rfl
theorem zu7 {us:List Hd} (h: ∀u∈us,u.b=none):SepH us:=by
 refine zfj.2 fun i j hi hj _ b hb=> ?_;rw [h _ (zdw hi)] at hb;cases hb
theorem zn3 {zs:List Zf} {i:Nat} (h:i < zs.length) (z:Zf): ∃a b z0,zs=a++z0::b/\zs.set i z=a++z::b:=by
 refine ⟨zs.take i,zs.drop (i+1),zs[i],?_,?_⟩
 ·rw [List.getElem_cons_drop,List.take_append_drop]
 ·rw [List.set_eq_take_append_cons_drop,if_pos h]
theorem SepH.setZ {zs:List Zf} {i:Nat} {z:Zf} {vs:List Hd} (hi:i < zs.length) (hs:SepH (hdZ zs++vs)) (hz:SepH [z.n,z.d]) (hf:FreshH (hdZ zs++vs) [z.n,z.d]):SepH (hdZ (zs.set i z)++vs):=by
 obtain ⟨a,b,z0,e1,e2⟩:=zn3 hi z;have c1:hdZ zs++vs=hdZ a++([z0.n,z0.d]++(hdZ b++vs)):=by rw [e1,zj5,zfz];simp [hdZ]
 have c2:hdZ (zs.set i z)++vs=hdZ a++([z.n,z.d]++(hdZ b++vs)):=by rw [e2,zj5,zfz];simp [hdZ]
 rw [c1] at hs hf;rw [c2];obtain ⟨s1,s2,s3⟩:=zem.1 hs;obtain ⟨_,s5,_⟩:=zem.1 s2;refine zem.2 ⟨s1,zem.2 ⟨hz,s5,fun u hu v hv b hb e=> ?_⟩,fun u hu v hv b hb e=> ?_⟩
 ·exact hf v (zbj.2 (.inr (zbj.2 (.inr hv)))) b e u hu hb
 ·rcases zbj.1 hv with hv | hv
  ·exact hf u (zbj.2 (.inl hu)) b hb v hv e
  ·exact s3 u hu v (zbj.2 (.inr hv)) b hb e
theorem NewH.setZ {zs:List Zf} {i n:Nat} {z:Zf} (hi:i < zs.length) (hs:NewH n (hdZ zs)) (hz:NewH n [z.n,z.d]):NewH n (hdZ (zs.set i z)):=by
 obtain ⟨a,b,z0,e1,e2⟩:=zn3 hi z;rw [e2];rw [e1] at hs;intro u hu;rw [zj5] at hu hs;rcases zbj.1 hu with hu | hu
 ·exact hs u (zbj.2 (.inl hu))
 ·have hu:u∈[z.n,z.d]++hdZ b:=by simpa [hdZ] using hu
  rcases zbj.1 hu with hu | hu
  ·exact hz u hu
  ·exact hs u (zbj.2 (.inr (by show u∈[z0.n,z0.d]++hdZ b;exact zbj.2 (.inr hu))))
theorem ja1 (r:Rat) (l:List Deal) (i:Nat) (hv:validL l=true) (hD: ∀d∈l,d.share.dig) (hi:i < l.length) (h1:short r) (h2:short (r*shr l i)):CtN Tryz.prog 127 [tFr (fr r),tFr (l.getD i deal0).share] (fun nw=>tT [tFrE nw (fr (r*shr l i)),tI 0]):=by
 obtain ⟨s1,s2,e⟩:=yi5 hv hD hi;have h:=jp8 r (shr l i) h1 (yf7 (by omega) (by omega));rw [resF,resFE,if_pos h2,if_pos h2] at h;rw [e];exact h
theorem jg3 (a b:Rat) (h1:short a) (h2:short b) (h3:short (a - b)):CtN Tryz.prog 128 [tFr (fr a),tFr (fr b)] (fun nw=>tT [tFrE nw (fr (a - b)),tI 0]):=by
 have h:=jm8 a b h1 h2;rw [resF,resFE,if_pos h3,if_pos h3] at h;exact h
theorem q7 {c:Base} {g:Slots} {h:Keys} {k k2 T T2:Nat} {zs:List Zf} {q:Rat} {n d:Hd} (h1:h k=some ⟨T,4,true,rV tZf zs⟩) (h2:h k2=some ⟨T2,4,true,[.val (tFrX (fr q) n d)]⟩):WitSt c g h (hdZ zs++[n,d]):=
 (yw9 h1).app (ItSt.wit (T:=64) (us:=[(n,(fr q).n.l),(d,(fr q).d.l)]) (ItSt.key (f:=fun _:Unit=>tFrX (fr q) n d) (zs:=[()]) (us:=fun _=>[(n,(fr q).n.l),(d,(fr q).d.l)]) h2 (fun _ _=>yu9)) rfl)
theorem yg9 {zs:List Zf} {i:Nat} {t:Ty} {z:Zf} (h:i < zs.length):((rV tZf zs).set i (.val t))[i]? =some (.val t)/\((rV tZf zs).set i (.val t)).set i (.val (tZf z))=rV tZf (zs.set i z):=by
 refine ⟨List.getElem?_set_self (by rw [xe0];exact h),?_⟩;rw [List.set_set,rV,rV,List.map_set]
theorem sepZ0 {zs:List Zf} {f:Fr} {n d:Hd} (hi:0 < zs.length) (hs:SepH (hdZ zs++[n,d])):SepH (hdZ (zs.set 0 ⟨f,n,d⟩)):=by
 cases zs with
 | nil=>cases hi
 | cons z r=>
  obtain ⟨s1,s2,s3⟩:=zem.1 hs;have e:hdZ (z::r)=[z.n,z.d]++hdZ r:=rfl;rw [e] at s1 s3;obtain ⟨_,s5,_⟩:=zem.1 s1;show SepH ([n,d]++hdZ r);exact zem.2 ⟨s2,s5,fun u hu v hv b hb e=>s3 v (zbj.2 (.inr hv)) u hu b e hb⟩
theorem newZ0 {zs:List Zf} {f:Fr} {n d:Hd} {m:Nat} (hi:0 < zs.length) (hs:NewH m (hdZ zs++[n,d])):NewH m (hdZ (zs.set 0 ⟨f,n,d⟩)):=by
 cases zs with
 | nil=>cases hi
 | cons z r=>
  intro u hu;have hu:u∈[n,d]++hdZ r:=hu;rcases zbj.1 hu with hu | hu
  ·exact hs u (zbj.2 (.inr hu))
  ·exact hs u (zbj.2 (.inl (show u∈[z.n,z.d]++hdZ r from zbj.2 (.inr hu))))
theorem qo3 (l:List Deal) (m:Int) (hd: ∀d∈l,d.share.dig):
  CtX Tryz.prog 44 [] [.val (tL 7 true tDeal l),.val (tI m)] (fun (nw:Nat) (x:List Zf×Int)=>x.1.map Zf.f=(bif shBad l m then [] else ((shAll l m)).q.set 0 (fr ((shAll l m)).r))/\x.2=(bif shBad l m then 2 else 0)/\SepH (hdZ x.1)/\NewH nw (hdZ x.1)) (fun x=> .own (.tup [.sl 25 4 0 x.1.length,.ty (tI x.2)])) (fun x=>[(25,⟨41,4,true,rV tZf x.1⟩)]) [25]:=by
 refine CtX.intro [] func44 rfl ntmps44 rfl rfl trivial ?_;intro w F η;refine A9 ?_;refine A1 ?_;refine R1 (x3 (xw1 l hd) fi13 rfl) rfl ?_;refine A2 ?_;refine RGcase (t:=14) rfl (fun h164=> ?_) (fun h164=> ?_)
 ·
  have hB:shBad l m=true:=by rw [shBad,h164];rfl
  refine A9 ?_;refine A3 ?_;refine RE (xh7 (k:=25) 41 4 true rfl (fun h=>by cases h)) trivial trivial ⟨rfl,trivial⟩ ?_;refine A5 ?_;refine E_X (([],2)) (⟨by rw [hB];rfl,by rw [hB];rfl,SepH.nil,NewH.nil⟩) ?_;exact yu6 (r1:= .own (.sl 25 4 0 ([]:List Zf).length)) (r2:= .val (tI 2)) LentC.mk' rfl rfl rfl Imp.refl Imp.refl ⟨rfl,trivial⟩ rfl ⟨⟨rfl,xb2⟩,trivial⟩ rfl
 ·
  have hv:validL l=true:=by rw [Bool.not_eq_false'] at h164;exact h164
  have hl16:=xf8 hv;refine A4 ?_;refine RGcaseD (t:=18) rfl (fun h164_2=> ?_) (fun h164_2=> ?_)
  ·
   have hB:shBad l m=true:=by rw [shBad,zbg h164_2];simp
   refine A8 ?_;refine RE (xh7 (k:=25) 41 4 true rfl (fun h=>by cases h)) trivial trivial ⟨rfl,trivial⟩ ?_;refine A5 ?_;refine E_X (([],2)) (⟨by rw [hB];rfl,by rw [hB];rfl,SepH.nil,NewH.nil⟩) ?_;exact yu6 (r1:= .own (.sl 25 4 0 ([]:List Zf).length)) (r2:= .val (tI 2)) LentC.mk' rfl rfl rfl Imp.refl Imp.refl ⟨rfl,trivial⟩ rfl ⟨⟨rfl,xb2⟩,trivial⟩ rfl
  ·
   refine A5 ?_;refine xa6 rfl (fun h164_3=> ?_) (fun h164_3=> ?_)
   ·
    have hB:shBad l m=true:=by rw [shBad,zbg h164_3];simp
    refine A2 ?_;refine RE (xh7 (k:=25) 41 4 true rfl (fun h=>by cases h)) trivial trivial ⟨rfl,trivial⟩ ?_;refine A5 ?_;refine E_X (([],2)) (⟨by rw [hB];rfl,by rw [hB];rfl,SepH.nil,NewH.nil⟩) ?_;exact yu6 (r1:= .own (.sl 25 4 0 ([]:List Zf).length)) (r2:= .val (tI 2)) LentC.mk' rfl rfl rfl Imp.refl Imp.refl ⟨rfl,trivial⟩ rfl ⟨⟨rfl,xb2⟩,trivial⟩ rfl
   ·
    have hB:shBad l m=false:=by rw [shBad,hv,zbf h164_2,zbf h164_3];rfl
    refine A7 ?_;refine RE (xe5 (k:=25) (t:=tZf zfr0) (ts:=rV tZf (List.replicate (l.length+1) zfr0)) (l.length+1) (l.length+1) zhc el41 (fun _ _=>fr0X _ _ _ frZ) rfl (by omega) (by omega) (zbm _) (by omega) (by omega) (yd8 (l.length+1) zfr0 rfl)) ⟨rfl,rfl,trivial⟩ trivial ⟨rfl,trivial⟩ ?_;refine RE (xa3 (k:=6) (n:=1) (agg:=false) zr71.1 zr71.2 rfl) trivial trivial ⟨rfl,trivial⟩ ?_;refine A9 ?_;refine A3 ?_;refine xf6 (fun (fm:(Nat)×(List Zf))=>(fun (i:Nat) (zs:List Zf)=>i<=l.length+1/\zs.map Zf.f=sh0 (l.length+1) i/\SepH (hdZ zs)/\NewH w.heap.size (hdZ zs)) fm.1 fm.2) (fun (fm:(Nat)×(List Zf))=>(fun (i:Nat) (zs:List Zf)=>upd (upd (upd (upd (upd (fun _=>none) 0 (some (.val (tL 7 true tDeal l)))) 1 (some (.val (tI m)))) 6 (some (.own (.ptr 6 0)))) 27 (some (.val (tI ((l.length+1:Nat):Int))))) 28 (some (.val (tI i)))) fm.1 fm.2) (fun (fm:(Nat)×(List Zf))=>(fun (i:Nat) (zs:List Zf)=>upd (upd (fun _=>none) 6 (some (⟨71,1,false,[.own (.sl 25 4 0 (l.length+1))]⟩))) 25 (some (⟨41,4,true,rV tZf zs⟩))) fm.1 fm.2) (nm [6,25]) (fun (fm:(Nat)×(List Zf))=>(fun (i:Nat) (zs:List Zf)=>l.length+1 - i) fm.1 fm.2) ((0,List.replicate (l.length+1) zfr0)) (by dsimp only;exact ⟨zbs _,by rw [sh0_zero,List.map_replicate];rfl,zu7 qf6,fun u hu b hb=>by rw [qf6 u hu] at hb;cases hb⟩) (zae rfl (zae rfl (zan rfl (zae rfl (zan rfl zay))))) ((zaq rfl zap) (SubK.cons rfl zax)) (zaj (zaj (zak rfl (zaj (zaj zar))))) (zam rfl (supJ xb2) (zam rfl (supJL rfl) zaz)) (lkOk rfl) ?_;intro fm hI;obtain ⟨i,zs⟩:=fm;replace hI:i<=l.length+1/\zs.map Zf.f=sh0 (l.length+1) i/\SepH (hdZ zs)/\NewH w.heap.size (hdZ zs):=hI;show wc _ _ _ _ (upd (upd (upd (upd (upd (fun _=>none) 0 (some (.val (tL 7 true tDeal l)))) 1 (some (.val (tI m)))) 6 (some (.own (.ptr 6 0)))) 27 (some (.val (tI ((l.length+1:Nat):Int))))) 28 (some (.val (tI i)))) (upd (upd (fun _=>none) 6 (some (⟨71,1,false,[.own (.sl 25 4 0 (l.length+1))]⟩))) 25 (some (⟨41,4,true,rV tZf zs⟩))) _;obtain ⟨hi,hz0,hs,hn⟩:=hI;have hzl:zs.length=l.length+1:=by
     have h:=congrArg List.length hz0;rw [zcq,sh0_len (by omega)] at h;exact h
    refine A6 ?_;refine xa6 rfl (fun h168=> ?_) (fun h168=> ?_)
    ·
     refine A9 ?_;refine A4 ?_;refine RE (yf3 (ts:=[_]) (r:=(tFrF w.heap.size (hdZ zs) (fr ((0:Int):Rat)))) (hdZ zs) [(25,⟨41,4,true,rV tZf zs⟩)] (yw8 0 (by decide) (by decide)) fi51 (fun _ _ hk=>yw9 hk.1) (fun n hm ho=>yq3 hm ho) ⟨zao,trivial⟩ rfl) ⟨rfl,trivial⟩ ⟨rfl,trivial⟩ trivial ?_;refine R2 (zag sl71 rfl) rfl rfl ?_;refine RE (xa8 (e:= .val (tFrF w.heap.size (hdZ zs) (fr ((0:Int):Rat)))) (i) ti41 (xn4 (f:=tZf) (xs:=zs) (by omega)) (by omega) rfl) ⟨rfl,rfl,trivial⟩ ⟨rfl,trivial⟩ trivial ?_;refine A3 ?_;refine yz4 (k:=25) (i) (fun u:Hd×Hd=>tZf ⟨fr ((0:Int):Rat),u.1,u.2⟩) rfl (yg9 (zs:=zs) (i:=i) (z:=zfr0) (by omega)).1 zao (fun u hu=> ?_);refine xp2 (k:=25) (e':=⟨41,4,true,rV tZf (zs.set (i) ⟨fr ((0:Int):Rat),u.1,u.2⟩)⟩) rfl (by rw [(yg9 (zs:=zs) (i:=i) (by omega)).2]) ?_;refine A4 ?_;exact xg8 ((i+1,zs.set i ⟨fr ((0:Int):Rat),u.1,u.2⟩)) ⟨(by dsimp only;exact ⟨by omega,by rw [List.map_set,hz0,sh0_set (by omega)],by simpa using SepH.setZ (z:=⟨fr ((0:Int):Rat),u.1,u.2⟩) (vs:=[]) (by omega) (by simpa using hs) hu.1.2 (by simpa using hu.2),NewH.setZ (by omega) hn hu.1.1⟩),(by dsimp only;omega)⟩ (zae rfl (zae rfl (zan rfl (zae rfl (zan rfl zay))))) ((zaq rfl zap) (SubK.cons rfl zax)) (zaj (zaj (zak rfl (zaj (zaj zar))))) (zam rfl (supJ xb2) (zam rfl (supJL rfl) zaz)) (lkOk rfl)
    ·
     refine A7 ?_;refine RE (yf3 (ts:=[_]) (r:=(tFrF w.heap.size (hdZ zs) (fr ((1:Int):Rat)))) (hdZ zs) [(25,⟨41,4,true,rV tZf zs⟩)] (yw8 1 (by decide) (by decide)) fi51 (fun _ _ hk=>yw9 hk.1) (fun n hm ho=>yq3 hm ho) ⟨zao,trivial⟩ rfl) ⟨rfl,trivial⟩ ⟨rfl,trivial⟩ trivial ?_;refine RE (xa3 (k:=8) (n:=4) (agg:=true) zr41.1 zr41.2 rfl) trivial trivial ⟨rfl,trivial⟩ ?_;refine A5 ?_;refine yz4 (k:=8) 0 (fun u:Hd×Hd=>tFrX (fr ((1:Int):Rat)) u.1 u.2) rfl rfl zao (fun u1 hu1=> ?_);refine xp2 (k:=8) (e':=⟨41,4,true,[.val (tFrX (fr ((1:Int):Rat)) u1.1 u1.2)]⟩) rfl rfl ?_;refine A3 ?_;refine RE (xe9 (fun j=>cond (Nat.beq j 2) 39 (1039)) (yb7 l m) fi126 rfl (krN (ρ:=fun j=>cond (Nat.beq j 2) 39 (1039))) (krC (ρ:=fun j=>cond (Nat.beq j 2) 39 (1039)) (k:=2) rfl (krC (ρ:=fun j=>cond (Nat.beq j 2) 39 (1039)) (k:=3) rfl (krN (ρ:=fun j=>cond (Nat.beq j 2) 39 (1039))))) ⟨⟨rfl,(SupX.lit rfl)⟩,⟨rfl,(SupX.lit rfl)⟩,trivial⟩ rfl) ⟨rfl,rfl,trivial⟩ trivial ⟨rfl,rfl,trivial⟩ ?_;refine A3 ?_;refine q8 (caps:=[.ptr 1 0,.ptr 2 0]) (κ:=Empty) (zaa 2 1039 (zab 1 39)) rfl (fun _ h=>h) trivial (yb6 l m hl16) fi200 rfl ⟨rfl,rfl,trivial⟩ rfl rfl (fun _ _=>rfl) (upd (upd (fun _=>none) 6 (some (.own (.ptr 6 0)))) 8 (some (.own (.ptr 8 0)))) [6,8,25] [6,8] (zan rfl (zan rfl zay)) (zak rfl (zak rfl zar)) rfl (lkOk rfl) (fun (k:Nat) (x:(Sh)×(List Zf)×(Hd)×(Hd))=>(fun (s:Sh) (zs:List Zf) (rn:Hd) (rd:Hd)=>ShI l k s/\shRun l s ((apl l m).drop k)=(shAll l m)/\zs.map Zf.f=s.q/\SepH (hdZ zs++[rn,rd])/\NewH w.heap.size (hdZ zs++[rn,rd])) x.1 x.2.1 x.2.2.1 x.2.2.2) (fun (k:Nat) (x:(Sh)×(List Zf)×(Hd)×(Hd))=>(fun (s:Sh) (zs:List Zf) (rn:Hd) (rd:Hd)=>upd (upd (upd (fun _=>none) 6 (some (⟨71,1,false,[.own (.sl 25 4 0 (l.length+1))]⟩))) 8 (some (⟨41,4,true,[.val (tFrX (fr s.r) rn rd)]⟩))) 25 (some (⟨41,4,true,rV tZf zs⟩))) x.1 x.2.1 x.2.2.1 x.2.2.2) (fun k x=>(zam rfl (supJ xb2) (zam rfl (supJL rfl) (zam rfl (supJL rfl) zaz)))) (fun k x y hy=>by simp only [zbt,zed,or_false] at hy;rcases hy with rfl | rfl <;> rfl) (fun _ _=>False) (fun i=>i.elim) (fun _ _ h=>h.elim) ((⟨List.replicate (l.length+1) (fr ((0:Int):Rat)),((1:Int):Rat)⟩,zs,u1.1,u1.2)) (by dsimp only;exact ⟨shI0,rfl,by rw [hz0,show i=l.length+1 by omega,sh0_full],hs.fresh hu1.1.2 hu1.2,NewH.app hn hu1.1.1⟩) ((zaq rfl zap) ((zaq rfl zap) (SubK.cons rfl zax))) ?_ ?_ ?_
     ·
      intro D lp o1 o2 O W lη lb V0 k x hk hI hWs;obtain ⟨s,zs,rn,rd⟩:=x;replace hI:ShI l k s/\shRun l s ((apl l m).drop k)=(shAll l m)/\zs.map Zf.f=s.q/\SepH (hdZ zs++[rn,rd])/\NewH w.heap.size (hdZ zs++[rn,rd]):=hI;obtain ⟨hv1,hrun,hzq,hs,hn⟩:=hI;have hql:=hv1.q;have hN:=yd1 (l:=l) (m:=m);have hzl:zs.length=l.length+1:=by rw [<-hql,<-hzq,zcq]
      obtain ⟨hi,hon⟩:=zg3 hk;have hs1:=hv1.short (by omega);have hs2:=hv1.shortM (by omega) hv hd hi;have hnx:=hv1.next hv hd hi;have hs3:=hnx.short (by omega);apply yi3
      ·
       refine A6 ?_;refine RE (xa3 (k:=10) (n:=7) (agg:=true) zr44.1 zr44.2 rfl) trivial trivial ⟨rfl,trivial⟩ ?_;refine A2 ?_;exact yc6 fun _ _ h=>h
      ·
       refine A9 ?_;refine RE (yf3 (ts:=[_,_]) (r:=tT [(tFrF w.heap.size (hdZ zs++[rn,rd]) (fr (s.r*shr l ((apl l m).getD k 0)))),tI 0]) (hdZ zs++[rn,rd]) [(25,⟨41,4,true,rV tZf zs⟩),(8,⟨41,4,true,[.val (tFrX (fr s.r) rn rd)]⟩)] (ja1 s.r l ((apl l m).getD k 0) hv hd hi hs1 hs2) fi127 (fun _ _ hk=>q7 hk.1 hk.2.1) (fun n hm ho=>le_T ⟨yq3 (zce hWs hm) ho,zao,trivial⟩) ⟨ye8,zao,trivial⟩ rfl) ⟨rfl,rfl,trivial⟩ ⟨rfl,rfl,trivial⟩ trivial ?_;refine A3 ?_;refine R2 (zag sl71 rfl) rfl rfl ?_;refine RE (xa8 (e:= .val (tFrF w.heap.size (hdZ zs++[rn,rd]) (fr (s.r*shr l ((apl l m).getD k 0))))) (((apl l m).getD k 0)+1) ti41 (xn4 (f:=tZf) (xs:=zs) (by omega)) (by omega) rfl) ⟨rfl,rfl,trivial⟩ ⟨rfl,trivial⟩ trivial ?_;refine A2 ?_;refine yz4 (k:=25) (((apl l m).getD k 0)+1) (fun u:Hd×Hd=>tZf ⟨fr (s.r*shr l ((apl l m).getD k 0)),u.1,u.2⟩) rfl (yg9 (zs:=zs) (i:=((apl l m).getD k 0)+1) (z:=zfr0) (by omega)).1 zao (fun u hu=> ?_);refine xp2 (k:=25) (e':=⟨41,4,true,rV tZf (zs.set (((apl l m).getD k 0)+1) ⟨fr (s.r*shr l ((apl l m).getD k 0)),u.1,u.2⟩)⟩) rfl (by rw [(yg9 (zs:=zs) (i:=((apl l m).getD k 0)+1) (by omega)).2]) ?_;refine A5 ?_;refine R2 (zag sl71 rfl) rfl rfl ?_;refine RE (x7 (((apl l m).getD k 0)+1) ti41 (xv3 (by omega)) (by omega)) ⟨rfl,trivial⟩ ⟨rfl,trivial⟩ trivial ?_;refine RE (yf3 (ts:=[_,_]) (r:=tT [(tFrF w.heap.size (hdZ (zs.set (((apl l m).getD k 0)+1) ⟨fr (s.r*shr l ((apl l m).getD k 0)),u.1,u.2⟩)++[rn,rd]) (fr (s.r - (s.r*shr l ((apl l m).getD k 0))))),tI 0]) (hdZ (zs.set (((apl l m).getD k 0)+1) ⟨fr (s.r*shr l ((apl l m).getD k 0)),u.1,u.2⟩)++[rn,rd]) [(25,⟨41,4,true,rV tZf (zs.set (((apl l m).getD k 0)+1) ⟨fr (s.r*shr l ((apl l m).getD k 0)),u.1,u.2⟩)⟩),(8,⟨41,4,true,[.val (tFrX (fr s.r) rn rd)]⟩)] (jg3 s.r (s.r*shr l ((apl l m).getD k 0)) hs1 hs2 hs3) fi128 (fun _ _ hk=>q7 hk.1 hk.2.1) (fun n hm ho=>le_T ⟨yq3 (zce hWs hm) ho,zao,trivial⟩) ⟨ye8,ye8,trivial⟩ rfl) ⟨rfl,rfl,trivial⟩ ⟨rfl,rfl,trivial⟩ trivial ?_;refine A3 ?_;refine RE (xa8 (e:= .val (tFrF w.heap.size (hdZ (zs.set (((apl l m).getD k 0)+1) ⟨fr (s.r*shr l ((apl l m).getD k 0)),u.1,u.2⟩)++[rn,rd]) (fr (s.r - (s.r*shr l ((apl l m).getD k 0)))))) (0) ti41 rfl rfl rfl) ⟨rfl,rfl,trivial⟩ ⟨rfl,trivial⟩ trivial ?_;refine A2 ?_;refine jb1 (k:=8) 0 (fun v:Hd×Hd=>tFrX (fr (s.r - (s.r*shr l ((apl l m).getD k 0)))) v.1 v.2) rfl rfl zao (fun v hv2=> ?_);exact yu4 ((sh1 l s ((apl l m).getD k 0),(zs.set (((apl l m).getD k 0)+1) ⟨fr (s.r*shr l ((apl l m).getD k 0)),u.1,u.2⟩),v.1,v.2)) (by dsimp only;exact ⟨hnx,qd6 hk hrun,by rw [List.map_set,hzq];rfl,SepH.fresh (by have h:=SepH.setZ (z:=⟨fr (s.r*shr l ((apl l m).getD k 0)),u.1,u.2⟩) (i:=((apl l m).getD k 0)+1) (by omega) hs hu.1.2 hu.2;exact (zem.1 h).1) hv2.1.2 (fun a ha=>hv2.2 a (zbj.2 (.inl ha))),NewH.app (NewH.setZ (by omega) (fun a ha=>hn a (zbj.2 (.inl ha))) hu.1.1) hv2.1.1⟩) ((zaq rfl zap) ((zaq rfl zap) (SubK.cons rfl zax))) (zam rfl (supJ xb2) (zam rfl (supJL rfl) (zam rfl (supJL rfl) zaz))) (lkOk rfl)
     ·
      intro D hD x hI;obtain ⟨s,zs,rn,rd⟩:=x;replace hI:ShI l ((apl l m).length) s/\shRun l s ((apl l m).drop ((apl l m).length))=(shAll l m)/\zs.map Zf.f=s.q/\SepH (hdZ zs++[rn,rd])/\NewH w.heap.size (hdZ zs++[rn,rd]):=hI;obtain ⟨hv1,hrun,hzq,hs,hn⟩:=hI;have hql:=hv1.q;have hR:=qu2 hrun;have hzl:zs.length=l.length+1:=by rw [<-hql,<-hzq,zcq]
      refine A6 ?_;refine R2 (zag sl71 rfl) rfl rfl ?_;refine RE (xa8 (e:= .val (tFrX (fr s.r) rn rd)) (0) ti41 (xn4 (f:=tZf) (xs:=zs) (by omega)) (by omega) (xm8 (f:=tZf) (m:=⟨fr s.r,rn,rd⟩) rfl)) ⟨rfl,rfl,trivial⟩ ⟨rfl,trivial⟩ trivial ?_;refine A9 ?_;refine A1 ?_;refine E_X (((zs.set 0 ⟨fr s.r,rn,rd⟩),0)) (⟨by rw [hB,hR,List.map_set,hzq];rfl,by rw [hB];rfl,sepZ0 (by omega) hs,newZ0 (by omega) hn⟩) ?_;exact yu6 (r1:= .own (.sl 25 4 0 (zs.set 0 ⟨fr s.r,rn,rd⟩).length)) (r2:= .val (tI 0)) (LentC.loop LentC.mk' hD) rfl rfl rfl (zaw (by rw [zdx,hzl])) Imp.refl ⟨rfl,trivial⟩ rfl ⟨⟨rfl,xb2⟩,trivial⟩ rfl
     ·
      intro D hD e i;exact i.elim
section
variable {K:Nat} {D B:Int} {l a b:List Tst}
end
instance fi146:FnI Tryz.prog 146:=⟨_,func146,by kernel_rfl,rfl⟩
def mk16:List Nat:=(List.range 12).map fun i=>(8000024+i)%65536
abbrev tLmW (l:List Nat):Ty:=tLW 64 1 false (fun n:Nat=>tE (.int .u16 (n:Int))) l mk16
abbrev tWhW (x:Wh):Ty:=tS [⟨1,false,tB x.neg⟩,⟨1,false,tLmW x.l⟩]
abbrev tFrW (f:Fr):Ty:=tS [⟨2,true,tWhW f.n⟩,⟨2,true,tWhW f.d⟩]
abbrev tVaW (v:Va):Ty:=tS [⟨1,false,tE (.int .u8 (v.kind:Int))⟩,⟨4,true,tFrW v.f⟩,⟨1,false,tI v.i⟩]
abbrev tTsW (s:Tst):Ty:=tS [⟨1,false,tI s.lo⟩,⟨1,false,tI s.hi⟩,⟨6,true,tVaW s.v⟩]
abbrev tTsM (x:Tst×Bool):Ty:=cond x.2 (tTsW x.1) (tTs x.1)
instance {x:Tst×Bool}:Shape (tTsM x) 8 true:=by
 obtain ⟨s,b⟩:=x;cases b
 ·exact (inferInstance:Shape (tTs s) 8 true)
 ·exact (inferInstance:Shape (tTsW s) 8 true)
theorem qf2 (k i:Nat) (hk:k < 1000) (hi:i < 10000000):
  Ct Tryz.prog 146 [tI k,tI i] (tI (1000003*((k:Int)+7)+(i:Int))):=by
 refine Ct.intro func146 rfl ntmps146 rfl ?_;intro w F;refine A9 ?_;refine R2 (xj0 zah) rfl rfl ?_;refine A6 ?_;exact E1 rfl rfl zao
end An.S
namespace An
open Go
section
variable {P:Program} {c:Base} {g:Slots} {h:Keys} {al:Names} {Q:Exit->Act->World->Prop}
end
end An
namespace An.S
open Go Go.Proofs An Tryz
def mkI (i:Nat):Int:=1000003*(((1:Nat):Int)+7)+(i:Int)
def mksI:List Int:=(List.range 12).map mkI
theorem yn8:mksI.length=12:=rfl
theorem qm9 {i:Nat} (h:i < 12):mksI.take (i+1)=mksI.take i++[mkI i]:=by
 rw [zcn (by rw [yn8];exact h)]
 congr 2
 simp [mksI]
theorem yw3 (l:List Int) (hl:l.length<=1000):
  CtG Tryz.prog 59 [] [.val (tL 1 false (fun n:Int=>tI n) l)] (.own (.sl 11 1 0 l.length)) [(11,⟨3,1,false,rV (fun n:Int=>tI n) (l++mksI)⟩)] [11]:=by
 refine CtG.intro [] func59 rfl ntmps59 rfl rfl trivial ?_;intro w F η;refine A10 ?_;refine RE (xe5 (k:=8) (t:=tI 0) (ts:=([]:List Ent)) (0) (l.length+12) zgt el3 (fun _ _=>rfl) rfl (by omega) (by omega) (by omega) (by omega) (by omega) rfl) qB trivial qA ?_;refine A7 ?_;refine RE (xc5 (k:=8) (k':=11) (f:=(fun n:Int=>tI n)) (ys:=l) (ts':=rV (fun n:Int=>tI n) l) zgt el3 zf3 rfl rfl (fun _=>inferInstance) rfl (by simp;omega) (by simp;omega) (by simp [rV]) (n':=l.length) (by simp)) ⟨rfl,rfl,trivial⟩ ⟨rfl,trivial⟩ ⟨rfl,trivial⟩ ?_;refine A10 ?_;refine cL (fun (i:Nat)=>i<=12) (fun (i:Nat)=>uV (uO (uV uN 0 (tL 1 false (fun n:Int=>tI n) l)) 3 (.sl 11 1 0 (l.length+i))) 4 (tI i)) (fun (i:Nat)=>uK uN 11 3 1 false (rV (fun n:Int=>tI n) (l++mksI.take i))) [11] (fun (i:Nat)=>12 - i) (0) (zbs _) (hh:=((zaq rfl (zat (by rw [List.take_zero,zfg]))) zax)) ?_;intro i hI;have htl:(l++mksI.take i).length=l.length+i:=by rw [zck,zcz,yn8];omega
 refine A7 ?_;refine xa6 rfl (fun h94=> ?_) (fun h94=> ?_)
 ·
  refine A7 ?_;refine R2 (x3 (qf2 1 i (by decide) (by omega)) fi146 rfl) rfl rfl (R1 (xb6 (n:=1) (f:=(fun n:Int=>tI n)) [(mkI i)] zgt el3 zf3 rfl (fun _=>inferInstance) rfl rfl rfl) rfl (RE (xc5 (k:=11) (k':=20) (f:=(fun n:Int=>tI n)) (ys:=[(mkI i)]) (ts':=rV (fun n:Int=>tI n) (l++mksI.take i++[(mkI i)])) zgt el3 zf3 rfl rfl (fun _=>inferInstance) (xe0.trans htl) (by simp;omega) (by simp;omega) (by simp [rV]) (n':=l.length+i+1) rfl) qB qA qA ?_));refine A9 ?_;exact xh0 (l:=[11]) (zab 11 20) (i+1) ⟨(by omega),(by omega)⟩ (zaf rfl (zas rfl (zas rfl zbd))) ((zbb rfl (zat (by rw [qm9 (by omega),<-zfz];exact xc2.symm))) zbe) (zaj (zak rfl (zaj zar))) (zam rfl (supJ xb2) zaz) (lkOk rfl) rfl rfl (fun _ h=>by cases h)
 ·
  refine A6 ?_;have hi12:i=12:=by omega
  subst hi12;have e12:mksI.take 12=mksI:=rfl;refine A4 ?_;refine R2 (xv9 sl23 l.length (by omega) (by omega) rfl) rfl rfl ?_;refine A4 ?_;exact xg3 LentC.mk' rfl rfl Imp.refl qA rfl ⟨⟨rfl,xb2⟩,trivial⟩ rfl
theorem yg4 (l:List Fr) (k:Nat) (hk:k < l.length):l.take (k+1)=l.take k++[l.getD k fr0]:=by
 rw [zcn hk,zbh,zbk hk];rfl
theorem qa8 (xs ys:List Fr):
  Ct Tryz.prog 65 [tL 4 true tFr xs,tL 4 true tFr ys] (tB (decide (xs=ys))):=by
 refine Ct.intro func65 rfl ntmps65 rfl ?_;intro w F;refine xj5 (s:=0) rfl (fun hl0=> ?_);refine A15 ?_;refine xa6 rfl (fun h124=> ?_) (fun h124=> ?_)
 ·
  refine A7 ?_;exact E1 rfl rfl (zau (zbf (fun h=>by rw [h] at h124;omega)).symm)
 ·
  have hll:xs.length=ys.length:=by omega
  refine A9 ?_;refine cL (fun (i:Nat)=>i<=xs.length/\xs.take i=ys.take i) (fun (i:Nat)=>uV (uV (uV uN 0 (tL 4 true tFr xs)) 1 (tL 4 true tFr ys)) 5 (tI i)) (fun (i:Nat)=>fun _=>none) [] (fun (i:Nat)=>xs.length - i) (0) ⟨zbs _,rfl⟩ ?_;intro i hI;obtain ⟨hi,ht⟩:=hI;refine A9 ?_;refine xa6 rfl (fun h127=> ?_) (fun h127=> ?_)
  ·
   refine A8 ?_;refine R2 (x8 sl71 i (by omega) (gD (d:=fr0) (by omega))) rfl rfl ?_;refine A3 ?_;refine R2 (x8 sl71 i (by omega) (gD (d:=fr0) (by omega))) rfl rfl ?_;refine A1 ?_;refine R2 (x3 (zf6 _ _) fi86 rfl) rfl rfl ?_;refine A3 ?_;refine C_ifn rfl (fun h128=> ?_) (fun h128=> ?_)
   ·
    refine A11 ?_;exact E1 rfl rfl (zau (zbf (fun h=>by rw [h] at h128;exact (h128 rfl))).symm)
   ·
    refine A8 ?_;exact kF (i+1) ⟨⟨by omega,by rw [yg4 xs i (by omega),yg4 ys i (by omega),ht,show xs.getD i fr0=ys.getD i fr0 from h128]⟩,(by omega)⟩
  ·
   refine A11 ?_;exact E1 rfl rfl (zau (zbg (by rw [show i=xs.length by omega,zci,hll,zci] at ht;exact ht)).symm)
instance fi149:FnI Tryz.prog 149:=⟨_,func149,by kernel_rfl,rfl⟩
instance fi227:FnI Tryz.prog 227:=⟨_,func227,by kernel_rfl,rfl⟩
theorem yr8 {l:List Deal} (h:validL l=true):l.length<=16:=xf8 h
def sp (l:List Deal) (m:Int) (j:Nat):Sh:=shRun l ⟨List.replicate (l.length+1) (fr ((0:Int):Rat)),((1:Int):Rat)⟩ (apl1 l m j)
theorem zd2 {l:List Deal} {i:Nat}: ∀(is:List Nat) (s:Sh),shRun l s (is++[i])=sh1 l (shRun l s is) i
 | [],s=>rfl
 | j::r,s=>by rw [List.cons_append,shRun,zd2 r];rfl
theorem zr6 {l:List Deal} {m:Int} {j:Nat} (h:(l.getD j deal0).on m=true):sp l m (j+1)=sh1 l (sp l m j) j:=by
 rw [sp,apl1_yes h,zd2];rfl
theorem qm0 {l:List Deal} {m:Int} {j:Nat} (h:(l.getD j deal0).on m=false):sp l m (j+1)=sp l m j:=by
 rw [sp,apl1_no h];rfl
theorem jm3 {l:List Deal} {m:Int}:sp l m 0=⟨List.replicate (l.length+1) (fr ((0:Int):Rat)),((1:Int):Rat)⟩:=rfl
theorem qu4 {l:List Deal} {m:Int}:sp l m l.length=shAll l m:=rfl
def xk (l:List Deal) (m:Int) (j:Nat):Rat:=bif (l.getD j deal0).on m then (sp l m j).r*shr l j else 0
section
variable {l:List Deal} {m:Int}
theorem sp_r (j:Nat):(sp l m (j+1)).r=(sp l m j).r - xk l m j:=by
 cases h:(l.getD j deal0).on m with
 | true=>rw [zr6 h,xk,h];rfl
 | false=>rw [qm0 h,xk,h];simp only [zeq];grind
theorem sp_I (hv:validL l=true) (hD: ∀d∈l,d.share.dig): ∀j,j<=l.length->ShI l j (sp l m j)
 | 0,_=>shI0
 | j+1,hj=>by
  have h:=sp_I hv hD j (by omega);cases ho:(l.getD j deal0).on m with
  | true=>rw [zr6 ho];exact h.next hv hD (by omega)
  | false=>rw [qm0 ho];exact ⟨h.q,h.lo,h.hi,by have:=h.den;omega⟩
theorem yv9 {q:List Fr} {i j:Nat} {x:Fr} (h:i < q.length):(q.set i x).getD j fr0=if j=i then x else q.getD j fr0:=by
 rw [zbh,zbh,zeo];by_cases hij:i=j
 ·subst hij;simp [h]
 ·rw [if_neg hij,if_neg (fun e=>hij e.symm)]
theorem sp_q (hv:validL l=true) (hD: ∀d∈l,d.share.dig): ∀j,j<=l.length-> ∀k,k < l.length->(sp l m j).q.getD (k+1) fr0=if k < j then fr (xk l m k) else fr 0
 | 0,_,k,hk=>by
  rw [jm3,if_neg (by omega),zbh,zfp,if_pos (by omega)];rfl
 | j+1,hj,k,hk=>by
  have hq:=(sp_I (m:=m) hv hD j (by omega)).q;have ih:=sp_q hv hD j (by omega) k hk;cases ho:(l.getD j deal0).on m with
  | true=>
   rw [zr6 ho];simp only [sh1];rw [yv9 (by omega)];by_cases hkj:k=j
   ·subst hkj;rw [if_pos rfl,if_pos (by omega),xk,ho];rfl
   ·rw [if_neg (by omega),ih];by_cases h2:k < j
    ·rw [if_pos h2,if_pos (by omega)]
    ·rw [if_neg h2,if_neg (by omega)]
  | false=>
   rw [qm0 ho,ih];by_cases hkj:k=j
   ·subst hkj;rw [if_neg (by omega),if_pos (by omega),xk,ho];rfl
   ·by_cases h2:k < j
    ·rw [if_pos h2,if_pos (by omega)]
    ·rw [if_neg h2,if_neg (by omega)]
def shQ (l:List Deal) (m:Int):List Fr:=(shAll l m).q.set 0 (fr (shAll l m).r)
def xv24 (l:List Deal) (m:Int) (i:Nat):Rat:=if i=0 then (shAll l m).r else xk l m (i - 1)
theorem zj4 (hv:validL l=true) (hD: ∀d∈l,d.share.dig):(shQ l m).length=l.length+1:=by
 rw [shQ,zdx];exact (sp_I (m:=m) hv hD l.length (zbm _)).q
theorem qw7 (hv:validL l=true) (hD: ∀d∈l,d.share.dig) {i:Nat} (hi:i < l.length+1):(shQ l m).getD i fr0=fr (xv24 l m i):=by
 have hq:=(sp_I (m:=m) hv hD l.length (zbm _)).q;rw [qu4] at hq;rw [shQ,yv9 (by omega),xv24];by_cases h0:i=0
 ·rw [if_pos h0,if_pos h0]
 ·rw [if_neg h0,if_neg h0];obtain ⟨k,rfl⟩: ∃k,i=k+1:=⟨i - 1,by omega⟩
  have:=sp_q (m:=m) hv hD l.length (zbm _) k (by omega);rw [if_pos (by omega),qu4] at this;exact this
end
theorem sum_fr {a b:Rat}:Rat.divInt (a.num*(b.den:Int)+b.num*(a.den:Int)) ((a.den:Int)*(b.den:Int))=a+b:=by
 rw [Rat.add_def,<-zdr,Rat.divInt_ofNat,Rat.normalize_eq_mkRat]
theorem qn1 {b:Rat} (h:short b):short (-b):=⟨by rw [Rat.neg_num,len16_neg];exact h.1,by rw [Rat.neg_den];exact h.2⟩
theorem zc5:short ((0:Int):Rat):=by
 have h:=yg7 (n:=0) (len16_small (by decide) (by decide));exact h
def shP (l:List Deal) (m:Int) (i:Nat):List Fr:=fr ((0:Int):Rat)::(List.range i).map fun k=>fr (xk l m k)
theorem yd3 {l:List Deal} {m:Int} {i:Nat}:(shP l m i).length=i+1:=by simp [shP]
theorem zu0 {l:List Deal} {m:Int} {i:Nat}:shP l m (i+1)=shP l m i++[fr (xk l m i)]:=by simp [shP,List.range_succ]
theorem ji2 {l:List Deal} {m:Int} (hv:validL l=true) (hD: ∀d∈l,d.share.dig):(shP l m l.length).set 0 (fr (sp l m l.length).r)=shQ l m:=by
 apply zes;intro i;have hq:=zj4 (m:=m) hv hD;rcases zcs i (l.length+1) with h | h
 ·have e:=qw7 (m:=m) hv hD h;rw [zbh,zbk (by omega),Option.getD_some] at e;rw [zbk (show i < (shQ l m).length by omega),e,xv24];cases i with
  | zero=>rw [shP,List.set_cons_zero];rfl
  | succ k=>
   rw [if_neg (by omega),shP,List.set_cons_zero,List.getElem?_cons_succ,zbp,zeh (by omega)];rfl
 ·rw [zcp (by rw [zdx,yd3];omega),zcp (by omega)]
theorem zz5 {l:List Deal} {m:Int} {i:Nat} (hv:validL l=true) (hD: ∀d∈l,d.share.dig) (hi:i < l.length):short (xk l m i):=by
 have h:=sp_I (m:=m) hv hD i (by omega);have:=yr8 hv;rw [xk];cases ho:(l.getD i deal0).on m with
 | true=>exact h.shortM (by omega) hv hD hi
 | false=>exact zc5
theorem xk_on {l:List Deal} {m:Int} {i:Nat} (h:(l.getD i deal0).on m=true):xk l m i=(sp l m i).r*shr l i:=by rw [xk,h];rfl
theorem xk_off {l:List Deal} {m:Int} {i:Nat} (h:(l.getD i deal0).on m=false):xk l m i=((0:Int):Rat):=by rw [xk,h];rfl
theorem yo7 {l:List Deal} {m:Int} {i:Nat} (hv:validL l=true) (hD: ∀d∈l,d.share.dig) (hi:i<=l.length):short (sp l m i).r:=by
 have:=yr8 hv;exact (sp_I (m:=m) hv hD i hi).short (by omega)
theorem ja6 (a b:Rat) (ha:short a) (hb:short b):
  Ct Tryz.prog 227 [tFr (fr a),tFr (fr b)] (tFr (fr (a+b))):=by
 obtain ⟨an,ad⟩:=ha;obtain ⟨bn,bd⟩:=hb;have ha:short a:=⟨an,ad⟩
 have hb:short b:=⟨bn,bd⟩
 have da:=a.den_nz;have db:=b.den_nz;have l1:=len16_mul an bd;have l2:=len16_mul bn ad;have l3:=len16_mul ad bd;have l4:=len16_add l1 l2;refine Ct.intro func227 rfl ntmps227 rfl ?_;intro w F;refine A4 ?_;refine RE (xa3 (k:=4) (n:=4) (agg:=true) zr41.1 zr41.2 rfl) trivial trivial qA ?_;refine A8 ?_;refine R2 (x3 (xm2 a.num (b.den:Int) (by omega) (by omega)) fi140 rfl) rfl rfl ?_;refine A4 ?_;refine R2 (x3 (xm2 b.num (a.den:Int) (by omega) (by omega)) fi140 rfl) rfl rfl (R2 (x3 (qz4 (a.num*(b.den:Int)) (b.num*(a.den:Int)) (by omega) (by omega)) fi217 rfl) rfl rfl (RE (xa3 (k:=5) (n:=2) (agg:=true) zr39.1 zr39.2 rfl) trivial trivial qA ?_));refine A10 ?_;refine R2 (x3 (xm2 (a.den:Int) (b.den:Int) (by omega) (by omega)) fi140 rfl) rfl rfl (R2 (x3 (ys7 (a.num*(b.den:Int)+b.num*(a.den:Int)) ((a.den:Int)*(b.den:Int)) (by omega) (by omega) (Int.mul_ne_zero (by omega) (by omega))) fi70 rfl) rfl rfl ?_);refine A4 ?_;exact EC rfl ⟨_,_,_,_,_,rfl,rfl,ti41,(Le.of (by rw [sum_fr]))⟩
theorem qw3 (a b:Rat) (ha:short a) (hb:short b):Ct Tryz.prog 227 [tFr (fr a),tFr ⟨wh (-b.num),wh (b.den:Int)⟩] (tFr (fr (a - b))):=by
 have h:=ja6 a (-b) ha (qn1 hb);rw [show a+ -b=a - b from (Rat.sub_eq_add_neg a b).symm] at h;exact h
theorem zm2 (a b:Rat) (ha:short a) (hb:short b):
  Ct Tryz.prog 149 [tFr (fr a),tFr (fr b)] (tFr (fr (a - b))):=by
 refine Ct.intro func149 rfl ntmps149 rfl ?_;intro w F;refine A4 ?_;refine RE (xa3 (k:=4) (n:=4) (agg:=true) zr41.1 zr41.2 rfl) trivial trivial qA ?_;refine A7 ?_;refine R1 (x3 (qt3 b.num) fi218 rfl) rfl ?_;refine A2 ?_;refine R2 (xb7 (r:=tS [⟨2,true,tWh (wh (-b.num))⟩,⟨2,true,tWh (wh (b.den:Int))⟩]) (ts:=[(0,tWh (wh (-b.num))),(1,tWh (wh (b.den:Int)))]) bu41 zr41.2 (Bc 0 rfl rfl rfl (Bc 1 rfl rfl rfl zao))) rfl rfl (R2 (x3 (qw3 a b ha hb) fi227 rfl) rfl rfl ?_);refine A4 ?_;exact EC rfl ⟨_,_,_,_,_,rfl,rfl,ti41,zao⟩
theorem qm5 (r:Rat) (l:List Deal) (i:Nat) (hv:validL l=true) (hD: ∀d∈l,d.share.dig) (hi:i < l.length) (h1:short r):Ct Tryz.prog 148 [tFr (fr r),tFr (l.getD i deal0).share] (tFr (fr (r*shr l i))):=by
 obtain ⟨s1,s2,e⟩:=yi5 hv hD hi;have h:=qo1 r (shr l i) h1 (yf7 (by omega) (by omega));rw [e];exact h
theorem qb5 (l:List Deal) (m:Int) (hd: ∀d∈l,d.share.dig):
  Ct Tryz.prog 62 [tL 7 true tDeal l,tI m] (tT [tL 4 true tFr (bif shBad l m then [] else (shAll l m).q.set 0 (fr (shAll l m).r)),tI (bif shBad l m then 2 else 0)]):=by
 refine Ct.intro func62 rfl ntmps62 rfl ?_;intro w F;refine A10 ?_;refine R1 (x3 (ya9 l hd) fi14 rfl) rfl ?_;refine A2 ?_;refine RGcase (t:=13) rfl (fun h139=> ?_) (fun h139=> ?_)
 ·
  have hB:shBad l m=true:=by rw [shBad,h139];rfl
  refine A18 ?_;exact E2 rfl rfl rfl (leNil (by rw [hB];rfl)) (zba (by rw [hB];rfl))
 ·
  have hv:validL l=true:=by rw [Bool.not_eq_false'] at h139;exact h139
  have hl16:=xf8 hv;refine A4 ?_;refine RGcaseD (t:=17) rfl (fun h139_2=> ?_) (fun h139_2=> ?_)
  ·
   have hB:shBad l m=true:=by rw [shBad,zbg h139_2];simp
   refine A14 ?_;exact E2 rfl rfl rfl (leNil (by rw [hB];rfl)) (zba (by rw [hB];rfl))
  ·
   refine A5 ?_;refine xa6 rfl (fun h139_3=> ?_) (fun h139_3=> ?_)
   ·
    have hB:shBad l m=true:=by rw [shBad,zbg h139_3];simp
    refine A8 ?_;exact E2 rfl rfl rfl (leNil (by rw [hB];rfl)) (zba (by rw [hB];rfl))
   ·
    have hB:shBad l m=false:=by rw [shBad,hv,zbf h139_2,zbf h139_3];rfl
    refine A4 ?_;refine R1 (x3 (xs0 0 (by decide) (by decide)) fi23 rfl) rfl (RE (xi0 (k:=22) (ents:=rV tFr [fr ((0:Int):Rat)]) zhc el41 zf41 rfl (fun e he=>by simp only [rV,zcx,zfn,zbq] at he;subst he;infer_instance) rfl rfl rfl) qA trivial qA ?_);refine A5 ?_;refine R1 (x3 (xs0 1 (by decide) (by decide)) fi23 rfl) rfl (RE (xa3 (k:=7) (n:=4) (agg:=true) zr41.1 zr41.2 rfl) trivial trivial qA ?_);refine A10 ?_;refine cL (fun (i:Nat)=>i<=l.length) (fun (i:Nat)=>uV (uO (uO (uV (uV uN 0 (tL 7 true tDeal l)) 1 (tI m)) 6 (.sl 22 4 0 (i+1))) 7 (.ptr 7 0)) 8 (tI i)) (fun (i:Nat)=>uK (uK uN 7 41 4 true [.val (tFr (fr (sp l m i).r))]) 22 41 4 true (rV tFr (shP l m i))) [7,22] (fun (i:Nat)=>l.length - i) (0) (zbs _) (hh:=((zaq rfl (zat rfl)) ((zaq rfl (zat rfl)) zax))) ?_;intro i hI;refine A9 ?_;refine xa6 rfl (fun h144=> ?_) (fun h144=> ?_)
    ·
     refine A6 ?_;refine R1 (x3 (xs0 0 (by decide) (by decide)) fi23 rfl) rfl (RE (xa3 (k:=9) (n:=4) (agg:=true) zr41.1 zr41.2 rfl) trivial trivial qA ?_);refine A8 ?_;refine R2 (x8 sl30 (i) (by omega) (zai (l:=l) (n:=i) (d:=deal0))) rfl rfl ?_;refine A2 ?_;refine R2 (x3 (yq6 (l.getD i deal0) m) fi147 rfl) rfl rfl ?_;refine A2 ?_;refine xc7 rfl (fun h146=> ?_) (fun h146=> ?_)
     ·
      have hon:(l.getD i deal0).on m=true:=h146;refine A4 ?_;refine R2 (x8 sl30 (i) (by omega) (zai (l:=l) (n:=i) (d:=deal0))) rfl rfl (R1 (xf1 fo79_2.h (At.f 2 rfl rfl) rfl) rfl ?_);refine A1 ?_;refine R2 (x3 (qm5 (sp l m i).r l i hv hd (by omega) (yo7 hv hd (by omega))) fi148 rfl) rfl rfl ?_;refine A4 ?_;have hxs:short ((sp l m i).r*shr l i):=by have h:=zz5 (m:=m) hv hd (show i < l.length by omega);rwa [xk_on hon] at h
      refine A3 ?_;refine R1 (xb6 (n:=1) (f:=tFr) [fr ((sp l m i).r*shr l i)] zhc el41 zf41 rfl (fun _=>inferInstance) rfl rfl rfl) rfl (RE (xc5 (k:=22) (k':=47) (f:=tFr) (ys:=[fr ((sp l m i).r*shr l i)]) (ts':=rV tFr ((shP l m i)++[fr ((sp l m i).r*shr l i)])) zhc el41 zf41 rfl rfl (fun _=>inferInstance) (xe0.trans yd3) (by simp;omega) (by simp;omega) (by simp [rV]) (n':=i+1+1) rfl) qB qA qA ?_);refine A6 ?_;refine R2 (x3 (zm2 (sp l m i).r ((sp l m i).r*shr l i) (yo7 hv hd (by omega)) hxs) fi149 rfl) rfl rfl ?_;refine A9 ?_;have hx:=xk_on (l:=l) (m:=m) hon;have hr2:=sp_r (l:=l) (m:=m) i;exact xh0 (l:=[7,22]) (zab 22 47) (i+1) ⟨(by omega),(by omega)⟩ (zaf rfl (zas rfl (zas rfl (zaf rfl (zas rfl zbd))))) ((zbb rfl (zat (by rw [zu0,hx];exact xc2.symm))) ((zbb rfl (zat (by rw [hr2,hx];rfl))) zbe)) (zaj (zak rfl (zak rfl (zaj (zaj zar))))) (zam rfl (supJ xb2) (zam rfl (supJL rfl) zaz)) (lkOk rfl) rfl rfl (fun _ h=>by cases h)
     ·
      have hon:(l.getD i deal0).on m=false:=h146;refine A3 ?_;have hxs:short ((0:Int):Rat):=zc5;refine A3 ?_;refine R1 (xb6 (n:=1) (f:=tFr) [fr ((0:Int):Rat)] zhc el41 zf41 rfl (fun _=>inferInstance) rfl rfl rfl) rfl (RE (xc5 (k:=22) (k':=47) (f:=tFr) (ys:=[fr ((0:Int):Rat)]) (ts':=rV tFr ((shP l m i)++[fr ((0:Int):Rat)])) zhc el41 zf41 rfl rfl (fun _=>inferInstance) (xe0.trans yd3) (by simp;omega) (by simp;omega) (by simp [rV]) (n':=i+1+1) rfl) qB qA qA ?_);refine A6 ?_;refine R2 (x3 (zm2 (sp l m i).r ((0:Int):Rat) (yo7 hv hd (by omega)) hxs) fi149 rfl) rfl rfl ?_;refine A9 ?_;have hx:=xk_off (l:=l) (m:=m) hon;have hr2:=sp_r (l:=l) (m:=m) i;exact xh0 (l:=[7,22]) (zab 22 47) (i+1) ⟨(by omega),(by omega)⟩ (zaf rfl (zas rfl (zas rfl (zaf rfl (zas rfl zbd))))) ((zbb rfl (zat (by rw [zu0,hx];exact xc2.symm))) ((zbb rfl (zat (by rw [hr2,hx];rfl))) zbe)) (zaj (zak rfl (zak rfl (zaj (zaj zar))))) (zam rfl (supJ xb2) (zam rfl (supJL rfl) zaz)) (lkOk rfl) rfl rfl (fun _ h=>by cases h)
    ·
     refine A6 ?_;have hil:i=l.length:=by omega
     subst hil;refine A3 ?_;refine R2 (zag sl71 rfl) rfl rfl (RE (xa8 (0) ti41 (xn4 (by rw [yd3];omega)) (by omega) (xm8 (m:=fr (sp l m l.length).r) rfl)) qB qA trivial ?_);refine A5 ?_;refine RE (xo2 (f:=tFr) (xs:=(shP l m l.length).set 0 (fr (sp l m l.length).r)) (fun _ h=>h) (xn8 (by rw [zdx];exact yd3)) (by rw [zdx];exact yd3)) qA qA trivial ?_;refine A4 ?_;exact E2 rfl rfl rfl (Le.of (by rw [hB,ji2 hv hd];rfl)) (zba (by rw [hB];rfl))
theorem qn0 (l:List Deal) (o:Int) (b p:List Int) (hd: ∀d∈l,d.share.dig) (hl:l.length<=16):
  Ct Tryz.prog 66 [tL 7 true tDeal l,tState o b p] (tB true):=by
 refine Ct.intro func66 rfl ntmps66 rfl ?_;intro w F;refine A10 ?_;refine R2 (x3 (c_Sums l o b p hd) fi150 rfl) rfl rfl ?_;refine A10 ?_;refine R1 (x3 (jo9 l hl) fi15 rfl) rfl ?_;refine A1 ?_;refine R1 (x3 (y8 o b p) fi18 rfl) rfl (R2 (x3 (qq5 l o b p hd) fi151 rfl) rfl rfl ?_);refine A14 ?_;refine Rg (zbf (by exact fun h=>h rfl)) rfl xa4 rfl qA (Rg (zbf (by exact fun h=>h rfl)) rfl (yh7 zhf) rfl qA (Rg (zbf (by exact fun h=>h rfl)) rfl xa4 rfl qA (Rg (zbf (by exact fun h=>h rfl)) rfl (yh7 zhh) rfl qA (Rg (zbf (by exact fun h=>h rfl)) rfl yb3 rfl qB (R2 (xc8 (zbf (by exact fun h=>h rfl))) rfl rfl ?_)))));refine A2 ?_;refine xi9 rfl (zbf (by exact fun h=>h rfl)) ?_;refine A9 ?_;refine xj5 (s:=5) rfl (fun hl5=> ?_);refine cL (fun (i:Nat)=>i<=(if rightL l o b p=true then (sumsL o (mpS l p l.length)) else []).length) (fun (i:Nat)=>uV (uV (uV uN 5 (tL 2 true tSm (if rightL l o b p=true then (sumsL o (mpS l p l.length)) else []))) 7 (tL 2 true tSm (if rightL l o b p=true then (sumsL o (mpS l p l.length)) else []))) 9 (tI i)) (fun (i:Nat)=>fun _=>none) [] (fun (i:Nat)=>(if rightL l o b p=true then (sumsL o (mpS l p l.length)) else []).length - i) (0) (zbs _) ?_;intro i hI;refine A9 ?_;refine xa6 rfl (fun h87=> ?_) (fun h87=> ?_)
 ·
  refine A8 ?_;refine R2 (x8 sl156 (i) (by omega) (zai (l:=(if rightL l o b p=true then (sumsL o (mpS l p l.length)) else [])) (n:=i) (d:=sm0))) rfl rfl (R1 (xf1 fo163_0.h (At.f 0 rfl rfl) rfl) rfl ?_);refine A3 ?_;refine R2 (x8 sl159 (i) (by omega) (zai (l:=(if rightL l o b p=true then (sumsL o (mpS l p l.length)) else [])) (n:=i) (d:=sm0))) rfl rfl (R1 (xf1 fo164_0.h (At.f 0 rfl rfl) rfl) rfl ?_);refine A3 ?_;refine Rg (zbf (by exact fun h=>h rfl)) rfl xa4 rfl ⟨rfl,trivial⟩ (Rg (zbf (by exact fun h=>h rfl)) rfl xa4 rfl ⟨rfl,trivial⟩ (Rg (zbf (by exact fun h=>h rfl)) rfl (x8 sl156 (i) (by omega) (zai (l:=(if rightL l o b p=true then (sumsL o (mpS l p l.length)) else [])) (n:=i) (d:=sm0))) rfl ⟨rfl,rfl,trivial⟩ (Rg (zbf (by exact fun h=>h rfl)) rfl (xf1 fo163_1.h (At.f 1 rfl rfl) rfl) rfl ⟨rfl,trivial⟩ (Rg (zbf (by exact fun h=>h rfl)) rfl (xi6 ti3) rfl ⟨rfl,trivial⟩ (Rg (zbf (by exact fun h=>h rfl)) rfl xa4 rfl ⟨rfl,trivial⟩ (Rg (zbf (by exact fun h=>h rfl)) rfl xa4 rfl ⟨rfl,trivial⟩ (Rg (zbf (by exact fun h=>h rfl)) rfl (x8 sl159 (i) (by omega) (zai (l:=(if rightL l o b p=true then (sumsL o (mpS l p l.length)) else [])) (n:=i) (d:=sm0))) rfl ⟨rfl,rfl,trivial⟩ (Rg (zbf (by exact fun h=>h rfl)) rfl (xf1 fo164_1.h (At.f 1 rfl rfl) rfl) rfl ⟨rfl,trivial⟩ (Rg (zbf (by exact fun h=>h rfl)) rfl (xi6 ti3) rfl ⟨rfl,trivial⟩ (Rg (zbf (by exact fun h=>h rfl)) rfl yb3 rfl ⟨rfl,rfl,trivial⟩ (R2 (xc8 (zbf (by exact fun h=>h rfl))) rfl rfl ?_)))))))))));refine A2 ?_;refine xi9 rfl (zbf (by exact fun h=>h rfl)) ?_;refine A8 ?_;exact kF (i+1) ⟨(by omega),(by omega)⟩
 ·
  refine A11 ?_;exact E1 rfl rfl zao
theorem jd0 (l:List Deal) (hl:l.length<=1000):
  Ct Tryz.prog 15 [tL 7 true tDeal l] (tL 7 true tDeal l):=by
 refine Ct.intro func15 rfl ntmps15 rfl ?_;intro w F;refine A7 ?_;refine RE (xh7 (k:=3) 79 7 true rfl (fun h=>by cases h)) trivial trivial qA ?_;refine A9 ?_;refine cL (fun (i:Nat)=>i<=l.length) (fun (i:Nat)=>uV (uO (uV uN 0 (tL 7 true tDeal l)) 3 (.sl 3 7 0 i)) 4 (tI i)) (fun (i:Nat)=>uK uN 3 79 7 true (rV tDeal (l.take i))) [3] (fun (i:Nat)=>l.length - i) (0) (zbs _) ?_;intro i hI;have htl:(l.take i).length=i:=by rw [zcz];omega
 refine A9 ?_;refine xa6 rfl (fun h46=> ?_) (fun h46=> ?_)
 ·
  refine A8 ?_;refine R2 (x8 sl22 (i) (by omega) (zai (l:=l) (n:=i) (d:=deal0))) rfl rfl (R1 (xf1 fo44_0.h (At.f 0 rfl rfl) rfl) rfl ?_);refine A3 ?_;refine R2 (x8 sl22 (i) (by omega) (zai (l:=l) (n:=i) (d:=deal0))) rfl rfl (R1 (xf1 fo44_1.h (At.f 1 rfl rfl) rfl) rfl ?_);refine A3 ?_;refine R2 (x8 sl22 (i) (by omega) (zai (l:=l) (n:=i) (d:=deal0))) rfl rfl (R1 (xf1 fo44_2.h (At.f 2 rfl rfl) rfl) rfl ?_);refine A3 ?_;refine R2 (x8 sl22 (i) (by omega) (zai (l:=l) (n:=i) (d:=deal0))) rfl rfl (R1 (xf1 fo44_3.h (At.f 3 rfl rfl) rfl) rfl ?_);refine A1 ?_;refine Rt (xb7 (r:=tS [⟨1,false,tI (l.getD i deal0).lo⟩,⟨1,false,tI (l.getD i deal0).hi⟩,⟨4,true,tFr (l.getD i deal0).share⟩,⟨1,false,tI (l.getD i deal0).acc⟩]) (ts:=[(0,tI (l.getD i deal0).lo),(1,tI (l.getD i deal0).hi),(2,tFr (l.getD i deal0).share),(3,tI (l.getD i deal0).acc)]) bu79 zr79.2 (Bc 0 rfl rfl rfl (Bc 1 rfl rfl rfl (Bc 2 rfl rfl rfl (Bc 3 rfl rfl rfl zao))))) qD (R1 (xb6 (n:=1) (f:=tDeal) [(l.getD i deal0)] zhg el79 zf79 rfl (fun _=>inferInstance) rfl rfl rfl) rfl (RE (xc5 (k:=3) (k':=34) (f:=tDeal) (ys:=[(l.getD i deal0)]) (ts':=rV tDeal (l.take i++[(l.getD i deal0)])) zhg el79 zf79 rfl rfl (fun _=>inferInstance) (xe0.trans htl) (by simp;omega) (by simp;omega) (by simp [rV]) (n':=i+1) rfl) qB qA qA ?_));refine A9 ?_;exact xh0 (l:=[3]) (zab 3 34) (i+1) ⟨(by omega),(by omega)⟩ (zaf rfl (zas rfl (zas rfl zbd))) ((zbb rfl (zat (by rw [zg0 (by omega)];exact xc2.symm))) zbe) (zaj (zak rfl (zaj zar))) (zam rfl (supJ xb2) zaz) (lkOk rfl) rfl rfl (fun _ h=>by cases h)
 ·
  refine A7 ?_;refine RE (xi5 (f:=tDeal) (xs:=l.take i) (fun _ h=>h) (xn8 htl) htl) qA qA trivial ?_;refine A4 ?_;exact E1 rfl rfl (Le.of (by rw [show i=l.length by omega,zci]))
theorem jb9 (xs:List Fr):Ct Tryz.prog 65 [tL 4 true tFr xs,tL 4 true tFr xs] (tB true):=by
 have h:=qa8 xs xs;rw [zbg rfl] at h;exact h
abbrev tWhV (V:VM) (x:Wh):Ty:=tS [⟨1,false,tB x.neg⟩,⟨1,false,tSlV V x.l.length⟩]
abbrev tFrV (V:VM) (f:Fr):Ty:=tS [⟨2,true,tWhV V f.n⟩,⟨2,true,tWhV V f.d⟩]
abbrev tVaV (V:VM) (v:Va):Ty:=tS [⟨1,false,tE (.int .u8 (v.kind:Int))⟩,⟨4,true,tFrV V v.f⟩,⟨1,false,tI v.i⟩]
abbrev tTsV (V:VM) (s:Tst):Ty:=tS [⟨1,false,tI s.lo⟩,⟨1,false,tI s.hi⟩,⟨6,true,tVaV V s.v⟩]
abbrev tTsVM (V:VM) (x:Tst×Bool):Ty:=cond x.2 (tTsV V x.1) (tTs x.1)
instance {V:VM} {x:Tst×Bool}:Shape (tTsVM V x) 8 true:=by
 obtain ⟨s,b⟩:=x;cases b
 ·exact (inferInstance:Shape (tTs s) 8 true)
 ·exact (inferInstance:Shape (tTsV V s) 8 true)
end An.S
