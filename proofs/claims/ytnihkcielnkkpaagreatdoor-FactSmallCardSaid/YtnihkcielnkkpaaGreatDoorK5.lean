/- Part 5 of a proof: LibFa, LibFb, LibFc, J1, LibFg, LibGc, G4, X2, X3, G6, Z1, Z2, J2, LibFd, LibFe, J3, J4, LibFf, LibGk, G7, LibKf. -/
import Derived.Laws.Strings3
import Derived.Test.YtnihkcielnkkpaaGreatDoorK4
set_option maxHeartbeats 4000000
set_option maxRecDepth 100000
namespace An
open Go
def CtU (P:Program) (X:OvJ) (f:FuncId) (H:List (Nat×HEnt)) (ps:List Ent) (n m:Nat) (r:Value):Prop:=
 ∀(w:World) (η:Env) (vs:List Value),SatL (fun _=>False) w η ps vs->AllK (fun _=>False) w η H->InjK η H->(∀b,X.D b->b < w.heap.size/\ ¬OwnK η H b)->X.J n w->
  Calls P f vs.toArray w fun e w'=>e= .returned r/\Stp (fun b=>OwnK η H b∨X.D b) w w'/\X.J m w'
def PostU (P:Program) (X:OvJ) (w:World) (η:Env) (fn:Func) (H:List (Nat×HEnt)) (m:Nat) (r:Value):Exit->Act->World->Prop:=PostR P fn fun v w'=>v=r/\Stp (fun b=>OwnK η H b∨X.D b) w w'/\X.J m w'
section
variable {P:Program} {X:OvJ}
theorem CtU.intro {f:FuncId} {fn:Func} {x:Code} {N n m:Nat} {r:Value} {H:List (Nat×HEnt)} {ps:List Ent} (K:Nat) (l0:List Nat) (hf:P.funcs[f]? =some fn) (hb:fn.body=some x) (hN:fn.ntmps=N) (hlb:Nat.ble ps.length N=true) (hl0:subN (suppE ps) l0=true) (hlH:SupHs H l0) (hK:memN K l0=false)
  (hw: ∀w η,OvC (Base.over N w (fun _=>False) η l0 H K X) w η H K X->wc P (Base.over N w (fun _=>False) η l0 H K X) x (PostU P X w η fn H m r) (argsE 0 ps) (keysOf ((K,⟨n,1,false,[]⟩)::H)) (nm (K::l0))):CtU P X f H ps n m r:=by
 intro w η vs hvs hAK hinj hD hJ;have hl:ps.length<=N:=zdo hlb;have hlen:=hvs.len;have hKl: ∀k∈l0,k≠K:=fun k hk e=>by subst e;rw [xb2.2 hk] at hK;cases hK
 have hmem: ∀k∈suppE ps++suppH H,k∈l0:=fun k hk=>by
  rcases zbp.1 hk with hk | hk
  ·exact xe8 hl0 k hk
  ·exact hlH.spec k hk
 have hKH: ∀x∈H,x.1≠K:=fun x hx=>hKl _ (hmem _ (zbp.2 (.inr (zcc.2 ⟨x,hx,by simp⟩))));have hc: ∀k,k≠K->(envK η K).c k=η.c k:=fun k hk=>by simp [envK,hk]
 have hcK:(envK η K).c K=0:=by simp [envK]
 have hal: ∀k∈l0,nm (K::l0) k=true:=fun k hk=>xb2.2 (by simp [hk]);refine zei (xh6 (R:=fun v w'=>v=r/\Stp (fun b=>OwnK η H b∨X.D b) w w'/\X.J m w') hf hb (hw w η OvC.mk' _ w ⟨⟨η.b,(envK η K).c,X.D⟩,?_⟩)) (fun e w' ⟨v,he,hv,hr⟩=>⟨by rw [he,hv],hr⟩);have hKp: ∀F',Keep (fun _=>False) F' w w:=fun F' b o hb=>hb.elim;have hown: ∀b,Own (keysOf ((K,⟨n,1,false,[]⟩)::H)) ⟨η.b,(envK η K).c,X.D⟩ b->OwnK η H b:=by
  rintro b ⟨k,x,hk,hck,rfl⟩;rcases zbr.1 (xd4 hk) with e | hm
  ·cases e;simp only [hcK] at hck;omega
  ·have hne:=hKH _ hm;simp only at hne hck;exact ⟨(k,x),hm,by rw [<-hc k hne];exact hck,rfl⟩
 refine ⟨?_,rfl,fun s e hs=> ?_,fun k x hx=> ?_,fun k k' x x' hx hx' hne hck hck'=> ?_,⟨rfl,rfl,rfl,zbq _,fun _ _ _ _=>rfl,fun _ hb=>hb,fun b hb=>⟨(hD b hb).1,rfl,.inl hb⟩⟩,fun k hk=>⟨xb2.2 hk,rfl,rfl⟩,fun x hx=>(by cases hx),fun b hb=>hb.elim,fun k hk=>(by cases hk;exact xb2.2 (by simp)),fun k x hk hx=> ?_,fun b hb=> ?_⟩
 ·simp [hlen,hN,Base.over];omega
 ·obtain ⟨j,h1,h2⟩:=xp5 ps 0 s e hs;have hj:j < ps.length:=(zbo.1 h2).1;obtain ⟨v,hv,hp⟩:=SatL.get ps vs j e hvs h2;have hsup: ∀k∈e.supp,k∈l0:=fun k hk=>hmem k (zbp.2 (.inl (zcc.2 ⟨e,zdw h2,hk⟩)));refine ⟨by show s < N;omega,fun k hk=>hal k (hsup k hk),?_⟩;have e1:(vs.toArray++Array.replicate (fn.ntmps - vs.toArray.size) undef).getD s undef=v:=by
   rw [zbk,zfh,if_pos (by simp;omega)];rw [h1,zcn,zer,hv];rfl
  simp only [e1];exact Ent.sat_go hp (hKp _) fun k hk=>⟨rfl,hc k (hKl k (hsup k hk))⟩
 ·rcases zbr.1 (xd4 hx) with e | hm
  ·cases e;exact ⟨xb2.2 (by simp),fun j hj=>(by cases hj),⟨by simp,by simp,fun _=>rfl,by simp only [hcK];omega,fun hck=>by simp only [hcK] at hck;omega⟩,fun hck=>by simp only [hcK] at hck;omega⟩
  ·have hsup: ∀j∈x.supp,j∈l0:=fun j hj=>hmem j (zbp.2 (.inr (zcc.2 ⟨_,hm,by simp [hj]⟩)));have hk0:k∈l0:=hmem k (zbp.2 (.inr (zcc.2 ⟨_,hm,by simp⟩)));exact ⟨hal k hk0,fun j hj=>hal j (hsup j hj),HEnt.sat_go (hAK _ hm) (fun _=>rfl) (hKp _) ⟨rfl,hc k (hKl k hk0)⟩ fun j hj=>⟨rfl,hc j (hKl j (hsup j hj))⟩,
    fun hck=>⟨.inr ⟨_,hm,by rw [<-hc k (hKl k hk0)];exact hck,rfl⟩,fun hv=>(hD _ hv).2 ⟨_,hm,by rw [<-hc k (hKl k hk0)];exact hck,rfl⟩,fun hv=>hv⟩⟩
 ·rcases zbr.1 (xd4 hx) with e | hm
  ·cases e;simp only [hcK] at hck;omega
  ·rcases zbr.1 (xd4 hx') with e | hm'
   ·cases e;simp only [hcK] at hck';omega
   ·have h1:=hKH _ hm;have h2:=hKH _ hm';simp only at h1 h2 hck hck';exact hinj _ hm _ hm' hne (by rw [<-hc k h1];exact hck) (by rw [<-hc k' h2];exact hck')
 ·have hk:some K=some k:=hk;cases hk;have hxn:x=⟨n,1,false,[]⟩:=by
   rcases zbr.1 (xd4 hx) with e | hm
   ·cases e;rfl
   ·exact absurd rfl (hKH _ hm)
  subst hxn;refine ⟨hJ,fun b hb=>⟨hb,?_,(hD b hb).1⟩⟩;rintro (hb' | hb' | ⟨y,hy,_⟩)
  ·exact (hD b hb).2 (hown b hb')
  ·exact hb'
  ·cases hy
 ·obtain ⟨x,hx,hcx,rfl⟩:=hb;exact HEnt.lt (hAK x hx) hcx
variable {c:Base} {g:Slots} {h:Keys} {al:Names} {d ty:Nat} {pos:String} {af:Array Edge} {gd:Option (Nat×Bool)}
theorem jd5 {fn:Func} {w0:World} {η0:Env} {H:List (Nat×HEnt)} {K m t:Nat} {r:Value} (hp:OvC c w0 η0 H K X) (hr:fn.results= #[.tmp t]) (hx:g t=some (.val (tE r))) (hK:h K=some ⟨m,1,false,[]⟩):wk c .ret (PostU P X w0 η0 fn H m r) g h al:=
 yd7 (.inl rfl) hp.df fun df pn a w η s=>by
  refine ⟨_,results_tmp hr a.tmps P w,xp4 s hx,?_,?_⟩
  ·have e0:(c.with df pn).w0=w0:=hp.w0;refine ⟨e0▸s.fr.os,e0▸s.fr.tape,e0▸s.fr.output,e0▸s.fr.size,fun b hb hn=> ?_⟩;have:=s.fr.block b (by rw [e0];exact hb) (fun hl=>hn (.inl (by have hl:c.lb b:=hl;rwa [hp.lb] at hl))) (fun hv=>by
    rcases (s.fr.vnew b hv).2.2 with h3 | h3
    ·have h3:c.V0 b:=h3;rw [hp.V0] at h3;exact hn (.inr h3)
    ·rw [e0] at h3;omega)
   rwa [e0] at this
  ·have hj:=s.jj K _ hp.yk hK;have hj:c.J m _ _ w:=hj;rw [hp.J] at hj;exact hj.1
theorem qc0: ∀(l1 l2:List (Nat×Option HEnt)) (h:Keys),updK h (l1++l2)=updK (updK h l1) l2
 | [],_,_=>rfl
 | _::r,l2,_=>qc0 r l2 _
theorem zn7: ∀{ks:List Nat} {h:Keys} {k:Nat} {x:HEnt},updK h (ks.map fun k=>(k,none)) k=some x->k∉ks/\h k=some x
 | [],_,_,_,hx=>⟨by simp,hx⟩
 | j::r,h,k,x,hx=>by
  obtain ⟨h1,h2⟩:=zn7 (ks:=r) (h:=upd h j none) hx;by_cases hk:k=j
  ·subst hk;rw [x7] at h2;cases h2
  ·rw [x3 _ _ _ hk] at h2;exact ⟨by simp [hk,h1],h2⟩
theorem St'.after {a:Act} {w w':World} {η:Env} {w0:World} {η0:Env} {H0:List (Nat×HEnt)} {K n m:Nat} (s:St' c g h al a w η) (hp:OvC c w0 η0 H0 K X) (ks:List Nat) (hks: ∀k∈ks,∃x,h k=some x) (hK:h K=some ⟨n,1,false,[]⟩)
  (hst:Stp (fun b=>(∃k∈ks,0 < η.c k/\b=η.b k)∨X.D b) w w') (hJ:X.J m w'):St' c g (updK h (ks.map (fun k=>(k,none))++[(K,some ⟨m,1,false,[]⟩)])) al a w' η:=by
 have hj:=s.jj K _ hp.yk hK;have hj:c.J n _ _ w:=hj;rw [hp.J] at hj;have hlkK:=s.lk K hp.ln;have hcK:η.c K=0:=hlkK.2.2.trans hp.c0;have hDv: ∀b,X.D b->η.vo b:=fun b hb=>(hj.2 b hb).1;have hget: ∀k x,updK h (ks.map (fun k=>(k,none))++[(K,some ⟨m,1,false,[]⟩)]) k=some x->(k=K/\x=⟨m,1,false,[]⟩)∨(k≠K/\k∉ks/\h k=some x):=fun k x hx=>by
  rw [qc0] at hx;by_cases hk:k=K
  ·subst hk;have hx:upd _ k _ k=some x:=hx;rw [x7] at hx;cases hx;exact .inl ⟨rfl,rfl⟩
  ·have hx:upd _ K _ k=some x:=hx;rw [x3 _ _ _ hk] at hx;obtain ⟨h1,h2⟩:=zn7 hx;exact .inr ⟨hk,h1,h2⟩
 generalize updK h (ks.map (fun k=>(k,none))++[(K,some ⟨m,1,false,[]⟩)])=h' at hget;have hown: ∀b,Own h' η b->Own h η b:=by
  rintro b ⟨k,x,hx,hc,rfl⟩;rcases hget k x hx with ⟨rfl,_⟩ | ⟨_,_,h1⟩
  ·omega
  ·exact ⟨k,x,h1,hc,rfl⟩
 have hch: ∀b,((∃k∈ks,0 < η.c k/\b=η.b k)∨X.D b)->Own h η b∨η.vo b:=by
  rintro b (⟨k,hk,hc,rfl⟩ | hb)
  ·obtain ⟨x,hx⟩:=hks k hk;exact .inl ⟨k,x,hx,hc,rfl⟩
  ·exact .inr (hDv b hb)
 have hKp:Keep (c.dom h η) (c.dom h' η) w w':=fun b o hb hl _=>⟨⟨hb.1,fun ho=>hb.2.1 (hown b ho),hb.2.2.1,hb.2.2.2⟩,(hst.block b (xa7 hl) fun h'=>(hch b h').elim hb.2.1 hb.2.2.1).trans hl⟩
 refine ⟨s.tn,s.df,fun t x hx=>⟨(s.slot t x hx).1,(s.slot t x hx).2.1,Ent.sat_go (s.slot t x hx).2.2 hKp fun _ _=>⟨rfl,rfl⟩⟩,fun k x hx=> ?_,fun k k' x x' hx hx' hne hc hc'=> ?_,⟨hst.os.trans s.fr.os,hst.tape.trans s.fr.tape,hst.output.trans s.fr.output,zdc s.fr.size hst.size,fun b hb hl hv=> ?_,s.fr.vold,fun b hb=>⟨zce (s.fr.vnew b hb).1 hst.size,(s.fr.vnew b hb).2⟩⟩,
  s.lk,fun x hx=> ?_,fun b hb=>zce (s.vol b hb) hst.size,s.yal,fun k x h1 h2=> ?_,s.lbl⟩
 ·rcases hget k x hx with ⟨rfl,rfl⟩ | ⟨hkK,hkn,h1⟩
  ·exact ⟨hlkK.1,fun j hj=>(by cases hj),⟨by simp,by simp,fun _=>rfl,by rw [hcK];omega,fun hc=>by omega⟩,fun hc=>by omega⟩
  ·obtain ⟨q1,q2,q3,q4⟩:=s.key k x h1;refine ⟨q1,q2,HEnt.sat_go q3 (fun hc=>hst.block _ (HEnt.lt q3 hc) ?_) hKp ⟨rfl,rfl⟩ fun _ _=>⟨rfl,rfl⟩,q4⟩;rintro (⟨j,hj,hcj,e⟩ | hb)
   ·obtain ⟨y,hy⟩:=hks j hj;exact s.inj k j x y h1 hy (fun e=>hkn (e▸hj)) hc hcj e
   ·exact (q4 hc).2.1 (hDv _ hb)
 ·rcases hget k x hx with ⟨rfl,_⟩ | ⟨_,_,h1⟩
  ·omega
  ·rcases hget k' x' hx' with ⟨rfl,_⟩ | ⟨_,_,h2⟩
   ·omega
   ·exact s.inj k k' x x' h1 h2 hne hc hc'
 ·refine (hst.block b (zce hb s.fr.size) fun h'=> ?_).trans (s.fr.block b hb hl hv);rcases hch b h' with ⟨k,x,hx,hc,rfl⟩ | h2
  ·rcases ((s.key k x hx).2.2.2 hc).1 with h3 | h3
   ·omega
   ·exact hl h3
  ·exact hv h2
 ·obtain ⟨p1,p2,p3,p4,p5⟩:=s.pin x hx;refine ⟨(hst.block _ (xa7 p1) fun h'=> ?_).trans p1,p2,p3,p4,p5⟩;rcases hch _ h' with ⟨k,y,hy,hc,e⟩ | h2
  ·obtain ⟨o,h1,h2⟩:=HEnt.data (s.key k y hy).2.2.1 hc;rw [<-e,p1] at h1;cases h1;rw [p2] at h2;cases h2
  ·exact p4 h2
 ·have e:k=K:=by rw [hp.yk] at h1;exact (Option.some.inj h1).symm
  subst e;rcases hget k x h2 with ⟨_,rfl⟩ | ⟨hne,_⟩
  ·show c.J m _ _ w';rw [hp.J];refine ⟨hJ,fun b hb=>⟨hDv b hb,fun hO=> ?_,zce (hj.2 b hb).2.2 hst.size⟩⟩;refine (hj.2 b hb).2.1 ?_;rcases hO with h3 | h3
   ·exact .inl (hown b h3)
   ·exact .inr h3
  ·exact absurd rfl hne
theorem SatL.free {F F':Dom} {w:World} {η:Env}: ∀{ps:List Ent} {vs:List Value},(∀e∈ps,Wk e e)->SatL F w η ps vs->SatL F' w η ps vs
 | [],[],_,_=>trivial
 | _::_,_::_,h,hs=>⟨(h _ (by simp)).sat hs.1 ⟨rfl,rfl⟩,SatL.free (fun e he=>h e (by simp [he])) hs.2⟩
 | [],_::_,_,hs=>hs.elim
 | _::_,[],_,hs=>hs.elim
theorem qn6 {f:FuncId} {xs:List Operand} {aT:Array TypeId} {H h1:List (Nat×HEnt)} {ps:List Ent} {w0:World} {η0:Env} {H0:List (Nat×HEnt)} {K n m:Nat} {r:Value} (ρ:Nat->Nat) (hp:OvC c w0 η0 H0 K X) (hc:CtU P X f H ps n m r) (hf:FnI P f) (hl:xs.length=ps.length)
  (e1:H.map (fun x=>(ρ x.1,x.2.ren ρ))=h1) (hij:injN ρ (H.map (·.1))=true) (hps: ∀e∈ps,Wk e e) (hHs: ∀x∈H,∀e∈x.2.ts,Wk e e):
  Does P c ⟨some d,.call {callee:= .value (.func f),args:=xs.toArray,argTypes:=aT},ty,pos,af,gd⟩ ⟨xs.zip (ps.map (Ent.ren ρ)),(K,⟨n,1,false,[]⟩)::h1,some (d,some (.val (tE r))),H.map (fun x=>(ρ x.1,none))++[(K,some ⟨m,1,false,[]⟩)],[]⟩:=by
 subst e1;intro g h al a w hpre ⟨η,s⟩;obtain ⟨fn,f1,f2,f3⟩:=hf;obtain ⟨hsat,hal⟩:=SatL.of s xs ps hpre.rd hl;have hrun:(execOp a.eval ⟨some d,.call {callee:= .value (.func f),args:=xs.toArray,argTypes:=aT},ty,pos,af,gd⟩).run P w= .ok (.enter f (xs.map a.eval).toArray) w:=by
  simp only [execOp,resolve,Act.eval,Deferred.ofValue,zbu,zbx,zbn,invoke];simp only [zdu,zdj,zcs];exact xd1 f1 f2 f3 _ w
 have hKk:h K=some ⟨n,1,false,[]⟩:=hpre.kr.1;have hH':=Kr.ren (h:=h) (ρ:=ρ) (H:=H) hpre.kr.2;have hj:=s.jj K _ hp.yk hKk;have hj:c.J n _ _ w:=hj;rw [hp.J] at hj;have hownH: ∀b,OwnK (η.pre ρ) H b->Own h η b:=by
  rintro b ⟨x,hx,hcx,rfl⟩;exact ⟨ρ x.1,_,hH' x hx,hcx,rfl⟩
 have hall:AllK (fun _=>False) w (η.pre ρ) H:=fun x hx=>by
  obtain ⟨p1,p2,p3,p4,p5⟩:=HEnt.sat_ren.1 (s.key _ _ (hH' x hx)).2.2.1;refine ⟨p1,p2,p3,p4,fun hc0=> ?_⟩;obtain ⟨cs,c1,c2,c3⟩:=p5 hc0;exact ⟨cs,c1,c2,fun i e hi=>(hHs x hx e (zdw hi)).sat (c3 i e hi) ⟨rfl,rfl⟩⟩
 refine xe6 hrun (zei (hc w (η.pre ρ) (xs.map a.eval) (SatL.free hps hsat) hall (fun x hx y hy hne hcx hcy=> ?_) (fun b hb=>⟨(hj.2 b hb).2.2,fun ho=>(hj.2 b hb).2.1 (.inl (hownH b ho))⟩) hj.1) ?_)
 ·exact s.inj (ρ x.1) (ρ y.1) _ _ (hH' x hx) (hH' y hy) (xm4 hij x.1 y.1 (zcz hx) (zcz hy) hne) hcx hcy
 ·rintro e w' ⟨rfl,hst,hJ⟩;refine ⟨_,rfl,?_⟩;have s2:=s.after hp (H.map fun x=>ρ x.1) (fun k hk=>by obtain ⟨x,hx,rfl⟩:=zci.1 hk;exact ⟨_,hH' x hx⟩) hKk (hst.mono fun b _ hb=>hb.imp (fun ⟨x,hx,hcx,e⟩=>⟨ρ x.1,zcz (f:=fun x=>ρ x.1) hx,hcx,e⟩) id) hJ;rw [List.map_map] at s2;exact ⟨_,s2.put (hpre.d _ rfl) (e:= .val (tE r)) rfl fun k hk=>by cases hk⟩
end
section
variable {P:Program} {c:Base} {d ty:Nat} {pos:String} {af:Array Edge} {gd:Option (Nat×Bool)}
def hd0:Hd×List Nat:=(⟨none,0,0⟩,[])
theorem wc2 {T T' K q:Nat} {V:Dom} {us:List (Hd×List Nat)} {f:FuncId} {x:Operand} {aT:Array TypeId} {w0:World} {η0:Env} {H0:List (Nat×HEnt)} (hp:OvC c w0 η0 H0 K (XI T V us))
  (hc:CtG P f ((20,⟨T',1,false,owns us.length 1 fun j=>(us.getD j hd0).2.length⟩)::poolL us.length fun j=>⟨T,1,false,rW .u16 (us.getD j hd0).2⟩) [.own (.sl 20 1 0 us.length)] (.val (tB true)) [] []) (hf:FnI P f) (hsep:SepH (us.map (·.1))):
  Does P c ⟨some d,.call {callee:= .value (.func f),args:=[x].toArray,argTypes:=aT},ty,pos,af,gd⟩ ⟨[(x,.own (.sl q 1 0 us.length))],[(K,⟨0,1,false,[]⟩),(q,⟨T',1,false,rV tH (us.map (·.1))⟩)],some (d,some (.val (tB true))),[(q,none),(K,some ⟨1,1,false,[]⟩)],[]⟩:=by
 intro g h al a w hpre ⟨η,s⟩;obtain ⟨fn,f1,f2,f3⟩:=hf;have hrun:(execOp a.eval ⟨some d,.call {callee:= .value (.func f),args:=[x].toArray,argTypes:=aT},ty,pos,af,gd⟩).run P w= .ok (.enter f ([x].map a.eval).toArray) w:=by
  simp only [execOp,resolve,Act.eval,Deferred.ofValue,zbu,zbx,zbn,invoke];simp only [zdu,zdj,zcs];exact xd1 f1 f2 f3 _ w
 have hKk:h K=some ⟨0,1,false,[]⟩:=hpre.kr.1;have hq:h q=some ⟨T',1,false,rV tH (us.map (·.1))⟩:=hpre.kr.2.1;have hj:=s.jj K _ hp.yk hKk;have hj:c.J 0 _ _ w:=hj;rw [hp.J] at hj;have hJ0:=hj.1 rfl;have hDv: ∀b,(∃u∈us,u.1.b=some b)->η.vo b:=fun b hb=>(hj.2 b (.inr hb)).1;obtain ⟨_,_,⟨p1,p2,p3,p4,p5⟩,p6⟩:=s.key q _ hq;have p1:us.length<=η.c q:=by simpa [rV] using p1
 obtain ⟨A,a1,a2,a3⟩:=(xa2 s hpre.rd.1).1;have hat: ∀j,j < us.length-> ∃u,us[j]? =some u/\us.getD j hd0=u/\u∈us:=fun j hj=>⟨us[j],zbi hj,by rw [zbh,zbi hj];rfl,zfa hj⟩
 obtain ⟨η2,hη⟩: ∃η2:Env,η2=⟨fun k=>if k=20 then η.b q else ((us.getD (k - 100) hd0).1.b).getD 0,fun k=>if k=20 then η.c q else (us.getD (k - 100) hd0).1.c,fun _=>False⟩:=⟨_,rfl⟩
 have b20:η2.b 20=η.b q:=by rw [hη];simp
 have c20:η2.c 20=η.c q:=by rw [hη];simp
 have bj: ∀j,η2.b (j+100)=((us.getD j hd0).1.b).getD 0:=fun j=>by rw [hη];simp
 have cj: ∀j,η2.c (j+100)=(us.getD j hd0).1.c:=fun j=>by rw [hη];simp
 have hpt: ∀j,j < us.length->0 < (us.getD j hd0).1.c->(us.getD j hd0).1.b=some (η2.b (j+100))/\(us.getD j hd0).1.A=some ⟨η2.b (j+100),0,none⟩/\ ∃cs,w.heap[η2.b (j+100)]? =some (.cells cs T (0,0))/\cs.size=(us.getD j hd0).1.c/\ ∀(i x:Nat),(us.getD j hd0).2[i]? =some x->cs.getD i undef= .int .u16 (x:Int):=fun j hj hcj=>by
  obtain ⟨u,_,h2,h3⟩:=hat j hj;rw [bj,h2];rw [h2] at hcj;obtain ⟨_,_,_,_,e5⟩:=hJ0 u h3;obtain ⟨b,cs,e1,e2,e3⟩:=e5 hcj;have hb:u.1.b=some b:=by simp [Hd.b,e1,hcj]
  rw [hb];exact ⟨rfl,e1,cs,e3⟩
 have hmem: ∀y,y∈((20,⟨T',1,false,owns us.length 1 fun j=>(us.getD j hd0).2.length⟩)::poolL us.length fun j=>⟨T,1,false,rW .u16 (us.getD j hd0).2⟩:List (Nat×HEnt))->y=(20,⟨T',1,false,owns us.length 1 fun j=>(us.getD j hd0).2.length⟩)∨ ∃j,j < us.length/\y=(j+100,⟨T,1,false,rW .u16 (us.getD j hd0).2⟩):=fun y hy=>by
  rcases zbr.1 hy with h1 | h1
  ·exact .inl h1
  ·obtain ⟨j,hj,rfl⟩:=zci.1 h1;exact .inr ⟨j,zcx.1 hj,rfl⟩
 have hlen: ∀j,j < us.length->(us.getD j hd0).1.n=(us.getD j hd0).2.length/\(us.getD j hd0).1.n<=(us.getD j hd0).1.c/\(us.getD j hd0).1.c<=9223372036854775807:=fun j hj=>by
  obtain ⟨u,_,h2,h3⟩:=hat j hj;rw [h2];obtain ⟨_,e2,e3,e4,_⟩:=hJ0 u h3;exact ⟨e2,e3,e4⟩
 have hown20:0 < η.c q-> ¬η.vo (η.b q):=fun hc0=>(p6 hc0).2.1;have hsp: ∀i j,i < us.length->j < us.length->i≠j->0 < (us.getD i hd0).1.c->0 < (us.getD j hd0).1.c->η2.b (i+100)≠η2.b (j+100):=by
  have key: ∀i j,i < j->j < us.length->0 < (us.getD i hd0).1.c->0 < (us.getD j hd0).1.c->η2.b (i+100)≠η2.b (j+100):=fun i j hij hj hi hjc e=>by
   have h1:=zdx.1 hsep i j (by simpa using Nat.lt_trans hij hj) (by simpa using hj) hij;simp only [List.getElem_map] at h1;have g1:us.getD i hd0=us[i]:=by rw [zbh,zbi (Nat.lt_trans hij hj)];rfl
   have g2:us.getD j hd0=us[j]:=by rw [zbh,zbi hj];rfl
   refine h1 (η2.b (i+100)) ?_ ?_
   ·rw [<-g1];exact (hpt i (Nat.lt_trans hij hj) hi).1
   ·rw [<-g2,e];exact (hpt j hj hjc).1
  intro i j hi hj hne hci hcj;rcases Nat.lt_or_gt_of_ne hne with h1 | h1
  ·exact key i j h1 hj hci hcj
  ·exact (key j i h1 hi hcj hci).symm
 have hvo: ∀j,j < us.length->0 < (us.getD j hd0).1.c->η.vo (η2.b (j+100)):=fun j hj hcj=>by
  obtain ⟨u,_,h2,h3⟩:=hat j hj;refine hDv _ ⟨u,h3,?_⟩;rw [<-h2];exact (hpt j hj hcj).1
 refine xe6 hrun (zei (hc (fun _=>False) w η2 ([x].map a.eval) ⟨?_,trivial⟩ (fun y hy=> ?_) (fun y hy z hz hne hcy hcz=> ?_) (fun b hb=>hb.elim)) ?_)
 ·refine ⟨A,?_,?_,?_⟩
  ·rw [c20];exact a1
  ·rw [c20];exact a2
  ·rw [c20,b20];exact a3
 ·rcases hmem y hy with rfl | ⟨j,hj,rfl⟩
  ·refine ⟨by rw [c20,zz3];exact p1,by simp,fun _=>rfl,by rw [c20];exact p4,fun hc0=> ?_⟩;rw [c20] at hc0;obtain ⟨cs,m1,m2,m3⟩:=p5 hc0;refine ⟨cs,by rw [b20];exact m1,by rw [c20];exact m2,fun i e hi=> ?_⟩;have hil:i < us.length:=by have:=(zbo.1 hi).1;rwa [zz3] at this
   rw [xf4 hil] at hi;cases hi;obtain ⟨u,u1,u2,u3⟩:=hat i hil;have hv:pick false 1 cs (i*1)=u.1.v:=m3 i (.val (tH u.1)) (by simp [rV,u1]);refine ⟨u.1.A,?_,?_,fun hc1=> ?_⟩
   ·rw [hv,cj,u2];have:=hlen i hil;rw [u2] at this;simp only [Hd.v,Nat.sub_zero,this.1]
   ·rw [cj];have:=hlen i hil;omega
   ·rw [cj] at hc1;have:=(hpt i hil hc1).2.1;rw [u2] at this;rw [zef];exact this
  ·refine ⟨?_,by simp,fun _=>rfl,?_,fun hc0=> ?_⟩
   ·show (rW .u16 _).length<=η2.c (j+100);rw [cj];have:=hlen j hj;simp only [rW,zch];omega
   ·show η2.c (j+100)<=_;rw [cj];exact (hlen j hj).2.2
   ·have hc0:0 < η2.c (j+100):=hc0;rw [cj] at hc0;obtain ⟨_,_,cs,e1,e2,e3⟩:=hpt j hj hc0;refine ⟨cs,e1,by show cs.size=η2.c (j+100)*1;rw [cj,e2,zdr],fun i e hi=> ?_⟩;simp only [rW,zbs] at hi;obtain ⟨x,hx,rfl⟩:=zdd.1 hi;show pick false 1 cs (i*1)=_;have:=e3 i x hx;simpa [pick] using this
 ·rcases hmem y hy with rfl | ⟨i,hi,rfl⟩ <;> rcases hmem z hz with rfl | ⟨j,hj,rfl⟩
  ·exact absurd rfl hne
  ·have hcy:0 < η2.c 20:=hcy;have hcz:0 < η2.c (j+100):=hcz;show η2.b 20≠η2.b (j+100);intro e;rw [c20] at hcy;rw [cj] at hcz;refine hown20 hcy ?_;rw [<-b20,e];exact hvo j hj hcz
  ·have hcy:0 < η2.c (i+100):=hcy;have hcz:0 < η2.c 20:=hcz;show η2.b (i+100)≠η2.b 20;intro e;rw [c20] at hcz;rw [cj] at hcy;refine hown20 hcz ?_;rw [<-b20,<-e];exact hvo i hi hcy
  ·have hcy:0 < η2.c (i+100):=hcy;have hcz:0 < η2.c (j+100):=hcz;rw [cj] at hcy hcz;exact hsp i j hi hj (fun e=>hne (by rw [e])) hcy hcz
 ·rintro e w' ⟨v,η',rfl,ho⟩;refine ⟨v,rfl,?_⟩;have s2:=s.after (m:=1) hp [q] (fun k hk=>by cases zbj.1 hk;exact ⟨_,hq⟩) hKk (ho.stp.mono fun b _ hb=>by
   obtain ⟨y,hy,hcy,rfl⟩:=hb;rcases hmem y hy with rfl | ⟨j,hj,rfl⟩
   ·have hcy:0 < η2.c 20:=hcy;exact .inl ⟨q,by simp,by rw [<-c20];exact hcy,b20⟩
   ·have hcy:0 < η2.c (j+100):=hcy;rw [cj] at hcy;obtain ⟨u,_,u2,u3⟩:=hat j hj;refine .inr (.inr ⟨u,u3,?_⟩);rw [<-u2];exact (hpt j hj hcy).1) (fun h0=>by cases h0)
  exact ⟨_,s2.put (hpre.d _ rfl) (e:= .val (tB true)) ho.res fun k hk=>by cases hk⟩
end
def SzB (m:Nat) (F:Dom) (w:World):Prop:=m=0∨ ∃b o,F b/\w.heap[b]? =some o/\isData o=true/\m<=b+1
def tSz (m:Nat) (t:Ty):Ty:=⟨fun F w v=>t.p F w v/\SzB m F w,fun ⟨h1,h2⟩ hk=>⟨t.mono h1 hk,h2.imp id fun ⟨b,o,e1,e2,e3,e4⟩=>⟨b,o,(hk b o e1 e2 e3).1,(hk b o e1 e2 e3).2,e3,e4⟩⟩⟩
instance {m:Nat} {t:Ty} {n:Nat} {agg:Bool} [h:Shape t n agg]:Shape (tSz m t) n agg:=⟨fun hp=>h.flat hp.1⟩
instance {ι:Type} {I:ι->Prop} {r:ι->Ty} {n:Nat} {agg:Bool} [h: ∀i,Shape (r i) n agg]:Shape (tEx I r) n agg:=⟨fun ⟨i,_,hp⟩=>(h i).flat hp⟩
section
variable {P:Program} {c:Base} {g:Slots} {h:Keys} {al:Names} {d ty:Nat} {pos:String} {af:Array Edge} {gd:Option (Nat×Bool)} {Q:Exit->Act->World->Prop}
theorem St'.rekey {a:Act} {w:World} {η:Env} (s:St' c g h al a w η) {k T es:Nat} {agg:Bool} {ts ts':List Ent} (hk:h k=some ⟨T,es,agg,ts⟩) (hl:ts'.length=ts.length) (hs: ∀j∈ts'.flatMap Ent.supp,al j=true)
  (H: ∀(cs:Array Value) (i:Nat) (e':Ent),w.heap[η.b k]? =some (.cells cs T (0,0))->ts'[i]? =some e'-> ∃e:Ent,ts[i]? =some e/\(e.sat (c.dom h η) w η (pick agg es cs (i*es))->e'.sat (c.dom h η) w η (pick agg es cs (i*es)))):St' c g (upd h k (some ⟨T,es,agg,ts'⟩)) al a w η:=by
 have hget: ∀k' x,upd h k (some ⟨T,es,agg,ts'⟩) k'=some x->(k'=k/\x=⟨T,es,agg,ts'⟩)∨(k'≠k/\h k'=some x):=fun k' x hx=>by
  by_cases e:k'=k
  ·subst e;rw [x7] at hx;cases hx;exact .inl ⟨rfl,rfl⟩
  ·rw [x3 _ _ _ e] at hx;exact .inr ⟨e,hx⟩
 have hsome: ∀k' x,upd h k (some ⟨T,es,agg,ts'⟩) k'=some x-> ∃y,h k'=some y/\y.T=x.T:=fun k' x hx=>by
  rcases hget k' x hx with ⟨rfl,rfl⟩ | ⟨_,h1⟩
  ·exact ⟨_,hk,rfl⟩
  ·exact ⟨_,h1,rfl⟩
 have hown: ∀b,Own (upd h k (some ⟨T,es,agg,ts'⟩)) η b->Own h η b:=by
  rintro b ⟨k',x,hx,hc,rfl⟩;obtain ⟨y,h1,_⟩:=hsome k' x hx;exact ⟨k',y,h1,hc,rfl⟩
 have hKp:Keep (c.dom h η) (c.dom (upd h k (some ⟨T,es,agg,ts'⟩)) η) w w:=fun b o hb hl _=>⟨⟨hb.1,fun ho=>hb.2.1 (hown b ho),hb.2.2⟩,hl⟩
 refine s.turn (fun _ h=>h) (fun _ _=>⟨rfl,rfl⟩) rfl (Stp.refl _ _) (fun b hb=>⟨s.olt (hown b hb),.inl (hown b hb)⟩) (fun k' x hx _=> ?_) (fun k1 k2 x1 x2 h1 h2=> ?_) (fun k' x _ hx=> ?_)
 ·rcases hget k' x hx with ⟨rfl,rfl⟩ | ⟨_,h1⟩
  ·obtain ⟨q1,_,⟨p1,p2,p3,p4,p5⟩,_⟩:=s.key _ _ hk;refine ⟨q1,hs,by simp only at p1 ⊢;omega,p2,p3,p4,fun hc=> ?_⟩;obtain ⟨cs,c1,c2,c3⟩:=p5 hc;refine ⟨cs,c1,c2,fun i e' hi=> ?_⟩;obtain ⟨e,h2,h3⟩:=H cs i e' c1 hi;exact Ent.sat_go (h3 (c3 i e h2)) hKp fun _ _=>⟨rfl,rfl⟩
  ·obtain ⟨q1,q2,q3,_⟩:=s.key _ _ h1;exact ⟨q1,q2,HEnt.sat_go q3 (fun _=>rfl) hKp ⟨rfl,rfl⟩ fun _ _=>⟨rfl,rfl⟩⟩
 ·obtain ⟨y1,g1,_⟩:=hsome k1 x1 h1;obtain ⟨y2,g2,_⟩:=hsome k2 x2 h2;exact s.inj k1 k2 y1 y2 g1 g2
 ·obtain ⟨y,h1,h2⟩:=hsome k' x hx;exact ⟨y,h1,h2⟩
theorem zj3 {x:Code} {k T es:Nat} {agg:Bool} {t:Ty} {ts:List Ent} {ι:Type} {I:ι->Prop} (r:ι->Ty) (hk:h k=some ⟨T,es,agg,ts++[.val t]⟩) (hle:Le t (tEx I r))
  (H: ∀i,I i->wc P c x Q g (upd h k (some ⟨T,es,agg,ts++[.val (r i)]⟩)) al):wc P c x Q g h al:=fun a w ⟨η,s⟩=>by
 obtain ⟨q1,q2,⟨p1,_,_,_,p5⟩,_⟩:=s.key k _ hk;have hc:0 < η.c k:=by simp at p1;omega
 obtain ⟨cs,c1,c2,c3⟩:=p5 hc;have hl:=c3 ts.length (.val t) (by simp);obtain ⟨i,hi,hr⟩:=hle _ _ _ hl;have hsup: ∀j∈(ts++[Ent.val (r i)]).flatMap Ent.supp,al j=true:=fun j hj=>by
  rw [zeg,zbp] at hj;rcases hj with hj | hj
  ·exact q2 j (by simp only [HEnt.supp,zeg,zbp];exact .inl hj)
  ·simp [Ent.supp] at hj
 refine H i hi a w ⟨η,s.rekey hk (by simp) hsup fun cs' j e' hcs hj=> ?_⟩;rcases zcb j ts.length with hlt | hge
 ·rw [zct hlt] at hj;exact ⟨e',by rw [zct hlt];exact hj,id⟩
 ·have hjl:=(zbo.1 hj).1;have e1:j=ts.length:=by simp at hjl;omega
  subst e1;simp only [zcr (zbq _),Nat.sub_self,zcp,zck] at hj;subst hj;rw [c1] at hcs;cases hcs;exact ⟨.val t,by simp,fun _=>hr⟩
end
end An
namespace An.S
open Go Go.Proofs An Tryz
theorem jg6 {ι:Type} {I:ι->Prop} {r:ι->Ty} (i:ι) (h:I i):Le (r i) (tEx I r):=fun _ _ _ hp=>⟨i,h,hp⟩
theorem SepH.nil:SepH []:=List.Pairwise.nil
theorem NewH.nil {n:Nat}:NewH n []:=fun _ hu=>by cases hu
theorem SepH.one {u:Hd}:SepH [u]:=zek _ _
theorem wb6 {n:Nat} {u v:Hd} (h1:OldH n [u]) (h2:NewH n [v]):SepH [u,v]:=SepH.app (us:=[u]) (vs:=[v]) SepH.one SepH.one h1 h2
abbrev tWhX (x:Wh) (u:Hd):Ty:=tS [⟨1,false,tB x.neg⟩,⟨1,false,tLmX 140 u x.l⟩]
abbrev tFrX (f:Fr) (n d:Hd):Ty:=tS [⟨2,true,tWhX f.n n⟩,⟨2,true,tWhX f.d d⟩]
abbrev tVaX (v:Va) (n d:Hd):Ty:=tS [⟨1,false,tE (.int .u8 (v.kind:Int))⟩,⟨4,true,tFrX v.f n d⟩,⟨1,false,tI v.i⟩]
abbrev tVaY (v:Va) (n:Hd):Ty:=tS [⟨1,false,tE (.int .u8 (v.kind:Int))⟩,⟨4,true,tS [⟨2,true,tWhX v.f.n n⟩,⟨2,true,tWh v.f.d⟩]⟩,⟨1,false,tI v.i⟩]
theorem jm5 {x:Wh} {u:Hd}:Le (tWhX x u) (tWh x):=Le.tS ⟨⟨rfl,rfl,zao⟩,⟨rfl,rfl,lmX_le⟩,trivial⟩
theorem frX_le {f:Fr} {n d:Hd}:Le (tFrX f n d) (tFr f):=Le.tS ⟨⟨rfl,rfl,jm5⟩,⟨rfl,rfl,jm5⟩,trivial⟩
theorem ze2 {v:Va} {n d:Hd}:Le (tVaX v n d) (tVa v):=Le.tS ⟨⟨rfl,rfl,zao⟩,⟨rfl,rfl,frX_le⟩,⟨rfl,rfl,zao⟩,trivial⟩
theorem upNX (v:Va) (u:Hd):Up (tVa v) (1+(0+1)) 1 false (tLmX 140 u v.f.n.l) (tVaY v u):=
 Up.t (t1:=tFr v.f) (t1':=tS [⟨2,true,tWhX v.f.n u⟩,⟨2,true,tWh v.f.d⟩]) (At.g 1 rfl rfl) (Up.f (f:=⟨4,true,tFr v.f⟩) 1 rfl rfl rfl) (Up.t (t1:=tWh v.f.n) (t1':=tWhX v.f.n u) (At.g 0 rfl rfl) (Up.f (f:=⟨2,true,tWh v.f.n⟩) 0 rfl rfl rfl) (Up.f (f:=⟨1,false,tLm v.f.n.l⟩) 1 rfl rfl rfl))
theorem upDX (v:Va) (n u:Hd):Up (tVaY v n) (1+(2+1)) 1 false (tLmX 140 u v.f.d.l) (tVaX v n u):=
 Up.t (t1:=tS [⟨2,true,tWhX v.f.n n⟩,⟨2,true,tWh v.f.d⟩]) (t1':=tFrX v.f n u) (At.g 1 rfl rfl) (Up.f (f:=⟨4,true,tS [⟨2,true,tWhX v.f.n n⟩,⟨2,true,tWh v.f.d⟩]⟩) 1 rfl rfl rfl) (Up.t (t1:=tWh v.f.d) (t1':=tWhX v.f.d u) (At.g 1 rfl rfl) (Up.f (f:=⟨2,true,tWh v.f.d⟩) 1 rfl rfl rfl) (Up.f (f:=⟨1,false,tLm v.f.d.l⟩) 1 rfl rfl rfl))
structure Zt where
  s:Tst
  n:Hd
  d:Hd
def zt0:Zt:=⟨tst0,⟨none,0,0⟩,⟨none,0,0⟩⟩
abbrev tZt (z:Zt):Ty:=tS [⟨1,false,tI z.s.lo⟩,⟨1,false,tI z.s.hi⟩,⟨6,true,tVaX z.s.v z.n z.d⟩]
theorem zt_le {z:Zt}:Le (tZt z) (tTs z.s):=Le.tS ⟨⟨rfl,rfl,zao⟩,⟨rfl,rfl,zao⟩,⟨rfl,rfl,ze2⟩,trivial⟩
def hds (zs:List Zt):List Hd:=zs.flatMap fun z=>[z.n,z.d]
def its (z:Zt):List (Hd×List Nat):=[(z.n,z.s.v.f.n.l),(z.d,z.s.v.f.d.l)]
theorem yg8: ∀{zs:List Zt},(zs.flatMap its).map (·.1)=hds zs
 | []=>rfl
 | z::r=>by rw [zed,zez,yg8 (zs:=r)];rfl
theorem wa5 {v:Va} {n d:Hd}:Its 140 (tVaX v n d) [(n,v.f.n.l),(d,v.f.d.l)]:=Its.app (us:=[(n,v.f.n.l)]) (us':=[(d,v.f.d.l)]) (.fd 1 rfl (.fd 0 rfl (.fd 1 rfl .lm))) (.fd 1 rfl (.fd 1 rfl (.fd 1 rfl .lm)))
theorem zt_its {z:Zt}:Its 140 (tZt z) (its z):= .fd 2 rfl wa5
theorem yr5 {c:Base} {g:Slots} {h:Keys} {k T:Nat} {zs:List Zt} (hk:h k=some ⟨T,8,true,rV tZt zs⟩):ItSt 140 c g h (zs.flatMap its):= .key hk fun _ _=>zt_its
theorem yb7 {c:Base} {g:Slots} {h:Keys} {k T:Nat} {zs:List Zt} (hk:h k=some ⟨T,8,true,rV tZt zs⟩):WitSt c g h (hds zs):=(yr5 hk).wit yg8
theorem wb8 {xs ys:List Zt} (h:xs.map (fun z=>(z.n,z.d))=ys.map fun z=>(z.n,z.d)):hds xs=hds ys:=by
 have e: ∀l:List Zt,hds l=(l.map fun z=>(z.n,z.d)).flatMap fun p=>[p.1,p.2]:=fun l=>by simp [hds,List.flatMap_map]
 rw [e,e,h]
theorem qh0 {xs:List Zt} {i:Nat}:(xs.map Zt.s).getD i tst0=(xs.getD i zt0).s:=by
 rw [zbh,zbh,zbs];cases xs[i]? <;> rfl
theorem qo8 {xs:List Zt} {s:Tst} {i:Nat} (hi:i < xs.length):hds (xs.set i ⟨s,(xs.getD i zt0).n,(xs.getD i zt0).d⟩)=hds xs:=wb8 (by
 rw [List.map_set,zbh,zbi hi];apply zfc;intro j;rw [zfk];by_cases hj:i=j
 ·subst hj;simp [hi]
 ·rw [if_neg hj])
theorem pX_set {xs:List Zt} {s:Tst} (h1: ¬s.hi<=s.lo) (h2:0 < xs.length) (h3:(xs.getD (xs.length - 1) zt0).s.hi=s.lo) (h4:(xs.getD (xs.length - 1) zt0).s.v=s.v):
  pst1 (xs.map Zt.s) s=(xs.set (xs.length - 1) ⟨⟨(xs.getD (xs.length - 1) zt0).s.lo,s.hi,(xs.getD (xs.length - 1) zt0).s.v⟩,(xs.getD (xs.length - 1) zt0).n,(xs.getD (xs.length - 1) zt0).d⟩).map Zt.s:=by
 rw [pst1,if_neg h1,zch,qh0,if_pos ⟨h2,h3,h4⟩,List.map_set]
theorem zz2 {xs:List Zt} {s:Tst} {n d:Hd} (h1: ¬s.hi<=s.lo) (h2: ¬(0 < xs.length/\(xs.getD (xs.length - 1) zt0).s.hi=s.lo/\(xs.getD (xs.length - 1) zt0).s.v=s.v)):pst1 (xs.map Zt.s) s=(xs++[(⟨s,n,d⟩:Zt)]).map Zt.s:=by
 rw [pst1,if_neg h1,zch,qh0,if_neg h2,zez];rfl
end An.S
namespace An
open Go
theorem yz5 {F:Dom} {w:World} {η:Env}: ∀{ts:List Ty} {vs:List Value},Tup.all F w ts vs->SatL F w η (ts.map Ent.val) vs
 | [],[],_=>trivial
 | _::_,_::_,h=>⟨h.1,yz5 h.2⟩
theorem CtX.toCt {P:Program} {f:FuncId} {ts:List Ty} {ι α:Type} {R:Nat->ι->Prop} {k T es:Nat} {fz:α->Ty} {xs:ι->List α} {t2:ι->Ty} {u1 u2:Ty}
  (h:CtX P f [] (ts.map Ent.val) R (fun i=> .own (.tup [.sl k es 0 (xs i).length,.ty (t2 i)])) (fun i=>[(k,⟨T,es,true,rV fz (xs i)⟩)]) [k])
  (hr: ∀n i,R n i->Le (tL es true fz (xs i)) u1/\Le (t2 i) u2):Ct P f ts (tT [u1,u2]):=by
 intro F w vs hv;refine (h F w ⟨fun _=>0,fun _=>0,fun _=>False⟩ vs (yz5 hv) (fun x hx=>by cases hx) (fun x hx=>by cases hx) (fun b _ ⟨x,hx,_⟩=>by cases hx)).mono ?_;rintro e w' ⟨i,v,η',hR,rfl,ho⟩;obtain ⟨vs',rfl,hv1⟩:=ho.res
 match vs',hv1 with
 | [a,b],⟨h1,h2,_⟩=>
  have hK:Keep (fun b=>(w.heap.size<=b∨F b)/\ ¬OwnK η' [(k,(⟨T,es,true,rV fz (xs i)⟩:HEnt))] b) (fun b=>w.heap.size<=b∨F b) w' w':=fun b o hD hl _=>⟨hD.1,hl⟩
  refine ⟨_,rfl,⟨ho.stp.os,ho.stp.tape,ho.stp.output,ho.stp.size,fun b hb=>ho.stp.block b hb (fun ⟨x,hx,_⟩=>by cases hx)⟩,⟨[a,b],rfl,?_,(hr _ _ hR).2 _ _ _ ((t2 i).mono h2 hK),trivial⟩⟩;refine (hr _ _ hR).1 _ _ _ ?_;obtain ⟨A,q1,q2,q3⟩:=h1;obtain ⟨h6,h7,h8,h9,h10⟩:=ho.keys (k,⟨T,es,true,rV fz (xs i)⟩) (zbj.2 rfl);simp only at h6 h7 h8 h9 h10;refine ⟨A,_,q1,by omega,by omega,?_⟩;rcases zco (xs i).length with h0 | h0
  ·exact .inl (zda h0)
  ·have hc:0 < η'.c k:=by omega
   obtain ⟨cs,e1,e2,e3⟩:=h10 hc;have hb:w.heap.size<=η'.b k:=(ho.new _ ⟨_,zbj.2 rfl,hc,rfl⟩).resolve_left (fun ⟨x,hx,_⟩=>by cases hx);refine .inr ⟨η'.b k,0*es,q3 (by omega),.inl hb,fun j x hj=> ?_⟩;have hjl:j < (xs i).length:=(zbo.1 hj).1;have he:=e3 j _ (by rw [rV,zbs,hj];rfl);have hle:0*es+j*es+es<=cs.size:=by
    rw [e2,zef,zcn,<-zcw];exact zbz _ (by omega)
   refine ⟨_,⟨cs,_,_,e1,hle,h7,h8,rfl⟩,?_⟩;rw [zef,zcn];exact (fz x).mono he hK
def FreshH (hs us:List Hd):Prop:= ∀u∈hs,∀b,u.b=some b-> ∀v∈us,v.b≠some b
theorem FreshH.of {n:Nat} {hs us:List Hd} (ho:OldH n hs) (hn:NewH n us):FreshH hs us:=fun u hu b hb v hv e=>by
 have:=ho u hu b hb;have:=hn v hv b e;omega
theorem SepH.fresh {us vs:List Hd} (h1:SepH us) (h2:SepH vs) (hf:FreshH us vs):SepH (us++vs):=zec.2 ⟨h1,h2,fun u hu v hv b hb=>hf u hu b hb v hv⟩
section
variable {P:Program} {c:Base} {d ty:Nat} {pos:String} {af:Array Edge} {gd:Option (Nat×Bool)}
theorem yj0 {f:FuncId} {xs:List Operand} {aT:Array TypeId} {ts us:List Ty} {rr:Nat->Ty} {r:Ty} (hs:List Hd) (kr:List (Nat×HEnt)) (hc:CtN P f us rr) (hf:FnI P f) (hw: ∀g h,Kr h kr->WitSt c g h hs) (hr: ∀m,c.w0.heap.size<=m->OldH m hs->Le (rr m) r) (hle:LeL ts us) (hl:xs.length=ts.length):
  Does P c ⟨some d,.call {callee:= .value (.func f),args:=xs.toArray,argTypes:=aT},ty,pos,af,gd⟩ ⟨xs.zip (ts.map Ent.val),kr,some (d,some (.val r)),[],[]⟩:=by
 intro g h al a w hp ⟨η,s⟩;obtain ⟨fn,h1,h2,h3⟩:=hf;have hargs:=hle.all (Tup.all_of s xs ts hp.rd hl);have hrun:(execOp a.eval ⟨some d,.call {callee:= .value (.func f),args:=xs.toArray,argTypes:=aT},ty,pos,af,gd⟩).run P w= .ok (.enter f (xs.map a.eval).toArray) w:=by
  simp only [execOp,resolve,Act.eval,Deferred.ofValue,zbu,zbx,zbn,invoke];simp only [zdu,zdj,zcs];exact xd1 h1 h2 h3 _ w
 refine xe6 hrun (zei (hc _ w (xs.map a.eval) hargs) ?_);rintro e w' ⟨v,rfl,hext,hv⟩;refine ⟨v,rfl,η,(s.ext hext).put (hp.d _ rfl) (e:= .val r) (hr _ s.fr.size (fun u hu b hb=>(hw g h hp.kr al a w η s u hu b hb).2) _ _ _ ((rr _).mono hv fun b o hb hl _=>⟨?_,hl⟩)) (fun k hk=>by cases hk)⟩;rcases hb with hb | hb
 ·exact yf2 s hb
 ·exact hb
end
end An
namespace An.S
open Go Go.Proofs An Tryz
abbrev hdV (nw:Nat) (hs:List Hd) (p:Hd×Hd):Prop:=(NewH nw [p.1,p.2]/\SepH [p.1,p.2])/\FreshH hs [p.1,p.2]
abbrev tVaF (nw:Nat) (hs:List Hd) (v:Va):Ty:=tEx (hdV nw hs) fun p=>tVaX v p.1 p.2
theorem zd5 {m n:Nat} {hs:List Hd} {v:Va} (h:n<=m) (ho:OldH m hs):Le (tEx (fun p:Hd×Hd=>NewH m [p.1,p.2]/\SepH [p.1,p.2]) (fun p=>tVaX v p.1 p.2)) (tVaF n hs v):=fun _ _ _ ⟨p,hp,hv⟩=>⟨p,⟨⟨hp.1.le h,hp.2⟩,FreshH.of ho hp.1⟩,hv⟩
abbrev tZtF (nw:Nat) (hs:List Hd) (s:Tst):Ty:=tS [⟨1,false,tI s.lo⟩,⟨1,false,tI s.hi⟩,⟨6,true,tVaF nw hs s.v⟩]
theorem zh8 {nw:Nat} {hs:List Hd} {s:Tst}:Le (tZtF nw hs s) (tEx (hdV nw hs) fun p=>tZt ⟨s,p.1,p.2⟩):=fun _ _ _ ⟨cs,h1,h2,h3⟩=>by
 obtain ⟨p,hp,hv⟩:=h3.2.2.1.2;exact ⟨p,hp,cs,h1,h2,h3.1,h3.2.1,⟨h3.2.2.1.1,hv⟩,h3.2.2.2⟩
theorem xu7 {xs:List Zt} {z:Zt}:hds (xs++[z])=hds xs++[z.n,z.d]:=by rw [hds,hds,zeg];rfl
theorem ya6 (v:Va) (h1:v.f.n.l.length<=1000000) (h2:v.f.d.l.length<=1000000):
  CtN Tryz.prog 57 [tVa v] (fun nw=>tEx (fun p:Hd×Hd=>NewH nw [p.1,p.2]/\SepH [p.1,p.2]) (fun p=>tVaX v p.1 p.2)):=by
 refine CtN.intro func57 rfl ntmps57 rfl ?_;intro w F;refine A3 ?_;refine RE (xb8 (k:=2) (n:=6) (agg:=true) zr28.1 zr28.2 rfl) trivial trivial qA ?_;refine A3 ?_;refine xi3 ?_;refine xa9 (xb5 fo28_1.h rfl) qA trivial trivial rfl (xa9 (xb5 fo26_0.h rfl) qA trivial trivial rfl (xa9 (xb5 fo24_1.h rfl) qA trivial trivial rfl (xo9 (0) ti22 rfl rfl rfl (At.t (At.g 1 rfl rfl) (At.t (At.g 0 rfl rfl) (At.g 1 rfl rfl))) rfl rfl ?_)));refine zw1 (ts:=[_]) [] (CtN.exact (zn3 _ h1) rfl) fi87 ⟨zao,trivial⟩ rfl qA .nil rfl (fun u1 n1 hn1 ho1 hu1=> ?_);refine xa9 (xb5 fo28_1.h rfl) qA trivial trivial rfl (xa9 (xb5 fo26_0.h rfl) qA trivial trivial rfl (xa9 (xb5 fo24_1.h rfl) qA trivial trivial rfl (xa9 (xn1 (k:=1) (T0:=28) (es:=6) (ts:=[.val (tVa v)]) (0) ti22 rfl (upNX v u1) rfl rfl) qB qA trivial rfl (xg3 ?_))));refine A2 ?_;refine xi3 ?_;refine xa9 (xb5 fo28_1.h rfl) qA trivial trivial rfl (xa9 (xb5 fo26_1.h rfl) qA trivial trivial rfl (xa9 (xb5 fo24_1.h rfl) qA trivial trivial rfl (xo9 (0) ti22 rfl rfl rfl (At.t (At.g 1 rfl rfl) (At.t (At.g 1 rfl rfl) (At.g 1 rfl rfl))) rfl rfl ?_)));refine zw1 (ts:=[_]) [u1] (CtN.exact (zn3 _ h2) rfl) fi87 ⟨zao,trivial⟩ rfl qA ((ItSt.key (T:=140) (k:=1) (f:=fun _:Unit=>tVaY v u1) (zs:=[()]) (us:=fun _=>[(u1,v.f.n.l)]) rfl (fun _ _=> .fd 1 rfl (.fd 0 rfl (.fd 1 rfl .lm)))).wit rfl) rfl (fun u2 n2 hn2 ho2 hu2=> ?_);refine xa9 (xb5 fo28_1.h rfl) qA trivial trivial rfl (xa9 (xb5 fo26_1.h rfl) qA trivial trivial rfl (xa9 (xb5 fo24_1.h rfl) qA trivial trivial rfl (xa9 (xn1 (k:=1) (T0:=28) (es:=6) (ts:=[.val (tVaY v u1)]) (0) ti22 rfl (upDX v u1 u2) rfl rfl) qB qA trivial rfl (xg3 ?_))));refine A8 ?_;exact EC rfl ⟨_,_,_,_,_,rfl,rfl,ti28,(jg6 (I:=fun p:Hd×Hd=>NewH w.heap.size [p.1,p.2]/\SepH [p.1,p.2]) (r:=fun p:Hd×Hd=>tVaX v p.1 p.2) (u1,u2) ⟨NewH.app (us:=[u1]) (vs:=[u2]) (hu1.le hn1) (hu2.le hn2),wb6 ho2 hu2⟩)⟩
theorem qh5 (a:List Fa) (key:ByteArray) (kn:Int) (hl:a.length<=100000) (hS:smF a):
  CtX Tryz.prog 40 [] [.val (tL 11 true tFa a),.val (tSt key),.val (tI kn)] (fun (nw:Nat) (x:List Zt)=>x.map Zt.s=vwT (toldT a key kn)/\SepH (hds x)/\NewH nw (hds x)) (fun x=> .own (.sl 14 8 0 x.length)) (fun x=>[(14,⟨55,8,true,rV tZt x⟩)]) [14]:=by
 refine CtX.intro [] func40 rfl ntmps40 rfl rfl trivial ?_;intro w F η;refine A9 ?_;refine A1 ?_;refine RE (xb7 (fun j=>cond (Nat.beq j 4) 1021 (cond (Nat.beq j 3) 21 (2021))) (zr9 a key kn) fi45 rfl (krN (ρ:=fun j=>cond (Nat.beq j 4) 1021 (cond (Nat.beq j 3) 21 (2021)))) (krC (ρ:=fun j=>cond (Nat.beq j 4) 1021 (cond (Nat.beq j 3) 21 (2021))) (k:=3) rfl (krC (ρ:=fun j=>cond (Nat.beq j 4) 1021 (cond (Nat.beq j 3) 21 (2021))) (k:=4) rfl (krC (ρ:=fun j=>cond (Nat.beq j 4) 1021 (cond (Nat.beq j 3) 21 (2021))) (k:=5) rfl (krN (ρ:=fun j=>cond (Nat.beq j 4) 1021 (cond (Nat.beq j 3) 21 (2021))))))) ⟨⟨rfl,(SupX.lit rfl)⟩,⟨rfl,(SupX.lit rfl)⟩,⟨rfl,(SupX.lit rfl)⟩,trivial⟩ rfl) ⟨rfl,rfl,rfl,trivial⟩ trivial ⟨rfl,rfl,rfl,trivial⟩ ?_;refine RE (xb7 (fun j=>cond (Nat.beq j 105) 1021 (cond (Nat.beq j 104) 21 (cond (Nat.beq j 4) 22 (2021)))) (zd3 a key kn (by omega)) fi44 rfl (krC (ρ:=fun j=>cond (Nat.beq j 105) 1021 (cond (Nat.beq j 104) 21 (cond (Nat.beq j 4) 22 (2021)))) (k:=104) rfl (krC (ρ:=fun j=>cond (Nat.beq j 105) 1021 (cond (Nat.beq j 104) 21 (cond (Nat.beq j 4) 22 (2021)))) (k:=105) rfl (krC (ρ:=fun j=>cond (Nat.beq j 105) 1021 (cond (Nat.beq j 104) 21 (cond (Nat.beq j 4) 22 (2021)))) (k:=106) rfl (krN (ρ:=fun j=>cond (Nat.beq j 105) 1021 (cond (Nat.beq j 104) 21 (cond (Nat.beq j 4) 22 (2021)))))))) (krC (ρ:=fun j=>cond (Nat.beq j 105) 1021 (cond (Nat.beq j 104) 21 (cond (Nat.beq j 4) 22 (2021)))) (k:=4) x8 (krN (ρ:=fun j=>cond (Nat.beq j 105) 1021 (cond (Nat.beq j 104) 21 (cond (Nat.beq j 4) 22 (2021)))))) ⟨⟨rfl,x6⟩,trivial⟩ rfl) ⟨rfl,trivial⟩ ⟨rfl,rfl,rfl,trivial⟩ ⟨rfl,trivial⟩ ?_;refine A4 ?_;have hTl0:=yf1 (a:=a) (key:=key) (kn:=kn);have hST0:smF (toldT a key kn):=fun f hf=>hS f (xk5 hf).1;generalize toldT a key kn=T at*
 have hbl:=zh1 (T:=T);have hST:=hST0;refine zs4 (t:=7) (k:=22) (f:=tFa) (xs:=T) rfl rfl (fun _ ⟨_,h,_⟩=>by cases h) (xe9 rfl) rfl ?_;refine A2 ?_;refine R1 (x4 (yz8 T (by omega)) fi46 rfl) rfl ?_;refine A7 ?_;refine RE (xi0 (k:=27) (t:=tE (.pointer none)) (ts:=rV (tO 11 true tFa) (rowA T (bdF T) 0)) (bdF T).length (bdF T).length zgv el128 (fun _ _=>rfl) rfl rfl rfl (zbq _) (by omega) (by omega) (by rw [zk2];exact yd0 (f:=tO 11 true tFa) _ _ rfl)) ⟨rfl,rfl,trivial⟩ trivial ⟨rfl,trivial⟩ ?_;refine A9 ?_;refine A3 ?_;refine xh8 (fun (i:Nat)=>i<=T.length) (fun (i:Nat)=>upd (upd (upd (upd (upd (fun _=>none) 7 (some (.val (tL 11 true tFa T)))) 8 (some (.val (tL 1 false tI (bdF T))))) 9 (some (.own (.sl 27 1 0 (bdF T).length)))) 29 (some (.val (tI T.length)))) 30 (some (.val (tI i)))) (fun (i:Nat)=>upd (fun _=>none) 27 (some (⟨128,1,false,rV (tO 11 true tFa) (rowA T (bdF T) i)⟩))) (nm [27]) (fun (i:Nat)=>T.length - i) (0) (zbt _) (zae rfl (zae rfl (zan rfl (zan rfl (zan rfl zay))))) ((zaq rfl zap) zax) (zaj (zaj (zak rfl (zaj (zaj zar))))) (zam rfl (supJ x6) zaz) (lkOk rfl) ?_;intro i hI;have hx1:=zc8 (ds:=bdF T) (x:=(T.getD i fa0).lo);have hx2:=zc8 (ds:=bdF T) (x:=(T.getD i fa0).hi);refine A6 ?_;refine x9 rfl (fun h117=> ?_) (fun h117=> ?_)
 ·
  refine A9 ?_;refine A6 ?_;refine R2 (x5 sl33 (i) (by omega) (zai (l:=T) (n:=i) (d:=fa0))) rfl rfl ?_;refine A1 ?_;refine R2 (x4 (qn3 (bdF T) (T.getD i fa0) xh9 (by omega)) fi49 rfl) rfl rfl ?_;refine A9 ?_;refine A5 ?_;refine xh8 (fun (p:Nat)=>(ixD (bdF T) (T.getD i fa0).lo)<=p/\(p<=(ixD (bdF T) (T.getD i fa0).hi)∨p=(ixD (bdF T) (T.getD i fa0).lo))) (fun (p:Nat)=>upd (upd (upd (upd (upd (upd (upd (upd (fun _=>none) 7 (some (.val (tL 11 true tFa T)))) 8 (some (.val (tL 1 false tI (bdF T))))) 9 (some (.own (.sl 27 1 0 (bdF T).length)))) 10 (some (.val (tI i)))) 12 (some (.val (tI (ixD (bdF T) (T.getD i fa0).hi))))) 13 (some (.val (tI p)))) 29 (some (.val (tI T.length)))) 30 (some (.val (tI i)))) (fun (p:Nat)=>upd (fun _=>none) 27 (some (⟨128,1,false,rV (tO 11 true tFa) (rowL T (bdF T) i p)⟩))) (nm [27]) (fun (p:Nat)=>(ixD (bdF T) (T.getD i fa0).hi) - p) ((ixD (bdF T) (T.getD i fa0).lo)) ⟨zbq _,.inr rfl⟩ (zae rfl (zae rfl (zae rfl (zae rfl (zae rfl (zan rfl (zan rfl (zan rfl zay)))))))) ((zaq rfl (zat (by rw [za6 xh9 (by omega)]))) zax) (zaj (zaj (zaj (zaj (zaj (zak rfl (zaj (zaj zar)))))))) (zam rfl (supJ x6) zaz) (lkOk rfl) ?_;intro p hI2;obtain ⟨hp1,hp2⟩:=hI2;refine A8 ?_;refine x9 rfl (fun h119=> ?_) (fun h119=> ?_)
  ·
   refine A9 ?_;refine R2 (x5 sl33 (i) (by omega) (zai (l:=T) (n:=i) (d:=fa0))) rfl rfl ?_;refine R2 (zag sl127 rfl) rfl rfl ?_;refine RE (xc1 (p) ti128 (xi5 (by rw [xk8];omega)) (by omega) (xf0 (m:=(some (T.getD i fa0))) rfl)) ⟨rfl,rfl,trivial⟩ ⟨rfl,trivial⟩ trivial ?_;refine A8 ?_;exact xf5 (p+1) ⟨⟨by omega,.inl (by omega)⟩,(by omega)⟩ (zae rfl (zae rfl (zae rfl (zae rfl (zae rfl (zan rfl (zan rfl (zan rfl zay)))))))) ((zaq rfl (zat (by rw [qc2 xh9 (by omega) (by omega) hp1 (by omega)]))) zax) (zaj (zaj (zaj (zaj (zaj (zak rfl (zaj (zaj zar)))))))) (zam rfl (supJ x6) zaz) (lkOk rfl)
  ·
   refine A9 ?_;refine A1 ?_;exact xf5 (i+1) ⟨(by omega),(by omega)⟩ (zae rfl (zae rfl (zan rfl (zan rfl (zan rfl zay))))) ((zaq rfl (zat (by rw [zt1 xh9 (by omega) hp1 (by omega)]))) zax) (zaj (zaj (zak rfl (zaj (zaj zar))))) (zam rfl (supJ x6) zaz) (lkOk rfl)
 ·
  refine A7 ?_;refine RE (xg1 (k:=14) 55 8 true rfl (fun h=>by cases h)) trivial trivial ⟨rfl,trivial⟩ ?_;refine A9 ?_;refine A2 ?_;refine xh8 (fun (fm:(Nat)×(List Zt))=>(fun (k:Nat) (xs:List Zt)=>k<=(bdF T).length/\xs.map Zt.s=vwK T k/\SepH (hds xs)/\NewH w.heap.size (hds xs)) fm.1 fm.2) (fun (fm:(Nat)×(List Zt))=>(fun (k:Nat) (xs:List Zt)=>upd (upd (upd (upd (upd (fun _=>none) 8 (some (.val (tL 1 false tI (bdF T))))) 14 (some (.own (.sl 14 8 0 xs.length)))) 55 (some (.own (.sl 27 1 0 (bdF T).length)))) 56 (some (.val (tI (bdF T).length)))) 57 (some (.val (tI k)))) fm.1 fm.2) (fun (fm:(Nat)×(List Zt))=>(fun (k:Nat) (xs:List Zt)=>upd (upd (fun _=>none) 27 (some (⟨128,1,false,rV (tO 11 true tFa) (rowA T (bdF T) T.length)⟩))) 14 (some (⟨55,8,true,rV tZt xs⟩))) fm.1 fm.2) (nm [27,14]) (fun (fm:(Nat)×(List Zt))=>(fun (k:Nat) (xs:List Zt)=>(bdF T).length - k) fm.1 fm.2) ((0,[])) (by dsimp only;exact ⟨zbt _,rfl,SepH.nil,NewH.nil⟩) (zae rfl (zae rfl (zan rfl (zan rfl (zan rfl zay))))) ((zaq rfl zap) ((zaq rfl (zat (by rw [show i=T.length by omega]))) zax)) (zaj (zaj (zak rfl (zak rfl (zaj zar))))) (zam rfl (supJ x6) (zam rfl (supJ x6) zaz)) (lkOk rfl) ?_;intro fm hI;obtain ⟨k,xs⟩:=fm;replace hI:k<=(bdF T).length/\xs.map Zt.s=vwK T k/\SepH (hds xs)/\NewH w.heap.size (hds xs):=hI;show wc _ _ _ _ (upd (upd (upd (upd (upd (fun _=>none) 8 (some (.val (tL 1 false tI (bdF T))))) 14 (some (.own (.sl 14 8 0 xs.length)))) 55 (some (.own (.sl 27 1 0 (bdF T).length)))) 56 (some (.val (tI (bdF T).length)))) 57 (some (.val (tI k)))) (upd (upd (fun _=>none) 27 (some (⟨128,1,false,rV (tO 11 true tFa) (rowA T (bdF T) T.length)⟩))) 14 (some (⟨55,8,true,rV tZt xs⟩))) _;obtain ⟨hk,hx,hs,hn⟩:=hI;have hxl:xs.length<=k:=by
   rw [<-zch (f:=Zt.s),hx];exact jw9
  refine A6 ?_;refine x9 rfl (fun h124=> ?_) (fun h124=> ?_)
  ·
   refine A7 ?_;refine R2 (zag sl127 rfl) rfl rfl ?_;refine RE (xa5 (k) ti128 (xc3 (f:=tO 11 true tFa) (xs:=rowA T (bdF T) T.length) (d:=none) (by rw [yh7];omega)) (by omega)) ⟨rfl,trivial⟩ ⟨rfl,trivial⟩ trivial ?_;refine A6 ?_;have hlo:(rowA T (bdF T) T.length).getD k none=lastF T ((bdF T).getD k 0):=by rw [yw3 (by omega),zcf]
   generalize (rowA T (bdF T) T.length).getD k none=o at*
   refine A2 ?_;refine R1 (yw9 (n:=11) (agg:=true) (f:=tFa) underlying128) rfl ?_;refine A1 ?_;refine RGcase (t:=64) rfl (fun h125=> ?_) (fun h125=> ?_)
   ·
    have hgn:gF T ((bdF T).getD k 0)=none:=by rw [gF,<-hlo,Option.isNone_iff_eq_none.1 h125];rfl
    refine A9 ?_;refine A7 ?_;exact xf5 ((k+1,xs)) ⟨(by dsimp only;exact ⟨by omega,by rw [zw3 hgn];exact hx,hs,hn⟩),(by dsimp only;omega)⟩ (zae rfl (zae rfl (zan rfl (zan rfl (zan rfl zay))))) ((zaq rfl zap) ((zaq rfl zap) zax)) (zaj (zaj (zak rfl (zak rfl (zaj zar))))) (zam rfl (supJ x6) (zam rfl (supJ x6) zaz)) (lkOk rfl)
   ·
    obtain ⟨f,rfl⟩: ∃f,o=some f:=Option.isSome_iff_exists.1 (by cases o with
     | none=>exact absurd h125 (by decide)
     | some f=>rfl)
    refine A1 ?_;refine RGon h125 rfl (xr7 (n:=11) (agg:=true) (f:=tFa) (y:=f) rfl) rfl ⟨rfl,trivial⟩ trivial trivial ?_;refine RGon h125 rfl (xa6 fo30_4.h (At.f 4 rfl rfl) rfl) rfl ⟨rfl,trivial⟩ trivial trivial ?_;refine RGon h125 rfl (xf2 ti4) rfl ⟨rfl,trivial⟩ trivial trivial ?_;refine A3 ?_;refine xc7 rfl (fun h125_2=> ?_) (fun h125_2=> ?_)
    ·
     have hgn:gF T ((bdF T).getD k 0)=none:=by rw [gF,<-hlo,valF,if_pos h125_2]
     refine A8 ?_;exact xf5 ((k+1,xs)) ⟨(by dsimp only;exact ⟨by omega,by rw [zw3 hgn];exact hx,hs,hn⟩),(by dsimp only;omega)⟩ (zae rfl (zae rfl (zan rfl (zan rfl (zan rfl zay))))) ((zaq rfl zap) ((zaq rfl zap) zax)) (zaj (zaj (zak rfl (zak rfl (zaj zar))))) (zam rfl (supJ x6) (zam rfl (supJ x6) zaz)) (lkOk rfl)
    ·
     rw [<-Bool.not_eq_true] at h125_2;refine A3 ?_;have hgs:gF T ((bdF T).getD k 0)=some f.v:=by rw [gF,<-hlo,valF,if_neg h125_2]
     have hk1:=yo4 hlo.symm (by omega);have hfm:=(xj2 hlo.symm).1;have hpd:=ys6 (xh9 (T:=T)) (show k < k+1 by omega) hk1;refine A7 ?_;have hgs:gF T ((bdF T).getD k 0)=some f.v:=by rw [gF,<-hlo,valF,if_neg h125_2]
     have hk1:=yo4 hlo.symm (by omega);have hfm:=(xj2 hlo.symm).1;have hpd:=ys6 (xh9 (T:=T)) (show k < k+1 by omega) hk1;refine A4 ?_;refine RGcaseD (t:=74) rfl (fun h128=> ?_) (fun h128=> ?_)
     ·
      refine A2 ?_;refine RGon (zbf h128) rfl (xh2 zah) rfl ⟨rfl,rfl,trivial⟩ trivial trivial ?_;refine RGon (zbf h128) rfl (zag sl38 rfl) rfl ⟨rfl,rfl,trivial⟩ trivial trivial ?_;refine A1 ?_;refine RGon (zbf h128) rfl (xp2 (es:=8) (o:=1) (xs.length - 1) ti3 (xc3 (d:=zt0) (by omega)) (At.g 1 rfl rfl) (by omega)) rfl ⟨rfl,trivial⟩ ⟨rfl,trivial⟩ trivial ?_;refine A2 ?_;refine RGon (zbf h128) rfl (x5 sl35 (k) (by omega) (zai (l:=bdF T) (n:=k) (d:=0))) rfl ⟨rfl,rfl,trivial⟩ trivial trivial ?_;refine A4 ?_;refine RGcaseD (t:=87) rfl (fun h128_2=> ?_) (fun h128_2=> ?_)
      ·
       refine A2 ?_;refine RGon (zbf h128_2) rfl (xh2 zah) rfl ⟨rfl,rfl,trivial⟩ trivial trivial ?_;refine RGon (zbf h128_2) rfl (zag sl38 rfl) rfl ⟨rfl,rfl,trivial⟩ trivial trivial ?_;refine A1 ?_;refine RGon (zbf h128_2) rfl (xp2 (es:=8) (o:=2) (xs.length - 1) ti28 (xc3 (d:=zt0) (by omega)) (At.g 2 rfl rfl) (by omega)) rfl ⟨rfl,trivial⟩ ⟨rfl,trivial⟩ trivial ?_;refine A1 ?_;refine RGon (zbf h128_2) rfl (xr7 (n:=11) (agg:=true) (f:=tFa) (y:=f) rfl) rfl ⟨rfl,trivial⟩ trivial trivial ?_;refine RGon (zbf h128_2) rfl (xa6 fo30_5.h (At.f 5 rfl rfl) rfl) rfl ⟨rfl,trivial⟩ trivial trivial ?_;refine A1 ?_;refine RGon (zbf h128_2) rfl (xd5 (ts:=[tVaX (xs.getD (xs.length - 1) zt0).s.v (xs.getD (xs.length - 1) zt0).n (xs.getD (xs.length - 1) zt0).d,tVa f.v]) (yq5 _ _) fi36 rfl ⟨ze2,zao,trivial⟩) rfl ⟨rfl,rfl,trivial⟩ trivial trivial ?_;refine A3 ?_;refine x9 rfl (fun h128_3=> ?_) (fun h128_3=> ?_)
       ·
        refine A7 ?_;refine R2 (x5 sl35 (k+1) (by omega) (zai (l:=bdF T) (n:=k+1) (d:=0))) rfl rfl ?_;refine A1 ?_;refine R2 (zag sl38 rfl) rfl rfl ?_;refine A1 ?_;refine RE (xn1 (es:=8) (o:=1) (t2:=tZt ⟨⟨(xs.getD (xs.length - 1) zt0).s.lo,(bdF T).getD (k+1) 0,(xs.getD (xs.length - 1) zt0).s.v⟩,(xs.getD (xs.length - 1) zt0).n,(xs.getD (xs.length - 1) zt0).d⟩) (xs.length - 1) ti3 (xc3 (d:=zt0) (by omega)) (Up.g 1 rfl rfl rfl) (by omega) (xf0 rfl)) ⟨rfl,rfl,trivial⟩ ⟨rfl,trivial⟩ trivial ?_;refine A7 ?_;exact xf5 ((k+1,(xs.set (xs.length - 1) ⟨⟨(xs.getD (xs.length - 1) zt0).s.lo,(bdF T).getD (k+1) 0,(xs.getD (xs.length - 1) zt0).s.v⟩,(xs.getD (xs.length - 1) zt0).n,(xs.getD (xs.length - 1) zt0).d⟩))) ⟨(by dsimp only;exact ⟨by omega,by rw [yj8 hgs,<-hx,pX_set (by dsimp only;omega) (by omega) (by dsimp only;omega) h128_3],by rw [qo8 (by omega)];exact hs,by rw [qo8 (by omega)];exact hn⟩),(by dsimp only;omega)⟩ (zae rfl (zae rfl (zan rfl ((zav rfl (zaw (by dsimp only;rw [zdn]))) (zan rfl zay))))) ((zaq rfl zap) ((zaq rfl zap) zax)) (zaj (zaj (zak rfl (zak rfl (zaj zar))))) (zam rfl (supJ x6) (zam rfl (supJ x6) zaz)) (lkOk rfl)
       ·
        refine A4 ?_;refine R2 (x5 sl35 (k) (by omega) (zai (l:=bdF T) (n:=k) (d:=0))) rfl rfl ?_;refine A4 ?_;refine R2 (x5 sl35 (k+1) (by omega) (zai (l:=bdF T) (n:=k+1) (d:=0))) rfl rfl ?_;refine A2 ?_;refine R1 (xr7 (n:=11) (agg:=true) (f:=tFa) (y:=f) rfl) rfl ?_;refine R1 (xa6 fo30_5.h (At.f 5 rfl rfl) rfl) rfl ?_;refine A1 ?_;refine RE (yj0 (ts:=[_]) (r:=tVaF w.heap.size (hds xs) f.v) (hds xs) [(14,⟨55,8,true,rV tZt xs⟩)] (ya6 f.v (hST f hfm).1 (hST f hfm).2) fi57 (fun _ _ hk=>yb7 hk.1) (fun m hm ho=>zd5 hm ho) ⟨zao,trivial⟩ rfl) ⟨rfl,trivial⟩ ⟨rfl,trivial⟩ trivial ?_;refine R3 (xd3 (r:=tS [⟨1,false,tI ((bdF T).getD k 0)⟩,⟨1,false,tI ((bdF T).getD (k+1) 0)⟩,⟨6,true,tVaF w.heap.size (hds xs) f.v⟩]) (ts:=[(0,tI ((bdF T).getD k 0)),(1,tI ((bdF T).getD (k+1) 0)),(2,tVaF w.heap.size (hds xs) f.v)]) bu55 zr55.2 (Bc 0 rfl rfl rfl (Bc 1 rfl rfl rfl (Bc 2 rfl rfl rfl zao)))) rfl rfl rfl ?_;refine R1 (xc2 (n:=1) (f:=fun s:Tst=>tZtF w.heap.size (hds xs) s) [(⟨(bdF T).getD k 0,(bdF T).getD (k+1) 0,f.v⟩:Tst)] zgp el55 zf55 rfl (fun _=>inferInstance) rfl rfl rfl) rfl ?_;refine RE (xb3 (k:=14) (k':=127) (f:=fun s:Tst=>tZtF w.heap.size (hds xs) s) (ys:=[(⟨(bdF T).getD k 0,(bdF T).getD (k+1) 0,f.v⟩:Tst)]) (ts':=rV tZt xs++[.val (tZtF w.heap.size (hds xs) (⟨(bdF T).getD k 0,(bdF T).getD (k+1) 0,f.v⟩:Tst))]) zgp el55 zf55 rfl rfl (fun _=>inferInstance) xc0 (by simp;omega) (by simp;omega) rfl (n':=xs.length+1) rfl) ⟨rfl,rfl,trivial⟩ ⟨rfl,trivial⟩ ⟨rfl,trivial⟩ ?_;refine A4 ?_;refine zj3 (k:=127) (ts:=rV tZt xs) (fun u:Hd×Hd=>tZt ⟨(⟨(bdF T).getD k 0,(bdF T).getD (k+1) 0,f.v⟩:Tst),u.1,u.2⟩) rfl zh8 (fun u hu=> ?_);refine xt7 (k:=127) (e':=⟨55,8,true,rV tZt (xs++[(⟨(⟨(bdF T).getD k 0,(bdF T).getD (k+1) 0,f.v⟩:Tst),u.1,u.2⟩:Zt)])⟩) rfl (by simp [rV]) ?_;refine A4 ?_;exact xe3 (l:=[27,14]) (zab 14 127) ((k+1,xs++[(⟨(⟨(bdF T).getD k 0,(bdF T).getD (k+1) 0,f.v⟩:Tst),u.1,u.2⟩:Zt)])) ⟨(by dsimp only;exact ⟨by omega,by rw [yj8 hgs,<-hx,zz2 (n:=u.1) (d:=u.2) (by dsimp only;omega) (fun h=>h128_3 h.2.2)],by rw [xu7];exact hs.fresh hu.1.2 hu.2,by rw [xu7];exact NewH.app hn hu.1.1⟩),(by dsimp only;omega)⟩ (zaf rfl (zaf rfl (zas rfl ((zbc rfl (zaw (by dsimp only;rw [zbm];rfl))) (zas rfl zbd))))) ((zbb rfl (zat x8.symm)) ((zbb rfl (zat x8.symm)) zbe)) (zaj (zaj (zak rfl (zak rfl (zaj zar))))) (zam rfl (supJ x6) (zam rfl (supJ x6) zaz)) (lkOk rfl) rfl rfl (fun _ h=>by cases h)
      ·
       refine A9 ?_;refine A9 ?_;refine A1 ?_;refine R2 (x5 sl35 (k) (by omega) (zai (l:=bdF T) (n:=k) (d:=0))) rfl rfl ?_;refine A4 ?_;refine R2 (x5 sl35 (k+1) (by omega) (zai (l:=bdF T) (n:=k+1) (d:=0))) rfl rfl ?_;refine A2 ?_;refine R1 (xr7 (n:=11) (agg:=true) (f:=tFa) (y:=f) rfl) rfl ?_;refine R1 (xa6 fo30_5.h (At.f 5 rfl rfl) rfl) rfl ?_;refine A1 ?_;refine RE (yj0 (ts:=[_]) (r:=tVaF w.heap.size (hds xs) f.v) (hds xs) [(14,⟨55,8,true,rV tZt xs⟩)] (ya6 f.v (hST f hfm).1 (hST f hfm).2) fi57 (fun _ _ hk=>yb7 hk.1) (fun m hm ho=>zd5 hm ho) ⟨zao,trivial⟩ rfl) ⟨rfl,trivial⟩ ⟨rfl,trivial⟩ trivial ?_;refine R3 (xd3 (r:=tS [⟨1,false,tI ((bdF T).getD k 0)⟩,⟨1,false,tI ((bdF T).getD (k+1) 0)⟩,⟨6,true,tVaF w.heap.size (hds xs) f.v⟩]) (ts:=[(0,tI ((bdF T).getD k 0)),(1,tI ((bdF T).getD (k+1) 0)),(2,tVaF w.heap.size (hds xs) f.v)]) bu55 zr55.2 (Bc 0 rfl rfl rfl (Bc 1 rfl rfl rfl (Bc 2 rfl rfl rfl zao)))) rfl rfl rfl ?_;refine R1 (xc2 (n:=1) (f:=fun s:Tst=>tZtF w.heap.size (hds xs) s) [(⟨(bdF T).getD k 0,(bdF T).getD (k+1) 0,f.v⟩:Tst)] zgp el55 zf55 rfl (fun _=>inferInstance) rfl rfl rfl) rfl ?_;refine RE (xb3 (k:=14) (k':=127) (f:=fun s:Tst=>tZtF w.heap.size (hds xs) s) (ys:=[(⟨(bdF T).getD k 0,(bdF T).getD (k+1) 0,f.v⟩:Tst)]) (ts':=rV tZt xs++[.val (tZtF w.heap.size (hds xs) (⟨(bdF T).getD k 0,(bdF T).getD (k+1) 0,f.v⟩:Tst))]) zgp el55 zf55 rfl rfl (fun _=>inferInstance) xc0 (by simp;omega) (by simp;omega) rfl (n':=xs.length+1) rfl) ⟨rfl,rfl,trivial⟩ ⟨rfl,trivial⟩ ⟨rfl,trivial⟩ ?_;refine A4 ?_;refine zj3 (k:=127) (ts:=rV tZt xs) (fun u:Hd×Hd=>tZt ⟨(⟨(bdF T).getD k 0,(bdF T).getD (k+1) 0,f.v⟩:Tst),u.1,u.2⟩) rfl zh8 (fun u hu=> ?_);refine xt7 (k:=127) (e':=⟨55,8,true,rV tZt (xs++[(⟨(⟨(bdF T).getD k 0,(bdF T).getD (k+1) 0,f.v⟩:Tst),u.1,u.2⟩:Zt)])⟩) rfl (by simp [rV]) ?_;refine A4 ?_;exact xe3 (l:=[27,14]) (zab 14 127) ((k+1,xs++[(⟨(⟨(bdF T).getD k 0,(bdF T).getD (k+1) 0,f.v⟩:Tst),u.1,u.2⟩:Zt)])) ⟨(by dsimp only;exact ⟨by omega,by rw [yj8 hgs,<-hx,zz2 (n:=u.1) (d:=u.2) (by dsimp only;omega) (by dsimp only;omega)],by rw [xu7];exact hs.fresh hu.1.2 hu.2,by rw [xu7];exact NewH.app hn hu.1.1⟩),(by dsimp only;omega)⟩ (zaf rfl (zaf rfl (zas rfl ((zbc rfl (zaw (by dsimp only;rw [zbm];rfl))) (zas rfl zbd))))) ((zbb rfl (zat x8.symm)) ((zbb rfl (zat x8.symm)) zbe)) (zaj (zaj (zak rfl (zak rfl (zaj zar))))) (zam rfl (supJ x6) (zam rfl (supJ x6) zaz)) (lkOk rfl) rfl rfl (fun _ h=>by cases h)
     ·
      refine A9 ?_;refine A9 ?_;refine A9 ?_;refine A5 ?_;refine R2 (x5 sl35 (k) (by omega) (zai (l:=bdF T) (n:=k) (d:=0))) rfl rfl ?_;refine A4 ?_;refine R2 (x5 sl35 (k+1) (by omega) (zai (l:=bdF T) (n:=k+1) (d:=0))) rfl rfl ?_;refine A2 ?_;refine R1 (xr7 (n:=11) (agg:=true) (f:=tFa) (y:=f) rfl) rfl ?_;refine R1 (xa6 fo30_5.h (At.f 5 rfl rfl) rfl) rfl ?_;refine A1 ?_;refine RE (yj0 (ts:=[_]) (r:=tVaF w.heap.size (hds xs) f.v) (hds xs) [(14,⟨55,8,true,rV tZt xs⟩)] (ya6 f.v (hST f hfm).1 (hST f hfm).2) fi57 (fun _ _ hk=>yb7 hk.1) (fun m hm ho=>zd5 hm ho) ⟨zao,trivial⟩ rfl) ⟨rfl,trivial⟩ ⟨rfl,trivial⟩ trivial ?_;refine R3 (xd3 (r:=tS [⟨1,false,tI ((bdF T).getD k 0)⟩,⟨1,false,tI ((bdF T).getD (k+1) 0)⟩,⟨6,true,tVaF w.heap.size (hds xs) f.v⟩]) (ts:=[(0,tI ((bdF T).getD k 0)),(1,tI ((bdF T).getD (k+1) 0)),(2,tVaF w.heap.size (hds xs) f.v)]) bu55 zr55.2 (Bc 0 rfl rfl rfl (Bc 1 rfl rfl rfl (Bc 2 rfl rfl rfl zao)))) rfl rfl rfl ?_;refine R1 (xc2 (n:=1) (f:=fun s:Tst=>tZtF w.heap.size (hds xs) s) [(⟨(bdF T).getD k 0,(bdF T).getD (k+1) 0,f.v⟩:Tst)] zgp el55 zf55 rfl (fun _=>inferInstance) rfl rfl rfl) rfl ?_;refine RE (xb3 (k:=14) (k':=127) (f:=fun s:Tst=>tZtF w.heap.size (hds xs) s) (ys:=[(⟨(bdF T).getD k 0,(bdF T).getD (k+1) 0,f.v⟩:Tst)]) (ts':=rV tZt xs++[.val (tZtF w.heap.size (hds xs) (⟨(bdF T).getD k 0,(bdF T).getD (k+1) 0,f.v⟩:Tst))]) zgp el55 zf55 rfl rfl (fun _=>inferInstance) xc0 (by simp;omega) (by simp;omega) rfl (n':=xs.length+1) rfl) ⟨rfl,rfl,trivial⟩ ⟨rfl,trivial⟩ ⟨rfl,trivial⟩ ?_;refine A4 ?_;refine zj3 (k:=127) (ts:=rV tZt xs) (fun u:Hd×Hd=>tZt ⟨(⟨(bdF T).getD k 0,(bdF T).getD (k+1) 0,f.v⟩:Tst),u.1,u.2⟩) rfl zh8 (fun u hu=> ?_);refine xt7 (k:=127) (e':=⟨55,8,true,rV tZt (xs++[(⟨(⟨(bdF T).getD k 0,(bdF T).getD (k+1) 0,f.v⟩:Tst),u.1,u.2⟩:Zt)])⟩) rfl (by simp [rV]) ?_;refine A4 ?_;exact xe3 (l:=[27,14]) (zab 14 127) ((k+1,xs++[(⟨(⟨(bdF T).getD k 0,(bdF T).getD (k+1) 0,f.v⟩:Tst),u.1,u.2⟩:Zt)])) ⟨(by dsimp only;exact ⟨by omega,by rw [yj8 hgs,<-hx,zz2 (n:=u.1) (d:=u.2) (by dsimp only;omega) (by dsimp only;omega)],by rw [xu7];exact hs.fresh hu.1.2 hu.2,by rw [xu7];exact NewH.app hn hu.1.1⟩),(by dsimp only;omega)⟩ (zaf rfl (zaf rfl (zas rfl ((zbc rfl (zaw (by dsimp only;rw [zbm];rfl))) (zas rfl zbd))))) ((zbb rfl (zat x8.symm)) ((zbb rfl (zat x8.symm)) zbe)) (zaj (zaj (zak rfl (zak rfl (zaj zar))))) (zam rfl (supJ x6) (zam rfl (supJ x6) zaz)) (lkOk rfl) rfl rfl (fun _ h=>by cases h)
  ·
   refine A9 ?_;refine A3 ?_;refine E_X (xs) (⟨by rw [hx,show k=(bdF T).length by omega,wg4],hs,hn⟩) ?_;exact xg0 LentC.mk' rfl rfl Imp.refl ⟨rfl,trivial⟩ rfl ⟨⟨rfl,x6⟩,trivial⟩ rfl
theorem qj5 {T:Nat}:Le (tE (.slice none 0 0)) (tLmX T ⟨none,0,0⟩ []):=fun _ _ _ h=>⟨h,rfl,zbq _,by decide,fun h=>absurd h (Nat.lt_irrefl _)⟩
abbrev hdN:Hd:=⟨none,0,0⟩
theorem jq0 {n:Nat}:NewH n [hdN,hdN]/\SepH [hdN,hdN]:=by
 refine ⟨fun u hu b hb=> ?_,zcg.2 ⟨fun v hv b hb=>(by cases hb),SepH.one⟩⟩;have e:u=hdN:=by simpa using hu
 subst e;cases hb
theorem vaZ {F:Dom} {w:World}:(tS [⟨1,false,tE (.int .u8 0)⟩,⟨4,true,tS [⟨2,true,tS [⟨1,false,tE (.bool false)⟩,⟨1,false,tE (.slice none 0 0)⟩]⟩,⟨2,true,tS [⟨1,false,tE (.bool false)⟩,⟨1,false,tE (.slice none 0 0)⟩]⟩]⟩,⟨1,false,tE (.int .i64 0)⟩]).p F w (.agg #[.int .u8 0,.bool false,.slice none 0 0,.bool false,.slice none 0 0,.int .i64 0]):=
 ⟨_,rfl,rfl,⟨fun _=>rfl,rfl⟩,⟨fun h=>(by cases h),_,rfl,rfl,⟨fun h=>(by cases h),_,rfl,rfl,⟨fun _=>rfl,rfl⟩,⟨fun _=>rfl,rfl⟩,trivial⟩,⟨fun h=>(by cases h),_,rfl,rfl,⟨fun _=>rfl,rfl⟩,⟨fun _=>rfl,rfl⟩,trivial⟩,trivial⟩,⟨fun _=>rfl,rfl⟩,trivial⟩
abbrev tVaE (nw:Nat) (v:Va):Ty:=tEx (fun p:Hd×Hd=>NewH nw [p.1,p.2]/\SepH [p.1,p.2]) fun p=>tVaX v p.1 p.2
theorem va0X {n:Nat}:Le (tS [⟨1,false,tE (.int .u8 0)⟩,⟨4,true,tS [⟨2,true,tS [⟨1,false,tE (.bool false)⟩,⟨1,false,tE (.slice none 0 0)⟩]⟩,⟨2,true,tS [⟨1,false,tE (.bool false)⟩,⟨1,false,tE (.slice none 0 0)⟩]⟩]⟩,⟨1,false,tE (.int .i64 0)⟩]) (tVaE n An.va0):=
 Le.trans (u:=tVaX An.va0 hdN hdN) (Le.tS ⟨⟨rfl,rfl,zao⟩,⟨rfl,rfl,Le.tS ⟨⟨rfl,rfl,Le.tS ⟨⟨rfl,rfl,zao⟩,⟨rfl,rfl,qj5⟩,trivial⟩⟩,⟨rfl,rfl,Le.tS ⟨⟨rfl,rfl,zao⟩,⟨rfl,rfl,qj5⟩,trivial⟩⟩,trivial⟩⟩,⟨rfl,rfl,zao⟩,trivial⟩) (jg6 (I:=fun p:Hd×Hd=>NewH n [p.1,p.2]/\SepH [p.1,p.2]) (r:=fun p:Hd×Hd=>tVaX An.va0 p.1 p.2) (hdN,hdN) jq0)
theorem vaF_E {n:Nat} {u v:Va} (e:u=v):Le (tVaF n [] u) (tVaE n v):=fun _ _ _ ⟨p,hp,hv⟩=>⟨p,hp.1,e▸hv⟩
theorem zi0 (a:List Fa) (key:ByteArray) (kn:Int) (hl:a.length<=100000) (hS:smF a) (hD: ∀f∈a,f.v.f.dgs):
  CtX Tryz.prog 10 [] [.val (tL 11 true tFa a),.val (tSt key),.val (tI kn)] (fun (nw:Nat) (x:List Zt×Int)=>x.1.map Zt.s=(if recOk a=true then vwT (toldT a key kn) else [])/\x.2=(if recOk a=true then 0 else 2)/\SepH (hds x.1)/\NewH nw (hds x.1)) (fun x=> .own (.tup [.sl 14 8 0 x.1.length,.ty (tI x.2)])) (fun x=>[(14,⟨55,8,true,rV tZt x.1⟩)]) [14]:=by
 refine CtX.intro [] func10 rfl ntmps10 rfl rfl trivial ?_;intro w F η;refine A9 ?_;refine A1 ?_;refine R1 (x4 (xk1 a hD) fi11 rfl) rfl ?_;refine A3 ?_;refine xc7 rfl (fun h139=> ?_) (fun h139=> ?_)
 ·
  have hr: ¬recOk a=true:=by simpa using h139
  refine A2 ?_;refine RE (xg1 (k:=14) 55 8 true rfl (fun h=>by cases h)) trivial trivial ⟨rfl,trivial⟩ ?_;refine A5 ?_;refine E_X (([],2)) (⟨by rw [if_neg (hr)];rfl,by rw [if_neg (hr)],SepH.nil,NewH.nil⟩) ?_;exact qm2 (r1:= .own (.sl 14 8 0 ([]:List Zt).length)) (r2:= .val (tI 2)) LentC.mk' rfl rfl rfl Imp.refl Imp.refl ⟨rfl,trivial⟩ rfl ⟨⟨rfl,x6⟩,trivial⟩ rfl
 ·
  have hr:recOk a=true:=by simpa using h139
  refine A3 ?_;refine xi3 ?_;refine xa9 xa3 ⟨rfl,trivial⟩ trivial trivial rfl ?_;refine xa9 xa3 ⟨rfl,trivial⟩ trivial trivial rfl ?_;refine xa9 xa3 ⟨rfl,trivial⟩ trivial trivial rfl ?_;refine jp9 [] (fun j=>cond (Nat.beq j 14) 14 j) (qh5 a key kn hl hS) fi40 rfl (krN (ρ:=(fun j=>cond (Nat.beq j 14) 14 j))) (fun _=>krC (ρ:=(fun j=>cond (Nat.beq j 14) 14 j)) (k:=14) x8 (krN (ρ:=(fun j=>cond (Nat.beq j 14) 14 j)))) (fun _=>⟨⟨rfl,x6⟩,trivial⟩) rfl (fun _=>rfl) ⟨rfl,rfl,rfl,trivial⟩ trivial ⟨rfl,trivial⟩ .nil rfl (fun x n1 hn1 _ hR1=> ?_);refine xa9 xb0 ⟨rfl,trivial⟩ trivial trivial rfl ?_;refine xa9 xb0 ⟨rfl,trivial⟩ trivial trivial rfl ?_;refine xg3 ?_;refine A2 ?_;refine E_X ((x,0)) (⟨by rw [if_pos hr];exact hR1.1,by rw [if_pos hr],hR1.2.1,hR1.2.2.le hn1⟩) ?_;exact qm2 (r1:= .own (.sl 14 8 0 x.length)) (r2:= .val (tI 0)) LentC.mk' rfl rfl rfl Imp.refl Imp.refl ⟨rfl,trivial⟩ rfl ⟨⟨rfl,x6⟩,trivial⟩ rfl
theorem ji8 (a:List Fa) (key:ByteArray) (d kn:Int) (hl:a.length<=100000) (hS:smF a) (hD: ∀f∈a,f.v.f.dgs):
  CtN Tryz.prog 17 [tL 11 true tFa a,tSt key,tI d,tI kn] (fun nw=>tT [tVaE nw ((atF a key d kn).getD An.va0),tB (atF a key d kn).isSome]):=by
 refine CtN.intro func17 rfl ntmps17 rfl ?_;intro w F;refine A3 ?_;refine RE (xb8 (k:=8) (n:=6) (agg:=true) zr28.1 zr28.2 rfl) trivial trivial qA ?_;refine A7 ?_;refine R1 (x4 (xk1 a hD) fi11 rfl) rfl ?_;refine A3 ?_;refine xc7 rfl (fun h147=> ?_) (fun h147=> ?_)
 ·
  have hr: ¬recOk a=true:=by simpa using h147
  refine A2 ?_;refine R0 (ys5 (r:=tS [⟨1,false,tE (.int .u8 0)⟩,⟨4,true,tS [⟨2,true,tS [⟨1,false,tE (.bool false)⟩,⟨1,false,tE (.slice none 0 0)⟩]⟩,⟨2,true,tS [⟨1,false,tE (.bool false)⟩,⟨1,false,tE (.slice none 0 0)⟩]⟩]⟩,⟨1,false,tE (.int .i64 0)⟩]) (ts:=[]) bu28 (fun _ _=>vaZ) ⟨_,rfl⟩ rfl zao) ?_;refine A6 ?_;exact EN (rs:=[.cell 8 28,.tmp 9]) rfl rfl ⟨⟨_,_,_,_,_,rfl,rfl,ti28,(by rw [atF,if_neg hr];exact va0X)⟩,⟨_,rfl,(zau (by rw [atF,if_neg hr];rfl))⟩,trivial⟩
 ·
  have hr:recOk a=true:=by simpa using h147
  refine A4 ?_;refine R1 (xd3 (r:=tS [⟨1,false,(tE (.string ⟨#[]⟩))⟩,⟨1,false,(tE (.int .i64 0))⟩,⟨1,false,(tE (.int .i64 0))⟩,⟨1,false,(tE (.int .i64 0))⟩,⟨1,false,tB true⟩,⟨6,true,(tS [⟨1,false,(tE (.int .u8 0))⟩,⟨4,true,zad⟩,⟨1,false,(tE (.int .i64 0))⟩])⟩]) (ts:=[(4,tB true)]) bu30 zr30.2 (Bc 4 rfl rfl rfl zao)) rfl (RE (xb8 (k:=10) (n:=11) (agg:=true) zr30.1 zr30.2 rfl) trivial trivial qA ?_);refine A9 ?_;refine RE (xb7 (fun j=>cond (Nat.beq j 4) 1020 (cond (Nat.beq j 3) 20 (2020))) (zr9 a key kn) fi45 rfl (krN (ρ:=fun j=>cond (Nat.beq j 4) 1020 (cond (Nat.beq j 3) 20 (2020)))) (krC (ρ:=fun j=>cond (Nat.beq j 4) 1020 (cond (Nat.beq j 3) 20 (2020))) (k:=3) rfl (krC (ρ:=fun j=>cond (Nat.beq j 4) 1020 (cond (Nat.beq j 3) 20 (2020))) (k:=4) rfl (krC (ρ:=fun j=>cond (Nat.beq j 4) 1020 (cond (Nat.beq j 3) 20 (2020))) (k:=5) rfl (krN (ρ:=fun j=>cond (Nat.beq j 4) 1020 (cond (Nat.beq j 3) 20 (2020))))))) ⟨⟨rfl,(SupX.lit rfl)⟩,⟨rfl,(SupX.lit rfl)⟩,⟨rfl,(SupX.lit rfl)⟩,trivial⟩ rfl) qC trivial qC ?_;refine A3 ?_;refine ys2 (caps:=[.ptr 3 0,.ptr 4 0,.ptr 5 0]) (κ:=Empty) (zaa 5 2020 (zaa 4 1020 (zab 3 20))) rfl (fun _ h=>h) trivial (jd8 a key kn (by omega)) fi75 rfl qC rfl rfl (fun _ _=>rfl) (uO (uO (uO uN 6 (.ptr 6 0)) 8 (.ptr 8 0)) 10 (.ptr 10 0)) [6,8,10] [6,8,10] (zan rfl (zan rfl (zan rfl zay))) (zak rfl (zak rfl (zak rfl zar))) rfl (lkOk rfl) (fun (k:Nat) (o:Option Fa)=>o=lastF ((toldT a key kn).take k) d) (fun (k:Nat) (o:Option Fa)=>uK (uK (uK uN 6 3 1 false [.val (tI d)]) 8 28 6 true [.val (tVa An.va0)]) 10 30 11 true [.val (tFa (o.getD faG))]) (fun k x=>(zam rfl (supJL rfl) (zam rfl (supJL rfl) (zam rfl (supJL rfl) zaz)))) (fun k x y hy=>by simp only [zbr,zdf,or_false] at hy;rcases hy with rfl | rfl | rfl <;> rfl) (fun _ _=>False) (fun i=>i.elim) (fun _ _ h=>h.elim) (none) rfl (SubK.cons rfl (SubK.cons rfl (SubK.cons rfl zax))) ?_ ?_ ?_
  ·
   intro D lp o1 o2 O W lη lb V0 k o hk hI;have hsn:=yb1 (T:=(toldT a key kn)) (i:=k) (d:=d) hk;have hon:=xq1 (d:=d) (f:=(toldT a key kn).getD k fa0);apply zd2
   ·
    refine A1 ?_;refine RE (xb8 (k:=11) (n:=11) (agg:=true) zr30.1 zr30.2 rfl) trivial trivial qA ?_;refine A2 ?_;exact yp9 fun _ _ h=>h
   ·
    refine A8 ?_;refine RGcaseD (t:=26) rfl (fun h152=> ?_) (fun h152=> ?_)
    ·
     refine A7 ?_;refine x9 rfl (fun h152_2=> ?_) (fun h152_2=> ?_)
     ·
      refine A5 ?_;exact xz0 ((some ((toldT a key kn).getD k fa0))) (by rw [hsn,if_pos (hon.2 ⟨by omega,by omega⟩)]) (SubK.cons rfl (SubK.cons rfl (SubK.cons rfl zax))) (zam rfl (supJL rfl) (zam rfl (supJL rfl) (zam rfl (supJL rfl) zaz))) (lkOk rfl)
     ·
      refine A2 ?_;exact xz0 (o) (by rw [hsn,if_neg (fun hh=>by have:=hon.1 hh;omega)];exact hI) (SubK.cons rfl (SubK.cons rfl (SubK.cons rfl zax))) (zam rfl (supJL rfl) (zam rfl (supJL rfl) (zam rfl (supJL rfl) zaz))) (lkOk rfl)
    ·
     refine A10 ?_;exact xz0 (o) (by rw [hsn,if_neg (fun hh=>by have:=hon.1 hh;omega)];exact hI) (SubK.cons rfl (SubK.cons rfl (SubK.cons rfl zax))) (zam rfl (supJL rfl) (zam rfl (supJL rfl) (zam rfl (supJL rfl) zaz))) (lkOk rfl)
  ·
   intro D hD o hI;rw [zcf] at hI;have hae:=at_end hr hI;have hz:(o.getD faG).v.f.n.l.length<=1000000/\(o.getD faG).v.f.d.l.length<=1000000:=by
    cases o with
    | none=>decide
    | some f=>exact hS f (xk5 (xj2 hI.symm).1).1
   refine A6 ?_;refine R1 (yj0 (ts:=[_]) (r:=tVaF w.heap.size [] (o.getD faG).v) [] [] (ya6 _ (by exact hz.1) (by exact hz.2)) fi57 (fun _ _ _=> .nil) (fun m hm ho=>zd5 hm ho) ⟨zao,trivial⟩ rfl) rfl ?_;refine A8 ?_;exact ji3 (Plain.loop Plain.mk' hD) (rs:=[.cell 8 28,.tmp 9]) rfl rfl ⟨⟨_,_,_,_,_,rfl,rfl,ti28,(vaF_E (by rw [hae.1]))⟩,⟨_,rfl,(zau hae.2)⟩,trivial⟩
  ·
   intro D hD e i;exact i.elim
instance fi139:FnI Tryz.prog 139:=⟨_,func139,by kernel_rfl,rfl⟩
instance fi203:FnI Tryz.prog 203:=⟨_,func203,by kernel_rfl,rfl⟩
instance fi239:FnI Tryz.prog 239:=⟨_,func239,by kernel_rfl,rfl⟩
theorem yt1 (x:Wh) (hl:x.l.length<=1048576):
  Ct Tryz.prog 203 [tWhK x,tWh x] (tB true):=by
 refine Ct.intro func203 rfl ntmps203 rfl ?_;intro w F;refine A11 ?_;refine R2 (xd5 (ts:=[tWhK x,tWh x]) (ye8 x x) fi90 rfl ⟨zv8,zao,trivial⟩) rfl rfl ?_;refine A1 ?_;refine Rg (zbf (by rfl)) rfl (xb5 fo24_1.h rfl) rfl qA (xb9 (zbf (by rfl)) rfl rfl (0) ti22 rfl rfl rfl (At.g 1 rfl rfl) rfl (Rg (zbf (by rfl)) rfl (xb5 fo24_1.h rfl) rfl qA (xb9 (zbf (by rfl)) rfl rfl (0) ti22 rfl rfl rfl (At.g 1 rfl rfl) rfl (Rg (zbf (by rfl)) rfl (x4 (qg4 x.l hl) fi239 rfl) rfl qB (R2 (xc6 (zbf (by rfl))) rfl rfl ?_)))));refine A4 ?_;exact E1 rfl rfl zao
theorem qr9 (f:Fr) (h1:f.n.l.length<=1048576) (h2:f.d.l.length<=1048576):
  Ct Tryz.prog 139 [tFrK f,tFr f] (tB true):=by
 refine Ct.intro func139 rfl ntmps139 rfl ?_;intro w F;refine A11 ?_;refine R2 (xd5 (ts:=[tFrK f,tFr f]) (zc0 f f) fi62 rfl ⟨jc4,zao,trivial⟩) rfl rfl ?_;refine A1 ?_;refine Rg (zbf (by rfl)) rfl (xb5 fo26_0.h rfl) rfl qA (xb9 (zbf (by rfl)) rfl rfl (0) ti24 rfl rfl rfl (At.g 0 rfl rfl) rfl (Rg (zbf (by rfl)) rfl (xb5 fo26_0.h rfl) rfl qA (xb9 (zbf (by rfl)) rfl rfl (0) ti24 rfl rfl rfl (At.g 0 rfl rfl) rfl (Rg (zbf (by rfl)) rfl (x4 (yt1 f.n h1) fi203 rfl) rfl qB (R2 (xc6 (zbf (by rfl))) rfl rfl ?_)))));refine A5 ?_;refine Rg rfl rfl (x4 (yt1 f.d h2) fi203 rfl) rfl qB ?_;refine A5 ?_;exact E1 rfl rfl zao
theorem qg5 (v:Va) (h1:v.f.n.l.length<=1048576) (h2:v.f.d.l.length<=1048576):
  Ct Tryz.prog 88 [tVaK v,tVa v] (tB true):=by
 refine Ct.intro func88 rfl ntmps88 rfl ?_;intro w F;refine A11 ?_;refine R2 (xd5 (ts:=[tVaK v,tVa v]) (xq9 v v) fi22 rfl ⟨jk3,zao,trivial⟩) rfl rfl ?_;refine A1 ?_;refine Rg (zbf (by rfl)) rfl (xb5 fo28_1.h rfl) rfl qA (xb9 (zbf (by rfl)) rfl rfl (0) ti26 rfl rfl rfl (At.g 1 rfl rfl) rfl (Rg (zbf (by rfl)) rfl (xb5 fo28_1.h rfl) rfl qA (xb9 (zbf (by rfl)) rfl rfl (0) ti26 rfl rfl rfl (At.g 1 rfl rfl) rfl (Rg (zbf (by rfl)) rfl (x4 (qr9 v.f h1 h2) fi139 rfl) rfl qB (R2 (xc6 (zbf (by rfl))) rfl rfl ?_)))));refine A4 ?_;exact E1 rfl rfl zao
instance fi140:FnI Tryz.prog 140:=⟨_,func140,by kernel_rfl,rfl⟩
instance fi204:FnI Tryz.prog 204:=⟨_,func204,by kernel_rfl,rfl⟩
instance fi240:FnI Tryz.prog 240:=⟨_,func240,by kernel_rfl,rfl⟩
def ovr (l:List Nat):Nat->List Nat
 | 0=>l
 | k+1=>(ovr l k).set k ((9000027+k)%65536)
theorem yq4 {l:List Nat}: ∀{k:Nat},(ovr l k).length=l.length
 | 0=>rfl
 | k+1=>by rw [ovr,zdn,yq4]
theorem cutM2 {i:Nat}:IntKind.u16.wrap (1000003*(((2:Nat):Int)+7)+(i:Int))=(((9000027+i)%65536:Nat):Int):=by rw [mu16];omega
theorem wg1 (i:Nat) (hi:i < 10000000):Ct Tryz.prog 86 [tI 2,tI i] (tI (1000003*(((2:Nat):Int)+7)+(i:Int))):=qi9 2 i (by decide) hi
theorem qb1 (l:List Nat) (n:Nat) (hn:n+12<=l.length) (hb:n<=9000000):
  CtG Tryz.prog 240 [(1,⟨140,1,false,rW .u16 l⟩)] [.own (.sl 1 1 0 n)] (.val (tT [])) [(1,⟨140,1,false,rW .u16 (ovr l (n+12))⟩)] []:=by
 refine CtG.intro [1] func240 rfl ntmps240 rfl rfl ⟨⟨rfl,xn3⟩,trivial⟩ ?_;intro w F η;refine A4 ?_;refine RE (jc0 zgf) qA qA trivial ?_;refine A3 ?_;refine R2 (jb6 (v:=((n+12:Nat):Int)) (fun q hq=>by rw [xo7] at hq;omega)) rfl rfl (RE (zk8 sl22 (n+12) rfl (by rw [xo7];omega)) qB qA trivial ?_);refine A9 ?_;refine cL (fun (i:Nat)=>i<=n+12) (fun (i:Nat)=>uV (uO uN 2 (.sl 1 1 0 (n+12))) 3 (tI i)) (fun (i:Nat)=>uK uN 1 140 1 false (rW .u16 (ovr l i))) [1] (fun (i:Nat)=>n+12 - i) (0) (zbt _) (hh:=((zaq rfl (zat rfl)) zax)) ?_;intro i hI;refine A9 ?_;refine x9 rfl (fun h85=> ?_) (fun h85=> ?_)
 ·
  refine A8 ?_;refine R2 (x4 (wg1 i (by omega)) fi86 rfl) rfl rfl (R1 (xa8 zgi (isS zgo) cutM2) rfl (R2 (zag sl22 rfl) rfl rfl (RE (xc1 (i) ti140 (yr8 (by rw [yq4];omega)) (by omega) (yg9 (m:=_) rfl)) qB qA trivial ?_)));refine A8 ?_;exact kF (i+1) ⟨(by omega),(by omega)⟩ (hh:=((zaq rfl (zat rfl)) zax))
 ·
  have him:i=n+12:=by omega
  subst him;refine A4 ?_;exact xg2 LentC.mk' rfl (.inr rfl) qA ⟨⟨rfl,xn3⟩,trivial⟩ rfl
theorem qg7 (V:VM) (n:Nat) (hb:n<=9000000):CtV Tryz.prog (XV 140 V) 240 [] [.val (tSlV V n)] 0 0:=by
 intro w η vs hvs _ _ hD hJ
 match vs,hvs with
 | [v],hvs=>
 obtain ⟨b,m,c,rfl,hV,hm⟩:=hvs.1;have hJ:JV _ V w:=hJ;obtain ⟨cs,h1,h2,h3,h4,h5⟩:=hJ b m c hV;obtain ⟨xs,x1,x2⟩:=qm9 (α:=Nat) (p:=fun i x=>cs[i]? =some (.int .u16 x)) m h5;have hown: ∀b',OwnK (⟨fun _=>b,fun _=>c,fun _=>False⟩:Env) [(1,⟨140,1,false,rW .u16 xs⟩)] b'->b'=b:=by
  rintro b' ⟨x,hx,_,rfl⟩;rfl
 refine (qb1 xs n (by omega) hb (fun _=>False) w ⟨fun _=>b,fun _=>c,fun _=>False⟩ [.slice (some ⟨b,0,none⟩) n c] ⟨⟨_,rfl,?_,fun _=> ?_⟩,trivial⟩ ?_ ?_ (fun _ h=>h.elim)).mono ?_
 ·show 0+n<=c;omega
 ·simp
 ·intro x hx;rw [zbj] at hx;subst hx;refine ⟨by rw [xo7,x1];exact h3,(show 0 < 1 by decide),fun _=>rfl,h4,fun _=>⟨cs,h1,by rw [h2,zdr],fun i e he=> ?_⟩⟩;rw [rW,zbs] at he;obtain ⟨y,hy,rfl⟩:=zdd.1 he;show pick false 1 cs (i*1)=_;have:=x2 i y hy;rw [zdr,pick,zdy,zbk,this];rfl
 ·intro x hx y hy hne;rw [zbj] at hx hy;subst hx hy;exact absurd rfl hne
 ·rintro e w' ⟨u,η',rfl,ho⟩;have hu:u= .tuple #[]:=by
   obtain ⟨us,e1,e2⟩:=ho.res;cases us with
   | nil=>exact e1
   | cons _ _=>exact e2.elim
  have es:=ho.same 1 (by simp);refine ⟨by rw [hu],ho.stp.mono fun b' _ hb'=> .inr ?_,fun b' m' c' hV'=> ?_⟩
  ·rw [hown b' hb'];exact ⟨_,hV⟩
  ·by_cases hbb:b'=b
   ·subst hbb;rw [hV] at hV';cases hV';have hk:=ho.keys _ (zbj.2 rfl);obtain ⟨k1,k2,k3,k4,k5⟩:=hk;have ec:η'.c 1=c:=es.2;have eb:η'.b 1=b':=es.1;simp only at k1 k4 k5;rw [ec] at k1 k4 k5;rw [eb] at k5;rw [xo7,yq4,x1] at k1;obtain ⟨cs',g1,g2,g3⟩:=k5 (by omega);refine ⟨cs',g1,by rw [g2,zdr],h3,h4,fun i hi=> ?_⟩;have:=g3 i _ (zv0 (by rw [yq4,x1];exact hi));have h0:pick false 1 cs' (i*1)= .int .u16 ((ovr xs (n+12)).getD i 0:Nat):=this;rw [zdr,pick,zdy,zbk] at h0;cases hg:cs'[i]? with
    | none=>rw [Array.getElem?_eq_none_iff] at hg;rw [g2] at hg;omega
    | some z=>rw [hg] at h0;exact ⟨_,by rw [show z=_ from h0]⟩
   ·obtain ⟨cs0,z1,z2⟩:=hJ b' m' c' hV';exact ⟨cs0,(ho.stp.block b' (xa7 z1) fun h=>hbb (hown b' h)).trans z1,z2⟩
abbrev tWhV (V:VM) (x:Wh):Ty:=tS [⟨1,false,tB x.neg⟩,⟨1,false,tSlV V x.l.length⟩]
abbrev tFrV (V:VM) (f:Fr):Ty:=tS [⟨2,true,tWhV V f.n⟩,⟨2,true,tWhV V f.d⟩]
abbrev tVaV (V:VM) (v:Va):Ty:=tS [⟨1,false,tE (.int .u8 (v.kind:Int))⟩,⟨4,true,tFrV V v.f⟩,⟨1,false,tI v.i⟩]
abbrev tTsV (V:VM) (s:Tst):Ty:=tS [⟨1,false,tI s.lo⟩,⟨1,false,tI s.hi⟩,⟨6,true,tVaV V s.v⟩]
theorem yr3 {V:VM} {x:Wh}:Free (tWhV V x):=Free.S ⟨Free.E,zm2,trivial⟩
theorem qq2 {V:VM} {f:Fr}:Free (tFrV V f):=Free.S ⟨yr3,yr3,trivial⟩
theorem qh8 {V:VM} {v:Va}:Free (tVaV V v):=Free.S ⟨Free.E,qq2,Free.E,trivial⟩
abbrev tTsVM (V:VM) (x:Tst×Bool):Ty:=cond x.2 (tTsV V x.1) (tTs x.1)
instance {V:VM} {x:Tst×Bool}:Shape (tTsVM V x) 8 true:=by
 obtain ⟨s,b⟩:=x;cases b
 ·exact (inferInstance:Shape (tTs s) 8 true)
 ·exact (inferInstance:Shape (tTsV V s) 8 true)
theorem yt2 (V:VM) (x:Wh) (hb:x.l.length<=9000000):
  CtV Tryz.prog (XV 140 V) 204 [] [.val (tWhV V x)] 0 0:=by
 refine CtV.intro 99 [] func204 rfl ntmps204 rfl rfl trivial rfl ?_;intro w η hV;refine A8 ?_;refine RE (xs7 hV (us:=[_]) (qg7 V _ hb) fi240 ⟨zm2,trivial⟩ rfl) qA qA trivial ?_;refine A1 ?_;exact yp0 hV rfl (.inr rfl) rfl
theorem qv5 (V:VM) (f:Fr) (h1:f.n.l.length<=9000000) (h2:f.d.l.length<=9000000):
  CtV Tryz.prog (XV 140 V) 140 [] [.val (tFrV V f)] 0 0:=by
 refine CtV.intro 99 [] func140 rfl ntmps140 rfl rfl trivial rfl ?_;intro w η hV;refine A9 ?_;refine RE (xs7 hV (us:=[_]) (yt2 V _ h1) fi204 ⟨yr3,trivial⟩ rfl) qA qA trivial ?_;refine A5 ?_;refine RE (xs7 hV (us:=[_]) (yt2 V _ h2) fi204 ⟨yr3,trivial⟩ rfl) qA qA trivial ?_;refine A1 ?_;exact yp0 hV rfl (.inr rfl) rfl
theorem qg9 (V:VM) (v:Va) (h1:v.f.n.l.length<=9000000) (h2:v.f.d.l.length<=9000000):
  CtV Tryz.prog (XV 140 V) 89 [] [.val (tVaV V v)] 0 0:=by
 refine CtV.intro 99 [] func89 rfl ntmps89 rfl rfl trivial rfl ?_;intro w η hV;refine A8 ?_;refine RE (xs7 hV (us:=[_]) (qv5 V _ h1 h2) fi140 ⟨qq2,trivial⟩ rfl) qA qA trivial ?_;refine A1 ?_;exact yp0 hV rfl (.inr rfl) rfl
instance fi54:FnI Tryz.prog 54:=⟨_,func54,by kernel_rfl,rfl⟩
instance fi55:FnI Tryz.prog 55:=⟨_,func55,by kernel_rfl,rfl⟩
instance fi58:FnI Tryz.prog 58:=⟨_,func58,by kernel_rfl,rfl⟩
instance fi59:FnI Tryz.prog 59:=⟨_,func59,by kernel_rfl,rfl⟩
instance fi60:FnI Tryz.prog 60:=⟨_,func60,by kernel_rfl,rfl⟩
instance fi85:FnI Tryz.prog 85:=⟨_,func85,by kernel_rfl,rfl⟩
instance fi88:FnI Tryz.prog 88:=⟨_,func88,by kernel_rfl,rfl⟩
instance fi89:FnI Tryz.prog 89:=⟨_,func89,by kernel_rfl,rfl⟩
abbrev tFaW (s:Fa):Ty:=tS [⟨1,false,tSt s.key⟩,⟨1,false,tI s.lo⟩,⟨1,false,tI s.hi⟩,⟨1,false,tI s.kn⟩,⟨1,false,tB s.gone⟩,⟨6,true,tVaW s.v⟩]
theorem jh9 {s:Fa}:Le (tFaW s) (tFa s):=Le.tS ⟨⟨rfl,rfl,zao⟩,⟨rfl,rfl,zao⟩,⟨rfl,rfl,zao⟩,⟨rfl,rfl,zao⟩,⟨rfl,rfl,zao⟩,⟨rfl,rfl,vaW_le⟩,trivial⟩
abbrev tFaM (x:Fa×Bool):Ty:=cond x.2 (tFaW x.1) (tFa x.1)
instance {x:Fa×Bool}:Shape (tFaM x) 11 true:=by
 obtain ⟨s,b⟩:=x;cases b
 ·exact (inferInstance:Shape (tFa s) 11 true)
 ·exact (inferInstance:Shape (tFaW s) 11 true)
theorem faM_le {x:Fa×Bool}:Le (tFaM x) (tFa x.1):=by
 obtain ⟨s,b⟩:=x;cases b
 ·exact zao
 ·exact jh9
def fmk (k i:Nat):Fa:=⟨.empty,0,0,1000003*((k:Int)+7)+(i:Int),false,va00⟩
def mkFa:List Fa:=(List.range 12).map (fmk 1)
theorem xj5:mkFa.length=12:=rfl
theorem qj3 {j:Nat} (h:j < 12):mkFa.getD j fa0=fmk 1 j:=by
 have hl:j < mkFa.length:=by rw [xj5];exact h
 rw [zbh,zbi hl,Option.getD_some];simp [mkFa]
theorem ja7 {i:Nat} (h:i < 12):mkFa.take (i+1)=mkFa.take i++[fmk 1 i]:=by
 rw [zca (by rw [xj5];exact h)]
 congr 2
 have:=qj3 h;rw [zbh,zbi (by rw [xj5];exact h)] at this;exact this
def lmFa (l:List Fa):List (Fa×Bool):=l.map (·,true)
def mmFa (m:List Fa):List (Fa×Bool):=m.map (·,false)
abbrev tFsW (l:List Fa):Ty:=tLW 30 11 true tFaM (lmFa l) (mmFa mkFa)
theorem xg7 {l:List Fa}:(lmFa l).length=l.length:=zch ..
theorem xr6 {l:List Fa}:(mmFa l).length=l.length:=zch ..
theorem ji5 {l:List Fa} {i:Nat} (h:i < l.length):lmFa (l.take (i+1))=lmFa (l.take i)++[(l.getD i fa0,true)]:=by
 rw [lmFa,lmFa,zca h,zez,zbh,zbi h];rfl
theorem qz4 {l:List Fa} {x:Fa}:mmFa (l++[x])=mmFa l++[(x,false)]:=by rw [mmFa,zez];rfl
def fm0:Fa×Bool:=(fa0,false)
theorem lmf_l {l m:List Fa} {i:Nat} (h:i < l.length):(lmFa l++mmFa m).getD i fm0=(l.getD i fa0,true):=by
 rw [zbh,zct (by rw [xg7];exact h),lmFa,zbs,zbi h,zbh,zbi h];rfl
theorem lmf_r {l m:List Fa} {i:Nat} (h:l.length<=i) (h2:i - l.length < m.length):(lmFa l++mmFa m).getD i fm0=(m.getD (i - l.length) fa0,false):=by
 rw [zbh,zcr (by rw [xg7];exact h),xg7,mmFa,zbs,zbi h2,zbh,zbi h2];rfl
theorem xz8 {l:List Fa}:Le (tFsW l) (tL 11 true tFa l):=fun F w v h=>by
 obtain ⟨A,c,h1,h2,h3,h4⟩:=le_L (fun x=>faM_le) _ _ _ (wa0 _ _ _ h);rw [xg7] at h1 h2;refine ⟨A,c,h1,h2,h3,h4.imp (fun h=>by rw [lmFa] at h;exact List.map_eq_nil_iff.1 h) fun ⟨b,o,e,hb,hx⟩=>⟨b,o,e,hb,fun i x hi=>hx i (x,true) (by rw [lmFa,zbs,hi];rfl)⟩⟩
theorem qf1 (s:Fa) (h1:s.v.f.n.l.length<=1048576) (h2:s.v.f.d.l.length<=1048576):
  CtN Tryz.prog 54 [tFa s] (fun nw=>tG (up nw) (tFaW s)):=by
 refine CtN.intro func54 rfl ntmps54 rfl ?_;intro w F;refine A3 ?_;refine RE (xb8 (k:=2) (n:=11) (agg:=true) zr30.1 zr30.2 rfl) trivial trivial qA ?_;refine A6 ?_;refine R1 (xm0 (ts:=[_]) (r:=tG (up w.heap.size) _) (qb2 s.v h1 h2) fi85 (fun m hm=>xu6 hm) ⟨zao,trivial⟩ rfl) rfl ?_;refine A1 ?_;refine xr9 (0) ti28 rfl rfl rfl rfl (Up.g 5 rfl rfl rfl) rfl rfl ?_;refine A3 ?_;refine xt7 (k:=1) (e':=⟨30,11,true,[.val (tS [⟨1,false,tSt s.key⟩,⟨1,false,tI s.lo⟩,⟨1,false,tI s.hi⟩,⟨1,false,tI s.kn⟩,⟨1,false,tB s.gone⟩,⟨6,true,tG (up w.heap.size) (tVaW s.v)⟩])]⟩) rfl rfl ?_;refine A6 ?_;exact EC rfl ⟨_,_,_,_,_,rfl,rfl,ti30,(xk0 ⟨⟨rfl,rfl,xf9⟩,⟨rfl,rfl,xf9⟩,⟨rfl,rfl,xf9⟩,⟨rfl,rfl,xf9⟩,⟨rfl,rfl,xf9⟩,⟨rfl,rfl,zao⟩,trivial⟩)⟩
theorem yi2 (k i:Nat) (hk:k < 1000) (hi:i < 10000000):
  CtN Tryz.prog 55 [tI k,tI i] (fun nw=>tG (up nw) (tFa (fmk k i))):=by
 refine CtN.intro func55 rfl ntmps55 rfl ?_;intro w F;refine A2 ?_;refine RE (xb8 (k:=4) (n:=11) (agg:=true) zr30.1 zr30.2 rfl) trivial trivial qA ?_;refine A6 ?_;refine R2 (x4 (qi9 k i hk hi) fi86 rfl) rfl rfl (R1 (xd3 (r:=tS [⟨1,false,(tE (.string ⟨#[]⟩))⟩,⟨1,false,(tE (.int .i64 0))⟩,⟨1,false,(tE (.int .i64 0))⟩,⟨1,false,tI (1000003*((k:Int)+7)+(i:Int))⟩,⟨1,false,(tE (.bool false))⟩,⟨6,true,(tS [⟨1,false,(tE (.int .u8 0))⟩,⟨4,true,zad⟩,⟨1,false,(tE (.int .i64 0))⟩])⟩]) (ts:=[(3,tI (1000003*((k:Int)+7)+(i:Int)))]) bu30 zr30.2 (Bc 3 rfl rfl rfl zao)) rfl ?_);refine A4 ?_;exact EC rfl ⟨_,_,_,_,_,rfl,rfl,ti30,(xk0 ⟨⟨rfl,rfl,xf9⟩,⟨rfl,rfl,xf9⟩,⟨rfl,rfl,xf9⟩,⟨rfl,rfl,xf9⟩,⟨rfl,rfl,xf9⟩,⟨rfl,rfl,va00N⟩,trivial⟩)⟩
theorem ym4 (l:List Fa) (hl:l.length<=60) (hs: ∀s∈l,s.v.f.n.l.length<=1048576/\s.v.f.d.l.length<=1048576):
  CtN Tryz.prog 15 [tL 11 true tFa l] (fun nw=>tG (up nw) (tFsW l)):=by
 refine CtN.intro func15 rfl ntmps15 rfl ?_;intro w F;refine A10 ?_;refine RE (xi0 (k:=10) (t:=(tS [⟨1,false,(tE (.string ⟨#[]⟩))⟩,⟨1,false,(tE (.int .i64 0))⟩,⟨1,false,(tE (.int .i64 0))⟩,⟨1,false,(tE (.int .i64 0))⟩,⟨1,false,(tE (.bool false))⟩,⟨6,true,(tS [⟨1,false,(tE (.int .u8 0))⟩,⟨4,true,zad⟩,⟨1,false,(tE (.int .i64 0))⟩])⟩])) (ts:=([]:List Ent)) (0) (l.length+12) zgs el30 (fun _ _=>⟨_,rfl,rfl,⟨fun _=>rfl,rfl⟩,⟨fun _=>rfl,rfl⟩,⟨fun _=>rfl,rfl⟩,⟨fun _=>rfl,rfl⟩,⟨fun _=>rfl,rfl⟩,⟨fun h=>Bool.noConfusion h,⟨_,rfl,rfl,⟨fun _=>rfl,rfl⟩,⟨fun h=>Bool.noConfusion h,⟨_,rfl,rfl,⟨fun h=>Bool.noConfusion h,⟨_,rfl,rfl,⟨fun _=>rfl,rfl⟩,⟨fun _=>rfl,⟨none,0,rfl,zbq _,by decide,.inl rfl⟩⟩,trivial⟩⟩,⟨fun h=>Bool.noConfusion h,⟨_,rfl,rfl,⟨fun _=>rfl,rfl⟩,⟨fun _=>rfl,⟨none,0,rfl,zbq _,by decide,.inl rfl⟩⟩,trivial⟩⟩,trivial⟩⟩,⟨fun _=>rfl,rfl⟩,trivial⟩⟩,trivial⟩) rfl (by omega) (by omega) (by omega) (by omega) (by omega) rfl) qB trivial qA ?_;refine A10 ?_;refine cL (fun (i:Nat)=>i<=l.length) (fun (i:Nat)=>uV (uO (uV uN 0 (tL 11 true tFa l)) 3 (.sl 10 11 0 i)) 4 (tI i)) (fun (i:Nat)=>uK uN 10 30 11 true (rV (fun x=>tG (up w.heap.size) (tFaM x)) (lmFa (l.take i)))) [10] (fun (i:Nat)=>l.length - i) (0) (zbt _) (hh:=((zaq rfl (zat rfl)) zax)) ?_;intro i hI;have hxl:(lmFa (l.take i)).length=i:=by rw [xg7,zcu];omega
 refine A9 ?_;refine x9 rfl (fun h429=> ?_) (fun h429=> ?_)
 ·
  refine A8 ?_;refine R2 (x5 sl33 i (by omega) (zai (l:=l) (n:=i) (d:=fa0))) rfl rfl ?_;refine A1 ?_;refine R1 (xm0 (ts:=[_]) (r:=tG (up w.heap.size) _) (qf1 (l.getD i fa0) (hs _ (xe4 (l:=l) (by omega))).1 (hs _ (xe4 (l:=l) (by omega))).2) fi54 (fun m hm=>xu6 hm) ⟨zao,trivial⟩ rfl) rfl (RE (xb8 (k:=5) (n:=11) (agg:=true) zr30.1 zr30.2 rfl) trivial trivial qA ?_);refine A6 ?_;refine R1 (xc2 (n:=1) (f:=(fun x=>tG (up w.heap.size) (tFaM x))) [((l.getD i fa0,true):Fa×Bool)] zgs el30 zf30 rfl (fun _=>inferInstance) rfl rfl rfl) rfl (RE (xb3 (k:=10) (k':=25) (f:=(fun x=>tG (up w.heap.size) (tFaM x))) (ys:=[((l.getD i fa0,true):Fa×Bool)]) (ts':=rV (fun x=>tG (up w.heap.size) (tFaM x)) ((lmFa (l.take i))++[((l.getD i fa0,true):Fa×Bool)])) zgs el30 zf30 rfl rfl (fun _=>inferInstance) (xc0.trans hxl) (by simp;omega) (by simp;omega) (by simp [rV]) (n':=i+1) rfl) qB qA qA ?_);refine A9 ?_;exact xe3 (l:=[10]) (zab 10 25) (i+1) ⟨(by omega),(by omega)⟩ (zaf rfl (zas rfl (zas rfl zbd))) ((zbb rfl (zat (by rw [ji5 (by omega)];exact x8.symm))) zbe) (zaj (zak rfl (zaj zar))) (zam rfl (supJ x6) zaz) (lkOk rfl) rfl rfl (fun _ h=>by cases h)
 ·
  refine A12 ?_;have hil:i=l.length:=by omega
  subst hil;refine cL (fun (i:Nat)=>i<=12) (fun (i:Nat)=>uV (uO (uV uN 0 (tL 11 true tFa l)) 3 (.sl 10 11 0 (l.length+i))) 6 (tI i)) (fun (i:Nat)=>uK uN 10 30 11 true (rV (fun x=>tG (up w.heap.size) (tFaM x)) (lmFa l++mmFa (mkFa.take i)))) [10] (fun (i:Nat)=>12 - i) (0) (zbt _) (hh:=((zaq rfl (zat (by rw [zcf,zej,mmFa,zfg,zdz]))) zax)) ?_;intro i hI;have hxl:(lmFa l++mmFa (mkFa.take i)).length=l.length+i:=by rw [zbm,xg7,xr6,zcu,xj5];omega
  refine A7 ?_;refine x9 rfl (fun h433=> ?_) (fun h433=> ?_)
  ·
   refine A7 ?_;refine R2 (xm0 (ts:=[_,_]) (r:=tG (up w.heap.size) _) (yi2 1 i (by decide) (by omega)) fi55 (fun m hm=>xu6 hm) ⟨zao,zao,trivial⟩ rfl) rfl rfl (R1 (xc2 (n:=1) (f:=(fun x=>tG (up w.heap.size) (tFaM x))) [((fmk 1 i,false):Fa×Bool)] zgs el30 zf30 rfl (fun _=>inferInstance) rfl rfl rfl) rfl (RE (xb3 (k:=10) (k':=34) (f:=(fun x=>tG (up w.heap.size) (tFaM x))) (ys:=[((fmk 1 i,false):Fa×Bool)]) (ts':=rV (fun x=>tG (up w.heap.size) (tFaM x)) ((lmFa l++mmFa (mkFa.take i))++[((fmk 1 i,false):Fa×Bool)])) zgs el30 zf30 rfl rfl (fun _=>inferInstance) (xc0.trans hxl) (by simp;omega) (by simp;omega) (by simp [rV]) (n':=l.length+i+1) rfl) qB qA qA ?_));refine A9 ?_;exact xe3 (l:=[10]) (zab 10 34) (i+1) ⟨(by omega),(by omega)⟩ (zaf rfl (zas rfl (zas rfl zbd))) ((zbb rfl (zat (by rw [ja7 (by omega),qz4,<-zdg];exact x8.symm))) zbe) (zaj (zak rfl (zaj zar))) (zam rfl (supJ x6) zaz) (lkOk rfl) rfl rfl (fun _ h=>by cases h)
  ·
   refine A10 ?_;refine RE (zw2 (k:=10) (f:=(fun x=>tG (up w.heap.size) (tFaM x))) (xs:=lmFa l) (ms:=mmFa mkFa) (up w.heap.size) (fun _ h=>h) sl33 (fun _ h=>h) (fun _ _=>wg9) (by rw [rV,show i=12 by omega,show mkFa.take 12=mkFa from rfl]) (by rw [xg7,xr6,xj5];omega) (by omega) (by rw [xg7])) qB qA trivial ?_;refine A4 ?_;exact E1 rfl rfl (wg7 (leLW fun _=>ye5))
theorem yt0 (s:Fa):
  Ct Tryz.prog 59 [tFa s,tFa s] (tB true):=by
 refine Ct.intro func59 rfl ntmps59 rfl ?_;intro w F;refine A13 ?_;refine R2 (ya0) rfl rfl ?_;refine A1 ?_;refine Rg (zbf (by rfl)) rfl (xb5 fo30_1.h rfl) rfl qA (xb9 (zbf (by rfl)) rfl rfl (0) ti3 rfl rfl rfl (At.g 1 rfl rfl) rfl (Rg (zbf (by rfl)) rfl (xb5 fo30_1.h rfl) rfl qA (xb9 (zbf (by rfl)) rfl rfl (0) ti3 rfl rfl rfl (At.g 1 rfl rfl) rfl (Rg (zbf (by rfl)) rfl ya7 rfl qB (R2 (xc6 (zbf (by rfl))) rfl rfl ?_)))));refine A1 ?_;refine Rg (zbf (by rfl)) rfl (xb5 fo30_2.h rfl) rfl qA (xb9 (zbf (by rfl)) rfl rfl (0) ti3 rfl rfl rfl (At.g 2 rfl rfl) rfl (Rg (zbf (by rfl)) rfl (xb5 fo30_2.h rfl) rfl qA (xb9 (zbf (by rfl)) rfl rfl (0) ti3 rfl rfl rfl (At.g 2 rfl rfl) rfl (Rg (zbf (by rfl)) rfl ya7 rfl qB (R2 (xc6 (zbf (by rfl))) rfl rfl ?_)))));refine A1 ?_;refine Rg (zbf (by rfl)) rfl (xb5 fo30_3.h rfl) rfl qA (xb9 (zbf (by rfl)) rfl rfl (0) ti3 rfl rfl rfl (At.g 3 rfl rfl) rfl (Rg (zbf (by rfl)) rfl (xb5 fo30_3.h rfl) rfl qA (xb9 (zbf (by rfl)) rfl rfl (0) ti3 rfl rfl rfl (At.g 3 rfl rfl) rfl (Rg (zbf (by rfl)) rfl ya7 rfl qB (R2 (xc6 (zbf (by rfl))) rfl rfl ?_)))));refine A1 ?_;refine Rg (zbf (by rfl)) rfl (xb5 fo30_4.h rfl) rfl qA (xb9 (zbf (by rfl)) rfl rfl (0) ti4 rfl rfl rfl (At.g 4 rfl rfl) rfl (Rg (zbf (by rfl)) rfl (xb5 fo30_4.h rfl) rfl qA (xb9 (zbf (by rfl)) rfl rfl (0) ti4 rfl rfl rfl (At.g 4 rfl rfl) rfl (Rg (zbf (by rfl)) rfl (jb2 zgm) rfl qB (R2 (xc6 (zbf (by rfl))) rfl rfl ?_)))));refine A1 ?_;refine Rg (by simp) rfl (xb5 fo30_5.h rfl) rfl qA (xb9 (by simp) rfl rfl (0) ti28 rfl rfl rfl (At.g 5 rfl rfl) rfl (Rg (by simp) rfl (xb5 fo30_5.h rfl) rfl qA (xb9 (by simp) rfl rfl (0) ti28 rfl rfl rfl (At.g 5 rfl rfl) rfl (Rg (by simp) rfl (x4 (xq9 s.v s.v) fi22 rfl) rfl qB (R2 (xc6 (by simp)) rfl rfl ?_)))));refine A4 ?_;exact E1 rfl rfl (zau (by simp))
theorem qs2 (s:Fa) (h1:s.v.f.n.l.length<=1048576) (h2:s.v.f.d.l.length<=1048576):
  Ct Tryz.prog 58 [tFaW s,tFa s] (tB true):=by
 refine Ct.intro func58 rfl ntmps58 rfl ?_;intro w F;refine A11 ?_;refine R2 (xd5 (ts:=[_,_]) (yt0 s) fi59 rfl ⟨jh9,zao,trivial⟩) rfl rfl ?_;refine A5 ?_;refine Rg rfl rfl (xd5 (ts:=[_,_]) (qg5 s.v h1 h2) fi88 rfl ⟨vaWK,zao,trivial⟩) rfl qB ?_;refine A5 ?_;exact E1 rfl rfl zao
theorem qf0 (i:Nat) (hi:i < 10000000):Ct Tryz.prog 55 [tI 1,tI i] (tFa (fmk 1 i)):=(yi2 1 i (by decide) hi).toCt fun _=>ye5
theorem yu2 (l:List Fa) (hl:l.length<=60) (hs: ∀s∈l,s.v.f.n.l.length<=1048576/\s.v.f.d.l.length<=1048576):
  Ct Tryz.prog 19 [tFsW l,tL 11 true tFa l] (tB true):=by
 have hml:(lmFa l++mmFa mkFa).length=l.length+12:=by rw [zbm,xg7,xr6,xj5]
 have hll:(lmFa l).length=l.length:=xg7;refine Ct.intro func19 rfl ntmps19 rfl ?_;intro w F;refine A9 ?_;refine R1 (d_lenW zgs hll) rfl ?_;refine A5 ?_;refine xi8 rfl (zbg (by omega)) ?_;refine A8 ?_;refine R2 (jv0 sl33 (by rw [hll,xr6,xj5];omega)) rfl rfl ?_;refine A10 ?_;refine cL (fun (i:Nat)=>i<=(lmFa l++mmFa mkFa).length) (fun (i:Nat)=>uV (uV (uV uN 1 (tL 11 true tFa l)) 5 (tL 11 true tFaM (lmFa l++mmFa mkFa))) 6 (tI i)) (fun (i:Nat)=>fun _=>none) [] (fun (i:Nat)=>(lmFa l++mmFa mkFa).length - i) (0) (zbt _) ?_;intro i hI;refine A9 ?_;refine x9 rfl (fun h444=> ?_) (fun h444=> ?_)
 ·
  refine A11 ?_;refine RGcaseD (t:=27) rfl (fun h445=> ?_) (fun h445=> ?_)
  ·
   refine A2 ?_;refine Rg (zbf h445) rfl (x5 sl33 i (by omega) (zai (l:=(lmFa l++mmFa mkFa)) (n:=i) (d:=fm0))) rfl qB ?_;refine A3 ?_;refine Rg (zbf h445) rfl (x5 sl33 i (by omega) (zai (l:=l) (n:=i) (d:=fa0))) rfl qB ?_;refine A1 ?_;refine Rg (zbf h445) rfl (xd5 (ts:=[_,_]) (qs2 (l.getD i fa0) (hs _ (xe4 (l:=l) (by omega))).1 (hs _ (xe4 (l:=l) (by omega))).2) fi58 rfl ⟨(by rw [lmf_l (by omega)];exact zao),zao,trivial⟩) rfl qB ?_;refine A8 ?_;refine RGoff (zbg (by omega)) rfl rfl (RGoff (zbg (by omega)) rfl rfl (RGoff (zbg (by omega)) rfl rfl (RGoff (zbg (by omega)) rfl rfl (RGoff (zbg (by omega)) rfl rfl (RGoff (zbg (by omega)) rfl rfl (RGoff (zbg (by omega)) rfl rfl (RGoff (zbg (by omega)) rfl rfl (RGoff (zbg (by omega)) rfl rfl (RGoff (zbg (by omega)) rfl rfl (RGoff (zbg (by omega)) rfl rfl (Rg rfl rfl (xc4 (zbg (by omega))) rfl qB ?_)))))))))));refine A12 ?_;exact kF (i+1) ⟨(by omega),(by omega)⟩
  ·
   refine A17 ?_;refine Rg (zbf (by omega)) rfl xa3 rfl qA (Rg (zbf (by omega)) rfl xa3 rfl qA (Rg (zbf (by omega)) rfl (x5 sl33 i (by omega) (zai (l:=(lmFa l++mmFa mkFa)) (n:=i) (d:=fm0))) rfl qB (Rg (zbf (by omega)) rfl (xf2 ti30) rfl qA (Rg (zbf (by omega)) rfl xa3 rfl qA (Rg (zbf (by omega)) rfl xa3 rfl qA (Rg (zbf (by omega)) rfl (ya9 zgs) rfl qA (Rg (zbf (by omega)) rfl (xh2 (r:=((i - l.length:Nat):Int)) (by rw [wr64 (by omega) (by omega)];omega)) rfl qB (Rg (zbf (by omega)) rfl (xd5 (ts:=[_,_]) (qf0 (i - l.length) (by omega)) fi55 rfl ⟨zao,zao,trivial⟩) rfl qB (Rg (zbf (by omega)) rfl (xd5 (ts:=[_,_]) (yt0 (fmk 1 (i - l.length))) fi59 rfl ⟨(by rw [lmf_r (by omega) (by rw [xj5];omega),qj3 (by omega)];exact zao),zao,trivial⟩) rfl qB (Rg (zbf (by omega)) rfl xj9 rfl qA (Rg rfl rfl (xc6 (zbf (by omega))) rfl qB ?_)))))))))));refine A12 ?_;exact kF (i+1) ⟨(by omega),(by omega)⟩
 ·
  refine A11 ?_;exact E1 rfl rfl zao
theorem qg6 (i:Nat) (hi:i < 10000000):Ct Tryz.prog 55 [tI 2,tI i] (tFa (fmk 2 i)):=(yi2 2 i (by decide) hi).toCt fun _=>ye5
abbrev tFaV (V:VM) (s:Fa):Ty:=tS [⟨1,false,tSt s.key⟩,⟨1,false,tI s.lo⟩,⟨1,false,tI s.hi⟩,⟨1,false,tI s.kn⟩,⟨1,false,tB s.gone⟩,⟨6,true,tVaV V s.v⟩]
theorem wh2 {V:VM} {s:Fa}:Free (tFaV V s):=Free.S ⟨Free.E,Free.E,Free.E,Free.E,Free.E,qh8,trivial⟩
abbrev tFaVM (V:VM) (x:Fa×Bool):Ty:=cond x.2 (tFaV V x.1) (tFa x.1)
instance {V:VM} {x:Fa×Bool}:Shape (tFaVM V x) 11 true:=by
 obtain ⟨s,b⟩:=x;cases b
 ·exact (inferInstance:Shape (tFa s) 11 true)
 ·exact (inferInstance:Shape (tFaV V s) 11 true)
theorem rowVF {V:VM} {l:List Fa} {m:List Fa} {i:Nat} (h:i < l.length):(rV (tFaVM V) (lmFa l++mmFa m))[i]? =some (.val (tFaV V (l.getD i fa0))):=by
 have:=xc3 (f:=tFaVM V) (xs:=lmFa l++mmFa m) (i:=i) (d:=fm0) (by rw [zbm,xg7];omega);rw [lmf_l h] at this;exact this
theorem qt4 (V:VM) (s:Fa) (h1:s.v.f.n.l.length<=9000000) (h2:s.v.f.d.l.length<=9000000):
  CtV Tryz.prog (XV 140 V) 60 [] [.val (tFaV V s)] 0 0:=by
 refine CtV.intro 99 [] func60 rfl ntmps60 rfl rfl trivial rfl ?_;intro w η hV;refine A8 ?_;refine RE (xs7 hV (us:=[_]) (qg9 V _ h1 h2) fi89 ⟨qh8,trivial⟩ rfl) qA qA trivial ?_;refine A1 ?_;exact yp0 hV rfl (.inr rfl) rfl
theorem qf4 (V:VM) (l:List Fa) (hl:l.length<=60) (hs: ∀s∈l,s.v.f.n.l.length<=9000000/\s.v.f.d.l.length<=9000000):
  CtV Tryz.prog (XV 140 V) 20 [(1,⟨30,11,true,rV (tFaVM V) (lmFa l++mmFa mkFa)⟩)] [.own (.sl 1 11 0 l.length)] 0 0:=by
 have hml:(lmFa l++mmFa mkFa).length=l.length+12:=by rw [zbm,xg7,xr6,xj5]
 refine CtV.intro 99 [1] func20 rfl ntmps20 rfl rfl ⟨⟨rfl,x6⟩,trivial⟩ rfl ?_;intro w η hV;refine A7 ?_;refine cL (fun (i:Nat)=>i<=l.length) (fun (i:Nat)=>uV (uO uN 0 (.sl 1 11 0 l.length)) 2 (tI i)) (fun (i:Nat)=>uK (uK uN 1 30 11 true (rV (tFaVM V) (lmFa l++mmFa mkFa))) 99 0 1 false []) [1,99] (fun (i:Nat)=>l.length - i) (0) (zbt _) ?_;intro i hI;refine A9 ?_;refine x9 rfl (fun h453=> ?_) (fun h453=> ?_)
 ·
  refine A7 ?_;refine R2 (zag sl33 rfl) rfl rfl (RE (xa5 (i) ti30 (rowVF (by omega)) (by omega)) qA qA trivial (RE (xs7 hV (us:=[_]) (qt4 V (l.getD i fa0) (hs _ (xe4 (l:=l) (by omega))).1 (hs _ (xe4 (l:=l) (by omega))).2) fi60 ⟨wh2,trivial⟩ rfl) qA qA trivial ?_));refine A8 ?_;exact kF (i+1) ⟨(by omega),(by omega)⟩
 ·
  refine A9 ?_;refine RE (jc0 zgs) qA qA trivial ?_;refine A3 ?_;refine R2 (jb6 (v:=((l.length+12:Nat):Int)) (fun q hq=>by rw [xc0,hml] at hq;omega)) rfl rfl (RE (zk8 sl33 (l.length+12) rfl (by have:=hml;rw [xc0];omega)) qB qA trivial ?_);refine A9 ?_;refine cL (fun (fm:(Nat)×(List (Fa×Bool)))=>(fun (i:Nat) (xs:List (Fa×Bool))=>i<=l.length+12/\xs.length=l.length+12) fm.1 fm.2) (wB fun (i:Nat) (xs:List (Fa×Bool))=>uV (uO uN 3 (.sl 1 11 0 (l.length+12))) 4 (tI i)) (wB fun (i:Nat) (xs:List (Fa×Bool))=>uK (uK uN 1 30 11 true (rV (tFaVM V) xs)) 99 0 1 false []) [1,99] (fun (fm:(Nat)×(List (Fa×Bool)))=>(fun (i:Nat) (xs:List (Fa×Bool))=>l.length+12 - i) fm.1 fm.2) ((0,(lmFa l++mmFa mkFa))) (by dsimp only;exact ⟨zbt _,hml⟩) ?_;intro fm hI;obtain ⟨i,xs⟩:=fm;replace hI:i<=l.length+12/\xs.length=l.length+12:=hI;show wc _ _ _ _ (uV (uO uN 3 (.sl 1 11 0 (l.length+12))) 4 (tI i)) (uK (uK uN 1 30 11 true (rV (tFaVM V) xs)) 99 0 1 false []) _;obtain ⟨hi,hxl⟩:=hI;refine A9 ?_;refine x9 rfl (fun h457=> ?_) (fun h457=> ?_)
  ·
   refine A8 ?_;refine R2 (x4 (qg6 i (by omega)) fi55 rfl) rfl rfl (R2 (zag sl33 rfl) rfl rfl (RE (xc1 (e:= .val (tFa (fmk 2 i))) (i) ti30 (xi5 (f:=tFaVM V) (xs:=xs) (by omega)) (by omega) (xf0 (f:=tFaVM V) (xs:=xs) (t:=tFa (fmk 2 i)) (m:=(fmk 2 i,false)) rfl)) qB qA trivial ?_));refine A8 ?_;exact kF ((i+1,xs.set i (fmk 2 i,false))) ⟨(by dsimp only;exact ⟨by omega,by rw [zdn];exact hxl⟩),(by dsimp only;omega)⟩
  ·
   refine A4 ?_;exact yp0 hV rfl (.inr rfl) rfl
def Trs (F F':Dom) (w w':World):List Fd->List Fd->Prop
 | [],[]=>True
 | f::r,g::s=>(f.n=g.n/\f.agg=g.agg/\ ∀v,f.t.p F w v->g.t.p F' w' v)/\Trs F F' w w' r s
 | _,_=>False
theorem Trs.sum {F F':Dom} {w w':World}: ∀{fs gs:List Fd},Trs F F' w w' fs gs->Fd.sum fs=Fd.sum gs
 | [],[],_=>rfl
 | _::_,_::_,h=>by rw [Fd.sum,Fd.sum,h.1.1,Trs.sum h.2]
 | [],_::_,h=>h.elim
 | _::_,[],h=>h.elim
theorem Trs.all {F F':Dom} {w w':World} {cs:Array Value}: ∀{fs gs:List Fd} {o:Nat},Trs F F' w w' fs gs->Fd.all F w cs o fs->Fd.all F' w' cs o gs
 | [],[],_,_,_=>trivial
 | f::r,g::s,o,h,ha=>by
  obtain ⟨⟨h1,h2,h3⟩,h4⟩:=h;refine ⟨⟨by rw [<-h1,<-h2];exact ha.1.1,by rw [<-h1,<-h2];exact h3 _ ha.1.2⟩,?_⟩;rw [<-h1];exact Trs.all h4 ha.2
 | [],_::_,_,h,_=>h.elim
 | _::_,[],_,h,_=>h.elim
theorem Trs.S {F F':Dom} {w w':World} {fs gs:List Fd} (h:Trs F F' w w' fs gs): ∀v,(tS fs).p F w v->(tS gs).p F' w' v:=fun _ ⟨cs,h1,h2,h3⟩=>⟨cs,h1,h2.trans h.sum,h.all h3⟩
theorem lmW_V {L F:Dom} {w1 w:World} {l:List Nat} (v:Value) (h:(tLmW l).p L w1 v):(tSlV (vOf 140 L w1) l.length).p F w v:=by
 obtain ⟨b,c,cs,h1,hF,hh,h2,h3,h4,h5,h6,hx⟩:=h;rw [zdr] at h2;obtain ⟨m,hm,hle⟩:=vOf_mk (n:=l.length+12) hF hh (by omega) (fun i hi=>by
  have hlt:i < (l++mk16).length:=by rw [zbm,mk16_len];omega
  have:=hx i _ (zbi hlt);have h0:pick false 1 cs (i*1)= .int .u16 (((l++mk16)[i]:Nat):Int):=this;rw [zdr,pick,zdy,zbk] at h0;rw [mk16_len] at h5;cases hg:cs[i]? with
  | none=>rw [Array.getElem?_eq_none_iff] at hg;omega
  | some z=>rw [hg] at h0;exact ⟨_,by rw [show z=_ from h0]⟩)
 exact ⟨b,m,cs.size,by rw [h1,h2],hm,hle⟩
theorem whW_V {L F:Dom} {w1 w:World} {x:Wh}: ∀v,(tWhW x).p L w1 v->(tWhV (vOf 140 L w1) x).p F w v:=Trs.S ⟨⟨rfl,rfl,fun _ h=>h⟩,⟨rfl,rfl,lmW_V⟩,trivial⟩
theorem frW_V {L F:Dom} {w1 w:World} {f:Fr}: ∀v,(tFrW f).p L w1 v->(tFrV (vOf 140 L w1) f).p F w v:=Trs.S ⟨⟨rfl,rfl,whW_V⟩,⟨rfl,rfl,whW_V⟩,trivial⟩
theorem vaW_V {L F:Dom} {w1 w:World} {x:Va}: ∀v,(tVaW x).p L w1 v->(tVaV (vOf 140 L w1) x).p F w v:=Trs.S ⟨⟨rfl,rfl,fun _ h=>h⟩,⟨rfl,rfl,frW_V⟩,⟨rfl,rfl,fun _ h=>h⟩,trivial⟩
theorem faW_V {L F:Dom} {w1 w:World} {s:Fa}: ∀v,(tFaW s).p L w1 v->(tFaV (vOf 140 L w1) s).p F w v:=Trs.S ⟨⟨rfl,rfl,fun _ h=>h⟩,⟨rfl,rfl,fun _ h=>h⟩,⟨rfl,rfl,fun _ h=>h⟩,⟨rfl,rfl,fun _ h=>h⟩,⟨rfl,rfl,fun _ h=>h⟩,⟨rfl,rfl,vaW_V⟩,trivial⟩
theorem Free.nil {α:Type} {es:Nat} {agg:Bool} {f:α->Ty}:Free (tL es agg f []):=fun _ _ _ _ _ ⟨A,c,h1,h2,h3,_⟩=>⟨A,c,h1,h2,h3,.inl rfl⟩
theorem jp2 {k i:Nat}:Free (tFa (fmk k i)):=Free.S ⟨Free.E,Free.E,Free.E,Free.E,Free.E,Free.S ⟨Free.E,Free.S ⟨Free.S ⟨Free.E,Free.nil,trivial⟩,Free.S ⟨Free.E,Free.nil,trivial⟩,trivial⟩,Free.E,trivial⟩,trivial⟩
theorem wc3 {l:List Fa} {i:Nat} {x:Fa×Bool} (h:(lmFa l++mmFa mkFa)[i]? =some x):x.2=true∨ ∃j,x=(fmk 1 j,false):=by
 have hm:=zdw h;rcases zbp.1 hm with h1 | h1
 ·obtain ⟨s,_,rfl⟩:=zci.1 h1;exact .inl rfl
 ·obtain ⟨s,hs,rfl⟩:=zci.1 h1;obtain ⟨j,_,rfl⟩:=zci.1 hs;exact .inr ⟨j,rfl⟩
theorem faM_V {L F:Dom} {w1 w:World} {x:Fa×Bool} (hx:x.2=true∨ ∃j,x=(fmk 1 j,false)) {v:Value} (h:(tFaM x).p L w1 v):(tFaVM (vOf 140 L w1) x).p F w v:=by
 rcases hx with hx | ⟨j,rfl⟩
 ·obtain ⟨s,b⟩:=x;have hx:b=true:=hx;subst hx;exact faW_V v h
 ·exact jp2 _ _ _ _ _ h
theorem yk8 (L:Dom) (w1:World) (l:List Fa) (hl:l.length<=60) (hs: ∀s∈l,s.v.f.n.l.length<=9000000/\s.v.f.d.l.length<=9000000) (v:Value) (hv:(tFsW l).p L w1 v):CtV Tryz.prog (XL 140 L w1) 20 [] [.val (tE v)] 0 1:=by
 intro w η vs hvs _ _ hD hJ
 match vs,hvs with
 | [u],hvs=>
 have hu:u=v:=hvs.1;subst hu;obtain ⟨b,c,cs,e,hLb,hh,h2,h3,h4,h5,h6,hx⟩:=hv;have hJ:(∀_:0=0,∀b,L b->w.heap[b]? =w1.heap[b]?)/\_:=hJ;have hw:=(hJ.1 rfl b hLb).trans hh;rw [xg7,xr6,xj5] at h5;rw [xg7] at e;have hown: ∀b',OwnK (⟨fun _=>b,fun _=>c,fun _=>False⟩:Env) [(1,⟨30,11,true,rV (tFaVM (vOf 140 (fun b'=>L b'/\b'≠b) w1)) (lmFa l++mmFa mkFa)⟩)] b'->b'=b:=by
  rintro b' ⟨x,hx,_,rfl⟩;rfl
 refine (qf4 (vOf 140 (fun b'=>L b'/\b'≠b) w1) l hl hs w ⟨fun _=>b,fun _=>c,fun _=>False⟩ [u] ⟨⟨_,e,?_,fun _=> ?_⟩,trivial⟩ ?_ ?_ (fun b' hb'=> ?_) (vOf_JV fun b' hb=>hJ.1 rfl b' hb.1)).mono ?_
 ·show 0+l.length<=c;omega
 ·simp
 ·intro y hy;rw [zbj] at hy;subst hy;refine ⟨by rw [xc0,zbm,xg7,xr6,xj5];exact h5,h3,h4,h6,fun _=>⟨cs,hw,h2,fun i ent he=> ?_⟩⟩;rw [rV,zbs] at he;obtain ⟨y,hy,rfl⟩:=zdd.1 he;exact faM_V (wc3 hy) (hx i y hy)
 ·intro x hx y hy hne;rw [zbj] at hx hy;subst hx hy;exact absurd rfl hne
 ·obtain ⟨x,hxb⟩:=hb';have h7:=(yc6 (m:=x.1) (c:=x.2) hxb).1;exact ⟨(hD b' h7.1).1,fun ho=>h7.2 (hown b' ho)⟩
 ·rintro e' w' ⟨r1,r2,r3⟩;refine ⟨r1,r2.mono fun b' _ hb'=> .inr ?_,fun h=>(by cases h),fun _ b' m c' hV=> ?_,fun b' hb'=>zce (hD b' hb').1 r2.size⟩
  ·rcases hb' with hb' | ⟨x,hxb⟩
   ·rw [hown b' hb'];exact hLb
   ·exact (yc6 (m:=x.1) (c:=x.2) hxb).1.1
  ·obtain ⟨k1,cs1,k2,_⟩:=yc6 hV;have hne:b'≠b:=by
    rintro rfl;rw [hh] at k2;have k3:(30:Nat)=140:=by injection k2 with k2;injection k2
    exact absurd k3 (by decide)
   refine r3 b' m c' ?_;rw [<-hV];unfold vOf;rw [if_pos k1,if_pos ⟨k1,hne⟩]
instance ti32:TyI Tryz.prog 32 1 false:=⟨by kernel_rfl,by kernel_rfl⟩
instance ti136:TyI Tryz.prog 136 1 false:=⟨by kernel_rfl,by kernel_rfl⟩
instance ti197:TyI Tryz.prog 197 1 false:=⟨by kernel_rfl,by kernel_rfl⟩
instance ti199:TyI Tryz.prog 199 1 false:=⟨by kernel_rfl,by kernel_rfl⟩
instance ti200:TyI Tryz.prog 200 1 false:=⟨by kernel_rfl,by kernel_rfl⟩
instance ti203:TyI Tryz.prog 203 1 false:=⟨by kernel_rfl,by kernel_rfl⟩
instance ti208:TyI Tryz.prog 208 1 false:=⟨by kernel_rfl,by kernel_rfl⟩
instance ti213:TyI Tryz.prog 213 1 false:=⟨by kernel_rfl,by kernel_rfl⟩
instance ti218:TyI Tryz.prog 218 1 false:=⟨by kernel_rfl,by kernel_rfl⟩
instance ti223:TyI Tryz.prog 223 1 false:=⟨by kernel_rfl,by kernel_rfl⟩
instance ti227:TyI Tryz.prog 227 1 false:=⟨by kernel_rfl,by kernel_rfl⟩
instance ti232:TyI Tryz.prog 232 1 false:=⟨by kernel_rfl,by kernel_rfl⟩
instance ti236:TyI Tryz.prog 236 1 false:=⟨by kernel_rfl,by kernel_rfl⟩
instance ti240:TyI Tryz.prog 240 1 false:=⟨by kernel_rfl,by kernel_rfl⟩
instance ti245:TyI Tryz.prog 245 1 false:=⟨by kernel_rfl,by kernel_rfl⟩
instance ti249:TyI Tryz.prog 249 1 false:=⟨by kernel_rfl,by kernel_rfl⟩
instance ti254:TyI Tryz.prog 254 1 false:=⟨by kernel_rfl,by kernel_rfl⟩
instance ti259:TyI Tryz.prog 259 1 false:=⟨by kernel_rfl,by kernel_rfl⟩
theorem el22:ElI Tryz.prog 22 1 24 false (.slice none 0 0):=⟨ti22,by kernel_rfl,by kernel_rfl⟩
theorem el32:ElI Tryz.prog 32 1 24 false (.slice none 0 0):=⟨ti32,by kernel_rfl,by kernel_rfl⟩
theorem el33:ElI Tryz.prog 33 1 24 false (.slice none 0 0):=⟨ti33,by kernel_rfl,by kernel_rfl⟩
theorem el35:ElI Tryz.prog 35 1 24 false (.slice none 0 0):=⟨ti35,by kernel_rfl,by kernel_rfl⟩
theorem el57:ElI Tryz.prog 57 1 24 false (.slice none 0 0):=⟨ti57,by kernel_rfl,by kernel_rfl⟩
theorem el136:ElI Tryz.prog 136 1 24 false (.slice none 0 0):=⟨ti136,by kernel_rfl,by kernel_rfl⟩
theorem el197:ElI Tryz.prog 197 1 24 false (.slice none 0 0):=⟨ti197,by kernel_rfl,by kernel_rfl⟩
theorem el199:ElI Tryz.prog 199 1 24 false (.slice none 0 0):=⟨ti199,by kernel_rfl,by kernel_rfl⟩
theorem el200:ElI Tryz.prog 200 1 24 false (.slice none 0 0):=⟨ti200,by kernel_rfl,by kernel_rfl⟩
theorem el203:ElI Tryz.prog 203 1 24 false (.slice none 0 0):=⟨ti203,by kernel_rfl,by kernel_rfl⟩
theorem el208:ElI Tryz.prog 208 1 24 false (.slice none 0 0):=⟨ti208,by kernel_rfl,by kernel_rfl⟩
theorem el213:ElI Tryz.prog 213 1 24 false (.slice none 0 0):=⟨ti213,by kernel_rfl,by kernel_rfl⟩
theorem el218:ElI Tryz.prog 218 1 24 false (.slice none 0 0):=⟨ti218,by kernel_rfl,by kernel_rfl⟩
theorem el223:ElI Tryz.prog 223 1 24 false (.slice none 0 0):=⟨ti223,by kernel_rfl,by kernel_rfl⟩
theorem el227:ElI Tryz.prog 227 1 24 false (.slice none 0 0):=⟨ti227,by kernel_rfl,by kernel_rfl⟩
theorem el232:ElI Tryz.prog 232 1 24 false (.slice none 0 0):=⟨ti232,by kernel_rfl,by kernel_rfl⟩
theorem el236:ElI Tryz.prog 236 1 24 false (.slice none 0 0):=⟨ti236,by kernel_rfl,by kernel_rfl⟩
theorem el240:ElI Tryz.prog 240 1 24 false (.slice none 0 0):=⟨ti240,by kernel_rfl,by kernel_rfl⟩
theorem el245:ElI Tryz.prog 245 1 24 false (.slice none 0 0):=⟨ti245,by kernel_rfl,by kernel_rfl⟩
theorem el249:ElI Tryz.prog 249 1 24 false (.slice none 0 0):=⟨ti249,by kernel_rfl,by kernel_rfl⟩
theorem el254:ElI Tryz.prog 254 1 24 false (.slice none 0 0):=⟨ti254,by kernel_rfl,by kernel_rfl⟩
theorem el259:ElI Tryz.prog 259 1 24 false (.slice none 0 0):=⟨ti259,by kernel_rfl,by kernel_rfl⟩
instance un95:UnI Tryz.prog 95 (.slice 22):=⟨zha⟩
instance un96:UnI Tryz.prog 96 (.slice 35):=⟨underlying96⟩
instance un97:UnI Tryz.prog 97 (.slice 32):=⟨underlying97⟩
instance un98:UnI Tryz.prog 98 (.slice 136):=⟨underlying98⟩
instance un99:UnI Tryz.prog 99 (.slice 197):=⟨underlying99⟩
instance un100:UnI Tryz.prog 100 (.slice 199):=⟨underlying100⟩
instance un101:UnI Tryz.prog 101 (.slice 200):=⟨underlying101⟩
instance un102:UnI Tryz.prog 102 (.slice 57):=⟨underlying102⟩
instance un103:UnI Tryz.prog 103 (.slice 33):=⟨underlying103⟩
instance un104:UnI Tryz.prog 104 (.slice 203):=⟨underlying104⟩
instance un105:UnI Tryz.prog 105 (.slice 208):=⟨underlying105⟩
instance un106:UnI Tryz.prog 106 (.slice 213):=⟨underlying106⟩
instance un107:UnI Tryz.prog 107 (.slice 218):=⟨underlying107⟩
instance un108:UnI Tryz.prog 108 (.slice 223):=⟨underlying108⟩
instance un109:UnI Tryz.prog 109 (.slice 227):=⟨underlying109⟩
instance un110:UnI Tryz.prog 110 (.slice 232):=⟨underlying110⟩
instance un111:UnI Tryz.prog 111 (.slice 236):=⟨underlying111⟩
instance un112:UnI Tryz.prog 112 (.slice 240):=⟨underlying112⟩
instance un113:UnI Tryz.prog 113 (.slice 245):=⟨underlying113⟩
instance un114:UnI Tryz.prog 114 (.slice 249):=⟨underlying114⟩
instance un115:UnI Tryz.prog 115 (.slice 254):=⟨underlying115⟩
instance un116:UnI Tryz.prog 116 (.slice 259):=⟨underlying116⟩
abbrev F0 (f:FuncId):Prop:=Ct Tryz.prog f [(tL 1 false (fun _:Nat=>tI 0) [])] (tB true)
abbrev F0i (f T E:Nat):Prop:=Tryz.prog.underlying T=some (.slice E)->ElI Tryz.prog E 1 24 false (.slice none 0 0)->F0 f
theorem f0s:F0i 92 95 22/\F0i 93 96 35/\F0i 94 97 32/\F0i 95 98 136/\F0i 96 99 197/\F0i 97 100 199/\F0i 98 101 200/\F0i 99 102 57/\F0i 100 56 38/\F0i 101 103 33/\F0i 102 104 203/\F0i 103 105 208/\F0i 104 106 213/\F0i 105 107 218/\F0i 106 108 223/\F0i 107 109 227/\F0i 108 110 232/\F0i 109 111 236/\F0i 110 112 240/\F0i 111 113 245/\F0i 112 114 249/\F0i 113 115 254/\F0i 114 116 259:=by
 refine ⟨fun hu he=>Ct.intro func92 rfl ntmps92 rfl ?_,fun hu he=>Ct.intro func93 rfl ntmps93 rfl ?_,fun hu he=>Ct.intro func94 rfl ntmps94 rfl ?_,fun hu he=>Ct.intro func95 rfl ntmps95 rfl ?_,fun hu he=>Ct.intro func96 rfl ntmps96 rfl ?_,fun hu he=>Ct.intro func97 rfl ntmps97 rfl ?_,fun hu he=>Ct.intro func98 rfl ntmps98 rfl ?_,fun hu he=>Ct.intro func99 rfl ntmps99 rfl ?_,fun hu he=>Ct.intro func100 rfl ntmps100 rfl ?_,fun hu he=>Ct.intro func101 rfl ntmps101 rfl ?_,fun hu he=>Ct.intro func102 rfl ntmps102 rfl ?_,fun hu he=>Ct.intro func103 rfl ntmps103 rfl ?_,fun hu he=>Ct.intro func104 rfl ntmps104 rfl ?_,fun hu he=>Ct.intro func105 rfl ntmps105 rfl ?_,fun hu he=>Ct.intro func106 rfl ntmps106 rfl ?_,fun hu he=>Ct.intro func107 rfl ntmps107 rfl ?_,fun hu he=>Ct.intro func108 rfl ntmps108 rfl ?_,fun hu he=>Ct.intro func109 rfl ntmps109 rfl ?_,fun hu he=>Ct.intro func110 rfl ntmps110 rfl ?_,fun hu he=>Ct.intro func111 rfl ntmps111 rfl ?_,fun hu he=>Ct.intro func112 rfl ntmps112 rfl ?_,fun hu he=>Ct.intro func113 rfl ntmps113 rfl ?_,fun hu he=>Ct.intro func114 rfl ntmps114 rfl ?_⟩ <;> (intro w F;refine A9 ?_;refine A3 ?_;refine yk5 ?_;refine A9 ?_;refine xi8 rfl (zbg (by decide)) ?_;refine A9 ?_;refine R2 (wa3 (f:=fun _:Nat=>(tL 1 false (fun _:Nat=>tI 0) [])) (y0:=0) 0 0 hu he (fun _ _=>⟨none,0,rfl,zbq _,by decide,.inl rfl⟩) inferInstance rfl rfl rfl (zbq _) (by decide) (by decide) rfl) rfl rfl ?_;refine A9 ?_;refine A1 ?_;refine yk5 ?_;refine A9 ?_;refine xi8 rfl (zbg (by decide)) ?_;refine A9 ?_;refine A3 ?_;refine yk5 ?_;refine A9 ?_;refine xi8 rfl (zbg (by decide)) ?_;refine A9 ?_;refine A3 ?_;refine yk5 ?_;refine A9 ?_;refine xi8 rfl (zbg (by decide)) ?_;refine A9 ?_;refine A3 ?_;refine yk5 ?_;refine A9 ?_;refine xi8 rfl (zbg (by decide)) ?_;refine A9 ?_;refine A2 ?_;exact zr7 Plain.mk' rfl rfl zao)
theorem qg2:F0 93:=f0s.2.1 underlying96 el35
theorem zr8:F0 94:=f0s.2.2.1 underlying97 el32
theorem qa6:F0 95:=f0s.2.2.2.1 underlying98 el136
theorem zq5:F0 96:=f0s.2.2.2.2.1 underlying99 el197
theorem zv7:F0 97:=f0s.2.2.2.2.2.1 underlying100 el199
theorem zq3:F0 98:=f0s.2.2.2.2.2.2.1 underlying101 el200
theorem zt5:F0 99:=f0s.2.2.2.2.2.2.2.1 underlying102 el57
theorem zs7:F0 101:=f0s.2.2.2.2.2.2.2.2.2.1 underlying103 el33
theorem qg0:F0 102:=f0s.2.2.2.2.2.2.2.2.2.2.1 underlying104 el203
theorem zq9:F0 103:=f0s.2.2.2.2.2.2.2.2.2.2.2.1 underlying105 el208
theorem qd5:F0 104:=f0s.2.2.2.2.2.2.2.2.2.2.2.2.1 underlying106 el213
theorem zg3:F0 105:=f0s.2.2.2.2.2.2.2.2.2.2.2.2.2.1 underlying107 el218
theorem qe3:F0 106:=f0s.2.2.2.2.2.2.2.2.2.2.2.2.2.2.1 underlying108 el223
theorem qd6:F0 107:=f0s.2.2.2.2.2.2.2.2.2.2.2.2.2.2.2.1 underlying109 el227
theorem zb2:F0 108:=f0s.2.2.2.2.2.2.2.2.2.2.2.2.2.2.2.2.1 underlying110 el232
theorem zp8:F0 109:=f0s.2.2.2.2.2.2.2.2.2.2.2.2.2.2.2.2.2.1 underlying111 el236
theorem zq8:F0 110:=f0s.2.2.2.2.2.2.2.2.2.2.2.2.2.2.2.2.2.2.1 underlying112 el240
theorem zj4:F0 111:=f0s.2.2.2.2.2.2.2.2.2.2.2.2.2.2.2.2.2.2.2.1 underlying113 el245
theorem qd7:F0 112:=f0s.2.2.2.2.2.2.2.2.2.2.2.2.2.2.2.2.2.2.2.2.1 underlying114 el249
theorem zh9:F0 113:=f0s.2.2.2.2.2.2.2.2.2.2.2.2.2.2.2.2.2.2.2.2.2.1 underlying115 el254
theorem zp7:F0 114:=f0s.2.2.2.2.2.2.2.2.2.2.2.2.2.2.2.2.2.2.2.2.2.2 underlying116 el259
def mSn (k i:Nat):Sn:=⟨1000003*((k:Int)+7)+(i:Int),0⟩
theorem xp0 (k i:Nat) (hk:k < 2000) (hi:i < 10000000):
  Ct Tryz.prog 86 [tI k,tI i] (tI (1000003*((k:Int)+7)+(i:Int))):=by
 refine Ct.intro func86 rfl ntmps86 rfl ?_;intro w F;refine A9 ?_;refine R2 (xj8 zah) rfl rfl ?_;refine A6 ?_;exact E1 rfl rfl zao
theorem yw6 {l:List Nat}: ∀{H:List (Nat×HEnt)},(∀x∈H,memN x.1 l=true/\SupX x.2.ts l)->SupHs H l
 | [],_=>trivial
 | x::r,h=>⟨h x (by simp),yw6 fun y hy=>h y (zcd _ hy)⟩
abbrev rS (xs:List Sn):HEnt:=⟨83,2,true,rV tSn xs⟩
abbrev hP (n:Nat) (L M:Nat->List Sn):Keys:=upd (poolK n fun j=>rS (M j)) 20 (some ⟨57,1,false,owns n 2 fun j=>(L j).length⟩)
abbrev tN0:Nat->Ent:=fun _=> .val (tL 2 true tSn ([]:List Sn))
abbrev hB (n:Nat) (L:Nat->List Sn) (κ:Nat->Nat) (k:Nat):Keys:=upd (hP n L (cM L mSn sn0 n 0)) 21 (some ⟨57,1,false,gsR n 2 κ (fun j=>(L j).length+64) tN0 k⟩)
abbrev hQ (n:Nat) (L:Nat->List Sn) (κ:Nat->Nat) (k:Nat):Keys:=pileK κ (fun j=>rS (mkL mSn j ((L j).length+64))) k (hB n L κ k)
section
variable {n k:Nat} {L:Nat->List Sn} {κ:Nat->Nat}
theorem ys4 {v:Nat} (hκ: ∀j,j < k->okN j (κ j)) (hv:v=k+100∨2000+64*k<=v/\v < 2000+64*k+64): ∀j,j < k+1->okN j (setN κ k v j):=fun j hj=>by
 by_cases h:j=k
 ·subst h;rw [xt4];rcases hv with h | h;exact .inl h;exact .inr ⟨h.1,by omega⟩
 ·rw [xn0 h];exact hκ j (by omega)
def okM (n k x:Nat):Prop:=x=k+100∨x=2000+64*n+k
theorem okM.ne {k j x y:Nat} (h:okM n k x) (h':okM n j y) (hk:k<=900) (hj:j<=900) (hne:k≠j):x≠y:=by rcases h with h | h <;> rcases h' with h' | h' <;> omega
abbrev tK (L:Nat->List Sn) (κ:Nat->Nat):Nat->Ent:=fun j=> .own (.sl (κ j) 2 0 ((L j).length+64))
abbrev rM (n:Nat) (L:Nat->List Sn) (j:Nat):HEnt:=rS (mkL mSn j (L j).length++mkL mSn (j+n) 64)
abbrev hC (n:Nat) (L:Nat->List Sn) (κ κ2:Nat->Nat) (k:Nat):Keys:=upd (hP n L (fun j=>mkL mSn j (L j).length)) 21 (some ⟨57,1,false,gsR n 2 κ2 (fun j=>(L j).length+64) (tK L κ) k⟩)
abbrev hR (n:Nat) (L:Nat->List Sn) (κ κ2:Nat->Nat) (k:Nat):Keys:=pileK κ2 (rM n L) k (hC n L κ κ2 k)
variable {κ2:Nat->Nat}
def alM (m:Nat):Names:=fun q=>Nat.beq q 22 || alP true m q
theorem jm7 {m:Nat}:alP true m 22=false:=rfl
theorem qo2 {m:Nat} (h:100<=m):alM m m=false:=by
 have:Nat.beq m 22=false:=by
  cases hb:Nat.beq m 22 with
  | false=>rfl
  | true=>have:=zds hb;omega
 simp [alM,this,zg0 h]
theorem yf7 {m q:Nat} (h:alP true m q=true):alM m q=true:=by simp [alM,h]
theorem ze9 {m:Nat} {c:Base} (h:LkOk c (alP true m)):LkOk c (alM m):=⟨fun k hk=>yf7 (h.ln k hk),fun k hk=>yf7 (h.yk k hk)⟩
theorem SubK.twice {h:Keys} {v:Nat} {r:Option HEnt} {r':HEnt}:SubK (upd h v (some r')) (upd (upd h v r) v (some r')):= .eq fun t x hx=>by
 by_cases ht:t=v
 ·subst ht;rw [x7] at hx ⊢;exact hx
 ·rw [x3 _ _ _ ht] at hx ⊢;rw [x3 _ _ _ ht];exact hx
theorem yp2 {v:Nat} (hκ: ∀j,j < k->okM n j (κ2 j)) (hv:okM n k v): ∀j,j < k+1->okM n j (setN κ2 k v j):=fun j hj=>by
 by_cases h:j=k
 ·subst h;rw [xt4];exact hv
 ·rw [xn0 h];exact hκ j (by omega)
end
def sel3 {α:Type} (a b c:α):Nat->α
 | 0=>a
 | 1=>b
 | _=>c
instance sl95:SlI Tryz.prog 95 22 1 false:=⟨zha,ti22⟩
instance fi149:FnI Tryz.prog 149:=⟨_,func149,by kernel_rfl,rfl⟩
def mLb (k i:Nat):Nat:=(1000003*(k+7)+i)%65536
abbrev tLb (n:Nat):Ty:=tE (.int .u16 (n:Int))
theorem cutLb {k i:Nat}:IntKind.u16.wrap (1000003*((k:Int)+7)+(i:Int))=((mLb k i:Nat):Int):=by rw [mu16,mLb];omega
theorem ze8 {P:Program} {c:Base} {d ty:Nat} {pos:String} {af:Array Edge} {gd:Option (Nat×Bool)} {T yT:TypeId} {x y:Operand} {k:IntKind} {n:Int}:Does P c ⟨some d,.binOp .eql T x y yT,ty,pos,af,gd⟩ ⟨[(x,.val (tE (.int k n))),(y,.val (tE (.int k n)))],[],some (d,some (.val (tB true))),[],[]⟩:=by
 have:=ya7 (P:=P) (c:=c) (d:=d) (t:=ty) (pos:=pos) (af:=af) (gd:=gd) (T:=T) (yT:=yT) (x:=x) (y:=y) (k:=k) (m:=n) (n:=n)
 rwa [zbf rfl] at this
theorem qf8 {n T es:Nat} {len:Nat->Nat} {R:Nat->HEnt} (hRL: ∀k,k < n->(R k).supp=[]):SupHs ((20,⟨T,1,false,owns n es len⟩)::poolL n R) (poolN n):=yw6 fun x hx=>by
 rcases zbr.1 hx with rfl | hx
 ·exact ⟨rfl,fun k hk=>by obtain ⟨j,hj,rfl⟩:=yn8 hk;simp only [poolN,zbr,zci,zcx];exact .inr ⟨j,hj,rfl⟩⟩
 ·obtain ⟨j,hj,h1,h2⟩:=xs6 (k:=x.1) (x:=x.2) hx;refine ⟨xb2.2 ?_,fun k hk=> ?_⟩
  ·rw [h1];simp only [poolN,zbr,zci,zcx];exact .inr ⟨j,hj,rfl⟩
  ·have:=hRL j hj;rw [h2] at hk;rw [HEnt.supp] at this;rw [this] at hk;cases hk
abbrev rSL (xs:List Nat):HEnt:=⟨140,1,false,rV tLb xs⟩
abbrev hPL (n:Nat) (L M:Nat->List Nat):Keys:=upd (poolK n fun j=>rSL (M j)) 20 (some ⟨22,1,false,owns n 1 fun j=>(L j).length⟩)
theorem xu9 {xs:List Nat}:(rSL xs).supp=[]:=List.eq_nil_iff_forall_not_mem.2 fun _ hk=>qn1 hk
theorem yc1 {n k:Nat} {L M:Nat->List Nat} (h:k < n):hPL n L M (k+100)=some (rSL (M k)):=by
 rw [hPL,x3 _ _ _ (by omega)];exact xt2 h
theorem wa2 {n k:Nat} {L M M':Nat->List Nat} (h1: ∀j,j≠k->M' j=M j):SubK (hPL n L M') (upd (hPL n L M) (k+100) (some (rSL (M' k)))):=fun q x hx=>by
 by_cases hq:q=k+100
 ·subst hq;rw [hPL,x3 _ _ _ (by omega)] at hx;obtain ⟨j,_,h2,rfl⟩:=xj6 hx;have:j=k:=by omega
  subst this;exact ⟨_,x7 _ _ _,rfl,.refl⟩
 ·rw [x3 _ _ _ hq];by_cases hq2:q=20
  ·subst hq2;rw [hPL,x7] at hx ⊢;exact ⟨_,rfl,by cases hx;rfl,by cases hx;exact .refl⟩
  ·rw [hPL,x3 _ _ _ hq2] at hx ⊢;obtain ⟨j,h1',rfl,rfl⟩:=xj6 hx;refine ⟨_,xt2 h1',rfl,?_⟩;rw [h1 j (by omega)];exact .refl
theorem hP_eqL {n:Nat} {L M M':Nat->List Nat} (h: ∀j,j < n->M' j=M j):SubK (hPL n L M') (hPL n L M):=fun q x hx=>by
 by_cases hq2:q=20
 ·subst hq2;rw [hPL,x7] at hx ⊢;exact ⟨_,rfl,by cases hx;rfl,by cases hx;exact .refl⟩
 ·rw [hPL,x3 _ _ _ hq2] at hx ⊢;obtain ⟨j,h1',rfl,rfl⟩:=xj6 hx;exact ⟨_,xt2 h1',rfl,by rw [h j h1'];exact .refl⟩
theorem yb5 {b:Bool} {n m:Nat} {L M:Nat->List Nat} (h:n+100<=m):SupH (hPL n L M) (alP b m):=supP h fun _ _=>xu9
abbrev tN0L:Nat->Ent:=fun _=> .val (tL 1 false tLb ([]:List Nat))
abbrev hBL (n:Nat) (L:Nat->List Nat) (κ:Nat->Nat) (k:Nat):Keys:=upd (hPL n L (cM L mLb 0 n 0)) 21 (some ⟨22,1,false,gsR n 1 κ (fun j=>(L j).length+64) tN0L k⟩)
abbrev hQL (n:Nat) (L:Nat->List Nat) (κ:Nat->Nat) (k:Nat):Keys:=pileK κ (fun j=>rSL (mkL mLb j ((L j).length+64))) k (hBL n L κ k)
section
variable {n k:Nat} {L:Nat->List Nat} {κ:Nat->Nat}
theorem yo3 (hκ: ∀j,j < k->okN j (κ j)):hQL n L κ k 20=some ⟨22,1,false,owns n 1 fun j=>(L j).length⟩:=by
 rw [hQL,xd8 fun j hj=>by rcases hκ j hj with h | h <;> omega];rfl
theorem za7 (hκ: ∀j,j < k->okN j (κ j)):hQL n L κ k 21=some ⟨22,1,false,gsR n 1 κ (fun j=>(L j).length+64) tN0L k⟩:=by
 rw [hQL,xd8 fun j hj=>by rcases hκ j hj with h | h <;> omega];exact x7 _ _ _
theorem qn9 (hn:n<=900) (hκ: ∀j,j < k->okN j (κ j)) (hk:k < n):hQL n L κ k (k+100)=some (rSL (mkL mLb k (L k).length)):=by
 rw [hQL,xd8 fun j hj=>okN.ne (.inl rfl) (hκ j hj) (by omega) (by omega) (by omega),hBL,x3 _ _ _ (by omega),yc1 hk,zf0 hk]
theorem wc6 (hκ: ∀j,j < k->okN j (κ j)) (hn:n<=900) {q:Nat} (h:2000+64*k<=q):hQL n L κ k q=none:=by
 rw [hQL,xd8 fun j hj=>by rcases hκ j hj with h | h <;> omega,hBL,x3 _ _ _ (by omega),hPL,x3 _ _ _ (by omega)];exact yk2 fun j hj=>by omega
theorem xs2 {m:Nat} (hκ: ∀j,j < k->okN j (κ j)) (hn:n<=900) (hk:k<=n) (hm:2000+64*k<=m):SupH (hQL n L κ k) (alP true m):=fun q x hx=>by
 have hin: ∀j,j < k->alP true m (κ j)=true:=fun j hj=>xj3 ((hκ j hj).lt (m:=m) (by omega) (by omega)).1 ((hκ j hj).lt (by omega) (by omega)).2;rcases ye9 hx with ⟨j,hj,rfl,rfl⟩ | hx
 ·exact ⟨hin j hj,fun i hi=>by rw [xu9] at hi;cases hi⟩
 ·by_cases hq:q=21
  ·subst hq;rw [hBL,x7] at hx;cases hx;refine ⟨rfl,fun i hi=> ?_⟩;rcases yh6 hi with ⟨j,_,hj,rfl⟩ | ⟨j,_,hj⟩
   ·exact hin j hj
   ·cases hj
  ·rw [hBL,x3 _ _ _ hq] at hx;exact yb5 (by omega) q x hx
theorem qm3 {m v:Nat} {r:List Nat} (hκ: ∀j,j < k->okN j (κ j)) (hn:n<=900) (hk:k<=n) (hm:2000+64*k<=m) (hv:100<=v/\v < m):SupH (upd (hQL n L κ k) v (some (rSL r))) (alP true m):=fun q x hx=>by
 by_cases hq:q=v
 ·subst hq;rw [x7] at hx;cases hx;exact ⟨xj3 hv.1 hv.2,fun i hi=>by rw [xu9] at hi;cases hi⟩
 ·rw [x3 _ _ _ hq] at hx;exact xs2 hκ hn hk hm q x hx
theorem jw5 {v:Nat} (hκ: ∀j,j < k->okN j (κ j)) (hv:100<=v):SubK (hQL n L (setN κ k v) (k+1)) (upd (upd (hQL n L κ k) v (some (rSL (mkL mLb k ((L k).length+64))))) 21 (some ⟨22,1,false,gsR n 1 (setN κ k v) (fun j=>(L j).length+64) tN0L (k+1)⟩)):= .eq fun t x hx=>by
 rw [hQL,pileK,xt4,xu2 (κ:=κ) fun j hj=>xn0 (by omega)] at hx;by_cases ht:t=21
 ·subst ht;rw [x3 _ _ _ (by omega),xd8 fun j hj=>by rcases hκ j hj with h | h <;> omega,hBL,x7] at hx;rw [x7];exact hx
 ·rw [x3 _ _ _ ht];by_cases htv:t=v
  ·subst htv;rw [x7] at hx ⊢;exact hx
  ·rw [x3 _ _ _ htv] at hx ⊢;rw [xz3 (h:=hBL n L κ k) (by rw [hBL,hBL,x3 _ _ _ ht,x3 _ _ _ ht])] at hx;exact hx
theorem jc8 {j:Nat} (hn:n<=900) (hk:k<=n) (hκ: ∀j,j < k->okN j (κ j)) (hj:j < k):hQL n L κ k (κ j)=some (rSL (mkL mLb j ((L j).length+64))):=
 yd1 (fun i hi hij=>okN.ne (hκ j hj) (hκ i hi) (by omega) (by omega) (Ne.symm hij)) hj
theorem jm8 {j:Nat} (hn:n<=900) (hk:k<=n) (hκ: ∀j,j < k->okN j (κ j)) (hj:j < k): ∃m,(L j).length<=m/\hQL n L κ k (j+100)=some (rSL (mkL mLb j m)):=by
 rcases hκ j hj with h | h
 ·exact ⟨(L j).length+64,by omega,by rw [<-h];exact jc8 hn hk hκ hj⟩
 ·refine ⟨(L j).length,zbq _,?_⟩;rw [hQL,xd8 fun i hi=>by
   by_cases hij:i=j
   ·subst hij;omega
   ·exact okN.ne (.inl rfl) (hκ i hi) (by omega) (by omega) (Ne.symm hij),hBL,x3 _ _ _ (by omega),yc1 (by omega),zf0 (by omega)]
theorem zg8 {i m j:Nat} (h:i < m):(rV tLb (mkL mLb j m))[i]? =some (.val (tLb (mLb j i))):=by
 rw [rV,zbs,yb8 h];rfl
theorem qm1 {j i i':Nat} (h:i'<=i):ImpK (rSL (mkL mLb j i)) (rSL (mkL mLb j i')):= .ts (by rw [xc0,xc0,xm1,xm1];exact h) fun t e he=>⟨e,by
 simp only [rV,zbs] at he ⊢;obtain ⟨x,hx,rfl⟩:=zdd.1 he;rw [qn8 h t x hx];rfl,.refl⟩
abbrev tKL (L:Nat->List Nat) (κ:Nat->Nat):Nat->Ent:=fun j=> .own (.sl (κ j) 1 0 ((L j).length+64))
abbrev rML (n:Nat) (L:Nat->List Nat) (j:Nat):HEnt:=rSL (mkL mLb j (L j).length++mkL mLb (j+n) 64)
abbrev hCL (n:Nat) (L:Nat->List Nat) (κ κ2:Nat->Nat) (k:Nat):Keys:=upd (hPL n L (fun j=>mkL mLb j (L j).length)) 21 (some ⟨22,1,false,gsR n 1 κ2 (fun j=>(L j).length+64) (tKL L κ) k⟩)
abbrev hRL (n:Nat) (L:Nat->List Nat) (κ κ2:Nat->Nat) (k:Nat):Keys:=pileK κ2 (rML n L) k (hCL n L κ κ2 k)
variable {κ2:Nat->Nat}
theorem ze3 (hκ: ∀j,j < k->okM n j (κ2 j)):hRL n L κ κ2 k 20=some ⟨22,1,false,owns n 1 fun j=>(L j).length⟩:=by
 rw [hRL,xd8 fun j hj=>by rcases hκ j hj with h | h <;> omega];rfl
theorem qz8 (hκ: ∀j,j < k->okM n j (κ2 j)):hRL n L κ κ2 k 21=some ⟨22,1,false,gsR n 1 κ2 (fun j=>(L j).length+64) (tKL L κ) k⟩:=by
 rw [hRL,xd8 fun j hj=>by rcases hκ j hj with h | h <;> omega];exact x7 _ _ _
theorem we6 (hn:n<=900) (hκ: ∀j,j < k->okM n j (κ2 j)) (hk:k < n):hRL n L κ κ2 k (k+100)=some (rSL (mkL mLb k (L k).length)):=by
 rw [hRL,xd8 fun j hj=>okM.ne (.inl rfl) (hκ j hj) (by omega) (by omega) (by omega),hCL,x3 _ _ _ (by omega),yc1 hk]
theorem xs3 {m:Nat} (hκ0: ∀j,j < n->okN j (κ j)) (hκ: ∀j,j < k->okM n j (κ2 j)) (hn:n<=900) (hk:k<=n) (hm:2000+64*n+k<=m):SupH (hRL n L κ κ2 k) (alP true m):=fun q x hx=>by
 have hin: ∀j,j < k->alP true m (κ2 j)=true:=fun j hj=>by rcases hκ j hj with h | h <;> exact xj3 (by omega) (by omega)
 rcases ye9 hx with ⟨j,hj,rfl,rfl⟩ | hx
 ·exact ⟨hin j hj,fun i hi=>by rw [xu9] at hi;cases hi⟩
 ·by_cases hq:q=21
  ·subst hq;rw [hCL,x7] at hx;cases hx;refine ⟨rfl,fun i hi=> ?_⟩;rcases yh6 hi with ⟨j,_,hj,rfl⟩ | ⟨j,hjn,hj⟩
   ·exact hin j hj
   ·simp only [Ent.supp,VP.supp,zbj] at hj;subst hj;exact xj3 ((hκ0 j hjn).lt (m:=m) (by omega) (by omega)).1 ((hκ0 j hjn).lt (by omega) (by omega)).2
  ·rw [hCL,x3 _ _ _ hq] at hx;exact yb5 (by omega) q x hx
theorem hR_0L {κ3:Nat->Nat} (hn:n<=900) (hκ: ∀j,j < n->okN j (κ j)):SubK (hRL n L κ κ3 0) (hQL n L κ n):=fun q x hx=>by
 by_cases hq:q=21
 ·subst hq;have hx:hCL n L κ κ3 0 21=some x:=hx;rw [hCL,x7] at hx;cases hx;refine ⟨_,za7 hκ,rfl,?_⟩;rw [show gsR n 1 κ (fun j=>(L j).length+64) tN0L n=gsR n 1 κ3 (fun j=>(L j).length+64) (tKL L κ) 0 from by
   apply zfw;intro j hj;rw [zcx] at hj;simp [hj]]
  exact .refl
 ·have hx:hCL n L κ κ3 0 q=some x:=hx;rw [hCL,x3 _ _ _ hq] at hx;by_cases hq2:q=20
  ·subst hq2;rw [hPL,x7] at hx;cases hx;exact ⟨_,yo3 hκ,rfl,.refl⟩
  ·rw [hPL,x3 _ _ _ hq2] at hx;obtain ⟨j,hj,rfl,rfl⟩:=xj6 hx;obtain ⟨m,hm,e⟩:=jm8 (L:=L) hn (zbq n) hκ hj;exact ⟨_,e,rfl,qm1 hm⟩
def fSL (j i:Nat):List Nat:=(List.range 64).map fun t=>if t < i then mLb j t else 0
theorem xp8 {j i:Nat}:(fSL j i).length=64:=by simp [fSL]
theorem fS_0L {j:Nat}:List.replicate 64 (Ent.val (tLb 0))=rV tLb (fSL j 0):=by
 rw [yd0 64 0 rfl];congr 1
theorem wf6 {j i:Nat} (hi:i < 64):(fSL j i).set i (mLb j i)=fSL j (i+1):=by
 apply zfc;intro t;rw [zfk];rcases zcb t 64 with h | h
 ·simp only [fSL,zbs,zet h,zch,List.length_range,zdm];by_cases hit:i=t
  ·subst hit;simp [h]
  ·rw [if_neg hit];by_cases h1:t < i
   ·simp [h1,show t < i+1 by omega]
   ·simp [h1,show ¬t < i+1 by omega]
 ·rw [if_neg (by omega),zcv (by rw [xp8];exact h),zcv (by rw [xp8];exact h)]
theorem fS_64L {j:Nat}:fSL j 64=mkL mLb j 64:=zfw fun _ ht=>if_pos (zcx.1 ht)
theorem qa1 {m:Nat} {h:Keys} {r:List Nat} (hs:SupH h (alP true m)):SupH (upd h 22 (some (rSL r))) (alM m):=fun q x hx=>by
 by_cases hq:q=22
 ·subst hq;rw [x7] at hx;cases hx;exact ⟨rfl,fun i hi=>by rw [xu9] at hi;cases hi⟩
 ·rw [x3 _ _ _ hq] at hx;exact ⟨yf7 (hs q x hx).1,fun i hi=>yf7 ((hs q x hx).2 i hi)⟩
theorem rM_eqL {j:Nat}:(⟨140,1,false,rV tLb (mkL mLb j (L j).length)++(fSL (j+n) 64).map (fun y=>Ent.val (tLb y))⟩:HEnt)=rML n L j:=by
 rw [rML,rSL,<-fS_64L];simp [rV]
theorem jr6 {v:Nat} {r:HEnt} (hκ: ∀j,j < k->okM n j (κ2 j)) (hv:100<=v):SubK (hRL n L κ (setN κ2 k v) (k+1)) (upd (upd (upd (upd (hRL n L κ κ2 k) 22 (some r)) 22 none) v (some ⟨140,1,false,rV tLb (mkL mLb k (L k).length)++(fSL (k+n) 64).map (fun y=>Ent.val (tLb y))⟩)) 21 (some ⟨22,1,false,gsR n 1 (setN κ2 k v) (fun j=>(L j).length+64) (tKL L κ) (k+1)⟩)):= .eq fun t x hx=>by
 rw [rM_eqL];rw [hRL,pileK,xt4,xu2 (κ:=κ2) fun j hj=>xn0 (by omega)] at hx;by_cases ht:t=21
 ·subst ht;rw [x3 _ _ _ (by omega),xd8 fun j hj=>by rcases hκ j hj with h | h <;> omega,hCL,x7] at hx;rw [x7];exact hx
 ·rw [x3 _ _ _ ht];by_cases htv:t=v
  ·subst htv;rw [x7] at hx ⊢;exact hx
  ·rw [x3 _ _ _ htv] at hx ⊢;rw [xz3 (h:=hCL n L κ κ2 k) (by rw [hCL,hCL,x3 _ _ _ ht,x3 _ _ _ ht])] at hx;by_cases h22:t=22
   ·subst h22;rw [xd8 fun j hj=>by rcases hκ j hj with h | h <;> omega,hCL,x3 _ _ _ (by omega),hPL,x3 _ _ _ (by omega),yk2 fun j _=>by omega] at hx;cases hx
   ·rw [x3 _ _ _ h22,x3 _ _ _ h22];exact hx
theorem jq1 {j:Nat} (_hκ: ∀j,j < k->okM n j (κ2 j)) (hj:j < n): ∃y,hRL n L κ κ2 k (j+100)=some y:=by
 have key: ∀i,∃y,pileK κ2 (rML n L) i (hCL n L κ κ2 k) (j+100)=some y:=fun i=>by
  induction i with
  | zero=>exact ⟨_,by show hCL n L κ κ2 k (j+100)=_;rw [hCL,x3 _ _ _ (by omega)];exact yc1 hj⟩
  | succ i ih=>
   by_cases h:j+100=κ2 i
   ·exact ⟨_,by rw [pileK,h];exact x7 _ _ _⟩
   ·obtain ⟨y,hy⟩:=ih;exact ⟨y,by rw [pileK,x3 _ _ _ h];exact hy⟩
 exact key k
theorem jv8 {N:Nat} {w:World} {F:Dom} {η:Env} {R:Nat->HEnt} {X:HEnt} {r:Option HEnt} {b:Nat} (hκ: ∀j,j < k->okM n j (κ2 j)) (_hk:k<=n) (hb:(Base.lent N w F η (poolN n) ((20,X)::poolL n R)).lb b):
  ∃j y,j∈poolN n/\j≠22/\upd (hRL n L κ κ2 k) 22 r j=some y/\0 < η.c j/\b=η.b j:=by
 obtain ⟨x,hx,hc,e⟩:=hb;rcases zbr.1 hx with rfl | hx
 ·exact ⟨20,_,by simp [poolN],by omega,(x3 _ _ _ (by omega)).trans (ze3 hκ),hc,e⟩
 ·obtain ⟨j,hj,h1,_⟩:=xs6 (k:=x.1) (x:=x.2) hx;obtain ⟨y,hy⟩:=jq1 (L:=L) (κ:=κ) hκ hj;refine ⟨j+100,y,by simp only [poolN,zbr,zci,zcx];exact .inr ⟨j,hj,rfl⟩,by omega,(x3 _ _ _ (by omega)).trans hy,by rw [<-h1];exact hc,by rw [<-h1];exact e⟩
theorem jh4 {j:Nat} (hn:n<=900) (hκ: ∀j,j < n->okM n j (κ2 j)) (hj:j < n):hRL n L κ κ2 n (κ2 j)=some (rML n L j):=
 yd1 (fun i hi hij=>okM.ne (hκ j hj) (hκ i hi) (by omega) (by omega) (Ne.symm hij)) hj
theorem qi1 {i j:Nat} (h:i < (L j).length):(rV tLb (mkL mLb j (L j).length++mkL mLb (j+n) 64))[i]? =some (.val (tLb (mLb j i))):=by
 rw [rV,zbs,zct (by rw [xm1];exact h),yb8 h];rfl
theorem hR_lsL {j:Nat} (hn:n<=900) (hκ: ∀j,j < n->okM n j (κ2 j)) (hj:j < n): ∃xs,hRL n L κ κ2 n (j+100)=some (rSL xs)/\ ∀i,i < (L j).length->(rV tLb xs)[i]? =some (.val (tLb (mLb j i))):=by
 rcases hκ j hj with h | h
 ·exact ⟨_,(congrArg (hRL n L κ κ2 n) h.symm).trans (jh4 hn hκ hj),fun i hi=>qi1 hi⟩
 ·refine ⟨mkL mLb j (L j).length,?_,fun i hi=>zg8 hi⟩;rw [hRL,xd8 fun i hi=>by
   by_cases hij:i=j
   ·subst hij;omega
   ·exact okM.ne (.inl rfl) (hκ i hi) (by omega) (by omega) (Ne.symm hij),hCL,x3 _ _ _ (by omega),yc1 hj]
theorem wb4 {i:Nat} {j:Nat}:(⟨140,1,false,rV tLb (mkL mLb j i)++[mLb j i].map (fun y=>Ent.val (tLb y))⟩:HEnt)=rSL (mkL mLb j (i+1)):=by
 rw [rSL,<-zs0];simp [rV]
end
theorem qb9 (n:Nat) (L:Nat->List Nat) (hn:n<=900) (hL: ∀j,(L j).length<=1000000):
  CtG Tryz.prog 92 ((20,⟨22,1,false,owns n 1 fun j=>(L j).length⟩)::poolL n fun j=>rSL (L j)) [.own (.sl 20 1 0 n)] (.val (tB true)) [] []:=by
 refine CtG.intro (poolN n) func92 rfl ntmps92 rfl rfl (qf8 fun _ _=>xu9) ?_;intro w F η;refine A12 ?_;refine xh8 (fun k:Nat=>k<=n) (fun k=>uV (uO uN 0 (.sl 20 1 0 n)) 3 (tI k)) (fun k=>hPL n L (cM L mLb 0 k 0)) (alP false (100+n)) (fun k=>n - k) 0 (zbt _) (Sub.int rfl rfl (zan rfl zay)) (by show SubK (hPL n L (cM L mLb 0 0 0)) _;rw [show cM L mLb 0 0 0=L from funext fun j=>cM_0];exact yt3) (zaj (zak rfl zar)) (yb5 (by omega)) (lkP (by omega)) ?_;intro k hk;refine A9 ?_;refine x9 rfl (fun h1=> ?_) (fun h1=> ?_)
 ·
  have hk':k < n:=by omega
  refine A9 ?_;refine xi1 ?_;refine xh8 (fun i:Nat=>i<=(L k).length) (fun i=>uV (uV (uO uN 0 (.sl 20 1 0 n)) 3 (tI k)) 4 (tI i)) (fun i=>hPL n L (cM L mLb 0 k i)) (alP false (100+n)) (fun i=>(L k).length - i) 0 (zbt _) (Sub.int rfl rfl (zan rfl (zan rfl zay))) SubK.refl (zaj (zaj (zak rfl zar))) (yb5 (by omega)) (lkP (by omega)) ?_;intro i hi;have hLk:=hL k;refine A6 ?_;refine R2 (zag sl95 rfl) rfl rfl (RE (xa5 (k) ti22 (xf4 hk') (by omega)) qA qA trivial ?_);refine A3 ?_;refine x9 rfl (fun h2=> ?_) (fun h2=> ?_)
  ·
   refine A7 ?_;refine R2 (zag sl95 rfl) rfl rfl (RE (xa5 (k) ti22 (xf4 hk') (by omega)) qA qA trivial ?_);refine A3 ?_;refine R2 (x4 (xp0 k i (by omega) (by omega)) fi86 rfl) rfl rfl (R1 (xa8 zgi (isS zgo) cutLb) rfl (R2 (zag sl22 rfl) rfl rfl (RE (xc1 (e:= .val (tLb (mLb k i))) (i) ti140 (xi5 (f:=tLb) (xs:=cM L mLb 0 k i k) (by rw [zc7];omega)) (by omega) (xf0 (f:=tLb) (m:=mLb k i) rfl)) qB ⟨yc1 (L:=L) hk',trivial⟩ trivial ?_)));refine A8 ?_;exact xf5 (i+1) ⟨by omega,by omega⟩ (Sub.int rfl (by omega) (zan rfl (zan rfl zay))) (by rw [jb3 (by omega)];exact wa2 fun j hj=>ja5 hj) (zaj (zaj (zak rfl zar))) (yb5 (by omega)) (lkP (by omega))
  ·
   refine A11 ?_;have hil:i=(L k).length:=by omega
   subst hil;exact xf5 (k+1) ⟨by omega,by omega⟩ (Sub.int rfl (by omega) (zan rfl zay)) (hP_eqL fun j _=>qp3) (zaj (zak rfl zar)) (yb5 (by omega)) (lkP (by omega))
 ·
  have hkn:k=n:=by omega
  subst hkn;refine A9 ?_;refine RE (xi0 (k:=21) (t:=tL 1 false tLb ([]:List Nat)) (ts:=gsR k 1 (fun _=>0) (fun j=>(L j).length+64) tN0L 0) k k zha el22 (fun _ _=>⟨none,0,rfl,zbq _,by decide,.inl rfl⟩) rfl (by omega) (by omega) (zbq _) (by omega) (by omega) qj9) qB trivial qA ?_;refine A10 ?_;refine xv3 (ι:=Nat×(Nat->Nat)) (fun x=>x.1<=k/\ ∀j,j < x.1->okN j (x.2 j)) (fun x=>uV (uO (uO uN 0 (.sl 20 1 0 k)) 5 (.sl 21 1 0 k)) 6 (tI x.1)) (fun x=>hQL k L x.2 x.1) (fun x=>alP true (2000+64*x.1)) (fun x=>k - x.1) (0,fun _=>0) ⟨zbt _,fun j h=>by cases h⟩ (Sub.int rfl rfl (zan rfl (zan rfl zay))) SubK.refl (zaj (zak rfl (zak rfl zar))) (xs2 (fun j h=>by cases h) hn (zbt _) (by omega)) (lkP (by omega)) ?_;rintro ⟨q,κ⟩ ⟨hq,hκ⟩;replace hq:q<=k:=hq;replace hκ: ∀j,j < q->okN j (κ j):=hκ;show wc _ _ _ _ (uV (uO (uO uN 0 (.sl 20 1 0 k)) 5 (.sl 21 1 0 k)) 6 (tI q)) (hQL k L κ q) (alP true (2000+64*q));refine A9 ?_;refine x9 rfl (fun h3=> ?_) (fun h3=> ?_)
  ·
   have hq':q < k:=by omega
   have hLk:=hL q;refine A8 ?_;refine R2 (zag sl95 rfl) rfl rfl (RE (xa5 (q) ti22 (xf4 hq') (by omega)) qA ⟨yo3 hκ,trivial⟩ trivial ?_);refine A10 ?_;refine xv3 (ι:=Nat×Nat) (fun x=>x.1<=64/\(x.2=q+100∨2000+64*q<=x.2/\x.2 < 2000+64*q+x.1)) (fun x=>uV (uO (uV (uO (uO uN 0 (.sl 20 1 0 k)) 5 (.sl 21 1 0 k)) 6 (tI q)) 7 (.sl x.2 1 0 ((L q).length+x.1))) 8 (tI x.1)) (fun x=>upd (hQL k L κ q) x.2 (some (rSL (mkL mLb q ((L q).length+x.1))))) (fun x=>alP true (2000+64*q+x.1)) (fun x=>64 - x.1) (0,q+100) ⟨zbt _,.inl rfl⟩ (Sub.int rfl rfl (zan rfl (zan rfl (zan rfl (zan rfl zay))))) (zaq (qn9 hn hκ hq') .refl SubK.refl) (zaj (zak (by show (alP true (2000+64*q+0) (q+100) && true)=true;rw [xj3 (by omega) (by omega)];rfl) (zaj (zak rfl (zak rfl zar))))) (qm3 hκ hn (by omega) (by omega) (by omega)) (lkP (by omega)) ?_;rintro ⟨i,v⟩ ⟨hi,hv⟩;replace hi:i<=64:=hi;replace hv:v=q+100∨2000+64*q<=v/\v < 2000+64*q+i:=hv;have h20:upd (hQL k L κ q) v (some (rSL (mkL mLb q ((L q).length+i)))) 20=some ⟨22,1,false,owns k 1 fun j=>(L j).length⟩:=by
    rw [x3 _ _ _ (by omega)];exact yo3 hκ
   show wc _ _ _ _ (uV (uO (uV (uO (uO uN 0 (.sl 20 1 0 k)) 5 (.sl 21 1 0 k)) 6 (tI q)) 7 (.sl v 1 0 ((L q).length+i))) 8 (tI i)) (upd (hQL k L κ q) v (some (rSL (mkL mLb q ((L q).length+i))))) (alP true (2000+64*q+i));refine A6 ?_;refine x9 rfl (fun h4=> ?_) (fun h4=> ?_)
   ·
    have hi':i < 64:=by omega
    refine A3 ?_;refine xi1 ?_;refine xi3 ?_;refine yf4 [_,_,_,_,_,_,_,_,_,_,_,_] ?_;refine A4 ?_;refine R2 (zag sl95 rfl) rfl rfl (RE (xa5 (q) ti22 (xf4 hq') (by omega)) qA ⟨h20,trivial⟩ trivial ?_);refine A3 ?_;refine R2 (x4 (xp0 q ((L q).length+i) (by omega) (by omega)) fi86 rfl) rfl rfl (R1 (xa8 zgi (isS zgo) cutLb) rfl (R1 (xc2 (n:=1) (f:=tLb) [mLb q ((L q).length+i)] zgf el140 zf140 rfl (fun _=>inferInstance) rfl rfl rfl) rfl (zr5 (by kernel_rfl) ?_)));refine yq6 (k':=2000+64*q+i) (f:=tLb) (ys:=[mLb q ((L q).length+i)]) zgf el140 zf140 rfl rfl (fun _=>inferInstance) rfl rfl (x7 _ _ _) (zg0 (by omega)) (xc0.trans xm1) (by simp;omega) (by simp;omega) (by simp) rfl (fun b=> ?_);refine xa9 xb0 qA trivial trivial rfl (xg3 ?_);refine A7 ?_;have hv':cond b v (2000+64*q+i)=v∨cond b v (2000+64*q+i)=2000+64*q+i:=by cases b;exact .inr rfl;exact .inl rfl
    generalize cond b v (2000+64*q+i)=v' at hv' ⊢;exact fun _ _ hs=>xt8 (i+1,v') ⟨⟨by show i+1<=64;omega,by show v'=q+100∨2000+64*q<=v'/\v' < 2000+64*q+(i+1);omega⟩,by show 64 - (i+1) < 64 - i;omega⟩ (Sub.int rfl rfl (zan rfl (zan rfl (zan rfl (zan rfl zay))))) (by
     show SubK (upd (hQL k L κ q) v' (some (rSL (mkL mLb q ((L q).length+i+1))))) _;rw [<-wb4];exact SubK.over fun y hy=>by
      rcases hv with rfl | hv
      ·rw [qn9 hn hκ hq'] at hy;cases hy;exact ⟨rfl,qm1 (by omega)⟩
      ·rw [wc6 hκ hn hv.1] at hy;cases hy) (zaj (zak (by show (alP true (2000+64*q+(i+1)) v' && true)=true;rw [xj3 (by omega) (by omega)];rfl) (zaj (zak rfl (zak rfl zar))))) (qm3 hκ hn (by omega) (by show 2000+64*q<=2000+64*q+(i+1);omega) (by show 100<=v'/\v' < 2000+64*q+(i+1);omega)) (lkP (by omega)) hs
   ·
    have hi64:i=64:=by omega
    subst hi64;have h21:upd (hQL k L κ q) v (some (rSL (mkL mLb q ((L q).length+64)))) 21=some ⟨22,1,false,gsR k 1 κ (fun j=>(L j).length+64) tN0L q⟩:=by
     rw [x3 _ _ _ (by omega)];exact za7 hκ
    refine A9 ?_;refine R2 (zag sl95 rfl) rfl rfl (RE (xc1 (e:= .own (.sl v 1 0 ((L q).length+64))) (q) ti22 (by rw [yc0];simpa using hq') (by omega) (yr1 (len:=fun j=>(L j).length+64) (v:=v) hq')) qB ⟨h21,trivial⟩ trivial ?_);refine A8 ?_;exact fun _ _ hs=>xt8 (q+1,setN κ q v) ⟨⟨by show q+1<=k;omega,ys4 hκ hv⟩,by show k - (q+1) < k - q;omega⟩ (Sub.int rfl rfl (zan rfl (zan rfl zay))) (by exact jw5 hκ (by omega)) (zaj (zak rfl (zak rfl zar))) (by exact xs2 (ys4 hκ hv) hn (by omega) (by omega)) (lkP (by omega)) hs
  ·
   have hqk:q=k:=by omega
   subst hqk;refine A12 ?_;refine xh8 (fun j:Nat=>j<=q) (fun j=>uV (uO (uO uN 0 (.sl 20 1 0 q)) 5 (.sl 21 1 0 q)) 9 (tI j)) (fun _=>hQL q L κ q) (alP true (2000+64*q)) (fun j=>q - j) 0 (zbt _) (Sub.int rfl rfl (zan rfl (zan rfl zay))) SubK.refl (zaj (zak rfl (zak rfl zar))) (xs2 hκ hn (by omega) (by omega)) (lkP (by omega)) ?_;intro j hj;refine A9 ?_;refine x9 rfl (fun h5=> ?_) (fun h5=> ?_)
   ·
    have hj':j < q:=by omega
    have hLj:=hL j;refine A9 ?_;refine xi1 ?_;refine xh8 (fun i:Nat=>i<=(L j).length+64) (fun i=>uV (uV (uO (uO uN 0 (.sl 20 1 0 q)) 5 (.sl 21 1 0 q)) 9 (tI j)) 10 (tI i)) (fun _=>hQL q L κ q) (alP true (2000+64*q)) (fun i=>(L j).length+64 - i) 0 (zbt _) (Sub.int rfl rfl (zan rfl (zan rfl (zan rfl zay)))) SubK.refl (zaj (zaj (zak rfl (zak rfl zar)))) (xs2 hκ hn (by omega) (by omega)) (lkP (by omega)) ?_;intro i hi;obtain ⟨m,hm,hls⟩:=jm8 (L:=L) hn (zbq q) hκ hj';refine A6 ?_;refine R2 (zag sl95 rfl) rfl rfl (RE (xa5 (j) ti22 (yb2 hj' hj') (by omega)) qA ⟨za7 hκ,trivial⟩ trivial ?_);refine A3 ?_;refine x9 rfl (fun h6=> ?_) (fun h6=> ?_)
    ·
     refine A8 ?_;refine R2 (zag sl95 rfl) rfl rfl (RE (xa5 (j) ti22 (yb2 hj' hj') (by omega)) qA ⟨za7 hκ,trivial⟩ trivial ?_);refine A1 ?_;refine R2 (zag sl22 rfl) rfl rfl (RE (xa5 (i) ti140 (zg8 (by omega)) (by omega)) qA ⟨jc8 hn (zbq q) hκ hj',trivial⟩ trivial ?_);refine A2 ?_;refine R2 (x4 (xp0 j i (by omega) (by omega)) fi86 rfl) rfl rfl (R1 (xa8 zgi (isS zgo) cutLb) rfl (R2 ze8 rfl rfl ?_));refine A5 ?_;refine Rg rfl rfl (zag sl95 rfl) rfl qB (RGon rfl rfl (xa5 (j) ti22 (xf4 hj') (by omega)) rfl qA ⟨yo3 hκ,trivial⟩ trivial (Rg rfl rfl qb6 rfl qA ?_));refine A2 ?_;refine RGcaseD (t:=111) rfl (fun h7=> ?_) (fun h7=> ?_)
     ·
      refine A2 ?_;refine Rg (zbf h7) rfl (zag sl95 rfl) rfl qB (RGon (zbf h7) rfl (xa5 (j) ti22 (xf4 hj') (by omega)) rfl qA ⟨yo3 hκ,trivial⟩ trivial ?_);refine A1 ?_;refine Rg (zbf h7) rfl (zag sl22 rfl) rfl qB (RGon (zbf h7) rfl (xa5 (i) ti140 (zg8 (by omega)) (by omega)) rfl qA ⟨hls,trivial⟩ trivial ?_);refine A2 ?_;refine Rg (zbf h7) rfl (x4 (xp0 j i (by omega) (by omega)) fi86 rfl) rfl qB (Rg (zbf h7) rfl (xa8 zgi (isS zgo) cutLb) rfl qA (Rg (zbf h7) rfl ze8 rfl qB ?_));refine A1 ?_;refine Rg rfl rfl (xc6 (zbf h7)) rfl qB (R2 (xc4 rfl) rfl rfl ?_);refine A1 ?_;refine xi8 rfl rfl ?_;refine A8 ?_;exact xf5 (i+1) ⟨by omega,by omega⟩ (Sub.int rfl (by omega) (zan rfl (zan rfl (zan rfl zay)))) SubK.refl (zaj (zaj (zak rfl (zak rfl zar)))) (xs2 hκ hn (by omega) (by omega)) (lkP (by omega))
     ·
      refine RGoff (zbg h7) rfl rfl (RGoff (zbg h7) rfl rfl (RGoff (zbg h7) rfl rfl (RGoff (zbg h7) rfl rfl (RGoff (zbg h7) rfl rfl (RGoff (zbg h7) rfl rfl (RGoff (zbg h7) rfl rfl (RGoff (zbg h7) rfl rfl (RGoff (zbg h7) rfl rfl (RGoff (zbg h7) rfl rfl (RGoff (zbg h7) rfl rfl (RGoff (zbg h7) rfl rfl (RGoff (zbg h7) rfl rfl (Rg rfl rfl (xc4 (zbg h7)) rfl qB (R2 (xc4 rfl) rfl rfl ?_))))))))))))));refine A1 ?_;refine xi8 rfl rfl ?_;refine A8 ?_;exact xf5 (i+1) ⟨by omega,by omega⟩ (Sub.int rfl (by omega) (zan rfl (zan rfl (zan rfl zay)))) SubK.refl (zaj (zaj (zak rfl (zak rfl zar)))) (xs2 hκ hn (by omega) (by omega)) (lkP (by omega))
    ·
     refine A11 ?_;exact xf5 (j+1) ⟨by omega,by omega⟩ (Sub.int rfl (by omega) (zan rfl (zan rfl zay))) SubK.refl (zaj (zak rfl (zak rfl zar))) (xs2 hκ hn (by omega) (by omega)) (lkP (by omega))
   ·
    clear h5 hj;refine A12 ?_;refine xv3 (ι:=Nat×(Nat->Nat)) (fun x=>x.1<=q/\ ∀j,j < x.1->okM q j (x.2 j)) (fun x=>uV (uO (uO uN 0 (.sl 20 1 0 q)) 5 (.sl 21 1 0 q)) 11 (tI x.1)) (fun x=>hRL q L κ x.2 x.1) (fun x=>alP true (2000+64*q+x.1)) (fun x=>q - x.1) (0,fun _=>0) ⟨zbt _,fun j h=>by cases h⟩ (Sub.int rfl rfl (zan rfl (zan rfl zay))) (hR_0L hn hκ) (zaj (zak rfl (zak rfl zar))) (xs3 hκ (fun j h=>by cases h) hn (zbt _) (by omega)) (lkP (by omega)) ?_;rintro ⟨j,κ2⟩ ⟨hj,hκ2⟩;replace hj:j<=q:=hj;replace hκ2: ∀i,i < j->okM q i (κ2 i):=hκ2;show wc _ _ _ _ (uV (uO (uO uN 0 (.sl 20 1 0 q)) 5 (.sl 21 1 0 q)) 11 (tI j)) (hRL q L κ κ2 j) (alP true (2000+64*q+j));refine A9 ?_;refine x9 rfl (fun h5=> ?_) (fun h5=> ?_)
    ·
     have hj':j < q:=by omega
     have hLj:=hL j;refine A6 ?_;refine RE (xi0 (k:=22) (t:=tLb 0) (ts:=rV tLb (fSL (j+q) 0)) 64 64 zgf el140 (fun F w=>rfl) rfl rfl rfl (zbq _) (by decide) (by decide) fS_0L) qB trivial ⟨jm7,trivial⟩ ?_;refine A10 ?_;refine xh8 (fun i:Nat=>i<=64) (fun i=>uV (uO (uV (uO (uO uN 0 (.sl 20 1 0 q)) 5 (.sl 21 1 0 q)) 11 (tI j)) 12 (.sl 22 1 0 64)) 13 (tI i)) (fun i=>upd (hRL q L κ κ2 j) 22 (some (rSL (fSL (j+q) i)))) (alM (2000+64*q+j)) (fun i=>64 - i) 0 (zbt _) (Sub.int rfl rfl (zan rfl (zan rfl (zan rfl (zan rfl zay))))) SubK.refl (zaj (zak rfl (zaj (zak rfl (zak rfl zar))))) (qa1 (xs3 hκ hκ2 hn (by omega) (by omega))) (ze9 (lkP (by omega))) ?_;intro i hi;refine A6 ?_;refine x9 rfl (fun h6=> ?_) (fun h6=> ?_)
     ·
      refine A12 ?_;refine R2 (x4 (xp0 (j+q) i (by omega) (by omega)) fi86 rfl) rfl rfl (R1 (xa8 zgi (isS zgo) cutLb) rfl (R2 (zag sl22 rfl) rfl rfl (RE (xc1 (e:= .val (tLb (mLb (j+q) i))) (i) ti140 (xi5 (f:=tLb) (xs:=fSL (j+q) i) (by rw [xp8];omega)) (by omega) (xf0 (f:=tLb) (m:=mLb (j+q) i) rfl)) qB ⟨x7 _ _ _,trivial⟩ trivial ?_)));refine A8 ?_;exact xf5 (i+1) ⟨by omega,by omega⟩ (Sub.int rfl (by omega) (zan rfl (zan rfl (zan rfl (zan rfl zay))))) (by rw [<-wf6 (by omega)];exact SubK.twice) (zaj (zak rfl (zaj (zak rfl (zak rfl zar))))) (qa1 (xs3 hκ hκ2 hn (by omega) (by omega))) (ze9 (lkP (by omega)))
     ·
      have hi64:i=64:=by omega
      subst hi64;refine A5 ?_;have hown: ∀r,upd (upd (hRL q L κ κ2 j) 22 r) 22 none (j+100)=some (rSL (mkL mLb j (L j).length)):=fun r=>by
       rw [x3 _ _ _ (by omega),x3 _ _ _ (by omega)];exact we6 hn hκ2 hj'
      have hgs: ∀r v r',100<=v->upd (upd (upd (hRL q L κ κ2 j) 22 r) 22 none) v r' 21=some ⟨22,1,false,gsR q 1 κ2 (fun j=>(L j).length+64) (tKL L κ) j⟩:=fun r v r' hv=>by
       rw [x3 _ _ _ (by omega),x3 _ _ _ (by omega),x3 _ _ _ (by omega)];exact qz8 hκ2
      refine qm8 (t:=12) (k:=22) (f:=tLb) (xs:=fSL (j+q) 64) rfl (x7 _ _ _) (fun b hb=>jv8 hκ2 hj hb) (xe9 xp8) xp8 ?_;refine xi3 ?_;refine yf4 [_,_,_,_,_,_,_] ?_;refine A4 ?_;refine R2 (zag sl95 rfl) rfl rfl (RE (xa5 (j) ti22 (xf4 hj') (by omega)) qA ⟨(x3 _ _ _ (by omega)).trans ((x3 _ _ _ (by omega)).trans (ze3 hκ2)),trivial⟩ trivial ?_);refine A1 ?_;refine zr5 (by kernel_rfl) ?_;refine yq6 (k':=2000+64*q+j) (f:=tLb) (ys:=fSL (j+q) 64) zgf el140 zf140 rfl rfl (fun _=>inferInstance) rfl rfl (hown _) (qo2 (by omega)) (xc0.trans xm1) (by rw [xp8];omega) (by rw [xp8];omega) (by rw [xp8];omega) rfl (fun b=> ?_);have hv':okM q j (cond b (j+100) (2000+64*q+j)):=by cases b;exact .inr rfl;exact .inl rfl
      generalize cond b (j+100) (2000+64*q+j)=v' at hv' ⊢;rw [xp8];have hvb:100<=v'/\v'<=2000+64*q+j:=by rcases hv' with h | h <;> omega
      refine xa9 (zag sl95 rfl) qB trivial trivial rfl (xa9 (xc1 (e:= .own (.sl v' 1 0 ((L j).length+64))) (j) ti22 (by rw [yc0];simpa using hj') (by omega) (yr1 (len:=fun j=>(L j).length+64) (v:=v') hj')) qB ⟨hgs _ _ _ hvb.1,trivial⟩ trivial rfl (xg3 ?_));refine A7 ?_;exact fun _ _ hs=>xt8 (j+1,setN κ2 j v') ⟨⟨by show j+1<=q;omega,yp2 hκ2 hv'⟩,by show q - (j+1) < q - j;omega⟩ (Sub.int rfl rfl (zan rfl (zan rfl zay))) (by exact jr6 hκ2 hvb.1) (zaj (zak rfl (zak rfl zar))) (by exact xs3 hκ (yp2 hκ2 hv') hn (by omega) (by omega)) (lkP (by omega)) hs
    ·
     have hjq:j=q:=by omega
     subst hjq;clear h5 hj;refine A12 ?_;refine xh8 (fun t:Nat=>t<=j) (fun t=>uV (uO (uO uN 0 (.sl 20 1 0 j)) 5 (.sl 21 1 0 j)) 14 (tI t)) (fun _=>hRL j L κ κ2 j) (alP true (2000+64*j+j)) (fun t=>j - t) 0 (zbt _) (Sub.int rfl rfl (zan rfl (zan rfl zay))) SubK.refl (zaj (zak rfl (zak rfl zar))) (xs3 hκ hκ2 hn (by omega) (by omega)) (lkP (by omega)) ?_;intro t ht;refine A9 ?_;refine x9 rfl (fun h5=> ?_) (fun h5=> ?_)
     ·
      have ht':t < j:=by omega
      have hLt:=hL t;obtain ⟨xs,hls,hxs⟩:=hR_lsL (L:=L) (κ:=κ) hn hκ2 ht';refine A9 ?_;refine xi1 ?_;refine xh8 (fun i:Nat=>i<=(L t).length) (fun i=>uV (uV (uO (uO uN 0 (.sl 20 1 0 j)) 5 (.sl 21 1 0 j)) 14 (tI t)) 15 (tI i)) (fun _=>hRL j L κ κ2 j) (alP true (2000+64*j+j)) (fun i=>(L t).length - i) 0 (zbt _) (Sub.int rfl rfl (zan rfl (zan rfl (zan rfl zay)))) SubK.refl (zaj (zaj (zak rfl (zak rfl zar)))) (xs3 hκ hκ2 hn (by omega) (by omega)) (lkP (by omega)) ?_;intro i hi;refine A6 ?_;refine R2 (zag sl95 rfl) rfl rfl (RE (xa5 (t) ti22 (xf4 ht') (by omega)) qA ⟨ze3 hκ2,trivial⟩ trivial ?_);refine A3 ?_;refine x9 rfl (fun h6=> ?_) (fun h6=> ?_)
      ·
       have hi':i < (L t).length:=by omega
       refine A8 ?_;refine R2 (zag sl95 rfl) rfl rfl (RE (xa5 (t) ti22 (xf4 ht') (by omega)) qA ⟨ze3 hκ2,trivial⟩ trivial ?_);refine A1 ?_;refine R2 (zag sl22 rfl) rfl rfl (RE (xa5 (i) ti140 (hxs i hi') (by omega)) qA ⟨hls,trivial⟩ trivial ?_);refine A2 ?_;refine R2 (x4 (xp0 t i (by omega) (by omega)) fi86 rfl) rfl rfl (R1 (xa8 zgi (isS zgo) cutLb) rfl (R2 ze8 rfl rfl ?_));refine A4 ?_;refine Rg rfl rfl (zag sl95 rfl) rfl qB (RGon rfl rfl (xa5 (t) ti22 (yb2 ht' ht') (by omega)) rfl qA ⟨qz8 hκ2,trivial⟩ trivial ?_);refine A1 ?_;refine Rg rfl rfl (zag sl22 rfl) rfl qB (RGon rfl rfl (xa5 (i) ti140 (qi1 hi') (by omega)) rfl qA ⟨jh4 hn hκ2 ht',trivial⟩ trivial ?_);refine A2 ?_;refine Rg rfl rfl (x4 (xp0 t i (by omega) (by omega)) fi86 rfl) rfl qB (Rg rfl rfl (xa8 zgi (isS zgo) cutLb) rfl qA (Rg rfl rfl ze8 rfl qB ?_));refine A1 ?_;refine R2 (xc4 rfl) rfl rfl ?_;refine A1 ?_;refine xi8 rfl rfl ?_;refine A8 ?_;exact xf5 (i+1) ⟨by omega,by omega⟩ (Sub.int rfl (by omega) (zan rfl (zan rfl (zan rfl zay)))) SubK.refl (zaj (zaj (zak rfl (zak rfl zar)))) (xs3 hκ hκ2 hn (by omega) (by omega)) (lkP (by omega))
      ·
       refine A11 ?_;exact xf5 (t+1) ⟨by omega,by omega⟩ (Sub.int rfl (by omega) (zan rfl (zan rfl zay))) SubK.refl (zaj (zak rfl (zak rfl zar))) (xs3 hκ hκ2 hn (by omega) (by omega)) (lkP (by omega))
     ·
      refine A11 ?_;exact xg0 LentC.mk' rfl rfl Imp.refl trivial rfl trivial rfl
structure Ze where
  lo:Int
  hi:Int
  k:Nat
  ns:Bool
  n:Hd
  ds:Bool
  d:Hd
  i:Int
abbrev tZe (z:Ze):Ty:=tS [⟨1,false,tI z.lo⟩,⟨1,false,tI z.hi⟩,⟨6,true,tS [⟨1,false,tE (.int .u8 (z.k:Int))⟩,⟨4,true,tS [⟨2,true,tS [⟨1,false,tB z.ns⟩,⟨1,false,tH z.n⟩]⟩,⟨2,true,tS [⟨1,false,tB z.ds⟩,⟨1,false,tH z.d⟩]⟩]⟩,⟨1,false,tI z.i⟩]⟩]
abbrev hd00:Hd:=⟨none,0,0⟩
def mZe (k i:Nat):Ze:=⟨1000003*((k:Int)+7)+(i:Int),0,0,false,hd00,false,hd00,0⟩
def ze0:Ze:=⟨0,0,0,false,hd00,false,hd00,0⟩
theorem je5 {k i:Nat}:Le (tZe (mZe k i)) (tTs ⟨1000003*((k:Int)+7)+(i:Int),0,⟨0,fr0,0⟩⟩):=Le.tS ⟨⟨rfl,rfl,zao⟩,⟨rfl,rfl,zao⟩,⟨rfl,rfl,Le.tS ⟨⟨rfl,rfl,zao⟩,⟨rfl,rfl,Le.tS ⟨⟨rfl,rfl,Le.tS ⟨⟨rfl,rfl,zao⟩,⟨rfl,rfl,leNil rfl⟩,trivial⟩⟩,⟨rfl,rfl,Le.tS ⟨⟨rfl,rfl,zao⟩,⟨rfl,rfl,leNil rfl⟩,trivial⟩⟩,trivial⟩⟩,⟨rfl,rfl,zao⟩,trivial⟩⟩,trivial⟩
theorem jh1 {F:Dom} {w:World}:(tZe ze0).p F w (.agg #[.int .i64 0,.int .i64 0,.int .u8 0,.bool false,.slice none 0 0,.bool false,.slice none 0 0,.int .i64 0]):=
 ⟨_,rfl,rfl,⟨fun _=>rfl,rfl⟩,⟨fun _=>rfl,rfl⟩,⟨(fun h=>by cases h),⟨_,rfl,rfl,⟨fun _=>rfl,rfl⟩,⟨(fun h=>by cases h),⟨_,rfl,rfl,⟨(fun h=>by cases h),⟨_,rfl,rfl,⟨fun _=>rfl,rfl⟩,⟨fun _=>rfl,rfl⟩,trivial⟩⟩,⟨(fun h=>by cases h),⟨_,rfl,rfl,⟨fun _=>rfl,rfl⟩,⟨fun _=>rfl,rfl⟩,trivial⟩⟩,trivial⟩⟩,⟨fun _=>rfl,rfl⟩,trivial⟩⟩,trivial⟩
abbrev fdZ (lo:Int):List Fd:=[⟨1,false,tI lo⟩,⟨1,false,tI 0⟩,⟨6,true,tS [⟨1,false,tE (.int .u8 0)⟩,⟨4,true,tS [⟨2,true,tS [⟨1,false,tB false⟩,⟨1,false,tH hd00⟩]⟩,⟨2,true,tS [⟨1,false,tB false⟩,⟨1,false,tH hd00⟩]⟩]⟩,⟨1,false,tI 0⟩]⟩]
theorem fdZ_mk {F:Dom} {w:World}:(tS (fdZ 0)).p F w (.agg #[.int .i64 0,.int .i64 0,.int .u8 0,.bool false,.slice none 0 0,.bool false,.slice none 0 0,.int .i64 0]):=jh1
theorem xw4 (k i:Nat):Ct Tryz.prog 61 [tZe (mZe k i),tZe (mZe k i)] (tB true):=by
 have h:=za2 ⟨1000003*((k:Int)+7)+(i:Int),0,⟨0,fr0,0⟩⟩ ⟨1000003*((k:Int)+7)+(i:Int),0,⟨0,fr0,0⟩⟩;rw [zbf rfl] at h;have hl:LeL [tZe (mZe k i),tZe (mZe k i)] [tTs ⟨1000003*((k:Int)+7)+(i:Int),0,⟨0,fr0,0⟩⟩,tTs ⟨1000003*((k:Int)+7)+(i:Int),0,⟨0,fr0,0⟩⟩]:=⟨je5,je5,trivial⟩
 exact fun F w vs hv=>h F w vs (hl.all hv)
theorem xk7 (k i:Nat) (hk:k < 2000) (hi:i < 10000000):
  Ct Tryz.prog 149 [tI k,tI i] (tZe (mZe k i)):=by
 refine Ct.intro func149 rfl ntmps149 rfl ?_;intro w F;refine A2 ?_;refine RE (xb8 (k:=4) (n:=8) (agg:=true) zr55.1 zr55.2 rfl) trivial trivial qA ?_;refine A6 ?_;refine R2 (x4 (xp0 k i hk hi) fi86 rfl) rfl rfl (R1 (ys5 (r:=tS (fdZ (1000003*((k:Int)+7)+(i:Int)))) (ts:=[(0,tI (1000003*((k:Int)+7)+(i:Int)))]) bu55 (fun _ _=>fdZ_mk) ⟨_,rfl⟩ rfl ⟨_,_,_,_,rfl,Up.f (fs:=fdZ 0) (f:=⟨1,false,tI 0⟩) (fs':=fdZ (1000003*((k:Int)+7)+(i:Int))) 0 rfl rfl rfl,inferInstance,zao⟩) rfl ?_);refine A4 ?_;exact EC rfl ⟨_,_,_,_,_,rfl,rfl,ti55,(Le.of rfl)⟩
theorem qg1 {n T es:Nat} {len:Nat->Nat} {R:Nat->HEnt} (hRT: ∀k,k < n->(R k).supp=[]):SupHs ((20,⟨T,1,false,owns n es len⟩)::poolL n R) (poolN n):=yw6 fun x hx=>by
 rcases zbr.1 hx with rfl | hx
 ·exact ⟨rfl,fun k hk=>by obtain ⟨j,hj,rfl⟩:=yn8 hk;simp only [poolN,zbr,zci,zcx];exact .inr ⟨j,hj,rfl⟩⟩
 ·obtain ⟨j,hj,h1,h2⟩:=xs6 (k:=x.1) (x:=x.2) hx;refine ⟨xb2.2 ?_,fun k hk=> ?_⟩
  ·rw [h1];simp only [poolN,zbr,zci,zcx];exact .inr ⟨j,hj,rfl⟩
  ·have:=hRT j hj;rw [h2] at hk;rw [HEnt.supp] at this;rw [this] at hk;cases hk
abbrev rST (xs:List Ze):HEnt:=⟨55,8,true,rV tZe xs⟩
abbrev hPT (n:Nat) (L M:Nat->List Ze):Keys:=upd (poolK n fun j=>rST (M j)) 20 (some ⟨38,1,false,owns n 8 fun j=>(L j).length⟩)
theorem xv0 {xs:List Ze}:(rST xs).supp=[]:=List.eq_nil_iff_forall_not_mem.2 fun _ hk=>qn1 hk
theorem yb9 {n k:Nat} {L M:Nat->List Ze} (h:k < n):hPT n L M (k+100)=some (rST (M k)):=by
 rw [hPT,x3 _ _ _ (by omega)];exact xt2 h
theorem jw8 {n k:Nat} {L M M':Nat->List Ze} (h1: ∀j,j≠k->M' j=M j):SubK (hPT n L M') (upd (hPT n L M) (k+100) (some (rST (M' k)))):=fun q x hx=>by
 by_cases hq:q=k+100
 ·subst hq;rw [hPT,x3 _ _ _ (by omega)] at hx;obtain ⟨j,_,h2,rfl⟩:=xj6 hx;have:j=k:=by omega
  subst this;exact ⟨_,x7 _ _ _,rfl,.refl⟩
 ·rw [x3 _ _ _ hq];by_cases hq2:q=20
  ·subst hq2;rw [hPT,x7] at hx ⊢;exact ⟨_,rfl,by cases hx;rfl,by cases hx;exact .refl⟩
  ·rw [hPT,x3 _ _ _ hq2] at hx ⊢;obtain ⟨j,h1',rfl,rfl⟩:=xj6 hx;refine ⟨_,xt2 h1',rfl,?_⟩;rw [h1 j (by omega)];exact .refl
theorem hP_eqT {n:Nat} {L M M':Nat->List Ze} (h: ∀j,j < n->M' j=M j):SubK (hPT n L M') (hPT n L M):=fun q x hx=>by
 by_cases hq2:q=20
 ·subst hq2;rw [hPT,x7] at hx ⊢;exact ⟨_,rfl,by cases hx;rfl,by cases hx;exact .refl⟩
 ·rw [hPT,x3 _ _ _ hq2] at hx ⊢;obtain ⟨j,h1',rfl,rfl⟩:=xj6 hx;exact ⟨_,xt2 h1',rfl,by rw [h j h1'];exact .refl⟩
theorem yc5 {b:Bool} {n m:Nat} {L M:Nat->List Ze} (h:n+100<=m):SupH (hPT n L M) (alP b m):=supP h fun _ _=>xv0
abbrev tN0T:Nat->Ent:=fun _=> .val (tL 8 true tZe ([]:List Ze))
abbrev hBT (n:Nat) (L:Nat->List Ze) (κ:Nat->Nat) (k:Nat):Keys:=upd (hPT n L (cM L mZe ze0 n 0)) 21 (some ⟨38,1,false,gsR n 8 κ (fun j=>(L j).length+64) tN0T k⟩)
abbrev hQT (n:Nat) (L:Nat->List Ze) (κ:Nat->Nat) (k:Nat):Keys:=pileK κ (fun j=>rST (mkL mZe j ((L j).length+64))) k (hBT n L κ k)
section
variable {n k:Nat} {L:Nat->List Ze} {κ:Nat->Nat}
theorem yo7 (hκ: ∀j,j < k->okN j (κ j)):hQT n L κ k 20=some ⟨38,1,false,owns n 8 fun j=>(L j).length⟩:=by
 rw [hQT,xd8 fun j hj=>by rcases hκ j hj with h | h <;> omega];rfl
theorem zb9 (hκ: ∀j,j < k->okN j (κ j)):hQT n L κ k 21=some ⟨38,1,false,gsR n 8 κ (fun j=>(L j).length+64) tN0T k⟩:=by
 rw [hQT,xd8 fun j hj=>by rcases hκ j hj with h | h <;> omega];exact x7 _ _ _
theorem qm0 (hn:n<=900) (hκ: ∀j,j < k->okN j (κ j)) (hk:k < n):hQT n L κ k (k+100)=some (rST (mkL mZe k (L k).length)):=by
 rw [hQT,xd8 fun j hj=>okN.ne (.inl rfl) (hκ j hj) (by omega) (by omega) (by omega),hBT,x3 _ _ _ (by omega),yb9 hk,zf0 hk]
theorem wf2 (hκ: ∀j,j < k->okN j (κ j)) (hn:n<=900) {q:Nat} (h:2000+64*k<=q):hQT n L κ k q=none:=by
 rw [hQT,xd8 fun j hj=>by rcases hκ j hj with h | h <;> omega,hBT,x3 _ _ _ (by omega),hPT,x3 _ _ _ (by omega)];exact yk2 fun j hj=>by omega
theorem xs9 {m:Nat} (hκ: ∀j,j < k->okN j (κ j)) (hn:n<=900) (hk:k<=n) (hm:2000+64*k<=m):SupH (hQT n L κ k) (alP true m):=fun q x hx=>by
 have hin: ∀j,j < k->alP true m (κ j)=true:=fun j hj=>xj3 ((hκ j hj).lt (m:=m) (by omega) (by omega)).1 ((hκ j hj).lt (by omega) (by omega)).2;rcases ye9 hx with ⟨j,hj,rfl,rfl⟩ | hx
 ·exact ⟨hin j hj,fun i hi=>by rw [xv0] at hi;cases hi⟩
 ·by_cases hq:q=21
  ·subst hq;rw [hBT,x7] at hx;cases hx;refine ⟨rfl,fun i hi=> ?_⟩;rcases yh6 hi with ⟨j,_,hj,rfl⟩ | ⟨j,_,hj⟩
   ·exact hin j hj
   ·cases hj
  ·rw [hBT,x3 _ _ _ hq] at hx;exact yc5 (by omega) q x hx
theorem qn4 {m v:Nat} {r:List Ze} (hκ: ∀j,j < k->okN j (κ j)) (hn:n<=900) (hk:k<=n) (hm:2000+64*k<=m) (hv:100<=v/\v < m):SupH (upd (hQT n L κ k) v (some (rST r))) (alP true m):=fun q x hx=>by
 by_cases hq:q=v
 ·subst hq;rw [x7] at hx;cases hx;exact ⟨xj3 hv.1 hv.2,fun i hi=>by rw [xv0] at hi;cases hi⟩
 ·rw [x3 _ _ _ hq] at hx;exact xs9 hκ hn hk hm q x hx
theorem jr3 {v:Nat} (hκ: ∀j,j < k->okN j (κ j)) (hv:100<=v):SubK (hQT n L (setN κ k v) (k+1)) (upd (upd (hQT n L κ k) v (some (rST (mkL mZe k ((L k).length+64))))) 21 (some ⟨38,1,false,gsR n 8 (setN κ k v) (fun j=>(L j).length+64) tN0T (k+1)⟩)):= .eq fun t x hx=>by
 rw [hQT,pileK,xt4,xu2 (κ:=κ) fun j hj=>xn0 (by omega)] at hx;by_cases ht:t=21
 ·subst ht;rw [x3 _ _ _ (by omega),xd8 fun j hj=>by rcases hκ j hj with h | h <;> omega,hBT,x7] at hx;rw [x7];exact hx
 ·rw [x3 _ _ _ ht];by_cases htv:t=v
  ·subst htv;rw [x7] at hx ⊢;exact hx
  ·rw [x3 _ _ _ htv] at hx ⊢;rw [xz3 (h:=hBT n L κ k) (by rw [hBT,hBT,x3 _ _ _ ht,x3 _ _ _ ht])] at hx;exact hx
theorem jc6 {j:Nat} (hn:n<=900) (hk:k<=n) (hκ: ∀j,j < k->okN j (κ j)) (hj:j < k):hQT n L κ k (κ j)=some (rST (mkL mZe j ((L j).length+64))):=
 yd1 (fun i hi hij=>okN.ne (hκ j hj) (hκ i hi) (by omega) (by omega) (Ne.symm hij)) hj
theorem jc7 {j:Nat} (hn:n<=900) (hk:k<=n) (hκ: ∀j,j < k->okN j (κ j)) (hj:j < k): ∃m,(L j).length<=m/\hQT n L κ k (j+100)=some (rST (mkL mZe j m)):=by
 rcases hκ j hj with h | h
 ·exact ⟨(L j).length+64,by omega,by rw [<-h];exact jc6 hn hk hκ hj⟩
 ·refine ⟨(L j).length,zbq _,?_⟩;rw [hQT,xd8 fun i hi=>by
   by_cases hij:i=j
   ·subst hij;omega
   ·exact okN.ne (.inl rfl) (hκ i hi) (by omega) (by omega) (Ne.symm hij),hBT,x3 _ _ _ (by omega),yb9 (by omega),zf0 (by omega)]
theorem zh3 {i m j:Nat} (h:i < m):(rV tZe (mkL mZe j m))[i]? =some (.val (tZe (mZe j i))):=by
 rw [rV,zbs,yb8 h];rfl
theorem qq7 {j i i':Nat} (h:i'<=i):ImpK (rST (mkL mZe j i)) (rST (mkL mZe j i')):= .ts (by rw [xc0,xc0,xm1,xm1];exact h) fun t e he=>⟨e,by
 simp only [rV,zbs] at he ⊢;obtain ⟨x,hx,rfl⟩:=zdd.1 he;rw [qn8 h t x hx];rfl,.refl⟩
abbrev tKT (L:Nat->List Ze) (κ:Nat->Nat):Nat->Ent:=fun j=> .own (.sl (κ j) 8 0 ((L j).length+64))
abbrev rMT (n:Nat) (L:Nat->List Ze) (j:Nat):HEnt:=rST (mkL mZe j (L j).length++mkL mZe (j+n) 64)
abbrev hCT (n:Nat) (L:Nat->List Ze) (κ κ2:Nat->Nat) (k:Nat):Keys:=upd (hPT n L (fun j=>mkL mZe j (L j).length)) 21 (some ⟨38,1,false,gsR n 8 κ2 (fun j=>(L j).length+64) (tKT L κ) k⟩)
abbrev hRT (n:Nat) (L:Nat->List Ze) (κ κ2:Nat->Nat) (k:Nat):Keys:=pileK κ2 (rMT n L) k (hCT n L κ κ2 k)
variable {κ2:Nat->Nat}
theorem zc9 (hκ: ∀j,j < k->okM n j (κ2 j)):hRT n L κ κ2 k 20=some ⟨38,1,false,owns n 8 fun j=>(L j).length⟩:=by
 rw [hRT,xd8 fun j hj=>by rcases hκ j hj with h | h <;> omega];rfl
theorem jb8 (hκ: ∀j,j < k->okM n j (κ2 j)):hRT n L κ κ2 k 21=some ⟨38,1,false,gsR n 8 κ2 (fun j=>(L j).length+64) (tKT L κ) k⟩:=by
 rw [hRT,xd8 fun j hj=>by rcases hκ j hj with h | h <;> omega];exact x7 _ _ _
theorem jz5 (hn:n<=900) (hκ: ∀j,j < k->okM n j (κ2 j)) (hk:k < n):hRT n L κ κ2 k (k+100)=some (rST (mkL mZe k (L k).length)):=by
 rw [hRT,xd8 fun j hj=>okM.ne (.inl rfl) (hκ j hj) (by omega) (by omega) (by omega),hCT,x3 _ _ _ (by omega),yb9 hk]
theorem xs5 {m:Nat} (hκ0: ∀j,j < n->okN j (κ j)) (hκ: ∀j,j < k->okM n j (κ2 j)) (hn:n<=900) (hk:k<=n) (hm:2000+64*n+k<=m):SupH (hRT n L κ κ2 k) (alP true m):=fun q x hx=>by
 have hin: ∀j,j < k->alP true m (κ2 j)=true:=fun j hj=>by rcases hκ j hj with h | h <;> exact xj3 (by omega) (by omega)
 rcases ye9 hx with ⟨j,hj,rfl,rfl⟩ | hx
 ·exact ⟨hin j hj,fun i hi=>by rw [xv0] at hi;cases hi⟩
 ·by_cases hq:q=21
  ·subst hq;rw [hCT,x7] at hx;cases hx;refine ⟨rfl,fun i hi=> ?_⟩;rcases yh6 hi with ⟨j,_,hj,rfl⟩ | ⟨j,hjn,hj⟩
   ·exact hin j hj
   ·simp only [Ent.supp,VP.supp,zbj] at hj;subst hj;exact xj3 ((hκ0 j hjn).lt (m:=m) (by omega) (by omega)).1 ((hκ0 j hjn).lt (by omega) (by omega)).2
  ·rw [hCT,x3 _ _ _ hq] at hx;exact yc5 (by omega) q x hx
theorem hR_0T {κ3:Nat->Nat} (hn:n<=900) (hκ: ∀j,j < n->okN j (κ j)):SubK (hRT n L κ κ3 0) (hQT n L κ n):=fun q x hx=>by
 by_cases hq:q=21
 ·subst hq;have hx:hCT n L κ κ3 0 21=some x:=hx;rw [hCT,x7] at hx;cases hx;refine ⟨_,zb9 hκ,rfl,?_⟩;rw [show gsR n 8 κ (fun j=>(L j).length+64) tN0T n=gsR n 8 κ3 (fun j=>(L j).length+64) (tKT L κ) 0 from by
   apply zfw;intro j hj;rw [zcx] at hj;simp [hj]]
  exact .refl
 ·have hx:hCT n L κ κ3 0 q=some x:=hx;rw [hCT,x3 _ _ _ hq] at hx;by_cases hq2:q=20
  ·subst hq2;rw [hPT,x7] at hx;cases hx;exact ⟨_,yo7 hκ,rfl,.refl⟩
  ·rw [hPT,x3 _ _ _ hq2] at hx;obtain ⟨j,hj,rfl,rfl⟩:=xj6 hx;obtain ⟨m,hm,e⟩:=jc7 (L:=L) hn (zbq n) hκ hj;exact ⟨_,e,rfl,qq7 hm⟩
def fST (j i:Nat):List Ze:=(List.range 64).map fun t=>if t < i then mZe j t else ze0
theorem xp6 {j i:Nat}:(fST j i).length=64:=by simp [fST]
theorem fS_0T {j:Nat}:List.replicate 64 (Ent.val (tZe ze0))=rV tZe (fST j 0):=by
 rw [yd0 64 ze0 rfl];congr 1
theorem jw7 {j i:Nat} (hi:i < 64):(fST j i).set i (mZe j i)=fST j (i+1):=by
 apply zfc;intro t;rw [zfk];rcases zcb t 64 with h | h
 ·simp only [fST,zbs,zet h,zch,List.length_range,zdm];by_cases hit:i=t
  ·subst hit;simp [h]
  ·rw [if_neg hit];by_cases h1:t < i
   ·simp [h1,show t < i+1 by omega]
   ·simp [h1,show ¬t < i+1 by omega]
 ·rw [if_neg (by omega),zcv (by rw [xp6];exact h),zcv (by rw [xp6];exact h)]
theorem fS_64T {j:Nat}:fST j 64=mkL mZe j 64:=zfw fun _ ht=>if_pos (zcx.1 ht)
theorem q7 {m:Nat} {h:Keys} {r:List Ze} (hs:SupH h (alP true m)):SupH (upd h 22 (some (rST r))) (alM m):=fun q x hx=>by
 by_cases hq:q=22
 ·subst hq;rw [x7] at hx;cases hx;exact ⟨rfl,fun i hi=>by rw [xv0] at hi;cases hi⟩
 ·rw [x3 _ _ _ hq] at hx;exact ⟨yf7 (hs q x hx).1,fun i hi=>yf7 ((hs q x hx).2 i hi)⟩
theorem rM_eqT {j:Nat}:(⟨55,8,true,rV tZe (mkL mZe j (L j).length)++(fST (j+n) 64).map (fun y=>Ent.val (tZe y))⟩:HEnt)=rMT n L j:=by
 rw [rMT,rST,<-fS_64T];simp [rV]
theorem jp8 {v:Nat} {r:HEnt} (hκ: ∀j,j < k->okM n j (κ2 j)) (hv:100<=v):SubK (hRT n L κ (setN κ2 k v) (k+1)) (upd (upd (upd (upd (hRT n L κ κ2 k) 22 (some r)) 22 none) v (some ⟨55,8,true,rV tZe (mkL mZe k (L k).length)++(fST (k+n) 64).map (fun y=>Ent.val (tZe y))⟩)) 21 (some ⟨38,1,false,gsR n 8 (setN κ2 k v) (fun j=>(L j).length+64) (tKT L κ) (k+1)⟩)):= .eq fun t x hx=>by
 rw [rM_eqT];rw [hRT,pileK,xt4,xu2 (κ:=κ2) fun j hj=>xn0 (by omega)] at hx;by_cases ht:t=21
 ·subst ht;rw [x3 _ _ _ (by omega),xd8 fun j hj=>by rcases hκ j hj with h | h <;> omega,hCT,x7] at hx;rw [x7];exact hx
 ·rw [x3 _ _ _ ht];by_cases htv:t=v
  ·subst htv;rw [x7] at hx ⊢;exact hx
  ·rw [x3 _ _ _ htv] at hx ⊢;rw [xz3 (h:=hCT n L κ κ2 k) (by rw [hCT,hCT,x3 _ _ _ ht,x3 _ _ _ ht])] at hx;by_cases h22:t=22
   ·subst h22;rw [xd8 fun j hj=>by rcases hκ j hj with h | h <;> omega,hCT,x3 _ _ _ (by omega),hPT,x3 _ _ _ (by omega),yk2 fun j _=>by omega] at hx;cases hx
   ·rw [x3 _ _ _ h22,x3 _ _ _ h22];exact hx
theorem jn7 {j:Nat} (_hκ: ∀j,j < k->okM n j (κ2 j)) (hj:j < n): ∃y,hRT n L κ κ2 k (j+100)=some y:=by
 have key: ∀i,∃y,pileK κ2 (rMT n L) i (hCT n L κ κ2 k) (j+100)=some y:=fun i=>by
  induction i with
  | zero=>exact ⟨_,by show hCT n L κ κ2 k (j+100)=_;rw [hCT,x3 _ _ _ (by omega)];exact yb9 hj⟩
  | succ i ih=>
   by_cases h:j+100=κ2 i
   ·exact ⟨_,by rw [pileK,h];exact x7 _ _ _⟩
   ·obtain ⟨y,hy⟩:=ih;exact ⟨y,by rw [pileK,x3 _ _ _ h];exact hy⟩
 exact key k
theorem ju9 {N:Nat} {w:World} {F:Dom} {η:Env} {R:Nat->HEnt} {X:HEnt} {r:Option HEnt} {b:Nat} (hκ: ∀j,j < k->okM n j (κ2 j)) (_hk:k<=n) (hb:(Base.lent N w F η (poolN n) ((20,X)::poolL n R)).lb b):
  ∃j y,j∈poolN n/\j≠22/\upd (hRT n L κ κ2 k) 22 r j=some y/\0 < η.c j/\b=η.b j:=by
 obtain ⟨x,hx,hc,e⟩:=hb;rcases zbr.1 hx with rfl | hx
 ·exact ⟨20,_,by simp [poolN],by omega,(x3 _ _ _ (by omega)).trans (zc9 hκ),hc,e⟩
 ·obtain ⟨j,hj,h1,_⟩:=xs6 (k:=x.1) (x:=x.2) hx;obtain ⟨y,hy⟩:=jn7 (L:=L) (κ:=κ) hκ hj;refine ⟨j+100,y,by simp only [poolN,zbr,zci,zcx];exact .inr ⟨j,hj,rfl⟩,by omega,(x3 _ _ _ (by omega)).trans hy,by rw [<-h1];exact hc,by rw [<-h1];exact e⟩
theorem jc1 {j:Nat} (hn:n<=900) (hκ: ∀j,j < n->okM n j (κ2 j)) (hj:j < n):hRT n L κ κ2 n (κ2 j)=some (rMT n L j):=
 yd1 (fun i hi hij=>okM.ne (hκ j hj) (hκ i hi) (by omega) (by omega) (Ne.symm hij)) hj
theorem qq1 {i j:Nat} (h:i < (L j).length):(rV tZe (mkL mZe j (L j).length++mkL mZe (j+n) 64))[i]? =some (.val (tZe (mZe j i))):=by
 rw [rV,zbs,zct (by rw [xm1];exact h),yb8 h];rfl
theorem hR_lsT {j:Nat} (hn:n<=900) (hκ: ∀j,j < n->okM n j (κ2 j)) (hj:j < n): ∃xs,hRT n L κ κ2 n (j+100)=some (rST xs)/\ ∀i,i < (L j).length->(rV tZe xs)[i]? =some (.val (tZe (mZe j i))):=by
 rcases hκ j hj with h | h
 ·exact ⟨_,(congrArg (hRT n L κ κ2 n) h.symm).trans (jc1 hn hκ hj),fun i hi=>qq1 hi⟩
 ·refine ⟨mkL mZe j (L j).length,?_,fun i hi=>zh3 hi⟩;rw [hRT,xd8 fun i hi=>by
   by_cases hij:i=j
   ·subst hij;omega
   ·exact okM.ne (.inl rfl) (hκ i hi) (by omega) (by omega) (Ne.symm hij),hCT,x3 _ _ _ (by omega),yb9 hj]
theorem wd7 {i:Nat} {j:Nat}:(⟨55,8,true,rV tZe (mkL mZe j i)++[mZe j i].map (fun y=>Ent.val (tZe y))⟩:HEnt)=rST (mkL mZe j (i+1)):=by
 rw [rST,<-zs0];simp [rV]
end
theorem zt7 (n:Nat) (L:Nat->List Ze) (hn:n<=900) (hL: ∀j,(L j).length<=1000000):
  CtG Tryz.prog 100 ((20,⟨38,1,false,owns n 8 fun j=>(L j).length⟩)::poolL n fun j=>rST (L j)) [.own (.sl 20 1 0 n)] (.val (tB true)) [] []:=by
 refine CtG.intro (poolN n) func100 rfl ntmps100 rfl rfl (qg1 fun _ _=>xv0) ?_;intro w F η;refine A12 ?_;refine xh8 (fun k:Nat=>k<=n) (fun k=>uV (uO uN 0 (.sl 20 1 0 n)) 3 (tI k)) (fun k=>hPT n L (cM L mZe ze0 k 0)) (alP false (100+n)) (fun k=>n - k) 0 (zbt _) (Sub.int rfl rfl (zan rfl zay)) (by show SubK (hPT n L (cM L mZe ze0 0 0)) _;rw [show cM L mZe ze0 0 0=L from funext fun j=>cM_0];exact yt3) (zaj (zak rfl zar)) (yc5 (by omega)) (lkP (by omega)) ?_;intro k hk;refine A9 ?_;refine x9 rfl (fun h1=> ?_) (fun h1=> ?_)
 ·
  have hk':k < n:=by omega
  refine A9 ?_;refine xi1 ?_;refine xh8 (fun i:Nat=>i<=(L k).length) (fun i=>uV (uV (uO uN 0 (.sl 20 1 0 n)) 3 (tI k)) 4 (tI i)) (fun i=>hPT n L (cM L mZe ze0 k i)) (alP false (100+n)) (fun i=>(L k).length - i) 0 (zbt _) (Sub.int rfl rfl (zan rfl (zan rfl zay))) SubK.refl (zaj (zaj (zak rfl zar))) (yc5 (by omega)) (lkP (by omega)) ?_;intro i hi;have hLk:=hL k;refine A6 ?_;refine R2 (zag sl56 rfl) rfl rfl (RE (xa5 (k) ti38 (xf4 hk') (by omega)) qA qA trivial ?_);refine A3 ?_;refine x9 rfl (fun h2=> ?_) (fun h2=> ?_)
  ·
   refine A7 ?_;refine R2 (zag sl56 rfl) rfl rfl (RE (xa5 (k) ti38 (xf4 hk') (by omega)) qA qA trivial ?_);refine A3 ?_;refine R2 (x4 (xk7 k i (by omega) (by omega)) fi149 rfl) rfl rfl (R2 (zag sl38 rfl) rfl rfl (RE (xc1 (e:= .val (tZe (mZe k i))) (i) ti55 (xi5 (f:=tZe) (xs:=cM L mZe ze0 k i k) (by rw [zc7];omega)) (by omega) (xf0 (f:=tZe) (m:=mZe k i) rfl)) qB ⟨yb9 (L:=L) hk',trivial⟩ trivial ?_));refine A8 ?_;exact xf5 (i+1) ⟨by omega,by omega⟩ (Sub.int rfl (by omega) (zan rfl (zan rfl zay))) (by rw [jb3 (by omega)];exact jw8 fun j hj=>ja5 hj) (zaj (zaj (zak rfl zar))) (yc5 (by omega)) (lkP (by omega))
  ·
   refine A11 ?_;have hil:i=(L k).length:=by omega
   subst hil;exact xf5 (k+1) ⟨by omega,by omega⟩ (Sub.int rfl (by omega) (zan rfl zay)) (hP_eqT fun j _=>qp3) (zaj (zak rfl zar)) (yc5 (by omega)) (lkP (by omega))
 ·
  have hkn:k=n:=by omega
  subst hkn;refine A9 ?_;refine RE (xi0 (k:=21) (t:=tL 8 true tZe ([]:List Ze)) (ts:=gsR k 8 (fun _=>0) (fun j=>(L j).length+64) tN0T 0) k k zgr el38 (fun _ _=>⟨none,0,rfl,zbq _,by decide,.inl rfl⟩) rfl (by omega) (by omega) (zbq _) (by omega) (by omega) qj9) qB trivial qA ?_;refine A10 ?_;refine xv3 (ι:=Nat×(Nat->Nat)) (fun x=>x.1<=k/\ ∀j,j < x.1->okN j (x.2 j)) (fun x=>uV (uO (uO uN 0 (.sl 20 1 0 k)) 5 (.sl 21 1 0 k)) 6 (tI x.1)) (fun x=>hQT k L x.2 x.1) (fun x=>alP true (2000+64*x.1)) (fun x=>k - x.1) (0,fun _=>0) ⟨zbt _,fun j h=>by cases h⟩ (Sub.int rfl rfl (zan rfl (zan rfl zay))) SubK.refl (zaj (zak rfl (zak rfl zar))) (xs9 (fun j h=>by cases h) hn (zbt _) (by omega)) (lkP (by omega)) ?_;rintro ⟨q,κ⟩ ⟨hq,hκ⟩;replace hq:q<=k:=hq;replace hκ: ∀j,j < q->okN j (κ j):=hκ;show wc _ _ _ _ (uV (uO (uO uN 0 (.sl 20 1 0 k)) 5 (.sl 21 1 0 k)) 6 (tI q)) (hQT k L κ q) (alP true (2000+64*q));refine A9 ?_;refine x9 rfl (fun h3=> ?_) (fun h3=> ?_)
  ·
   have hq':q < k:=by omega
   have hLk:=hL q;refine A8 ?_;refine R2 (zag sl56 rfl) rfl rfl (RE (xa5 (q) ti38 (xf4 hq') (by omega)) qA ⟨yo7 hκ,trivial⟩ trivial ?_);refine A10 ?_;refine xv3 (ι:=Nat×Nat) (fun x=>x.1<=64/\(x.2=q+100∨2000+64*q<=x.2/\x.2 < 2000+64*q+x.1)) (fun x=>uV (uO (uV (uO (uO uN 0 (.sl 20 1 0 k)) 5 (.sl 21 1 0 k)) 6 (tI q)) 7 (.sl x.2 8 0 ((L q).length+x.1))) 8 (tI x.1)) (fun x=>upd (hQT k L κ q) x.2 (some (rST (mkL mZe q ((L q).length+x.1))))) (fun x=>alP true (2000+64*q+x.1)) (fun x=>64 - x.1) (0,q+100) ⟨zbt _,.inl rfl⟩ (Sub.int rfl rfl (zan rfl (zan rfl (zan rfl (zan rfl zay))))) (zaq (qm0 hn hκ hq') .refl SubK.refl) (zaj (zak (by show (alP true (2000+64*q+0) (q+100) && true)=true;rw [xj3 (by omega) (by omega)];rfl) (zaj (zak rfl (zak rfl zar))))) (qn4 hκ hn (by omega) (by omega) (by omega)) (lkP (by omega)) ?_;rintro ⟨i,v⟩ ⟨hi,hv⟩;replace hi:i<=64:=hi;replace hv:v=q+100∨2000+64*q<=v/\v < 2000+64*q+i:=hv;have h20:upd (hQT k L κ q) v (some (rST (mkL mZe q ((L q).length+i)))) 20=some ⟨38,1,false,owns k 8 fun j=>(L j).length⟩:=by
    rw [x3 _ _ _ (by omega)];exact yo7 hκ
   show wc _ _ _ _ (uV (uO (uV (uO (uO uN 0 (.sl 20 1 0 k)) 5 (.sl 21 1 0 k)) 6 (tI q)) 7 (.sl v 8 0 ((L q).length+i))) 8 (tI i)) (upd (hQT k L κ q) v (some (rST (mkL mZe q ((L q).length+i))))) (alP true (2000+64*q+i));refine A6 ?_;refine x9 rfl (fun h4=> ?_) (fun h4=> ?_)
   ·
    have hi':i < 64:=by omega
    refine A3 ?_;refine xi1 ?_;refine xi3 ?_;refine yf4 [_,_,_,_,_,_,_,_,_,_,_] ?_;refine A4 ?_;refine R2 (zag sl56 rfl) rfl rfl (RE (xa5 (q) ti38 (xf4 hq') (by omega)) qA ⟨h20,trivial⟩ trivial ?_);refine A3 ?_;refine R2 (x4 (xk7 q ((L q).length+i) (by omega) (by omega)) fi149 rfl) rfl rfl (R1 (xc2 (n:=1) (f:=tZe) [mZe q ((L q).length+i)] zgp el55 zf55 rfl (fun _=>inferInstance) rfl rfl rfl) rfl (zr5 (by kernel_rfl) ?_));refine yq6 (k':=2000+64*q+i) (f:=tZe) (ys:=[mZe q ((L q).length+i)]) zgp el55 zf55 rfl rfl (fun _=>inferInstance) rfl rfl (x7 _ _ _) (zg0 (by omega)) (xc0.trans xm1) (by simp;omega) (by simp;omega) (by simp) rfl (fun b=> ?_);refine xa9 xb0 qA trivial trivial rfl (xg3 ?_);refine A7 ?_;have hv':cond b v (2000+64*q+i)=v∨cond b v (2000+64*q+i)=2000+64*q+i:=by cases b;exact .inr rfl;exact .inl rfl
    generalize cond b v (2000+64*q+i)=v' at hv' ⊢;exact fun _ _ hs=>xt8 (i+1,v') ⟨⟨by show i+1<=64;omega,by show v'=q+100∨2000+64*q<=v'/\v' < 2000+64*q+(i+1);omega⟩,by show 64 - (i+1) < 64 - i;omega⟩ (Sub.int rfl rfl (zan rfl (zan rfl (zan rfl (zan rfl zay))))) (by
     show SubK (upd (hQT k L κ q) v' (some (rST (mkL mZe q ((L q).length+i+1))))) _;rw [<-wd7];exact SubK.over fun y hy=>by
      rcases hv with rfl | hv
      ·rw [qm0 hn hκ hq'] at hy;cases hy;exact ⟨rfl,qq7 (by omega)⟩
      ·rw [wf2 hκ hn hv.1] at hy;cases hy) (zaj (zak (by show (alP true (2000+64*q+(i+1)) v' && true)=true;rw [xj3 (by omega) (by omega)];rfl) (zaj (zak rfl (zak rfl zar))))) (qn4 hκ hn (by omega) (by show 2000+64*q<=2000+64*q+(i+1);omega) (by show 100<=v'/\v' < 2000+64*q+(i+1);omega)) (lkP (by omega)) hs
   ·
    have hi64:i=64:=by omega
    subst hi64;have h21:upd (hQT k L κ q) v (some (rST (mkL mZe q ((L q).length+64)))) 21=some ⟨38,1,false,gsR k 8 κ (fun j=>(L j).length+64) tN0T q⟩:=by
     rw [x3 _ _ _ (by omega)];exact zb9 hκ
    refine A9 ?_;refine R2 (zag sl56 rfl) rfl rfl (RE (xc1 (e:= .own (.sl v 8 0 ((L q).length+64))) (q) ti38 (by rw [yc0];simpa using hq') (by omega) (yr1 (len:=fun j=>(L j).length+64) (v:=v) hq')) qB ⟨h21,trivial⟩ trivial ?_);refine A8 ?_;exact fun _ _ hs=>xt8 (q+1,setN κ q v) ⟨⟨by show q+1<=k;omega,ys4 hκ hv⟩,by show k - (q+1) < k - q;omega⟩ (Sub.int rfl rfl (zan rfl (zan rfl zay))) (by exact jr3 hκ (by omega)) (zaj (zak rfl (zak rfl zar))) (by exact xs9 (ys4 hκ hv) hn (by omega) (by omega)) (lkP (by omega)) hs
  ·
   have hqk:q=k:=by omega
   subst hqk;refine A12 ?_;refine xh8 (fun j:Nat=>j<=q) (fun j=>uV (uO (uO uN 0 (.sl 20 1 0 q)) 5 (.sl 21 1 0 q)) 9 (tI j)) (fun _=>hQT q L κ q) (alP true (2000+64*q)) (fun j=>q - j) 0 (zbt _) (Sub.int rfl rfl (zan rfl (zan rfl zay))) SubK.refl (zaj (zak rfl (zak rfl zar))) (xs9 hκ hn (by omega) (by omega)) (lkP (by omega)) ?_;intro j hj;refine A9 ?_;refine x9 rfl (fun h5=> ?_) (fun h5=> ?_)
   ·
    have hj':j < q:=by omega
    have hLj:=hL j;refine A9 ?_;refine xi1 ?_;refine xh8 (fun i:Nat=>i<=(L j).length+64) (fun i=>uV (uV (uO (uO uN 0 (.sl 20 1 0 q)) 5 (.sl 21 1 0 q)) 9 (tI j)) 10 (tI i)) (fun _=>hQT q L κ q) (alP true (2000+64*q)) (fun i=>(L j).length+64 - i) 0 (zbt _) (Sub.int rfl rfl (zan rfl (zan rfl (zan rfl zay)))) SubK.refl (zaj (zaj (zak rfl (zak rfl zar)))) (xs9 hκ hn (by omega) (by omega)) (lkP (by omega)) ?_;intro i hi;obtain ⟨m,hm,hls⟩:=jc7 (L:=L) hn (zbq q) hκ hj';refine A6 ?_;refine R2 (zag sl56 rfl) rfl rfl (RE (xa5 (j) ti38 (yb2 hj' hj') (by omega)) qA ⟨zb9 hκ,trivial⟩ trivial ?_);refine A3 ?_;refine x9 rfl (fun h6=> ?_) (fun h6=> ?_)
    ·
     refine A8 ?_;refine R2 (zag sl56 rfl) rfl rfl (RE (xa5 (j) ti38 (yb2 hj' hj') (by omega)) qA ⟨zb9 hκ,trivial⟩ trivial ?_);refine A1 ?_;refine R2 (zag sl38 rfl) rfl rfl (RE (xa5 (i) ti55 (zh3 (by omega)) (by omega)) qA ⟨jc6 hn (zbq q) hκ hj',trivial⟩ trivial ?_);refine A2 ?_;refine R2 (x4 (xk7 j i (by omega) (by omega)) fi149 rfl) rfl rfl (R2 (x4 (xw4 _ _) fi61 rfl) rfl rfl ?_);refine A5 ?_;refine Rg rfl rfl (zag sl56 rfl) rfl qB (RGon rfl rfl (xa5 (j) ti38 (xf4 hj') (by omega)) rfl qA ⟨yo7 hκ,trivial⟩ trivial (Rg rfl rfl qb6 rfl qA ?_));refine A2 ?_;refine RGcaseD (t:=108) rfl (fun h7=> ?_) (fun h7=> ?_)
     ·
      refine A2 ?_;refine Rg (zbf h7) rfl (zag sl56 rfl) rfl qB (RGon (zbf h7) rfl (xa5 (j) ti38 (xf4 hj') (by omega)) rfl qA ⟨yo7 hκ,trivial⟩ trivial ?_);refine A1 ?_;refine Rg (zbf h7) rfl (zag sl38 rfl) rfl qB (RGon (zbf h7) rfl (xa5 (i) ti55 (zh3 (by omega)) (by omega)) rfl qA ⟨hls,trivial⟩ trivial ?_);refine A2 ?_;refine Rg (zbf h7) rfl (x4 (xk7 j i (by omega) (by omega)) fi149 rfl) rfl qB (Rg (zbf h7) rfl (x4 (xw4 _ _) fi61 rfl) rfl qB ?_);refine A1 ?_;refine Rg rfl rfl (xc6 (zbf h7)) rfl qB (R2 (xc4 rfl) rfl rfl ?_);refine A1 ?_;refine xi8 rfl rfl ?_;refine A8 ?_;exact xf5 (i+1) ⟨by omega,by omega⟩ (Sub.int rfl (by omega) (zan rfl (zan rfl (zan rfl zay)))) SubK.refl (zaj (zaj (zak rfl (zak rfl zar)))) (xs9 hκ hn (by omega) (by omega)) (lkP (by omega))
     ·
      refine RGoff (zbg h7) rfl rfl (RGoff (zbg h7) rfl rfl (RGoff (zbg h7) rfl rfl (RGoff (zbg h7) rfl rfl (RGoff (zbg h7) rfl rfl (RGoff (zbg h7) rfl rfl (RGoff (zbg h7) rfl rfl (RGoff (zbg h7) rfl rfl (RGoff (zbg h7) rfl rfl (RGoff (zbg h7) rfl rfl (RGoff (zbg h7) rfl rfl (RGoff (zbg h7) rfl rfl (Rg rfl rfl (xc4 (zbg h7)) rfl qB (R2 (xc4 rfl) rfl rfl ?_)))))))))))));refine A1 ?_;refine xi8 rfl rfl ?_;refine A8 ?_;exact xf5 (i+1) ⟨by omega,by omega⟩ (Sub.int rfl (by omega) (zan rfl (zan rfl (zan rfl zay)))) SubK.refl (zaj (zaj (zak rfl (zak rfl zar)))) (xs9 hκ hn (by omega) (by omega)) (lkP (by omega))
    ·
     refine A11 ?_;exact xf5 (j+1) ⟨by omega,by omega⟩ (Sub.int rfl (by omega) (zan rfl (zan rfl zay))) SubK.refl (zaj (zak rfl (zak rfl zar))) (xs9 hκ hn (by omega) (by omega)) (lkP (by omega))
   ·
    clear h5 hj;refine A12 ?_;refine xv3 (ι:=Nat×(Nat->Nat)) (fun x=>x.1<=q/\ ∀j,j < x.1->okM q j (x.2 j)) (fun x=>uV (uO (uO uN 0 (.sl 20 1 0 q)) 5 (.sl 21 1 0 q)) 11 (tI x.1)) (fun x=>hRT q L κ x.2 x.1) (fun x=>alP true (2000+64*q+x.1)) (fun x=>q - x.1) (0,fun _=>0) ⟨zbt _,fun j h=>by cases h⟩ (Sub.int rfl rfl (zan rfl (zan rfl zay))) (hR_0T hn hκ) (zaj (zak rfl (zak rfl zar))) (xs5 hκ (fun j h=>by cases h) hn (zbt _) (by omega)) (lkP (by omega)) ?_;rintro ⟨j,κ2⟩ ⟨hj,hκ2⟩;replace hj:j<=q:=hj;replace hκ2: ∀i,i < j->okM q i (κ2 i):=hκ2;show wc _ _ _ _ (uV (uO (uO uN 0 (.sl 20 1 0 q)) 5 (.sl 21 1 0 q)) 11 (tI j)) (hRT q L κ κ2 j) (alP true (2000+64*q+j));refine A9 ?_;refine x9 rfl (fun h5=> ?_) (fun h5=> ?_)
    ·
     have hj':j < q:=by omega
     have hLj:=hL j;refine A6 ?_;refine RE (xi0 (k:=22) (t:=tZe ze0) (ts:=rV tZe (fST (j+q) 0)) 64 64 zgp el55 (fun F w=>jh1) rfl rfl rfl (zbq _) (by decide) (by decide) fS_0T) qB trivial ⟨jm7,trivial⟩ ?_;refine A10 ?_;refine xh8 (fun i:Nat=>i<=64) (fun i=>uV (uO (uV (uO (uO uN 0 (.sl 20 1 0 q)) 5 (.sl 21 1 0 q)) 11 (tI j)) 12 (.sl 22 8 0 64)) 13 (tI i)) (fun i=>upd (hRT q L κ κ2 j) 22 (some (rST (fST (j+q) i)))) (alM (2000+64*q+j)) (fun i=>64 - i) 0 (zbt _) (Sub.int rfl rfl (zan rfl (zan rfl (zan rfl (zan rfl zay))))) SubK.refl (zaj (zak rfl (zaj (zak rfl (zak rfl zar))))) (q7 (xs5 hκ hκ2 hn (by omega) (by omega))) (ze9 (lkP (by omega))) ?_;intro i hi;refine A6 ?_;refine x9 rfl (fun h6=> ?_) (fun h6=> ?_)
     ·
      refine A12 ?_;refine R2 (x4 (xk7 (j+q) i (by omega) (by omega)) fi149 rfl) rfl rfl (R2 (zag sl38 rfl) rfl rfl (RE (xc1 (e:= .val (tZe (mZe (j+q) i))) (i) ti55 (xi5 (f:=tZe) (xs:=fST (j+q) i) (by rw [xp6];omega)) (by omega) (xf0 (f:=tZe) (m:=mZe (j+q) i) rfl)) qB ⟨x7 _ _ _,trivial⟩ trivial ?_));refine A8 ?_;exact xf5 (i+1) ⟨by omega,by omega⟩ (Sub.int rfl (by omega) (zan rfl (zan rfl (zan rfl (zan rfl zay))))) (by rw [<-jw7 (by omega)];exact SubK.twice) (zaj (zak rfl (zaj (zak rfl (zak rfl zar))))) (q7 (xs5 hκ hκ2 hn (by omega) (by omega))) (ze9 (lkP (by omega)))
     ·
      have hi64:i=64:=by omega
      subst hi64;refine A5 ?_;have hown: ∀r,upd (upd (hRT q L κ κ2 j) 22 r) 22 none (j+100)=some (rST (mkL mZe j (L j).length)):=fun r=>by
       rw [x3 _ _ _ (by omega),x3 _ _ _ (by omega)];exact jz5 hn hκ2 hj'
      have hgs: ∀r v r',100<=v->upd (upd (upd (hRT q L κ κ2 j) 22 r) 22 none) v r' 21=some ⟨38,1,false,gsR q 8 κ2 (fun j=>(L j).length+64) (tKT L κ) j⟩:=fun r v r' hv=>by
       rw [x3 _ _ _ (by omega),x3 _ _ _ (by omega),x3 _ _ _ (by omega)];exact jb8 hκ2
      refine qm8 (t:=12) (k:=22) (f:=tZe) (xs:=fST (j+q) 64) rfl (x7 _ _ _) (fun b hb=>ju9 hκ2 hj hb) (xe9 xp6) xp6 ?_;refine xi3 ?_;refine yf4 [_,_,_,_,_,_,_] ?_;refine A4 ?_;refine R2 (zag sl56 rfl) rfl rfl (RE (xa5 (j) ti38 (xf4 hj') (by omega)) qA ⟨(x3 _ _ _ (by omega)).trans ((x3 _ _ _ (by omega)).trans (zc9 hκ2)),trivial⟩ trivial ?_);refine A1 ?_;refine zr5 (by kernel_rfl) ?_;refine yq6 (k':=2000+64*q+j) (f:=tZe) (ys:=fST (j+q) 64) zgp el55 zf55 rfl rfl (fun _=>inferInstance) rfl rfl (hown _) (qo2 (by omega)) (xc0.trans xm1) (by rw [xp6];omega) (by rw [xp6];omega) (by rw [xp6];omega) rfl (fun b=> ?_);have hv':okM q j (cond b (j+100) (2000+64*q+j)):=by cases b;exact .inr rfl;exact .inl rfl
      generalize cond b (j+100) (2000+64*q+j)=v' at hv' ⊢;rw [xp6];have hvb:100<=v'/\v'<=2000+64*q+j:=by rcases hv' with h | h <;> omega
      refine xa9 (zag sl56 rfl) qB trivial trivial rfl (xa9 (xc1 (e:= .own (.sl v' 8 0 ((L j).length+64))) (j) ti38 (by rw [yc0];simpa using hj') (by omega) (yr1 (len:=fun j=>(L j).length+64) (v:=v') hj')) qB ⟨hgs _ _ _ hvb.1,trivial⟩ trivial rfl (xg3 ?_));refine A7 ?_;exact fun _ _ hs=>xt8 (j+1,setN κ2 j v') ⟨⟨by show j+1<=q;omega,yp2 hκ2 hv'⟩,by show q - (j+1) < q - j;omega⟩ (Sub.int rfl rfl (zan rfl (zan rfl zay))) (by exact jp8 hκ2 hvb.1) (zaj (zak rfl (zak rfl zar))) (by exact xs5 hκ (yp2 hκ2 hv') hn (by omega) (by omega)) (lkP (by omega)) hs
    ·
     have hjq:j=q:=by omega
     subst hjq;clear h5 hj;refine A12 ?_;refine xh8 (fun t:Nat=>t<=j) (fun t=>uV (uO (uO uN 0 (.sl 20 1 0 j)) 5 (.sl 21 1 0 j)) 14 (tI t)) (fun _=>hRT j L κ κ2 j) (alP true (2000+64*j+j)) (fun t=>j - t) 0 (zbt _) (Sub.int rfl rfl (zan rfl (zan rfl zay))) SubK.refl (zaj (zak rfl (zak rfl zar))) (xs5 hκ hκ2 hn (by omega) (by omega)) (lkP (by omega)) ?_;intro t ht;refine A9 ?_;refine x9 rfl (fun h5=> ?_) (fun h5=> ?_)
     ·
      have ht':t < j:=by omega
      have hLt:=hL t;obtain ⟨xs,hls,hxs⟩:=hR_lsT (L:=L) (κ:=κ) hn hκ2 ht';refine A9 ?_;refine xi1 ?_;refine xh8 (fun i:Nat=>i<=(L t).length) (fun i=>uV (uV (uO (uO uN 0 (.sl 20 1 0 j)) 5 (.sl 21 1 0 j)) 14 (tI t)) 15 (tI i)) (fun _=>hRT j L κ κ2 j) (alP true (2000+64*j+j)) (fun i=>(L t).length - i) 0 (zbt _) (Sub.int rfl rfl (zan rfl (zan rfl (zan rfl zay)))) SubK.refl (zaj (zaj (zak rfl (zak rfl zar)))) (xs5 hκ hκ2 hn (by omega) (by omega)) (lkP (by omega)) ?_;intro i hi;refine A6 ?_;refine R2 (zag sl56 rfl) rfl rfl (RE (xa5 (t) ti38 (xf4 ht') (by omega)) qA ⟨zc9 hκ2,trivial⟩ trivial ?_);refine A3 ?_;refine x9 rfl (fun h6=> ?_) (fun h6=> ?_)
      ·
       have hi':i < (L t).length:=by omega
       refine A8 ?_;refine R2 (zag sl56 rfl) rfl rfl (RE (xa5 (t) ti38 (xf4 ht') (by omega)) qA ⟨zc9 hκ2,trivial⟩ trivial ?_);refine A1 ?_;refine R2 (zag sl38 rfl) rfl rfl (RE (xa5 (i) ti55 (hxs i hi') (by omega)) qA ⟨hls,trivial⟩ trivial ?_);refine A2 ?_;refine R2 (x4 (xk7 t i (by omega) (by omega)) fi149 rfl) rfl rfl (R2 (x4 (xw4 _ _) fi61 rfl) rfl rfl ?_);refine A4 ?_;refine Rg rfl rfl (zag sl56 rfl) rfl qB (RGon rfl rfl (xa5 (t) ti38 (yb2 ht' ht') (by omega)) rfl qA ⟨jb8 hκ2,trivial⟩ trivial ?_);refine A1 ?_;refine Rg rfl rfl (zag sl38 rfl) rfl qB (RGon rfl rfl (xa5 (i) ti55 (qq1 hi') (by omega)) rfl qA ⟨jc1 hn hκ2 ht',trivial⟩ trivial ?_);refine A2 ?_;refine Rg rfl rfl (x4 (xk7 t i (by omega) (by omega)) fi149 rfl) rfl qB (Rg rfl rfl (x4 (xw4 _ _) fi61 rfl) rfl qB ?_);refine A1 ?_;refine R2 (xc4 rfl) rfl rfl ?_;refine A1 ?_;refine xi8 rfl rfl ?_;refine A8 ?_;exact xf5 (i+1) ⟨by omega,by omega⟩ (Sub.int rfl (by omega) (zan rfl (zan rfl (zan rfl zay)))) SubK.refl (zaj (zaj (zak rfl (zak rfl zar)))) (xs5 hκ hκ2 hn (by omega) (by omega)) (lkP (by omega))
      ·
       refine A11 ?_;exact xf5 (t+1) ⟨by omega,by omega⟩ (Sub.int rfl (by omega) (zan rfl (zan rfl zay))) SubK.refl (zaj (zak rfl (zak rfl zar))) (xs5 hκ hκ2 hn (by omega) (by omega)) (lkP (by omega))
     ·
      refine A11 ?_;exact xg0 LentC.mk' rfl rfl Imp.refl trivial rfl trivial rfl
end An.S
namespace An
open Go
theorem Kr.split {h:Keys}: ∀{l1 l2:List (Nat×HEnt)},Kr h (l1++l2)->Kr h l1/\Kr h l2
 | [],_,hh=>⟨trivial,hh⟩
 | _::r,_,hh=>⟨⟨hh.1,(Kr.split (l1:=r) hh.2).1⟩,(Kr.split (l1:=r) hh.2).2⟩
theorem Kr.memR {h:Keys} {ρ:Nat->Nat}: ∀{H:List (Nat×HEnt)},Kr h (H.map fun x=>(ρ x.1,x.2))-> ∀x∈H,h (ρ x.1)=some x.2
 | y::r,hr,x,hx=>by
  rcases zbr.1 hx with rfl | hx
  ·exact hr.1
  ·exact Kr.memR (H:=r) hr.2 x hx
section
variable {P:Program} {c:Base} {d ty:Nat} {pos:String} {af:Array Edge} {gd:Option (Nat×Bool)}
theorem xo8 {f:FuncId} {xs:List Operand} {aT:Array TypeId} {H H' h1 h2 K:List (Nat×HEnt)} {ps:List Ent} {re:Ent} {nn:List Nat} (ρ:Nat->Nat) (hc:CtG P f H ps re H' nn) (hf:FnI P f) (hl:xs.length=ps.length) (e1:H.map (fun x=>(ρ x.1,x.2.ren ρ))=h1) (e2:H'.map (fun x=>(ρ x.1,x.2.ren ρ))=h2)
  (ln:List Nat) (hsH:SupHs H' (nn++(suppE ps++(H.map (·.1)++(K.map (·.1)++ln))))) (hln:(ln.all fun k=>memN (ρ k) c.ln)=true) (hok:gB ρ H H' re ps nn c.yk=true):
  Does P c ⟨some d,.call {callee:= .value (.func f),args:=xs.toArray,argTypes:=aT},ty,pos,af,gd⟩ ⟨xs.zip (ps.map (Ent.ren ρ)),h1++K.map (fun x=>(ρ x.1,x.2)),some (d,some (re.ren ρ)),H.map (fun x=>(ρ x.1,none))++h2.map (fun x=>(x.1,some x.2)),nn.map ρ⟩:=by
 rw [<-yg1 e2,<-e1];intro g h al a w hp ⟨η,s⟩;obtain ⟨fn,f1,f2,f3⟩:=hf;obtain ⟨hsat,hal⟩:=SatL.of s xs ps hp.rd hl;have hrun:(execOp a.eval ⟨some d,.call {callee:= .value (.func f),args:=xs.toArray,argTypes:=aT},ty,pos,af,gd⟩).run P w= .ok (.enter f (xs.map a.eval).toArray) w:=by
  simp only [execOp,resolve,Act.eval,Deferred.ofValue,zbu,zbx,zbn,invoke];simp only [zdu,zdj,zcs];exact xd1 f1 f2 f3 _ w
 obtain ⟨hk1,hk2⟩:=Kr.split hp.kr;have hH':=Kr.ren hk1;have hK':=Kr.memR hk2;have hnn:=Nk.ren hp.nk;simp only [gB,zbv] at hok;have hps: ∀k∈suppE ps,al (ρ k)=true:=fun k hk=>hal _ (xn4 hk);have hall:AllK (c.dom h η) w (η.pre ρ) H:=fun x hx=>HEnt.sat_ren.1 (s.key _ _ (hH' x hx)).2.2.1;refine xe6 hrun (zei (hc (c.dom h η) w (η.pre ρ) (xs.map a.eval) hsat hall (fun x hx y hy hne hcx hcy=> ?_) (fun b hb ho=> ?_)) ?_)
 ·exact s.inj (ρ x.1) (ρ y.1) _ _ (hH' x hx) (hH' y hy) (xm4 hok.1.1.2 x.1 y.1 (zcz hx) (zcz hy) hne) hcx hcy
 ·obtain ⟨x,hx,hcx,rfl⟩:=ho;exact hb.2.1 ⟨ρ x.1,_,hH' x hx,hcx,rfl⟩
 ·rintro e w' ⟨v,η',rfl,hout⟩;obtain ⟨s',hres⟩:=s.back ρ hH' hout hnn hok.1.1.1 (fun k hk=>by
   have hm:k∈nn++(suppE ps++(H.map (·.1)++(K.map (·.1)++ln))):=by
    rcases zbp.1 hk with hk | hk
    ·have:=xe8 hok.1.2 k hk;simp only [zbp] at this ⊢;rcases this with h1 | h1 | h1
     ·exact .inl h1
     ·exact .inr (.inl h1)
     ·exact .inr (.inr (.inl h1))
    ·exact hsH.spec k hk
   simp only [zbp] at hm;rcases hm with hm | hm | hm | hm | hm
   ·exact .inl hm
   ·exact .inr (hps k hm)
   ·right;obtain ⟨x,hx,rfl⟩:=zci.1 hm;exact (s.key _ _ (hH' x hx)).1
   ·right;obtain ⟨x,hx,rfl⟩:=zci.1 hm;exact (s.key _ _ (hK' x hx)).1
   ·exact .inr (s.lk _ (xb2.1 (zdk.1 hln k hm))).1) hok.2
  refine ⟨v,rfl,qb7 ⟨_,s'.put (hp.d _ rfl) hres fun k hk=> ?_⟩⟩;cases re with
  | val t=>cases hk
  | own p=>
   obtain ⟨j,hj,rfl⟩:=VP.ren_supp1 p k hk;have hm:=xe8 hok.1.2 j hj;rw [zbp,zbp] at hm;rcases hm with hm | hm | hm
   ·rw [xb2.2 (zcz hm)];rfl
   ·rw [hps j hm,Bool.or_true]
   ·obtain ⟨x,hx,rfl⟩:=zci.1 hm;rw [(s.key _ _ (hH' x hx)).1,Bool.or_true]
end
theorem zw5 {P:Program} {c:Base} {g:Slots} {h:Keys} {al:Names} {Q:Exit->Act->World->Prop} {x:Code} {k q T es es0 off len:Nat} {agg:Bool} {ts:List Ent} {y:HEnt} (k' i0:Nat) (hq:h q=some ⟨T,es,agg,ts⟩) (hi:ts[i0]? =some (.own (.sl k es0 off len))) (hk:h k=some y) (hne:q≠k) (hk':al k'=false)
  (H:wc P c x Q g (upd (upd (upd h k none) k' (some y)) q (some ⟨T,es,agg,ts.set i0 (.own (.sl k' es0 off len))⟩)) (fun j=>Nat.beq j k' || al j)):wc P c x Q g h al:=fun a w hst=>by
 obtain ⟨η,s⟩:=hst;have s2:=s.rename hk hk';have hk1:k≠k':=fun e=>by have:=(s.key k _ hk).1;rw [e,hk'] at this;cases this
 have hq1:q≠k':=fun e=>by have:=(s.key q _ hq).1;rw [e,hk'] at this;cases this
 obtain ⟨hb,hc⟩:=η.set_other (k:=k') (j:=k) (η.b k) (η.c k) hk1;have hq2:upd (upd h k none) k' (some y) q=some ⟨T,es,agg,ts⟩:=by rw [x3 _ _ _ hq1,x3 _ _ _ hne];exact hq
 have hilt:i0 < ts.length:=(zbo.1 hi).1;refine H a w ⟨_,s2.rekey hq2 (by simp) (fun j hj=> ?_) fun cs i e' _ hi'=> ?_⟩
 ·obtain ⟨e,he,hj⟩:=zcc.1 hj;rcases zfy he with he | rfl
  ·exact (s2.key q _ hq2).2.1 j (zcc.2 ⟨e,he,hj⟩)
  ·simp only [Ent.supp,VP.supp,zbj] at hj;subst hj;simp
 ·rw [zfk] at hi';by_cases hii:i0=i
  ·subst hii;rw [if_pos rfl,if_pos hilt] at hi';cases hi';refine ⟨_,hi,fun ⟨A,e1,e2,e3⟩=>⟨A,?_,?_,?_⟩⟩
   ·rw [hc] at e1;rw [Env.set_c];exact e1
   ·rw [hc] at e2;rw [Env.set_c];exact e2
   ·rw [hb,hc] at e3;rw [Env.set_c,Env.set_b];exact e3
  ·rw [if_neg hii] at hi';exact ⟨e',hi',id⟩
end An
namespace An.S
open Go Go.Proofs An Tryz
instance ti56:TyI Tryz.prog 56 1 false:=⟨by kernel_rfl,by kernel_rfl⟩
instance ti95:TyI Tryz.prog 95 1 false:=⟨by kernel_rfl,by kernel_rfl⟩
instance fo118_0:FoI Tryz.prog 118 0 0:=⟨by kernel_rfl⟩
instance fo118_8:FoI Tryz.prog 118 8 8:=⟨by kernel_rfl⟩
instance fi91:FnI Tryz.prog 91:=⟨_,func91,by kernel_rfl,rfl⟩
instance fi142:FnI Tryz.prog 142:=⟨_,func142,by kernel_rfl,rfl⟩
instance fi205:FnI Tryz.prog 205:=⟨_,func205,by kernel_rfl,rfl⟩
instance fi241:FnI Tryz.prog 241:=⟨_,func241,by kernel_rfl,rfl⟩
instance fi265:FnI Tryz.prog 265:=⟨_,func265,by kernel_rfl,rfl⟩
theorem zf22:Flat 1 false (.slice none 0 0):=xd2 rfl
abbrev nlF:Ent:= .val (tE (.slice none 0 0))
abbrev bgT (e f:Ent):HEnt:=⟨118,1,false,[e,nlF,nlF,nlF,nlF,nlF,nlF,nlF,f,nlF,nlF,nlF,nlF,nlF,nlF,nlF,nlF,nlF,nlF,nlF,nlF,nlF,nlF]⟩
theorem c_putL (us ws:List Hd) (u:Hd) (n m:Nat) (hn:us.length=n) (hw:ws=us++[u]) (hl:n<=100000):
  CtG Tryz.prog 265 [(30,(bgT (.own (.sl 31 1 0 n)) (.own (.sl 32 1 0 m)))),(31,⟨22,1,false,rV tH us⟩)] [.own (.ptr 30 0),.val (tH u)] (.val (tT [])) [(30,(bgT (.own (.sl 11 1 0 (n+1))) (.own (.sl 32 1 0 m)))),(11,⟨22,1,false,rV tH ws⟩)] [11]:=by
 refine CtG.intro [30,31,32] func265 rfl ntmps265 rfl rfl ⟨⟨rfl,(SupX.lit rfl)⟩,⟨rfl,x6⟩,trivial⟩ ?_;intro w F η;refine A5 ?_;refine RE (xa5 (0) ti95 rfl rfl) qA qA trivial ?_;refine A1 ?_;refine R1 (xc2 (n:=1) (f:=tH) [u] zha el22 zf22 rfl (fun _=>inferInstance) rfl rfl rfl) rfl (RE (xb3 (k:=31) (k':=11) (f:=tH) (ys:=[u]) (ts':=rV tH ws) zha el22 zf22 rfl rfl (fun _=>inferInstance) (xc0.trans hn) (by simp;omega) (by simp;omega) (by simp [rV,hw]) (n':=n+1) rfl) qB qA qA ?_);refine A2 ?_;refine RE (xc1 (es:=1) (agg:=false) (e:= .own (.sl 11 1 0 (n+1))) (0) ti95 rfl rfl rfl) qB qA trivial ?_;refine A1 ?_;exact xg2 LentC.mk' rfl (.inr rfl) qB ⟨⟨rfl,(SupX.lit rfl)⟩,⟨rfl,x6⟩,trivial⟩ rfl
theorem jg9 (us ws:List Hd) (a:Bool) (u:Hd) (n m:Nat) (hn:us.length=n) (hw:ws=us++[u]) (hl:n<=100000):
  CtG Tryz.prog 241 [(30,(bgT (.own (.sl 31 1 0 n)) (.own (.sl 32 1 0 m)))),(31,⟨22,1,false,rV tH us⟩)] [.own (.ptr 30 0),.val (tS [⟨1,false,tB a⟩,⟨1,false,tH u⟩])] (.val (tT [])) [(30,(bgT (.own (.sl 11 1 0 (n+1))) (.own (.sl 32 1 0 m)))),(11,⟨22,1,false,rV tH ws⟩)] [11]:=by
 refine CtG.intro [30,31,32] func241 rfl ntmps241 rfl rfl ⟨⟨rfl,(SupX.lit rfl)⟩,⟨rfl,x6⟩,trivial⟩ ?_;intro w F η;refine A9 ?_;refine RE (xo8 (zaa 32 32 (zaa 30 30 (zaa 11 11 (zab 31 31)))) (c_putL us ws u n m hn hw hl) fi265 rfl (krC (ρ:=(zaa 32 32 (zaa 30 30 (zaa 11 11 (zab 31 31))))) (k:=30) rfl (krC (ρ:=(zaa 32 32 (zaa 30 30 (zaa 11 11 (zab 31 31))))) (k:=31) x8 (krN (ρ:=(zaa 32 32 (zaa 30 30 (zaa 11 11 (zab 31 31)))))))) (krC (ρ:=(zaa 32 32 (zaa 30 30 (zaa 11 11 (zab 31 31))))) (k:=30) rfl (krC (ρ:=(zaa 32 32 (zaa 30 30 (zaa 11 11 (zab 31 31))))) (k:=11) x8 (krN (ρ:=(zaa 32 32 (zaa 30 30 (zaa 11 11 (zab 31 31)))))))) (K:=[]) [32] ⟨⟨rfl,SupX.lit rfl⟩,⟨rfl,x6⟩,trivial⟩ rfl rfl) qB qB qA ?_;refine A1 ?_;exact xg2 LentC.mk' rfl (.inr rfl) qB ⟨⟨rfl,(SupX.lit rfl)⟩,⟨rfl,x6⟩,trivial⟩ rfl
theorem c_oneF (us ws:List Hd) (a b:Bool) (u v:Hd) (n m:Nat) (hn:us.length=n) (hw:ws=us++[u,v]) (hl:n<=90000):
  CtG Tryz.prog 205 [(30,(bgT (.own (.sl 31 1 0 n)) (.own (.sl 32 1 0 m)))),(31,⟨22,1,false,rV tH us⟩)] [.own (.ptr 30 0),.val (tS [⟨2,true,tS [⟨1,false,tB a⟩,⟨1,false,tH u⟩]⟩,⟨2,true,tS [⟨1,false,tB b⟩,⟨1,false,tH v⟩]⟩])] (.val (tT [])) [(30,(bgT (.own (.sl 11 1 0 (n+2))) (.own (.sl 32 1 0 m)))),(11,⟨22,1,false,rV tH ws⟩)] [11]:=by
 refine CtG.intro [30,31,32] func205 rfl ntmps205 rfl rfl ⟨⟨rfl,(SupX.lit rfl)⟩,⟨rfl,x6⟩,trivial⟩ ?_;intro w F η;refine A10 ?_;refine RE (xo8 (zaa 32 32 (zaa 30 30 (zaa 11 7 (zab 31 31)))) (jg9 us (us++[u]) a u n m hn rfl (by omega)) fi241 rfl (krC (ρ:=(zaa 32 32 (zaa 30 30 (zaa 11 7 (zab 31 31))))) (k:=30) rfl (krC (ρ:=(zaa 32 32 (zaa 30 30 (zaa 11 7 (zab 31 31))))) (k:=31) x8 (krN (ρ:=(zaa 32 32 (zaa 30 30 (zaa 11 7 (zab 31 31)))))))) (krC (ρ:=(zaa 32 32 (zaa 30 30 (zaa 11 7 (zab 31 31))))) (k:=30) rfl (krC (ρ:=(zaa 32 32 (zaa 30 30 (zaa 11 7 (zab 31 31))))) (k:=11) x8 (krN (ρ:=(zaa 32 32 (zaa 30 30 (zaa 11 7 (zab 31 31)))))))) (K:=[]) [32] ⟨⟨rfl,SupX.lit rfl⟩,⟨rfl,x6⟩,trivial⟩ rfl rfl) qB qB qA ?_;refine A6 ?_;refine RE (xo8 (zaa 32 32 (zaa 30 30 (zaa 11 11 (zab 31 7)))) (jg9 (us++[u]) ws b v (n+1) m (by simp [hn]) (by simp [hw]) (by omega)) fi241 rfl (krC (ρ:=(zaa 32 32 (zaa 30 30 (zaa 11 11 (zab 31 7))))) (k:=30) rfl (krC (ρ:=(zaa 32 32 (zaa 30 30 (zaa 11 11 (zab 31 7))))) (k:=31) x8 (krN (ρ:=(zaa 32 32 (zaa 30 30 (zaa 11 11 (zab 31 7)))))))) (krC (ρ:=(zaa 32 32 (zaa 30 30 (zaa 11 11 (zab 31 7))))) (k:=30) rfl (krC (ρ:=(zaa 32 32 (zaa 30 30 (zaa 11 11 (zab 31 7))))) (k:=11) x8 (krN (ρ:=(zaa 32 32 (zaa 30 30 (zaa 11 11 (zab 31 7)))))))) (K:=[]) [32] ⟨⟨rfl,SupX.lit rfl⟩,⟨rfl,x6⟩,trivial⟩ rfl rfl) qB qB qA ?_;refine A1 ?_;exact xg2 LentC.mk' rfl (.inr rfl) qB ⟨⟨rfl,(SupX.lit rfl)⟩,⟨rfl,x6⟩,trivial⟩ rfl
theorem c_oneV (us ws:List Hd) (a b:Bool) (u v:Hd) (k:Nat) (i:Int) (n m:Nat) (hn:us.length=n) (hw:ws=us++[u,v]) (hl:n<=90000):
  CtG Tryz.prog 142 [(30,(bgT (.own (.sl 31 1 0 n)) (.own (.sl 32 1 0 m)))),(31,⟨22,1,false,rV tH us⟩)] [.own (.ptr 30 0),.val (tS [⟨1,false,tE (.int .u8 (k:Int))⟩,⟨4,true,tS [⟨2,true,tS [⟨1,false,tB a⟩,⟨1,false,tH u⟩]⟩,⟨2,true,tS [⟨1,false,tB b⟩,⟨1,false,tH v⟩]⟩]⟩,⟨1,false,tI i⟩])] (.val (tT [])) [(30,(bgT (.own (.sl 11 1 0 (n+2))) (.own (.sl 32 1 0 m)))),(11,⟨22,1,false,rV tH ws⟩)] [11]:=by
 refine CtG.intro [30,31,32] func142 rfl ntmps142 rfl rfl ⟨⟨rfl,(SupX.lit rfl)⟩,⟨rfl,x6⟩,trivial⟩ ?_;intro w F η;refine A9 ?_;refine RE (xo8 (zaa 32 32 (zaa 30 30 (zaa 11 11 (zab 31 31)))) (c_oneF us ws a b u v n m hn hw hl) fi205 rfl (krC (ρ:=(zaa 32 32 (zaa 30 30 (zaa 11 11 (zab 31 31))))) (k:=30) rfl (krC (ρ:=(zaa 32 32 (zaa 30 30 (zaa 11 11 (zab 31 31))))) (k:=31) x8 (krN (ρ:=(zaa 32 32 (zaa 30 30 (zaa 11 11 (zab 31 31)))))))) (krC (ρ:=(zaa 32 32 (zaa 30 30 (zaa 11 11 (zab 31 31))))) (k:=30) rfl (krC (ρ:=(zaa 32 32 (zaa 30 30 (zaa 11 11 (zab 31 31))))) (k:=11) x8 (krN (ρ:=(zaa 32 32 (zaa 30 30 (zaa 11 11 (zab 31 31)))))))) (K:=[]) [32] ⟨⟨rfl,SupX.lit rfl⟩,⟨rfl,x6⟩,trivial⟩ rfl rfl) qB qB qA ?_;refine A1 ?_;exact xg2 LentC.mk' rfl (.inr rfl) qB ⟨⟨rfl,(SupX.lit rfl)⟩,⟨rfl,x6⟩,trivial⟩ rfl
theorem qc5 (us ws:List Hd) (z:Ze) (n m:Nat) (hn:us.length=n) (hw:ws=us++[z.n,z.d]) (hl:n<=90000):
  CtG Tryz.prog 91 [(30,(bgT (.own (.sl 31 1 0 n)) (.own (.sl 32 1 0 m)))),(31,⟨22,1,false,rV tH us⟩)] [.own (.ptr 30 0),.val (tZe z)] (.val (tT [])) [(30,(bgT (.own (.sl 11 1 0 (n+2))) (.own (.sl 32 1 0 m)))),(11,⟨22,1,false,rV tH ws⟩)] [11]:=by
 refine CtG.intro [30,31,32] func91 rfl ntmps91 rfl rfl ⟨⟨rfl,(SupX.lit rfl)⟩,⟨rfl,x6⟩,trivial⟩ ?_;intro w F η;refine A9 ?_;refine RE (xo8 (zaa 32 32 (zaa 30 30 (zaa 11 11 (zab 31 31)))) (c_oneV us ws z.ns z.ds z.n z.d z.k z.i n m hn hw hl) fi142 rfl (krC (ρ:=(zaa 32 32 (zaa 30 30 (zaa 11 11 (zab 31 31))))) (k:=30) rfl (krC (ρ:=(zaa 32 32 (zaa 30 30 (zaa 11 11 (zab 31 31))))) (k:=31) x8 (krN (ρ:=(zaa 32 32 (zaa 30 30 (zaa 11 11 (zab 31 31)))))))) (krC (ρ:=(zaa 32 32 (zaa 30 30 (zaa 11 11 (zab 31 31))))) (k:=30) rfl (krC (ρ:=(zaa 32 32 (zaa 30 30 (zaa 11 11 (zab 31 31))))) (k:=11) x8 (krN (ρ:=(zaa 32 32 (zaa 30 30 (zaa 11 11 (zab 31 31)))))))) (K:=[]) [32] ⟨⟨rfl,SupX.lit rfl⟩,⟨rfl,x6⟩,trivial⟩ rfl rfl) qB qB qA ?_;refine A1 ?_;exact xg2 LentC.mk' rfl (.inr rfl) qB ⟨⟨rfl,(SupX.lit rfl)⟩,⟨rfl,x6⟩,trivial⟩ rfl
def hdz (zs:List Ze):List Hd:=zs.flatMap fun z=>[z.n,z.d]
theorem xq3: ∀{zs:List Ze},(hdz zs).length=2*zs.length
 | []=>rfl
 | z::r=>by rw [hdz,zed,zbm,<-hdz,xq3 (zs:=r)];simp;omega
theorem yw8 {zs:List Ze} {i:Nat} (hi:i < zs.length):hdz (zs.take (i+1))=hdz (zs.take i)++[(zs.getD i ze0).n,(zs.getD i ze0).d]:=by
 rw [zca hi,hdz,zeg,zbh,zbi hi];simp [hdz]
theorem yu9 {zs:List Ze} {i:Nat} (hi:i<=zs.length):(hdz (zs.take i)).length=2*i:=by rw [xq3,zcu];omega
theorem wi1 (us ws:List Hd) (a:List Ze) (n:Nat) (hn:us.length=n) (hw:ws=us++hdz a) (hl:n<=50000) (hz:a.length<=10000):
  CtG Tryz.prog 63 [(30,(bgT (.own (.sl 31 1 0 n)) (.own (.sl 33 1 0 0)))),(31,⟨22,1,false,rV tH us⟩),(33,⟨38,1,false,[]⟩),(100,⟨55,8,true,rV tZe a⟩)] [.own (.ptr 30 0),.own (.sl 100 8 0 a.length)] (.val (tT [])) [(30,(bgT (.own (.sl 11 1 0 (n+2*a.length))) (.own (.sl 12 1 0 1)))),(11,⟨22,1,false,rV tH ws⟩),(12,⟨38,1,false,[.own (.sl 100 8 0 a.length)]⟩),(100,⟨55,8,true,rV tZe a⟩)] [11,12]:=by
 refine CtG.intro [30,31,33,100,101,102] func63 rfl ntmps63 rfl rfl ⟨⟨rfl,(SupX.lit rfl)⟩,⟨rfl,x6⟩,⟨rfl,(SupX.lit rfl)⟩,⟨rfl,x6⟩,trivial⟩ ?_;intro w F η;refine A6 ?_;refine RE (xa5 (8) ti56 rfl rfl) qA qA trivial ?_;refine A1 ?_;refine RE (xj0 (k:=10) (ents:=[.own (.sl 100 8 0 a.length)]) zgr el38 zf38 rfl (by intro e he;rw [zbj.1 he];infer_instance) rfl rfl rfl) ⟨rfl,trivial⟩ trivial ⟨rfl,trivial⟩ (RE (yj1 (k:=33) (k2:=10) (k':=12) (n:=0) (e:= .own (.sl 100 8 0 a.length)) zgr el38 zf38 rfl rfl rfl (by decide) (by decide) rfl) ⟨rfl,rfl,trivial⟩ ⟨rfl,rfl,trivial⟩ ⟨rfl,trivial⟩ ?_);refine A2 ?_;refine RE (xc1 (es:=1) (agg:=false) (e:= .own (.sl 12 1 0 1)) (8) ti56 rfl rfl rfl) qB qA trivial ?_;refine A3 ?_;refine zw5 (k:=31) (q:=30) 11 0 rfl rfl rfl (by decide) rfl ?_;refine A5 ?_;refine cL (fun (i:Nat)=>i<=a.length) (fun (i:Nat)=>uV (uO (uO uN 0 (.ptr 30 0)) 1 (.sl 100 8 0 a.length)) 4 (tI i)) (fun (i:Nat)=>uK (uK (uK (upd uN 30 (some ((bgT (.own (.sl 11 1 0 (n+2*i))) (.own (.sl 12 1 0 1)))))) 11 22 1 false (rV tH (us++hdz (a.take i)))) 12 38 1 false [.own (.sl 100 8 0 a.length)]) 100 55 8 true (rV tZe a)) [30,11,12,100,31,33,100,101,102] (fun (i:Nat)=>a.length - i) (0) (zbt _) (hh:=(SubK.cons rfl (SubK.cons rfl ((zaq rfl (zat (by simp [hdz]))) (SubK.cons rfl zax))))) ?_;intro i hI;refine A9 ?_;refine x9 rfl (fun h477=> ?_) (fun h477=> ?_)
 ·
  refine A8 ?_;refine R2 (zag sl38 rfl) rfl rfl (RE (xa5 (i) ti55 (xc3 (d:=ze0) (by omega)) (by omega)) qA qA trivial (RE (xo8 (zaa 32 12 (zaa 30 30 (zaa 11 26 (zab 31 11)))) (qc5 (us++hdz (a.take i)) (us++hdz (a.take (i+1))) (a.getD i ze0) (n+2*i) 1 (by rw [zbm,yu9 (by omega),hn]) (by rw [yw8 (by omega),zdg]) (by omega)) fi91 rfl (krC (ρ:=(zaa 32 12 (zaa 30 30 (zaa 11 26 (zab 31 11))))) (k:=30) rfl (krC (ρ:=(zaa 32 12 (zaa 30 30 (zaa 11 26 (zab 31 11))))) (k:=31) x8 (krN (ρ:=(zaa 32 12 (zaa 30 30 (zaa 11 26 (zab 31 11)))))))) (krC (ρ:=(zaa 32 12 (zaa 30 30 (zaa 11 26 (zab 31 11))))) (k:=30) rfl (krC (ρ:=(zaa 32 12 (zaa 30 30 (zaa 11 26 (zab 31 11))))) (k:=11) x8 (krN (ρ:=(zaa 32 12 (zaa 30 30 (zaa 11 26 (zab 31 11)))))))) (K:=[(32,⟨38,1,false,[.own (.sl 100 8 0 a.length)]⟩)]) [] ⟨⟨rfl,SupX.lit rfl⟩,⟨rfl,x6⟩,trivial⟩ rfl rfl) qB qC qA ?_));refine A8 ?_;exact xe3 (l:=[30,11,12,100,31,33,100,101,102]) (zab 11 26) (i+1) ⟨(by omega),(by omega)⟩ (zaf rfl (zas rfl (zas rfl zbd))) ((zbb rfl (zat x8.symm)) ((zbb rfl (zat rfl)) ((zbb rfl (zat x8.symm)) ((zbb rfl (zat rfl)) zbe)))) (zaj (zak rfl (zak rfl zar))) (zam rfl (supJ x6) (zam rfl (supJL rfl) (zam rfl (supJ x6) (zam rfl (supJL rfl) zaz)))) (lkOk rfl) rfl rfl (fun _ h=>by cases h)
 ·
  refine A4 ?_;have hil:i=a.length:=by omega
  subst hil;rw [zcf,<-hw];exact xg2 LentC.mk' rfl (.inr rfl) qD ⟨⟨rfl,(SupX.lit rfl)⟩,⟨rfl,x6⟩,⟨rfl,(SupX.lit rfl)⟩,⟨rfl,x6⟩,trivial⟩ rfl
theorem wg0 (us ws:List Hd) (a:List Ze) (b:List Ze) (n:Nat) (hn:us.length=n) (hw:ws=us++hdz b) (hl:n<=50000) (hz:b.length<=10000):
  CtG Tryz.prog 63 [(30,(bgT (.own (.sl 31 1 0 n)) (.own (.sl 33 1 0 1)))),(31,⟨22,1,false,rV tH us⟩),(33,⟨38,1,false,[.own (.sl 100 8 0 a.length)]⟩),(100,⟨55,8,true,rV tZe a⟩),(101,⟨55,8,true,rV tZe b⟩)] [.own (.ptr 30 0),.own (.sl 101 8 0 b.length)] (.val (tT [])) [(30,(bgT (.own (.sl 11 1 0 (n+2*b.length))) (.own (.sl 12 1 0 2)))),(11,⟨22,1,false,rV tH ws⟩),(12,⟨38,1,false,[.own (.sl 100 8 0 a.length),.own (.sl 101 8 0 b.length)]⟩),(100,⟨55,8,true,rV tZe a⟩),(101,⟨55,8,true,rV tZe b⟩)] [11,12]:=by
 refine CtG.intro [30,31,33,100,101,102] func63 rfl ntmps63 rfl rfl ⟨⟨rfl,(SupX.lit rfl)⟩,⟨rfl,x6⟩,⟨rfl,(SupX.lit rfl)⟩,⟨rfl,x6⟩,⟨rfl,x6⟩,trivial⟩ ?_;intro w F η;refine A6 ?_;refine RE (xa5 (8) ti56 rfl rfl) qA qA trivial ?_;refine A1 ?_;refine RE (xj0 (k:=10) (ents:=[.own (.sl 101 8 0 b.length)]) zgr el38 zf38 rfl (by intro e he;rw [zbj.1 he];infer_instance) rfl rfl rfl) ⟨rfl,trivial⟩ trivial ⟨rfl,trivial⟩ (RE (yj1 (k:=33) (k2:=10) (k':=12) (n:=1) (e:= .own (.sl 101 8 0 b.length)) zgr el38 zf38 rfl rfl rfl (by decide) (by decide) rfl) ⟨rfl,rfl,trivial⟩ ⟨rfl,rfl,trivial⟩ ⟨rfl,trivial⟩ ?_);refine A2 ?_;refine RE (xc1 (es:=1) (agg:=false) (e:= .own (.sl 12 1 0 2)) (8) ti56 rfl rfl rfl) qB qA trivial ?_;refine A3 ?_;refine zw5 (k:=31) (q:=30) 11 0 rfl rfl rfl (by decide) rfl ?_;refine A5 ?_;refine cL (fun (i:Nat)=>i<=b.length) (fun (i:Nat)=>uV (uO (uO uN 0 (.ptr 30 0)) 1 (.sl 101 8 0 b.length)) 4 (tI i)) (fun (i:Nat)=>uK (uK (uK (uK (upd uN 30 (some ((bgT (.own (.sl 11 1 0 (n+2*i))) (.own (.sl 12 1 0 2)))))) 11 22 1 false (rV tH (us++hdz (b.take i)))) 12 38 1 false [.own (.sl 100 8 0 a.length),.own (.sl 101 8 0 b.length)]) 100 55 8 true (rV tZe a)) 101 55 8 true (rV tZe b)) [30,11,12,100,101,31,33,100,101,102] (fun (i:Nat)=>b.length - i) (0) (zbt _) (hh:=(SubK.cons rfl (SubK.cons rfl (SubK.cons rfl ((zaq rfl (zat (by simp [hdz]))) (SubK.cons rfl zax)))))) ?_;intro i hI;refine A9 ?_;refine x9 rfl (fun h477=> ?_) (fun h477=> ?_)
 ·
  refine A8 ?_;refine R2 (zag sl38 rfl) rfl rfl (RE (xa5 (i) ti55 (xc3 (d:=ze0) (by omega)) (by omega)) qA qA trivial (RE (xo8 (zaa 32 12 (zaa 30 30 (zaa 11 26 (zab 31 11)))) (qc5 (us++hdz (b.take i)) (us++hdz (b.take (i+1))) (b.getD i ze0) (n+2*i) 2 (by rw [zbm,yu9 (by omega),hn]) (by rw [yw8 (by omega),zdg]) (by omega)) fi91 rfl (krC (ρ:=(zaa 32 12 (zaa 30 30 (zaa 11 26 (zab 31 11))))) (k:=30) rfl (krC (ρ:=(zaa 32 12 (zaa 30 30 (zaa 11 26 (zab 31 11))))) (k:=31) x8 (krN (ρ:=(zaa 32 12 (zaa 30 30 (zaa 11 26 (zab 31 11)))))))) (krC (ρ:=(zaa 32 12 (zaa 30 30 (zaa 11 26 (zab 31 11))))) (k:=30) rfl (krC (ρ:=(zaa 32 12 (zaa 30 30 (zaa 11 26 (zab 31 11))))) (k:=11) x8 (krN (ρ:=(zaa 32 12 (zaa 30 30 (zaa 11 26 (zab 31 11)))))))) (K:=[(32,⟨38,1,false,[.own (.sl 100 8 0 a.length),.own (.sl 101 8 0 b.length)]⟩)]) [] ⟨⟨rfl,SupX.lit rfl⟩,⟨rfl,x6⟩,trivial⟩ rfl rfl) qB qC qA ?_));refine A8 ?_;exact xe3 (l:=[30,11,12,100,101,31,33,100,101,102]) (zab 11 26) (i+1) ⟨(by omega),(by omega)⟩ (zaf rfl (zas rfl (zas rfl zbd))) ((zbb rfl (zat x8.symm)) ((zbb rfl (zat x8.symm)) ((zbb rfl (zat rfl)) ((zbb rfl (zat x8.symm)) ((zbb rfl (zat rfl)) zbe))))) (zaj (zak rfl (zak rfl zar))) (zam rfl (supJ x6) (zam rfl (supJ x6) (zam rfl (supJL rfl) (zam rfl (supJ x6) (zam rfl (supJL rfl) zaz))))) (lkOk rfl) rfl rfl (fun _ h=>by cases h)
 ·
  refine A4 ?_;have hil:i=b.length:=by omega
  subst hil;rw [zcf,<-hw];exact xg2 LentC.mk' rfl (.inr rfl) ⟨rfl,rfl,rfl,rfl,rfl,trivial⟩ ⟨⟨rfl,(SupX.lit rfl)⟩,⟨rfl,x6⟩,⟨rfl,(SupX.lit rfl)⟩,⟨rfl,x6⟩,⟨rfl,x6⟩,trivial⟩ rfl
theorem wf5 (us ws:List Hd) (a:List Ze) (b:List Ze) (c:List Ze) (n:Nat) (hn:us.length=n) (hw:ws=us++hdz c) (hl:n<=50000) (hz:c.length<=10000):
  CtG Tryz.prog 63 [(30,(bgT (.own (.sl 31 1 0 n)) (.own (.sl 33 1 0 2)))),(31,⟨22,1,false,rV tH us⟩),(33,⟨38,1,false,[.own (.sl 100 8 0 a.length),.own (.sl 101 8 0 b.length)]⟩),(100,⟨55,8,true,rV tZe a⟩),(101,⟨55,8,true,rV tZe b⟩),(102,⟨55,8,true,rV tZe c⟩)] [.own (.ptr 30 0),.own (.sl 102 8 0 c.length)] (.val (tT [])) [(30,(bgT (.own (.sl 11 1 0 (n+2*c.length))) (.own (.sl 12 1 0 3)))),(11,⟨22,1,false,rV tH ws⟩),(12,⟨38,1,false,[.own (.sl 100 8 0 a.length),.own (.sl 101 8 0 b.length),.own (.sl 102 8 0 c.length)]⟩),(100,⟨55,8,true,rV tZe a⟩),(101,⟨55,8,true,rV tZe b⟩),(102,⟨55,8,true,rV tZe c⟩)] [11,12]:=by
 refine CtG.intro [30,31,33,100,101,102] func63 rfl ntmps63 rfl rfl ⟨⟨rfl,(SupX.lit rfl)⟩,⟨rfl,x6⟩,⟨rfl,(SupX.lit rfl)⟩,⟨rfl,x6⟩,⟨rfl,x6⟩,⟨rfl,x6⟩,trivial⟩ ?_;intro w F η;refine A6 ?_;refine RE (xa5 (8) ti56 rfl rfl) qA qA trivial ?_;refine A1 ?_;refine RE (xj0 (k:=10) (ents:=[.own (.sl 102 8 0 c.length)]) zgr el38 zf38 rfl (by intro e he;rw [zbj.1 he];infer_instance) rfl rfl rfl) ⟨rfl,trivial⟩ trivial ⟨rfl,trivial⟩ (RE (yj1 (k:=33) (k2:=10) (k':=12) (n:=2) (e:= .own (.sl 102 8 0 c.length)) zgr el38 zf38 rfl rfl rfl (by decide) (by decide) rfl) ⟨rfl,rfl,trivial⟩ ⟨rfl,rfl,trivial⟩ ⟨rfl,trivial⟩ ?_);refine A2 ?_;refine RE (xc1 (es:=1) (agg:=false) (e:= .own (.sl 12 1 0 3)) (8) ti56 rfl rfl rfl) qB qA trivial ?_;refine A3 ?_;refine zw5 (k:=31) (q:=30) 11 0 rfl rfl rfl (by decide) rfl ?_;refine A5 ?_;refine cL (fun (i:Nat)=>i<=c.length) (fun (i:Nat)=>uV (uO (uO uN 0 (.ptr 30 0)) 1 (.sl 102 8 0 c.length)) 4 (tI i)) (fun (i:Nat)=>uK (uK (uK (uK (uK (upd uN 30 (some ((bgT (.own (.sl 11 1 0 (n+2*i))) (.own (.sl 12 1 0 3)))))) 11 22 1 false (rV tH (us++hdz (c.take i)))) 12 38 1 false [.own (.sl 100 8 0 a.length),.own (.sl 101 8 0 b.length),.own (.sl 102 8 0 c.length)]) 100 55 8 true (rV tZe a)) 101 55 8 true (rV tZe b)) 102 55 8 true (rV tZe c)) [30,11,12,100,101,102,31,33,100,101,102] (fun (i:Nat)=>c.length - i) (0) (zbt _) (hh:=(SubK.cons rfl (SubK.cons rfl (SubK.cons rfl (SubK.cons rfl ((zaq rfl (zat (by simp [hdz]))) (SubK.cons rfl zax))))))) ?_;intro i hI;refine A9 ?_;refine x9 rfl (fun h477=> ?_) (fun h477=> ?_)
 ·
  refine A8 ?_;refine R2 (zag sl38 rfl) rfl rfl (RE (xa5 (i) ti55 (xc3 (d:=ze0) (by omega)) (by omega)) qA qA trivial (RE (xo8 (zaa 32 12 (zaa 30 30 (zaa 11 26 (zab 31 11)))) (qc5 (us++hdz (c.take i)) (us++hdz (c.take (i+1))) (c.getD i ze0) (n+2*i) 3 (by rw [zbm,yu9 (by omega),hn]) (by rw [yw8 (by omega),zdg]) (by omega)) fi91 rfl (krC (ρ:=(zaa 32 12 (zaa 30 30 (zaa 11 26 (zab 31 11))))) (k:=30) rfl (krC (ρ:=(zaa 32 12 (zaa 30 30 (zaa 11 26 (zab 31 11))))) (k:=31) x8 (krN (ρ:=(zaa 32 12 (zaa 30 30 (zaa 11 26 (zab 31 11)))))))) (krC (ρ:=(zaa 32 12 (zaa 30 30 (zaa 11 26 (zab 31 11))))) (k:=30) rfl (krC (ρ:=(zaa 32 12 (zaa 30 30 (zaa 11 26 (zab 31 11))))) (k:=11) x8 (krN (ρ:=(zaa 32 12 (zaa 30 30 (zaa 11 26 (zab 31 11)))))))) (K:=[(32,⟨38,1,false,[.own (.sl 100 8 0 a.length),.own (.sl 101 8 0 b.length),.own (.sl 102 8 0 c.length)]⟩)]) [] ⟨⟨rfl,SupX.lit rfl⟩,⟨rfl,x6⟩,trivial⟩ rfl rfl) qB qC qA ?_));refine A8 ?_;exact xe3 (l:=[30,11,12,100,101,102,31,33,100,101,102]) (zab 11 26) (i+1) ⟨(by omega),(by omega)⟩ (zaf rfl (zas rfl (zas rfl zbd))) ((zbb rfl (zat x8.symm)) ((zbb rfl (zat x8.symm)) ((zbb rfl (zat x8.symm)) ((zbb rfl (zat rfl)) ((zbb rfl (zat x8.symm)) ((zbb rfl (zat rfl)) zbe)))))) (zaj (zak rfl (zak rfl zar))) (zam rfl (supJ x6) (zam rfl (supJ x6) (zam rfl (supJ x6) (zam rfl (supJL rfl) (zam rfl (supJ x6) (zam rfl (supJL rfl) zaz)))))) (lkOk rfl) rfl rfl (fun _ h=>by cases h)
 ·
  refine A4 ?_;have hil:i=c.length:=by omega
  subst hil;rw [zcf,<-hw];exact xg2 LentC.mk' rfl (.inr rfl) ⟨rfl,rfl,rfl,rfl,rfl,rfl,trivial⟩ ⟨⟨rfl,(SupX.lit rfl)⟩,⟨rfl,x6⟩,⟨rfl,(SupX.lit rfl)⟩,⟨rfl,x6⟩,⟨rfl,x6⟩,⟨rfl,x6⟩,trivial⟩ rfl
instance ti96:TyI Tryz.prog 96 1 false:=⟨by kernel_rfl,by kernel_rfl⟩
instance ti97:TyI Tryz.prog 97 1 false:=⟨by kernel_rfl,by kernel_rfl⟩
instance ti98:TyI Tryz.prog 98 1 false:=⟨by kernel_rfl,by kernel_rfl⟩
instance ti99:TyI Tryz.prog 99 1 false:=⟨by kernel_rfl,by kernel_rfl⟩
instance ti100:TyI Tryz.prog 100 1 false:=⟨by kernel_rfl,by kernel_rfl⟩
instance ti101:TyI Tryz.prog 101 1 false:=⟨by kernel_rfl,by kernel_rfl⟩
instance ti102:TyI Tryz.prog 102 1 false:=⟨by kernel_rfl,by kernel_rfl⟩
instance ti103:TyI Tryz.prog 103 1 false:=⟨by kernel_rfl,by kernel_rfl⟩
instance ti104:TyI Tryz.prog 104 1 false:=⟨by kernel_rfl,by kernel_rfl⟩
instance ti105:TyI Tryz.prog 105 1 false:=⟨by kernel_rfl,by kernel_rfl⟩
instance ti106:TyI Tryz.prog 106 1 false:=⟨by kernel_rfl,by kernel_rfl⟩
instance ti107:TyI Tryz.prog 107 1 false:=⟨by kernel_rfl,by kernel_rfl⟩
instance ti108:TyI Tryz.prog 108 1 false:=⟨by kernel_rfl,by kernel_rfl⟩
instance ti109:TyI Tryz.prog 109 1 false:=⟨by kernel_rfl,by kernel_rfl⟩
instance ti110:TyI Tryz.prog 110 1 false:=⟨by kernel_rfl,by kernel_rfl⟩
instance ti111:TyI Tryz.prog 111 1 false:=⟨by kernel_rfl,by kernel_rfl⟩
instance ti112:TyI Tryz.prog 112 1 false:=⟨by kernel_rfl,by kernel_rfl⟩
instance ti113:TyI Tryz.prog 113 1 false:=⟨by kernel_rfl,by kernel_rfl⟩
instance ti114:TyI Tryz.prog 114 1 false:=⟨by kernel_rfl,by kernel_rfl⟩
instance ti115:TyI Tryz.prog 115 1 false:=⟨by kernel_rfl,by kernel_rfl⟩
instance ti116:TyI Tryz.prog 116 1 false:=⟨by kernel_rfl,by kernel_rfl⟩
instance fo118_1:FoI Tryz.prog 118 1 1:=⟨by kernel_rfl⟩
instance fo118_2:FoI Tryz.prog 118 2 2:=⟨by kernel_rfl⟩
instance fo118_3:FoI Tryz.prog 118 3 3:=⟨by kernel_rfl⟩
instance fo118_4:FoI Tryz.prog 118 4 4:=⟨by kernel_rfl⟩
instance fo118_5:FoI Tryz.prog 118 5 5:=⟨by kernel_rfl⟩
instance fo118_6:FoI Tryz.prog 118 6 6:=⟨by kernel_rfl⟩
instance fo118_7:FoI Tryz.prog 118 7 7:=⟨by kernel_rfl⟩
instance fo118_9:FoI Tryz.prog 118 9 9:=⟨by kernel_rfl⟩
instance fo118_10:FoI Tryz.prog 118 10 10:=⟨by kernel_rfl⟩
instance fo118_11:FoI Tryz.prog 118 11 11:=⟨by kernel_rfl⟩
instance fo118_12:FoI Tryz.prog 118 12 12:=⟨by kernel_rfl⟩
instance fo118_13:FoI Tryz.prog 118 13 13:=⟨by kernel_rfl⟩
instance fo118_14:FoI Tryz.prog 118 14 14:=⟨by kernel_rfl⟩
instance fo118_15:FoI Tryz.prog 118 15 15:=⟨by kernel_rfl⟩
instance fo118_16:FoI Tryz.prog 118 16 16:=⟨by kernel_rfl⟩
instance fo118_17:FoI Tryz.prog 118 17 17:=⟨by kernel_rfl⟩
instance fo118_18:FoI Tryz.prog 118 18 18:=⟨by kernel_rfl⟩
instance fo118_19:FoI Tryz.prog 118 19 19:=⟨by kernel_rfl⟩
instance fo118_20:FoI Tryz.prog 118 20 20:=⟨by kernel_rfl⟩
instance fo118_21:FoI Tryz.prog 118 21 21:=⟨by kernel_rfl⟩
instance fo118_22:FoI Tryz.prog 118 22 22:=⟨by kernel_rfl⟩
instance fi63:FnI Tryz.prog 63:=⟨_,func63,by kernel_rfl,rfl⟩
instance fi64:FnI Tryz.prog 64:=⟨_,func64,by kernel_rfl,rfl⟩
instance fi92:FnI Tryz.prog 92:=⟨_,func92,by kernel_rfl,rfl⟩
instance fi93:FnI Tryz.prog 93:=⟨_,func93,by kernel_rfl,rfl⟩
instance fi94:FnI Tryz.prog 94:=⟨_,func94,by kernel_rfl,rfl⟩
instance fi95:FnI Tryz.prog 95:=⟨_,func95,by kernel_rfl,rfl⟩
instance fi96:FnI Tryz.prog 96:=⟨_,func96,by kernel_rfl,rfl⟩
instance fi97:FnI Tryz.prog 97:=⟨_,func97,by kernel_rfl,rfl⟩
instance fi98:FnI Tryz.prog 98:=⟨_,func98,by kernel_rfl,rfl⟩
instance fi99:FnI Tryz.prog 99:=⟨_,func99,by kernel_rfl,rfl⟩
instance fi100:FnI Tryz.prog 100:=⟨_,func100,by kernel_rfl,rfl⟩
instance fi101:FnI Tryz.prog 101:=⟨_,func101,by kernel_rfl,rfl⟩
instance fi102:FnI Tryz.prog 102:=⟨_,func102,by kernel_rfl,rfl⟩
instance fi103:FnI Tryz.prog 103:=⟨_,func103,by kernel_rfl,rfl⟩
instance fi104:FnI Tryz.prog 104:=⟨_,func104,by kernel_rfl,rfl⟩
instance fi105:FnI Tryz.prog 105:=⟨_,func105,by kernel_rfl,rfl⟩
instance fi106:FnI Tryz.prog 106:=⟨_,func106,by kernel_rfl,rfl⟩
instance fi107:FnI Tryz.prog 107:=⟨_,func107,by kernel_rfl,rfl⟩
instance fi108:FnI Tryz.prog 108:=⟨_,func108,by kernel_rfl,rfl⟩
instance fi109:FnI Tryz.prog 109:=⟨_,func109,by kernel_rfl,rfl⟩
instance fi110:FnI Tryz.prog 110:=⟨_,func110,by kernel_rfl,rfl⟩
instance fi111:FnI Tryz.prog 111:=⟨_,func111,by kernel_rfl,rfl⟩
instance fi112:FnI Tryz.prog 112:=⟨_,func112,by kernel_rfl,rfl⟩
instance fi113:FnI Tryz.prog 113:=⟨_,func113,by kernel_rfl,rfl⟩
instance fi114:FnI Tryz.prog 114:=⟨_,func114,by kernel_rfl,rfl⟩
theorem zu5 (a b c:List Ze) (ha:a.length<=1000000) (hb:b.length<=1000000) (hc:c.length<=1000000):
  CtG Tryz.prog 100 [(20,⟨38,1,false,[.own (.sl 100 8 0 a.length),.own (.sl 101 8 0 b.length),.own (.sl 102 8 0 c.length)]⟩),(100,rST a),(101,rST b),(102,rST c)] [.own (.sl 20 1 0 3)] (.val (tB true)) [] []:=
 zt7 3 (sel3 a b c) (by decide) fun j=>match j with
  | 0=>ha
  | 1=>hb
  | _+2=>hc
abbrev XJ (V:Dom) (us:List (Hd×List Nat)):OvJ:=XI 140 V us
theorem yd4 {α:Type} {f:α->Ty} {xs:List α} (hf: ∀x,Free (f x)): ∀e∈rV f xs,Wk e e:=fun e he=>by
 obtain ⟨x,_,rfl⟩:=zci.1 he;exact .val zao (hf x)
theorem Free.Sf {fs:List Fd} (h: ∀f∈fs,Free f.t):Free (tS fs):=fun F F' w w' v ⟨cs,h1,h2,h3⟩=>⟨cs,h1,h2,by
 have key: ∀(fs:List Fd) (o:Nat),(∀f∈fs,Free f.t)->Fd.all F w cs o fs->Fd.all F' w' cs o fs:=by
  intro fs
  induction fs with
  | nil=>intro _ _ _;trivial
  | cons f r ih=>intro o h ha;exact ⟨⟨ha.1.1,h f (by simp) _ _ _ _ _ ha.1.2⟩,ih _ (fun g hg=>h g (by simp [hg])) ha.2⟩
 exact key fs 0 h h3⟩
theorem Free.ze {z:Ze}:Free (tZe z):=Free.Sf fun f hf=>by
 simp only [zbr,zdf,or_false] at hf;rcases hf with rfl | rfl | rfl
 ·exact Free.E
 ·exact Free.E
 ·refine Free.Sf fun f hf=> ?_;simp only [zbr,zdf,or_false] at hf;rcases hf with rfl | rfl | rfl
  ·exact Free.E
  ·refine Free.Sf fun f hf=> ?_;simp only [zbr,zdf,or_false] at hf;rcases hf with rfl | rfl <;> exact Free.Sf fun f hf=>by
    simp only [zbr,zdf,or_false] at hf;rcases hf with rfl | rfl <;> exact Free.E
  ·exact Free.E
theorem wk_bag {k l:Nat} {n m:Nat}: ∀e∈(bgT (.own (.sl k 1 0 n)) (.own (.sl l 1 0 m))).ts,Wk e e:=fun e he=>by
 simp only [zbr,zdf,or_false] at he;rcases he with rfl | rfl | rfl | rfl | rfl | rfl | rfl | rfl | rfl | rfl | rfl | rfl | rfl | rfl | rfl | rfl | rfl | rfl | rfl | rfl | rfl | rfl | rfl <;> first | exact .sl | exact .val zao Free.E
theorem wi9 {a b c:List Ze}: ∀e∈([.own (.sl 100 8 0 a.length),.own (.sl 101 8 0 b.length),.own (.sl 102 8 0 c.length)]:List Ent),Wk e e:=fun e he=>by
 simp only [zbr,zdf,or_false] at he;rcases he with rfl | rfl | rfl <;> exact .sl
theorem jo1 (V:Dom) (us:List (Hd×List Nat)) (ws:List Hd) (n:Nat) (a b c:List Ze) (hn:us.length=n) (hws:us.map (·.1)=ws) (hsep:SepH ws) (hu:n<=900) (hul: ∀j,((us.getD j hd0).2).length<=1000000) (ha:a.length<=10000) (hb:b.length<=10000) (hc:c.length<=10000):
  CtU Tryz.prog (XJ V us) 64 [(30,(bgT (.own (.sl 31 1 0 n)) (.own (.sl 32 1 0 3)))),(31,⟨22,1,false,rV tH ws⟩),(32,⟨38,1,false,[.own (.sl 100 8 0 a.length),.own (.sl 101 8 0 b.length),.own (.sl 102 8 0 c.length)]⟩),(100,⟨55,8,true,rV tZe a⟩),(101,⟨55,8,true,rV tZe b⟩),(102,⟨55,8,true,rV tZe c⟩)] [.own (.ptr 30 0)] 0 1 (.bool true):=by
 subst hn;subst hws;refine CtU.intro 99 [30,31,32,100,101,102] func64 rfl ntmps64 rfl rfl ⟨⟨rfl,(SupX.lit rfl)⟩,⟨rfl,x6⟩,⟨rfl,(SupX.lit rfl)⟩,⟨rfl,x6⟩,⟨rfl,x6⟩,⟨rfl,x6⟩,trivial⟩ rfl ?_;intro w η hU;refine A6 ?_;dsimp only [List.append];refine A5 ?_;refine RE (wc2 (q:=31) hU (qb9 us.length (fun j=>(us.getD j hd0).2) hu hul) fi92 hsep) ⟨rfl,trivial⟩ ⟨rfl,rfl,trivial⟩ trivial ?_;refine A2 ?_;refine RGon rfl rfl xc5 rfl ⟨rfl,trivial⟩ trivial trivial ?_;refine A1 ?_;refine RGon rfl rfl (xa5 (1) ti96 rfl rfl) rfl ⟨rfl,trivial⟩ ⟨rfl,trivial⟩ trivial ?_;refine RGon rfl rfl (xd5 (ts:=[tE (.slice none 0 0)]) qg2 fi93 rfl ⟨leNil rfl,trivial⟩) rfl ⟨rfl,trivial⟩ trivial trivial ?_;refine A3 ?_;refine RGon rfl rfl xc5 rfl ⟨rfl,trivial⟩ trivial trivial ?_;refine A1 ?_;refine RGon rfl rfl (xa5 (2) ti97 rfl rfl) rfl ⟨rfl,trivial⟩ ⟨rfl,trivial⟩ trivial ?_;refine RGon rfl rfl (xd5 (ts:=[tE (.slice none 0 0)]) zr8 fi94 rfl ⟨leNil rfl,trivial⟩) rfl ⟨rfl,trivial⟩ trivial trivial ?_;refine A3 ?_;refine RGon rfl rfl xc5 rfl ⟨rfl,trivial⟩ trivial trivial ?_;refine A1 ?_;refine RGon rfl rfl (xa5 (3) ti98 rfl rfl) rfl ⟨rfl,trivial⟩ ⟨rfl,trivial⟩ trivial ?_;refine RGon rfl rfl (xd5 (ts:=[tE (.slice none 0 0)]) qa6 fi95 rfl ⟨leNil rfl,trivial⟩) rfl ⟨rfl,trivial⟩ trivial trivial ?_;refine A3 ?_;refine RGon rfl rfl xc5 rfl ⟨rfl,trivial⟩ trivial trivial ?_;refine A1 ?_;refine RGon rfl rfl (xa5 (4) ti99 rfl rfl) rfl ⟨rfl,trivial⟩ ⟨rfl,trivial⟩ trivial ?_;refine RGon rfl rfl (xd5 (ts:=[tE (.slice none 0 0)]) zq5 fi96 rfl ⟨leNil rfl,trivial⟩) rfl ⟨rfl,trivial⟩ trivial trivial ?_;refine A3 ?_;refine RGon rfl rfl xc5 rfl ⟨rfl,trivial⟩ trivial trivial ?_;refine A1 ?_;refine RGon rfl rfl (xa5 (5) ti100 rfl rfl) rfl ⟨rfl,trivial⟩ ⟨rfl,trivial⟩ trivial ?_;refine RGon rfl rfl (xd5 (ts:=[tE (.slice none 0 0)]) zv7 fi97 rfl ⟨leNil rfl,trivial⟩) rfl ⟨rfl,trivial⟩ trivial trivial ?_;refine A3 ?_;refine RGon rfl rfl xc5 rfl ⟨rfl,trivial⟩ trivial trivial ?_;refine A1 ?_;refine RGon rfl rfl (xa5 (6) ti101 rfl rfl) rfl ⟨rfl,trivial⟩ ⟨rfl,trivial⟩ trivial ?_;refine RGon rfl rfl (xd5 (ts:=[tE (.slice none 0 0)]) zq3 fi98 rfl ⟨leNil rfl,trivial⟩) rfl ⟨rfl,trivial⟩ trivial trivial ?_;refine A3 ?_;refine RGon rfl rfl xc5 rfl ⟨rfl,trivial⟩ trivial trivial ?_;refine A1 ?_;refine RGon rfl rfl (xa5 (7) ti102 rfl rfl) rfl ⟨rfl,trivial⟩ ⟨rfl,trivial⟩ trivial ?_;refine RGon rfl rfl (xd5 (ts:=[tE (.slice none 0 0)]) zt5 fi99 rfl ⟨leNil rfl,trivial⟩) rfl ⟨rfl,trivial⟩ trivial trivial ?_;refine A3 ?_;refine RGon rfl rfl xc5 rfl ⟨rfl,trivial⟩ trivial trivial ?_;refine A1 ?_;refine RGon rfl rfl (xa5 (8) ti56 rfl rfl) rfl ⟨rfl,trivial⟩ ⟨rfl,trivial⟩ trivial ?_;refine RGon rfl rfl (xb7 (fun j=>cond (Nat.beq j 101) 101 (cond (Nat.beq j 100) 100 (cond (Nat.beq j 20) 32 (102)))) (zu5 a b c (by omega) (by omega) (by omega)) fi100 rfl (krC (ρ:=fun j=>cond (Nat.beq j 101) 101 (cond (Nat.beq j 100) 100 (cond (Nat.beq j 20) 32 (102)))) (k:=20) rfl (krC (ρ:=fun j=>cond (Nat.beq j 101) 101 (cond (Nat.beq j 100) 100 (cond (Nat.beq j 20) 32 (102)))) (k:=100) x8 (krC (ρ:=fun j=>cond (Nat.beq j 101) 101 (cond (Nat.beq j 100) 100 (cond (Nat.beq j 20) 32 (102)))) (k:=101) x8 (krC (ρ:=fun j=>cond (Nat.beq j 101) 101 (cond (Nat.beq j 100) 100 (cond (Nat.beq j 20) 32 (102)))) (k:=102) x8 (krN (ρ:=fun j=>cond (Nat.beq j 101) 101 (cond (Nat.beq j 100) 100 (cond (Nat.beq j 20) 32 (102))))))))) (krN (ρ:=fun j=>cond (Nat.beq j 101) 101 (cond (Nat.beq j 100) 100 (cond (Nat.beq j 20) 32 (102))))) trivial rfl) rfl ⟨rfl,trivial⟩ ⟨rfl,rfl,rfl,rfl,trivial⟩ trivial ?_;refine A3 ?_;refine RGon rfl rfl xc5 rfl ⟨rfl,trivial⟩ trivial trivial ?_;refine A1 ?_;refine RGon rfl rfl (xa5 (9) ti103 rfl rfl) rfl ⟨rfl,trivial⟩ ⟨rfl,trivial⟩ trivial ?_;refine RGon rfl rfl (xd5 (ts:=[tE (.slice none 0 0)]) zs7 fi101 rfl ⟨leNil rfl,trivial⟩) rfl ⟨rfl,trivial⟩ trivial trivial ?_;refine A3 ?_;refine RGon rfl rfl xc5 rfl ⟨rfl,trivial⟩ trivial trivial ?_;refine A1 ?_;refine RGon rfl rfl (xa5 (10) ti104 rfl rfl) rfl ⟨rfl,trivial⟩ ⟨rfl,trivial⟩ trivial ?_
 refine RGon rfl rfl (xd5 (ts:=[tE (.slice none 0 0)]) qg0 fi102 rfl ⟨leNil rfl,trivial⟩) rfl ⟨rfl,trivial⟩ trivial trivial ?_;refine A3 ?_;refine RGon rfl rfl xc5 rfl ⟨rfl,trivial⟩ trivial trivial ?_;refine A1 ?_;refine RGon rfl rfl (xa5 (11) ti105 rfl rfl) rfl ⟨rfl,trivial⟩ ⟨rfl,trivial⟩ trivial ?_;refine RGon rfl rfl (xd5 (ts:=[tE (.slice none 0 0)]) zq9 fi103 rfl ⟨leNil rfl,trivial⟩) rfl ⟨rfl,trivial⟩ trivial trivial ?_;refine A3 ?_;refine RGon rfl rfl xc5 rfl ⟨rfl,trivial⟩ trivial trivial ?_;refine A1 ?_;refine RGon rfl rfl (xa5 (12) ti106 rfl rfl) rfl ⟨rfl,trivial⟩ ⟨rfl,trivial⟩ trivial ?_;refine RGon rfl rfl (xd5 (ts:=[tE (.slice none 0 0)]) qd5 fi104 rfl ⟨leNil rfl,trivial⟩) rfl ⟨rfl,trivial⟩ trivial trivial ?_;refine A3 ?_;refine RGon rfl rfl xc5 rfl ⟨rfl,trivial⟩ trivial trivial ?_;refine A1 ?_;refine RGon rfl rfl (xa5 (13) ti107 rfl rfl) rfl ⟨rfl,trivial⟩ ⟨rfl,trivial⟩ trivial ?_;refine RGon rfl rfl (xd5 (ts:=[tE (.slice none 0 0)]) zg3 fi105 rfl ⟨leNil rfl,trivial⟩) rfl ⟨rfl,trivial⟩ trivial trivial ?_;refine A3 ?_;refine RGon rfl rfl xc5 rfl ⟨rfl,trivial⟩ trivial trivial ?_;refine A1 ?_;refine RGon rfl rfl (xa5 (14) ti108 rfl rfl) rfl ⟨rfl,trivial⟩ ⟨rfl,trivial⟩ trivial ?_;refine RGon rfl rfl (xd5 (ts:=[tE (.slice none 0 0)]) qe3 fi106 rfl ⟨leNil rfl,trivial⟩) rfl ⟨rfl,trivial⟩ trivial trivial ?_;refine A3 ?_;refine RGon rfl rfl xc5 rfl ⟨rfl,trivial⟩ trivial trivial ?_;refine A1 ?_;refine RGon rfl rfl (xa5 (15) ti109 rfl rfl) rfl ⟨rfl,trivial⟩ ⟨rfl,trivial⟩ trivial ?_;refine RGon rfl rfl (xd5 (ts:=[tE (.slice none 0 0)]) qd6 fi107 rfl ⟨leNil rfl,trivial⟩) rfl ⟨rfl,trivial⟩ trivial trivial ?_;refine A3 ?_;refine RGon rfl rfl xc5 rfl ⟨rfl,trivial⟩ trivial trivial ?_;refine A1 ?_;refine RGon rfl rfl (xa5 (16) ti110 rfl rfl) rfl ⟨rfl,trivial⟩ ⟨rfl,trivial⟩ trivial ?_;refine RGon rfl rfl (xd5 (ts:=[tE (.slice none 0 0)]) zb2 fi108 rfl ⟨leNil rfl,trivial⟩) rfl ⟨rfl,trivial⟩ trivial trivial ?_;refine A3 ?_;refine RGon rfl rfl xc5 rfl ⟨rfl,trivial⟩ trivial trivial ?_;refine A1 ?_;refine RGon rfl rfl (xa5 (17) ti111 rfl rfl) rfl ⟨rfl,trivial⟩ ⟨rfl,trivial⟩ trivial ?_;refine RGon rfl rfl (xd5 (ts:=[tE (.slice none 0 0)]) zp8 fi109 rfl ⟨leNil rfl,trivial⟩) rfl ⟨rfl,trivial⟩ trivial trivial ?_;refine A3 ?_;refine RGon rfl rfl xc5 rfl ⟨rfl,trivial⟩ trivial trivial ?_;refine A1 ?_;refine RGon rfl rfl (xa5 (18) ti112 rfl rfl) rfl ⟨rfl,trivial⟩ ⟨rfl,trivial⟩ trivial ?_;refine RGon rfl rfl (xd5 (ts:=[tE (.slice none 0 0)]) zq8 fi110 rfl ⟨leNil rfl,trivial⟩) rfl ⟨rfl,trivial⟩ trivial trivial ?_;refine A3 ?_;refine RGon rfl rfl xc5 rfl ⟨rfl,trivial⟩ trivial trivial ?_;refine A1 ?_;refine RGon rfl rfl (xa5 (19) ti113 rfl rfl) rfl ⟨rfl,trivial⟩ ⟨rfl,trivial⟩ trivial ?_;refine RGon rfl rfl (xd5 (ts:=[tE (.slice none 0 0)]) zj4 fi111 rfl ⟨leNil rfl,trivial⟩) rfl ⟨rfl,trivial⟩ trivial trivial ?_;refine A3 ?_;refine RGon rfl rfl xc5 rfl ⟨rfl,trivial⟩ trivial trivial ?_;refine A1 ?_;refine RGon rfl rfl (xa5 (20) ti114 rfl rfl) rfl ⟨rfl,trivial⟩ ⟨rfl,trivial⟩ trivial ?_;refine RGon rfl rfl (xd5 (ts:=[tE (.slice none 0 0)]) qd7 fi112 rfl ⟨leNil rfl,trivial⟩) rfl ⟨rfl,trivial⟩ trivial trivial ?_;refine A3 ?_;refine RGon rfl rfl xc5 rfl ⟨rfl,trivial⟩ trivial trivial ?_;refine A1 ?_;refine RGon rfl rfl (xa5 (21) ti115 rfl rfl) rfl ⟨rfl,trivial⟩ ⟨rfl,trivial⟩ trivial ?_;refine RGon rfl rfl (xd5 (ts:=[tE (.slice none 0 0)]) zh9 fi113 rfl ⟨leNil rfl,trivial⟩) rfl ⟨rfl,trivial⟩ trivial trivial ?_;refine A3 ?_;refine RGon rfl rfl xc5 rfl ⟨rfl,trivial⟩ trivial trivial ?_;refine A1 ?_;refine RGon rfl rfl (xa5 (22) ti116 rfl rfl) rfl ⟨rfl,trivial⟩ ⟨rfl,trivial⟩ trivial ?_;refine RGon rfl rfl (xd5 (ts:=[tE (.slice none 0 0)]) zp7 fi114 rfl ⟨leNil rfl,trivial⟩) rfl ⟨rfl,trivial⟩ trivial trivial ?_;refine A5 ?_;exact jd5 hU rfl rfl rfl
theorem qa4 (V:Dom) (us:List (Hd×List Nat)) (a b c:List Ze) (hus:us.map (·.1)=(hdz a++hdz b++hdz c)) (hsep:SepH (hdz a++hdz b++hdz c)) (hu:us.length<=900) (hul: ∀j,((us.getD j hd0).2).length<=1000000) (ha:a.length<=10000) (hb:b.length<=10000) (hc:c.length<=10000):
  CtU Tryz.prog (XJ V us) 23 [(20,⟨38,1,false,[.own (.sl 100 8 0 a.length),.own (.sl 101 8 0 b.length),.own (.sl 102 8 0 c.length)]⟩),(100,⟨55,8,true,rV tZe a⟩),(101,⟨55,8,true,rV tZe b⟩),(102,⟨55,8,true,rV tZe c⟩)] [.own (.sl 20 1 0 3)] 0 1 (.bool true):=by
 refine CtU.intro 99 [20,100,101,102] func23 rfl ntmps23 rfl rfl ⟨⟨rfl,(SupX.lit rfl)⟩,⟨rfl,x6⟩,⟨rfl,x6⟩,⟨rfl,x6⟩,trivial⟩ rfl ?_;intro w η hU;refine A7 ?_;refine R0 (jp4 (vs:=[]) (r:= .agg #[.slice none 0 0,.slice none 0 0,.slice none 0 0,.slice none 0 0,.slice none 0 0,.slice none 0 0,.slice none 0 0,.slice none 0 0,.slice none 0 0,.slice none 0 0,.slice none 0 0,.slice none 0 0,.slice none 0 0,.slice none 0 0,.slice none 0 0,.slice none 0 0,.slice none 0 0,.slice none 0 0,.slice none 0 0,.slice none 0 0,.slice none 0 0,.slice none 0 0,.slice none 0 0]) rfl (fun w=>by kernel_rfl)) ?_;refine RE (d_boxC (k:=6) (n:=23) _ rfl rfl rfl rfl) ⟨rfl,trivial⟩ trivial ⟨rfl,trivial⟩ ?_;refine A5 ?_;refine yo1 (q:=6) 33 22 1 false 0 rfl rfl rfl rfl (fun _=>rfl) rfl rfl ?_;refine yo1 (q:=6) 34 38 1 false 8 rfl rfl rfl rfl (fun _=>rfl) rfl rfl ?_;refine A5 ?_;refine xv3 (ι:=Nat) (fun k=>k<=3) (selS [(upd (upd (upd (fun _=>none) 0 (some (.own (.sl 20 1 0 3)))) 3 (some (.own (.ptr 6 0)))) 4 (some (.val (tI 0)))),(upd (upd (upd (fun _=>none) 0 (some (.own (.sl 20 1 0 3)))) 3 (some (.own (.ptr 6 0)))) 4 (some (.val (tI 1)))),(upd (upd (upd (fun _=>none) 0 (some (.own (.sl 20 1 0 3)))) 3 (some (.own (.ptr 6 0)))) 4 (some (.val (tI 2))))] (upd (upd (upd (fun _=>none) 0 (some (.own (.sl 20 1 0 3)))) 3 (some (.own (.ptr 6 0)))) 4 (some (.val (tI 3))))) (selS [(upd (upd (upd (upd (upd (upd (upd (upd (fun _=>none) 6 (some ((bgT (.own (.sl 33 1 0 0)) (.own (.sl 34 1 0 0)))))) 33 (some (⟨22,1,false,rV tH ([]:List Hd)⟩))) 34 (some (⟨38,1,false,[]⟩))) 20 (some (⟨38,1,false,[.own (.sl 100 8 0 a.length),.own (.sl 101 8 0 b.length),.own (.sl 102 8 0 c.length)]⟩))) 100 (some (⟨55,8,true,rV tZe a⟩))) 101 (some (⟨55,8,true,rV tZe b⟩))) 102 (some (⟨55,8,true,rV tZe c⟩))) 99 (some (⟨0,1,false,[]⟩))),(upd (upd (upd (upd (upd (upd (upd (upd (fun _=>none) 6 (some ((bgT (.own (.sl 41 1 0 (0+2*a.length))) (.own (.sl 51 1 0 1)))))) 41 (some (⟨22,1,false,rV tH (hdz a)⟩))) 51 (some (⟨38,1,false,[.own (.sl 100 8 0 a.length)]⟩))) 20 (some (⟨38,1,false,[.own (.sl 100 8 0 a.length),.own (.sl 101 8 0 b.length),.own (.sl 102 8 0 c.length)]⟩))) 100 (some (⟨55,8,true,rV tZe a⟩))) 101 (some (⟨55,8,true,rV tZe b⟩))) 102 (some (⟨55,8,true,rV tZe c⟩))) 99 (some (⟨0,1,false,[]⟩))),(upd (upd (upd (upd (upd (upd (upd (upd (fun _=>none) 6 (some ((bgT (.own (.sl 42 1 0 ((0+2*a.length)+2*b.length))) (.own (.sl 52 1 0 2)))))) 42 (some (⟨22,1,false,rV tH (hdz a++hdz b)⟩))) 52 (some (⟨38,1,false,[.own (.sl 100 8 0 a.length),.own (.sl 101 8 0 b.length)]⟩))) 20 (some (⟨38,1,false,[.own (.sl 100 8 0 a.length),.own (.sl 101 8 0 b.length),.own (.sl 102 8 0 c.length)]⟩))) 100 (some (⟨55,8,true,rV tZe a⟩))) 101 (some (⟨55,8,true,rV tZe b⟩))) 102 (some (⟨55,8,true,rV tZe c⟩))) 99 (some (⟨0,1,false,[]⟩)))] (upd (upd (upd (upd (upd (upd (upd (upd (fun _=>none) 6 (some ((bgT (.own (.sl 43 1 0 (((0+2*a.length)+2*b.length)+2*c.length))) (.own (.sl 53 1 0 3)))))) 43 (some (⟨22,1,false,rV tH (hdz a++hdz b++hdz c)⟩))) 53 (some (⟨38,1,false,[.own (.sl 100 8 0 a.length),.own (.sl 101 8 0 b.length),.own (.sl 102 8 0 c.length)]⟩))) 20 (some (⟨38,1,false,[.own (.sl 100 8 0 a.length),.own (.sl 101 8 0 b.length),.own (.sl 102 8 0 c.length)]⟩))) 100 (some (⟨55,8,true,rV tZe a⟩))) 101 (some (⟨55,8,true,rV tZe b⟩))) 102 (some (⟨55,8,true,rV tZe c⟩))) 99 (some (⟨0,1,false,[]⟩)))) (selS [((nm [6,33,34,20,100,101,102,99])),((nm [6,41,51,20,100,101,102,99,33,34])),((nm [6,42,52,20,100,101,102,99,33,34,41,51]))] ((nm [6,43,53,20,100,101,102,99,33,34,41,51,42,52]))) (fun k=>3 - k) 0 (zbt _) (zae rfl (zan rfl (zan rfl zay))) (SubK.cons rfl (SubK.cons rfl (SubK.cons rfl (SubK.cons rfl (SubK.cons rfl (SubK.cons rfl (SubK.cons rfl (SubK.cons rfl zax)))))))) (zaj (zak rfl (zak rfl zar))) (zam rfl (supJL rfl) (zam rfl (supJ x6) (zam rfl (supJ x6) (zam rfl (supJ x6) (zam rfl (supJL rfl) (zam rfl (supJL rfl) (zam rfl (supJ x6) (zam rfl (supJL rfl) zaz)))))))) (lkOk rfl) ?_;intro k hk;rcases (show k=0∨k=1∨k=2∨k=3 by omega) with rfl | rfl | rfl | rfl
 ·
  show wc _ _ _ _ (upd (upd (upd (fun _=>none) 0 (some (.own (.sl 20 1 0 3)))) 3 (some (.own (.ptr 6 0)))) 4 (some (.val (tI 0)))) (upd (upd (upd (upd (upd (upd (upd (upd (fun _=>none) 6 (some ((bgT (.own (.sl 33 1 0 0)) (.own (.sl 34 1 0 0)))))) 33 (some (⟨22,1,false,rV tH ([]:List Hd)⟩))) 34 (some (⟨38,1,false,[]⟩))) 20 (some (⟨38,1,false,[.own (.sl 100 8 0 a.length),.own (.sl 101 8 0 b.length),.own (.sl 102 8 0 c.length)]⟩))) 100 (some (⟨55,8,true,rV tZe a⟩))) 101 (some (⟨55,8,true,rV tZe b⟩))) 102 (some (⟨55,8,true,rV tZe c⟩))) 99 (some (⟨0,1,false,[]⟩))) (nm [6,33,34,20,100,101,102,99]);refine A9 ?_;refine yn3 rfl (zbf (by decide)) ?_;refine A8 ?_;refine R2 (zag sl56 rfl) rfl rfl ?_;refine RE (xa5 (0) ti38 rfl rfl) ⟨rfl,trivial⟩ ⟨rfl,trivial⟩ trivial ?_;refine RE (xb7 (fun j=>cond (Nat.beq j 101) 101 (cond (Nat.beq j 100) 100 (cond (Nat.beq j 33) 34 (cond (Nat.beq j 31) 33 (cond (Nat.beq j 30) 6 (cond (Nat.beq j 12) 51 (cond (Nat.beq j 11) 41 (102)))))))) (wi1 ([]:List Hd) (hdz a) a 0 (by simp) (by simp) (by omega) (by omega)) fi63 rfl (krC (ρ:=fun j=>cond (Nat.beq j 101) 101 (cond (Nat.beq j 100) 100 (cond (Nat.beq j 33) 34 (cond (Nat.beq j 31) 33 (cond (Nat.beq j 30) 6 (cond (Nat.beq j 12) 51 (cond (Nat.beq j 11) 41 (102)))))))) (k:=30) rfl (krC (ρ:=fun j=>cond (Nat.beq j 101) 101 (cond (Nat.beq j 100) 100 (cond (Nat.beq j 33) 34 (cond (Nat.beq j 31) 33 (cond (Nat.beq j 30) 6 (cond (Nat.beq j 12) 51 (cond (Nat.beq j 11) 41 (102)))))))) (k:=31) x8 (krC (ρ:=fun j=>cond (Nat.beq j 101) 101 (cond (Nat.beq j 100) 100 (cond (Nat.beq j 33) 34 (cond (Nat.beq j 31) 33 (cond (Nat.beq j 30) 6 (cond (Nat.beq j 12) 51 (cond (Nat.beq j 11) 41 (102)))))))) (k:=33) rfl (krC (ρ:=fun j=>cond (Nat.beq j 101) 101 (cond (Nat.beq j 100) 100 (cond (Nat.beq j 33) 34 (cond (Nat.beq j 31) 33 (cond (Nat.beq j 30) 6 (cond (Nat.beq j 12) 51 (cond (Nat.beq j 11) 41 (102)))))))) (k:=100) x8 (krN (ρ:=fun j=>cond (Nat.beq j 101) 101 (cond (Nat.beq j 100) 100 (cond (Nat.beq j 33) 34 (cond (Nat.beq j 31) 33 (cond (Nat.beq j 30) 6 (cond (Nat.beq j 12) 51 (cond (Nat.beq j 11) 41 (102))))))))))))) (krC (ρ:=fun j=>cond (Nat.beq j 101) 101 (cond (Nat.beq j 100) 100 (cond (Nat.beq j 33) 34 (cond (Nat.beq j 31) 33 (cond (Nat.beq j 30) 6 (cond (Nat.beq j 12) 51 (cond (Nat.beq j 11) 41 (102)))))))) (k:=30) rfl (krC (ρ:=fun j=>cond (Nat.beq j 101) 101 (cond (Nat.beq j 100) 100 (cond (Nat.beq j 33) 34 (cond (Nat.beq j 31) 33 (cond (Nat.beq j 30) 6 (cond (Nat.beq j 12) 51 (cond (Nat.beq j 11) 41 (102)))))))) (k:=11) x8 (krC (ρ:=fun j=>cond (Nat.beq j 101) 101 (cond (Nat.beq j 100) 100 (cond (Nat.beq j 33) 34 (cond (Nat.beq j 31) 33 (cond (Nat.beq j 30) 6 (cond (Nat.beq j 12) 51 (cond (Nat.beq j 11) 41 (102)))))))) (k:=12) rfl (krC (ρ:=fun j=>cond (Nat.beq j 101) 101 (cond (Nat.beq j 100) 100 (cond (Nat.beq j 33) 34 (cond (Nat.beq j 31) 33 (cond (Nat.beq j 30) 6 (cond (Nat.beq j 12) 51 (cond (Nat.beq j 11) 41 (102)))))))) (k:=100) x8 (krN (ρ:=fun j=>cond (Nat.beq j 101) 101 (cond (Nat.beq j 100) 100 (cond (Nat.beq j 33) 34 (cond (Nat.beq j 31) 33 (cond (Nat.beq j 30) 6 (cond (Nat.beq j 12) 51 (cond (Nat.beq j 11) 41 (102))))))))))))) ⟨⟨rfl,(SupX.lit rfl)⟩,⟨rfl,x6⟩,⟨rfl,(SupX.lit rfl)⟩,⟨rfl,x6⟩,trivial⟩ rfl) ⟨rfl,rfl,trivial⟩ ⟨rfl,rfl,rfl,rfl,trivial⟩ ⟨rfl,rfl,trivial⟩ ?_;refine A8 ?_;exact fun _ _ hs=>xt8 1 ⟨(by decide),(by decide)⟩ (zae rfl (zan rfl (zan rfl zay))) (SubK.cons rfl (SubK.cons rfl (SubK.cons rfl (SubK.cons rfl (SubK.cons rfl (SubK.cons rfl (SubK.cons rfl (SubK.cons rfl zax)))))))) (zaj (zak rfl (zak rfl zar))) (zam rfl (supJL rfl) (zam rfl (supJ x6) (zam rfl (supJ x6) (zam rfl (supJ x6) (zam rfl (supJL rfl) (zam rfl (supJL rfl) (zam rfl (supJ x6) (zam rfl (supJL rfl) zaz)))))))) (lkOk rfl) hs
 ·
  show wc _ _ _ _ (upd (upd (upd (fun _=>none) 0 (some (.own (.sl 20 1 0 3)))) 3 (some (.own (.ptr 6 0)))) 4 (some (.val (tI 1)))) (upd (upd (upd (upd (upd (upd (upd (upd (fun _=>none) 6 (some ((bgT (.own (.sl 41 1 0 (0+2*a.length))) (.own (.sl 51 1 0 1)))))) 41 (some (⟨22,1,false,rV tH (hdz a)⟩))) 51 (some (⟨38,1,false,[.own (.sl 100 8 0 a.length)]⟩))) 20 (some (⟨38,1,false,[.own (.sl 100 8 0 a.length),.own (.sl 101 8 0 b.length),.own (.sl 102 8 0 c.length)]⟩))) 100 (some (⟨55,8,true,rV tZe a⟩))) 101 (some (⟨55,8,true,rV tZe b⟩))) 102 (some (⟨55,8,true,rV tZe c⟩))) 99 (some (⟨0,1,false,[]⟩))) (nm [6,41,51,20,100,101,102,99,33,34]);refine A9 ?_;refine yn3 rfl (zbf (by decide)) ?_;refine A8 ?_;refine R2 (zag sl56 rfl) rfl rfl ?_;refine RE (xa5 (1) ti38 rfl rfl) ⟨rfl,trivial⟩ ⟨rfl,trivial⟩ trivial ?_;refine RE (xb7 (fun j=>cond (Nat.beq j 101) 101 (cond (Nat.beq j 100) 100 (cond (Nat.beq j 33) 51 (cond (Nat.beq j 31) 41 (cond (Nat.beq j 30) 6 (cond (Nat.beq j 12) 52 (cond (Nat.beq j 11) 42 (102)))))))) (wg0 (hdz a) (hdz a++hdz b) a b (0+2*a.length) (by simp [xq3]) (by simp) (by omega) (by omega)) fi63 rfl (krC (ρ:=fun j=>cond (Nat.beq j 101) 101 (cond (Nat.beq j 100) 100 (cond (Nat.beq j 33) 51 (cond (Nat.beq j 31) 41 (cond (Nat.beq j 30) 6 (cond (Nat.beq j 12) 52 (cond (Nat.beq j 11) 42 (102)))))))) (k:=30) rfl (krC (ρ:=fun j=>cond (Nat.beq j 101) 101 (cond (Nat.beq j 100) 100 (cond (Nat.beq j 33) 51 (cond (Nat.beq j 31) 41 (cond (Nat.beq j 30) 6 (cond (Nat.beq j 12) 52 (cond (Nat.beq j 11) 42 (102)))))))) (k:=31) x8 (krC (ρ:=fun j=>cond (Nat.beq j 101) 101 (cond (Nat.beq j 100) 100 (cond (Nat.beq j 33) 51 (cond (Nat.beq j 31) 41 (cond (Nat.beq j 30) 6 (cond (Nat.beq j 12) 52 (cond (Nat.beq j 11) 42 (102)))))))) (k:=33) rfl (krC (ρ:=fun j=>cond (Nat.beq j 101) 101 (cond (Nat.beq j 100) 100 (cond (Nat.beq j 33) 51 (cond (Nat.beq j 31) 41 (cond (Nat.beq j 30) 6 (cond (Nat.beq j 12) 52 (cond (Nat.beq j 11) 42 (102)))))))) (k:=100) x8 (krC (ρ:=fun j=>cond (Nat.beq j 101) 101 (cond (Nat.beq j 100) 100 (cond (Nat.beq j 33) 51 (cond (Nat.beq j 31) 41 (cond (Nat.beq j 30) 6 (cond (Nat.beq j 12) 52 (cond (Nat.beq j 11) 42 (102)))))))) (k:=101) x8 (krN (ρ:=fun j=>cond (Nat.beq j 101) 101 (cond (Nat.beq j 100) 100 (cond (Nat.beq j 33) 51 (cond (Nat.beq j 31) 41 (cond (Nat.beq j 30) 6 (cond (Nat.beq j 12) 52 (cond (Nat.beq j 11) 42 (102)))))))))))))) (krC (ρ:=fun j=>cond (Nat.beq j 101) 101 (cond (Nat.beq j 100) 100 (cond (Nat.beq j 33) 51 (cond (Nat.beq j 31) 41 (cond (Nat.beq j 30) 6 (cond (Nat.beq j 12) 52 (cond (Nat.beq j 11) 42 (102)))))))) (k:=30) rfl (krC (ρ:=fun j=>cond (Nat.beq j 101) 101 (cond (Nat.beq j 100) 100 (cond (Nat.beq j 33) 51 (cond (Nat.beq j 31) 41 (cond (Nat.beq j 30) 6 (cond (Nat.beq j 12) 52 (cond (Nat.beq j 11) 42 (102)))))))) (k:=11) x8 (krC (ρ:=fun j=>cond (Nat.beq j 101) 101 (cond (Nat.beq j 100) 100 (cond (Nat.beq j 33) 51 (cond (Nat.beq j 31) 41 (cond (Nat.beq j 30) 6 (cond (Nat.beq j 12) 52 (cond (Nat.beq j 11) 42 (102)))))))) (k:=12) rfl (krC (ρ:=fun j=>cond (Nat.beq j 101) 101 (cond (Nat.beq j 100) 100 (cond (Nat.beq j 33) 51 (cond (Nat.beq j 31) 41 (cond (Nat.beq j 30) 6 (cond (Nat.beq j 12) 52 (cond (Nat.beq j 11) 42 (102)))))))) (k:=100) x8 (krC (ρ:=fun j=>cond (Nat.beq j 101) 101 (cond (Nat.beq j 100) 100 (cond (Nat.beq j 33) 51 (cond (Nat.beq j 31) 41 (cond (Nat.beq j 30) 6 (cond (Nat.beq j 12) 52 (cond (Nat.beq j 11) 42 (102)))))))) (k:=101) x8 (krN (ρ:=fun j=>cond (Nat.beq j 101) 101 (cond (Nat.beq j 100) 100 (cond (Nat.beq j 33) 51 (cond (Nat.beq j 31) 41 (cond (Nat.beq j 30) 6 (cond (Nat.beq j 12) 52 (cond (Nat.beq j 11) 42 (102)))))))))))))) ⟨⟨rfl,(SupX.lit rfl)⟩,⟨rfl,x6⟩,⟨rfl,(SupX.lit rfl)⟩,⟨rfl,x6⟩,⟨rfl,x6⟩,trivial⟩ rfl) ⟨rfl,rfl,trivial⟩ ⟨rfl,rfl,rfl,rfl,rfl,trivial⟩ ⟨rfl,rfl,trivial⟩ ?_;refine A8 ?_;exact fun _ _ hs=>xt8 2 ⟨(by decide),(by decide)⟩ (zae rfl (zan rfl (zan rfl zay))) (SubK.cons rfl (SubK.cons rfl (SubK.cons rfl (SubK.cons rfl (SubK.cons rfl (SubK.cons rfl (SubK.cons rfl (SubK.cons rfl zax)))))))) (zaj (zak rfl (zak rfl zar))) (zam rfl (supJL rfl) (zam rfl (supJ x6) (zam rfl (supJ x6) (zam rfl (supJ x6) (zam rfl (supJL rfl) (zam rfl (supJL rfl) (zam rfl (supJ x6) (zam rfl (supJL rfl) zaz)))))))) (lkOk rfl) hs
 ·
  show wc _ _ _ _ (upd (upd (upd (fun _=>none) 0 (some (.own (.sl 20 1 0 3)))) 3 (some (.own (.ptr 6 0)))) 4 (some (.val (tI 2)))) (upd (upd (upd (upd (upd (upd (upd (upd (fun _=>none) 6 (some ((bgT (.own (.sl 42 1 0 ((0+2*a.length)+2*b.length))) (.own (.sl 52 1 0 2)))))) 42 (some (⟨22,1,false,rV tH (hdz a++hdz b)⟩))) 52 (some (⟨38,1,false,[.own (.sl 100 8 0 a.length),.own (.sl 101 8 0 b.length)]⟩))) 20 (some (⟨38,1,false,[.own (.sl 100 8 0 a.length),.own (.sl 101 8 0 b.length),.own (.sl 102 8 0 c.length)]⟩))) 100 (some (⟨55,8,true,rV tZe a⟩))) 101 (some (⟨55,8,true,rV tZe b⟩))) 102 (some (⟨55,8,true,rV tZe c⟩))) 99 (some (⟨0,1,false,[]⟩))) (nm [6,42,52,20,100,101,102,99,33,34,41,51]);refine A9 ?_;refine yn3 rfl (zbf (by decide)) ?_;refine A8 ?_;refine R2 (zag sl56 rfl) rfl rfl ?_;refine RE (xa5 (2) ti38 rfl rfl) ⟨rfl,trivial⟩ ⟨rfl,trivial⟩ trivial ?_;refine RE (xb7 (fun j=>cond (Nat.beq j 101) 101 (cond (Nat.beq j 100) 100 (cond (Nat.beq j 33) 52 (cond (Nat.beq j 31) 42 (cond (Nat.beq j 30) 6 (cond (Nat.beq j 12) 53 (cond (Nat.beq j 11) 43 (102)))))))) (wf5 (hdz a++hdz b) (hdz a++hdz b++hdz c) a b c ((0+2*a.length)+2*b.length) (by simp [xq3]) (by simp) (by omega) (by omega)) fi63 rfl (krC (ρ:=fun j=>cond (Nat.beq j 101) 101 (cond (Nat.beq j 100) 100 (cond (Nat.beq j 33) 52 (cond (Nat.beq j 31) 42 (cond (Nat.beq j 30) 6 (cond (Nat.beq j 12) 53 (cond (Nat.beq j 11) 43 (102)))))))) (k:=30) rfl (krC (ρ:=fun j=>cond (Nat.beq j 101) 101 (cond (Nat.beq j 100) 100 (cond (Nat.beq j 33) 52 (cond (Nat.beq j 31) 42 (cond (Nat.beq j 30) 6 (cond (Nat.beq j 12) 53 (cond (Nat.beq j 11) 43 (102)))))))) (k:=31) x8 (krC (ρ:=fun j=>cond (Nat.beq j 101) 101 (cond (Nat.beq j 100) 100 (cond (Nat.beq j 33) 52 (cond (Nat.beq j 31) 42 (cond (Nat.beq j 30) 6 (cond (Nat.beq j 12) 53 (cond (Nat.beq j 11) 43 (102)))))))) (k:=33) rfl (krC (ρ:=fun j=>cond (Nat.beq j 101) 101 (cond (Nat.beq j 100) 100 (cond (Nat.beq j 33) 52 (cond (Nat.beq j 31) 42 (cond (Nat.beq j 30) 6 (cond (Nat.beq j 12) 53 (cond (Nat.beq j 11) 43 (102)))))))) (k:=100) x8 (krC (ρ:=fun j=>cond (Nat.beq j 101) 101 (cond (Nat.beq j 100) 100 (cond (Nat.beq j 33) 52 (cond (Nat.beq j 31) 42 (cond (Nat.beq j 30) 6 (cond (Nat.beq j 12) 53 (cond (Nat.beq j 11) 43 (102)))))))) (k:=101) x8 (krC (ρ:=fun j=>cond (Nat.beq j 101) 101 (cond (Nat.beq j 100) 100 (cond (Nat.beq j 33) 52 (cond (Nat.beq j 31) 42 (cond (Nat.beq j 30) 6 (cond (Nat.beq j 12) 53 (cond (Nat.beq j 11) 43 (102)))))))) (k:=102) x8 (krN (ρ:=fun j=>cond (Nat.beq j 101) 101 (cond (Nat.beq j 100) 100 (cond (Nat.beq j 33) 52 (cond (Nat.beq j 31) 42 (cond (Nat.beq j 30) 6 (cond (Nat.beq j 12) 53 (cond (Nat.beq j 11) 43 (102))))))))))))))) (krC (ρ:=fun j=>cond (Nat.beq j 101) 101 (cond (Nat.beq j 100) 100 (cond (Nat.beq j 33) 52 (cond (Nat.beq j 31) 42 (cond (Nat.beq j 30) 6 (cond (Nat.beq j 12) 53 (cond (Nat.beq j 11) 43 (102)))))))) (k:=30) rfl (krC (ρ:=fun j=>cond (Nat.beq j 101) 101 (cond (Nat.beq j 100) 100 (cond (Nat.beq j 33) 52 (cond (Nat.beq j 31) 42 (cond (Nat.beq j 30) 6 (cond (Nat.beq j 12) 53 (cond (Nat.beq j 11) 43 (102)))))))) (k:=11) x8 (krC (ρ:=fun j=>cond (Nat.beq j 101) 101 (cond (Nat.beq j 100) 100 (cond (Nat.beq j 33) 52 (cond (Nat.beq j 31) 42 (cond (Nat.beq j 30) 6 (cond (Nat.beq j 12) 53 (cond (Nat.beq j 11) 43 (102)))))))) (k:=12) rfl (krC (ρ:=fun j=>cond (Nat.beq j 101) 101 (cond (Nat.beq j 100) 100 (cond (Nat.beq j 33) 52 (cond (Nat.beq j 31) 42 (cond (Nat.beq j 30) 6 (cond (Nat.beq j 12) 53 (cond (Nat.beq j 11) 43 (102)))))))) (k:=100) x8 (krC (ρ:=fun j=>cond (Nat.beq j 101) 101 (cond (Nat.beq j 100) 100 (cond (Nat.beq j 33) 52 (cond (Nat.beq j 31) 42 (cond (Nat.beq j 30) 6 (cond (Nat.beq j 12) 53 (cond (Nat.beq j 11) 43 (102)))))))) (k:=101) x8 (krC (ρ:=fun j=>cond (Nat.beq j 101) 101 (cond (Nat.beq j 100) 100 (cond (Nat.beq j 33) 52 (cond (Nat.beq j 31) 42 (cond (Nat.beq j 30) 6 (cond (Nat.beq j 12) 53 (cond (Nat.beq j 11) 43 (102)))))))) (k:=102) x8 (krN (ρ:=fun j=>cond (Nat.beq j 101) 101 (cond (Nat.beq j 100) 100 (cond (Nat.beq j 33) 52 (cond (Nat.beq j 31) 42 (cond (Nat.beq j 30) 6 (cond (Nat.beq j 12) 53 (cond (Nat.beq j 11) 43 (102))))))))))))))) ⟨⟨rfl,(SupX.lit rfl)⟩,⟨rfl,x6⟩,⟨rfl,(SupX.lit rfl)⟩,⟨rfl,x6⟩,⟨rfl,x6⟩,⟨rfl,x6⟩,trivial⟩ rfl) ⟨rfl,rfl,trivial⟩ ⟨rfl,rfl,rfl,rfl,rfl,rfl,trivial⟩ ⟨rfl,rfl,trivial⟩ ?_
  refine A8 ?_;exact fun _ _ hs=>xt8 3 ⟨(by decide),(by decide)⟩ (zae rfl (zan rfl (zan rfl zay))) (SubK.cons rfl (SubK.cons rfl (SubK.cons rfl (SubK.cons rfl (SubK.cons rfl (SubK.cons rfl (SubK.cons rfl (SubK.cons rfl zax)))))))) (zaj (zak rfl (zak rfl zar))) (zam rfl (supJL rfl) (zam rfl (supJ x6) (zam rfl (supJ x6) (zam rfl (supJ x6) (zam rfl (supJL rfl) (zam rfl (supJL rfl) (zam rfl (supJ x6) (zam rfl (supJL rfl) zaz)))))))) (lkOk rfl) hs
 ·
  show wc _ _ _ _ (upd (upd (upd (fun _=>none) 0 (some (.own (.sl 20 1 0 3)))) 3 (some (.own (.ptr 6 0)))) 4 (some (.val (tI 3)))) (upd (upd (upd (upd (upd (upd (upd (upd (fun _=>none) 6 (some ((bgT (.own (.sl 43 1 0 (((0+2*a.length)+2*b.length)+2*c.length))) (.own (.sl 53 1 0 3)))))) 43 (some (⟨22,1,false,rV tH (hdz a++hdz b++hdz c)⟩))) 53 (some (⟨38,1,false,[.own (.sl 100 8 0 a.length),.own (.sl 101 8 0 b.length),.own (.sl 102 8 0 c.length)]⟩))) 20 (some (⟨38,1,false,[.own (.sl 100 8 0 a.length),.own (.sl 101 8 0 b.length),.own (.sl 102 8 0 c.length)]⟩))) 100 (some (⟨55,8,true,rV tZe a⟩))) 101 (some (⟨55,8,true,rV tZe b⟩))) 102 (some (⟨55,8,true,rV tZe c⟩))) 99 (some (⟨0,1,false,[]⟩))) (nm [6,43,53,20,100,101,102,99,33,34,41,51,42,52]);refine A9 ?_;refine xi8 rfl (zbg (by decide)) ?_;refine A6 ?_;have hlen:us.length=(((0+2*a.length)+2*b.length)+2*c.length):=by
   have h:=congrArg List.length hus;rw [zch,zbm,zbm,xq3,xq3,xq3] at h;omega
  have hfree: ∀x∈([(30,(bgT (.own (.sl 31 1 0 (((0+2*a.length)+2*b.length)+2*c.length))) (.own (.sl 32 1 0 3)))),(31,⟨22,1,false,rV tH (hdz a++hdz b++hdz c)⟩),(32,⟨38,1,false,[.own (.sl 100 8 0 a.length),.own (.sl 101 8 0 b.length),.own (.sl 102 8 0 c.length)]⟩),(100,⟨55,8,true,rV tZe a⟩),(101,⟨55,8,true,rV tZe b⟩),(102,⟨55,8,true,rV tZe c⟩)]:List (Nat×HEnt)),∀e∈x.2.ts,Wk e e:=fun x hx=>by
   simp only [zbr,zdf,or_false] at hx;rcases hx with rfl | rfl | rfl | rfl | rfl | rfl
   ·exact wk_bag
   ·exact yd4 fun _=>Free.E
   ·exact wi9
   ·exact yd4 fun _=>Free.ze
   ·exact yd4 fun _=>Free.ze
   ·exact yd4 fun _=>Free.ze
  refine A2 ?_;refine RE (qn6 (fun j=>cond (Nat.beq j 30) 6 (cond (Nat.beq j 31) 43 (cond (Nat.beq j 32) 53 j))) hU (jo1 V us (hdz a++hdz b++hdz c) (((0+2*a.length)+2*b.length)+2*c.length) a b c hlen hus hsep (by omega) hul ha hb hc) fi64 rfl (krC (ρ:=(fun j=>cond (Nat.beq j 30) 6 (cond (Nat.beq j 31) 43 (cond (Nat.beq j 32) 53 j)))) (k:=30) rfl (krC (ρ:=(fun j=>cond (Nat.beq j 30) 6 (cond (Nat.beq j 31) 43 (cond (Nat.beq j 32) 53 j)))) (k:=31) x8 (krC (ρ:=(fun j=>cond (Nat.beq j 30) 6 (cond (Nat.beq j 31) 43 (cond (Nat.beq j 32) 53 j)))) (k:=32) rfl (krC (ρ:=(fun j=>cond (Nat.beq j 30) 6 (cond (Nat.beq j 31) 43 (cond (Nat.beq j 32) 53 j)))) (k:=100) x8 (krC (ρ:=(fun j=>cond (Nat.beq j 30) 6 (cond (Nat.beq j 31) 43 (cond (Nat.beq j 32) 53 j)))) (k:=101) x8 (krC (ρ:=(fun j=>cond (Nat.beq j 30) 6 (cond (Nat.beq j 31) 43 (cond (Nat.beq j 32) 53 j)))) (k:=102) x8 (krN (ρ:=(fun j=>cond (Nat.beq j 30) 6 (cond (Nat.beq j 31) 43 (cond (Nat.beq j 32) 53 j))))))))))) rfl (by intro e he;rw [zbj.1 he];exact .ptr) hfree) ⟨rfl,trivial⟩ ⟨rfl,rfl,rfl,rfl,rfl,rfl,rfl,trivial⟩ trivial ?_;refine A4 ?_;exact jd5 hU rfl rfl rfl
end An.S
namespace An
open Go
def XY (Lx Ly:Dom) (w1:World):OvJ where
 D:=fun b=>Lx b∨Ly b
 J:=fun n w=>(n=0-> ∀b,Lx b->w.heap[b]? =w1.heap[b]?)/\(n<=1-> ∀b,Ly b->w.heap[b]? =w1.heap[b]?)/\ ∀b,Lx b∨Ly b->b < w.heap.size
 loc:=fun _ _ _ h hs hk=>⟨fun hn b hb=>(hk b (.inl hb) (h.2.2 b (.inl hb))).trans (h.1 hn b hb),fun hn b hb=>(hk b (.inr hb) (h.2.2 b (.inr hb))).trans (h.2.1 hn b hb),fun b hb=>zce (h.2.2 b hb) hs⟩
theorem CtV.inX {P:Program} {T:Nat} {Lx Ly:Dom} {w1:World} {f:FuncId} {ps:List Ent} (h:CtV P (XL T Lx w1) f [] ps 0 1) (hd: ∀b,Ly b-> ¬Lx b):CtV P (XY Lx Ly w1) f [] ps 0 1:=fun w η vs hvs hA hi hD hJ=>
 zei (h w η vs hvs hA hi (fun b hb=>hD b (.inl hb)) ⟨fun _=>hJ.1 rfl,fun h=>(by cases h),fun b hb=>hJ.2.2 b (.inl hb)⟩) fun _ w' ⟨h1,h2,_⟩=>⟨h1,h2.mono fun b _ hb=>hb.imp id .inl,fun h=>(by cases h),fun _ b hb=>(h2.block b (hJ.2.2 b (.inr hb)) fun ho=>ho.elim (fun ⟨x,hx,_⟩=>by cases hx) (hd b hb)).trans (hJ.2.1 (by omega) b hb),fun b hb=>zce (hJ.2.2 b hb) h2.size⟩
section
variable {P:Program} {c:Base} {g:Slots} {h:Keys} {al:Names} {Q:Exit->Act->World->Prop} {A:Array Oper} {rest:List Oper} {d ty:Nat} {pos:String} {af:Array Edge} {gd:Option (Nat×Bool)}
theorem HandL.allY {T:Nat} {Lx Ly F:Dom} {w1 w:World} (hJ:(XY Lx Ly w1).J 0 w): ∀{ts us:List Ty} {vs:List Value},HandL T (fun b=>Lx b∨Ly b) w1 ts us->Tup.all F w ts vs->Tup.all (fun b=>F b∨(XY Lx Ly w1).D b) w us vs
 | [],[],[],_,_=>trivial
 | t::r,u::s,v::vs,h,hv=>by
  refine ⟨?_,HandL.allY hJ h.2 hv.2⟩;rcases h.1 with h1 | ⟨v',rfl,h2⟩
  ·exact u.mono (h1 _ _ _ hv.1) fun b _ hb hl _=>⟨.inl hb,hl⟩
  ·have e:v=v':=hv.1;subst e;exact u.mono h2 fun b _ hb hl _=>⟨.inr hb,by
    rcases hb with hb | hb
    ·exact (hJ.1 rfl b hb).trans hl
    ·exact (hJ.2.1 (by omega) b hb).trans hl⟩
 | [],[],_::_,_,hv=>hv.elim
 | _::_,_::_,[],_,hv=>hv.elim
 | [],_::_,_,h,_=>h.elim
 | _::_,[],_,h,_=>h.elim
theorem xr3 {T K:Nat} {Lx Ly:Dom} {w1:World} {f:FuncId} {xs:List Operand} {aT:Array TypeId} {us us':List Ty} {rr:Nat->Ty} {r:Ty} {w0:World} {η0:Env} {H:List (Nat×HEnt)} (hp:OvC c w0 η0 H K (XY Lx Ly w1)) (hc:CtN P f us rr) (hf:FnI P f) (hr: ∀m F w v,(rr m).p F w v->r.p (fun b=>F b/\m<=b) w v)
  (ha:HandL T (fun b=>Lx b∨Ly b) w1 us' us) (hl:xs.length=us'.length):
  Does P c ⟨some d,.call {callee:= .value (.func f),args:=xs.toArray,argTypes:=aT},ty,pos,af,gd⟩ ⟨xs.zip (us'.map Ent.val),[(K,⟨0,1,false,[]⟩)],some (d,some (.val r)),[],[]⟩:=
 wi3 hp hc hf hr (fun _ _ _ hJ hv=>HandL.allY hJ ha hv) hl
theorem SatL.vals {F:Dom} {w:World} {η:Env}: ∀{us:List Ty} {vs:List Value},Tup.all F w us vs->SatL F w η (us.map Ent.val) vs
 | [],[],_=>trivial
 | _::_,_::_,h=>⟨h.1,SatL.vals h.2⟩
 | [],_::_,h=>h.elim
 | _::_,[],h=>h.elim
theorem zk5 {T K:Nat} {Lx Ly:Dom} {w1:World} {f:FuncId} {xs:List Operand} {aT:Array TypeId} {us us':List Ty} {ι:Type} {R:Nat->ι->Prop} {re:ι->Ent} {H' h2:ι->List (Nat×HEnt)} {nn:List Nat} {w0:World} {η0:Env} {H0:List (Nat×HEnt)} (hs:List Hd) (ρ:Nat->Nat) (hp:OvC c w0 η0 H0 K (XY Lx Ly w1)) (hc:CtX P f [] (us.map Ent.val) R re H' nn) (hf:FnI P f)
  (ha:HandL T (fun b=>Lx b∨Ly b) w1 us' us) (hl:xs.length=us'.length) (e2: ∀i,(H' i).map (fun x=>(ρ x.1,x.2.ren ρ))=h2 i) (hsH: ∀i,SupHs (H' i) nn) (hok: ∀i,gB ρ [] (H' i) (re i) [] nn c.yk=true)
  (hN: ∀i n,R n i-> ∀x∈H' i,∀e∈x.2.ts,∀F w η v,e.sat F w η v->e.sat (fun b=>F b/\n<=b) w η v) (hre: ∀i F F' w η v,(re i).sat F w η v->(re i).sat F' w η v)
  (hr:Rd g (xs.zip (us'.map Ent.val))) (hK:h K=some ⟨0,1,false,[]⟩) (hnk:Nk al (nn.map ρ)) (hw:WitSt c g h hs) (hdN:Nat.blt d c.N=true)
  (HH: ∀i n,c.w0.heap.size<=n->OldH n hs->R n i->wl P c A Q rest (upd g d (some ((re i).ren ρ))) (updK h ((h2 i).map (fun x=>(x.1,some x.2)))) (fun j=>memN j (nn.map ρ) || al j)):
  wl P c A Q (⟨some d,.call {callee:= .value (.func f),args:=xs.toArray,argTypes:=aT},ty,pos,af,none⟩::rest) g h al:=by
 rintro a w ⟨η,s⟩;unfold wpListIn;rw [if_pos (by rfl)];obtain ⟨fn,f1,f2,f3⟩:=hf;have hj:=s.jj K _ hp.yk hK;have hj:c.J 0 _ _ w:=hj;rw [hp.J] at hj;have hargs:=HandL.allY hj.1 ha (Tup.all_of s xs us' hr hl);have hrun:(execOp a.eval ⟨some d,.call {callee:= .value (.func f),args:=xs.toArray,argTypes:=aT},ty,pos,af,none⟩).run P w= .ok (.enter f (xs.map a.eval).toArray) w:=by
  simp only [execOp,resolve,Act.eval,Deferred.ofValue,zbu,zbx,zbn,invoke];simp only [zdu,zdj,zcs];exact xd1 f1 f2 f3 _ w
 have hnn:=Nk.ren hnk;refine xe6 hrun (zei (hc _ w (η.pre ρ) (xs.map a.eval) (SatL.vals hargs) (fun x hx=>by cases hx) (fun x hx=>by cases hx) (fun b _ ⟨x,hx,_⟩=>by cases hx)) ?_);rintro e w' ⟨i,v,η',hR,rfl,hout⟩;have hok:=hok i;simp only [gB,zbv] at hok;have hout':Out (c.dom h η) w (η.pre ρ) [] (re i) (H' i) nn v w' η':=⟨hout.stp,hout.same,hre i _ _ _ _ _ hout.res,fun x hx=>by
  obtain ⟨p1,p2,p3,p4,p5⟩:=hout.keys x hx;refine ⟨p1,p2,p3,p4,fun hc0=> ?_⟩;obtain ⟨cs,c1,c2,c3⟩:=p5 hc0;refine ⟨cs,c1,c2,fun j e he=> ?_⟩;have h6:=hN i _ hR x hx e (zdw he) _ _ _ _ (c3 j e he);exact Ent.sat_go h6 (fun b o hb hl _=>⟨⟨.inl hb.2,hb.1.2⟩,hl⟩) fun _ _=>⟨rfl,rfl⟩,hout.inj,hout.new⟩
 obtain ⟨s',hres⟩:=s.back ρ (H:=[]) (fun x hx=>by cases hx) hout' hnn hok.1.1.1 (fun k hk=>by
  rcases zbp.1 hk with hk | hk
  ·have:=xe8 hok.1.2 k hk;simp [suppE] at this;exact .inl this
  ·exact .inl ((hsH i).spec k hk)) hok.2
 refine ⟨v,rfl,?_⟩;rw [yg1 (e2 i)] at s' hres;refine HH i w.heap.size s.fr.size (fun u hu b hb=>(hw al a w η s u hu b hb).2) hR _ _ ⟨_,s'.put (by simpa using hdN) hres fun k hk=> ?_⟩
 revert hk
 generalize hre':re i=ree at*
 intro hk;cases ree with
 | val t=>cases hk
 | own p=>
  obtain ⟨j,hj',rfl⟩:=VP.ren_supp1 p k hk;have hm:=xe8 hok.1.2 j hj';simp [suppE] at hm;rw [xb2.2 (zcz hm)];rfl
end
theorem CtX.toCtS {P:Program} {f:FuncId} {ts:List Ty} {ι α:Type} {R:Nat->ι->Prop} {k T es:Nat} {fz:α->Ty} {xs:ι->List α} {u1:Ty}
  (h:CtX P f [] (ts.map Ent.val) R (fun i=> .own (.sl k es 0 (xs i).length)) (fun i=>[(k,⟨T,es,true,rV fz (xs i)⟩)]) [k])
  (hr: ∀n i,R n i->Le (tL es true fz (xs i)) u1):Ct P f ts u1:=by
 intro F w vs hv;refine (h F w ⟨fun _=>0,fun _=>0,fun _=>False⟩ vs (yz5 hv) (fun x hx=>by cases hx) (fun x hx=>by cases hx) (fun b _ ⟨x,hx,_⟩=>by cases hx)).mono ?_;rintro e w' ⟨i,v,η',hR,rfl,ho⟩;have hK:Keep (fun b=>(w.heap.size<=b∨F b)/\ ¬OwnK η' [(k,(⟨T,es,true,rV fz (xs i)⟩:HEnt))] b) (fun b=>w.heap.size<=b∨F b) w' w':=fun b o hD hl _=>⟨hD.1,hl⟩
 refine ⟨_,rfl,⟨ho.stp.os,ho.stp.tape,ho.stp.output,ho.stp.size,fun b hb=>ho.stp.block b hb (fun ⟨x,hx,_⟩=>by cases hx)⟩,(hr _ _ hR) _ _ _ ?_⟩;obtain ⟨A,q1,q2,q3⟩:=ho.res;obtain ⟨h6,h7,h8,h9,h10⟩:=ho.keys (k,⟨T,es,true,rV fz (xs i)⟩) (zbj.2 rfl);simp only at h6 h7 h8 h9 h10;refine ⟨A,_,q1,by omega,by omega,?_⟩;rcases zco (xs i).length with h0 | h0
 ·exact .inl (zda h0)
 ·have hc:0 < η'.c k:=by omega
  obtain ⟨cs,e1,e2,e3⟩:=h10 hc;have hb:w.heap.size<=η'.b k:=(ho.new _ ⟨_,zbj.2 rfl,hc,rfl⟩).resolve_left (fun ⟨x,hx,_⟩=>by cases hx);refine .inr ⟨η'.b k,0*es,q3 (by omega),.inl hb,fun j x hj=> ?_⟩;have hjl:j < (xs i).length:=(zbo.1 hj).1;have he:=e3 j _ (by rw [rV,zbs,hj];rfl);have hle:0*es+j*es+es<=cs.size:=by
   rw [e2,zef,zcn,<-zcw];exact zbz _ (by omega)
  refine ⟨_,⟨cs,_,_,e1,hle,h7,h8,rfl⟩,?_⟩;rw [zef,zcn];exact (fz x).mono he hK
section
variable {P:Program} {g:Slots} {h:Keys} {al:Names} {Q:Exit->Act->World->Prop}
theorem qc1 {N:Nat} {w0:World} {F:Dom} {x:Code} (K s:Nat) {W:Ty} {g':Value->Slots} {h':Keys} (hs:g s=some (.val (tG (up w0.heap.size) W))) (hK:al K=false)
  (hg: ∀(a:Act) (L:Dom),(∀b,L b->w0.heap.size<=b)->SlC (fun b=> ¬L b) a g (g' (a.tmps.getD s undef)))
  (hh: ∀(w:World) (η:Env) (L:Dom),(∀b,L b->w0.heap.size<=b)->KyC (fun b=> ¬L b) w η h h')
  (H: ∀(Lx Ly:Dom) (w1:World) (v:Value),W.p Lx w1 v->(∀b,Lx b∨Ly b->w0.heap.size<=b)->(∀b,Ly b-> ¬Lx b)->wc P (ovb N w0 F K (XY Lx Ly w1)) x Q (g' v) (upd h' K (some ⟨0,1,false,[]⟩)) (fun j=>al j || Nat.beq j K)):
  wc P (Base.plain N w0 F) x Q g h al:=by
 refine C_at fun a w hs'=> ?_;obtain ⟨η,st⟩:=hs';have hv:=st.slotv hs;obtain ⟨Lx,hLx⟩: ∃Lx:Dom,Lx=fun b=>(b < w.heap.size/\ ¬Own h η b)/\up w0.heap.size b:=⟨_,rfl⟩
 have hv:W.p Lx w (a.tmps.getD s undef):=by rw [hLx];exact hv
 have hD: ∀b,Lx b∨False->w0.heap.size<=b/\b < w.heap.size/\ ¬Own h η b:=fun b hb=>by
  rcases hb with hb | hb
  ·rw [hLx] at hb;exact ⟨hb.2,hb.1⟩
  ·cases hb
 exact ⟨ovb N w0 F K (XY Lx (fun _=>False) w),g' (a.tmps.getD s undef),_,_,rfl,st.over K (XY Lx (fun _=>False) w) hD ⟨fun _ _ _=>rfl,fun _ _ _=>rfl,fun b hb=>(hD b hb).2.1⟩ hK (hg a _ fun b hb=>(hD b hb).1) (hh w η _ fun b hb=>(hD b hb).1),H _ _ w _ hv (fun b hb=>(hD b hb).1) fun _ h=>h.elim⟩
theorem jc9 {c:Base} {al:Names} {A:Array Oper} {rest:List Oper} {d ty:Nat} {pos:String} {af:Array Edge} {T K:Nat} {Lx Ly:Dom} {w1:World} {f:FuncId} {xs:List Operand} {aT:Array TypeId} {us us':List Ty} {ι:Type} {R:Nat->ι->Prop} {t:ι->Ty} {rr:Nat->Ty} {w0:World} {η0:Env} {H0:List (Nat×HEnt)} (hs:List Hd) (hp:OvC c w0 η0 H0 K (XY Lx Ly w1)) (hc:CtN P f us rr) (hx: ∀n,Le (rr n) (tEx (R n) t)) (hN: ∀i n,R n i->Le (t i) (tG (up n) (t i))) (hf:FnI P f)
  (ha:HandL T (fun b=>Lx b∨Ly b) w1 us' us) (hl:xs.length=us'.length) (hr:Rd g (xs.zip (us'.map Ent.val))) (hK:h K=some ⟨0,1,false,[]⟩) (hw:WitSt c g h hs) (hdN:Nat.blt d c.N=true)
  (HH: ∀i n,c.w0.heap.size<=n->OldH n hs->R n i->wl P c A Q rest (upd g d (some (.val (t i)))) h al):
  wl P c A Q (⟨some d,.call {callee:= .value (.func f),args:=xs.toArray,argTypes:=aT},ty,pos,af,none⟩::rest) g h al:=by
 rintro a w ⟨η,s⟩;unfold wpListIn;rw [if_pos (by rfl)];obtain ⟨fn,f1,f2,f3⟩:=hf;have hj:=s.jj K _ hp.yk hK;have hj:c.J 0 _ _ w:=hj;rw [hp.J] at hj;have hargs:=HandL.allY hj.1 ha (Tup.all_of s xs us' hr hl);have hrun:(execOp a.eval ⟨some d,.call {callee:= .value (.func f),args:=xs.toArray,argTypes:=aT},ty,pos,af,none⟩).run P w= .ok (.enter f (xs.map a.eval).toArray) w:=by
  simp only [execOp,resolve,Act.eval,Deferred.ofValue,zbu,zbx,zbn,invoke];simp only [zdu,zdj,zcs];exact xd1 f1 f2 f3 _ w
 refine xe6 hrun (zei (hc _ w (xs.map a.eval) hargs) ?_);rintro e w' ⟨v,rfl,hext,hv⟩;obtain ⟨i,hR,hv⟩:=hx _ _ _ _ hv;exact ⟨v,rfl,HH i w.heap.size s.fr.size (fun u hu b hb=>(hw al a w η s u hu b hb).2) hR _ _ ⟨η,(s.ext hext).put (by simpa using hdN) (e:= .val _) ((t i).mono (hN i _ hR _ _ _ hv) fun b _ hb hl _=>⟨yf2 s hb.2,hl⟩) (fun k hk=>by cases hk)⟩⟩
theorem zm5 {c:Base} {d ty:Nat} {pos:String} {af:Array Edge} {gd:Option (Nat×Bool)} {T:TypeId} {x z:Operand} {k':IntKind} {s r:ByteArray} {j:Int} (hT:P.underlying T=some .string) (h1:0<=j) (h2:j<=s.size) (hr:s.extract 0 j.toNat=r):
  Does P c ⟨some d,.slice T x none (some z) none,ty,pos,af,gd⟩ ⟨[(x,.val (tSt s)),(z,.val (tE (.int k' j)))],[],some (d,some (.val (tSt r))),[],[]⟩:=
 Does.value rfl fun g h al a w η hrd _ st=>by
  subst hr;have e1:a.eval x= .string s:=(xa2 st hrd.1).1;have e3:a.eval z= .int k' j:=(xa2 st hrd.2.1).1;refine ⟨_,w,?_,Ext.refl w,rfl,fun k hk=>by cases hk⟩;simp only [execOp,e1,e3,zdm,zeo,Instr.sliceAt,zbu,zcj hT,zbn,run_slice_string_to_if w T s k' j hT,if_pos (And.intro h1 h2),zbx]
end
end An
namespace An.S
open Go Go.Proofs An Tryz
instance fi15:FnI Tryz.prog 15:=⟨_,func15,by kernel_rfl,rfl⟩
instance fi18:FnI Tryz.prog 18:=⟨_,func18,by kernel_rfl,rfl⟩
instance fi19:FnI Tryz.prog 19:=⟨_,func19,by kernel_rfl,rfl⟩
instance fi20:FnI Tryz.prog 20:=⟨_,func20,by kernel_rfl,rfl⟩
instance fi23:FnI Tryz.prog 23:=⟨_,func23,by kernel_rfl,rfl⟩
theorem z7 {T n:Nat} {u:Hd} {l:List Nat} (hn: ∀b,u.b=some b->n<=b):Le (tLmX T u l) (tG (fun b=>n<=b) (tLmX T u l)):=fun F w v ⟨h1,h2,h3,h4,h5⟩=>⟨h1,h2,h3,h4,fun hc=>by
 obtain ⟨b,cs,e1,e2,e3⟩:=h5 hc;exact ⟨b,cs,e1,⟨e2,hn b (by simp [Hd.b,e1,hc])⟩,e3⟩⟩
theorem zt_up {n:Nat} {z:Zt} (hn:NewH n [z.n,z.d]):Le (tZt z) (tG (fun b=>n<=b) (tZt z)):=
 xk0 ⟨⟨rfl,rfl,xf9⟩,⟨rfl,rfl,xf9⟩,⟨rfl,rfl,xk0 ⟨⟨rfl,rfl,xf9⟩,⟨rfl,rfl,xk0 ⟨⟨rfl,rfl,xk0 ⟨⟨rfl,rfl,xf9⟩,⟨rfl,rfl,z7 (hn _ (by simp))⟩,trivial⟩⟩,⟨rfl,rfl,xk0 ⟨⟨rfl,rfl,xf9⟩,⟨rfl,rfl,z7 (hn _ (by simp))⟩,trivial⟩⟩,trivial⟩⟩,⟨rfl,rfl,xf9⟩,trivial⟩⟩,trivial⟩
theorem rowN {k T n:Nat} {zs:List Zt} (hn:NewH n (hds zs)): ∀x∈[(k,(⟨T,8,true,rV tZt zs⟩:HEnt))],∀e∈x.2.ts,∀F w η v,e.sat F w η v->e.sat (fun b=>F b/\n<=b) w η v:=fun x hx e he F w η v hs=>by
 cases zbj.1 hx;obtain ⟨z,hz,rfl⟩:=zci.1 he;exact zt_up (fun u hu=>hn u (zcc.2 ⟨z,hz,hu⟩)) _ _ _ hs
theorem zz0 {k n:Nat} {e:Int} {F F':Dom} {w:World} {η:Env} {v:Value} (h:(Ent.own (.tup [.sl k 8 0 n,.ty (tI e)])).sat F w η v):(Ent.own (.tup [.sl k 8 0 n,.ty (tI e)])).sat F' w η v:=by
 simp only [Ent.sat,VP.sat] at h ⊢;obtain ⟨vs,h1,h2⟩:=h;refine ⟨vs,h1,?_⟩
 match vs,h2 with
 | [x,y],h2=>
  simp only [VP.sats,VP.sat] at h2 ⊢;exact ⟨h2.1,h2.2.1,trivial⟩
 | [],h2=>simp only [VP.sats] at h2
 | [_],h2=>simp only [VP.sats] at h2;exact h2.2.elim
 | _::_::_::_,h2=>simp only [VP.sats] at h2;exact h2.2.2.elim
def zeOf (z:Zt):Ze:=⟨z.s.lo,z.s.hi,z.s.v.kind,z.s.v.f.n.neg,z.n,z.s.v.f.d.neg,z.d,z.s.v.i⟩
theorem zt_ze {z:Zt}:Le (tZt z) (tZe (zeOf z)):=Le.tS ⟨⟨rfl,rfl,zao⟩,⟨rfl,rfl,zao⟩,⟨rfl,rfl,Le.tS ⟨⟨rfl,rfl,zao⟩,⟨rfl,rfl,Le.tS ⟨⟨rfl,rfl,Le.tS ⟨⟨rfl,rfl,zao⟩,⟨rfl,rfl,lmX_h⟩,trivial⟩⟩,⟨rfl,rfl,Le.tS ⟨⟨rfl,rfl,zao⟩,⟨rfl,rfl,lmX_h⟩,trivial⟩⟩,trivial⟩⟩,⟨rfl,rfl,zao⟩,trivial⟩⟩,trivial⟩
theorem qu8 {zs:List Zt}:WkL (rV tZt zs) (rV tZe (zs.map zeOf)):=by
 have h:=wk_rV (f:=tZt) (f':=fun z=>tZe (zeOf z)) (xs:=zs) (fun _=>zt_ze) fun _=>Free.ze
 rwa [show rV (fun z=>tZe (zeOf z)) zs=rV tZe (zs.map zeOf) by simp [rV]] at h
theorem xz5: ∀{zs:List Zt},hdz (zs.map zeOf)=hds zs
 | []=>rfl
 | z::r=>by rw [zcy,hdz,zed,<-hdz,xz5 (zs:=r)];rfl
theorem qe0 {zs:List Zt} {l:List Tst} (h:zs.map Zt.s=l):Le (tL 8 true tZt zs) (tL 8 true tTs l):=fun F w v ⟨A,c,h1,h2,h3,h4⟩=>by
 subst h;refine ⟨A,c,by rw [zch];exact h1,by rw [zch];exact h2,h3,h4.imp (fun e=>by rw [e];rfl) fun ⟨b,o,e,hb,hx⟩=>⟨b,o,e,hb,fun i x hi=> ?_⟩⟩;rw [zbs] at hi;obtain ⟨z,hz,rfl⟩:=zdd.1 hi;obtain ⟨u,hm,hu⟩:=hx i z hz;exact ⟨u,hm,zt_le _ _ _ hu⟩
theorem qc6 {zs:List Zt} {l:List Tst} (h:zs.map Zt.s=l):Ct Tryz.prog 21 [tL 8 true tZt zs,tL 8 true tTs l] (tB true):=by
 have h1:=yu1 l l;rw [zbf rfl] at h1;have hl:LeL [tL 8 true tZt zs,tL 8 true tTs l] [tL 8 true tTs l,tL 8 true tTs l]:=⟨qe0 h,zao,trivial⟩
 exact fun F w vs hv=>h1 F w vs (hl.all hv)
theorem zq1 (V:Dom) (us:List (Hd×List Nat)) (a b c:List Ze) (na nb nc:Nat) (ha:a.length=na) (hb:b.length=nb) (hc:c.length=nc) (hus:us.map (·.1)=hdz a++hdz b++hdz c) (hsep:SepH (hdz a++hdz b++hdz c)) (hu:us.length<=900) (hul: ∀j,((us.getD j hd0).2).length<=1000000) (ha':na<=10000) (hb':nb<=10000) (hc':nc<=10000):
  CtU Tryz.prog (XJ V us) 23 [(20,⟨38,1,false,[.own (.sl 100 8 0 na),.own (.sl 101 8 0 nb),.own (.sl 102 8 0 nc)]⟩),(100,⟨55,8,true,rV tZe a⟩),(101,⟨55,8,true,rV tZe b⟩),(102,⟨55,8,true,rV tZe c⟩)] [.own (.sl 20 1 0 3)] 0 1 (.bool true):=by
 subst ha hb hc;exact qa4 V us a b c hus hsep hu hul ha' hb' hc'
def limOk (s:Tst):Prop:=s.v.f.n.l.length<=1000000/\s.v.f.d.l.length<=1000000
theorem zj6 {zs:List Zt} (h: ∀s∈zs.map Zt.s,limOk s): ∀u∈zs.flatMap its,u.2.length<=1000000:=fun u hu=>by
 obtain ⟨z,hz,hu⟩:=zcc.1 hu;have:=h _ (zcz hz);simp only [its,zbr,zdf,or_false] at hu;rcases hu with rfl | rfl
 ·exact this.1
 ·exact this.2
theorem jo0 {us:List (Hd×List Nat)} (h: ∀u∈us,u.2.length<=1000000) (j:Nat):((us.getD j hd0).2).length<=1000000:=by
 rw [zbh];cases hj:us[j]? with
 | none=>show 0<=_;omega
 | some u=>exact h u (zdw hj)
theorem vw_lim {a:List Fa} {key:ByteArray} {kn:Int} (hs: ∀f∈a,f.v.f.n.l.length<=1200/\f.v.f.d.l.length<=1200): ∀s∈vwT (toldT a key kn),limOk s:=fun s hs2=>by
 have h5:=yq8 (xn9 _).1 s hs2;rw [xi9] at h5;obtain ⟨f,hf,_,e,_⟩:=yp3 h5;have:=hs f (xk5 hf).1;rw [e] at this;exact ⟨by omega,by omega⟩
theorem at_lim {a:List Fa} {key:ByteArray} {d kn:Int} (hs: ∀f∈a,f.v.f.n.l.length<=1200/\f.v.f.d.l.length<=1200):limOk ⟨0,0,(atF a key d kn).getD An.va0⟩:=by
 rw [atF];split
 ·cases h:gF (toldT a key kn) d with
  | none=>exact ⟨zbt _,zbt _⟩
  | some v=>
   obtain ⟨f,hf,_,e,_⟩:=yp3 h;have:=hs f (xk5 hf).1;rw [e] at this;exact ⟨by show v.f.n.l.length<=_;omega,by show v.f.d.l.length<=_;omega⟩
 ·exact ⟨zbt _,zbt _⟩
theorem tv_X {n:Nat} {v:Va} {b:Bool}:Le (tT [tVaE n v,tB b]) (tEx (fun p:Hd×Hd=>NewH n [p.1,p.2]/\SepH [p.1,p.2]) fun p=>tT [tVaX v p.1 p.2,tB b]):=fun F w u h=>by
 obtain ⟨vs,rfl,h1⟩:=h
 match vs,h1 with
 | [x,y],⟨⟨p,hp,h2⟩,h3,_⟩=>exact ⟨p,hp,[x,y],rfl,h2,h3,trivial⟩
theorem va_up {n:Nat} {v:Va} {x y:Hd} (hn:NewH n [x,y]):Le (tVaX v x y) (tG (up n) (tVaX v x y)):=xk0 ⟨⟨rfl,rfl,xf9⟩,⟨rfl,rfl,xk0 ⟨⟨rfl,rfl,xk0 ⟨⟨rfl,rfl,xf9⟩,⟨rfl,rfl,z7 (hn _ (by simp))⟩,trivial⟩⟩,⟨rfl,rfl,xk0 ⟨⟨rfl,rfl,xf9⟩,⟨rfl,rfl,z7 (hn _ (by simp))⟩,trivial⟩⟩,trivial⟩⟩,⟨rfl,rfl,xf9⟩,trivial⟩
theorem tv_up {n:Nat} {v:Va} {x y:Hd} {b:Bool} (hn:NewH n [x,y]):Le (tT [tVaX v x y,tB b]) (tG (up n) (tT [tVaX v x y,tB b])):=fun F w u h=>by
 obtain ⟨vs,rfl,h1⟩:=h
 match vs,h1 with
 | [p,q],⟨h2,h3,_⟩=>exact ⟨[p,q],rfl,va_up hn _ _ _ h2,h3,trivial⟩
theorem zu2 {v:Va} {n d:Hd}:Ct Tryz.prog 22 [tVaX v n d,tVa v] (tB true):=by
 have h:=xq9 v v;rw [zbf rfl] at h;have hl:LeL [tVaX v n d,tVa v] [tVa v,tVa v]:=⟨ze2,zao,trivial⟩
 exact fun F w vs hv=>h F w vs (hl.all hv)
theorem ju8 (a:List Fa) (key:ByteArray) (d kn:Int) (hl:a.length<=60) (hD: ∀f∈a,f.v.f.dig) (hE: ∀f∈a,f.v.f.dgs) (hs: ∀f∈a,f.v.f.n.l.length<=1200/\f.v.f.d.l.length<=1200):
  Ct Tryz.prog 5 [tL 11 true tFa a,tSt key,tI d,tI kn] (tB true):=by
 refine Ct.introO func5 rfl ntmps5 rfl ?_;intro w F;refine A8 ?_;refine R1 (xm0 (ts:=[_]) (r:=tG (up w.heap.size) _) (ym4 a hl (fun f hf=>by have:=hs f hf;omega)) fi15 (fun m hm=>xu6 hm) ⟨ye5,trivial⟩ rfl) rfl ?_;refine A4 ?_;refine qc1 (W:=tFsW a) 99 9 (g':=fun v=>uV (uV (uV (uV (uV (uV uN 0 (tL 11 true tFa a)) 1 (tSt key)) 2 (tI d)) 3 (tI kn)) 8 (tB false)) 9 (tE v)) (h':=fun _=>none) rfl rfl (fun _ L hL=>SlC.cons rfl .cst (SlC.cons rfl (.val xf9) (SlC.cons rfl (.val xf9) (SlC.cons rfl (.val xf9) (SlC.cons rfl (.val xf9) (SlC.cons rfl (.val (jj0 hL)) (SlC.nil))))))) (fun _ _ _ _=>KyC.nil) ?_;intro Lx Ly w1 v hv hL hdj;have hv':(tFsW a).p (fun b=>Lx b∨Ly b) w1 v:=(tFsW a).mono hv fun b _ hb hl _=>⟨.inl hb,hl⟩
 refine xi3 ?_;refine xa9 xa3 qA trivial trivial rfl (xa9 xa3 qA trivial trivial rfl (xa9 xa3 qA trivial trivial rfl ?_));refine zk5 (T:=140) (us:=[tL 11 true tFa a,tSt key,tI kn]) (us':=[tE v,tSt key,tI kn]) [] (fun j=>cond (Nat.beq j 14) 201 j) OvC.mk' (zi0 a key kn (by omega) (fun f hf=>by have:=hs f hf;omega) hE) fi10 ⟨.inr ⟨_,rfl,xz8 _ _ _ hv'⟩,.inl zao,.inl zao,trivial⟩ rfl (fun _=>krC (ρ:=(fun j=>cond (Nat.beq j 14) 201 j)) (k:=14) x8 (krN (ρ:=(fun j=>cond (Nat.beq j 14) 201 j)))) (fun _=>⟨⟨rfl,x6⟩,trivial⟩) (fun _=>rfl) (fun _ _ hR=>rowN hR.2.2.2) (fun _ _ _ _ _ _ hh=>zz0 hh) qC rfl qA .nil rfl (fun xu nu hnu hou hRu=> ?_);obtain ⟨zu,eu⟩:=xu;obtain ⟨hzu,heu,hsu,hwu⟩:=hRu;replace heu:eu=_:=heu;subst heu;refine xa9 xa3 qA trivial trivial rfl (xa9 (ya5 rfl) qA trivial trivial rfl (xa9 (ya5 rfl) qA trivial trivial rfl (xa9 xb0 qA trivial trivial rfl (xa9 xb0 qA trivial trivial rfl (xg3 ?_)))));refine A6 ?_;refine R3 (x4 (yz6 a key kn (by omega) (fun f hf=>by have:=hs f hf;omega) hD) fi16 rfl) rfl rfl rfl ?_;refine A8 ?_;refine xi3 ?_;refine xa9 xa3 qA trivial trivial rfl (xa9 xa3 qA trivial trivial rfl (xa9 xa3 qA trivial trivial rfl ?_));refine zk5 (T:=140) (us:=[tL 11 true tFa a,tSt key,tI kn]) (us':=[tE v,tSt key,tI kn]) (hds zu) (fun j=>cond (Nat.beq j 14) 202 j) OvC.mk' (zi0 a key kn (by omega) (fun f hf=>by have:=hs f hf;omega) hE) fi10 ⟨.inr ⟨_,rfl,xz8 _ _ _ hv'⟩,.inl zao,.inl zao,trivial⟩ rfl (fun _=>krC (ρ:=(fun j=>cond (Nat.beq j 14) 202 j)) (k:=14) x8 (krN (ρ:=(fun j=>cond (Nat.beq j 14) 202 j)))) (fun _=>⟨⟨rfl,x6⟩,trivial⟩) (fun _=>rfl) (fun _ _ hR=>rowN hR.2.2.2) (fun _ _ _ _ _ _ hh=>zz0 hh) qC rfl qA (yb7 (k:=201) rfl) rfl (fun xv nv hnv hov hRv=> ?_);obtain ⟨zv,ev⟩:=xv;obtain ⟨hzv,hev,hsv,hwv⟩:=hRv;replace hev:ev=_:=hev;subst hev;refine xa9 xa3 qA trivial trivial rfl (xa9 (ya5 rfl) qA trivial trivial rfl (xa9 (ya5 rfl) qA trivial trivial rfl (xa9 xb0 qA trivial trivial rfl (xa9 xb0 qA trivial trivial rfl (xg3 ?_)))));refine A2 ?_;refine xi3 ?_;refine xa9 xa3 qA trivial trivial rfl (xa9 xa3 qA trivial trivial rfl (xa9 xa3 qA trivial trivial rfl (xa9 xa3 qA trivial trivial rfl ?_)));refine jc9 (T:=140) (us:=[tL 11 true tFa a,tSt key,tI d,tI kn]) (us':=[tE v,tSt key,tI d,tI kn]) (hds zu++hds zv) OvC.mk' (ji8 a key d kn (by omega) (fun f hf=>by have:=hs f hf;omega) hE) (fun _=>tv_X) (fun _ _ hh=>tv_up hh.1) fi17 ⟨.inr ⟨_,rfl,xz8 _ _ _ hv'⟩,.inl zao,.inl zao,.inl zao,trivial⟩ rfl qD rfl (.app (yb7 (k:=201) rfl) (yb7 (k:=202) rfl)) rfl (fun p np hnp hop hRp=> ?_);refine xa9 xa3 qA trivial trivial rfl (xa9 (ye1 rfl) qA trivial trivial rfl (xa9 (ye1 rfl) qA trivial trivial rfl (xa9 (xb8 (k:=16) (n:=6) (agg:=true) zr28.1 zr28.2 rfl) trivial trivial qA rfl (xa9 (xc1 (es:=6) (agg:=true) (0) ti28 rfl rfl rfl) qB qA trivial rfl (xa9 xb0 qA trivial trivial rfl (xg3 ?_))))));refine A7 ?_;refine Rt (x4 (c_R6At a key d kn (by omega) (fun f hf=>by have:=hs f hf;omega) hD) fi18 rfl) qD ?_;refine A3 ?_;refine RE (xb8 (k:=18) (n:=6) (agg:=true) zr28.1 zr28.2 rfl) trivial trivial qA ?_;refine A11 ?_;refine Rg (zbg (by simp [rE])) rfl xa3 rfl qA (Rg (zbg (by simp [rE])) rfl xa3 rfl qA (Rg (zbg (by simp [rE])) rfl (zu1 zgm) rfl qB (R2 (xc4 (zbg (by simp [rE]))) rfl rfl ?_)));refine A1 ?_;refine Rg (by simp) rfl xa3 rfl qA (Rg (by simp) rfl xa3 rfl qA (RGon (by simp) rfl (xr3 (T:=140) (us':=[tE v,tL 11 true tFa a]) (r:=tB true) (rr:=fun _=>tB true) OvC.mk' (yu2 a hl (fun f hf=>by have:=hs f hf;omega)) fi19 (hrE fun _=>rfl) ⟨.inr ⟨_,rfl,hv'⟩,.inl zao,trivial⟩ rfl) rfl qB qA trivial (Rg (by simp) rfl xj9 rfl qA (R2 (xc4 (by simp)) rfl rfl ?_))));refine A8 ?_;refine RE (xs7 (us:=[tE v]) OvC.mk' (CtV.inX (yk8 Lx w1 a hl (fun f hf=>by have:=hs f hf;omega) v hv) hdj) fi20 ⟨Free.E,trivial⟩ rfl) qA qA trivial ?_;refine A3 ?_;refine xi3 ?_;refine xa9 xa3 qA trivial trivial rfl (xa9 xa3 qA trivial trivial rfl (xa9 (yb3 201 55 8 zu.length [.own (.sl 201 8 0 zu.length),.val _] (fun _ _ _ _ hh=>hh) (qc6 (l:=rvA a key kn) hzu) fi21 (fun _ hh=>by obtain ⟨x,hx,_⟩:=hh;cases hx) (xe9 rfl) rfl ⟨.inr ⟨rfl,rfl⟩,.inl rfl,trivial⟩ rfl) qB qA trivial rfl (xa9 xa3 qA trivial trivial rfl (xw7 rfl rfl (xa5 (0) ti28 rfl rfl) rfl qA qA trivial rfl (xw7 rfl rfl (xa5 (0) ti28 rfl rfl) rfl qA qA trivial rfl (xw7 rfl rfl (x4 zu2 fi22 rfl) rfl qB trivial trivial rfl (xa9 (xc6 rfl) qB trivial trivial rfl (xa9 xa3 qA trivial trivial rfl (xw7 rfl rfl xa3 rfl qA trivial trivial rfl (xw7 rfl rfl xa3 rfl qA trivial trivial rfl (xw7 rfl rfl (xa5 (0) ti28 rfl rfl) rfl qA qA trivial rfl (xw7 rfl rfl (xd3 (r:=tS [⟨1,false,(tE (.int .i64 0))⟩,⟨1,false,(tE (.int .i64 0))⟩,⟨6,true,tVaX ((atF a key d kn).getD An.va0) p.1 p.2⟩]) (ts:=[(2,tVaX ((atF a key d kn).getD An.va0) p.1 p.2)]) bu55 zr55.2 (Bc 2 rfl rfl rfl zao)) rfl qA trivial trivial rfl (xw7 rfl rfl (xj0 (k:=88) (ents:=rV tZt [(⟨⟨0,0,((atF a key d kn).getD An.va0)⟩,p.1,p.2⟩:Zt)]) zgp el55 zf55 rfl (fun e he=>by obtain ⟨x,_,rfl⟩:=zci.1 he;infer_instance) rfl rfl rfl) rfl qA trivial qA rfl ?_)))))))))))))
 have hmu:(zu.flatMap its++zv.flatMap its++[(⟨⟨0,0,((atF a key d kn).getD An.va0)⟩,p.1,p.2⟩:Zt)].flatMap its).map (·.1)=(hds zu++hds zv++hds [(⟨⟨0,0,((atF a key d kn).getD An.va0)⟩,p.1,p.2⟩:Zt)]):=by rw [zez,zez,yg8,yg8,yg8]
 have hsep:SepH (hds zu++hds zv++hds [(⟨⟨0,0,((atF a key d kn).getD An.va0)⟩,p.1,p.2⟩:Zt)]):=(hsu.app hsv hov hwv).app hRp.2 hop hRp.1;have hnew:NewH w.heap.size (hds zu++hds zv++hds [(⟨⟨0,0,((atF a key d kn).getD An.va0)⟩,p.1,p.2⟩:Zt)]):=((hwu.le hnu).app (hwv.le hnv)).app (hRp.1.le hnp);have hvl: ∀s∈(if recOk a=true then vwT (toldT a key kn) else []),limOk s:=fun s hs2=>by
  split at hs2
  ·exact vw_lim hs s hs2
  ·cases hs2
 have hlim: ∀t∈(zu.flatMap its++zv.flatMap its++[(⟨⟨0,0,((atF a key d kn).getD An.va0)⟩,p.1,p.2⟩:Zt)].flatMap its),t.2.length<=1000000:=fun t ht=>by
  rcases zbp.1 ht with ht | ht
  ·rcases zbp.1 ht with ht | ht
   ·exact zj6 (by rw [hzu];exact hvl) t ht
   ·exact zj6 (by rw [hzv];exact hvl) t ht
  ·exact zj6 (fun s hs2=>by rw [zbj.1 hs2];exact at_lim hs) t ht
 have hll: ∀z:List Zt,z.map Zt.s=(if recOk a=true then vwT (toldT a key kn) else [])->z.length<=120:=fun z hz=>by
  rw [<-zch (f:=Zt.s),hz];split
  ·have h1:=zs9 (T:=toldT a key kn);have h2:=yf1 (a:=a) (key:=key) (kn:=kn);omega
  ·exact zbt _
 have hlu:=hll zu hzu;have hlv:=hll zv hzv;refine jv1 (T:=140) (us:=(zu.flatMap its++zv.flatMap its++[(⟨⟨0,0,((atF a key d kn).getD An.va0)⟩,p.1,p.2⟩:Zt)].flatMap its)) (g':=(uV (uO (uO (uO uN 84 (.sl 201 8 0 zu.length)) 85 (.sl 202 8 0 zv.length)) 88 (.sl 88 8 0 1)) 83 (tB true))) (h':=(upd (upd (upd (fun _=>none) 201 (some ⟨55,8,true,rV tZe (zu.map zeOf)⟩)) 202 (some ⟨55,8,true,rV tZe (zv.map zeOf)⟩)) 88 (some ⟨55,8,true,rV tZe ([(⟨⟨0,0,((atF a key d kn).getD An.va0)⟩,p.1,p.2⟩:Zt)].map zeOf)⟩))) hL (.app (.app (yr5 (k:=201) rfl) (yr5 (k:=202) rfl)) (yr5 (k:=88) (zs:=[(⟨⟨0,0,((atF a key d kn).getD An.va0)⟩,p.1,p.2⟩:Zt)]) rfl)) (by rw [hmu];exact hnew) (SlW.cons rfl (.val zao Free.E) (SlW.cons rfl .sl (SlW.cons rfl .sl (SlW.cons rfl .sl SlW.nil)))) (KyW.cons rfl qu8 (KyW.cons rfl qu8 (KyW.cons rfl qu8 KyW.nil))) (fun V hV=> ?_);have hV2:=XI_new (T:=140) (us:=(zu.flatMap its++zv.flatMap its++[(⟨⟨0,0,((atF a key d kn).getD An.va0)⟩,p.1,p.2⟩:Zt)].flatMap its)) hV (by rw [hmu];exact hnew);refine xw7 rfl rfl (xj0 (k:=89) (ents:=[.own (.sl 201 8 0 zu.length),.own (.sl 202 8 0 zv.length),.own (.sl 88 8 0 1)]) zgr el38 zf38 rfl (by intro e he;simp only [zbr,zdf,or_false] at he;rcases he with rfl | rfl | rfl <;> infer_instance) rfl rfl rfl) rfl qC trivial qA rfl ?_;have hfree: ∀x∈([(20,⟨38,1,false,[.own (.sl 100 8 0 zu.length),.own (.sl 101 8 0 zv.length),.own (.sl 102 8 0 1)]⟩),(100,⟨55,8,true,rV tZe (zu.map zeOf)⟩),(101,⟨55,8,true,rV tZe (zv.map zeOf)⟩),(102,⟨55,8,true,rV tZe ([(⟨⟨0,0,((atF a key d kn).getD An.va0)⟩,p.1,p.2⟩:Zt)].map zeOf)⟩)]:List (Nat×HEnt)),∀e∈x.2.ts,Wk e e:=fun x hx=>by
  simp only [zbr,zdf,or_false] at hx;rcases hx with rfl | rfl | rfl | rfl
  ·intro e he;simp only [zbr,zdf,or_false] at he;rcases he with rfl | rfl | rfl <;> exact .sl
  ·exact yd4 fun _=>Free.ze
  ·exact yd4 fun _=>Free.ze
  ·exact yd4 fun _=>Free.ze
 have hul:(zu.flatMap its++zv.flatMap its++[(⟨⟨0,0,((atF a key d kn).getD An.va0)⟩,p.1,p.2⟩:Zt)].flatMap its).length<=900:=by
  have e:=congrArg List.length hmu;have l1:=xq3 (zs:=zu.map zeOf);have l2:=xq3 (zs:=zv.map zeOf);rw [xz5,zch] at l1 l2;simp only [zch,zbm] at e ⊢;have l3:(hds [(⟨⟨0,0,((atF a key d kn).getD An.va0)⟩,p.1,p.2⟩:Zt)]).length=2:=rfl;omega
 refine xw7 rfl rfl (qn6 (fun j=>cond (Nat.beq j 20) 89 (cond (Nat.beq j 100) 201 (cond (Nat.beq j 101) 202 (cond (Nat.beq j 102) 88 j)))) OvC.mk' (zq1 V (zu.flatMap its++zv.flatMap its++[(⟨⟨0,0,((atF a key d kn).getD An.va0)⟩,p.1,p.2⟩:Zt)].flatMap its) (zu.map zeOf) (zv.map zeOf) ([(⟨⟨0,0,((atF a key d kn).getD An.va0)⟩,p.1,p.2⟩:Zt)].map zeOf) zu.length zv.length 1 (zch _) (zch _) rfl (by rw [xz5,xz5,xz5];exact hmu) (by rw [xz5,xz5,xz5];exact hsep) hul (jo0 hlim) (by omega) (by omega) (by omega)) fi23 rfl (krC (ρ:=(fun j=>cond (Nat.beq j 20) 89 (cond (Nat.beq j 100) 201 (cond (Nat.beq j 101) 202 (cond (Nat.beq j 102) 88 j))))) (k:=20) rfl (krC (ρ:=(fun j=>cond (Nat.beq j 20) 89 (cond (Nat.beq j 100) 201 (cond (Nat.beq j 101) 202 (cond (Nat.beq j 102) 88 j))))) (k:=100) x8 (krC (ρ:=(fun j=>cond (Nat.beq j 20) 89 (cond (Nat.beq j 100) 201 (cond (Nat.beq j 101) 202 (cond (Nat.beq j 102) 88 j))))) (k:=101) x8 (krC (ρ:=(fun j=>cond (Nat.beq j 20) 89 (cond (Nat.beq j 100) 201 (cond (Nat.beq j 101) 202 (cond (Nat.beq j 102) 88 j))))) (k:=102) x8 (krN (ρ:=(fun j=>cond (Nat.beq j 20) 89 (cond (Nat.beq j 100) 201 (cond (Nat.beq j 101) 202 (cond (Nat.beq j 102) 88 j)))))))))) rfl (by intro e he;rw [zbj.1 he];exact .sl) hfree) rfl qA ⟨rfl,rfl,rfl,rfl,rfl,trivial⟩ trivial rfl (xa9 (xc6 rfl) qB trivial trivial rfl (xa9 xb0 qA trivial trivial rfl (xg3 ?_)));refine A2 ?_;exact jg0 (RBase.ov hV2) trivial rfl rfl
end An.S
namespace An
open Go Go.Proofs Go.Shelf Go.Sort Go.RowKit Tryz
theorem sortedKo {P:Program} {ρ ρ2:Ren} {T k:TypeId} (L6:SlLaysZ.n6 P ρ) (L10:SlLaysZ.n10 P ρ2) (hk2:ρ.t 26=k) (hk3:ρ2.t 26=k) (hs:AnyZ.SortsIn P ρ Fence.wide 4) (e9: ∀args w,(callFunc (ρ.f 9) args).run P w= .ok (.enter (ρ.f 9) args) w) (eg: ∀args w,(callFunc (ρ2.f 10) args).run P w= .ok (.enter (ρ2.f 10) args) w)
  (l:List (ByteArray×Nat)) (hn:(l.map (·.1)).Nodup) (hz: ∀p∈l,p.1.size<=maxLen) (hl:l.length<=1000000):
  CtG P (ρ.f 6) [(1,⟨T,1,false,[.val (tMp mkSU (some l))]⟩)] [.own (.fn (ρ2.f 10) [.ptr 1 0])] (.own (.sl 2 1 0 (srtB (l.map (·.1))).length)) [(1,⟨T,1,false,[.val (tMp mkSU (some l))]⟩),(2,⟨k,1,false,rV tSt (srtB (l.map (·.1)))⟩)] [2]:=by
 intro F w η vs hS hA hI hF
 match vs,hS with
 | [v0],hS=>
 obtain ⟨h0,_⟩:=hS;obtain ⟨k1,k2,k3,k4,k5⟩:=hA (1,⟨T,1,false,[.val (tMp mkSU (some l))]⟩) (by simp);have k1:1<=η.c 1:=k1;obtain ⟨cs,c1,c2,c3⟩:=k5 (show 0 < η.c 1 by omega);have c3:=c3 0 (.val (tMp mkSU (some l))) rfl;have c1:w.heap[η.b 1]? =some (.cells cs T (0,0)):=c1;have c2:cs.size=η.c 1*1:=c2;rw [zdr] at c2;obtain ⟨b,e1,hFb,hb⟩:=c3;have e1:cs.getD (0*1) undef= .map (some b):=e1;have hcell:w.cell? ⟨η.b 1,0,none⟩=some (.map (some b)):=by
  rw [zef,zbk,zcm (show 0 < cs.size by omega)] at e1;simp only [World.cell?,c1];rw [zcm (show 0 < cs.size by omega)];exact congrArg some e1
 have hk:P.underlying k=some .string:=by rw [<-hk3];exact L10.t26
 have hown:=own_SU hk hb hn hz (zdc hl (by decide));have hblk:η.b 1 < w.heap.size:=xa7 c1;have hsz:=qv1 hk hz;obtain ⟨vl,rfl,hv⟩:=h0
 match vl,hv with
 | [x],hv=>
 obtain ⟨hx,_⟩:=hv;have hx:x= .pointer (some ⟨η.b 1,0,none⟩):=hx;subst hx;have hseq:=AnyZ.keys_gives L10 Fence.wide 2 trivial rfl (by omega) (η.b 1) b l.length _ w hblk hcell (by rw [hk3];exact hown);have hsz2:(strKeys (.map (((mkSU.ents 0 l).map (Go.WideElems.rg P k rNo)).foldr DataW.insert []):DataW Unit)).length=l.length:=by rw [hsz.length_eq,zch]
 refine (callsIn_wide (n:=5)).1 ((AnyZ.sorted_in L6 Fence.wide 5 trivial trivial trivial trivial rfl (by omega) hs e9 (ρ2.f 10) #[.pointer (some ⟨η.b 1,0,none⟩)] trivial eg _ _ (by rw [strKeys,zch] at hsz2;show List.length _<=_;rw [hsz2];exact zdc hl (by decide)) (by rw [strKeys,zch] at hsz2;show List.length _*16<=_;rw [hsz2];omega) w hseq).mono ?_);rintro e w' ⟨v,ss,rfl,hS,hrow,hnil,hbel⟩;have hp:ss.Perm (l.map fun p=>bts p.1):=hS.trans hsz;have hm:=mergeSort_of_perm hp;have hlen:(srtB (l.map (·.1))).length=ss.length:=by rw [jt4,zch,hp.length_eq,zch]
 have hS2:ss.mergeSort (fun x y=>decide (x<=y))=srtS ((l.map (·.1)).map bts):=by rw [List.map_map];exact hm
 rw [hS2,hk2] at hrow;obtain ⟨r1,r2⟩:=hrow;have hbw:=xa7 hb;have fin: ∀(g cap:Nat) (A:Option Addr),v= .slice A ss.length cap->ss.length<=cap->cap<=9223372036854775807->(0 < cap->A=some ⟨g,0,none⟩/\w.heap.size<=g/\ ∃cur,w'.heap[g]? =some (.cells cur k (0,0))/\cur.size=cap/\ ∀i x,(srtB (l.map (·.1)))[i]? =some x->cur[i]? =some (Value.string x))->
   ∃η',Out F w η [(1,⟨T,1,false,[.val (tMp mkSU (some l))]⟩)] (.own (.sl 2 1 0 (srtB (l.map (·.1))).length)) [(1,⟨T,1,false,[.val (tMp mkSU (some l))]⟩),(2,⟨k,1,false,rV tSt (srtB (l.map (·.1)))⟩)] [2] v w' η':=fun g cap A hv hn2 hc2 hA2=>by
  have hown2: ∀j,OwnK ⟨fun j=>if j=2 then g else η.b j,fun j=>if j=2 then cap else η.c j,η.vo⟩ [(1,⟨T,1,false,[.val (tMp mkSU (some l))]⟩),(2,⟨k,1,false,rV tSt (srtB (l.map (·.1)))⟩)] j->j=η.b 1∨w.heap.size<=j:=fun j ⟨y,hy,hy1,hy2⟩=>by
   rcases zbr.1 hy with rfl | hy
   ·exact .inl hy2
   ·rw [zbj.1 hy] at hy1 hy2;exact .inr (by rw [show j=g from hy2];exact (hA2 hy1).2.1)
  refine ⟨⟨fun j=>if j=2 then g else η.b j,fun j=>if j=2 then cap else η.c j,η.vo⟩,⟨hbel.os,hbel.tape,hbel.output,hbel.size,fun b' hb' _=>hbel.block b' hb'⟩,fun j hj=> ?_,⟨A,by rw [hv,hlen];rfl,by show 0+_<=cap;rw [hlen];omega,fun hc=> ?_⟩,fun x hx=> ?_,fun x hx y hy hne h1 h2=> ?_,fun j hj=> ?_⟩
  ·have:j≠2:=by simpa using hj
   exact ⟨if_neg this,if_neg this⟩
  ·rw [(hA2 hc).1];rfl
  ·rcases zbr.1 hx with rfl | hx
   ·refine ⟨k1,k2,k3,k4,fun hc=>⟨cs,(hbel.block _ hblk).trans c1,by show cs.size=η.c 1*1;rw [c2,zdr],fun i e hi=> ?_⟩⟩
    match i,hi with
    | 0,hi=>
     obtain rfl:=Option.some.inj hi;refine ⟨b,e1,⟨.inr hFb,fun ho=> ?_⟩,(hbel.block _ hbw).trans hb⟩;rcases hown2 b ho with h | h
     ·exact hF b hFb ⟨_,zbj.2 rfl,by show 0 < η.c 1;omega,h⟩
     ·omega
   ·rw [zbj.1 hx];refine ⟨by show (rV tSt _).length<=cap;rw [rV,zch,hlen];exact hn2,Nat.one_pos,fun _=>rfl,hc2,fun hc=> ?_⟩;obtain ⟨_,_,cur,q1,q2,q3⟩:=hA2 hc;refine ⟨cur,q1,by show cur.size=cap*1;omega,fun i e hi=> ?_⟩;have hi:(rV tSt (srtB (l.map (·.1))))[i]? =some e:=hi;rw [rV,zbs,zdd] at hi;obtain ⟨x,hx2,rfl⟩:=hi;show cur.getD (i*1) undef= .string x;rw [zdr,zbk,q3 i x hx2];rfl
  ·rcases zbr.1 hx with rfl | hx <;> rcases zbr.1 hy with rfl | hy
   ·exact absurd rfl hne
   ·rw [zbj.1 hy] at h2 ⊢;have:=(hA2 h2).2.1;show η.b 1≠g;omega
   ·rw [zbj.1 hx] at h1 ⊢;have:=(hA2 h1).2.1;show g≠η.b 1;omega
   ·rw [zbj.1 hx,zbj.1 hy] at hne;exact absurd rfl hne
  ·rcases hown2 j hj with h | h
   ·exact .inl ⟨_,zbj.2 rfl,by show 0 < η.c 1;omega,h⟩
   ·exact .inr h
 rcases r2 with ⟨rfl,h0⟩ | ⟨g,cap,cur,rfl,hg,hheap,hncap,hcap,hcs,htk⟩
 ·obtain ⟨η',ho⟩:=fin 0 0 none (by rw [h0]) (by omega) (by decide) fun h=>absurd h (Nat.lt_irrefl 0);exact ⟨_,η',rfl,ho⟩
 ·suffices hs: ∀i x,(srtB (l.map (·.1)))[i]? =some x->cur[i]? =some (Value.string x) by
   obtain ⟨η',ho⟩:=fin g cap _ rfl hncap (zdc hcap (by decide)) fun _=>⟨rfl,hg,cur,hheap,by omega,hs⟩
   exact ⟨_,η',rfl,ho⟩
  intro i x hi;rw [zdr] at htk;have hil:i < ss.length:=by rw [<-hlen];exact (zbo.1 hi).1
  rw [srtB,zbs] at hi;have h1:=congrArg (fun q:List Value=>q[i]?) htk;simp only [List.getElem?_take,hil,if_true,zbs,zes] at h1;rw [h1];obtain ⟨y,hy,hyx⟩:=zdd.1 hi;rw [hy];subst hyx;rfl
end An
