/- Part 2 of a proof: LibS, LibT, LibU, LibV, LibW, LibX, LibZh, LibZi, LibLk, LibNw, LibOv, LibLw, Num, Num2, Num3, Pack, Borrow, Cmp, Row, Arith, LibAu, W1, W2, W3, Mul, Shift, W4, Knuth, Dstep, W5, Div, W6, Diff, W7. -/
import Derived.Test.YtjkefpnidicimaaGreatProg
import Derived.Lib.BitFns
import Derived.Test.YtjkefpnidicimaaGreatM41
set_option maxHeartbeats 4000000
set_option maxRecDepth 100000
namespace An
open Go
def codeOf:Exit->Code
 | .exit id=> .exit id
 | _=> .ret
def SS (c:Base) (D lp:Nat) (obj:Obj) (O V:Dom) (G0:Slots) (h:Keys) (l:List Nat) (a:Act) (W:World):Prop:=
 ∃η,St' (c.lpb D lp obj O) G0 h (nm l) a W η/\(∀b,Own h η b->V b)/\(∀b,η.vo b->V b)/\(∀b,V b->b < W.heap.size)/\(∀x∈(c.lpb D lp obj O).pn,V x.1)/\(∀b,O b->c.w0.heap.size<=b∨c.lb b)
theorem SS.on {c:Base} {D lp:Nat} {obj:Obj} {O O' V:Dom} {G0:Slots} {h:Keys} {l:List Nat} {a:Act} {W W':World} (s:SS c D lp obj O V G0 h l a W) (st:Stp O W W') (hO: ∀b,O' b->b < W'.heap.size/\(O b∨W.heap.size<=b)):SS c D lp obj O' V G0 h l a W':=by
 obtain ⟨η,s,h1,h2,h3,h4,h5⟩:=s;refine ⟨η,s.fedOn st h5 hO,h1,h2,fun b hb=>zca (h3 b hb) st.size,h4,fun b hb=> ?_⟩;rcases (hO b hb).2 with h6 | h6
 ·exact h5 b h6
 ·exact .inl (zcj s.fr.size h6)
def PostRnd {ι κ:Type} (cB:Base) (I:Nat->ι->Prop) (H:Nat->ι->Keys) (Ix:Exit->κ->Prop) (Hx:κ->Keys) (l:List Nat) (k:Nat):Exit->Act->World->Prop
 | .normal,a,w=> ∃i,I (k+1) i/\St cB (fun _=>none) (H (k+1) i) (nm l) a w
 | e,a,w=> ∃i,Ix e i/\St cB (fun _=>none) (Hx i) (nm l) a w
def JC {ι κ:Type} (c:Base) (D lp:Nat) (rec_:LoopState->Option Code->Loop) (G0:Slots) (l:List Nat) (a:Act) (I:Nat->ι->Prop) (H:Nat->ι->Keys) (Ix:Exit->κ->Prop) (Hx:κ->Keys) (n:Nat) (O V:Dom) (W:World):Prop:=
 (∃k i,n=2*k/\I k i/\SS c D lp (.loop (rec_ .ready none)) O V G0 (H k i) l a W)∨(∃k e i,n=2*k+3/\Ix e i/\SS c D lp (.loop (rec_ .done (some (codeOf e)))) O V G0 (Hx i) l a W)
section
variable {P:Program} {c:Base} {g:Slots} {h:Keys} {al:Names} {Q:Exit->Act->World->Prop}
theorem xv7 {ι κ:Type} {I:Nat->ι->Prop} {H:Nat->ι->Keys} {Ix:Exit->κ->Prop} {Hx:κ->Keys} {l:List Nat} {k:Nat} (i:ι) (hi:I (k+1) i) (hh:SubK (H (k+1) i) h) (sh:SupH (H (k+1) i) (nm l)) (hlk:LkOk c (nm l)):wk c .normal (PostRnd c I H Ix Hx l k) g h al:=
 fun _ _ hs=>⟨i,hi,hs.weaken zay hh zar sh hlk⟩
theorem zt6 {x:Operand} {ps:List Nat} {assign body:Code} {f:FuncId} {Hl:List (Nat×HEnt)} {caps:List VP} {N:Nat} {ys:Nat->List Ty} (ρ:Nat->Nat)
    (hro:c.ro=none) (hvi: ∀b,¬c.vi b) (hdf:dfB c.df c.pn) (hit:ItC P f Hl caps N ys) (hf:FnI P f)
    (hx:look g x=some (.own (.fn f (VP.rens ρ caps)))) (hHl:Kr h (Hl.map fun y=>(ρ y.1,y.2.ren ρ))) (hρ:injN ρ (Hl.map (·.1))=true)
    (hps:(ps.all fun p=>Nat.blt p c.N)=true) (hys: ∀k,k < N->(ys k).length=ps.length)
    (G0:Slots) (l nG:List Nat) (hG:Sub G0 g) (hGn:SupG G0 (nm nG)) (hnG:subN (nG++c.ln) l=true) (hlk:LkOk c (nm l))
    {ι:Type} (I:Nat->ι->Prop) (H:Nat->ι->Keys) (hH: ∀k i,SupH (H k i) (nm l)) (hdis: ∀k i,∀y∈Hl,H k i (ρ y.1)=none)
    {κ:Type} (Ix:Exit->κ->Prop) (Hx:κ->Keys) (hIx: ∀e i,Ix e i->e= .ret∨ ∃id,e= .exit id)
    (i0:ι) (h0:I 0 i0) (hK0:SubK (H 0 i0) h)
    (round: ∀(D lp:Nat) (o1 o2:Obj) (O:Dom) (W:World) (lη:Env) (lb V0:Dom) (k:Nat) (i:ι),k < N->I k i->c.w0.heap.size<=W.heap.size->
      ∃g1 h1 al1,wc P (c.rnd D lp o1 O W (nG++c.ln) lη lb V0) assign (Exit.then (fun a w=>St (c.rnd D lp o1 O W (nG++c.ln) lη lb V0) g1 h1 al1 a w) (fun _ _ _=>False)) (setP G0 ps (ys k)) (H k i) (nm l)/\
        wc P (c.rnd D lp o2 O W (nG++c.ln) lη lb V0) body (PostRnd (c.rnd D lp o2 O W (nG++c.ln) lη lb V0) I H Ix Hx l k) g1 h1 al1)
    (done: ∀D,D∉c.df-> ∀i,I N i->wk (c.lp D) .normal Q G0 (H N i) (nm l))
    (stop: ∀D,D∉c.df-> ∀e i,Ix e i->wk (c.lp D) e Q G0 (Hx i) (nm l)):
    wc P c (.rangeFunc x ps.toArray assign body) Q g h al:=by
  intro a w ⟨η,s⟩;rw [hro];refine wpIn_rangeFunc fun fn _=> ?_;obtain ⟨rec_,hrec⟩: ∃rec_:LoopState->Option Code->Loop,rec_=fun st pe=>{state:=st,pending:=pe,fn,tmps:=a.tmps,params:=ps.toArray,assign,body,defers:=w.heap.size}:=⟨_,rfl⟩
  obtain ⟨D,hD⟩: ∃D,D=w.heap.size:=⟨_,rfl⟩
  obtain ⟨lp,hlp⟩: ∃lp,lp=w.heap.size+1:=⟨_,rfl⟩
  obtain ⟨W1,hW1⟩: ∃W1,W1=(w.alloc (.deferred (some []))).alloc (.loop (rec_ .ready none)):=⟨_,rfl⟩
  have hext:Ext w W1:=by
    rw [hW1];exact (Ext.push w _).trans (Ext.push _ _)
  have hsz1:W1.heap.size=w.heap.size+2:=by rw [hW1,World.size_alloc,World.size_alloc]
  have hL1:W1.heap[lp]? =some (.loop (rec_ .ready none)):=by
    rw [hW1,hlp];have:=World.alloc_heap_new (w.alloc (.deferred (some []))) (.loop (rec_ .ready none));rwa [World.size_alloc] at this
  have hK1:W1.heap[D]? =some (.deferred (some [])):=by
    rw [hW1,hD];show ((w.heap.push _).push _)[w.heap.size]? =_;rw [zgg,if_neg (by simp)];simp
  have hHl':=Kr.get hHl;have hH': ∀y∈Hl,h (ρ y.1)=some (y.2.ren ρ):=fun y hy=>hHl' (ρ y.1,y.2.ren ρ) (zdd (f:=fun y:Nat×HEnt=>(ρ y.1,y.2.ren ρ)) hy);have hDdf:D∉c.df:=fun hm=>by
    have key: ∀l:List Nat,dfB l c.pn->D∈l->(D,Obj.deferred (some []))∈c.pn:=by
      intro l
      induction l with
      | nil=>intro _ h;cases h
      | cons E r ih => intro hd hm; rcases zbr.1 hm with rfl | hm
                       · exact hd.1
                       · exact ih hd.2.2 hm
    have:=xa7 (s.pin _ (key _ hdf hm)).1;simp only at this;omega
  have hpnlt: ∀y∈c.pn,y.1 < w.heap.size:=fun y hy=>xa7 (s.pin y hy).1;have hneq: ∀(o:Obj) (y:Nat×Obj),y∈(D,Obj.deferred (some []))::c.pn->y.1≠lp:=fun _ y hy=>by
    rcases zbr.1 hy with rfl | hy
    · simp only;omega
    · have:=hpnlt y hy;omega
  obtain ⟨hxs,_⟩:=xa0 s hx;obtain ⟨vs,hv,hcaps⟩:=hxs;have hv:a.eval x= .func (.func f) #[] vs.toArray:=hv;obtain ⟨fnf,hf1,hf2,hf3⟩:=hf;obtain ⟨O0,hO0⟩: ∃O0:Dom,O0=OwnK (η.pre ρ) Hl:=⟨_,rfl⟩
  have hO0own: ∀b,O0 b->Own h η b:=fun b hb=>by
    rw [hO0] at hb;obtain ⟨y,hy,hc,rfl⟩:=hb;exact ⟨ρ y.1,_,hH' y hy,hc,rfl⟩
  have hownsub: ∀b,Own (H 0 i0) η b->Own h η b:=by
    rintro b ⟨k,y,hk,hc,rfl⟩;obtain ⟨z,hz,_⟩:=hK0 k y hk;exact ⟨k,z,hz,hc,rfl⟩
  have hsep: ∀b,Own (H 0 i0) η b-> ¬O0 b:=by
    rintro b ⟨k,y,hk,hc,rfl⟩ hb;rw [hO0] at hb;obtain ⟨z,hz,hcz,e⟩:=hb;obtain ⟨y',hy',_⟩:=hK0 k y hk;exact s.inj k (ρ z.1) y' _ hy' (hH' z hz) (fun e'=>by rw [e',hdis 0 i0 z hz] at hk;cases hk) hc hcz e
  have s1:=s.ext hext;have hlt1: ∀b,Own h η b->b < w.heap.size:=fun b hb=>s.olt hb;have hvolt: ∀b,η.vo b->b < w.heap.size:=fun b hb=>(s.fr.vnew b hb).1;have hKl:Keep (c.dom h η) ((c.lpb D lp (.loop (rec_ .ready none)) O0).dom (H 0 i0) η) W1 W1:=fun b o hb hl _=>⟨⟨hb.1,fun ho=>hb.2.1 (hownsub b ho),hb.2.2.1,fun ho=>hb.2.1 (hO0own b ho)⟩,hl⟩
  have sL:St' (c.lpb D lp (.loop (rec_ .ready none)) O0) G0 (H 0 i0) (nm l) a W1 η:=by
    refine ⟨s1.tn,s1.df,fun t e ht=> ?_,fun k y hk=> ?_,fun k k' y y' hk hk' hne hc hc'=> ?_,⟨s1.fr.os,s1.fr.tape,s1.fr.output,s1.fr.size,s1.fr.block,s1.fr.vold,s1.fr.vnew⟩,fun k hk=>⟨hlk.ln k hk,(s1.lk k hk).2⟩,fun y hy=> ?_,fun b hb=>zca (hlt1 b (hO0own b hb)) hext.size,hlk.yk,fun k y hk hy=> ?_,s1.lbl⟩
    · obtain ⟨e',he',hi⟩:=hG t e ht
      exact ⟨(s1.slot t e' he').1,fun k hk=>xb6.2 (xk1 hnG k (zbo.2 (.inl (xb6.1 (hGn t e ht k hk))))),Ent.sat_go (hi _ _ _ _ (s1.slot t e' he').2.2) hKl fun _ _=>⟨rfl,rfl⟩⟩
    · obtain ⟨z,hz,_,hi⟩:=hK0 k y hk
      obtain ⟨h1,h2,h3,h4⟩:=s1.key k z hz;exact ⟨(hH 0 i0 k y hk).1,(hH 0 i0 k y hk).2,HEnt.sat_go (hi _ _ _ _ h3) (fun _=>rfl) hKl ⟨rfl,rfl⟩ fun _ _=>⟨rfl,rfl⟩,fun hc=>⟨(h4 hc).1,(h4 hc).2.1,hsep _ ⟨k,y,hk,hc,rfl⟩⟩⟩
    · obtain ⟨z,hz,_⟩:=hK0 k y hk
      obtain ⟨z',hz',_⟩:=hK0 k' y' hk';exact s1.inj k k' z z' hz hz' hne hc hc'
    · rcases zbr.1 hy with rfl | hy
      · exact ⟨hL1,rfl,.inl (by have:=s.fr.size;show c.w0.heap.size<=lp;omega),fun hv=>by have:=hvolt _ hv;simp only at this;omega,fun hv=>by have:=hlt1 _ (hO0own _ hv);simp only at this;omega⟩
      · rcases zbr.1 hy with rfl | hy
        · exact ⟨hK1,rfl,.inl (by have:=s.fr.size;show c.w0.heap.size<=D;omega),fun hv=>by have:=hvolt _ hv;simp only at this;omega,fun hv=>by have:=hlt1 _ (hO0own _ hv);simp only at this;omega⟩
        · obtain ⟨p1,p2,p3,p4,_⟩:=s1.pin y hy
          exact ⟨p1,p2,p3,p4,fun hv=>s.npin hy (hO0own _ hv)⟩
    · obtain ⟨z,hz,hT,_⟩:=hK0 k y hy
      rw [<-hT];refine c.Jc _ _ _ _ _ _ (s.jj k z hk hz) (hext.stp _) fun b hb=> ?_;rcases hb with hb | hb | ⟨y,hy,e⟩
      · exact ⟨zca (hlt1 b (hownsub b hb)) hext.size,.inl (.inl (hownsub b hb))⟩
      · exact ⟨zca (hlt1 b (hO0own b hb)) hext.size,.inl (.inl (hO0own b hb))⟩
      · rcases zbr.1 hy with rfl | hy
        · exact ⟨by simp only at e;omega,.inr (by simp only at e;omega)⟩
        · rcases zbr.1 hy with rfl | hy
          · exact ⟨by simp only at e;omega,.inr (by simp only at e;omega)⟩
          · exact ⟨by rw [e];exact zca (hpnlt y hy) hext.size,.inl (.inr (.inr ⟨y,hy,e⟩))⟩
  obtain ⟨V0,hV0⟩: ∃V0:Dom,V0=fun b=>Own (H 0 i0) η b∨η.vo b∨b=lp∨b=D∨ ∃y∈c.pn,b=y.1:=⟨_,rfl⟩
  have hV0lt: ∀b,V0 b->b < W1.heap.size:=fun b hb=>by
    rw [hV0] at hb;rcases hb with hb | hb | hb | hb | ⟨y,hy,e⟩
    · exact zca (hlt1 b (hownsub b hb)) hext.size
    · exact zca (hvolt b hb) hext.size
    · omega
    · omega
    · rw [e];exact zca (hpnlt y hy) hext.size
  have hSS0:SS c D lp (.loop (rec_ .ready none)) O0 V0 G0 (H 0 i0) l a W1:=by
    refine ⟨η,sL,fun b hb=>by rw [hV0];exact .inl hb,fun b hb=>by rw [hV0];exact .inr (.inl hb),hV0lt,fun y hy=> ?_,fun b hb=> ?_⟩
    · rw [hV0]
      rcases zbr.1 hy with rfl | hy
      · exact .inr (.inr (.inl rfl))
      · rcases zbr.1 hy with rfl | hy
        · exact .inr (.inr (.inr (.inl rfl)))
        · exact .inr (.inr (.inr (.inr ⟨y,hy,rfl⟩)))
    · obtain ⟨k,y,hk,hc,rfl⟩:=hO0own b hb
      exact ((s.key k y hk).2.2.2 hc).1
  obtain ⟨F,hF⟩: ∃F:Dom,F=fun b=>c.dom h η b/\b < w.heap.size/\ ¬ ∃y∈c.pn,b=y.1:=⟨_,rfl⟩
  have hKF:Keep (c.dom h η) F w W1:=fun b o hb hl hd=>by
    have hnp: ¬ ∃y∈c.pn,b=y.1:=by
      rintro ⟨y,hy,e⟩;obtain ⟨p1,p2,_⟩:=s.pin y hy;rw [<-e,hl] at p1;cases p1;rw [p2] at hd;cases hd
    exact ⟨by rw [hF];exact ⟨hb,xa7 hl,hnp⟩,(hext.block b (xa7 hl)).trans hl⟩
  have hsats:VP.sats F W1 (η.pre ρ) caps vs:=VP.sats_go hKF caps vs (fun _ _=>⟨rfl,rfl⟩) ((VP.sats_ren caps vs).1 hcaps);have hAll:AllK F W1 (η.pre ρ) Hl:=fun y hy=>HEnt.sat_go (HEnt.sat_ren.1 (s.key _ _ (hH' y hy)).2.2.1) (fun hc=>hext.block _ (s.klt (hH' y hy) hc)) hKF ⟨rfl,rfl⟩ fun _ _=>⟨rfl,rfl⟩
  have hInj:InjK (η.pre ρ) Hl:=fun y hy z hz hne hcy hcz=>s.inj (ρ y.1) (ρ z.1) _ _ (hH' y hy) (hH' z hz) (xt1 hρ y.1 z.1 (zdd hy) (zdd hz) hne) hcy hcz;have hFV: ∀b,F b-> ¬V0 b/\ ¬OwnK (η.pre ρ) Hl b:=fun b hb=>by
    rw [hF] at hb;obtain ⟨hb,hlt,hnp⟩:=hb;refine ⟨fun hv=> ?_,fun ho=>hb.2.1 (hO0own b (by rw [hO0];exact ho))⟩;rw [hV0] at hv;rcases hv with hv | hv | hv | hv | hv
    · exact hb.2.1 (hownsub b hv)
    · exact hb.2.2.1 hv
    · omega
    · omega
    · exact hnp hv
  have hOV: ∀b,OwnK (η.pre ρ) Hl b-> ¬V0 b:=fun b ho hv=>by
    have ho':O0 b:=by rw [hO0];exact ho
    rw [hV0] at hv;rcases hv with hv | hv | hv | hv | ⟨y,hy,e⟩
    · exact hsep b hv ho'
    · obtain ⟨k,y,hk,hc,rfl⟩:=hO0own b ho'
      exact ((s.key k y hk).2.2.2 hc).2.1 hv
    · have:=hlt1 b (hO0own b ho');omega
    · have:=hlt1 b (hO0own b ho');omega
    · rw [e] at ho';exact s.npin hy (hO0own _ ho')
  have hJc:JcOf (JC c D lp rec_ G0 l a I H Ix Hx):=fun n O O' V W W' hj st hO=>by
    rcases hj with ⟨k,i,e,hi,hs⟩ | ⟨k,e',i,e,hi,hs⟩
    · exact .inl ⟨k,i,e,hi,hs.on st hO⟩
    · exact .inr ⟨k,e',i,e,hi,hs.on st hO⟩
  have hY:YHyp P W1 F (JC c D lp rec_ G0 l a I H Ix Hx) lp N ys:=by
    intro k hk O V W vals D0 hj hvals hD0;have hev: ∃i,I k i/\SS c D lp (.loop (rec_ .ready none)) O V G0 (H k i) l a W:=by
      rcases hj with ⟨k',i,e,hi,hs⟩ | ⟨k',e',i,e,hi,hs⟩
      · have:k'=k:=by omega
        subst this;exact ⟨i,hi,hs⟩
      · omega
    obtain ⟨i,hi,η',s',hV1,hV2,hV3,hV4,hV5⟩:=hev;have hlen:vals.length=ps.length:=by
      have key: ∀(ts:List Ty) (us:List Value),Tup.all D0 W ts us->us.length=ts.length:=by
        intro ts
        induction ts with
        | nil=>intro us h;cases us with
          | nil=>rfl
          | cons=>exact h.elim
        | cons t r ih=>intro us h;cases us with
          | nil=>exact h.elim
          | cons u us=>simp [ih us h.2]
      rw [key _ _ hvals,hys k hk]
    have hpinl:W.heap[lp]? =some (.loop (rec_ .ready none)):=(s'.pin (lp,_) (List.Mem.head _)).1;have hy:=run_yield (P:=P) (args:=vals.toArray) hpinl (by rw [hrec];simp [hlen]);refine ⟨_,_,_,_,hy,roundIn_of_wpIn trivial ?_⟩;obtain ⟨g1,h1,al1,hassign,hbody⟩:=round D lp (.loop (rec_ .ready none)) (.loop {rec_ .ready none with state:= .busy}) O W η' (lbR c D lp (H k i) η') η'.vo k i hk hi s'.fr.size;have hlnl: ∀k∈nG++c.ln,nm l k=true:=fun k hk=>xb6.2 (xk1 hnG k hk);have hbase: ∀b,D0 b-> ¬O b/\ ¬V b/\(c.w0.heap.size<=b∨(c.F0 b/\ ¬c.lb b)):=fun b hb=>by
      obtain ⟨e1,e2,e3⟩:=hD0 b hb;refine ⟨e1,e2,?_⟩;rcases e3 with e3 | e3
      · left;have:=s.fr.size;omega
      · rw [hF] at e3;exact e3.1.1
    have hpsN: ∀p∈ps,p < c.N:=fun p hp=>by have:=zei.1 hps p hp;simpa using this
    have sb:=s'.begin (nG++c.ln) hlnl hV1 hV2 hbase hvals hpsN (hys k hk).symm;have hfold:(rec_ .ready none).tmps=a.tmps/\(rec_ .ready none).params=ps.toArray/\(rec_ .ready none).fn=fn/\(rec_ .ready none).assign=assign/\(rec_ .ready none).body=body:=by rw [hrec];exact ⟨rfl,rfl,rfl,rfl,rfl⟩
    rw [hfold.1,hfold.2.1,hfold.2.2.2.1,hfold.2.2.2.2];have hz:=jr7 ps vals a.tmps;have hz':(ps.toArray.zip vals.toArray).foldl (fun tmps (x:Tmp×Value)=>match x with | (t,a)=>tmps.setIfInBounds t a) a.tmps=(ps.zip vals).foldl (fun t (x:Nat×Value)=>t.setIfInBounds x.1 x.2) a.tmps:=hz;rw [hz'];refine wpIn_mono (hassign _ _ ⟨η',sb⟩) fun e a₁ w₁ hq=> ?_;cases e with
    | normal=>
      obtain ⟨η1,sa⟩:=hq;have hp1:w₁.heap[lp]? =some (.loop (rec_ .ready none)):=(sa.pin (lp,_) (List.Mem.head _)).1;refine ⟨_,run_beginRound hp1 (by rw [hrec]),?_⟩;have sb2:=sa.repin (o':= .loop {rec_ .ready none with state:= .busy}) rfl (hneq (.loop (rec_ .ready none))) rfl;refine wpIn_mono (hbody _ _ ⟨η1,sb2⟩) fun e₂ a₂ w₂ hq₂=> ?_;have fin: ∀(jump:Option Code) (h3:Keys) (a₂:Act) (w₂:World),St (c.rnd D lp (.loop {rec_ .ready none with state:= .busy}) O W (nG++c.ln) η' (lbR c D lp (H k i) η') η'.vo) (fun _=>none) h3 (nm l) a₂ w₂->
          ∃w₃ V',(Instr.endRound lp jump).run P w₂= .ok (.bool jump.isNone) w₃/\Kept V V' W w₃/\SS c D lp (.loop (rec_ (if jump.isNone then .ready else .done) jump)) O V' G0 h3 l a w₃:=by
        intro jump h3 a₂ w₂ ⟨η3,s3⟩;have hp3:w₂.heap[lp]? =some (.loop {rec_ .ready none with state:= .busy}):=(s3.pin (lp,_) (List.Mem.head _)).1;have he:=run_endRound (P:=P) jump hp3;have hobj:({({rec_ .ready none with state:= .busy}:Loop) with state:=if jump.isNone then .ready else .done,pending:=jump}:Loop)=rec_ (if jump.isNone then .ready else .done) jump:=by rw [hrec]
        rw [hobj] at he;have s4:St' (c.rnd D lp (.loop (rec_ (if jump.isNone then .ready else .done) jump)) O W (nG++c.ln) η' (lbR c D lp (H k i) η') η'.vo) (fun _=>none) h3 (nm l) a₂ _ η3:=s3.repin (o':= .loop (rec_ (if jump.isNone then .ready else .done) jump)) rfl (hneq (.loop (rec_ .ready none))) rfl;have s5:=s'.endR (obj':= .loop (rec_ (if jump.isNone then .ready else .done) jump)) s4 (fun _ h=>h) (fun k hk=>zbo.2 (.inr hk)) (fun t e ht k hk=>zbo.2 (.inl (xb6.1 (hGn t e ht k hk))));have hown:=St'.endOwn s4;have hsz4:W.heap.size<=(w₂.putObj lp (.loop (rec_ (if jump.isNone then .ready else .done) jump))).heap.size:=s4.fr.size;refine ⟨_,fun b=>V b∨(W.heap.size<=b/\b < (w₂.putObj lp (.loop (rec_ (if jump.isNone then .ready else .done) jump))).heap.size),he,⟨⟨s4.fr.os,s4.fr.tape,s4.fr.output,hsz4,fun b hb hn=> ?_⟩,fun b hb=> .inl hb,fun b hb=> ?_⟩,η3,s5,?_,fun b hb=> ?_,fun b hb=> ?_,fun y hy=> ?_,hV5⟩
        · refine s4.fr.block b hb (fun hl=> ?_) fun hv=> ?_
          · rcases hl with hl | hl | hl | ⟨y,hy,e⟩
            · exact hn (hV1 b hl)
            · exact hn (hl▸hV4 (lp,_) (List.Mem.head _))
            · exact hn (hl▸hV4 (D,_) (List.Mem.tail _ (List.Mem.head _)))
            · exact hn (e▸hV4 y (List.Mem.tail _ (List.Mem.tail _ hy)))
          · rcases (s4.fr.vnew b hv).2.2 with h6 | h6
            · exact hn (hV2 b h6)
            · have h6:W.heap.size<=b:=h6
              omega
        · rcases hb with hb | hb
          · exact ⟨zca (hV3 b hb) hsz4,.inl hb⟩
          · exact ⟨hb.2,.inr hb.1⟩
        · rintro b ⟨k',y,hk',hc,rfl⟩
          rcases hown k' y hk' hc with h6 | h6
          · exact .inr ⟨h6,HEnt.lt (s4.key k' y hk').2.2.1 hc⟩
          · exact .inl (hV1 _ h6)
        · rcases (s4.fr.vnew b hb).2.2 with h6 | h6
          · exact .inl (hV2 b h6)
          · exact .inr ⟨h6,(s4.fr.vnew b hb).1⟩
        · rcases hb with hb | hb
          · exact zca (hV3 b hb) hsz4
          · exact hb.2
        · left
          rcases zbr.1 hy with rfl | hy
          · exact hV4 (lp,.loop (rec_ .ready none)) (List.Mem.head _)
          · exact hV4 y (List.Mem.tail _ hy)
      cases e₂ with
      | normal=>
        obtain ⟨i',hi',hs'⟩:=hq₂;obtain ⟨w₃,V',h6,h7,h8⟩:=fin none _ _ _ hs';exact ⟨_,_,h6,V',h7,.inl ⟨rfl,.inl ⟨k+1,i',by omega,hi',h8⟩⟩⟩
      | ret=>
        obtain ⟨i',hi',hs'⟩:=hq₂;obtain ⟨w₃,V',h6,h7,h8⟩:=fin (some .ret) _ _ _ hs';exact ⟨_,_,h6,V',h7,.inr ⟨rfl,.inr ⟨k,.ret,i',rfl,hi',h8⟩⟩⟩
      | exit id=>
        obtain ⟨i',hi',hs'⟩:=hq₂;obtain ⟨w₃,V',h6,h7,h8⟩:=fin (some (.exit id)) _ _ _ hs';exact ⟨_,_,h6,V',h7,.inr ⟨rfl,.inr ⟨k,.exit id,i',rfl,hi',h8⟩⟩⟩
      | goto t=>
        obtain ⟨i',hi',hs'⟩:=hq₂;rcases hIx _ _ hi' with h6 | ⟨_,h6⟩ <;> cases h6
      | panic ch=>
        obtain ⟨i',hi',hs'⟩:=hq₂;rcases hIx _ _ hi' with h6 | ⟨_,h6⟩ <;> cases h6
      | outgrown=>
        obtain ⟨i',hi',hs'⟩:=hq₂;rcases hIx _ _ hi' with h6 | ⟨_,h6⟩ <;> cases h6
    | exit id=>exact hq.elim
    | goto t=>exact hq.elim
    | ret=>exact hq.elim
    | panic chain=>exact hq.elim
    | outgrown=>exact hq.elim
  refine ⟨lp,[{target:= .collected D,args:= #[]}],W1,{target:= .fn (.func f) vs.toArray,args:= #[.func (.yield lp) #[] #[]]},W1,f,(Value.func (.yield lp) #[] #[]::vs).toArray,W1,?_,?_,fun _ _=>trivial,?_,fun h=>(by cases h),?_⟩
  · show (Instr.enterLoop fn a.tmps ps.toArray assign body none).run P w=_
    rw [run_enterLoop_outer,hlp,hD,hW1,hrec]
  · simp only [resolve,hv]
    simp [go_sem,Act.eval,Deferred.ofValue]
  · have:=xh4 (P:=P) hf1 hf2 hf3 (Value.func (.yield lp) #[] #[]::vs).toArray W1
    simp only [invoke];have e: #[Value.func (.yield lp) #[] #[]]++vs.toArray=(Value.func (.yield lp) #[] #[]::vs).toArray:=by simp
    rw [e];exact this
  · refine zd4 (ro:=none) (zec (hit F W1 (η.pre ρ) vs lp V0 (JC c D lp rec_ G0 l a I H Ix Hx) hJc hsats hAll hInj hFV hOV hV0lt hY (.inl ⟨0,i0,rfl,h0,by rw [<-hO0];exact hSS0⟩)) ?_)
    rintro e W2 ⟨v,rfl,O,V,hj⟩;have last: ∀(st:LoopState) (pe:Option Code) (h3:Keys),st≠ .busy->SS c D lp (.loop (rec_ st pe)) O V G0 h3 l a W2-> ∃W3,(Instr.endLoop lp).run P W2= .ok pe W3/\St (c.lp D) G0 h3 (nm l) {a with defers:={target:= .collected D,args:= #[]}::a.defers} W3:=by
      intro st pe h3 hst ⟨η3,s3,_⟩;have hp3:W2.heap[lp]? =some (.loop (rec_ st pe)):=(s3.pin (lp,_) (List.Mem.head _)).1;have he:=run_endLoop (P:=P) hp3 (by rw [hrec];exact hst);have s4:=s3.repin (o':= .loop {rec_ st pe with state:= .exhausted}) rfl (hneq (.loop (rec_ .ready none))) rfl;have:(rec_ st pe).pending=pe:=by rw [hrec]
      exact ⟨_,he.trans (congrArg (Result.ok · _) this),η3,St'.behind (obj:= .loop {rec_ st pe with state:= .exhausted}) s4 hvi⟩
    have even: ∀i,I N i->SS c D lp (.loop (rec_ .ready none)) O V G0 (H N i) l a W2->rangePost (fc none) 0 P lp Q {a with defers:=[{target:= .collected D,args:= #[]}]++a.defers} (.returned v) W2:=fun i hi hs=>by
      obtain ⟨W3,h6,h7⟩:=last _ _ _ (by simp) hs;exact ⟨none,W3,h6,done D hDdf i hi _ _ h7⟩
    have odd: ∀e i,Ix e i->SS c D lp (.loop (rec_ .done (some (codeOf e)))) O V G0 (Hx i) l a W2->rangePost (fc none) 0 P lp Q {a with defers:=[{target:= .collected D,args:= #[]}]++a.defers} (.returned v) W2:=fun e i hi hs=>by
      obtain ⟨W3,h6,h7⟩:=last _ _ _ (by simp) hs;have hq:=stop D hDdf e i hi _ _ h7;refine ⟨some (codeOf e),W3,h6,?_⟩;rcases hIx e i hi with rfl | ⟨id,rfl⟩
      · exact wpIn_ret hq
      · exact wpIn_exit hq
    rcases hj with hj | ⟨k,hk,hj⟩
    · rcases hj with ⟨k',i,e,hi,hs⟩ | ⟨k',e',i,e,hi,hs⟩
      · have:k'=N:=by omega
        subst this;exact even i hi hs
      · omega
    · rcases hj with ⟨k',i,e,hi,hs⟩ | ⟨k',e',i,e,hi,hs⟩
      · omega
      · exact odd e' i hi hs
theorem qn6 {x:Operand} {ps:List Nat} {assign body:Code} {f:FuncId} {Hl:List (Nat×HEnt)} {caps:List VP} {N:Nat} {ys:Nat->List Ty} (ρ:Nat->Nat)
  (hro:c.ro=none) (hvi: ∀b,¬c.vi b) (hdf:dfB c.df c.pn) (hit:ItC P f Hl caps N ys) (hf:FnI P f)
  (hx:look g x=some (.own (.fn f (VP.rens ρ caps)))) (hHl:Kr h (Hl.map fun y=>(ρ y.1,y.2.ren ρ))) (hρ:injN ρ (Hl.map (·.1))=true)
  (hps:(ps.all fun p=>Nat.blt p c.N)=true) (hys: ∀k,k < N->(ys k).length=ps.length)
  (G0:Slots) (l nG:List Nat) (hG:Sub G0 g) (hGn:SupG G0 (nm nG)) (hnG:subN (nG++c.ln) l=true) (hlk:LkOk c (nm l))
  {ι:Type} (I:Nat->ι->Prop) (H:Nat->ι->Keys) (hH: ∀k i,SupH (H k i) (nm l)) (hdis: ∀k i,∀y∈Hl,H k i (ρ y.1)=none)
  {κ:Type} (Ix:Exit->κ->Prop) (Hx:κ->Keys) (hIx: ∀e i,Ix e i->e= .ret∨ ∃id,e= .exit id)
  (i0:ι) (h0:I 0 i0) (hK0:SubK (H 0 i0) h)
  (round: ∀(D lp:Nat) (o1 o2:Obj) (O:Dom) (W:World) (lη:Env) (lb V0:Dom) (k:Nat) (i:ι),k < N->I k i->
   ∃g1 h1 al1,wc P (c.rnd D lp o1 O W (nG++c.ln) lη lb V0) assign (Exit.then (fun a w=>St (c.rnd D lp o1 O W (nG++c.ln) lη lb V0) g1 h1 al1 a w) (fun _ _ _=>False)) (setP G0 ps (ys k)) (H k i) (nm l)/\
    wc P (c.rnd D lp o2 O W (nG++c.ln) lη lb V0) body (PostRnd (c.rnd D lp o2 O W (nG++c.ln) lη lb V0) I H Ix Hx l k) g1 h1 al1)
  (done: ∀D,D∉c.df-> ∀i,I N i->wk (c.lp D) .normal Q G0 (H N i) (nm l))
  (stop: ∀D,D∉c.df-> ∀e i,Ix e i->wk (c.lp D) e Q G0 (Hx i) (nm l)):
  wc P c (.rangeFunc x ps.toArray assign body) Q g h al:=
 zt6 ρ hro hvi hdf hit hf hx hHl hρ hps hys G0 l nG hG hGn hnG hlk I H hH hdis Ix Hx hIx i0 h0 hK0 (fun D lp o1 o2 O W lη lb V0 k i hk hi _=>round D lp o1 o2 O W lη lb V0 k i hk hi) done stop
end
section
variable {P:Program} {c:Base} {d ty:Nat} {pos:String} {af:Array Edge} {gd:Option (Nat×Bool)}
theorem yh8 {T E es:Nat} {agg:Bool} {α:Type} {f:α->Ty} {xs ys:List α} {x y:Operand} {v:Int} (sl:SlI P T E es agg) (u:Nat) (hv:v=(u:Int)) (h2:u<=xs.length) (hy:xs.take u=ys):
  Does P c ⟨some d,.slice T x none (some y) none,ty,pos,af,gd⟩ ⟨[(x,.val (tL es agg f xs)),(y,.val (tI v))],[],some (d,some (.val (tL es agg f ys))),[],[]⟩:=by
 subst hv;exact zv9 (lo:=none) (hi:=some y) (l:=0) (u:=u) sl (fun _=>rfl) (fun h=>by cases h) (zbq _) h2 (by rw [List.drop_zero];exact hy)
theorem yh4 {T E es:Nat} {agg:Bool} {α:Type} {f:α->Ty} {xs ys:List α} {x y:Operand} {v:Int} (sl:SlI P T E es agg) (l:Nat) (hv:v=(l:Int)) (h2:l<=xs.length) (hy:xs.drop l=ys):
  Does P c ⟨some d,.slice T x (some y) none none,ty,pos,af,gd⟩ ⟨[(x,.val (tL es agg f xs)),(y,.val (tI v))],[],some (d,some (.val (tL es agg f ys))),[],[]⟩:=by
 subst hv;exact zv9 (lo:=some y) (hi:=none) (l:=l) (u:=xs.length) sl (fun h=>by cases h) (fun _=>rfl) h2 (zbs _) (by rw [zbx];exact hy)
theorem yk4 {T E es k off len off':Nat} {agg:Bool} {x y:Operand} {v:Int} (sl:SlI P T E es agg) (u:Nat) (hv:v=(u:Int)) (h2:u<=len) (ho:off=off'):
  Does P c ⟨some d,.slice T x none (some y) none,ty,pos,af,gd⟩ ⟨[(x,.own (.sl k es off len)),(y,.val (tI v))],[],some (d,some (.own (.sl k es off' u))),[],[]⟩:=by
 subst hv;exact zs9 (lo:=none) (hi:=some y) (l:=0) (u:=u) sl (fun _=>rfl) (fun h=>by cases h) (zbq _) h2 (by rw [zek];exact ho) (Nat.sub_zero _)
theorem qr2 {T E es k off len off' len':Nat} {agg:Bool} {x y z:Operand} {v w:Int} (sl:SlI P T E es agg) (l u:Nat) (hv:v=(l:Int)) (hw:w=(u:Int)) (h1:l<=u) (h2:u<=len) (ho:off+l=off') (hl:u - l=len'):
  Does P c ⟨some d,.slice T x (some y) (some z) none,ty,pos,af,gd⟩ ⟨[(x,.own (.sl k es off len)),(y,.val (tI v)),(z,.val (tI w))],[],some (d,some (.own (.sl k es off' len'))),[],[]⟩:=by
 subst hv hw;exact zs9 (lo:=some y) (hi:=some z) (l:=l) (u:=u) sl (fun h=>by cases h) (fun h=>by cases h) h1 h2 ho hl
theorem xq3 {f:FuncId} {xs:List Operand} {aT:Array TypeId} {ts us:List Ty} {r:Ty} (hc:Ct P f us r) (hf:FnI P f) (hl:xs.length=ts.length) (hle:LeL ts us):
  Does P c ⟨some d,.call {callee:= .value (.func f),args:=xs.toArray,argTypes:=aT},ty,pos,af,gd⟩ ⟨xs.zip (ts.map Ent.val),[],some (d,some (.val r)),[],[]⟩:=
 x3 (fun F w vs hv=>hc F w vs (LeL.all hle hv)) hf hl
end
theorem qo9 {P:Program} {c:Base} {d ty:Nat} {pos:String} {af:Array Edge} {gd:Option (Nat×Bool)} {T E yT es:Nat} {agg:Bool} {α:Type} {f:α->Ty} {xs:List α} {x:Operand} (hT:P.underlying T=some (.slice E)):
  Does P c ⟨some d,.binOp .eql T x (.const (.slice none 0 0)) yT,ty,pos,af,gd⟩ ⟨[(x,.val (tL es agg f xs))],[],some (d,some (.val (tX (fun b:Bool=>b=true->xs=[]) tB))),[],[]⟩:=
 Does.value rfl fun g h al a w η hrd _ s=>by
  obtain ⟨A,cc,h1,_,_,h4⟩:=(xa0 s hrd.1).1;have h1:a.eval x= .slice A xs.length cc:=h1;have h2:a.eval (.const (.slice none 0 0))= .slice none 0 0:=rfl;refine ⟨.bool A.isNone,w,?_,Ext.refl w,⟨A.isNone,fun hA=> ?_,rfl⟩,fun j hj=>by cases hj⟩
  ·have hg:(eqGuard .eql T x (.const (.slice none 0 0)) (.slice A xs.length cc) (.slice none 0 0)).run P w= .ok () w:=by
    simp [eqGuard,go_sem]
   simp only [execOp,h1,h2,zbv,hg,zbm,binOp,qt2 hT,zbw]
  ·rcases h4 with h4 | ⟨b,o,rfl,_⟩
   ·exact h4
   ·cases hA
theorem ja0 {P:Program} {c:Base} {g:Slots} {h:Keys} {al:Names} {Q:Exit->Act->World->Prop} {x:Code} {s:Nat} {ι:Type} {pre:ι->Prop} {f:ι->Ty} (hx:g s=some (.val (tX pre f))) (H: ∀i,pre i->wc P c x Q (upd g s (some (.val (f i)))) h al):wc P c x Q g h al:=fun a w ⟨η,st⟩=>by
 obtain ⟨h1,_,i,hi,hp⟩:=st.slot s _ hx;have s2:=st.put h1 (e:= .val (f i)) hp fun j hj=>by cases hj
 have e:a.put (some s) (a.tmps.getD s undef)=a:=by
  have hlt:s < a.tmps.size:=by rw [st.tn];exact h1
  have:a.tmps.setIfInBounds s (a.tmps.getD s undef)=a.tmps:=by
   apply zds;intro i;rw [zew];by_cases hi:s=i
   ·subst hi;simp [hlt]
   ·simp [hi]
  simp only [Act.put,this]
 rw [e] at s2;exact H i hi a w ⟨η,s2⟩
theorem ImpK.of {x x':HEnt} (h:x=x'):ImpK x x':=h▸zap
abbrev zat:=@ImpK.of
theorem ImpK.ofTs {T es:Nat} {agg:Bool} {ts ts':List Ent} (h:ts=ts'):ImpK ⟨T,es,agg,ts⟩ ⟨T,es,agg,ts'⟩:=h▸zap
def rW (k:IntKind) (xs:List Nat):List Ent:=xs.map fun n:Nat=> .val (tE (.int k (n:Int)))
theorem xn7 {k:IntKind} {xs:List Nat} {i:Nat} (h:i < xs.length):(rW k xs)[i]? =some (.val (tE (.int k ((xs.getD i 0:Nat):Int)))):=by
 rw [rW,zbu,gN h];rfl
theorem xj0 {k:IntKind} {xs:List Nat} {i:Nat} (h:i < xs.length):Nat.blt i (rW k xs).length=true:=by simpa [rW] using h
theorem xh1 {k:IntKind} {xs:List Nat} {i m:Nat} {v:Int} (h:v=(m:Int)):(rW k xs).set i (.val (tE (.int k v)))=rW k (xs.set i m):=by
 rw [h,rW,rW,List.map_set]
theorem xp5 {k:IntKind} (n:Nat):List.replicate n (Ent.val (tE (.int k 0)))=rW k (List.replicate n 0):=by
 simp [rW]
theorem xj4 {k:IntKind} {xs:List Nat}:(rW k xs).length=xs.length:=by simp [rW]
theorem xi4 {k:IntKind} {xs:List Nat} {n:Nat} (h:xs.length=n):((rW k xs).drop 0).take n=xs.map fun x:Nat=> .val (tE (.int k (x:Int))):=by
 rw [List.drop_zero,List.take_of_length_le (by rw [xj4];omega)];rfl
theorem zi4 {k:IntKind} {xs:List Nat} {n:Nat}:((rW k xs).drop 0).take n=(xs.take n).map fun x:Nat=> .val (tE (.int k (x:Int))):=by
 rw [List.drop_zero,rW,List.map_take]
theorem xd1 {k:IntKind} {xs:List Nat} {l:List Nat}:SupX (rW k xs) l:=SupX.map (f:=fun n:Nat=>tE (.int k (n:Int)))
theorem supJ {x:HEnt} {al:Names} (h:SupX x.ts []): ∀j∈x.supp,al j=true:=fun j hj=>by cases h j hj
theorem supJL {x:HEnt} {al:Names} (h:allN al x.supp=true): ∀j∈x.supp,al j=true:=xw3 h
theorem isS {α:Type} {x:Option α} {y:α} (h:x=some y):x.isSome=true:=by rw [h];rfl
def rI (xs:List Int):List Ent:=xs.map fun n=> .val (tI n)
theorem jc2 {xs:List Int} {l:List Nat}:SupX (rI xs) l:=SupX.map (f:=fun n:Int=>tI n)
theorem xv5 {k:IntKind} {a b:Nat} (ha:a < 2 ^ k.bits) (hb:b < 2 ^ k.bits):bits .or k (a:Int) (b:Int)=k.wrap ((a ||| b:Nat):Int):=by
 simp only [bits]
 congr 1
 simp [BitVec.toNat_or];rw [zcc ha,zcc hb]
theorem zz2 {k:IntKind} {a b:Nat} (ha:a < 2 ^ k.bits) (hb:b < 2 ^ k.bits):bits .and k (a:Int) (b:Int)=k.wrap ((a &&& b:Nat):Int):=by
 simp only [bits]
 congr 1
 simp [BitVec.toNat_and];rw [zcc ha,zcc hb]
theorem yp5 {k:IntKind} {a b:Nat} (ha:a < 2 ^ k.bits) (hb:b < 2 ^ k.bits):bits .xor k (a:Int) (b:Int)=k.wrap ((a ^^^ b:Nat):Int):=by
 simp only [bits]
 congr 1
 simp [BitVec.toNat_xor];rw [zcc ha,zcc hb]
theorem je4 {a c s:Nat} (ha:a < 2 ^ s):a ||| c*2 ^ s=a+c*2 ^ s:=by
 have:=Nat.two_pow_add_eq_or_of_lt ha c;rw [Nat.or_comm,zce c,<-this,Nat.add_comm]
section
variable {P:Program} {c:Base} {d t:Nat} {pos:String} {af:Array Edge} {gd:Option (Nat×Bool)} {T yT:TypeId} {x y:Operand} {k:IntKind} {m n r:Int}
theorem xq6 (hr:bits .or k m n=r):Does P c ⟨some d,.binOp .or T x y yT,t,pos,af,gd⟩ ⟨[(x,.val (tE (.int k m))),(y,.val (tE (.int k n)))],[],some (d,some (.val (tE (.int k r)))),[],[]⟩:=
 qb1 (.inr (.inl rfl)) fun w=>by rw [intBits_or,zbw,hr]
theorem d_and (hr:bits .and k m n=r):Does P c ⟨some d,.binOp .and T x y yT,t,pos,af,gd⟩ ⟨[(x,.val (tE (.int k m))),(y,.val (tE (.int k n)))],[],some (d,some (.val (tE (.int k r)))),[],[]⟩:=
 qb1 (.inl rfl) fun w=>by rw [intBits_and,zbw,hr]
theorem d_xor (hr:bits .xor k m n=r):Does P c ⟨some d,.binOp .xor T x y yT,t,pos,af,gd⟩ ⟨[(x,.val (tE (.int k m))),(y,.val (tE (.int k n)))],[],some (d,some (.val (tE (.int k r)))),[],[]⟩:=
 qb1 (.inr (.inr (.inl rfl))) fun w=>by rw [intBits_xor,zbw,hr]
end
theorem jc6 {k:IntKind} {p q:Int} (a c s:Nat) (hp:p=(a:Int)) (hq:q=((c*2 ^ s:Nat):Int)) (ha:a < 2 ^ s) (hw:k.wrap ((a+c*2 ^ s:Nat):Int)=((a+c*2 ^ s:Nat):Int)) (hb:a+c*2 ^ s < 2 ^ k.bits):bits .or k p q=((a+c*2 ^ s:Nat):Int):=by
 subst hp hq;rw [xv5 (by omega) (by omega),je4 ha,hw]
theorem qg2 {k:IntKind} {p q:Int} (a c s:Nat) (hp:p=(a:Int)) (hq:q=((c*2 ^ s:Nat):Int)) (ha:a < 2 ^ s) (hw:k.wrap ((a+c*2 ^ s:Nat):Int)=((a+c*2 ^ s:Nat):Int)) (hb:a+c*2 ^ s < 2 ^ k.bits):bits .or k q p=((a+c*2 ^ s:Nat):Int):=by
 subst hp hq;rw [xv5 (by omega) (by omega),Nat.or_comm,je4 ha,hw]
end An
namespace An
open Go
theorem xu0 {P:Program} {c:Base} {d t:Nat} {pos:String} {af:Array Edge} {gd:Option (Nat×Bool)} {T:TypeId} {y:Operand} {k:IntKind} {s:ByteArray} {v:Int} (f:Nat->Nat) (n:Nat) (hT:P.underlying T=some .string) (hv:v=(n:Int)) (hn:n < 256)
  (hs: ∀m:Fin 256,(s[m.val]?).map UInt8.toNat=some (f m.val)):
  Does P c ⟨some d,.index T (.const (.string s)) y,t,pos,af,gd⟩ ⟨[(y,.val (tE (.int k v)))],[],some (d,some (.val (tE (.int .u8 (f n:Nat))))),[],[]⟩:=
 Does.value rfl fun g h al a w η hrd _ st=>by
  subst hv;have h1:a.eval y= .int k (n:Int):=(xa0 st hrd.1).1;have h2:a.eval (.const (.string s))= .string s:=rfl;have h3:=hs ⟨n,hn⟩;simp only [zdn] at h3;obtain ⟨b,h4,h5⟩:=h3;refine ⟨.int .u8 (f n:Nat),w,?_,Ext.refl w,rfl,fun j hj=>by cases hj⟩;simp only [execOp,h1,h2,Instr.index,asIntOf,zbv,zbw,zda hT,zbm];simp [h4,h5]
theorem qa0 {ρ:Nat->Nat} {α:Type} {f:α->Ty} {xs:List α}:(xs.map fun x=>Ent.val (f x)).map (Ent.ren ρ)=xs.map fun x=>Ent.val (f x):=by
 rw [List.map_map];rfl
theorem xf7 {ρ:Nat->Nat} {T es:Nat} {agg:Bool} {k:IntKind} {xs:List Nat}:HEnt.ren ρ ⟨T,es,agg,rW k xs⟩=⟨T,es,agg,rW k xs⟩:=by
 simp only [HEnt.ren,rW,qa0]
theorem we3 {ρ:Nat->Nat} {T es:Nat} {agg:Bool} {α:Type} {f:α->Ty} {xs:List α}:HEnt.ren ρ ⟨T,es,agg,xs.map fun x=>Ent.val (f x)⟩=⟨T,es,agg,xs.map fun x=>Ent.val (f x)⟩:=by
 simp only [HEnt.ren,qa0]
theorem krN {ρ:Nat->Nat}:([]:List (Nat×HEnt)).map (fun x=>(ρ x.1,x.2.ren ρ))=[]:=rfl
theorem krC {ρ:Nat->Nat} {k:Nat} {x x':HEnt} {r:List (Nat×HEnt)} {r':List (Nat×HEnt)} (h:x.ren ρ=x') (hr:r.map (fun x=>(ρ x.1,x.2.ren ρ))=r'):((k,x)::r).map (fun x=>(ρ x.1,x.2.ren ρ))=(ρ k,x')::r':=by
 simp only [zdu,h,hr]
section
variable {P:Program} {c:Base} {g:Slots} {h:Keys} {al:Names} {d ty:Nat} {pos:String} {af:Array Edge} {gd:Option (Nat×Bool)}
theorem yj7 {ρ:Nat->Nat} {H H' h2:List (Nat×HEnt)} (e:H'.map (fun x=>(ρ x.1,x.2.ren ρ))=h2):kwOf ρ H H'=H.map (fun x=>(ρ x.1,none))++h2.map (fun x=>(x.1,some x.2)):=by
 rw [kwOf,<-e,List.map_map];rfl
theorem xb7 {f:FuncId} {xs:List Operand} {aT:Array TypeId} {H H' h1 h2:List (Nat×HEnt)} {ps:List Ent} {re:Ent} {nn:List Nat} (ρ:Nat->Nat) (hc:CtG P f H ps re H' nn) (hf:FnI P f) (hl:xs.length=ps.length) (e1:H.map (fun x=>(ρ x.1,x.2.ren ρ))=h1) (e2:H'.map (fun x=>(ρ x.1,x.2.ren ρ))=h2)
  (hsH:SupHs H' (nn++(suppE ps++H.map (·.1)))) (hok:gB ρ H H' re ps nn c.yk=true):
  Does P c ⟨some d,.call {callee:= .value (.func f),args:=xs.toArray,argTypes:=aT},ty,pos,af,gd⟩ ⟨xs.zip (ps.map (Ent.ren ρ)),h1,some (d,some (re.ren ρ)),H.map (fun x=>(ρ x.1,none))++h2.map (fun x=>(x.1,some x.2)),nn.map ρ⟩:=by
 have:=jz3 (c:=c) (d:=d) (ty:=ty) (pos:=pos) (af:=af) (gd:=gd) (aT:=aT) ρ hc hf hl hok hsH;rw [yj7 e2,e1] at this;exact this
theorem xi9 {f:FuncId} {x:Operand} {caps:List VP} {xs:List Operand} {aT:Array TypeId} {H H' h1 h2:List (Nat×HEnt)} {ps:List Ent} {re:Ent} {nn:List Nat} (ρ:Nat->Nat) (hc:CtG P f H (ps++caps.map Ent.own) re H' nn) (hf:FnI P f) (hl:xs.length=ps.length) (e1:H.map (fun x=>(ρ x.1,x.2.ren ρ))=h1) (e2:H'.map (fun x=>(ρ x.1,x.2.ren ρ))=h2)
  (hsH:SupHs H' (nn++(suppE (ps++caps.map Ent.own)++H.map (·.1)))) (hok:gB ρ H H' re (ps++caps.map Ent.own) nn c.yk=true):
  Does P c ⟨some d,.call {callee:= .value x,args:=xs.toArray,argTypes:=aT},ty,pos,af,gd⟩ ⟨(x,.own (.fn f (VP.rens ρ caps)))::xs.zip (ps.map (Ent.ren ρ)),h1,some (d,some (re.ren ρ)),H.map (fun x=>(ρ x.1,none))++h2.map (fun x=>(x.1,some x.2)),nn.map ρ⟩:=by
 have:=wb2 (c:=c) (d:=d) (ty:=ty) (pos:=pos) (af:=af) (gd:=gd) (aT:=aT) (x:=x) ρ hc hf hl hok hsH;rw [yj7 e2,e1] at this;exact this
variable {Q:Exit->Act->World->Prop}
theorem xc6 {ι:Type} {I:ι->Prop} {G:ι->Slots} {H:ι->Keys} {l:List Nat} (ρ:Nat->Nat) (i:ι) (hi:I i) (hg:SubR ρ (G i) g) (hh:SubKR ρ (H i) h) (sg:SupG (G i) (nm l)) (sh:SupH (H i) (nm l)) (hlk:LkOk c (nm l)) (hρ:injN ρ l=true) (hf:fixN ρ c.ln=true) (hy: ∀k,c.yk=some k->ρ k=k):
  wk c .normal (Exit.then (Fam c I G H (nm l)) Q) g h al:=
 ze8 l ρ hg hh sg sh hlk hρ hf hy (xz8 i hi Sub.refl SubK.refl sg sh hlk)
theorem xw6 {x:Operand} {k off:Nat}:Does P c ⟨some d,.nilCheck x,ty,pos,af,gd⟩ ⟨[(x,.own (.ptr k off))],[],some (d,some (.own (.ptr k off))),[],[]⟩:=
 Does.value rfl fun g h al a w η hrd _ s=>by
  obtain ⟨h0,h1⟩:=xa0 s hrd.1;have h0':a.eval x= .pointer (some ⟨η.b k,off,none⟩):=h0;exact ⟨_,w,by simp only [execOp,h0',zbw],Ext.refl w,rfl,h1⟩
theorem yv4 {x:Operand} {n:Nat} {agg:Bool} {t:Ty}:Does P c ⟨some d,.nilCheck x,ty,pos,af,gd⟩ ⟨[(x,.val (tP n agg t))],[],some (d,some (.val (tP n agg t))),[],[]⟩:=
 Does.value rfl fun g h al a w η hrd _ s=>by
  obtain ⟨b,o,u,h1,h2⟩:=(xa0 s hrd.1).1;have h1':a.eval x= .pointer (some ⟨b,o,none⟩):=h1;exact ⟨_,w,by simp only [execOp,h1',zbw],Ext.refl w,⟨b,o,u,rfl,h2⟩,fun k hk=>by cases hk⟩
theorem St.giveAt {a:Act} {w:World} {t k T es off len:Nat} {agg:Bool} {ts:List Ent} {α:Type} {f:α->Ty} {xs:List α} (hs:St c g h al a w) (hg:g t=some (.own (.sl k es off len))) (hk:h k=some ⟨T,es,agg,ts⟩) (hlb:NoLb c)
  (hts:(ts.drop off).take len=xs.map fun x=> .val (f x)) (hl:xs.length=len):St c (upd g t (some (.val (tL es agg f xs)))) (upd h k none) al a w:=by
 obtain ⟨η,s⟩:=hs;have h2:=s.give hk hlb hts hl (s.slot t _ hg).2.2;have s2:=(s.drop k).put (s.slot t _ hg).1 (e:= .val (tL es agg f xs)) h2 fun j hj=>by cases hj
 refine ⟨η,?_⟩;have e:a.put (some t) (a.tmps.getD t undef)=a:=by
  have hlt:t < a.tmps.size:=by rw [s.tn];exact (s.slot t _ hg).1
  have:a.tmps.setIfInBounds t (a.tmps.getD t undef)=a.tmps:=by
   apply zds;intro i;rw [zew];by_cases hi:t=i
   ·subst hi;simp [hlt]
   ·simp [hi]
  simp only [Act.put,this]
 rw [<-e];exact s2
theorem yq2 {α:Type} {f:Nat->Option α} {s:Nat} {x y:Option α}:upd (upd f s x) s y=upd f s y:=by
 funext t;simp only [upd];cases Nat.beq t s <;> rfl
theorem Does.giveL {o:Oper} {rd:List (Operand×Ent)} {kr:List (Nat×HEnt)} {d k T es off len:Nat} {agg:Bool} {ts:List Ent} {α:Type} {f:α->Ty} {xs:List α} (hd:Does P c o ⟨rd,kr,some (d,some (.own (.sl k es off len))),[],[]⟩) (hlb:NoLb c)
  (hts:(ts.drop off).take len=xs.map fun x=> .val (f x)) (hl:xs.length=len):Does P c o ⟨rd,(k,⟨T,es,agg,ts⟩)::kr,some (d,some (.val (tL es agg f xs))),[(k,none)],[]⟩:=by
 intro g h al a w hp hs;refine Oper.wpIn_mono (fun a' w' hs'=> ?_) (hd g h al a w ⟨hp.rd,hp.kr.2,hp.nk,fun x hx=>by cases hx;exact hp.d (d,some (.val (tL es agg f xs))) rfl⟩ hs);have:=St.giveAt hs' (xa9 _ _ _) hp.kr.1 hlb hts hl;simp only [Eff.g,yq2] at this;exact this
theorem xk9 {T E by_ n:Nat} {z:Value} {k:IntKind} {ps:List (Nat×Operand)} (ys:List Nat) (sl:P.underlying T=some (.slice E)) (el:ElI P E 1 by_ false z) (hz:Flat 1 false z)
  (hp:ps.map (·.1)=List.range n) (hy:ys.length=n) (hlen:Nat.ble n 16777216=true):
  Does P c ⟨some d,.buildSlice T n ps.toArray,ty,pos,af,gd⟩ ⟨(ps.map (·.2)).zip (ys.map fun y:Nat=>Ent.val (tE (.int k (y:Int)))),[],some (d,some (.val (tL 1 false (fun y:Nat=>tE (.int k (y:Int))) ys))),[],[]⟩:=by
 have:=zj8 (c:=c) (d:=d) (ty:=ty) (pos:=pos) (af:=af) (gd:=gd) (f:=fun y:Nat=>tE (.int k (y:Int))) (ts:=ys.map fun y:Nat=>tE (.int k (y:Int))) ys sl el hz rfl (fun _=>inferInstance) hp (by simpa using hy) hy (by simpa using hlen)
  (by intro i t y h1 h2;rw [zbu,h2] at h1;cases h1;exact zao)
 rw [List.map_map] at this;exact this
end
theorem xr1 {k:IntKind} {p w q:List Nat} {i:Nat} (h:i < w.length):(rW k (p++(w++q)))[p.length+i]? =some (.val (tE (.int k ((w.getD i 0:Nat):Int)))):=by
 rw [rW,zbu,zeg (by omega),show p.length+i - p.length=i by omega,zdo h,zbh,zbi h];rfl
theorem zq5 {k:IntKind} {p w q:List Nat} {i:Nat} (h:i < w.length):Nat.blt (p.length+i) (rW k (p++(w++q))).length=true:=by
 rw [xj4,zbp,zbp];have:p.length+i < p.length+(w.length+q.length):=by omega
 simpa [Nat.blt_eq] using this
theorem zb5 {k:IntKind} {p w q:List Nat} {i m:Nat} {v:Int} (h:v=(m:Int)) (hi:i < w.length):(rW k (p++(w++q))).set (p.length+i) (.val (tE (.int k v)))=rW k (p++(w.set i m++q)):=by
 subst h;rw [rW,rW,<-List.map_set (f:=fun n:Nat=>Ent.val (tE (.int k (n:Int)))),List.set_append_right _ _ (by omega),show p.length+i - p.length=i by omega,List.set_append_left _ _ hi]
theorem yb2 {P:Program} {c:Base} {g:Slots} {h:Keys} {al:Names} {Q:Exit->Act->World->Prop} {x:Code} {k:Nat} {e e':HEnt} (hk:h k=some e) (he:e=e') (H:wc P c x Q g (upd h k (some e')) al):wc P c x Q g h al:=by
 subst he;have:upd h k (some e)=h:=by
  funext j;by_cases hj:j=k
  ·subst hj;rw [xa9,hk]
  ·rw [xa4 _ _ _ hj]
 rw [this] at H;exact H
theorem leNil {α:Type} {es:Nat} {agg:Bool} {f:α->Ty} {xs:List α} (h:xs=[]):Le (tE (.slice none 0 0)) (tL es agg f xs):=fun F w v hv=>by
 subst h;have hv:v= .slice none 0 0:=hv;exact ⟨none,0,hv,zbs _,by decide,.inl rfl⟩
section
variable {P:Program} {c:Base} {g:Slots} {h:Keys} {al:Names} {Q:Exit->Act->World->Prop}
theorem xf4 {A:Array Oper} {rest:List Oper} {dst:Option Nat} {op:Op} {ty:Nat} {pos:String} {af:Array Edge} {E:Eff} (hd:Does P c ⟨dst,op,ty,pos,af,none⟩ E) (h1:Rd g E.rd) (h2:Kr h E.kr) (h3:Nk al E.nk) (hN:dOk c.N [E.sm]=true)
  (H:wl P c A Q rest (E.g g) (E.h h) (E.al al)):wl P c A Q (⟨dst,op,ty,pos,af,none⟩::rest) g h al:=
 yc7 [⟨dst,op,ty,pos,af,none⟩] (rest:=rest) ⟨E,DoesR.of rfl hd,⟨h1,h2,h3⟩,hN,H⟩
end
theorem qb0 {P:Program} {c1 c2:Base} {x y:Code} {Q:Exit->Act->World->Prop} {g:Slots} {h:Keys} {al:Names} {g1:Slots} {h1:Keys} {al1:Names} (hx:wc P c1 x (Exit.then (fun a w=>St c1 g1 h1 al1 a w) (fun _ _ _=>False)) g h al) (hy:wc P c2 y Q g1 h1 al1):
  ∃g1 h1 al1,wc P c1 x (Exit.then (fun a w=>St c1 g1 h1 al1 a w) (fun _ _ _=>False)) g h al/\wc P c2 y Q g1 h1 al1:=⟨g1,h1,al1,hx,hy⟩
class SumF (fs:List Fd) (n:outParam Nat):Prop where
  sum:Fd.sum fs=n
instance:SumF [] 0:=⟨rfl⟩
instance {n m:Nat} {agg:Bool} {t:Ty} {r:List Fd} [h:SumF r m]:SumF (⟨n,agg,t⟩::r) (n+m):=⟨by simp only [Fd.sum,h.sum]⟩
class EqN (m n:Nat):Prop where
  eq:m=n
instance {n:Nat}:EqN n n:=⟨rfl⟩
instance {fs:List Fd} {n m:Nat} [h1:ShapeF fs] [h2:SumF fs m] [h3:EqN m n]:Shape (tS fs) n true:=ShS (h2.sum.trans h3.eq)
section
variable {P:Program} {c:Base} {g:Slots} {h:Keys} {al:Names} {A:Array Oper} {K:List Sm->Slots->Keys->Names->Prop} {rest:List Oper} {sms:List Sm} {ty d:Nat} {pos:String} {af:Array Edge}
theorem xe1 {T T0 es k p n o:Nat} {agg':Bool} {x:Operand} {ts:List Ent} {t t':Ty} (i:Nat) (ti:TyI P T n agg') (hx:look g x=some (.own (.ptr k p))) (hk:h k=some ⟨T0,es,true,ts⟩) (hi:ts[i]? =some (.val t)) (hat:At t o n agg' t') (hp:i*es+o=p)
  (H:RSeq P c A K rest (sms++[⟨slotsOf [(x,.own (.ptr k p))],some d,[k],[],[]⟩]) (upd g d (some (.val t'))) h al):RSeq P c A K (⟨some d,.load T x,ty,pos,af,none⟩::rest) sms g h al:=
 RE (xj6 i ti hi hat hp) ⟨hx,trivial⟩ ⟨hk,trivial⟩ trivial H
theorem xb2 {T T0 es k p n o:Nat} {agg':Bool} {x:Operand} {ts:List Ent} {t t':Ty} {j q:Nat} {want b:Bool} (hb:b=want) (hj:(A[j]?).bind (·.dst)=some q) (hq:g q=some (.val (tB b))) (i:Nat) (ti:TyI P T n agg') (hx:look g x=some (.own (.ptr k p))) (hk:h k=some ⟨T0,es,true,ts⟩) (hi:ts[i]? =some (.val t)) (hat:At t o n agg' t') (hp:i*es+o=p)
  (H:RSeq P c A K rest (sms++[⟨q::slotsOf [(x,.own (.ptr k p))],some d,[k],[],[]⟩]) (upd g d (some (.val t'))) h al):RSeq P c A K (⟨some d,.load T x,ty,pos,af,some (j,want)⟩::rest) sms g h al:=
 RGon hb hj (xj6 i ti hi hat hp) hq ⟨hx,trivial⟩ ⟨hk,trivial⟩ trivial H
theorem xi8 {T T0 es k p n o:Nat} {agg':Bool} {x y:Operand} {ts ts':List Ent} {t t' t2:Ty} (i:Nat) (ti:TyI P T n agg') (hx:look g x=some (.own (.ptr k p))) (hy:look g y=some (.val t')) (hk:h k=some ⟨T0,es,true,ts⟩) (hi:ts[i]? =some (.val t)) (hup:Up t o n agg' t' t2) (hp:i*es+o=p) (hts:ts.set i (.val t2)=ts') [he:Shape t' n agg']
  (H:RSeq P c A K rest (sms++[⟨slotsOf [(x,.own (.ptr k p)),(y,.val t')],none,[k],[k],[]⟩]) g (upd h k (some ⟨T0,es,true,ts'⟩)) al):RSeq P c A K (⟨none,.store T x y,ty,pos,af,none⟩::rest) sms g h al:=
 RE (xj2 i ti hi hup hp hts) ⟨hx,hy,trivial⟩ ⟨hk,trivial⟩ trivial H
end
theorem At.g {fs:List Fd} (i:Nat) {n o:Nat} {agg:Bool} {t:Ty} (hi:fs[i]? =some ⟨n,agg,t⟩) (ho:Fd.off fs i=o):At (tS fs) o n agg t:=At.f i hi ho
theorem Up.g {fs:List Fd} (i:Nat) {n o:Nat} {agg:Bool} {t t':Ty} (hi:fs[i]? =some ⟨n,agg,t⟩) (ho:Fd.off fs i=o) {fs':List Fd} (hfs:fs.set i ⟨n,agg,t'⟩=fs'):Up (tS fs) o n agg t' (tS fs'):=Up.f i hi ho hfs
section
variable {P:Program} {c:Base} {g:Slots} {h:Keys} {al:Names} {Q:Exit->Act->World->Prop} {a:Act} {w:World} {η:Env}
theorem qb2 {k:Nat} {x x':HEnt} (hk:h k=some x) {b:Nat} (hb:Own (upd h k (some x')) η b):Own h η b:=by
 obtain ⟨j,y,hj,hc,rfl⟩:=hb;by_cases hjk:j=k
 ·subst hjk;exact ⟨j,x,hk,hc,rfl⟩
 ·rw [xa4 _ _ _ hjk] at hj;exact ⟨j,y,hj,hc,rfl⟩
theorem St'.same (s:St' c g h al a w η) {k:Nat} {x x':HEnt} (hk:h k=some x) (hT:x'.T=x.T) (hsup: ∀j∈x'.supp,al j=true) (hsat:x'.sat (c.dom h η) w η k):St' c g (upd h k (some x')) al a w η:=by
 have hsome: ∀j y,upd h k (some x') j=some y-> ∃z,h j=some z:=fun j y hy=>by
  by_cases hjk:j=k
  ·subst hjk;exact ⟨x,hk⟩
  ·rw [xa4 _ _ _ hjk] at hy;exact ⟨y,hy⟩
 refine s.turn (fun _ hj=>hj) (fun _ _=>⟨rfl,rfl⟩) rfl (Stp.refl _ _) (fun b hb=>⟨s.olt (qb2 hk hb),.inl (qb2 hk hb)⟩) ?_ ?_ ?_
 ·intro j y hy hK;by_cases hjk:j=k
  ·subst hjk;rw [xa9] at hy;cases hy;exact ⟨(s.key j x hk).1,hsup,HEnt.sat_go hsat (fun _=>rfl) hK ⟨rfl,rfl⟩ fun _ _=>⟨rfl,rfl⟩⟩
  ·rw [xa4 _ _ _ hjk] at hy;obtain ⟨h1,h2,h3,_⟩:=s.key j y hy;exact ⟨h1,h2,HEnt.sat_go h3 (fun _=>rfl) hK ⟨rfl,rfl⟩ fun _ _=>⟨rfl,rfl⟩⟩
 ·intro j j' y y' hy hy' hne hc hc';obtain ⟨z,hz⟩:=hsome j y hy;obtain ⟨z',hz'⟩:=hsome j' y' hy';exact s.inj j j' z z' hz hz' hne hc hc'
 ·intro j y hj hy;by_cases hjk:j=k
  ·subst hjk;rw [xa9] at hy;cases hy;exact ⟨x,hk,hT.symm⟩
  ·rw [xa4 _ _ _ hjk] at hy;exact ⟨y,hy,rfl⟩
theorem wb0 {x:Code} {k T es:Nat} {agg:Bool} {ι:Type} {pre:ι->Prop} {f:ι->Ty} (hk:h k=some ⟨T,es,agg,[.val (tX pre f)]⟩) (H: ∀i,pre i->wc P c x Q g (upd h k (some ⟨T,es,agg,[.val (f i)]⟩)) al):wc P c x Q g h al:=by
 rintro a w ⟨η,s⟩;obtain ⟨k1,k2,⟨k3,k4,k5,k6,k7⟩,_⟩:=s.key k _ hk;have k3:1<=η.c k:=k3;obtain ⟨cs,m1,m2,m3⟩:=k7 (by omega);obtain ⟨i,hi,hp⟩:=m3 0 _ rfl;refine H i hi a w ⟨η,s.same hk rfl (fun j hj=>by simp [HEnt.supp,Ent.supp] at hj) ⟨k3,k4,k5,k6,fun _=>⟨cs,m1,m2,fun n e he=> ?_⟩⟩⟩;cases n with
 | zero=>simp only [zco,zci] at he;subst he;exact hp
 | succ n=>simp at he
instance {ι:Type} {pre:ι->Prop} {f:ι->Ty} {n:Nat} {agg:Bool} [h: ∀i,Shape (f i) n agg]:Shape (tX pre f) n agg:=⟨fun ⟨i,_,hp⟩=>(h i).flat hp⟩
end
section
variable {P:Program} {c:Base} {d ty:Nat} {pos:String} {af:Array Edge} {gd:Option (Nat×Bool)}
theorem xb5 {T E es by_ n:Nat} {agg:Bool} {z:Value} {α:Type} {f:α->Ty} {ps:List (Nat×Operand)} (ys:List α) (sl:P.underlying T=some (.slice E)) (el:ElI P E es by_ agg z) (hz:Flat es agg z) (h0:Nat.blt 0 es=true) (hs: ∀y,Shape (f y) es agg)
  (hp:ps.map (·.1)=List.range n) (hy:ys.length=n) (hlen:Nat.ble (n*es) 16777216=true):
  Does P c ⟨some d,.buildSlice T n ps.toArray,ty,pos,af,gd⟩ ⟨(ps.map (·.2)).zip (ys.map fun y=>Ent.val (f y)),[],some (d,some (.val (tL es agg f ys))),[],[]⟩:=by
 have:=zj8 (c:=c) (d:=d) (ty:=ty) (pos:=pos) (af:=af) (gd:=gd) (f:=f) (ts:=ys.map f) ys sl el hz h0 hs hp (by simpa using hy) hy hlen
  (by intro i t y h1 h2;rw [zbu,h2] at h1;cases h1;exact zao)
 rw [List.map_map] at this;exact this
theorem Ct.ofG {f:FuncId} {t:Ty} {k es T n:Nat} {agg:Bool} {α:Type} {fx:α->Ty} {xs:List α} (h:CtG P f [] [.val t] (.own (.sl k es 0 n)) [(k,⟨T,es,agg,xs.map fun x=> .val (fx x)⟩)] [k]) (hl:xs.length=n):Ct P f [t] (tL es agg fx xs):=by
 intro F w vs hvs;cases vs with
 | nil=>exact hvs.elim
 | cons v r=>
  cases r with
  | cons _ _=>exact hvs.2.elim
  | nil=>
   refine zec (h F w ⟨fun _=>0,fun _=>0,fun _=>False⟩ [v] ⟨hvs.1,trivial⟩ (fun x hx=>by cases hx) (fun x hx=>by cases hx) (fun b _ hb=>by obtain ⟨x,hx,_⟩:=hb;cases hx)) ?_;rintro e w' ⟨u,η',he,ho⟩;refine ⟨u,he,⟨ho.stp.os,ho.stp.tape,ho.stp.output,ho.stp.size,fun b hb=>ho.stp.block b hb fun hk=>by obtain ⟨x,hx,_⟩:=hk;cases hx⟩,?_⟩;obtain ⟨A,h1,h2,h3⟩:=ho.res;have hk:=ho.keys _ (zbj.2 rfl);obtain ⟨k1,k2,k3,k4,k5⟩:=hk;have k1:xs.length<=η'.c k:=by simpa using k1
   refine ⟨A,η'.c k - 0,by rw [h1,hl],by omega,by omega,?_⟩;cases xs with
   | nil=>exact .inl rfl
   | cons x0 xr=>
    have hc:0 < η'.c k:=by simp at k1;omega
    obtain ⟨cs,m1,m2,m3⟩:=k5 hc;have hA:=h3 (by omega);refine .inr ⟨η'.b k,0*es,hA,?_,?_⟩
    ·rcases ho.new (η'.b k) ⟨_,zbj.2 rfl,hc,rfl⟩ with hh | hh
     ·obtain ⟨x,hx,_⟩:=hh;cases hx
     ·exact .inl hh
    ·intro i x hi;have hm:=m3 i (.val (fx x)) (by rw [zbu,hi];rfl);have hlt:i < (x0::xr).length:=(zbn.1 hi).1;refine ⟨_,⟨cs,T,(0,0),m1,?_,k2,k3,rfl⟩,?_⟩
     ·have h5:(i+1)*es<=η'.c k*es:=zbt _ (by omega);rw [zcn,zff] at h5;rw [m2,zdz,zcm];exact h5
     ·rw [zdz,zcm];exact (fx x).mono hm fun b o hb hl _=>⟨hb.1,hl⟩
end
theorem xn2 {P:Program} {c:Base} {d ty:Nat} {pos:String} {af:Array Edge} {gd:Option (Nat×Bool)} {f:FuncId} {x:Operand} {xs:List Operand} {aT:Array TypeId} {ts:List Ty} {r:Ty} (hc:Ct P f ts r) (hf:FnI P f) (hl:xs.length=ts.length):
  Does P c ⟨some d,.call {callee:= .value x,args:=xs.toArray,argTypes:=aT},ty,pos,af,gd⟩ ⟨(x,.val (tE (.func (.func f) #[] #[])))::xs.zip (ts.map Ent.val),[],some (d,some (.val r)),[],[]⟩:=by
 intro g h al a w hp ⟨η,s⟩;obtain ⟨fn,h1,h2,h3⟩:=hf;have hargs:=Tup.all_of s xs ts hp.rd.2 hl;have hv:a.eval x= .func (.func f) #[] #[]:=(xa0 s hp.rd.1).1;have hrun:(execOp a.eval ⟨some d,.call {callee:= .value x,args:=xs.toArray,argTypes:=aT},ty,pos,af,gd⟩).run P w= .ok (.enter f (xs.map a.eval).toArray) w:=by
  simp only [execOp,resolve,hv,Deferred.ofValue,zbv,zbw,zbm,invoke];simp only [zdx,zdt,zcu];exact xh4 h1 h2 h3 _ w
 refine xm3 hrun (zec (hc (c.dom h η) w (xs.map a.eval) hargs) ?_);rintro e w' ⟨v,rfl,hext,hr⟩;refine ⟨v,rfl,η,(s.ext hext).put (hp.d _ rfl) (e:= .val r) (r.mono hr fun b o hb hl _=>⟨?_,hl⟩) (fun k hk=>by cases hk)⟩;rcases hb with hb | hb
 ·refine ⟨.inl (zcj s.fr.size hb),fun ho=> ?_,fun hv=> ?_,fun hv=> ?_⟩
  ·have:=s.olt ho;omega
  ·have:=(s.fr.vnew b hv).1;omega
  ·have:=s.vol b hv;omega
 ·exact hb
section
variable {P:Program} {c:Base} {g:Slots} {h:Keys} {al:Names} {A:Array Oper} {K:List Sm->Slots->Keys->Names->Prop} {rest:List Oper} {sms:List Sm} {dst:Option Nat} {op:Op} {ty:Nat} {pos:String} {af:Array Edge}
theorem RGoff0 {j t:Nat} (hj:(A[j]?).bind (·.dst)=some t) (hg:g t=some (.val (tB false)))
  (H:RSeq P c A K rest (sms++[⟨[t],dst,[],[],[]⟩]) (offG dst g) h al):RSeq P c A K (⟨dst,op,ty,pos,af,some (j,true)⟩::rest) sms g h al:=RGoff rfl hj hg H
theorem RGoff1 {j t:Nat} (hj:(A[j]?).bind (·.dst)=some t) (hg:g t=some (.val (tB true)))
  (H:RSeq P c A K rest (sms++[⟨[t],dst,[],[],[]⟩]) (offG dst g) h al):RSeq P c A K (⟨dst,op,ty,pos,af,some (j,false)⟩::rest) sms g h al:=RGoff rfl hj hg H
end
theorem jp3 {P:Program} {c:Base} {d ty:Nat} {pos:String} {af:Array Edge} {gd:Option (Nat×Bool)} {T:TypeId} {ps:List (Nat×Operand)} {vs:List Value} {r:Value} (hl:ps.length=vs.length) (hb: ∀w,(Instr.build T ((ps.map (·.1)).zip vs).toArray).run P w= .ok r w):
  Does P c ⟨some d,.build T ps.toArray,ty,pos,af,gd⟩ ⟨(ps.map (·.2)).zip (vs.map fun v=>Ent.val (tE v)),[],some (d,some (.val (tE r))),[],[]⟩:=
 Does.value rfl fun g h al a w η hrd _ s=>by
  have key: ∀(ps:List (Nat×Operand)) (vs:List Value),ps.length=vs.length->Rd g ((ps.map (·.2)).zip (vs.map fun v=>Ent.val (tE v)))->ps.map (fun x=>(x.1,a.eval x.2))=(ps.map (·.1)).zip vs:=by
   intro ps
   induction ps with
   | nil=>intro vs hl _;cases vs with | nil=>rfl | cons _ _=>cases hl
   | cons p r ih=>
    intro vs hl hr;cases vs with
    | nil=>cases hl
    | cons v vr=>
     have h1:a.eval p.2=v:=(xa0 s hr.1).1;simp only [zdu,List.zip_cons_cons,h1,ih vr (by simpa using hl) hr.2]
  refine ⟨r,w,?_,Ext.refl w,rfl,fun k hk=>by cases hk⟩;have hk:=key ps vs hl hrd;simp only [execOp,zcu];rw [show (ps.map fun (x:Nat×Operand)=>(x.1,a.eval x.2))=(ps.map (·.1)).zip vs from hk];simp only [zbv,hb w,zbm,zbw]
section
variable {P:Program} {c:Base} {g:Slots} {h:Keys} {al:Names} {Q:Exit->Act->World->Prop} {a:Act} {w:World} {η:Env}
variable {d ty:Nat} {pos:String} {af:Array Edge} {gd:Option (Nat×Bool)}
def Ent.vp:Ent->VP
 | .val t=> .ty t
 | .own p=>p
theorem Ent.vp_sat {F:Dom}: ∀{e:Ent} {v:Value},e.vp.sat F w η v↔e.sat F w η v
 | .val _,_=>by simp only [Ent.vp,VP.sat,Ent.sat]
 | .own _,_=>Iff.rfl
theorem Ent.vp_supp: ∀{e:Ent},e.vp.supp=e.supp
 | .val _=>by simp only [Ent.vp,VP.supp,Ent.supp]
 | .own _=>rfl
def rowV (es:List Ent):VP:= .st (es.map fun _=>(1,false)) (es.map Ent.vp)
theorem zv7: ∀(es:List Ent),sumN (es.map fun _=>(1,false))=es.length
 | []=>rfl
 | _::r=>by simp only [zdu,sumN,zv7 r,zeq];omega
def RowOk (F:Dom) (w:World) (η:Env) (cs:Array Value) (o:Nat) (es:List Ent):Prop:= ∀(i:Nat) (e:Ent),es[i]? =some e->e.sat F w η (cs.getD (o+i) undef)
theorem zw8 {F:Dom} {cs:Array Value}: ∀(es:List Ent) (o:Nat),VP.satf F w η cs o (es.map fun _=>(1,false)) (es.map Ent.vp)↔RowOk F w η cs o es
 | [],o=>by simp [VP.satf,RowOk]
 | e::r,o=>by
  simp only [zdu,VP.satf,zw8 r (o+1),pick,zen,Ent.vp_sat];constructor
  ·rintro ⟨_,h1,h2⟩ i e' hi;cases i with
   | zero=>simp only [zco,zci] at hi;subst hi;exact h1
   | succ i=>have:=h2 i e' (by simpa using hi);rwa [show o+1+i=o+(i+1) by omega] at this
  ·intro h1;exact ⟨fun _=>trivial,h1 0 e rfl,fun i e' hi=>by have:=h1 (i+1) e' (by simpa using hi);rwa [show o+(i+1)=o+1+i by omega] at this⟩
theorem yn8 {F:Dom} {es:List Ent} {v:Value}:(Ent.own (rowV es)).sat F w η v↔ ∃cs,v= .agg cs/\cs.size=es.length/\RowOk F w η cs 0 es:=by
 simp only [Ent.sat,rowV,VP.sat,zw8,zv7]
theorem zz6: ∀(es:List Ent),VP.supps (es.map Ent.vp)=es.flatMap Ent.supp
 | []=>by simp [VP.supps]
 | e::r=>by simp [VP.supps,zz6 r,Ent.vp_supp]
theorem yq5 {es:List Ent}:(Ent.own (rowV es)).supp=es.flatMap Ent.supp:=by
 simp only [Ent.supp,rowV,VP.supp,zz6]
class ShapeL (es:List Ent):Prop where
  all: ∀e∈es,ShapeE e 1 false
instance:ShapeL []:=⟨fun e h=>by cases h⟩
instance {e:Ent} {r:List Ent} [h1:ShapeE e 1 false] [h2:ShapeL r]:ShapeL (e::r):=
  ⟨fun f h => by rcases zbr.1 h with rfl | h
                 · exact h1
                 · exact h2.all f h⟩
class LenE (es:List Ent) (n:outParam Nat):Prop where
  len:es.length=n
instance:LenE [] 0:=⟨rfl⟩
instance {e:Ent} {r:List Ent} {n:Nat} [h:LenE r n]:LenE (e::r) (n+1):=⟨by simp [h.len]⟩
theorem qw8 {F:Dom} {es:List Ent} {v:Value} (hs: ∀e∈es,ShapeE e 1 false) (h:(Ent.own (rowV es)).sat F w η v):Flat es.length true v:=by
 obtain ⟨cs,rfl,h2,h3⟩:=yn8.1 h;rw [<-h2];refine xo1 fun u hu=> ?_;obtain ⟨i,hi⟩:=zep hu;have hil:i < cs.size:=by have:=(zbn.1 hi).1;simpa using this
 have he:es[i]? =some es[i]:=zbi (by omega);have hp:=h3 i _ he;have hf:=(hs _ (zfx _)).flat hp;have e1:cs.getD (0+i) undef=u:=by
  have:cs[i]? =some u:=by simpa using hi
  rw [zcm,zbk,this];rfl
 rw [e1] at hf;obtain ⟨q1,q2,q3,q4⟩:=hf;exact (q4 rfl).1
instance {es:List Ent} {n m:Nat} [h1:ShapeL es] [h2:LenE es m] [h3:EqN m n]:ShapeE (.own (rowV es)) n true:=⟨fun h=>by
 have:=qw8 h1.all h
 rwa [h2.len.trans h3.eq] at this⟩
class LeafE (e:Ent) (l:outParam (List Ent)):Prop where
  leaf: ∀{F:Dom} {w:World} {η:Env} {v:Value},e.sat F w η v->v.cells.size=l.length/\RowOk F w η v.cells 0 l
  sup: ∀k∈l.flatMap Ent.supp,k∈e.supp
theorem qz9 {v:Value} (h:one v=true):v.cells= #[v]:=by cases v <;> first | (simp [one] at h;done) | rfl
instance (priority:=low) leaf_one {e:Ent} [h:ShapeE e 1 false]:LeafE e [e]:=⟨fun {F w η v} hv=>by
 obtain ⟨q1,q2,q3,q4⟩:=h.flat hv;have hc:=qz9 (q4 rfl).1;refine ⟨q1,fun i e' hi=> ?_⟩;cases i with
 | zero=>simp only [zco,zci] at hi;subst hi;rw [hc];exact hv
 | succ i=>simp at hi,fun k hk=>by simpa using hk⟩
class LeafL (es:List Ent) (ls:outParam (List (List Ent))):Prop where
  all: ∀{F:Dom} {w:World} {η:Env} {vs:List Value},SatL F w η es vs->vs.length=ls.length/\ ∀(i:Nat) (l:List Ent) (v:Value),ls[i]? =some l->vs[i]? =some v->v.cells.size=l.length/\RowOk F w η v.cells 0 l
  sup: ∀k∈ls.flatten.flatMap Ent.supp,k∈es.flatMap Ent.supp
instance:LeafL [] []:=⟨fun {F w η vs} h=>by cases vs with
 | nil=>exact ⟨rfl,fun i l v hi=>by simp at hi⟩
 | cons=>exact h.elim,fun k hk=>by simp at hk⟩
instance {e:Ent} {r:List Ent} {l:List Ent} {ls:List (List Ent)} [h1:LeafE e l] [h2:LeafL r ls]:LeafL (e::r) (l::ls):=⟨fun {F w η vs} h=>by
 cases vs with
 | nil=>exact h.elim
 | cons v vs=>
  obtain ⟨h3,h4⟩:=h;obtain ⟨h5,h6⟩:=h2.all h4;refine ⟨by simp [h5],fun i l' v' hi hv=> ?_⟩;cases i with
  | zero=>simp only [zco,zci] at hi hv;subst hi hv;exact h1.leaf h3
  | succ i=>exact h6 i l' v' (by simpa using hi) (by simpa using hv),fun k hk=>by
 simp only [List.flatten_cons,zeu,zbo,zex] at*
 exact hk.imp (h1.sup k) (h2.sup k)⟩
theorem zz3 {T n k:Nat} {z:Value} (zs:List Value) (hz:(P.info? T).bind (·.zero)=some z) (hc:z.cells.toList=zs) (hn:zs.length=n) (h63:Nat.ble n 9223372036854775807=true) {ts:List Ent} (hts:zs.map (fun v=>Ent.val (tE v))=ts):
  Does P c ⟨some d,.alloc T,ty,pos,af,gd⟩ ⟨[],[],some (d,some (.own (.ptr k 0))),[(k,some ⟨T,1,false,ts⟩)],[k]⟩:=by
 intro g h al a w hp ⟨η,s⟩;subst hts hc;have hnew:=s.new k hp.nk.1 ⟨T,1,false,z.cells.toList.map (fun v=>Ent.val (tE v))⟩ z.cells n (by rw [<-hn];simp) (by simp [<-hn]) Nat.one_pos (fun _=>rfl) (zdq h63)
  (fun j hj=>by
   simp only [HEnt.supp,zbz,zcp] at hj;obtain ⟨e,⟨v,_,rfl⟩,hj⟩:=hj;cases hj) (fun i e' hi=>by
   simp only [zbu,zdn] at hi;obtain ⟨v,hv,rfl⟩:=hi;show pick false 1 z.cells (i*1)=v;have hv':z.cells[i]? =some v:=by simpa using hv
   simp [pick,hv'])
 obtain ⟨i,hi,hz'⟩:=zgb.1 hz;refine xe6 (v:= .pointer (some ⟨w.heap.size,0,none⟩)) (w':={w with heap:=w.heap.push (.cells z.cells T)}) (by
  simp [execOp,Instr.alloc,zeroValue,typeInfo,hi,hz',newVar,newRow,newObj,Sem.run,go_sem]) ?_
 refine ⟨_,hnew.put (hp.d _ rfl) ?_ ?_⟩
 ·show _=_;simp [Env.set_b]
 ·intro j hj;simp only [Ent.supp,VP.supp,zbj] at hj;subst hj;simp
theorem qa3 {T T0 k n:Nat} {x y:Operand} {ts es:List Ent} [he:ShapeE (.own (rowV es)) n true] (ti:TyI P T n true) (hn:Nat.beq es.length n=true) (h0:Nat.blt 0 n=true) (hl:Nat.beq ts.length n=true):
  Does P c ⟨none,.store T x y,ty,pos,af,gd⟩ ⟨[(x,.own (.ptr k 0)),(y,.own (rowV es))],[(k,⟨T0,1,false,ts⟩)],none,[(k,some ⟨T0,1,false,es⟩)],[]⟩:=by
 intro g h al a w hpre ⟨η,s⟩;have hn:es.length=n:=zdv hn;have hl:ts.length=n:=zdv hl;have h0:0 < n:=by simpa using h0
 have h1:a.eval x= .pointer (some ⟨η.b k,0,none⟩):=(xa0 s hpre.rd.1).1;obtain ⟨hy,hys⟩:=xa0 s hpre.rd.2.1;have hfl:=he.flat hy;obtain ⟨h2,h3,⟨h6,h7,h8,h9,hmem⟩,h11⟩:=s.key k _ hpre.kr.1;have h6:ts.length<=η.c k:=h6;have hc0:0 < η.c k:=by omega
 obtain ⟨cs,h4,h5,h10⟩:=hmem hc0;have h5:cs.size=η.c k*1:=h5;have hle:0+n<=cs.size:=by omega
 obtain ⟨w',r1,r2,r3,r4,r5,r6,r7⟩:=xu8 (P:=P) ti h4 hle hfl;refine yr5 (w':=w') (by simp only [execOp,h1,Instr.storeAt,Instr.sureAddr,zbv,zbw,zbm,r1]) ?_;obtain ⟨ds,e1,e2,e3⟩:=yn8.1 hy;rw [e1] at r2 hfl;have hw:=s.write (w':=w') k hpre.kr.1 ⟨T0,1,false,es⟩ (putAt cs 0 (Value.agg ds).cells.toList) (by rw [xd5];exact h5) (by show es.length<=_;omega) Nat.one_pos (fun _=>rfl)
  (fun j hj=>hys j (by rw [yq5];exact hj))
  (fun j e' hj=>by
   have hjl:j < es.length:=(zbn.1 hj).1;have:=e3 j e' hj;show e'.sat _ _ _ (pick false 1 _ (j*1));simp only [pick,zen,zee];rw [zbk,xk4 _ _ _ _ (by omega),if_pos (by simp only [Value.cells,Array.length_toList];omega)];simpa [Value.cells] using this)
  hc0 r2 r3 r4 r5 r6 r7 rfl
 exact ⟨η,hw.lose none undef⟩
def fdOne (ts:List Ty):List Fd:=ts.map fun t=>⟨1,false,t⟩
theorem yp4: ∀(ts:List Ty),Fd.sum (fdOne ts)=ts.length
 | []=>rfl
 | _::r=>by show 1+Fd.sum (fdOne r)=_;rw [yp4 r,zeq];omega
theorem zo7 {F:Dom} {cs:Array Value}: ∀(ts:List Ty) (o:Nat),(∀(i:Nat) (t:Ty),ts[i]? =some t->t.p F w (cs.getD (o+i) undef))->Fd.all F w cs o (fdOne ts)
 | [],_,_=>trivial
 | t::r,o,hh=>⟨⟨fun _=>rfl,hh 0 t rfl⟩,zo7 r (o+1) fun i t' hi=>by have:=hh (i+1) t' (by simpa using hi);rwa [show o+(i+1)=o+1+i by omega] at this⟩
theorem zh4 {T T0 k p n:Nat} {x:Operand} {ts:List Ent} {us:List Ty} {t:Ty} (ti:TyI P T n true) (hn:us.length=n) (h0:Nat.blt 0 n=true) (hts:(ts.drop p).take n=us.map Ent.val) (ht:tS (fdOne us)=t):
  Does P c ⟨some d,.load T x,ty,pos,af,gd⟩ ⟨[(x,.own (.ptr k p))],[(k,⟨T0,1,false,ts⟩)],some (d,some (.val t)),[],[]⟩:=
 Does.value rfl fun g h al a w η hrd hkr s=>by
  subst hn ht;have h0:0 < us.length:=by simpa using h0
  have h1:a.eval x= .pointer (some ⟨η.b k,p,none⟩):=(xa0 s hrd.1).1;obtain ⟨h2,h3,⟨h6,h7,h8,h9,hmem⟩,h11⟩:=s.key k _ hkr.1;have h6:ts.length<=η.c k:=h6;have hlen:=congrArg List.length hts;simp only [zde,List.length_drop,zcq] at hlen;obtain ⟨cs,h4,h5,h10⟩:=hmem (by omega);have h5:cs.size=η.c k*1:=h5;have hle:p+us.length<=cs.size:=by omega
  refine ⟨_,w,?_,Ext.refl w,⟨cs.extract p (p+us.length),rfl,by rw [yp4];simp;omega,zo7 us 0 fun i t hi=> ?_⟩,fun j hj=>by cases hj⟩
  ·simp only [execOp,h1,Instr.loadAt,Instr.sureAddr,zbv,zbw,zbm,xp3 ti h4 hle (fun h=>by cases h),pick,zey]
  ·have hil:i < us.length:=(zbn.1 hi).1;have hx:ts[p+i]? =some (.val t):=by
    have h12:((ts.drop p).take us.length)[i]? =some (.val t):=by rw [hts,zbu,hi];rfl
    rw [List.getElem?_take_of_lt hil,List.getElem?_drop] at h12;exact h12
   have h13:=h10 (p+i) _ hx;simp only [pick,zen,zee] at h13;rw [zbk,zcs,if_pos (by omega),zcm,<-zbk];exact h13
def NoLbK (c:Base) (h:Keys) (k:Nat):Prop:= ∀(g:Slots) (al:Names) (a:Act) (w:World) (η:Env),St' c g h al a w η->0 < η.c k-> ¬c.lb (η.b k)
theorem NoLbK.of (hlb:NoLb c) {k:Nat}:NoLbK c h k:=fun _ _ _ _ _ _ _=>hlb _
theorem St'.giveK (s:St' c g h al a w η) {k:Nat} {T es off len:Nat} {agg:Bool} {ts:List Ent} {α:Type} {f:α->Ty} {xs:List α} (hk:h k=some ⟨T,es,agg,ts⟩) (hlb:NoLbK c h k)
  (hts:(ts.drop off).take len=xs.map fun x=> .val (f x)) (hl:xs.length=len) {v:Value} (hv:(Ent.own (.sl k es off len)).sat (c.dom h η) w η v):(tL es agg f xs).p (c.dom (upd h k none) η) w v:=by
 subst hl;obtain ⟨A,h1,h2,h3⟩:=hv;obtain ⟨h4,h5,⟨h6,h7,h8,h9,h10⟩,h11⟩:=s.key k _ hk;simp only at h7 h8 h9 h10;refine ⟨A,_,h1,by omega,by omega,?_⟩;rcases zcf xs.length with h0 | h0
 ·exact .inl (zdw h0)
 ·have hc:0 < η.c k:=by omega
  obtain ⟨cs,e1,e2,e3⟩:=h10 hc;obtain ⟨d1,d2,d3⟩:=h11 hc;have d1:c.w0.heap.size<=η.b k:=d1.resolve_right (hlb _ _ _ _ _ s hc);refine .inr ⟨η.b k,off*es,h3 (by omega),⟨.inl d1,?_,d2,d3⟩,fun i x hi=> ?_⟩
  ·rintro ⟨j,y,hj,hcj,e⟩;by_cases hjk:j=k
   ·subst hjk;rw [xa9] at hj;cases hj
   ·rw [xa4 _ _ _ hjk] at hj;exact s.inj j k y _ hj hk hjk hcj hc e.symm
  ·have hil:i < xs.length:=(zbn.1 hi).1;have he:=e3 (off+i) _ (yt0 hts i x hi);have hle:off*es+i*es+es<=cs.size:=by
    rw [e2,<-zcn,<-zdh];exact zbt _ (by omega)
   refine ⟨_,⟨cs,_,_,e1,hle,h7,h8,rfl⟩,?_⟩;rw [<-zcn];exact (f x).mono he (Keep.drop k)
theorem qn3 {x:Code} {q j T Tq es off len:Nat} {agg:Bool} {us ts us':List Ent} {α:Type} {f:α->Ty} {xs:List α} (i:Nat) (hq:h q=some ⟨Tq,1,false,us⟩) (hi:us[i]? =some (.own (.sl j es off len))) (hj:h j=some ⟨T,es,agg,ts⟩) (hne:Nat.beq q j=false) (hlb:NoLbK c h j)
  (hts:(ts.drop off).take len=xs.map fun x=> .val (f x)) (hl:xs.length=len) (hus:us.set i (.val (tL es agg f xs))=us') (H:wc P c x Q g (upd (upd h j none) q (some ⟨Tq,1,false,us'⟩)) al):wc P c x Q g h al:=fun a w ⟨η,s⟩=>by
 subst hus;have hne:q≠j:=fun e=>by rw [e] at hne;simp at hne
 obtain ⟨k1,k2,⟨k3,k4,k5,k6,k7⟩,_⟩:=s.key q _ hq;have hil:i < us.length:=(zbn.1 hi).1;have k3:us.length<=η.c q:=k3;obtain ⟨cs,m1,m2,m3⟩:=k7 (by omega);have h2:=s.giveK hj hlb hts hl (m3 i _ hi);have s1:=s.drop j;refine H a w ⟨η,s1.same (x:=⟨Tq,1,false,us⟩) (by rw [xa4 _ _ _ hne];exact hq) rfl (fun t ht=> ?_) ⟨by simpa using k3,Nat.one_pos,fun _=>rfl,k6,fun _=>⟨cs,m1,m2,fun n e he=> ?_⟩⟩⟩
 ·simp only [HEnt.supp,zbz] at ht;obtain ⟨e',he',ht⟩:=ht;obtain ⟨j',hj'⟩:=zep he';rcases List.getElem?_set_cases hj' with ⟨_,rfl,_⟩ | ⟨_,hj''⟩
  ·cases ht
  ·exact k2 t (HEnt.mem_supp hj'' ht)
 ·rcases List.getElem?_set_cases he with ⟨rfl,rfl,_⟩ | ⟨hne',hj'⟩
  ·exact h2
  ·exact Ent.sat_go (m3 n e hj') (Keep.drop j) fun _ _=>⟨rfl,rfl⟩
end
section
variable {P:Program} {c:Base} {g:Slots} {h:Keys} {al:Names} {Q:Exit->Act->World->Prop}
variable {A:Array Oper} {rest:List Oper} {dst:Option Nat} {op:Op} {ty:Nat} {pos:String} {af:Array Edge}
theorem xh7 {E:Eff} {j t:Nat} {want b:Bool} (hb:b=want) (hj:(A[j]?).bind (·.dst)=some t) (hd:Does P c ⟨dst,op,ty,pos,af,some (j,want)⟩ E) (hg:g t=some (.val (tB b))) (h1:Rd g E.rd) (h2:Kr h E.kr) (h3:Nk al E.nk)
  (hN:dOk c.N [⟨t::slotsOf E.rd,E.d.map (·.1),E.kr.map (·.1),E.kw.map (·.1),E.nk⟩]=true) (H:wl P c A Q rest (E.g g) (E.h h) (E.al al)):wl P c A Q (⟨dst,op,ty,pos,af,some (j,want)⟩::rest) g h al:=
 yc7 [⟨dst,op,ty,pos,af,some (j,want)⟩] (rest:=rest) (RGon hb hj hd hg h1 h2 h3 ⟨hN,H⟩)
theorem xt4 {d:Nat} {T T0 es k p n o:Nat} {agg':Bool} {x:Operand} {ts:List Ent} {t t':Ty} (i:Nat) (ti:TyI P T n agg') (hx:look g x=some (.own (.ptr k p))) (hk:h k=some ⟨T0,es,true,ts⟩) (hi:ts[i]? =some (.val t)) (hat:At t o n agg' t') (hp:i*es+o=p)
  (hN:dOk c.N [⟨slotsOf [(x,.own (.ptr k p))],some d,[k],[],[]⟩]=true) (H:wl P c A Q rest (upd g d (some (.val t'))) h al):wl P c A Q (⟨some d,.load T x,ty,pos,af,none⟩::rest) g h al:=
 xf4 (xj6 i ti hi hat hp) ⟨hx,trivial⟩ ⟨hk,trivial⟩ trivial hN H
end
def rV {α:Type} (f:α->Ty) (xs:List α):List Ent:=xs.map fun x=> .val (f x)
section
variable {α:Type} {f:α->Ty} {xs:List α}
theorem xc4 {i:Nat} {d:α} (h:i < xs.length):(rV f xs)[i]? =some (.val (f (xs.getD i d))):=by
 rw [rV,zbu,gD (d:=d) h];rfl
theorem xe8 {i:Nat} (h:i < xs.length):Nat.blt i (rV f xs).length=true:=by simpa [rV] using h
theorem xi3 {i:Nat} {m:α} {t:Ty} (h:t=f m):(rV f xs).set i (.val t)=rV f (xs.set i m):=by
 rw [rV,rV,List.map_set,h]
theorem xk0 (n:Nat) (x:α) {t:Ty} (h:t=f x):List.replicate n (Ent.val t)=rV f (List.replicate n x):=by
 rw [rV,List.map_replicate,h]
theorem xd2:(rV f xs).length=xs.length:=by simp [rV]
theorem xg2 {n:Nat} (h:xs.length=n):((rV f xs).drop 0).take n=xs.map fun x=> .val (f x):=by
 subst h;rw [List.drop_zero,List.take_of_length_le (by rw [xd2];exact zbs _)];rfl
theorem xa5 {l:List Nat}:SupX (rV f xs) l:=SupX.map (f:=f)
theorem xa6 {ρ:Nat->Nat} {T es:Nat} {agg:Bool}:HEnt.ren ρ ⟨T,es,agg,rV f xs⟩=⟨T,es,agg,rV f xs⟩:=we3
end
def VP.ent:VP->Ent
 | .ty u=> .val u
 | p=> .own p
theorem VP.ent_sat {F:Dom} {w:World} {η:Env} {v:Value}: ∀{p:VP},p.sat F w η v->p.ent.sat F w η v
 | .ty _,h=>by simp only [VP.sat] at h;exact h
 | .ptr ..,h=>h
 | .sl ..,h=>h
 | .fn ..,h=>h
 | .st ..,h=>h
 | .tup ..,h=>h
theorem VP.ent_supp: ∀{p:VP},∀k∈p.ent.supp,k∈p.supp
 | .ty _,_,h=>by simp only [VP.ent,Ent.supp] at h;cases h
 | .ptr ..,_,h=>h
 | .sl ..,_,h=>h
 | .fn ..,_,h=>h
 | .st ..,_,h=>h
 | .tup ..,_,h=>h
theorem VP.sats_get {F:Dom} {w:World} {η:Env}: ∀{ps:List VP} {vs:List Value} {i:Nat} {p:VP},VP.sats F w η ps vs->ps[i]? =some p-> ∃v,vs[i]? =some v/\p.sat F w η v
 | p::r,v::s,0,q,h,hi=>by
  simp only [VP.sats] at h;cases hi;exact ⟨v,rfl,h.1⟩
 | p::r,v::s,i+1,q,h,hi=>by
  simp only [VP.sats] at h;exact VP.sats_get (i:=i) h.2 hi
 | p::r,[],_,_,h,_=>by simp only [VP.sats] at h
 | [],_,_,_,_,hi=>by cases hi
theorem VP.supps_get: ∀{ps:List VP} {i:Nat} {p:VP},ps[i]? =some p-> ∀k∈p.supp,k∈VP.supps ps
 | p::r,0,q,hi,k,hk=>by
  cases hi;simp only [VP.supps,zbo];exact .inl hk
 | p::r,i+1,q,hi,k,hk=>by
  simp only [VP.supps,zbo];exact .inr (VP.supps_get (i:=i) hi k hk)
 | [],_,_,hi,_,_=>by cases hi
section
variable {P:Program} {c:Base} {g:Slots} {h:Keys} {al:Names} {d ty:Nat} {pos:String} {af:Array Edge} {gd:Option (Nat×Bool)}
theorem ye0 {x:Operand} {fs:List VP} {i:Nat} {p:VP} (hi:fs[i]? =some p):Does P c ⟨some d,.extract x i,ty,pos,af,gd⟩ ⟨[(x,.own (.tup fs))],[],some (d,some p.ent),[],[]⟩:=
 Does.value rfl fun g h al a w η hrd _ s=>by
  obtain ⟨h0,h1⟩:=xa0 s hrd.1;have h0:VP.sat (c.dom h η) w η (.tup fs) (a.eval x):=h0;simp only [VP.sat] at h0;obtain ⟨vs,e1,e2⟩:=h0;obtain ⟨v,h3,h4⟩:=VP.sats_get e2 hi;refine ⟨v,w,by simp only [execOp,e1];simp [Instr.extract,h3,go_sem],Ext.refl w,VP.ent_sat h4,fun k hk=>h1 k ?_⟩;simp only [Ent.supp,VP.supp];exact VP.supps_get hi k (VP.ent_supp k hk)
theorem yd0 {fn:Func} {w0:World} {F:Dom} {η0:Env} {l0:List Nat} {H H':List (Nat×HEnt)} {nn:List Nat} {t u:Nat} {e1 e2 r1 r2:Ent} (hp:LentC c w0 F η0 l0 H) (hr:fn.results= #[.tmp t,.tmp u]) (hx:g t=some e1) (hy:g u=some e2) (i1:Imp e1 r1) (i2:Imp e2 r2) (hk:Kr h H') (hs:subN (Ent.own (.tup [r1.vp,r2.vp])).supp (nn++l0)=true) (hsH:SupHs H' (nn++l0)) (hd:(nn.all fun k=> !memN k l0)=true):
  wk c .ret (PostG P w0 F η0 fn H (.own (.tup [r1.vp,r2.vp])) H' nn) g h al:=
 qa2 (.inl rfl) hp hk hs hsH hd fun c' a w η _ s=>by
  have h1:(([ResultVar.tmp t,.tmp u]).mapM (readR a.tmps)).run P w= .ok [a.tmps.getD t undef,a.tmps.getD u undef] w:=by simp [readR]
  have:=xv2 (P:=P) (rs:=[.tmp t,.tmp u]) hr h1;rw [dif_neg (by simp)] at this;refine ⟨_,this,?_⟩;show VP.sat _ _ _ (.tup _) _;simp only [VP.sat];exact ⟨_,rfl,Ent.vp_sat.2 (i1 _ _ _ _ (s.slot t _ hx).2.2),Ent.vp_sat.2 (i2 _ _ _ _ (s.slot u _ hy).2.2),trivial⟩
end
section
variable {P:Program} {c:Base} {d ty:Nat} {pos:String} {af:Array Edge} {gd:Option (Nat×Bool)}
def ArgsR (k es len:Nat) (t0:Ty):List Ent->List Ty->Prop
 | [],[]=>True
 | e::r,t::s=>(e= .val t∨(e= .own (.sl k es 0 len)/\t=t0))/\ArgsR k es len t0 r s
 | _,_=>False
theorem ArgsR.all {g:Slots} {h:Keys} {al:Names} {a:Act} {w:World} {η:Env} {k T es len:Nat} {agg:Bool} {ts:List Ent} {α:Type} {f:α->Ty} {zs:List α} (st:St' c g h al a w η) (hk:h k=some ⟨T,es,agg,ts⟩) (hlb:NoLb c) (hts:(ts.drop 0).take len=zs.map fun x=> .val (f x)) (hl:zs.length=len):
  ∀{xs:List Operand} {es':List Ent} {us:List Ty},Rd g (xs.zip es')->xs.length=us.length->ArgsR k es len (tL es agg f zs) es' us->Tup.all (c.dom (upd h k none) η) w us (xs.map a.eval)
 | [],_,[],_,_,_=>trivial
 | x::xs,e::es',u::us,hr,hn,ha=>by
  refine ⟨?_,ArgsR.all st hk hlb hts hl hr.2 (by simpa using hn) ha.2⟩;rcases ha.1 with e1 | ⟨e1,e2⟩
  ·subst e1;exact (xa0 (st.drop k) hr.1).1
  ·subst e1;subst e2;exact st.give hk hlb hts hl (xa0 st hr.1).1
 | [],_,_::_,_,hn,_=>by simp at hn
 | _::_,_,[],_,hn,_=>by simp at hn
 | _::_,[],_::_,_,_,ha=>ha.elim
theorem yh3 {f:FuncId} {xs:List Operand} {aT:Array TypeId} {us:List Ty} {r:Ty} {α:Type} {ft:α->Ty} {zs:List α} {ts:List Ent} {agg:Bool} (k T es len:Nat) (ents:List Ent) (hsc: ∀F F' w v,r.p F w v->r.p F' w v) (hc:Ct P f us r) (hf:FnI P f) (hlb:NoLb c)
  (hts:(ts.drop 0).take len=zs.map fun x=> .val (ft x)) (hzl:zs.length=len) (ha:ArgsR k es len (tL es agg ft zs) ents us) (hl:xs.length=us.length):
  Does P c ⟨some d,.call {callee:= .value (.func f),args:=xs.toArray,argTypes:=aT},ty,pos,af,gd⟩ ⟨xs.zip ents,[(k,⟨T,es,agg,ts⟩)],some (d,some (.val r)),[],[]⟩:=by
 intro g h al a w hp ⟨η,st⟩;obtain ⟨fn,h1,h2,h3⟩:=hf;have hargs:=ArgsR.all st hp.kr.1 hlb hts hzl hp.rd hl ha;have hrun:(execOp a.eval ⟨some d,.call {callee:= .value (.func f),args:=xs.toArray,argTypes:=aT},ty,pos,af,gd⟩).run P w= .ok (.enter f (xs.map a.eval).toArray) w:=by
  simp only [execOp,resolve,Act.eval,Deferred.ofValue,zbv,zbw,zbm,invoke];simp only [zdx,zdt,zcu];exact xh4 h1 h2 h3 _ w
 refine xm3 hrun (zec (hc _ w (xs.map a.eval) hargs) ?_);rintro e w' ⟨v,rfl,hext,hr⟩;exact ⟨v,rfl,η,(st.ext hext).put (hp.d _ rfl) (e:= .val r) (hsc _ _ _ _ hr) (fun k hk=>by cases hk)⟩
end
def tLK {α:Type} (es:Nat) (agg:Bool) (f:α->Ty) (xs ms:List α):Ty:=
 ⟨fun F w v=> ∃A c,v= .slice A xs.length c/\(tL es agg f (xs++ms)).p F w (.slice A (xs.length+ms.length) c),fun ⟨A,c,h1,h2⟩ hk=>⟨A,c,h1,(tL es agg f (xs++ms)).mono h2 hk⟩⟩
theorem qz5 {α:Type} {es:Nat} {agg:Bool} {f:α->Ty} {xs ms:List α}:Le (tLK es agg f xs ms) (tL es agg f xs):=fun F w v ⟨A,c,h1,h2⟩=>by
 obtain ⟨A',c',e,h3,h4,h5⟩:=h2;injection e with e1 e2 e3;subst e1 e3;refine ⟨A,c,h1,by simp at h3;omega,h4,?_⟩;rcases h5 with h5 | ⟨b,o,h6,h7,h8⟩
 ·exact .inl (List.append_eq_nil_iff.1 h5).1
 ·exact .inr ⟨b,o,h6,h7,fun i x hi=>h8 i x (by rw [zdo (zbn.1 hi).1];exact hi)⟩
instance {α:Type} {es:Nat} {agg:Bool} {f:α->Ty} {xs ms:List α}:Shape (tLK es agg f xs ms) 1 false:=⟨fun ⟨_,_,h,_⟩=>by rw [h];exact xd3 rfl⟩
def LeFs:List Fd->List Fd->Prop
 | [],[]=>True
 | f::r,g::s=>(f.n=g.n/\f.agg=g.agg/\Le f.t g.t)/\LeFs r s
 | _,_=>False
theorem LeFs.sum: ∀{fs gs:List Fd},LeFs fs gs->Fd.sum fs=Fd.sum gs
 | [],[],_=>rfl
 | _::_,_::_,h=>by rw [Fd.sum,Fd.sum,h.1.1,LeFs.sum h.2]
 | [],_::_,h=>h.elim
 | _::_,[],h=>h.elim
theorem LeFs.all {F:Dom} {w:World} {cs:Array Value}: ∀{fs gs:List Fd} {o:Nat},LeFs fs gs->Fd.all F w cs o fs->Fd.all F w cs o gs
 | [],[],_,_,h=>h
 | f::r,g::s,o,h,ha=>by
  obtain ⟨⟨h1,h2,h3⟩,h4⟩:=h;refine ⟨⟨by rw [<-h1,<-h2];exact ha.1.1,by rw [<-h1,<-h2];exact h3 _ _ _ ha.1.2⟩,?_⟩;rw [<-h1];exact LeFs.all h4 ha.2
 | [],_::_,_,h,_=>h.elim
 | _::_,[],_,h,_=>h.elim
theorem Le.tS {fs gs:List Fd} (h:LeFs fs gs):Le (tS fs) (tS gs):=fun _ _ _ ⟨cs,h1,h2,h3⟩=>⟨cs,h1,h2.trans h.sum,h.all h3⟩
theorem add0 {A:Option Addr} {es:Nat}:A.map (·.add (0*es))=A:=by cases A <;> simp [Addr.add]
section
variable {P:Program} {c:Base} {d ty:Nat} {pos:String} {af:Array Edge} {gd:Option (Nat×Bool)}
theorem d_lenK {T:TypeId} {x:Operand} {α:Type} {es:Nat} {agg:Bool} {f:α->Ty} {xs ms:List α} {E:TypeId} (hT:P.underlying T=some (.slice E)):
  Does P c ⟨some d,.call {callee:= .builtin .len,args:= #[x],argTypes:= #[T]},ty,pos,af,gd⟩ ⟨[(x,.val (tLK es agg f xs ms))],[],some (d,some (.val (tI xs.length))),[],[]⟩:=
 Does.value rfl fun g h al a w η hrd _ s=>by
  obtain ⟨A,cc,h1,_⟩:=(xa0 s hrd.1).1;have h1:a.eval x= .slice A xs.length cc:=h1;exact ⟨_,w,by simp only [execOp,resolve,invoke,builtin,zcu,zdu,zfr,h1];simp [Builtin.len_,run_underlying hT,goInt,go_sem],Ext.refl w,rfl,fun k hk=>by cases hk⟩
theorem jq7 {T E es:Nat} {agg:Bool} {α:Type} {f:α->Ty} {xs ms:List α} {x y:Operand} {v:Int} (sl:SlI P T E es agg) (hv:v=((xs.length+ms.length:Nat):Int)):
  Does P c ⟨some d,.slice T x none (some y) none,ty,pos,af,gd⟩ ⟨[(x,.val (tLK es agg f xs ms)),(y,.val (tI v))],[],some (d,some (.val (tL es agg f (xs++ms)))),[],[]⟩:=by
 subst hv;exact Does.value rfl fun g h al a w η hrd _ s=>by
  obtain ⟨A,cap,hA,hm⟩:=(xa0 s hrd.1).1;have hA:a.eval x= .slice A xs.length cap:=hA;have hle:xs.length+ms.length<=cap:=by
   obtain ⟨_,_,e,h1,_⟩:=hm;injection e with e1 e2 e3;subst e3;simpa using h1
  have hb:=xk7 (P:=P) (b:=true) (len:=xs.length) (cap:=cap) s (lo:=none) (hi:=some y) (l:=0) (u:=xs.length+ms.length) (fun _=>rfl) (fun h=>by cases h) hrd.2 (zbq _) hle;simp only [zev] at hb;refine ⟨.slice (if cap=0 then A else A.map (·.add (0*es))) (xs.length+ms.length - 0) (cap - 0),w,?_,Ext.refl w,?_,fun j hj=>by cases hj⟩
  ·simp only [execOp,hA,Instr.sliceAt,zbv,zda sl.und,zbm,Instr.slice,zev,hb,sl.el.size_run w,zbw]
  ·have e:(if cap=0 then A else A.map (·.add (0*es)))=A:=by
    split
    ·rfl
    ·exact add0
   rw [e];exact hm
end
def tG (G:Dom) (t:Ty):Ty:=⟨fun F w v=>t.p (fun b=>F b/\G b) w v,fun h hk=>t.mono h fun b o hb hl hd=>⟨⟨(hk b o hb.1 hl hd).1,hb.2⟩,(hk b o hb.1 hl hd).2⟩⟩
theorem xe2 {G:Dom} {t:Ty}:Le (tG G t) t:=fun _ _ _ h=>t.mono h fun _ _ hb hl _=>⟨hb.1,hl⟩
theorem je3 {G G':Dom} {t:Ty} (h: ∀b,G b->G' b):Le (tG G t) (tG G' t):=fun _ _ _ hp=>t.mono hp fun _ _ hb hl _=>⟨⟨hb.1,h _ hb.2⟩,hl⟩
theorem ju5 {G:Dom} {t u:Ty} (h:Le t u):Le (tG G t) (tG G u):=fun _ _ _ hp=>h _ _ _ hp
theorem y6 {G:Dom} {v:Value}:Le (tE v) (tG G (tE v)):=fun _ _ _ h=>h
theorem qs3 {G:Dom} {v:Value}:Le (tG G (tE v)) (tE v):=fun _ _ _ h=>h
theorem Le.trans {t u v:Ty} (h:Le t u) (k:Le u v):Le t v:=fun _ _ _ hp=>k _ _ _ (h _ _ _ hp)
def LeGs (G:Dom):List Fd->List Fd->Prop
 | [],[]=>True
 | f::r,g::s=>(f.n=g.n/\f.agg=g.agg/\Le f.t (tG G g.t))/\LeGs G r s
 | _,_=>False
theorem LeGs.sum {G:Dom}: ∀{fs gs:List Fd},LeGs G fs gs->Fd.sum fs=Fd.sum gs
 | [],[],_=>rfl
 | _::_,_::_,h=>by rw [Fd.sum,Fd.sum,h.1.1,LeGs.sum h.2]
 | [],_::_,h=>h.elim
 | _::_,[],h=>h.elim
theorem LeGs.all {G F:Dom} {w:World} {cs:Array Value}: ∀{fs gs:List Fd} {o:Nat},LeGs G fs gs->Fd.all F w cs o fs->Fd.all (fun b=>F b/\G b) w cs o gs
 | [],[],_,_,_=>trivial
 | f::r,g::s,o,h,ha=>by
  obtain ⟨⟨h1,h2,h3⟩,h4⟩:=h;refine ⟨⟨by rw [<-h1,<-h2];exact ha.1.1,by rw [<-h1,<-h2];exact h3 _ _ _ ha.1.2⟩,?_⟩;rw [<-h1];exact LeGs.all h4 ha.2
 | [],_::_,_,h,_=>h.elim
 | _::_,[],_,h,_=>h.elim
theorem yb3 {G:Dom} {fs gs:List Fd} (h:LeGs G fs gs):Le (tS fs) (tG G (tS gs)):=fun _ _ _ ⟨cs,h1,h2,h3⟩=>⟨cs,h1,h2.trans h.sum,h.all h3⟩
theorem le_L {α:Type} {es:Nat} {agg:Bool} {f g:α->Ty} {xs:List α} (h: ∀x,Le (f x) (g x)):Le (tL es agg f xs) (tL es agg g xs):=fun _ _ _ ⟨A,c,h1,h2,h3,h4⟩=>
 ⟨A,c,h1,h2,h3,h4.imp id fun ⟨b,o,e,hb,hx⟩=>⟨b,o,e,hb,fun i x hi=>let ⟨u,hm,hu⟩:=hx i x hi;⟨u,hm,h x _ _ _ hu⟩⟩⟩
def LeGL (G:Dom):List Ty->List Ty->Prop
 | [],[]=>True
 | t::r,u::s=>Le t (tG G u)/\LeGL G r s
 | _,_=>False
theorem LeGL.all {G F:Dom} {w:World}: ∀{ts us:List Ty} {vs:List Value},LeGL G ts us->Tup.all F w ts vs->Tup.all (fun b=>F b/\G b) w us vs
 | [],[],[],_,_=>trivial
 | _::_,_::_,_::_,h,hv=>⟨h.1 _ _ _ hv.1,LeGL.all h.2 hv.2⟩
 | [],[],_::_,_,hv=>hv.elim
 | _::_,_::_,[],_,hv=>hv.elim
 | [],_::_,_,h,_=>h.elim
 | _::_,[],_,h,_=>h.elim
def GeTL (G:Dom):List Ty->List Ty->Prop
 | [],[]=>True
 | t::r,u::s=>Le (tG G t) u/\GeTL G r s
 | _,_=>False
theorem GeTL.all {G F:Dom} {w:World}: ∀{ts us:List Ty} {vs:List Value},GeTL G ts us->Tup.all (fun b=>F b/\G b) w ts vs->Tup.all F w us vs
 | [],[],[],_,_=>trivial
 | _::_,_::_,_::_,h,hv=>⟨h.1 _ _ _ hv.1,GeTL.all h.2 hv.2⟩
 | [],[],_::_,_,hv=>hv.elim
 | _::_,_::_,[],_,hv=>hv.elim
 | [],_::_,_,h,_=>h.elim
 | _::_,[],_,h,_=>h.elim
theorem qs2 {G:Dom} {ts us:List Ty} (h:GeTL G ts us):Le (tG G (tT ts)) (tT us):=fun _ _ _ ⟨vs,h1,h2⟩=>⟨vs,h1,h.all h2⟩
instance {G:Dom} {t:Ty} {n:Nat} {agg:Bool} [h:Shape t n agg]:Shape (tG G t) n agg:=⟨fun hp=>h.flat (F:=fun b=>_/\G b) hp⟩
theorem qh7 {G:Dom} {α:Type} {es:Nat} {agg:Bool} {f:α->Ty}:Le (tL es agg f []) (tG G (tL es agg f [])):=fun _ _ _ ⟨A,c,h1,h2,h3,_⟩=>⟨A,c,h1,h2,h3,.inl rfl⟩
def Free (t:Ty):Prop:= ∀F F' w w' v,t.p F w v->t.p F' w' v
def Frees:List Ty->Prop
 | []=>True
 | t::r=>Free t/\Frees r
theorem Free.E {u:Value}:Free (tE u):=fun _ _ _ _ _ h=>h
def CtN (P:Program) (f:FuncId) (ts:List Ty) (rr:Nat->Ty):Prop:=
 ∀(F:Dom) (w:World) (vs:List Value),Tup.all F w ts vs->Calls P f vs.toArray w fun e w'=> ∃v,e= .returned v/\Ext w w'/\(rr w.heap.size).p (fun b=>w.heap.size<=b∨F b) w' v
abbrev up (n:Nat):Dom:=fun b=>n<=b
theorem CtN.toCt {P:Program} {f:FuncId} {ts:List Ty} {rr:Nat->Ty} {r:Ty} (h:CtN P f ts rr) (hr: ∀n,Le (rr n) r):Ct P f ts r:=fun F w vs hv=>(h F w vs hv).mono fun _ _ ⟨v,h1,h2,h3⟩=>⟨v,h1,h2,hr _ _ _ _ h3⟩
section
variable {P:Program}
theorem CtN.intro' {f:FuncId} {fn:Func} {x:Code} {N:Nat} {ts:List Ty} (tt:Nat->List Ty) {rr:Nat->Ty} (hf:P.funcs[f]? =some fn) (hb:fn.body=some x) (hN:fn.ntmps=N) (hlb:Nat.ble ts.length N=true)
  (hl2: ∀n,(tt n).length=ts.length) (htt: ∀F w vs,Tup.all F w ts vs->Tup.all F w (tt w.heap.size) vs)
  (H: ∀w F,wc P (Base.plain N w F) x (Post P w F fn (rr w.heap.size)) (args 0 (tt w.heap.size)) (fun _=>none) (fun _=>false)):CtN P f ts rr:=by
 intro F w vs hvs0;have hvs:=htt F w vs hvs0;have hl:(tt w.heap.size).length<=N:=by rw [hl2];exact zdq hlb
 generalize htq:tt w.heap.size=tq at*
 have hlen:vs.length=tq.length:=by
  clear H hlb hl hl2 htt hvs0 htq
  induction tq generalizing vs with
  | nil=>cases vs with
   | nil=>rfl
   | cons=>exact hvs.elim
  | cons t r ih=>cases vs with
   | nil=>exact hvs.elim
   | cons v s=>simp [ih s hvs.2]
 have H':=H w F;rw [htq] at H';refine xj7 hf hb (H' _ w ⟨⟨fun _=>0,fun _=>0,fun _=>False⟩,?_⟩);refine ⟨?_,rfl,fun s e hs=> ?_,fun k x hx=>(by cases hx),fun k k' x x' hx=>(by cases hx),⟨rfl,rfl,rfl,zbs _,fun _ _ _ _=>rfl,fun _ hb=>hb,fun _ hb=>hb.elim⟩,fun x hx=>(by cases hx),fun x hx=>(by cases hx),fun b hb=>hb.elim,fun k hk=>(by cases hk),fun k x hk=>(by cases hk),fun b hb=>hb.elim⟩
 ·simp [hlen,hN,Base.plain];omega
 ·obtain ⟨j,t,h1,h2,h3⟩:=yr9 tq 0 s e hs;subst h3;have hj:j < tq.length:=(zbn.1 h2).1;obtain ⟨v,hv,hp⟩:=Tup.get tq vs j t hvs h2;refine ⟨by show s < N;omega,fun k hk=>(by cases hk),?_⟩;have e1:(vs.toArray++Array.replicate (fn.ntmps - vs.toArray.size) undef).getD s undef=v:=by
   rw [zbk,zfv,if_pos (by simp;omega)];rw [h1,zcm,zfe,hv];rfl
  show t.p _ w _;simp only [e1];exact t.mono hp fun b o hb hl _=>⟨⟨.inr ⟨hb,fun hv=>hv⟩,fun ⟨k,x,hk,_⟩=>(by cases hk),fun hv=>hv,fun hv=>hv⟩,hl⟩
theorem CtN.intro {f:FuncId} {fn:Func} {x:Code} {N:Nat} {ts:List Ty} {rr:Nat->Ty} (hf:P.funcs[f]? =some fn) (hb:fn.body=some x) (hN:fn.ntmps=N) (hlb:Nat.ble ts.length N=true)
  (H: ∀w F,wc P (Base.plain N w F) x (Post P w F fn (rr w.heap.size)) (args 0 ts) (fun _=>none) (fun _=>false)):CtN P f ts rr:=CtN.intro' (fun _=>ts) hf hb hN hlb (fun _=>rfl) (fun _ _ _ h=>h) H
theorem qh8 {F:Dom} {w:World}: ∀{ts:List Ty} {vs:List Value},Tup.all F w ts vs->Tup.all F w (ts.map (tG fun b=>b < w.heap.size)) vs
 | [],[],_=>trivial
 | t::_,_::_,h=>⟨t.mono h.1 fun _ _ hb hl _=>⟨⟨hb,xa7 hl⟩,hl⟩,qh8 h.2⟩
 | [],_::_,h=>h.elim
 | _::_,[],h=>h.elim
theorem Ct.introO {f:FuncId} {fn:Func} {x:Code} {N:Nat} {ts:List Ty} {r:Ty} (hf:P.funcs[f]? =some fn) (hb:fn.body=some x) (hN:fn.ntmps=N) (hlb:Nat.ble ts.length N=true)
  (H: ∀w F,wc P (Base.plain N w F) x (Post P w F fn r) (args 0 (ts.map (tG fun b=>b < w.heap.size))) (fun _=>none) (fun _=>false)):Ct P f ts r:=
 CtN.toCt (rr:=fun _=>r) (CtN.intro' (fun n=>ts.map (tG fun b=>b < n)) hf hb hN hlb (fun _=>zcq ..) (fun _ _ _ h=>qh8 h) H) fun _=>zao
variable {c:Base} {d ty:Nat} {pos:String} {af:Array Edge} {gd:Option (Nat×Bool)}
theorem xn9 {g:Slots} {h:Keys} {al:Nat->Bool} {a:Act} {w:World} {η:Env} (s:St' c g h al a w η) {b:Nat} (hb:w.heap.size<=b):c.dom h η b:=by
 refine ⟨.inl (zcj s.fr.size hb),fun ho=> ?_,fun hv=> ?_,fun hv=> ?_⟩
 ·have:=s.olt ho;omega
 ·have:=(s.fr.vnew b hv).1;omega
 ·have:=s.vol b hv;omega
theorem xp9 {f:FuncId} {xs:List Operand} {aT:Array TypeId} {ts us:List Ty} {r r':Ty} (G:Dom) (hc:Ct P f us r) (hf:FnI P f) (hG: ∀b,c.w0.heap.size<=b->G b) (hle:LeGL G ts us) (hr:Le (tG G r) r') (hl:xs.length=ts.length):
  Does P c ⟨some d,.call {callee:= .value (.func f),args:=xs.toArray,argTypes:=aT},ty,pos,af,gd⟩ ⟨xs.zip (ts.map Ent.val),[],some (d,some (.val r')),[],[]⟩:=by
 intro g h al a w hp ⟨η,s⟩;obtain ⟨fn,h1,h2,h3⟩:=hf;have hargs:=hle.all (Tup.all_of s xs ts hp.rd hl);have hrun:(execOp a.eval ⟨some d,.call {callee:= .value (.func f),args:=xs.toArray,argTypes:=aT},ty,pos,af,gd⟩).run P w= .ok (.enter f (xs.map a.eval).toArray) w:=by
  simp only [execOp,resolve,Act.eval,Deferred.ofValue,zbv,zbw,zbm,invoke];simp only [zdx,zdt,zcu];exact xh4 h1 h2 h3 _ w
 refine xm3 hrun (zec (hc _ w (xs.map a.eval) hargs) ?_);rintro e w' ⟨v,rfl,hext,hv⟩;refine ⟨v,rfl,η,(s.ext hext).put (hp.d _ rfl) (e:= .val r') (hr _ _ _ (r.mono hv fun b o hb hl _=>⟨?_,hl⟩)) (fun k hk=>by cases hk)⟩;rcases hb with hb | hb
 ·exact ⟨xn9 s hb,hG b (zcj s.fr.size hb)⟩
 ·exact hb
theorem xj1 {f:FuncId} {xs:List Operand} {aT:Array TypeId} {ts us:List Ty} {rr:Nat->Ty} {r:Ty} (hc:CtN P f us rr) (hf:FnI P f) (hr: ∀m,c.w0.heap.size<=m->Le (rr m) r) (hle:LeL ts us) (hl:xs.length=ts.length):
  Does P c ⟨some d,.call {callee:= .value (.func f),args:=xs.toArray,argTypes:=aT},ty,pos,af,gd⟩ ⟨xs.zip (ts.map Ent.val),[],some (d,some (.val r)),[],[]⟩:=by
 intro g h al a w hp ⟨η,s⟩;obtain ⟨fn,h1,h2,h3⟩:=hf;have hargs:=hle.all (Tup.all_of s xs ts hp.rd hl);have hrun:(execOp a.eval ⟨some d,.call {callee:= .value (.func f),args:=xs.toArray,argTypes:=aT},ty,pos,af,gd⟩).run P w= .ok (.enter f (xs.map a.eval).toArray) w:=by
  simp only [execOp,resolve,Act.eval,Deferred.ofValue,zbv,zbw,zbm,invoke];simp only [zdx,zdt,zcu];exact xh4 h1 h2 h3 _ w
 refine xm3 hrun (zec (hc _ w (xs.map a.eval) hargs) ?_);rintro e w' ⟨v,rfl,hext,hv⟩;refine ⟨v,rfl,η,(s.ext hext).put (hp.d _ rfl) (e:= .val r) (hr _ s.fr.size _ _ _ ((rr _).mono hv fun b o hb hl _=>⟨?_,hl⟩)) (fun k hk=>by cases hk)⟩;rcases hb with hb | hb
 ·exact xn9 s hb
 ·exact hb
end
section
variable {P:Program} {c:Base} {d ty:Nat} {pos:String} {af:Array Edge} {gd:Option (Nat×Bool)}
theorem jm4 {x:Operand} {k T es off len:Nat} {agg:Bool} {ts:List Ent} {α:Type} {f:α->Ty} {xs:List α} (G:Dom) (hG: ∀b,c.w0.heap.size<=b->G b) (hfr: ∀x,Free (f x)) (hlb:NoLb c) (hts:(ts.drop off).take len=xs.map fun x=> .val (f x)) (hl:xs.length=len):
  Does P c ⟨some d,.move x,ty,pos,af,gd⟩ ⟨[(x,.own (.sl k es off len))],[(k,⟨T,es,agg,ts⟩)],some (d,some (.val (tG G (tL es agg f xs)))),[(k,none)],[]⟩:=
 Does.give rfl fun g h al a w η hr hk s=>⟨a.eval x,by simp [execOp,go_sem],by
  have hv:=(xa0 s hr.1).1;have hp:=s.give hk hlb hts hl hv;obtain ⟨A,cc,h1,h2,h3,h4⟩:=hp;refine ⟨A,cc,h1,h2,h3,?_⟩;cases xs with
  | nil=>exact .inl rfl
  | cons x0 xr=>
   rcases h4 with h4 | ⟨b,o,e,hb,hx⟩
   ·cases h4
   ·obtain ⟨A',e1,e2,e3⟩:=hv;have hlen:0 < len:=by rw [<-hl];simp
    have hc:0 < η.c k:=by omega
    have hb0:=((s.key k _ hk).2.2.2 hc).1.resolve_right (hlb _);have e4:=e3 (by omega);rw [h1] at e1;have e1:A=A':=by injection e1
    rw [<-e1,e] at e4;have eb:b=η.b k:=by injection e4 with e4;injection e4
    refine .inr ⟨b,o,e,⟨hb,hG b (by rw [eb];exact hb0)⟩,fun i y hi=> ?_⟩;obtain ⟨u,hm,hu⟩:=hx i y hi;exact ⟨u,hm,hfr y _ _ _ _ _ hu⟩⟩
end
section
variable {P:Program} {c:Base} {g:Slots} {h:Keys} {al:Names} {d ty:Nat} {pos:String} {af:Array Edge} {gd:Option (Nat×Bool)}
end
structure OvJ where
  D:Dom
  J:Nat->World->Prop
  loc: ∀n w w',J n w->w.heap.size<=w'.heap.size->(∀b,D b->b < w.heap.size->w'.heap[b]? =w.heap[b]?)->J n w'
def OvJ.JO (X:OvJ) (n:Nat) (O V:Dom) (w:World):Prop:=X.J n w/\ ∀b,X.D b->V b/\ ¬O b/\b < w.heap.size
theorem OvJ.Jc (X:OvJ):JcOf X.JO:=by
 rintro n O O' V w w' ⟨h1,h2⟩ hs hO;refine ⟨X.loc n w w' h1 hs.size fun b hb hlt=>hs.block b hlt (h2 b hb).2.1,fun b hb=>⟨(h2 b hb).1,fun h'=> ?_,zca (h2 b hb).2.2 hs.size⟩⟩;rcases (hO b h').2 with h3 | h3
 ·exact (h2 b hb).2.1 h3
 ·have:=(h2 b hb).2.2;omega
def envK (η:Env) (K:Nat):Env:=⟨η.b,fun k=>if k=K then 0 else η.c k,fun _=>False⟩
def Base.over (N:Nat) (w:World) (F:Dom) (η:Env) (l0:List Nat) (H:List (Nat×HEnt)) (K:Nat) (X:OvJ):Base:=⟨N,w,F,K::l0,envK η K,OwnK η H,none,[],[],fun _=>False,some K,X.D,X.JO,X.Jc⟩
def CtV (P:Program) (X:OvJ) (f:FuncId) (H:List (Nat×HEnt)) (ps:List Ent) (n m:Nat):Prop:=
 ∀(w:World) (η:Env) (vs:List Value),SatL (fun _=>False) w η ps vs->AllK (fun _=>False) w η H->InjK η H->(∀b,X.D b->b < w.heap.size/\ ¬OwnK η H b)->X.J n w->
  Calls P f vs.toArray w fun e w'=>e= .returned (.tuple #[])/\Stp (fun b=>OwnK η H b∨X.D b) w w'/\X.J m w'
def PostV (P:Program) (X:OvJ) (w:World) (η:Env) (fn:Func) (H:List (Nat×HEnt)) (m:Nat):Exit->Act->World->Prop:=PostR P fn fun v w'=>v= .tuple #[]/\Stp (fun b=>OwnK η H b∨X.D b) w w'/\X.J m w'
structure OvC (c:Base) (w:World) (η:Env) (H:List (Nat×HEnt)) (K:Nat) (X:OvJ):Prop where
  w0:c.w0=w
  lb:c.lb=OwnK η H
  yk:c.yk=some K
  V0:c.V0=X.D
  J:c.J=X.JO
  df:dfB c.df c.pn
  ln:K∈c.ln
  c0:c.lη.c K=0
theorem OvC.mk' {N:Nat} {w:World} {F:Dom} {η:Env} {l0:List Nat} {H:List (Nat×HEnt)} {K:Nat} {X:OvJ}:OvC (Base.over N w F η l0 H K X) w η H K X:=⟨rfl,rfl,rfl,rfl,rfl,trivial,by simp [Base.over],by simp [Base.over,envK]⟩
section
variable {P:Program} {X:OvJ}
theorem CtV.intro {f:FuncId} {fn:Func} {x:Code} {N n m:Nat} {H:List (Nat×HEnt)} {ps:List Ent} (K:Nat) (l0:List Nat) (hf:P.funcs[f]? =some fn) (hb:fn.body=some x) (hN:fn.ntmps=N) (hlb:Nat.ble ps.length N=true) (hl0:subN (suppE ps) l0=true) (hlH:SupHs H l0) (hK:memN K l0=false)
  (hw: ∀w η,OvC (Base.over N w (fun _=>False) η l0 H K X) w η H K X->wc P (Base.over N w (fun _=>False) η l0 H K X) x (PostV P X w η fn H m) (argsE 0 ps) (keysOf ((K,⟨n,1,false,[]⟩)::H)) (nm (K::l0))):CtV P X f H ps n m:=by
 intro w η vs hvs hAK hinj hD hJ;have hl:ps.length<=N:=zdq hlb;have hlen:=hvs.len;have hKl: ∀k∈l0,k≠K:=fun k hk e=>by subst e;rw [xb6.2 hk] at hK;cases hK
 have hmem: ∀k∈suppE ps++suppH H,k∈l0:=fun k hk=>by
  rcases zbo.1 hk with hk | hk
  ·exact xk1 hl0 k hk
  ·exact hlH.spec k hk
 have hKH: ∀x∈H,x.1≠K:=fun x hx=>hKl _ (hmem _ (zbo.2 (.inr (zbz.2 ⟨x,hx,by simp⟩))));have hc: ∀k,k≠K->(envK η K).c k=η.c k:=fun k hk=>by simp [envK,hk]
 have hcK:(envK η K).c K=0:=by simp [envK]
 have hal: ∀k∈l0,nm (K::l0) k=true:=fun k hk=>xb6.2 (by simp [hk]);refine zec (xj7 (R:=fun v w'=>v= .tuple #[]/\Stp (fun b=>OwnK η H b∨X.D b) w w'/\X.J m w') hf hb (hw w η OvC.mk' _ w ⟨⟨η.b,(envK η K).c,X.D⟩,?_⟩)) (fun e w' ⟨v,he,hv,hr⟩=>⟨by rw [he,hv],hr⟩);have hKp: ∀F',Keep (fun _=>False) F' w w:=fun F' b o hb=>hb.elim;have hown: ∀b,Own (keysOf ((K,⟨n,1,false,[]⟩)::H)) ⟨η.b,(envK η K).c,X.D⟩ b->OwnK η H b:=by
  rintro b ⟨k,x,hk,hck,rfl⟩;rcases zbr.1 (xg4 hk) with e | hm
  ·cases e;simp only [hcK] at hck;omega
  ·have hne:=hKH _ hm;simp only at hne hck;exact ⟨(k,x),hm,by rw [<-hc k hne];exact hck,rfl⟩
 refine ⟨?_,rfl,fun s e hs=> ?_,fun k x hx=> ?_,fun k k' x x' hx hx' hne hck hck'=> ?_,⟨rfl,rfl,rfl,zbs _,fun _ _ _ _=>rfl,fun _ hb=>hb,fun b hb=>⟨(hD b hb).1,rfl,.inl hb⟩⟩,fun k hk=>⟨xb6.2 hk,rfl,rfl⟩,fun x hx=>(by cases hx),fun b hb=>hb.elim,fun k hk=>(by cases hk;exact xb6.2 (by simp)),fun k x hk hx=> ?_,fun b hb=> ?_⟩
 ·simp [hlen,hN,Base.over];omega
 ·obtain ⟨j,h1,h2⟩:=xu6 ps 0 s e hs;have hj:j < ps.length:=(zbn.1 h2).1;obtain ⟨v,hv,hp⟩:=SatL.get ps vs j e hvs h2;have hsup: ∀k∈e.supp,k∈l0:=fun k hk=>hmem k (zbo.2 (.inl (zbz.2 ⟨e,zef h2,hk⟩)));refine ⟨by show s < N;omega,fun k hk=>hal k (hsup k hk),?_⟩;have e1:(vs.toArray++Array.replicate (fn.ntmps - vs.toArray.size) undef).getD s undef=v:=by
   rw [zbk,zfv,if_pos (by simp;omega)];rw [h1,zcm,zfe,hv];rfl
  simp only [e1];exact Ent.sat_go hp (hKp _) fun k hk=>⟨rfl,hc k (hKl k (hsup k hk))⟩
 ·rcases zbr.1 (xg4 hx) with e | hm
  ·cases e;exact ⟨xb6.2 (by simp),fun j hj=>(by cases hj),⟨by simp,by simp,fun _=>rfl,by simp only [hcK];omega,fun hck=>by simp only [hcK] at hck;omega⟩,fun hck=>by simp only [hcK] at hck;omega⟩
  ·have hsup: ∀j∈x.supp,j∈l0:=fun j hj=>hmem j (zbo.2 (.inr (zbz.2 ⟨_,hm,by simp [hj]⟩)));have hk0:k∈l0:=hmem k (zbo.2 (.inr (zbz.2 ⟨_,hm,by simp⟩)));exact ⟨hal k hk0,fun j hj=>hal j (hsup j hj),HEnt.sat_go (hAK _ hm) (fun _=>rfl) (hKp _) ⟨rfl,hc k (hKl k hk0)⟩ fun j hj=>⟨rfl,hc j (hKl j (hsup j hj))⟩,
    fun hck=>⟨.inr ⟨_,hm,by rw [<-hc k (hKl k hk0)];exact hck,rfl⟩,fun hv=>(hD _ hv).2 ⟨_,hm,by rw [<-hc k (hKl k hk0)];exact hck,rfl⟩,fun hv=>hv⟩⟩
 ·rcases zbr.1 (xg4 hx) with e | hm
  ·cases e;simp only [hcK] at hck;omega
  ·rcases zbr.1 (xg4 hx') with e | hm'
   ·cases e;simp only [hcK] at hck';omega
   ·have h1:=hKH _ hm;have h2:=hKH _ hm';simp only at h1 h2 hck hck';exact hinj _ hm _ hm' hne (by rw [<-hc k h1];exact hck) (by rw [<-hc k' h2];exact hck')
 ·have hk:some K=some k:=hk;cases hk;have hxn:x=⟨n,1,false,[]⟩:=by
   rcases zbr.1 (xg4 hx) with e | hm
   ·cases e;rfl
   ·exact absurd rfl (hKH _ hm)
  subst hxn;refine ⟨hJ,fun b hb=>⟨hb,?_,(hD b hb).1⟩⟩;rintro (hb' | hb' | ⟨y,hy,_⟩)
  ·exact (hD b hb).2 (hown b hb')
  ·exact hb'
  ·cases hy
 ·obtain ⟨x,hx,hcx,rfl⟩:=hb;exact HEnt.lt (hAK x hx) hcx
variable {c:Base} {g:Slots} {h:Keys} {al:Names} {d ty:Nat} {pos:String} {af:Array Edge} {gd:Option (Nat×Bool)}
theorem yo9 {fn:Func} {w0:World} {η0:Env} {H:List (Nat×HEnt)} {K m:Nat} {e:Exit} (hp:OvC c w0 η0 H K X) (hr:fn.results= #[]) (he:e= .ret∨e= .normal) (hK:h K=some ⟨m,1,false,[]⟩):wk c e (PostV P X w0 η0 fn H m) g h al:=
 yg7 he hp.df fun df pn a w η s=>by
  refine ⟨_,results_none hr a.tmps P w,rfl,?_,?_⟩
  ·have e0:(c.with df pn).w0=w0:=hp.w0;refine ⟨e0▸s.fr.os,e0▸s.fr.tape,e0▸s.fr.output,e0▸s.fr.size,fun b hb hn=> ?_⟩;have:=s.fr.block b (by rw [e0];exact hb) (fun hl=>hn (.inl (by have hl:c.lb b:=hl;rwa [hp.lb] at hl))) (fun hv=>by
    rcases (s.fr.vnew b hv).2.2 with h3 | h3
    ·have h3:c.V0 b:=h3;rw [hp.V0] at h3;exact hn (.inr h3)
    ·rw [e0] at h3;omega)
   rwa [e0] at this
  ·have hj:=s.jj K _ hp.yk hK;have hj:c.J m _ _ w:=hj;rw [hp.J] at hj;exact hj.1
theorem Frees.all {F:Dom} {w:World} {η:Env}: ∀{us:List Ty} {vs:List Value},Frees us->Tup.all F w us vs->SatL (fun _=>False) w η (us.map Ent.val) vs
 | [],[],_,_=>trivial
 | _::_,_::_,h,hv=>⟨h.1 _ _ _ _ _ hv.1,Frees.all h.2 hv.2⟩
 | [],_::_,_,hv=>hv.elim
 | _::_,[],_,hv=>hv.elim
theorem xq5 {f:FuncId} {xs:List Operand} {aT:Array TypeId} {us:List Ty} {w0:World} {η0:Env} {H:List (Nat×HEnt)} {K n m:Nat} (hp:OvC c w0 η0 H K X) (hc:CtV P X f [] (us.map Ent.val) n m) (hf:FnI P f) (hfr:Frees us) (hl:xs.length=us.length):
  Does P c ⟨some d,.call {callee:= .value (.func f),args:=xs.toArray,argTypes:=aT},ty,pos,af,gd⟩ ⟨xs.zip (us.map Ent.val),[(K,⟨n,1,false,[]⟩)],some (d,some (.val (tE (.tuple #[])))),[(K,some ⟨m,1,false,[]⟩)],[]⟩:=by
 intro g h al a w hpre ⟨η,s⟩;obtain ⟨fn,h1,h2,h3⟩:=hf;have hargs:=hfr.all (η:=⟨fun _=>0,fun _=>0,fun _=>False⟩) (Tup.all_of s xs us hpre.rd hl);have hrun:(execOp a.eval ⟨some d,.call {callee:= .value (.func f),args:=xs.toArray,argTypes:=aT},ty,pos,af,gd⟩).run P w= .ok (.enter f (xs.map a.eval).toArray) w:=by
  simp only [execOp,resolve,Act.eval,Deferred.ofValue,zbv,zbw,zbm,invoke];simp only [zdx,zdt,zcu];exact xh4 h1 h2 h3 _ w
 have hKk:=hpre.kr.1;have hj:=s.jj K _ hp.yk hKk;have hj:c.J n _ _ w:=hj;rw [hp.J] at hj;have hno: ∀b,¬OwnK (⟨fun _=>0,fun _=>0,fun _=>False⟩:Env) [] b:=fun b ⟨x,hx,_⟩=>by cases hx
 refine xm3 hrun (zec (hc w _ (xs.map a.eval) hargs (fun x hx=>by cases hx) (fun x hx=>by cases hx) (fun b hb=>⟨(hj.2 b hb).2.2,hno b⟩) hj.1) ?_);rintro e w' ⟨rfl,hst,hJ⟩;refine ⟨_,rfl,?_⟩;have hst':Stp η.vo w w':=hst.mono fun b _ hb=>by
  rcases hb with hb | hb
  ·exact absurd hb (hno b)
  ·exact (hj.2 b hb).1
 have hk:Kept η.vo η.vo w w':=⟨hst',fun _ hb=>hb,fun b hb=>⟨zca (s.fr.vnew b hb).1 hst.size,.inl hb⟩⟩
 have s2:=s.fed hp.yk hp.ln hp.c0 hKk hk (m:=m) (by rw [hp.J];exact ⟨hJ,fun b hb=>⟨(hj.2 b hb).1,(hj.2 b hb).2.1,zca (hj.2 b hb).2.2 hst.size⟩⟩);exact ⟨_,s2.put (hpre.d _ rfl) (e:= .val (tE (.tuple #[]))) rfl fun k hk=>by cases hk⟩
structure RBase (c:Base) (w0:World):Prop where
  ext:Ext w0 c.w0
  lb: ∀b,c.lb b->w0.heap.size<=b
  V0: ∀b,c.V0 b->w0.heap.size<=b
theorem RBase.now {w0 w:World} {a:Act} {η:Env} (hr:RBase c w0) (s:St' c g h al a w η):Ext w0 w:=by
 have hv: ∀b,b < w0.heap.size-> ¬η.vo b:=fun b hb hv=>by
  rcases (s.fr.vnew b hv).2.2 with h1 | h1
  ·have:=hr.V0 b h1;omega
  ·have:=hr.ext.size;omega
 refine ⟨s.fr.os.trans hr.ext.os,s.fr.tape.trans hr.ext.tape,s.fr.output.trans hr.ext.output,zcj hr.ext.size s.fr.size,fun b hb=>(s.fr.block b (zca hb hr.ext.size) (fun hl=> ?_) (hv b hb)).trans (hr.ext.block b hb)⟩;have:=hr.lb b hl;omega
theorem zv5 {fn:Func} {u:Value} {t:Nat} {w0:World} {F:Dom} (hp:RBase c w0) (hdf:dfB c.df c.pn) (hr:fn.results= #[.tmp t]) (hx:g t=some (.val (tE u))):wk c .ret (Post P w0 F fn (tE u)) g h al:=
 yg7 (.inl rfl) hdf fun df pn a w η s=>by
  have hp':RBase (c.with df pn) w0:=⟨hp.ext,hp.lb,hp.V0⟩
  exact ⟨_,results_tmp hr a.tmps P w,hp'.now s,xr2 s hx⟩
theorem C_at {x:Code} {Q:Exit->Act->World->Prop} (H: ∀a w,St c g h al a w-> ∃(c':Base) (g':Slots) (h':Keys) (al':Names),c'.ro=c.ro/\St c' g' h' al' a w/\wc P c' x Q g' h' al'):wc P c x Q g h al:=fun a w hs=>by
 obtain ⟨c',g',h',al',h1,h2,h3⟩:=H a w hs;rw [<-h1];exact h3 a w h2
def kval (w:World) (η:Env) (k:Nat) (x:HEnt) (i:Nat):Value:=match w.heap[η.b k]? with
 | some (.cells cs _ _)=>pick x.agg x.es cs (i*x.es)
 | _=>undef
def Cnv (G:Dom) (v:Value) (e e':Ent):Prop:=(e'=e/\ ∃k off,e= .own (.ptr k off))∨(∃t t',e= .val t/\e'= .val t'/\Le t (tG G t'))∨((∃t,e= .val t)/\e'= .val (tE v))
theorem Cnv.val {G:Dom} {v:Value} {t t':Ty} (h:Le t (tG G t')):Cnv G v (.val t) (.val t'):= .inr (.inl ⟨t,t',rfl,rfl,h⟩)
theorem Cnv.cst {G:Dom} {v:Value} {t:Ty}:Cnv G v (.val t) (.val (tE v)):= .inr (.inr ⟨⟨t,rfl⟩,rfl⟩)
def SlC (G:Dom) (a:Act) (g g':Slots):Prop:= ∀s e',g' s=some e'-> ∃e,g s=some e/\Cnv G (a.tmps.getD s undef) e e'
theorem SlC.nil {G:Dom} {a:Act}:SlC G a g (fun _=>none):=fun _ _ h=>by cases h
theorem SlC.cons {G:Dom} {a:Act} {g':Slots} {s:Nat} {e e':Ent} (hs:g s=some e) (hl:Cnv G (a.tmps.getD s undef) e e') (hr:SlC G a g g'):SlC G a g (upd g' s (some e')):=fun s' e1 he=>by
 by_cases hss:s'=s
 ·subst hss;rw [xa9] at he;cases he;exact ⟨e,hs,hl⟩
 ·rw [xa4 _ _ _ hss] at he;exact hr s' e1 he
def KyC (G:Dom) (w:World) (η:Env) (h h':Keys):Prop:= ∀k x',h' k=some x'-> ∃T es agg e e',h k=some ⟨T,es,agg,[e]⟩/\x'=⟨T,es,agg,[e']⟩/\Cnv G (kval w η k ⟨T,es,agg,[e]⟩ 0) e e'/\ ∀j∈e'.supp,j∈e.supp
theorem KyC.nil {G:Dom} {w:World} {η:Env}:KyC G w η h (fun _=>none):=fun _ _ h=>by cases h
theorem St'.slotv {a:Act} {w:World} {η:Env} (s:St' c g h al a w η) {t:Nat} {u:Ty} (hx:g t=some (.val u)):u.p (fun b=>b < w.heap.size/\ ¬Own h η b) w (a.tmps.getD t undef):=
 u.mono (xr2 s hx) fun _ _ hb hl _=>⟨⟨xa7 hl,hb.2.1⟩,hl⟩
theorem St'.over {N:Nat} {a:Act} {w w0:World} {F:Dom} {η:Env} {g':Slots} {h':Keys} (K:Nat) (X:OvJ) (s:St' (Base.plain N w0 F) g h al a w η) (hX: ∀b,X.D b->w0.heap.size<=b/\b < w.heap.size/\ ¬Own h η b) (hJ:X.J 0 w) (hK:al K=false) (hg:SlC (fun b=> ¬X.D b) a g g') (hh:KyC (fun b=> ¬X.D b) w η h h'):
  St (Base.over N w0 F ⟨fun _=>0,fun _=>0,fun _=>False⟩ [] [] K X) g' (upd h' K (some ⟨0,1,false,[]⟩)) (fun j=>al j || Nat.beq j K) a w:=by
 have hKm:(al K || Nat.beq K K)=true:=by simp
 have hal: ∀k,al k=true->(al k || Nat.beq k K)=true:=fun k hk=>by rw [hk];rfl
 have hne: ∀k,al k=true->k≠K:=fun k hk e=>by subst e;rw [hk] at hK;cases hK
 obtain ⟨η',hη⟩: ∃η':Env,η'=⟨fun k=>if k=K then 0 else η.b k,fun k=>if k=K then 0 else η.c k,X.D⟩:=⟨_,rfl⟩
 have eb: ∀k,k≠K->η'.b k=η.b k:=fun k hk=>by rw [hη];simp [hk]
 have ebK:η'.b K=0:=by rw [hη];simp
 have ec: ∀k,k≠K->η'.c k=η.c k:=fun k hk=>by rw [hη];simp [hk]
 have ecK:η'.c K=0:=by rw [hη];simp
 have evo:η'.vo=X.D:=by rw [hη]
 have hh0: ∀k x',k≠K->upd h' K (some ⟨0,1,false,[]⟩) k=some x'-> ∃x,h k=some x/\x'.T=x.T:=fun k x' hk hx=>by
  rw [xa4 _ _ _ hk] at hx;obtain ⟨T,es,agg,e,e',h1,rfl,_⟩:=hh k x' hx;exact ⟨_,h1,rfl⟩
 have hown: ∀b,Own (upd h' K (some ⟨0,1,false,[]⟩)) η' b->Own h η b:=by
  rintro b ⟨k,x',hx,hc,rfl⟩;by_cases hk:k=K
  ·subst hk;omega
  ·obtain ⟨x,h1,_⟩:=hh0 k x' hk hx;exact ⟨k,x,h1,by rw [<-ec k hk];exact hc,eb k hk⟩
 have hKp:Keep (fun b=>(Base.plain N w0 F).dom h η b/\ ¬X.D b) ((Base.over N w0 F ⟨fun _=>0,fun _=>0,fun _=>False⟩ [] [] K X).dom (upd h' K (some ⟨0,1,false,[]⟩)) η') w w:=fun b o hb hl _=>
  ⟨⟨hb.1.1.imp id fun hf=>⟨hf.1,fun ⟨x,hx,_⟩=>(by cases hx)⟩,fun ho=>hb.1.2.1 (hown b ho),fun hv=>hb.2 (by rw [evo] at hv;exact hv),fun hv=>hv⟩,hl⟩
 have cnv: ∀(v v':Value) (e e':Ent),e.sat ((Base.plain N w0 F).dom h η) w η v->v'=v->(∀k∈e.supp,al k=true)->Cnv (fun b=> ¬X.D b) v' e e'->(∀k∈e'.supp,al k=true)/\e'.sat ((Base.over N w0 F ⟨fun _=>0,fun _=>0,fun _=>False⟩ [] [] K X).dom (upd h' K (some ⟨0,1,false,[]⟩)) η') w η' v:=by
  intro v v' e e' hs hv hsup hc;subst hv;rcases hc with ⟨rfl,k,off,rfl⟩ | ⟨t,t',rfl,rfl,hl⟩ | ⟨_,rfl⟩
  ·refine ⟨hsup,?_⟩;have hs:v'= .pointer (some ⟨η.b k,off,none⟩):=hs;show v'= .pointer (some ⟨η'.b k,off,none⟩);rw [eb k (hne k (hsup k (by simp [Ent.supp,VP.supp])))];exact hs
  ·exact ⟨fun _ hk=>(by cases hk),t'.mono (hl _ _ _ hs) hKp⟩
  ·exact ⟨fun _ hk=>(by cases hk),rfl⟩
 refine ⟨η',s.tn,s.df,fun t e' he=> ?_,fun k x' hx=> ?_,fun k k' x x' hx hx' hkk hck hck'=> ?_,⟨s.fr.os,s.fr.tape,s.fr.output,s.fr.size,fun b hb _ _=> ?_,fun b hb=>(by rw [evo];exact hb),fun b hb=> ?_⟩,fun k hk=> ?_,fun x hx=>(by cases hx),fun b hb=>hb.elim,fun k hk=>(by cases hk;exact hKm),fun k x hk hx=> ?_,fun b ⟨x,hx,_⟩=>(by cases hx)⟩
 ·obtain ⟨e,h1,h2⟩:=hg t e' he;obtain ⟨n1,n2,n3⟩:=s.slot t e h1;obtain ⟨m1,m2⟩:=cnv _ _ e e' n3 rfl n2 h2;exact ⟨n1,fun k hk=>hal k (m1 k hk),m2⟩
 ·by_cases hk:k=K
  ·subst hk;rw [xa9] at hx;cases hx;exact ⟨hKm,fun j hj=>(by cases hj),⟨by simp,by simp,fun _=>rfl,by omega,fun hc=>by omega⟩,fun hc=>by omega⟩
  ·rw [xa4 _ _ _ hk] at hx;obtain ⟨T,es,agg,e,e1,h1,rfl,h2,h3⟩:=hh k x' hx;obtain ⟨q1,q2,⟨r1,r2,r3,r4,r5⟩,q4⟩:=s.key k _ h1;have hsupe: ∀j∈e.supp,al j=true:=fun j hj=>q2 j (by simpa [HEnt.supp] using hj);have r1:1<=η.c k:=r1;obtain ⟨cs,c1,c2,c3⟩:=r5 (by omega);have c4:=c3 0 e rfl;have hkv:kval w η k ⟨T,es,agg,[e]⟩ 0=pick agg es cs (0*es):=by simp only [kval,c1]
   obtain ⟨m1,m2⟩:=cnv _ _ e e1 c4 hkv hsupe h2;refine ⟨hal k q1,fun j hj=>hal j (m1 j (by simpa [HEnt.supp] using hj)),⟨by rw [ec k hk];exact r1,r2,r3,by rw [ec k hk];exact r4,fun _=>⟨cs,by rw [eb k hk];exact c1,by rw [ec k hk];exact c2,fun i e0 hi=> ?_⟩⟩,fun _=> ?_⟩
   ·cases i with
    | zero=>cases hi;exact m2
    | succ i=>simp at hi
   ·obtain ⟨p1,p2,p3⟩:=q4 (by omega);rw [eb k hk,evo];exact ⟨.inl (p1.resolve_right fun h=>h),fun hD=>(hX _ hD).2.2 ⟨k,_,h1,by omega,rfl⟩,p3⟩
 ·by_cases hk:k=K
  ·subst hk;omega
  ·by_cases hk':k'=K
   ·subst hk';omega
   ·obtain ⟨y,h1,_⟩:=hh0 k x hk hx;obtain ⟨y',h1',_⟩:=hh0 k' x' hk' hx';rw [eb k hk,eb k' hk'];exact s.inj k k' y y' h1 h1' hkk (by rw [<-ec k hk];exact hck) (by rw [<-ec k' hk'];exact hck')
 ·refine s.fr.block b hb (fun h=>h) fun hv=> ?_;have:=(s.fr.vnew b hv).2.1;cases this
 ·rw [evo] at hb;exact ⟨(hX b hb).2.1,rfl,.inl hb⟩
 ·have hk:k∈[K]:=hk;rw [zbj.1 hk];refine ⟨hKm,?_,?_⟩
  ·rw [ebK];rfl
  ·rw [ecK];simp [Base.over,envK]
 ·have hk:some K=some k:=hk;cases hk;rw [xa9] at hx;cases hx;refine ⟨hJ,fun b hb=>⟨by rw [evo];exact hb,?_,(hX b hb).2.1⟩⟩;rintro (hb' | hb' | ⟨y,hy,_⟩)
  ·exact (hX b hb).2.2 (hown b hb')
  ·exact hb'
  ·cases hy
theorem qj6 {X:OvJ} {f:FuncId} {xs:List Operand} {aT:Array TypeId} {us us':List Ty} {rr:Nat->Ty} {r:Ty} {w0:World} {η0:Env} {H:List (Nat×HEnt)} {K n:Nat} (hp:OvC c w0 η0 H K X) (hc:CtN P f us rr) (hf:FnI P f) (hr: ∀m F w v,(rr m).p F w v->r.p (fun b=>F b/\m<=b) w v)
  (ha: ∀F w vs,X.J n w->Tup.all F w us' vs->Tup.all (fun b=>F b∨X.D b) w us vs) (hl:xs.length=us'.length):
  Does P c ⟨some d,.call {callee:= .value (.func f),args:=xs.toArray,argTypes:=aT},ty,pos,af,gd⟩ ⟨xs.zip (us'.map Ent.val),[(K,⟨n,1,false,[]⟩)],some (d,some (.val r)),[],[]⟩:=by
 intro g h al a w hpre ⟨η,s⟩;obtain ⟨fn,h1,h2,h3⟩:=hf;have hj:=s.jj K _ hp.yk hpre.kr.1;have hj:c.J n _ _ w:=hj;rw [hp.J] at hj;have hargs:=ha _ _ _ hj.1 (Tup.all_of s xs us' hpre.rd hl);have hrun:(execOp a.eval ⟨some d,.call {callee:= .value (.func f),args:=xs.toArray,argTypes:=aT},ty,pos,af,gd⟩).run P w= .ok (.enter f (xs.map a.eval).toArray) w:=by
  simp only [execOp,resolve,Act.eval,Deferred.ofValue,zbv,zbw,zbm,invoke];simp only [zdx,zdt,zcu];exact xh4 h1 h2 h3 _ w
 refine xm3 hrun (zec (hc _ w (xs.map a.eval) hargs) ?_);rintro e w' ⟨v,rfl,hext,hv⟩;refine ⟨v,rfl,η,(s.ext hext).put (hpre.d _ rfl) (e:= .val r) (r.mono (hr _ _ _ _ hv) fun b o hb hl _=>⟨?_,hl⟩) (fun k hk=>by cases hk)⟩;exact xn9 s hb.2
end
def tLW {α:Type} (T es:Nat) (agg:Bool) (f:α->Ty) (xs ms:List α):Ty:=
  ⟨fun F w v=> ∃b c cs,v= .slice (some ⟨b,0,none⟩) xs.length c/\F b/\w.heap[b]? =some (.cells cs T (0,0))/\cs.size=c*es/\0 < es/\(agg=false->es=1)/\xs.length+ms.length<=c/\c<=9223372036854775807/\
      ∀i x,(xs++ms)[i]? =some x->(f x).p (fun b'=>F b'/\b'≠b) w (pick agg es cs (i*es)),
   fun ⟨b,c,cs,h1,hF,hh,h2,h3,h4,h5,h6,hx⟩ hk=>⟨b,c,cs,h1,(hk b _ hF hh rfl).1,(hk b _ hF hh rfl).2,h2,h3,h4,h5,h6,fun i x hi=>(f x).mono (hx i x hi) fun b' o hb hl hd=>⟨⟨(hk b' o hb.1 hl hd).1,hb.2⟩,(hk b' o hb.1 hl hd).2⟩⟩⟩
theorem ze3 {α:Type} {T es:Nat} {agg:Bool} {f:α->Ty} {xs ms:List α}:Le (tLW T es agg f xs ms) (tLK es agg f xs ms):=fun F w v ⟨b,c,cs,h1,hF,hh,h2,h3,h4,h5,h6,hx⟩=>by
 refine ⟨some ⟨b,0,none⟩,c,h1,some ⟨b,0,none⟩,c,by rw [zbp],by rw [zbp];exact h5,h6,.inr ⟨b,0,rfl,hF,fun i x hi=> ?_⟩⟩;have hi':i < (xs++ms).length:=(zbn.1 hi).1;have h7:(i+1)*es<=c*es:=zbt _ (by rw [zbp] at hi';omega);rw [zcn,zff] at h7;refine ⟨_,⟨cs,T,(0,0),hh,by omega,h3,h4,rfl⟩,?_⟩;rw [zcm];exact (f x).mono (hx i x hi) fun _ _ hb hl _=>⟨hb.1,hl⟩
theorem ju7 {α:Type} {T es:Nat} {agg:Bool} {f:α->Ty} {xs ms:List α}:Le (tLW T es agg f xs ms) (tL es agg f xs):=Le.trans ze3 qz5
theorem leLW {α:Type} {T es:Nat} {agg:Bool} {f g:α->Ty} {xs ms:List α} (h: ∀x,Le (f x) (g x)):Le (tLW T es agg f xs ms) (tLW T es agg g xs ms):=fun _ _ _ ⟨b,c,cs,h1,hF,hh,h2,h3,h4,h5,h6,hx⟩=>⟨b,c,cs,h1,hF,hh,h2,h3,h4,h5,h6,fun i x hi=>h x _ _ _ (hx i x hi)⟩
theorem wb3 {G:Dom} {t:Ty}:Le (tG G t) (tG G (tG G t)):=fun _ _ _ h=>t.mono h fun _ _ hb hl _=>⟨⟨hb,hb.2⟩,hl⟩
instance {α:Type} {T es:Nat} {agg:Bool} {f:α->Ty} {xs ms:List α}:Shape (tLW T es agg f xs ms) 1 false:=⟨fun ⟨_,_,_,h,_⟩=>by rw [h];exact xd3 rfl⟩
section
variable {P:Program} {c:Base} {d ty:Nat} {pos:String} {af:Array Edge} {gd:Option (Nat×Bool)}
theorem q0 {T T0 E es k n:Nat} {agg:Bool} {α:Type} {f:α->Ty} {xs ms:List α} {ts:List Ent} {x y:Operand} {v:Int} (G:Dom) (hG: ∀b,c.w0.heap.size<=b->G b) (sl:SlI P T E es agg) (hlb:NoLb c) (hf: ∀x,x∈xs++ms->Le (f x) (tG G (f x))) (hts:ts=(xs++ms).map fun x=> .val (f x)) (hn:n=xs.length+ms.length) (h0:0 < n) (hv:v=(xs.length:Int)):
  Does P c ⟨some d,.slice T x none (some y) none,ty,pos,af,gd⟩ ⟨[(x,.own (.sl k es 0 n)),(y,.val (tI v))],[(k,⟨T0,es,agg,ts⟩)],some (d,some (.val (tG G (tLW T0 es agg f xs ms)))),[(k,none)],[]⟩:=by
 subst hv hn hts;exact Does.give rfl fun g h al a w η hrd hk s=>by
  have hx:=(xa0 s hrd.1).1;obtain ⟨A,hA,hcap,hadr⟩:=hx;have hA:a.eval x= .slice A (xs.length+ms.length) (η.c k - 0):=hA;have hb:=xk7 (P:=P) (b:=true) (len:=xs.length+ms.length) (cap:=η.c k - 0) s (lo:=none) (hi:=some y) (l:=0) (u:=xs.length) (fun _=>rfl) (fun h=>by cases h) hrd.2 (zbq _) (by omega);simp only [zev] at hb;have hc:0 < η.c k:=by omega
  have hA2:=hadr hc;obtain ⟨_,_,⟨r1,r2,r3,r4,r5⟩,q4⟩:=s.key k _ hk;simp only at r1 r2 r3 r4 r5;obtain ⟨cs,c1,c2,c3⟩:=r5 hc;obtain ⟨p1,p2,p3⟩:=q4 hc;have hnew:c.w0.heap.size<=η.b k:=p1.resolve_right (hlb _);refine ⟨.slice (if η.c k - 0=0 then A else A.map (·.add (0*es))) (xs.length - 0) (η.c k - 0 - 0),?_,η.b k,η.c k,cs,?_,⟨⟨.inl hnew,?_,p2,p3⟩,hG _ hnew⟩,c1,c2,r2,r3,by omega,r4,fun i y hi=> ?_⟩
  ·simp only [execOp,hA,Instr.sliceAt,zbv,zda sl.und,zbm,Instr.slice,zev,hb,sl.el.size_run w,zbw]
  ·rw [hA2];simp [Addr.add,Nat.ne_of_gt hc]
  ·rintro ⟨j,y,hj,hcj,e⟩;by_cases hjk:j=k
   ·subst hjk;rw [xa9] at hj;cases hj
   ·rw [xa4 _ _ _ hjk] at hj;exact s.inj j k y _ hj hk hjk hcj hc e.symm
  ·have h1:=c3 i (.val (f y)) (by rw [zbu,hi];rfl);have h2:=hf y (zef hi) _ _ _ h1;refine (f y).mono h2 fun b o hb hl hd=>⟨⟨⟨(Keep.drop k b o hb.1 hl hd).1,hb.2⟩,fun e=>hb.1.2.1 ⟨k,_,hk,hc,e⟩⟩,hl⟩
theorem d_lenW {T:TypeId} {x:Operand} {α:Type} {T0 es n:Nat} {agg:Bool} {f:α->Ty} {xs ms:List α} {E:TypeId} (hT:P.underlying T=some (.slice E)) (hn:xs.length=n):
  Does P c ⟨some d,.call {callee:= .builtin .len,args:= #[x],argTypes:= #[T]},ty,pos,af,gd⟩ ⟨[(x,.val (tLW T0 es agg f xs ms))],[],some (d,some (.val (tI n))),[],[]⟩:=
 Does.value rfl fun g h al a w η hrd _ s=>by
  subst hn;obtain ⟨A,cc,h1,_⟩:=ze3 _ _ _ (xa0 s hrd.1).1;have h1:a.eval x= .slice A xs.length cc:=h1;exact ⟨_,w,by simp only [execOp,resolve,invoke,builtin,zcu,zdu,zfr,h1];simp [Builtin.len_,run_underlying hT,goInt,go_sem],Ext.refl w,rfl,fun k hk=>by cases hk⟩
theorem jn1 {T E es T0:Nat} {agg:Bool} {α:Type} {f:α->Ty} {xs ms:List α} {x y:Operand} {v:Int} (sl:SlI P T E es agg) (hv:v=((xs.length+ms.length:Nat):Int)):
  Does P c ⟨some d,.slice T x none (some y) none,ty,pos,af,gd⟩ ⟨[(x,.val (tLW T0 es agg f xs ms)),(y,.val (tI v))],[],some (d,some (.val (tL es agg f (xs++ms)))),[],[]⟩:=by
 subst hv;exact Does.value rfl fun g h al a w η hrd _ s=>by
  obtain ⟨A,cap,hA,hm⟩:=ze3 _ _ _ (xa0 s hrd.1).1;have hA:a.eval x= .slice A xs.length cap:=hA;have hle:xs.length+ms.length<=cap:=by
   obtain ⟨_,_,e,h1,_⟩:=hm;injection e with e1 e2 e3;subst e3;simpa using h1
  have hb:=xk7 (P:=P) (b:=true) (len:=xs.length) (cap:=cap) s (lo:=none) (hi:=some y) (l:=0) (u:=xs.length+ms.length) (fun _=>rfl) (fun h=>by cases h) hrd.2 (zbq _) hle;simp only [zev] at hb;refine ⟨.slice (if cap=0 then A else A.map (·.add (0*es))) (xs.length+ms.length - 0) (cap - 0),w,?_,Ext.refl w,?_,fun j hj=>by cases hj⟩
  ·simp only [execOp,hA,Instr.sliceAt,zbv,zda sl.und,zbm,Instr.slice,zev,hb,sl.el.size_run w,zbw]
  ·have e:(if cap=0 then A else A.map (·.add (0*es)))=A:=by
    split
    ·rfl
    ·exact add0
   rw [e];exact hm
theorem zm4 {T E es k len:Nat} {agg agg':Bool} {x y:Operand} {v:Int} {ts:List Ent} {T0:Nat} (sl:SlI P T E es agg) (u:Nat) (hv:v=(u:Int)) (h2:u<=ts.length):
  Does P c ⟨some d,.slice T x none (some y) none,ty,pos,af,gd⟩ ⟨[(x,.own (.sl k es 0 len)),(y,.val (tI v))],[(k,⟨T0,es,agg',ts⟩)],some (d,some (.own (.sl k es 0 u))),[],[]⟩:=
 Does.value rfl fun g h al a w η hrd hkr s=>by
  subst hv;obtain ⟨hx,hs⟩:=xa0 s hrd.1;obtain ⟨A,hA,hcap,hadr⟩:=hx;have hA:a.eval x= .slice A len (η.c k - 0):=hA;obtain ⟨_,_,⟨r1,_⟩,_⟩:=s.key k _ hkr.1;have r1:ts.length<=η.c k:=r1;have hb:=xk7 (P:=P) (b:=true) (len:=len) (cap:=η.c k - 0) s (lo:=none) (hi:=some y) (l:=0) (u:=u) (fun _=>rfl) (fun h=>by cases h) hrd.2 (zbq _) (by omega);simp only [zev] at hb;refine ⟨.slice (if η.c k - 0=0 then A else A.map (·.add (0*es))) (u - 0) (η.c k - 0 - 0),w,?_,Ext.refl w,?_,hs⟩
  ·simp only [execOp,hA,Instr.sliceAt,zbv,zda sl.und,zbm,Instr.slice,zev,hb,sl.el.size_run w,zbw]
  ·refine ⟨_,rfl,by omega,fun hlt=> ?_⟩;rw [if_neg (by omega),hadr (by omega)];simp [Addr.add]
theorem jd5 {T E es k off n:Nat} {agg:Bool} {x:Operand} {ts:List Ent} {T0:Nat} (hT:P.underlying T=some (.slice E)):
  Does P c ⟨some d,.call {callee:= .builtin .cap,args:= #[x],argTypes:= #[T]},ty,pos,af,gd⟩ ⟨[(x,.own (.sl k es off n))],[(k,⟨T0,es,agg,ts⟩)],some (d,some (.val (tX (fun q:Nat=>ts.length - off<=q) fun q=>tI q))),[],[]⟩:=
 Does.value rfl fun g h al a w η hrd hkr s=>by
  obtain ⟨A,h1,h2,h3⟩:=(xa0 s hrd.1).1;have h1:a.eval x= .slice A n (η.c k - off):=h1;obtain ⟨_,_,⟨r1,_⟩,_⟩:=s.key k _ hkr.1;have r1:ts.length<=η.c k:=r1;exact ⟨.int .i64 ((η.c k - off:Nat):Int),w,by simp only [execOp,resolve,invoke,builtin,zcu,zdu,zfr,h1];simp [Builtin.cap_,run_underlying hT,goInt,go_sem],Ext.refl w,⟨η.c k - off,by omega,rfl⟩,fun j hj=>by cases hj⟩
theorem qw1 {x y:Operand} {aT:Array TypeId} {pre:Nat->Prop} {v:Int} (h: ∀q:Nat,pre q->v<=q):
  Does P c ⟨some d,.call {callee:= .builtin .min,args:= #[x,y],argTypes:=aT},ty,pos,af,gd⟩ ⟨[(x,.val (tX pre fun q=>tI q)),(y,.val (tI v))],[],some (d,some (.val (tI v))),[],[]⟩:=
 Does.value rfl fun g hh al a w η hrd _ s=>by
  obtain ⟨q,hq,h1⟩:=(xa0 s hrd.1).1;have h1:a.eval x= .int .i64 q:=h1;have h2:a.eval y= .int .i64 v:=(xa0 s hrd.2.1).1;have:=h q hq;refine ⟨_,w,?_,Ext.refl w,rfl,fun j hj=>by cases hj⟩;have e:(if v < (q:Int) then v else (q:Int))=v:=by split <;> omega
  simp only [execOp,resolve,invoke,builtin,zcu,zdu,zfr,h1,h2];simp [Builtin.min_,Builtin.min2,go_sem,e]
end
abbrev VM:=Nat->Option (Nat×Nat)
def JV (T:Nat) (V:VM) (w:World):Prop:= ∀b m c,V b=some (m,c)-> ∃cs,w.heap[b]? =some (.cells cs T (0,0))/\cs.size=c/\m<=c/\c<=9223372036854775807/\ ∀i,i < m-> ∃x:Nat,cs[i]? =some (.int .u16 x)
def VM.D (V:VM):Dom:=fun b=> ∃x,V b=some x
def XV (T:Nat) (V:VM):OvJ:=⟨V.D,fun _=>JV T V,fun _ w w' h _ hk b m c hV=>by
 obtain ⟨cs,h1,h2⟩:=h b m c hV;exact ⟨cs,(hk b ⟨_,hV⟩ (xa7 h1)).trans h1,h2⟩⟩
def tSlV (V:VM) (n:Nat):Ty:=⟨fun _ _ v=> ∃b m c,v= .slice (some ⟨b,0,none⟩) n c/\V b=some (m,c)/\n+12<=m,fun h _=>h⟩
theorem zm8 {V:VM} {n:Nat}:Free (tSlV V n):=fun _ _ _ _ _ h=>h
instance {V:VM} {n:Nat}:Shape (tSlV V n) 1 false:=⟨fun ⟨_,_,_,h,_⟩=>by rw [h];exact xd3 rfl⟩
def FreeF:List Fd->Prop
 | []=>True
 | f::r=>Free f.t/\FreeF r
theorem FreeF.all {F F':Dom} {w w':World} {cs:Array Value}: ∀{fs:List Fd} {o:Nat},FreeF fs->Fd.all F w cs o fs->Fd.all F' w' cs o fs
 | [],_,_,_=>trivial
 | _::_,_,h,ha=>⟨⟨ha.1.1,h.1 _ _ _ _ _ ha.1.2⟩,h.2.all ha.2⟩
theorem Free.S {fs:List Fd} (h:FreeF fs):Free (tS fs):=fun _ _ _ _ _ ⟨cs,h1,h2,h3⟩=>⟨cs,h1,h2,h.all h3⟩
def lead:List Value->Nat
 | .int .u16 (.ofNat _)::r=>lead r+1
 | _=>0
theorem qb7: ∀(l:List Value) (i:Nat),i < lead l-> ∃x:Nat,l[i]? =some (.int .u16 x)
 | [],i,h=>by simp [lead] at h
 | v::r,i,h=>by
  unfold lead at h;split at h
  ·rename_i a b e;cases e;cases i with
   | zero=>exact ⟨_,rfl⟩
   | succ i=>exact qb7 _ i (by omega)
  ·omega
theorem qo6: ∀(m:Nat) (l:List Value),(∀i,i < m-> ∃x:Nat,l[i]? =some (.int .u16 x))->m<=lead l
 | 0,_,_=>zbq _
 | m+1,[],h=>by obtain ⟨x,hx⟩:=h 0 (by omega);simp at hx
 | m+1,v::r,h=>by
  obtain ⟨x,hx⟩:=h 0 (by omega);simp only [zco,zci] at hx;subst hx;have:=qo6 m r fun i hi=>by obtain ⟨y,hy⟩:=h (i+1) (by omega);exact ⟨y,by simpa using hy⟩
  show m+1<=lead r+1;omega
theorem qj7: ∀(l:List Value),lead l<=l.length
 | []=>by simp [lead]
 | v::r=>by
  have:=qj7 r;unfold lead;split
  ·rename_i e;cases e;simp;omega
  ·omega
open Classical in
noncomputable def vOf (T:Nat) (L:Dom) (w:World):VM:=fun b=>if L b then (match w.heap[b]? with
  | some (.cells cs T' fr)=>if T'=T/\fr=(0,0)/\cs.size<=9223372036854775807 then some (lead cs.toList,cs.size) else none
  | _=>none) else none
theorem xt2 {T:Nat} {L:Dom} {w:World} {b m c:Nat} (h:vOf T L w b=some (m,c)):L b/\ ∃cs,w.heap[b]? =some (.cells cs T (0,0))/\cs.size=c/\m<=c/\c<=9223372036854775807/\ ∀i,i < m-> ∃x:Nat,cs[i]? =some (.int .u16 x):=by
 unfold vOf at h;split at h
 ·rename_i hL;refine ⟨hL,?_⟩;split at h
  ·rename_i cs T' fr hb;split at h
   ·rename_i hc;obtain ⟨rfl,rfl,h3⟩:=hc;cases h;refine ⟨cs,hb,rfl,?_,h3,fun i hi=> ?_⟩
    ·have:=qj7 cs.toList;simpa using this
    ·obtain ⟨x,hx⟩:=qb7 cs.toList i hi;exact ⟨x,by simpa using hx⟩
   ·cases h
  ·cases h
 ·cases h
theorem vOf_mk {T:Nat} {L:Dom} {w:World} {b n:Nat} {cs:Array Value} (hL:L b) (hb:w.heap[b]? =some (.cells cs T (0,0))) (hc:cs.size<=9223372036854775807) (hn: ∀i,i < n-> ∃x:Nat,cs[i]? =some (.int .u16 x)): ∃m,vOf T L w b=some (m,cs.size)/\n<=m:=by
 refine ⟨lead cs.toList,?_,qo6 n _ fun i hi=>by obtain ⟨x,hx⟩:=hn i hi;exact ⟨x,by simpa using hx⟩⟩;unfold vOf;rw [if_pos hL,hb];simp [hc]
theorem vOf_JV {T:Nat} {L:Dom} {w w1:World} (h: ∀b,L b->w.heap[b]? =w1.heap[b]?):JV T (vOf T L w1) w:=fun b m c hV=>by
 obtain ⟨hL,cs,h1,h2⟩:=xt2 hV;exact ⟨cs,(h b hL).trans h1,h2⟩
noncomputable def XL (T:Nat) (L:Dom) (w1:World):OvJ:=⟨L,fun n w=>(n=0-> ∀b,L b->w.heap[b]? =w1.heap[b]?)/\(n=1->JV T (vOf T L w1) w)/\(∀b,L b->b < w.heap.size),
  fun n w w' h hs hk=>⟨fun hn b hb=>(hk b hb (h.2.2 b hb)).trans (h.1 hn b hb),fun hn b m c hV=>by
    obtain ⟨cs,h1,h2⟩:=h.2.1 hn b m c hV;exact ⟨cs,(hk b (xt2 hV).1 (xa7 h1)).trans h1,h2⟩,fun b hb=>zca (h.2.2 b hb) hs⟩⟩
end An
namespace An
def val (B:Nat):List Nat->Nat
 | []=>0
 | x::xs=>x+B*val B xs
def Dig (B:Nat) (l:List Nat):Prop:= ∀x∈l,x < B
theorem yg1 (B:Nat):val B []=0:=rfl
theorem xj3 (B x:Nat) (xs:List Nat):val B (x::xs)=x+B*val B xs:=rfl
theorem zf1 (B:Nat) (a b:List Nat):val B (a++b)=val B a+B ^ a.length*val B b:=by
 induction a with
 | nil=>simp [val]
 | cons x xs ih=>
  simp only [List.cons_append,xj3,ih,zeq,zch];rw [zcy,zgm,<-zdf,zce B (B ^ xs.length)]
theorem xq2 (B:Nat) (a:List Nat) (x:Nat):val B (a++[x])=val B a+B ^ a.length*x:=by
 rw [zf1];simp [val]
theorem Dig.nil (B:Nat):Dig B []:=by intro x h;cases h
theorem Dig.cons {B x:Nat} {l:List Nat} (h:x < B) (hl:Dig B l):Dig B (x::l):=by
 intro y hy;rcases zbr.1 hy with rfl | hy
 ·exact h
 ·exact hl y hy
theorem Dig.head {B x:Nat} {l:List Nat} (h:Dig B (x::l)):x < B:=h x (by simp)
theorem Dig.tail {B x:Nat} {l:List Nat} (h:Dig B (x::l)):Dig B l:=fun y hy=>h y (by simp [hy])
theorem Dig.append {B:Nat} {a b:List Nat} (ha:Dig B a) (hb:Dig B b):Dig B (a++b):=by
 intro x hx;rcases zbo.1 hx with h | h
 ·exact ha x h
 ·exact hb x h
theorem Dig.left {B:Nat} {a b:List Nat} (h:Dig B (a++b)):Dig B a:=fun x hx=>h x (by simp [hx])
theorem Dig.take {B:Nat} {a:List Nat} (h:Dig B a) (k:Nat):Dig B (a.take k):=fun x hx=>h x (List.mem_of_mem_take hx)
theorem Dig.drop {B:Nat} {a:List Nat} (h:Dig B a) (k:Nat):Dig B (a.drop k):=fun x hx=>h x (List.mem_of_mem_drop hx)
theorem Dig.getD {B:Nat} {a:List Nat} (h:Dig B a) (hB:0 < B) (k:Nat):a.getD k 0 < B:=by
 rw [zbh];cases he:a[k]? with
 | none=>simpa using hB
 | some x=>exact h x (zef he)
theorem xp2 {B:Nat} {l:List Nat} (h:Dig B l):val B l < B ^ l.length:=by
 induction l with
 | nil=>simp [val]
 | cons x xs ih=>
  have h1:=h.head;have h2:=ih h.tail;rw [xj3,zeq,zch];have:B*(val B xs+1)<=B*B ^ xs.length:=zdi B h2;rw [zcy,zce B (B ^ xs.length)] at this;omega
theorem zq1 (B:Nat) (l:List Nat) (k:Nat) (hk:k<=l.length):val B l=val B (l.take k)+B ^ k*val B (l.drop k):=by
 have h:=zf1 B (l.take k) (l.drop k);rw [List.take_append_drop,zde,zfo hk] at h;exact h
theorem xf8 (l:List Nat) (k:Nat) (hk:k < l.length):l.take (k+1)=l.take k++[l.getD k 0]:=by
 rw [zby hk,zbh,zbi hk];rfl
theorem xd4 (B:Nat) (l:List Nat) (k:Nat) (hk:k < l.length):val B (l.take (k+1))=val B (l.take k)+B ^ k*l.getD k 0:=by
 rw [xf8 l k hk,xq2,zde,zfo (by omega)]
theorem je5 (l:List Nat) (k:Nat) (hk:k < l.length):l.drop k=l.getD k 0::l.drop (k+1):=by
 rw [List.drop_eq_getElem_cons hk,zbh,zbi hk];rfl
theorem xm7 (B:Nat) (l:List Nat) (k:Nat) (hk:k < l.length):val B (l.drop k)=l.getD k 0+B*val B (l.drop (k+1)):=by
 rw [je5 l k hk,xj3]
theorem xf1 (B n:Nat):val B (List.replicate n 0)=0:=by
 induction n with
 | zero=>rfl
 | succ n ih=>rw [List.replicate_succ,xj3,ih];simp
def dig (B n:Nat):List Nat:=
 if _h:2<=B/\0 < n then n%B::dig B (n / B) else []
termination_by n
decreasing_by exact Nat.div_lt_self _h.2 _h.1
theorem xc8 (B:Nat):dig B 0=[]:=by rw [dig];simp
theorem xj9 {B n:Nat} (hB:2<=B) (hn:0 < n):dig B n=n%B::dig B (n / B):=by rw [dig];simp [hB,hn]
theorem xm9 {B:Nat} (hB:2<=B) (n:Nat):val B (dig B n)=n:=by
 induction n using Nat.strongRecOn with
 | _ n ih=>
  rcases zcf n with rfl | hn
  ·rw [xc8];rfl
  ·rw [xj9 hB hn,xj3,ih _ (Nat.div_lt_self hn hB)];exact Nat.mod_add_div n B
theorem xc3 {B:Nat} (hB:2<=B) (n:Nat):Dig B (dig B n):=by
 induction n using Nat.strongRecOn with
 | _ n ih=>
  rcases zcf n with rfl | hn
  ·rw [xc8];exact Dig.nil B
  ·rw [xj9 hB hn];exact Dig.cons (zck _ (by omega)) (ih _ (Nat.div_lt_self hn hB))
theorem xi1 {B n:Nat} (hB:2<=B):dig B n=[]↔n=0:=by
 constructor
 ·intro h;rcases zcf n with rfl | hn
  ·rfl
  ·rw [xj9 hB hn] at h;simp at h
 ·rintro rfl;exact xc8 B
def Top (l:List Nat):Prop:= ∀x,l.getLast? =some x->x≠0
theorem qm7 {B:Nat} (hB:2<=B) (n:Nat):Top (dig B n):=by
 induction n using Nat.strongRecOn with
 | _ n ih=>
  rcases zcf n with rfl | hn
  ·rw [xc8];intro x h;simp at h
  ·rw [xj9 hB hn];intro x hx;rcases zcf (n / B) with h0 | h0
   ·rw [h0,xc8] at hx;simp only [List.getLast?_singleton,zci] at hx;have:=Nat.mod_add_div n B;rw [h0] at this;intro hx0;rw [<-hx] at hx0;rw [hx0] at this;simp at this;omega
   ·rw [xj9 hB h0,List.getLast?_cons_cons,<-xj9 hB h0] at hx;exact ih _ (Nat.div_lt_self hn hB) x hx
theorem yn6 {B:Nat} (hB:2<=B) {l:List Nat} (h:Dig B l) (ht:Top l):dig B (val B l)=l:=by
 induction l with
 | nil=>rw [yg1,xc8]
 | cons x xs ih=>
  have hx:=h.head;have htt:Top xs:=by
   intro y hy;cases xs with
   | nil=>simp at hy
   | cons z zs=>exact ht y (by rw [List.getLast?_cons_cons];exact hy)
  have ih':=ih h.tail htt;have hpos:0 < val B (x::xs):=by
   rw [xj3];rcases zcf (val B xs) with h0 | h0
   ·rw [h0,xc8] at ih';subst ih';have:=ht x (by simp);omega
   ·have:0 < B*val B xs:=Nat.mul_pos (by omega) h0;omega
  have hmod:(x+B*val B xs)%B=x:=by rw [zfu];exact zcc hx
  have hdiv:(x+B*val B xs) / B=val B xs:=by rw [zeh _ _ (by omega)];rw [zcz hx];simp
  rw [xj9 hB hpos,xj3,hmod,hdiv,ih']
theorem yo1 {B:Nat} (hB:2<=B) (n k:Nat):(dig B n).length<=k↔n < B ^ k:=by
 induction k generalizing n with
 | zero=>
  rw [Nat.le_zero,zcw,xi1 hB];simp
 | succ k ih=>
  rcases zcf n with rfl | hn
  ·rw [xc8];simp;exact zdb (by omega)
  ·rw [xj9 hB hn,zeq,Nat.add_le_add_iff_right,ih,zch,Nat.div_lt_iff_lt_mul (by omega)]
theorem zf8 {B:Nat} (hB:2<=B) (n:Nat):n < B ^ (dig B n).length:=(yo1 hB n _).1 (zbs _)
theorem xd0 {B:Nat} (hB:2<=B) {m n:Nat} (h:m<=n):(dig B m).length<=(dig B n).length:=
 (yo1 hB m _).2 (zfy h (zf8 hB n))
def trimL (l:List Nat):List Nat:=(l.reverse.dropWhile (· ==0)).reverse
theorem xq8 (l:List Nat):trimL (l++[0])=trimL l:=by simp [trimL]
theorem yc5 {l:List Nat} (h:Top l):trimL l=l:=by
 rcases List.eq_nil_or_concat l with rfl | ⟨a,x,rfl⟩
 ·rfl
 ·have hx:x≠0:=h x (by simp);simp [trimL,hx]
theorem xd7 {B:Nat} (hB:2<=B) {l:List Nat} (h:Dig B l):trimL l=dig B (val B l):=by
 generalize hn:l.length=n
 induction n generalizing l with
 | zero=>
  have:l=[]:=zcw.1 hn;subst this;rw [yg1,xc8];rfl
 | succ n ih=>
  rcases List.eq_nil_or_concat l with rfl | ⟨a,x,rfl⟩
  ·simp at hn
  ·rcases zcf x with rfl | hx
   ·simp only [List.concat_eq_append] at*
    rw [xq8,ih h.left (by simpa using hn),xq2];simp
   ·have ht:Top (a.concat x):=by intro y hy;simp at hy;omega
    rw [yc5 ht,yn6 hB h ht]
theorem zz7 {B:Nat} (hB:0 < B) {l:List Nat} (h:Dig B l) (i:Nat):l.getD i 0=val B l / B ^ i%B:=by
 have hp:0 < B ^ i:=zdb hB;rcases zcx i l.length with hi | hi
 ·have h1:=zq1 B l i (by omega);have h2:=xm7 B l i hi;have h3:val B (l.take i) < B ^ i:=by
   have:=xp2 (h.take i)
   rwa [zde,zfo (by omega)] at this
  rw [h1,zeh _ _ hp,zcz h3,zcm,h2,zfu,zcc (h.getD hB i)]
 ·have h3:val B l < B ^ i:=zca (xp2 h) (Nat.pow_le_pow_right hB hi);rw [zcz h3,Nat.zero_mod,zbh,zct hi];rfl
theorem xc0 {B:Nat} (hB:2<=B) (v i:Nat):(dig B v).getD i 0=v / B ^ i%B:=by
 rw [zz7 (by omega) (xc3 hB v),xm9 hB]
def dgs (B n v:Nat):List Nat:=(List.range n).map fun j=>v / B ^ j%B
theorem xe9 (B n v:Nat):(dgs B n v).length=n:=by simp [dgs]
theorem xk6 (B n v:Nat):dgs B (n+1) v=dgs B n v++[v / B ^ n%B]:=by simp [dgs,List.range_succ]
theorem jn4 (B v:Nat):dgs B 0 v=[]:=rfl
theorem xs3 {B n v i:Nat} (hi:i < n):(dgs B n v).getD i 0=v / B ^ i%B:=by
 rw [zbh];simp [dgs,hi]
theorem yu0 {B:Nat} (hB:0 < B) (n v:Nat):Dig B (dgs B n v):=fun x hx=>by
 obtain ⟨j,_,rfl⟩:=zcp.1 hx;exact zck _ hB
theorem xr6 (B n v:Nat):val B (dgs B n v)=v%B ^ n:=by
 induction n with
 | zero=>simp [dgs,val,Nat.mod_one]
 | succ n ih=>rw [xk6,xq2,ih,xe9,zch,Nat.mod_mul]
theorem jj1 {B:Nat} (hB:2<=B) {n v:Nat} (h:v < B ^ n):trimL (dgs B n v)=dig B v:=by
 rw [xd7 hB (yu0 (by omega) n v),xr6,zcc h]
theorem zn8 (B n:Nat):dgs B n 0=List.replicate n 0:=by
 apply List.ext_getElem
 ·simp [dgs]
 ·intro i h1 h2;simp [dgs]
theorem yt5 {B:Nat} (hB:0 < B) {l:List Nat} (h:Dig B l):dgs B l.length (val B l)=l:=by
 apply List.ext_getElem
 ·simp [dgs]
 ·intro i h1 h2;have:=zz7 hB h i;rw [zbh,zbi h2] at this;simp only [dgs,List.getElem_map,List.getElem_range];exact this.symm
theorem xo8 {B:Nat} (hB:2<=B) (v:Nat):dgs B (dig B v).length v=dig B v:=by
 have:=yt5 (by omega) (xc3 hB v)
 rwa [xm9 hB] at this
theorem qv8 {B n u v:Nat} (h:u%B ^ n=v%B ^ n):dgs B n u=dgs B n v:=by
 apply List.ext_getElem
 ·simp [dgs]
 ·intro i h1 h2;have hi:i < n:=by simpa [dgs] using h1
  simp only [dgs,List.getElem_map,List.getElem_range];have key: ∀x:Nat,x / B ^ i%B=x%B ^ n / B ^ i%B:=fun x=>by
   have e:B ^ n=B ^ i*(B*B ^ (n - i - 1)):=by
    rw [<-zdf,<-zch,<-zez];congr 1;omega
   rw [e,Nat.mod_mul_right_div_self,Nat.mod_mul_right_mod]
  rw [key u,key v,h]
theorem xa8 {B:Nat} (hB:2<=B) (v n:Nat):(dig B v).length<=n↔v < B ^ n:=yo1 hB v n
theorem xf6 {B:Nat} (hB:2<=B) (v:Nat):v < B ^ (dig B v).length:=(xa8 hB v _).1 (zbs _)
theorem zh8 {B:Nat} (hB:2<=B) {v:Nat} (h:0 < v):0 < (dig B v).length:=by
 rcases zcf (dig B v).length with h0 | h0
 ·have:=xf6 hB v;rw [h0] at this;simp at this;omega
 ·exact h0
theorem qs6 {B:Nat} (hB:2<=B) {v:Nat} (h:0 < v):B ^ ((dig B v).length - 1)<=v:=by
 rcases zcx v (B ^ ((dig B v).length - 1)) with h1 | h1
 ·have:=(xa8 hB v _).2 h1;have:=zh8 hB h;omega
 ·exact h1
theorem jt1 {B n u v j:Nat} (h: ∀i,i < n->i≠j->u / B ^ i%B=v / B ^ i%B) {d:Nat} (hd:v / B ^ j%B=d):(dgs B n u).set j d=dgs B n v:=by
 apply List.ext_getElem
 ·simp [dgs]
 ·intro i h1 h2;have hi:i < n:=by simpa [dgs] using h2
  rw [List.getElem_set];split
  ·rename_i e;subst e;simp [dgs,hd]
  ·rename_i e;simp [dgs,h i hi (fun e'=>e e'.symm)]
theorem zs6 {x e B:Nat} (h:x%B+e < B):(x+e) / B=x / B:=by
 have h1:=zdg x B;have hB:0 < B:=by omega
 have h2:x+e=(x%B+e)+B*(x / B):=by omega
 rw [h2,zeh _ _ hB,zcz h,zcm]
theorem wd9 {B n u j e:Nat} (hB:0 < B) (he:u / B ^ j%B+e < B):(dgs B n u).set j (u / B ^ j%B+e)=dgs B n (u+e*B ^ j):=by
 have hp: ∀i,0 < B ^ i:=fun i=>zdb hB;refine jt1 (fun i _ hne=> ?_) ?_
 ·rcases zcx i j with hlt | hge
  ·have e1:B ^ j=B ^ i*(B*B ^ (j - i - 1)):=by
    rw [<-zdf,<-zch,<-zez];congr 1;omega
   rw [e1,show e*(B ^ i*(B*B ^ (j - i - 1)))=B ^ i*(B*(e*B ^ (j - i - 1))) by rw [Nat.mul_left_comm,Nat.mul_left_comm e B],zeh _ _ (hp i),zfu]
  ·have e1:B ^ i=B ^ j*(B*B ^ (i - j - 1)):=by
    rw [<-zdf,<-zch,<-zez];congr 1;omega
   rw [e1,<-zdk,<-zdk,<-zdk,<-zdk,zce e,zeh _ _ (hp j),zs6 he]
 ·rw [zce e,zeh _ _ (hp j),Nat.add_mod];rw [zcc (show e < B by omega),zcc he]
end An
namespace An
open Go
theorem zk0 (i:Nat):65536 ^ i=4294967296 ^ (i / 2)*65536 ^ (i%2):=by
 have h:(4294967296:Nat)=65536 ^ 2:=by decide
 rw [h,<-Nat.pow_mul,<-zez];congr 1;omega
theorem shl16 {x i:Nat} (hx:x < 65536):IntKind.u32.wrap ((x:Int)*2 ^ (min (16*((i:Int)%2)).toNat IntKind.u32.bits))=((x*65536 ^ (i%2):Nat):Int):=by
 have hb:IntKind.u32.bits=32:=rfl;rcases Nat.mod_two_eq_zero_or_one i with h | h
 ·have e:(16*((i:Int)%2)).toNat=0:=by omega
  rw [e,h];simp;rw [wu32 (by omega) (by omega)]
 ·have e:(16*((i:Int)%2)).toNat=16:=by omega
  rw [e,h,hb];simp;rw [wu32 (by omega) (by omega)]
theorem jv5 {l:List Nat} (hl:Dig 65536 l) (i:Nat) (hi:i<=l.length):val 65536 (l.take i) / 4294967296 ^ (i / 2) < 65536 ^ (i%2):=by
 have h1:=xp2 (hl.take i);rw [zde,zfo hi,zk0] at h1;exact zdc h1
theorem pow01 (i:Nat):65536 ^ (i%2)=1∨65536 ^ (i%2)=65536:=by
 rcases Nat.mod_two_eq_zero_or_one i with h | h <;> rw [h] <;> simp
theorem yq6 {l:List Nat} (hl:Dig 65536 l) (i:Nat) (hi:i<=l.length):val 65536 (l.take i) / 4294967296 ^ (i / 2)%4294967296 < 65536 ^ (i%2):=by
 have:=jv5 hl i hi;exact zfy (Nat.mod_le _ _) this
theorem qj9 {w x i:Nat} (hw:w < 65536 ^ (i%2)) (hx:x < 65536):bits .or .u32 (w:Int) ((x*65536 ^ (i%2):Nat):Int)=((w+x*65536 ^ (i%2):Nat):Int):=by
 have h2:(65536:Nat) ^ (i%2)=2 ^ (16*(i%2)):=by rw [Nat.pow_mul]
 have hb:IntKind.u32.bits=32:=rfl;have h3:w+x*65536 ^ (i%2) < 4294967296:=by
  rcases pow01 i with h | h <;> rw [h] at hw ⊢ <;> omega
 rw [h2] at hw h3 ⊢;exact jc6 w x (16*(i%2)) rfl rfl hw (wu32 (by omega) (by omega)) (by rw [hb];omega)
theorem zn5 {l:List Nat} (hl:Dig 65536 l) {i n:Nat} (hi:i < l.length) (_hn:i / 2 < n):
  (dgs 4294967296 n (val 65536 (l.take i))).set (i / 2) ((dgs 4294967296 n (val 65536 (l.take i))).getD (i / 2) 0+l.getD i 0*65536 ^ (i%2))=dgs 4294967296 n (val 65536 (l.take (i+1))):=by
 have hx:=hl.getD (by omega) i;have hw:=yq6 hl i (by omega);rw [xs3 _hn,wd9 (by omega) (by rcases pow01 i with h | h <;> rw [h] at hw ⊢ <;> omega),xd4 _ _ _ hi];have e:l.getD i 0*65536 ^ (i%2)*4294967296 ^ (i / 2)=65536 ^ i*l.getD i 0:=by
  rw [zk0 i,zdf,zce (65536 ^ (i%2)),zce]
 rw [e]
theorem not32 {x:Nat} (hx:x < 4294967296):bits .xor .u32 4294967295 (x:Int)=((4294967295 - x:Nat):Int):=by
 have h:=yp5 (k:= .u32) (a:=4294967295) (b:=x) (by decide) hx;have e:4294967295 ^^^ x=4294967295 - x:=by
  have h1:(BitVec.allOnes 32 ^^^ BitVec.ofNat 32 x)= ~~~ (BitVec.ofNat 32 x):=by first | exact BitVec.allOnes_xor | (rw [BitVec.xor_comm];exact BitVec.xor_allOnes)
  have h2:=congrArg BitVec.toNat h1;simp only [BitVec.toNat_xor,BitVec.toNat_not,BitVec.toNat_allOnes,BitVec.toNat_ofNat] at h2;rw [zcc hx] at h2;exact h2
 rw [e] at h;exact h.trans (wu32 (by omega) (by omega))
theorem qk4 (a b:Nat):(a &&& b) / 2147483648=a / 2147483648 &&& b / 2147483648:=by
 have:=Nat.shiftRight_and_distrib (a:=a) (b:=b) (i:=31);simpa [Nat.shiftRight_eq_div_pow] using this
theorem top_or (a b:Nat):(a ||| b) / 2147483648=a / 2147483648 ||| b / 2147483648:=by
 have:=Nat.shiftRight_or_distrib (a:=a) (b:=b) (i:=31);simpa [Nat.shiftRight_eq_div_pow] using this
theorem ju2 (a b:Nat):(a ^^^ b) / 2147483648=a / 2147483648 ^^^ b / 2147483648:=by
 have:=Nat.shiftRight_xor_distrib (a:=a) (b:=b) (i:=31);simpa [Nat.shiftRight_eq_div_pow] using this
theorem borrow32 {x y b d:Nat} (hx:x < 4294967296) (hy:y < 4294967296) (hb:b<=1) (hd:d=(x+8589934592 - y - b)%4294967296):
  (((4294967295 - x) &&& y) ||| ((4294967295 - (x ^^^ y)) &&& d)) / 2147483648=if x < y+b then 1 else 0:=by
 have hxy:(x ^^^ y) < 4294967296:=Nat.xor_lt_two_pow (n:=32) hx hy;have hd':d < 4294967296:=by omega
 have ht: ∀z,z < 4294967296->z / 2147483648=0∨z / 2147483648=1:=fun z hz=>by omega
 have hn: ∀z,z < 4294967296->(4294967295 - z) / 2147483648=1 - z / 2147483648:=fun z hz=>by omega
 rw [top_or,qk4,qk4,hn x hx,hn _ hxy,ju2];rcases ht x hx with h1 | h1 <;> rcases ht y hy with h2 | h2 <;> rcases ht d hd' with h3 | h3 <;> rw [h1,h2,h3] <;> simp <;> omega
end An
namespace An
open Go
theorem qk1 {P:Program} {c:Base} {d t:Nat} {pos:String} {af:Array Edge} {gd:Option (Nat×Bool)} {T:TypeId} {x:Operand} {n:Nat} (hn:n < 4294967296):
  Does P c ⟨some d,.unOp .xor T x,t,pos,af,gd⟩ ⟨[(x,.val (tE (.int .u32 (n:Int))))],[],some (d,some (.val (tE (.int .u32 ((4294967295 - n:Nat):Int))))),[],[]⟩:=
 Does.value rfl fun g h al a w η hrd _ s=>by
  have h1:a.eval x= .int .u32 n:=(xa0 s hrd.1).1;have h2:bits .xor .u32 (if IntKind.u32.signed then -1 else IntKind.u32.max) (n:Int)=((4294967295 - n:Nat):Int):=not32 hn;exact ⟨_,w,by simp only [execOp,h1,unary_xor,intBits_xor,h2,zbv,zbw,zbm],Ext.refl w,rfl,fun k hk=>by cases hk⟩
theorem bxor32 {a b:Nat} (ha:a < 4294967296) (hb:b < 4294967296):bits .xor .u32 (a:Int) (b:Int)=((a ^^^ b:Nat):Int):=
 (yp5 (k:= .u32) ha hb).trans (wu32 (by omega) (by have:=Nat.xor_lt_two_pow (n:=32) ha hb;omega))
theorem band32 {a b:Nat} (ha:a < 4294967296) (hb:b < 4294967296):bits .and .u32 (a:Int) (b:Int)=((a &&& b:Nat):Int):=
 (zz2 (k:= .u32) ha hb).trans (wu32 (by omega) (by have:=Nat.and_lt_two_pow a (n:=32) hb;omega))
theorem bor32 {a b:Nat} (ha:a < 4294967296) (hb:b < 4294967296):bits .or .u32 (a:Int) (b:Int)=((a ||| b:Nat):Int):=
 (xv5 (k:= .u32) ha hb).trans (wu32 (by omega) (by have:=Nat.or_lt_two_pow (n:=32) ha hb;omega))
end An
namespace An
theorem xs5 (B a k:Nat) (_hB:0 < B):a / B ^ k=B*(a / B ^ (k+1))+a / B ^ k%B:=by
 rw [zch,<-zdk];exact (zdg (a / B ^ k) B).symm
theorem zu1 {B a b k:Nat} (hB:0 < B) (h:a / B ^ (k+1)=b / B ^ (k+1)) (hd:a / B ^ k%B=b / B ^ k%B):a / B ^ k=b / B ^ k:=by
 rw [xs5 B a k hB,xs5 B b k hB,h,hd]
theorem ji0 {B a b k:Nat} (h:a / B ^ k < b / B ^ k):a < b:=by
 rcases zcx a b with h1 | h1
 ·exact h1
 ·exact absurd (Nat.div_le_div_right (c:=B ^ k) h1) (by omega)
theorem zv6 {B a b k:Nat} (hB:0 < B) (h:a / B ^ (k+1)=b / B ^ (k+1)) (hd:a / B ^ k%B < b / B ^ k%B):a < b:=by
 refine ji0 (B:=B) (k:=k) ?_;rw [xs5 B a k hB,xs5 B b k hB,h];omega
theorem zu3 {B a b:Nat} (hB:2<=B) (h:(dig B a).length < (dig B b).length):a < b:=by
 rcases zcx a b with h1 | h1
 ·exact h1
 ·have:=xd0 hB h1;omega
def cmpN (a b:Nat):Int:=if a < b then -1 else if a=b then 0 else 1
theorem qi4 {a b:Nat} (h:a < b):cmpN a b= -1:=if_pos h
theorem qi6 {a b:Nat} (h:b < a):cmpN a b=1:=by rw [cmpN,if_neg (by omega),if_neg (by omega)]
theorem we5 {a b:Nat} (h:a=b):cmpN a b=0:=by rw [cmpN,if_neg (by omega),if_pos h]
abbrev tN (v:Nat):Ty:=tWs (dig 4294967296 v)
theorem x9:2<=4294967296:=by decide
theorem xj8 {l:List Nat} {i d:Nat} (hi:i < l.length):(l.set i d).take (i+1)=l.take i++[d]:=by
 rw [xf8 _ _ (by simpa using hi),List.take_set_of_le (zbs _)]
 congr 2
 rw [zbh,List.getElem?_set_self hi];rfl
theorem xe0 {l:List Nat} {i d:Nat}:(l.set i d).drop (i+1)=l.drop (i+1):=List.drop_set_of_lt (by omega)
theorem xe7 {B:Nat} {l:List Nat} {i d:Nat} (hi:i < l.length):val B ((l.set i d).take (i+1))=val B (l.take i)+B ^ i*d:=by
 rw [xj8 hi,xq2,zde,zfo (by omega)]
theorem Dig.set {B:Nat} {l:List Nat} {i d:Nat} (h:Dig B l) (hd:d < B):Dig B (l.set i d):=fun x hx=>by
 rcases zgr hx with h1 | h1
 ·exact h x h1
 ·rw [h1];exact hd
theorem Dig.rep {B:Nat} (hB:0 < B) (n:Nat):Dig B (List.replicate n 0):=fun x hx=>by
 rw [List.eq_of_mem_replicate hx];exact hB
theorem xg5 {l m:List Nat} {i j:Nat} (h:l.drop i=m.drop i) (hj:i<=j):l.getD j 0=m.getD j 0:=by
 have h1:(l.drop i).getD (j - i) 0=(m.drop i).getD (j - i) 0:=by rw [h]
 simp only [zbh,List.getElem?_drop] at h1 ⊢
 rwa [show i+(j - i)=j by omega] at h1
theorem xi5 {l m:List Nat} {i j:Nat} (h:l.drop i=m.drop i) (hj:i<=j):l.drop j=m.drop j:=by
 have h1:(l.drop i).drop (j - i)=(m.drop i).drop (j - i):=by rw [h]
 rwa [List.drop_drop,List.drop_drop,show i+(j - i)=j by omega] at h1
theorem xm8 {l:List Nat} {i d:Nat} (h:i < l.length):(l.set i d).getD i 0=d:=by
 rw [zbh,List.getElem?_set_self h];rfl
theorem getD_set_ne {l:List Nat} {i j d:Nat} (h:i≠j):(l.set i d).getD j 0=l.getD j 0:=by
 rw [zbh,List.getElem?_set_ne h,<-zbh]
abbrev W:Nat:=4294967296
theorem xg7 (B a i:Nat):a%B ^ (i+1)=a%B ^ i+B ^ i*(a / B ^ i%B):=Nat.mod_pow_succ
theorem xm2 {B:Nat} (hB:2<=B) {v i:Nat} (h:(dig B v).length<=i):v / B ^ i%B=0:=by
 have h1:=(xa8 hB v i).1 h;rw [zcz h1];exact Nat.zero_mod _
theorem qo1 {B:Nat} (hB:2<=B) {v i:Nat} (h:(dig B v).length<=i):v%B ^ i=v:=zcc ((xa8 hB v i).1 h)
theorem zt4 {B T b a br i w y x br':Nat} (h:T+b%B ^ i=a%B ^ i+br*B ^ i) (hx:x=a / B ^ i%B) (hy:y=b / B ^ i%B) (hw:w+y+br=x+B*br'):
  T+B ^ i*w+b%B ^ (i+1)=a%B ^ (i+1)+br'*B ^ (i+1):=by
 rw [xg7,xg7,<-hx,<-hy];have h1:B ^ i*w+B ^ i*y+B ^ i*br=B ^ i*x+B ^ i*(B*br'):=by rw [<-zcy,<-zcy,<-zcy,hw]
 have h2:br'*B ^ (i+1)=B ^ i*(B*br'):=by rw [zch,zce,zdf]
 rw [h2];rw [zce br] at h;omega
theorem jr1 {B T b a br i w y x br':Nat} (h:T+br*B ^ i=a%B ^ i+b%B ^ i) (hx:x=a / B ^ i%B) (hy:y=b / B ^ i%B) (hw:w+B*br'=x+y+br):
  T+B ^ i*w+br'*B ^ (i+1)=a%B ^ (i+1)+b%B ^ (i+1):=by
 rw [xg7,xg7,<-hx,<-hy];have h1:B ^ i*w+B ^ i*(B*br')=B ^ i*x+B ^ i*y+B ^ i*br:=by rw [<-zcy,<-zcy,<-zcy,hw]
 have h2:br'*B ^ (i+1)=B ^ i*(B*br'):=by rw [zch,zce,zdf]
 rw [h2];rw [zce br] at h;omega
theorem wa6 {n a b br:Nat} {ws:List Nat} (hl:ws.length=n) (hD:Dig W ws) (ha:a < W ^ n) (hba:b<=a) (h:val W (ws.take n)+b%W ^ n=a%W ^ n+br*W ^ n):val W ws=a - b:=by
 rw [<-hl,zbx,hl,zcc ha,zcc (by omega)] at h;have h1:=xp2 hD;rw [hl] at h1;rcases zcf br with h0 | h0
 ·subst h0;omega
 ·have:W ^ n<=br*W ^ n:=zfh _ h0;omega
theorem zk6 {a b i c x y s:Nat} {cs:List Nat} (hl:cs.length=i) (hD:Dig W cs) (hv:val W cs+c*W ^ i=a%W ^ i+b%W ^ i) (hx:x=a / W ^ i%W) (hy:y=b / W ^ i%W) (hs:s=x+y) (hc:c<=1):
  (cs++[(s+c)%W]).length=i+1/\Dig W (cs++[(s+c)%W])/\val W (cs++[(s+c)%W])+(s+c) / W*W ^ (i+1)=a%W ^ (i+1)+b%W ^ (i+1)/\(s+c) / W<=1:=by
 have hx':x < W:=by rw [hx];exact zck _ (by decide)
 have hy':y < W:=by rw [hy];exact zck _ (by decide)
 have h1:=zdg (s+c) W;refine ⟨by simp [hl],hD.append (Dig.cons (zck _ (by decide)) (Dig.nil _)),?_,?_⟩
 ·rw [xq2,hl];exact jr1 hv hx hy (by omega)
 ·have:s+c < 2*W:=by omega
  have:=zdc (show s+c < W*2 by omega);omega
theorem jr3 {a b c n:Nat} {cs:List Nat} (hl:cs.length=n) (ha:a < W ^ n) (hb:b < W ^ n) (hD:Dig W cs) (hv:val W cs+c*W ^ n=a%W ^ n+b%W ^ n) (hc:c<=1):
  trimL (cs++[(0+c)%W])=dig W (a+b):=by
 rw [zcc ha,zcc hb] at hv;have h1:(0+c)%W=c:=by rw [zcm];exact zcc (by show c < 4294967296;omega)
 rw [h1,xd7 x9 (hD.append (Dig.cons (by show c < 4294967296;omega) (Dig.nil _))),xq2,hl,zce,hv]
end An
namespace An
open Go
class FoI (P:Program) (S f:Nat) (o:outParam Nat):Prop where
  h:fieldO P S f=some o
class UnI (P:Program) (T:TypeId) (d:outParam TypeDesc):Prop where
  h:P.underlying T=some d
section
variable {P:Program} {c:Base} {g:Slots} {h:Keys} {al:Names} {A:Array Oper} {K:List Sm->Slots->Keys->Names->Prop} {rest:List Oper} {sms:List Sm} {ty:Nat} {pos:String} {af:Array Edge} {Q:Exit->Act->World->Prop}
variable {dst:Option Nat} {op:Op} {x y z:Operand} {e1 e2:Ent}
theorem RG1 {s j t:Nat} {e:Ent} {want b:Bool} (hb:b=want) (hj:(A[j]?).bind (·.dst)=some t) (hd:Does P c ⟨dst,op,ty,pos,af,some (j,want)⟩ ⟨[(x,e1)],[],some (s,some e),[],[]⟩) (hg:g t=some (.val (tB b))) (h1:look g x=some e1)
  (H:RSeq P c A K rest (sms++[⟨t::slotsOf [(x,e1)],some s,[],[],[]⟩]) (upd g s (some e)) h al):RSeq P c A K (⟨dst,op,ty,pos,af,some (j,want)⟩::rest) sms g h al:=
 RGon hb hj hd hg ⟨h1,trivial⟩ trivial trivial H
theorem RG2 {s j t:Nat} {e:Ent} {want b:Bool} (hb:b=want) (hj:(A[j]?).bind (·.dst)=some t) (hd:Does P c ⟨dst,op,ty,pos,af,some (j,want)⟩ ⟨[(x,e1),(y,e2)],[],some (s,some e),[],[]⟩) (hg:g t=some (.val (tB b))) (h1:look g x=some e1) (h2:look g y=some e2)
  (H:RSeq P c A K rest (sms++[⟨t::slotsOf [(x,e1),(y,e2)],some s,[],[],[]⟩]) (upd g s (some e)) h al):RSeq P c A K (⟨dst,op,ty,pos,af,some (j,want)⟩::rest) sms g h al:=
 RGon hb hj hd hg ⟨h1,h2,trivial⟩ trivial trivial H
theorem RGl {s j t k:Nat} {e:Ent} {x':HEnt} {want b:Bool} (hb:b=want) (hj:(A[j]?).bind (·.dst)=some t) (hd:Does P c ⟨dst,op,ty,pos,af,some (j,want)⟩ ⟨[(x,e1)],[(k,x')],some (s,some e),[],[]⟩) (hg:g t=some (.val (tB b))) (h1:look g x=some e1) (h2:h k=some x')
  (H:RSeq P c A K rest (sms++[⟨t::slotsOf [(x,e1)],some s,[k],[],[]⟩]) (upd g s (some e)) h al):RSeq P c A K (⟨dst,op,ty,pos,af,some (j,want)⟩::rest) sms g h al:=
 RGon hb hj hd hg ⟨h1,trivial⟩ ⟨h2,trivial⟩ trivial H
theorem Rl {s k:Nat} {e:Ent} {x':HEnt} (hd:Does P c ⟨dst,op,ty,pos,af,none⟩ ⟨[(x,e1)],[(k,x')],some (s,some e),[],[]⟩) (h1:look g x=some e1) (h2:h k=some x')
  (H:RSeq P c A K rest (sms++[⟨slotsOf [(x,e1)],some s,[k],[],[]⟩]) (upd g s (some e)) h al):RSeq P c A K (⟨dst,op,ty,pos,af,none⟩::rest) sms g h al:=
 RE hd ⟨h1,trivial⟩ ⟨h2,trivial⟩ trivial H
theorem Rs {T T0 es k p n:Nat} {agg:Bool} {ts ts':List Ent} {e:Ent} (hx:look g x=some (.own (.ptr k p))) (hy:look g y=some e) (hk:h k=some ⟨T0,es,agg,ts⟩) [ti:TyI P T n agg] (hn:n=es) (hi:Nat.blt 0 ts.length=true) (hp:0=p) (hts:ts.set 0 e=ts') [he:ShapeE e es agg]
  (H:RSeq P c A K rest (sms++[⟨slotsOf [(x,.own (.ptr k p)),(y,e)],none,[k],[k],[]⟩]) g (upd h k (some ⟨T0,es,agg,ts'⟩)) al):RSeq P c A K (⟨none,.store T x y,ty,pos,af,none⟩::rest) sms g h al:=by
 subst hn;exact RE (xb8 0 ti hi (by omega) hts) ⟨hx,hy,trivial⟩ ⟨hk,trivial⟩ trivial H
theorem RlF {T T0 es k p n d:Nat} {agg':Bool} {ts:List Ent} {t t':Ty} [ti:TyI P T n agg'] (hx:look g x=some (.own (.ptr k p))) (hk:h k=some ⟨T0,es,true,ts⟩) (hi:ts[0]? =some (.val t)) (hat:At t p n agg' t')
  (H:RSeq P c A K rest (sms++[⟨slotsOf [(x,.own (.ptr k p))],some d,[k],[],[]⟩]) (upd g d (some (.val t'))) h al):RSeq P c A K (⟨some d,.load T x,ty,pos,af,none⟩::rest) sms g h al:=
 xe1 0 ti hx hk hi hat (by omega) H
theorem RGlF {T T0 es k p n d:Nat} {agg':Bool} {ts:List Ent} {t t':Ty} {j q:Nat} {want b:Bool} (hb:b=want) (hj:(A[j]?).bind (·.dst)=some q) (hq:g q=some (.val (tB b))) [ti:TyI P T n agg'] (hx:look g x=some (.own (.ptr k p))) (hk:h k=some ⟨T0,es,true,ts⟩) (hi:ts[0]? =some (.val t)) (hat:At t p n agg' t')
  (H:RSeq P c A K rest (sms++[⟨q::slotsOf [(x,.own (.ptr k p))],some d,[k],[],[]⟩]) (upd g d (some (.val t'))) h al):RSeq P c A K (⟨some d,.load T x,ty,pos,af,some (j,want)⟩::rest) sms g h al:=
 xb2 hb hj hq 0 ti hx hk hi hat (by omega) H
theorem Rbx {T n s:Nat} {agg:Bool} {e:Ent} [he:ShapeE e n agg] [ti:TyI P T n agg] (hx:look g x=some e) (hn:Nat.blt 0 n=true) (h3:Nk al [s])
  (H:RSeq P c A K rest (sms++[(⟨[(x,e)],[],some (s,some (.own (.ptr s 0))),[(s,some ⟨T,n,agg,[e]⟩)],[s]⟩:Eff).sm]) (upd g s (some (.own (.ptr s 0)))) (upd h s (some ⟨T,n,agg,[e]⟩)) ((⟨[(x,e)],[],some (s,some (.own (.ptr s 0))),[(s,some ⟨T,n,agg,[e]⟩)],[s]⟩:Eff).al al)):RSeq P c A K (⟨some s,.box T x,ty,pos,af,none⟩::rest) sms g h al:=
 RE (d_box (k:=s) ti hn) ⟨hx,trivial⟩ trivial h3 H
variable {T:TypeId} {d:Nat} {gd:Option (Nat×Bool)}
theorem b_len {α:Type} {es:Nat} {agg:Bool} {f:α->Ty} {xs:List α} {E:TypeId} [hT:UnI P T (.slice E)]:Does P c ⟨some d,.call {callee:= .builtin .len,args:= #[x],argTypes:= #[T]},ty,pos,af,gd⟩ ⟨[(x,.val (tL es agg f xs))],[],some (d,some (.val (tI xs.length))),[],[]⟩:=xf9 hT.h
theorem qa4 {k es off len:Nat} {E:TypeId} [hT:UnI P T (.slice E)]:Does P c ⟨some d,.call {callee:= .builtin .len,args:= #[x],argTypes:= #[T]},ty,pos,af,gd⟩ ⟨[(x,.own (.sl k es off len))],[],some (d,some (.val (tI len))),[],[]⟩:=zc9 hT.h
end
section
variable {c:Base} {g:Slots} {h:Keys} {al:Names} {Q:Exit->Act->World->Prop} {P:Program}
theorem sC {g':Slots} {s:Nat} {e:Ent} (h2:Sub g' g) (h1:g s=some e:=by rfl):Sub (upd g' s (some e)) g:= .consI h1 .refl h2
theorem sI {g':Slots} {s:Nat} {k:IntKind} {m n:Int} (h2:Sub g' g) (h1:g s=some (.val (tE (.int k m))):=by rfl) (hmn:m=n:=by first | omega | rfl | (dsimp only;omega)):Sub (upd g' s (some (.val (tE (.int k n))))) g:= .consI h1 (.int hmn) h2
theorem kF {ι:Type} {I:ι->Prop} {G:ι->Slots} {H:ι->Keys} {l:List Nat} (i:ι) (hi:I i) (hg:Sub (G i) g:=by repeat (first | exact zay | refine zae rfl ?_ | refine zan rfl ?_)) (hh:SubK (H i) h:=by repeat (first | exact zax | refine SubK.cons rfl ?_))
  (sg:SupG (G i) (nm l):=by repeat (first | exact zar | refine zaj ?_ | refine zak rfl ?_)) (sh:SupH (H i) (nm l):=by repeat (first | exact zaz | refine zam rfl (supJ xd1) ?_ | refine zam rfl (supJ jc2) ?_ | refine zam rfl (supJ xa5) ?_ | refine zam rfl (supJL rfl) ?_)) (hlk:lkB c.ln c.yk (nm l)=true:=by rfl):
  wk c .normal (Exit.then (Fam c I G H (nm l)) Q) g h al:=xz8 i hi hg hh sg sh (lkOk hlk)
theorem cL {ι:Type} (I:ι->Prop) (G:ι->Slots) (H:ι->Keys) (l:List Nat) (μ:ι->Nat) (i:ι) (hi:I i) {x:Code} (round: ∀i,I i->wc P c x (Exit.then (Fam c (fun j=>I j/\μ j < μ i) G H (nm l)) Q) (G i) (H i) (nm l)) (hg:Sub (G i) g:=by repeat (first | exact zay | refine zae rfl ?_ | refine zan rfl ?_)) (hh:SubK (H i) h:=by repeat (first | exact zax | refine SubK.cons rfl ?_))
  (sg:SupG (G i) (nm l):=by repeat (first | exact zar | refine zaj ?_ | refine zak rfl ?_)) (sh:SupH (H i) (nm l):=by repeat (first | exact zaz | refine zam rfl (supJ xd1) ?_ | refine zam rfl (supJ jc2) ?_ | refine zam rfl (supJ xa5) ?_ | refine zam rfl (supJL rfl) ?_)) (hlk:lkB c.ln c.yk (nm l)=true:=by rfl):
  wc P c (.loop x) Q g h al:=ya2 I G H (nm l) μ i hi hg hh sg sh (lkOk hlk) round
end
theorem S0 {p q:Prop} (hs:q->p:=by
  first
  | ((with_reducible show _->RSeq _ _ _ _ (⟨_,_,_,_,_,none⟩::_) _ _ _ _);first
   | ((with_reducible show _->RSeq _ _ _ _ (⟨_,.move _,_,_,_,none⟩::_) _ _ _ _);first | exact R1 xb9 rfl)
   | ((with_reducible show _->RSeq _ _ _ _ (⟨_,.assign _,_,_,_,none⟩::_) _ _ _ _);first | exact R1 xe5 rfl)
   | ((with_reducible show _->RSeq _ _ _ _ (⟨_,.load _ _,_,_,_,none⟩::_) _ _ _ _);first | exact R1 (xm1 inferInstance) rfl | exact Rl (xc1 0 inferInstance rfl rfl) rfl rfl | exact RlF rfl rfl rfl (by first | exact At.g 0 rfl rfl | exact At.g 1 rfl rfl | exact At.g 2 rfl rfl | exact At.g 3 rfl rfl | exact At.g 4 rfl rfl | exact At.g 5 rfl rfl | exact At.g 6 rfl rfl))
   | ((with_reducible show _->RSeq _ _ _ _ (⟨_,.fieldAddr _ _ _,_,_,_,none⟩::_) _ _ _ _);first | exact R1 (xh0 FoI.h rfl) rfl)
   | ((with_reducible show _->RSeq _ _ _ _ (⟨_,.extract _ _,_,_,_,none⟩::_) _ _ _ _);first | exact R1 (zk9 rfl) rfl)
   | ((with_reducible show _->RSeq _ _ _ _ (⟨_,.call _,_,_,_,none⟩::_) _ _ _ _);first | exact R1 b_len rfl | exact R1 qa4 rfl)
   | ((with_reducible show _->RSeq _ _ _ _ (⟨_,.binOp .lss _ _ _ _,_,_,_,none⟩::_) _ _ _ _);first | exact R2 xh6 rfl rfl)
   | ((with_reducible show _->RSeq _ _ _ _ (⟨_,.binOp .eql _ _ _ _,_,_,_,none⟩::_) _ _ _ _);first | exact R2 ys3 rfl rfl | exact R2 (jc4 UnI.h) rfl rfl)
   | ((with_reducible show _->RSeq _ _ _ _ (⟨_,.binOp .neq _ _ _ _,_,_,_,none⟩::_) _ _ _ _);first | exact R2 yt4 rfl rfl | exact R2 (ja7 UnI.h) rfl rfl)
   | ((with_reducible show _->RSeq _ _ _ _ (⟨_,.binOp .leq _ _ _ _,_,_,_,none⟩::_) _ _ _ _);first | exact R2 zc4 rfl rfl)
   | ((with_reducible show _->RSeq _ _ _ _ (⟨_,.binOp .gtr _ _ _ _,_,_,_,none⟩::_) _ _ _ _);first | exact R2 yc6 rfl rfl)
   | ((with_reducible show _->RSeq _ _ _ _ (⟨_,.binOp .geq _ _ _ _,_,_,_,none⟩::_) _ _ _ _);first | exact R2 qr3 rfl rfl)
   | ((with_reducible show _->RSeq _ _ _ _ (⟨_,.binOp .add _ _ _ _,_,_,_,none⟩::_) _ _ _ _);first | exact R2 (xd8 zah) rfl rfl)
   | ((with_reducible show _->RSeq _ _ _ _ (⟨_,.binOp .sub _ _ _ _,_,_,_,none⟩::_) _ _ _ _);first | exact R2 (xd6 zah) rfl rfl)
   | ((with_reducible show _->RSeq _ _ _ _ (⟨_,.unOp _ _ _,_,_,_,none⟩::_) _ _ _ _);first | exact R1 xz2 rfl)
   | ((with_reducible show _->RSeq _ _ _ _ (⟨_,.nilCheck _,_,_,_,none⟩::_) _ _ _ _);first | exact R1 xw6 rfl | exact R1 yv4 rfl)
   | ((with_reducible show _->RSeq _ _ _ _ (⟨_,.pick _ _ _,_,_,_,none⟩::_) _ _ _ _);first | exact R2 (xc9 (by first | rfl | assumption | exact zbg (by assumption) | exact xb4 (by assumption))) rfl rfl | exact R2 (xc7 (by first | rfl | assumption | exact zbf (by assumption) | exact xa3 (by assumption))) rfl rfl)
   | ((with_reducible show _->RSeq _ _ _ _ (⟨_,.store _ _ _,_,_,_,none⟩::_) _ _ _ _);first | exact Rs rfl rfl rfl rfl rfl rfl rfl)
   | ((with_reducible show _->RSeq _ _ _ _ (⟨_,.box _ _,_,_,_,none⟩::_) _ _ _ _);first | exact Rbx rfl rfl ⟨rfl,trivial⟩))
  | ((with_reducible show _->RSeq _ _ _ _ (⟨_,_,_,_,_,some _⟩::_) _ _ _ _);first
   | exact RGoff (by first | rfl | assumption | exact zbf (by assumption) | exact zbg (by assumption) | exact xb4 (by assumption) | exact xa3 (by assumption)) rfl rfl
   | exact RGoffU rfl rfl
   | ((with_reducible show _->RSeq _ _ _ _ (⟨_,.move _,_,_,_,some _⟩::_) _ _ _ _);first | exact RG1 (by first | rfl | assumption | exact zbf (by assumption) | exact zbg (by assumption) | exact xb4 (by assumption) | exact xa3 (by assumption)) rfl xb9 rfl rfl)
   | ((with_reducible show _->RSeq _ _ _ _ (⟨_,.load _ _,_,_,_,some _⟩::_) _ _ _ _);first | exact RG1 (by first | rfl | assumption | exact zbf (by assumption) | exact zbg (by assumption) | exact xb4 (by assumption) | exact xa3 (by assumption)) rfl (xm1 inferInstance) rfl rfl | exact RGl (by first | rfl | assumption | exact zbf (by assumption) | exact zbg (by assumption) | exact xb4 (by assumption) | exact xa3 (by assumption)) rfl (xc1 0 inferInstance rfl rfl) rfl rfl rfl | exact RGlF (by first | rfl | assumption | exact zbf (by assumption) | exact zbg (by assumption) | exact xb4 (by assumption) | exact xa3 (by assumption)) rfl rfl rfl rfl rfl (by first | exact At.g 0 rfl rfl | exact At.g 1 rfl rfl | exact At.g 2 rfl rfl | exact At.g 3 rfl rfl | exact At.g 4 rfl rfl | exact At.g 5 rfl rfl | exact At.g 6 rfl rfl))
   | ((with_reducible show _->RSeq _ _ _ _ (⟨_,.fieldAddr _ _ _,_,_,_,some _⟩::_) _ _ _ _);first | exact RG1 (by first | rfl | assumption | exact zbf (by assumption) | exact zbg (by assumption) | exact xb4 (by assumption) | exact xa3 (by assumption)) rfl (xh0 FoI.h rfl) rfl rfl)
   | ((with_reducible show _->RSeq _ _ _ _ (⟨_,.unOp _ _ _,_,_,_,some _⟩::_) _ _ _ _);first | exact RG1 (by first | rfl | assumption | exact zbf (by assumption) | exact zbg (by assumption) | exact xb4 (by assumption) | exact xa3 (by assumption)) rfl xz2 rfl rfl)
   | ((with_reducible show _->RSeq _ _ _ _ (⟨_,.call _,_,_,_,some _⟩::_) _ _ _ _);first | exact RG1 (by first | rfl | assumption | exact zbf (by assumption) | exact zbg (by assumption) | exact xb4 (by assumption) | exact xa3 (by assumption)) rfl b_len rfl rfl)
   | ((with_reducible show _->RSeq _ _ _ _ (⟨_,.extract _ _,_,_,_,some _⟩::_) _ _ _ _);first | exact RG1 (by first | rfl | assumption | exact zbf (by assumption) | exact zbg (by assumption) | exact xb4 (by assumption) | exact xa3 (by assumption)) rfl (zk9 rfl) rfl rfl)
   | ((with_reducible show _->RSeq _ _ _ _ (⟨_,.binOp .lss _ _ _ _,_,_,_,some _⟩::_) _ _ _ _);first | exact RG2 (by first | rfl | assumption | exact zbf (by assumption) | exact zbg (by assumption) | exact xb4 (by assumption) | exact xa3 (by assumption)) rfl xh6 rfl rfl rfl)
   | ((with_reducible show _->RSeq _ _ _ _ (⟨_,.binOp .eql _ _ _ _,_,_,_,some _⟩::_) _ _ _ _);first | exact RG2 (by first | rfl | assumption | exact zbf (by assumption) | exact zbg (by assumption) | exact xb4 (by assumption) | exact xa3 (by assumption)) rfl ys3 rfl rfl rfl)
   | ((with_reducible show _->RSeq _ _ _ _ (⟨_,.binOp .neq _ _ _ _,_,_,_,some _⟩::_) _ _ _ _);first | exact RG2 (by first | rfl | assumption | exact zbf (by assumption) | exact zbg (by assumption) | exact xb4 (by assumption) | exact xa3 (by assumption)) rfl yt4 rfl rfl rfl)
   | ((with_reducible show _->RSeq _ _ _ _ (⟨_,.binOp .leq _ _ _ _,_,_,_,some _⟩::_) _ _ _ _);first | exact RG2 (by first | rfl | assumption | exact zbf (by assumption) | exact zbg (by assumption) | exact xb4 (by assumption) | exact xa3 (by assumption)) rfl zc4 rfl rfl rfl)
   | ((with_reducible show _->RSeq _ _ _ _ (⟨_,.binOp .gtr _ _ _ _,_,_,_,some _⟩::_) _ _ _ _);first | exact RG2 (by first | rfl | assumption | exact zbf (by assumption) | exact zbg (by assumption) | exact xb4 (by assumption) | exact xa3 (by assumption)) rfl yc6 rfl rfl rfl)
   | ((with_reducible show _->RSeq _ _ _ _ (⟨_,.binOp .geq _ _ _ _,_,_,_,some _⟩::_) _ _ _ _);first | exact RG2 (by first | rfl | assumption | exact zbf (by assumption) | exact zbg (by assumption) | exact xb4 (by assumption) | exact xa3 (by assumption)) rfl qr3 rfl rfl rfl))
  | ((with_reducible show _->RSeq _ _ _ _ [] _ _ _ _);first | with_reducible exact xm4 (by with_unfolding_all kernel_rfl) | with_reducible exact yb7 (by with_unfolding_all kernel_rfl))
  | ((with_reducible show _->wk _ .normal (Exit.then _ _) _ _ _);exact xf5)
  | with_reducible exact xm6
  | with_reducible exact xw5
  | with_reducible exact xz3
  | with_reducible exact xw7
  | with_reducible exact yb4
  | with_reducible exact ya0
  | with_reducible exact y9
  | with_reducible exact xf2
  | with_reducible exact xk5
  | with_reducible exact K_retB
  | with_reducible exact yb5
  | ((with_reducible show _->wk _ (.exit _) (Exit.inBlock _ _) _ _ _);exact K_exO rfl)
  | ((with_reducible show _->wc _ _ (.cond _ _ _) _ _ _ _);first | exact yr6 rfl (by first | rfl | assumption | exact zbg (by assumption) | exact xb4 (by assumption)) | exact xw4 rfl (by first | rfl | assumption | exact zbf (by assumption) | exact xa3 (by assumption)))
  | ((with_reducible show _->wc _ _ (.region _ _ true) _ _ _ _);exact ye5 mixed)):q->p:=hs
theorem S1 {p q:Prop} (hs:q->p:=by first | exact S0 | ((show _->RSeq _ _ _ _ (_::_) _ _ _ _);exact S0) | ((show _->RSeq _ _ _ _ [] _ _ _ _);exact S0)):q->p:=hs
theorem B2 {p q r:Prop} (a:q->p) (b:r->q):r->p:=fun h=>a (b h)
theorem A1 {p q:Prop} (hq:q) (hs:q->p:=by exact S1):p:=hs hq
theorem A2 {p q:Prop} (hq:q) (hs:q->p:=by exact B2 S1 S1):p:=hs hq
theorem A3 {p q:Prop} (hq:q) (hs:q->p:=by exact B2 S1 (B2 S1 S1)):p:=hs hq
theorem A4 {p q:Prop} (hq:q) (hs:q->p:=by exact B2 S1 (B2 S1 (B2 S1 S1))):p:=hs hq
theorem A5 {p q:Prop} (hq:q) (hs:q->p:=by exact B2 S1 (B2 S1 (B2 S1 (B2 S1 S1)))):p:=hs hq
theorem A6 {p q:Prop} (hq:q) (hs:q->p:=by exact B2 S1 (B2 S1 (B2 S1 (B2 S1 (B2 S1 S1))))):p:=hs hq
theorem A7 {p q:Prop} (hq:q) (hs:q->p:=by exact B2 S1 (B2 S1 (B2 S1 (B2 S1 (B2 S1 (B2 S1 S1)))))):p:=hs hq
theorem A8 {p q:Prop} (hq:q) (hs:q->p:=by exact B2 S1 (B2 S1 (B2 S1 (B2 S1 (B2 S1 (B2 S1 (B2 S1 S1))))))):p:=hs hq
theorem A9 {p q:Prop} (hq:q) (hs:q->p:=by exact B2 S1 (B2 S1 (B2 S1 (B2 S1 (B2 S1 (B2 S1 (B2 S1 (B2 S1 S1)))))))):p:=hs hq
theorem S9 {p q:Prop} (hs:q->p:=by exact B2 S1 (B2 S1 (B2 S1 (B2 S1 (B2 S1 (B2 S1 (B2 S1 (B2 S1 S1)))))))):q->p:=hs
theorem A10 {p q:Prop} (hq:q) (hs:q->p:=by exact B2 S9 S1):p:=hs hq
theorem A11 {p q:Prop} (hq:q) (hs:q->p:=by exact B2 S9 (B2 S1 S1)):p:=hs hq
theorem A12 {p q:Prop} (hq:q) (hs:q->p:=by exact B2 S9 (B2 S1 (B2 S1 S1))):p:=hs hq
theorem A13 {p q:Prop} (hq:q) (hs:q->p:=by exact B2 S9 (B2 S1 (B2 S1 (B2 S1 S1)))):p:=hs hq
theorem A14 {p q:Prop} (hq:q) (hs:q->p:=by exact B2 S9 (B2 S1 (B2 S1 (B2 S1 (B2 S1 S1))))):p:=hs hq
theorem A15 {p q:Prop} (hq:q) (hs:q->p:=by exact B2 S9 (B2 S1 (B2 S1 (B2 S1 (B2 S1 (B2 S1 S1)))))):p:=hs hq
theorem A16 {p q:Prop} (hq:q) (hs:q->p:=by exact B2 S9 (B2 S1 (B2 S1 (B2 S1 (B2 S1 (B2 S1 (B2 S1 S1))))))):p:=hs hq
theorem A17 {p q:Prop} (hq:q) (hs:q->p:=by exact B2 S9 (B2 S1 (B2 S1 (B2 S1 (B2 S1 (B2 S1 (B2 S1 (B2 S1 S1)))))))):p:=hs hq
theorem A18 {p q:Prop} (hq:q) (hs:q->p:=by exact B2 S9 S9):p:=hs hq
end An
namespace An.S
open Go Go.Proofs An Tryz
abbrev zgy:=@Tryz.underlying37
abbrev zgz:=@Tryz.underlying233
abbrev zha:=@Tryz.underlying23
abbrev zhb:=@Tryz.underlying284
abbrev zhc:=@Tryz.underlying64
abbrev zhd:=@Tryz.underlying123
abbrev zhe:=@Tryz.underlying5
abbrev zhf:=@Tryz.underlying9
abbrev zhg:=@Tryz.underlying3
abbrev zhh:=@Tryz.underlying283
abbrev zhi:=@Tryz.underlying4
abbrev zhj:=@Tryz.underlying71
abbrev zhk:=@Tryz.underlying113
abbrev zhm:=@Tryz.underlying51
abbrev zhn:=@Tryz.underlying133
abbrev zho:=@Tryz.underlying166
abbrev zhp:=@Tryz.underlying218
abbrev zhq:=@Tryz.underlying210
instance ti3:TyI Tryz.prog 3 1 false:=⟨by kernel_rfl,by kernel_rfl⟩
instance ti64:TyI Tryz.prog 64 1 false:=⟨by kernel_rfl,by kernel_rfl⟩
instance ti284:TyI Tryz.prog 284 1 false:=⟨by kernel_rfl,by kernel_rfl⟩
instance sl37:SlI Tryz.prog 37 64 1 false:=⟨zgy,ti64⟩
instance sl233:SlI Tryz.prog 233 284 1 false:=⟨zgz,ti284⟩
theorem el3:ElI Tryz.prog 3 1 8 false (.int .i64 0):=⟨ti3,by kernel_rfl,by kernel_rfl⟩
theorem el64:ElI Tryz.prog 64 1 2 false (.int .u16 0):=⟨ti64,by kernel_rfl,by kernel_rfl⟩
theorem el284:ElI Tryz.prog 284 1 4 false (.int .u32 0):=⟨ti284,by kernel_rfl,by kernel_rfl⟩
theorem zf3:Flat 1 false (.int .i64 0):=xd3 rfl
theorem zf64:Flat 1 false (.int .u16 0):=xd3 rfl
theorem zf284:Flat 1 false (.int .u32 0):=xd3 rfl
instance un23:UnI Tryz.prog 23 (.slice 3):=⟨zha⟩
instance un37:UnI Tryz.prog 37 (.slice 64):=⟨zgy⟩
instance un233:UnI Tryz.prog 233 (.slice 284):=⟨zgz⟩
theorem mixed:Tryz.prog.follows .mixedOrders=true:=by kernel_rfl
theorem qv0 {a:List Nat} {k:Nat} (hk:k<=a.length) (h0:0 < k) (hz:(a.take k).getD (k - 1) 0=0):trimL (a.take (k - 1))=trimL (a.take k):=by
 have h1:=xf8 a (k - 1) (by omega);rw [show k - 1+1=k from by omega] at h1;have h2:(a.take k).getD (k - 1) 0=a.getD (k - 1) 0:=by
  rw [zbh,List.getElem?_take,if_pos (by omega),<-zbh]
 rw [h1,<-h2,hz,xq8]
theorem jb9 {a:List Nat} {k:Nat} (hk:k<=a.length) (h0:0 < k) (hz: ¬(a.take k).getD (k - 1) 0=0):trimL (a.take k)=a.take k:=by
 refine yc5 fun x hx=> ?_;have h1:=xf8 a (k - 1) (by omega);rw [show k - 1+1=k from by omega] at h1;have h2:(a.take k).getD (k - 1) 0=a.getD (k - 1) 0:=by
  rw [zbh,List.getElem?_take,if_pos (by omega),<-zbh]
 rw [h1,List.getLast?_append] at hx;simp at hx;rw [<-hx];rw [h2] at hz;simpa [List.getD_eq_getElem?_getD] using hz
theorem xp0 (a:List Nat):
  Ct Tryz.prog 335 [tWs a] (tWs (trimL a)):=by
 refine Ct.intro func335 rfl ntmps335 rfl ?_;intro w F;refine xg9 (s:=0) rfl (fun hl0=> ?_);refine A7 ?_;refine cL (fun (k:Nat)=>k<=a.length/\trimL (a.take k)=trimL a) (fun (k:Nat)=>uV uN 0 (tWs (a.take k))) (fun (k:Nat)=>fun _=>none) [] (fun (k:Nat)=>k) (a.length) ⟨zbs _,by rw [zbx]⟩ (hg:=(Sub.le rfl (Le.of (by rw [zbx])) zay)) ?_;intro k hI;obtain ⟨hk,hc⟩:=hI;have hkl:(a.take k).length=k:=by rw [zde];omega
 refine A7 ?_;refine RGcaseD (t:=6) rfl (fun h53=> ?_) (fun h53=> ?_)
 ·
  refine A3 ?_;refine Rg (zbg h53) rfl (xd6 zah) rfl qB (Rg (zbg h53) rfl (x4 sl233 (k - 1) (by omega) (gN (by omega))) rfl qB ?_);refine A5 ?_;refine x6 rfl (fun h53_2=> ?_) (fun h53_2=> ?_)
  ·
   refine A8 ?_;refine R2 (yh8 sl233 (k - 1) (by omega) (by omega) (by rw [List.take_take,zfo (by omega)])) rfl rfl ?_;refine A3 ?_;exact kF (k - 1) ⟨⟨by omega,by rw [qv0 hk (by omega) (by omega)];exact hc⟩,(by omega)⟩
  ·
   refine A12 ?_;exact E1 rfl rfl (Le.of (by rw [<-hc,jb9 hk (by omega) (by omega)]))
 ·
  refine A18 ?_;refine A5 ?_;exact E1 rfl rfl (Le.of (by rw [<-hc,show k=0 from by omega,zgo];rfl))
theorem zo5 (xs:List Nat) (hx:xs.length<=1000000):
  CtG Tryz.prog 376 [] [.val (tWs xs)] (.own (.sl 2 1 0 xs.length)) [(2,⟨284,1,false,rW .u32 xs⟩)] [2]:=by
 refine CtG.intro [] func376 rfl ntmps376 rfl rfl trivial ?_;intro w F η;refine A9 ?_;refine R1 (qo9 zgz) rfl ?_;refine A2 ?_;refine ja0 (s:=4) rfl (fun b357 hb357=> ?_);refine xc2 rfl (fun h357=> ?_) (fun h357=> ?_)
 ·
  subst h357;have hnil:=hb357 rfl;subst hnil;refine A2 ?_;refine RE (xe3 (k:=2) 284 1 false rfl (fun _=>rfl)) trivial trivial qA ?_;refine A4 ?_;exact xc5 LentC.mk' rfl rfl Imp.refl qA rfl ⟨⟨rfl,xd1⟩,trivial⟩ rfl
 ·
  refine A4 ?_;refine RE (ya6 (k:=5) (ents:=[]) zgz el284 zf284 rfl (by simp) rfl rfl rfl) trivial trivial qA ?_;refine A1 ?_;refine RE (xb3 (k:=5) (k':=2) (ts':=rW .u32 xs) zgz el284 zf284 rfl rfl (fun _=>inferInstance) rfl (by simp;omega) (by simp;omega) (by simp [rW]) (n':=xs.length) (by simp)) ⟨rfl,rfl,trivial⟩ ⟨rfl,trivial⟩ ⟨rfl,trivial⟩ ?_;refine A4 ?_;exact xc5 LentC.mk' rfl rfl Imp.refl qA rfl ⟨⟨rfl,xd1⟩,trivial⟩ rfl
theorem yi1 (xs:List Nat) (hx:xs.length<=1000000):
  CtG Tryz.prog 216 [] [.val (tLm xs)] (.own (.sl 2 1 0 xs.length)) [(2,⟨64,1,false,rW .u16 xs⟩)] [2]:=by
 refine CtG.intro [] func216 rfl ntmps216 rfl rfl trivial ?_;intro w F η;refine A9 ?_;refine R1 (qo9 zgy) rfl ?_;refine A2 ?_;refine ja0 (s:=4) rfl (fun b357 hb357=> ?_);refine xc2 rfl (fun h357=> ?_) (fun h357=> ?_)
 ·
  subst h357;have hnil:=hb357 rfl;subst hnil;refine A2 ?_;refine RE (xe3 (k:=2) 64 1 false rfl (fun _=>rfl)) trivial trivial qA ?_;refine A4 ?_;exact xc5 LentC.mk' rfl rfl Imp.refl qA rfl ⟨⟨rfl,xd1⟩,trivial⟩ rfl
 ·
  refine A4 ?_;refine RE (ya6 (k:=5) (ents:=[]) zgy el64 zf64 rfl (by simp) rfl rfl rfl) trivial trivial qA ?_;refine A1 ?_;refine RE (xb3 (k:=5) (k':=2) (ts':=rW .u16 xs) zgy el64 zf64 rfl rfl (fun _=>inferInstance) rfl (by simp;omega) (by simp;omega) (by simp [rW]) (n':=xs.length) (by simp)) ⟨rfl,rfl,trivial⟩ ⟨rfl,trivial⟩ ⟨rfl,trivial⟩ ?_;refine A4 ?_;exact xc5 LentC.mk' rfl rfl Imp.refl qA rfl ⟨⟨rfl,xd1⟩,trivial⟩ rfl
theorem c_pack (l:List Nat) (hl:Dig 65536 l) (hn:l.length<=1000000):
  Ct Tryz.prog 214 [tLm l] (tWs (dgs 4294967296 ((l.length+1) / 2) (val 65536 l))):=by
 refine Ct.intro func214 rfl ntmps214 rfl ?_;intro w F;refine A10 ?_;refine R2 (yf2 (by omega) (by omega) zah) rfl rfl (RE (xg0 (k:=10) (t:=tE (.int .u32 0)) (ts:=rW .u32 (dgs 4294967296 ((l.length+1) / 2) 0)) ((l.length+1) / 2) ((l.length+1) / 2) zgz el284 (fun _ _=>rfl) rfl (by omega) (by omega) (zbs _) (by omega) (by omega) (by rw [zn8];exact xp5 _)) qB trivial qA ?_);refine A12 ?_;refine cL (fun (i:Nat)=>i<=l.length) (fun (i:Nat)=>uV (uV (uV (uO uN 3 (.sl 10 1 0 ((l.length+1) / 2))) 11 (tLm l)) 12 (tI l.length)) 13 (tI i)) (fun (i:Nat)=>uK uN 10 284 1 false (rW .u32 (dgs 4294967296 ((l.length+1) / 2) (val 65536 (l.take i))))) [10] (fun (i:Nat)=>l.length - i) (0) (zbq _) (hh:=(zaq rfl (ImpK.ofTs (by simp [val])) zax)) ?_;intro i hI;refine A6 ?_;refine x6 rfl (fun h28=> ?_) (fun h28=> ?_)
 ·
  have hx:=hl.getD (by omega) i;have hw:(dgs 4294967296 ((l.length+1) / 2) (val 65536 (l.take i))).getD (i / 2) 0 < 65536 ^ (i%2):=by rw [xs3 (by omega)];exact yq6 hl i (by omega)
  refine A7 ?_;refine R2 (x4 sl37 (i) (by omega) (gN (by omega))) rfl rfl ?_;refine A8 ?_;refine R2 (yf2 (by omega) (by omega) zah) rfl rfl (R2 (zag sl233 rfl) rfl rfl (RE (xc1 (i / 2) ti284 (xn7 (by rw [xe9];omega)) (by omega)) qA qA trivial ?_));refine A1 ?_;refine R1 (x5 zhb (isS zhc) (by first | exact wu32 (by omega) (by omega) | exact mu32)) rfl ?_;refine A1 ?_;refine R2 (xg3 (by omega) (by omega)) rfl rfl (R2 (xi2 zah) rfl rfl (R2 (xi7 (by omega) (shl16 hx)) rfl rfl (R2 (xq6 (qj9 hw hx)) rfl rfl (R2 (zag sl233 rfl) rfl rfl (RE (xb8 (i / 2) ti284 (xj0 (by rw [xe9];omega)) (by omega) (xh1 (m:=_) rfl)) qB qA trivial ?_)))));refine A7 ?_;exact kF (i+1) ⟨(by omega),(by omega)⟩ (hh:=(zaq rfl (ImpK.ofTs (by rw [zn5 hl (by omega) (by omega)])) zax))
 ·
  refine A7 ?_;refine RE (xi6 (fun _ h=>h) (xi4 (xe9 _ _ _)) (xe9 _ _ _)) qA qA trivial ?_;refine A4 ?_;exact E1 rfl rfl (Le.of (by rw [show i=l.length by omega,zbx]))
instance fi347:FnI Tryz.prog 347:=⟨_,func347,by kernel_rfl,rfl⟩
def subD (x y b:Nat):Nat:=(x+8589934592 - y - b)%4294967296
def subB (x y b:Nat):Nat:=if x < y+b then 1 else 0
theorem zg9 (x y b:Nat):subD x y b < 4294967296:=zck _ (by decide)
theorem wc4 {x y b:Nat} (hy:y < 4294967296) (hb:b<=1):IntKind.u32.wrap (((x:Int) - y)%4294967296 - b)=((subD x y b:Nat):Int):=by
 rw [mu32,subD];omega
theorem shr31 {m k:Nat} (h:m / 2147483648=k):((m:Nat):Int).fdiv (2 ^ (min (31:Int).toNat IntKind.u32.bits))=((k:Nat):Int):=by
 have e:(2:Int) ^ (min (31:Int).toNat IntKind.u32.bits)=((2147483648:Nat):Int):=by decide
 rw [e,<-h,zgn _ (by omega)];rfl
theorem zg8 (x y b:Nat) (hx:x < 4294967296) (hy:y < 4294967296) (hb:b<=1):
  Ct Tryz.prog 382 [tE (.int .u32 (x:Int)),tE (.int .u32 (y:Int)),tE (.int .u32 (b:Int))] (tT [tE (.int .u32 (subD x y b:Nat)),tE (.int .u32 (subB x y b:Nat))]):=by
 have hd:=zg9 x y b;have hxy:(x ^^^ y) < 4294967296:=Nat.xor_lt_two_pow (n:=32) hx hy;have ha:((4294967295 - x) &&& y) < 4294967296:=Nat.and_lt_two_pow _ (n:=32) hy;have hc:((4294967295 - (x ^^^ y)) &&& subD x y b) < 4294967296:=Nat.and_lt_two_pow _ (n:=32) hd;refine Ct.intro func382 rfl ntmps382 rfl ?_;intro w F;refine A10 ?_;refine R2 (xd6 mu32) rfl rfl ?_;refine A1 ?_;refine R2 (xd6 (wc4 hy hb)) rfl rfl ?_;refine A6 ?_;refine R1 (qk1 hx) rfl ?_;refine A1 ?_;refine R2 (d_and (band32 (by omega) hy)) rfl rfl ?_;refine A2 ?_;refine R2 (d_xor (bxor32 hx hy)) rfl rfl (R1 (qk1 hxy) rfl ?_);refine A1 ?_;refine R2 (d_and (band32 (by omega) hd)) rfl rfl (R2 (xq6 (bor32 ha hc)) rfl rfl (R2 (xh3 (by decide) (shr31 (borrow32 hx hy hb rfl))) rfl rfl ?_));refine A4 ?_;exact E2 rfl rfl rfl zao zao
theorem shr32 {m:Nat}:((m:Nat):Int).fdiv (2 ^ (min (32:Int).toNat IntKind.u64.bits))=((m / 4294967296:Nat):Int):=by
 have e:(2:Int) ^ (min (32:Int).toNat IntKind.u64.bits)=((4294967296:Nat):Int):=by decide
 rw [e,zgn _ (by omega)];rfl
theorem jz8 (x y b:Nat) (hx:x < 4294967296) (hy:y < 4294967296) (hb:b<=1):
  Ct Tryz.prog 397 [tE (.int .u32 (x:Int)),tE (.int .u32 (y:Int)),tE (.int .u32 (b:Int))] (tT [tE (.int .u32 ((x+y+b)%4294967296:Nat)),tE (.int .u32 ((x+y+b) / 4294967296:Nat))]):=by
 refine Ct.intro func397 rfl ntmps397 rfl ?_;intro w F;refine A9 ?_;refine R1 (x5 zhd (isS zhb) (by first | exact wu64 (by omega) (by omega) | exact mu64)) rfl ?_;refine A1 ?_;refine R1 (x5 zhd (isS zhb) (by first | exact wu64 (by omega) (by omega) | exact mu64)) rfl (R2 (xd8 (by first | exact wu64 (by omega) (by omega) | exact mu64)) rfl rfl ?_);refine A1 ?_;refine R1 (x5 zhd (isS zhb) (by first | exact wu64 (by omega) (by omega) | exact mu64)) rfl (R2 (xd8 (r:=((x+y+b:Nat):Int)) (by rw [wu64 (by omega) (by omega)];omega)) rfl rfl ?_);refine A6 ?_;refine R1 (x5 zhb (isS zhd) (r:=(((x+y+b)%4294967296:Nat):Int)) (by rw [mu32];omega)) rfl ?_;refine A6 ?_;refine R2 (xh3 (by decide) shr32) rfl rfl (R1 (x5 zhb (isS zhd) (by first | exact wu32 (by omega) (by omega) | exact mu32)) rfl ?_);refine A4 ?_;exact E2 rfl rfl rfl zao zao
theorem shl32 {m:Nat} (h:m < 4294967296):IntKind.u64.wrap ((m:Int)*2 ^ (min (32:Int).toNat IntKind.u64.bits))=((m*2 ^ 32:Nat):Int):=by
 have e:(2:Int) ^ (min (32:Int).toNat IntKind.u64.bits)=4294967296:=by decide
 rw [e,wu64 (by omega) (by omega)];omega
theorem or32 {m n:Nat} (hm:m < 4294967296) (hn:n < 4294967296):bits .or .u64 ((m*2 ^ 32:Nat):Int) (n:Int)=((n+m*2 ^ 32:Nat):Int):=
 qg2 n m 32 rfl rfl (by omega) (wu64 (by omega) (by omega)) (by have:IntKind.u64.bits=64:=rfl;rw [this];omega)
theorem div32_lt {m n y:Nat} (hm:m < y) (hn:n < 4294967296):(n+m*2 ^ 32) / y < 4294967296:=by
 refine zdc ?_;have:(m+1)*4294967296<=y*4294967296:=zbt _ hm;omega
theorem jw2 (m n y q r:Nat) (hm:m < y) (hn:n < 4294967296) (hy:y < 4294967296) (hq:(n+m*2 ^ 32) / y=q) (hr:(n+m*2 ^ 32)%y=r):
  Ct Tryz.prog 396 [tE (.int .u32 (m:Int)),tE (.int .u32 (n:Int)),tE (.int .u32 (y:Int))] (tT [tE (.int .u32 (q:Int)),tE (.int .u32 (r:Int))]):=by
 have hq2:q < 4294967296:=hq▸div32_lt hm hn;have hr2:r < y:=hr▸zck _ (by omega);have hb:n+m*2 ^ 32 < 18446744073709551616:=by omega
 refine Ct.intro func396 rfl ntmps396 rfl ?_;intro w F;refine A12 ?_;refine RGcaseD (t:=11) rfl (fun h506=> ?_) (fun h506=> ?_)
 ·
  refine A6 ?_;refine xw4 rfl (zbf (by omega)) ?_;refine A5 ?_;refine R1 (x5 zhd (isS zhb) (by first | exact wu64 (by omega) (by omega) | exact mu64)) rfl (R2 (xi7 (by decide) (shl32 (by omega))) rfl rfl ?_);refine A1 ?_;refine R1 (x5 zhd (isS zhb) (by first | exact wu64 (by omega) (by omega) | exact mu64)) rfl (R2 (xq6 (or32 (by omega) hn)) rfl rfl ?_);refine A7 ?_;refine R1 (x5 zhd (isS zhb) (by first | exact wu64 (by omega) (by omega) | exact mu64)) rfl (R2 (xe4 (r:=(q:Int)) (by omega) (by rw [Int.tdiv_eq_ediv_of_nonneg (by omega)];exact (congrArg _ ((Int.natCast_ediv _ _).symm.trans (congrArg _ hq))).trans (wu64 (by omega) (by omega)))) rfl rfl (R1 (x5 zhb (isS zhd) (by first | exact wu32 (by omega) (by omega) | exact mu32)) rfl ?_));refine A2 ?_;refine R1 (x5 zhd (isS zhb) (by first | exact wu64 (by omega) (by omega) | exact mu64)) rfl (R2 (xd9 (r:=(r:Int)) (by omega) (by rw [Int.tmod_eq_emod_of_nonneg (by omega)];exact (Int.natCast_emod _ _).symm.trans (congrArg _ hr))) rfl rfl (R1 (x5 zhb (isS zhd) (by first | exact wu32 (by omega) (by omega) | exact mu32)) rfl ?_));refine A5 ?_;exact E2 rfl rfl rfl zao zao
 ·
  exact absurd h506 (by omega)
theorem jb0 (x:Nat):Lib.bitLen x<=64:=by
  have: ∀f x,Lib.bitLenAux f x<=f:=by
    intro f
    induction f with
    | zero=>intro x;simp [Lib.bitLenAux]
    | succ f ih => intro x; simp only [Lib.bitLenAux]; split
                   · omega
                   · have:=ih (x / 2);omega
  exact this 64 x
theorem wrl (y:Nat):IntKind.i64.wrap ((Lib.bitLen y:Nat):Int)=((Lib.bitLen y:Nat):Int):=wr64 (by omega) (by have:=jb0 y;omega)
theorem wrl2 {e:Int} {y:Nat} (h0:0<=e) (h1:e<=100):IntKind.i64.wrap (e+((Lib.bitLen y:Nat):Int))=e+((Lib.bitLen y:Nat):Int):=wr64 (by omega) (by have:=jb0 y;omega)
theorem shrN {m s:Nat} {k:IntKind} {i:Int} (hi:i=(s:Int)) (hs:s<=k.bits):((m:Nat):Int).fdiv (2 ^ (min i.toNat k.bits))=((m / 2 ^ s:Nat):Int):=by
 subst hi;rw [Int.toNat_natCast,zfo hs,zgn _ (by exact_mod_cast zbq _)];simp
theorem js3 (x:Nat) (hx:x < 4294967296):
  Ct Tryz.prog 347 [tE (.int .u32 (x:Int))] (tI (Lib.bitLen x:Nat)):=by
 refine Ct.intro func347 rfl ntmps347 rfl ?_;intro w F;refine A12 ?_;refine x6 rfl (fun h325=> ?_) (fun h325=> ?_)
 ·
  refine A3 ?_;refine R2 (xh3 (by decide) (shrN (s:=16) rfl (by decide))) rfl rfl ?_;refine A14 ?_;refine x6 rfl (fun h329=> ?_) (fun h329=> ?_)
  ·
   refine A3 ?_;refine R2 (xh3 (by decide) (shrN (s:=8) rfl (by decide))) rfl rfl ?_;refine A13 ?_;refine R1 (x5 zhe (isS zhb) (by first | exact wu8 (by omega) (by omega))) rfl (R1 (xu0 Lib.bitLen _ zhf rfl (by omega) (by decide+kernel)) rfl (R1 (x5 zhg (isS zhe) (wrl _)) rfl (R2 (xd8 (wrl2 (by omega) (by omega))) rfl rfl ?_)));refine A4 ?_;exact E1 rfl rfl (zba (by have h1:=Lib.bitLen_shift16 x (by omega) (by omega);have h2:=Lib.bitLen_shift8 (x / 65536) (by omega) (by omega);simp only [Nat.reducePow];omega))
  ·
   refine A6 ?_;refine R1 (x5 zhe (isS zhb) (by first | exact wu8 (by omega) (by omega))) rfl (R1 (xu0 Lib.bitLen _ zhf rfl (by omega) (by decide+kernel)) rfl (R1 (x5 zhg (isS zhe) (wrl _)) rfl (R2 (xd8 (wrl2 (by omega) (by omega))) rfl rfl ?_)));refine A4 ?_;exact E1 rfl rfl (zba (by have h1:=Lib.bitLen_shift16 x (by omega) (by omega);simp only [Nat.reducePow];omega))
 ·
  refine A9 ?_;refine x6 rfl (fun h329=> ?_) (fun h329=> ?_)
  ·
   refine A3 ?_;refine R2 (xh3 (by decide) (shrN (s:=8) rfl (by decide))) rfl rfl ?_;refine A13 ?_;refine R1 (x5 zhe (isS zhb) (by first | exact wu8 (by omega) (by omega))) rfl (R1 (xu0 Lib.bitLen _ zhf rfl (by omega) (by decide+kernel)) rfl (R1 (x5 zhg (isS zhe) (wrl _)) rfl (R2 (xd8 (wrl2 (by omega) (by omega))) rfl rfl ?_)));refine A4 ?_;exact E1 rfl rfl (zba (by have h1:=Lib.bitLen_shift8 x (by omega) (by omega);simp only [Nat.reducePow];omega))
  ·
   refine A6 ?_;refine R1 (x5 zhe (isS zhb) (by first | exact wu8 (by omega) (by omega))) rfl (R1 (xu0 Lib.bitLen _ zhf rfl (by omega) (by decide+kernel)) rfl (R1 (x5 zhg (isS zhe) (wrl _)) rfl (R2 (xd8 (wrl2 (by omega) (by omega))) rfl rfl ?_)));refine A4 ?_;exact E1 rfl rfl (zba (by omega))
theorem xu9 (x:Nat) (hx:x < 4294967296):
  Ct Tryz.prog 378 [tE (.int .u32 (x:Int))] (tI ((32 - Lib.bitLen x:Nat):Int)):=by
 have hl:=Lib.bitLen_le x 32 (by decide) hx;refine Ct.intro func378 rfl ntmps378 rfl ?_;intro w F;refine A8 ?_;refine Rt (x3 (js3 _ hx) fi347 rfl) qA ?_;refine A5 ?_;exact E1 rfl rfl (zba (by omega))
instance ti123:TyI Tryz.prog 123 1 false:=⟨by kernel_rfl,by kernel_rfl⟩
instance ti233:TyI Tryz.prog 233 1 false:=⟨by kernel_rfl,by kernel_rfl⟩
instance ti407:TyI Tryz.prog 407 1 false:=⟨by kernel_rfl,by kernel_rfl⟩
instance fi335:FnI Tryz.prog 335:=⟨_,func335,by kernel_rfl,rfl⟩
instance fi376:FnI Tryz.prog 376:=⟨_,func376,by kernel_rfl,rfl⟩
instance fi381:FnI Tryz.prog 381:=⟨_,func381,by kernel_rfl,rfl⟩
instance fi382:FnI Tryz.prog 382:=⟨_,func382,by kernel_rfl,rfl⟩
instance fi398:FnI Tryz.prog 398:=⟨_,func398,by kernel_rfl,rfl⟩
theorem zr123:(Tryz.prog.info? 123).bind (·.zero)=some (.int .u64 0)/\ ∀F w,(tE (.int .u64 0)).p F w (.int .u64 0):=⟨by kernel_rfl,fun _ _=>rfl⟩
theorem zr233:(Tryz.prog.info? 233).bind (·.zero)=some (.slice none 0 0)/\ ∀F w,(tWs []).p F w (.slice none 0 0):=⟨by kernel_rfl,fun _ _=>⟨none,0,rfl,zbs _,by decide,.inl rfl⟩⟩
theorem yr3 {a b k:Nat} (h0:0 < k) (h:a / 4294967296 ^ k=b / 4294967296 ^ k):a / 4294967296 ^ (k - 1+1)=b / 4294967296 ^ (k - 1+1):=by
 rw [show k - 1+1=k by omega];exact h
theorem yr1 (a b:Nat):
  Ct Tryz.prog 213 [tN a,tN b] (tI (cmpN a b)):=by
 refine Ct.intro func213 rfl ntmps213 rfl ?_;intro w F;refine xg9 (s:=0) rfl (fun hl0=> ?_);refine xg9 (s:=1) rfl (fun hl1=> ?_);have ha:=xf6 x9 a;have hb:=xf6 x9 b;refine A15 ?_;refine x6 rfl (fun h75=> ?_) (fun h75=> ?_)
 ·
  refine A10 ?_;refine x6 rfl (fun h76=> ?_) (fun h76=> ?_)
  ·
   refine A8 ?_;exact E1 rfl rfl (zba (qi4 (zu3 x9 (by omega))).symm)
  ·
   refine A9 ?_;exact E1 rfl rfl (zba (qi6 (zu3 x9 (by omega))).symm)
 ·
  refine A12 ?_;have hlen:(dig 4294967296 a).length=(dig 4294967296 b).length:=by omega
  rw [<-hlen] at hb;refine cL (fun (k:Nat)=>k<=(dig 4294967296 a).length/\a / 4294967296 ^ k=b / 4294967296 ^ k) (fun (k:Nat)=>uV (uV (uV uN 0 (tN a)) 1 (tN b)) 5 (tI ((k:Int) - 1))) (fun (k:Nat)=>fun _=>none) [] (fun (k:Nat)=>k) ((dig 4294967296 a).length) ⟨zbs _,by rw [zcz ha,zcz hb]⟩ ?_;intro k hI;obtain ⟨hk,hc⟩:=hI;refine A7 ?_;refine x6 rfl (fun h81=> ?_) (fun h81=> ?_)
  ·
   refine A8 ?_;refine R2 (x4 sl233 (k - 1) (by omega) (gN (by omega))) rfl rfl ?_;refine A3 ?_;refine R2 (x4 sl233 (k - 1) (by omega) (gN (by omega))) rfl rfl ?_;refine A4 ?_;refine x6 rfl (fun h82=> ?_) (fun h82=> ?_)
   ·
    refine A5 ?_;refine R2 (x4 sl233 (k - 1) (by omega) (gN (by omega))) rfl rfl ?_;refine A3 ?_;refine R2 (x4 sl233 (k - 1) (by omega) (gN (by omega))) rfl rfl ?_;refine A4 ?_;refine x6 rfl (fun h83=> ?_) (fun h83=> ?_)
    ·
     refine A12 ?_;exact E1 rfl rfl (zba (qi4 (zv6 (by decide) (yr3 (by omega) hc) (by rw [<-xc0 x9,<-xc0 x9];omega))).symm)
    ·
     refine A13 ?_;exact E1 rfl rfl (zba (qi6 (zv6 (by decide) (yr3 (by omega) hc).symm (by rw [<-xc0 x9,<-xc0 x9];omega))).symm)
   ·
    refine A8 ?_;exact kF (k - 1) ⟨⟨by omega,zu1 (by decide) (yr3 (by omega) hc) (by rw [<-xc0 x9,<-xc0 x9];omega)⟩,(by omega)⟩
  ·
   refine A11 ?_;exact E1 rfl rfl (zba (we5 (by have:=hc;rw [show k=0 by omega] at this;simpa using this)).symm)
theorem qc8 {x y b:Nat} (hx:x < 4294967296) (hy:y < 4294967296) (hb:b<=1):subD x y b+y+b=x+4294967296*subB x y b:=by
 simp only [subD,subB];split <;> omega
theorem qk8 (x y b:Nat):subB x y b<=1:=by simp only [subB];split <;> omega
theorem zb6 {a b i br y:Nat} {ws:List Nat} (hi:i < ws.length) (hD:Dig 4294967296 ws) (hdr:ws.drop i=(dig 4294967296 a).drop i) (hb:br<=1)
  (h:val 4294967296 (ws.take i)+b%4294967296 ^ i=a%4294967296 ^ i+br*4294967296 ^ i) (hy:y=b / 4294967296 ^ i%4294967296):
  (ws.set i (subD (ws.getD i 0) y br)).length=ws.length/\Dig 4294967296 (ws.set i (subD (ws.getD i 0) y br))/\(ws.set i (subD (ws.getD i 0) y br)).drop (i+1)=(dig 4294967296 a).drop (i+1)/\subB (ws.getD i 0) y br<=1/\
   val 4294967296 ((ws.set i (subD (ws.getD i 0) y br)).take (i+1))+b%4294967296 ^ (i+1)=a%4294967296 ^ (i+1)+subB (ws.getD i 0) y br*4294967296 ^ (i+1):=by
 refine ⟨by simp,hD.set (zg9 _ _ _),by rw [xe0];exact xi5 hdr (by omega),qk8 _ _ _,?_⟩;rw [xe7 hi];exact zt4 h (by rw [xg5 hdr (zbs _),xc0 x9]) hy (qc8 (hD.getD (by omega) i) (by rw [hy];exact zck _ (by omega)) hb)
theorem zj0 (a b:Nat) (hab:b<=a) (hn:(dig 4294967296 a).length<=100000):
  Ct Tryz.prog 338 [tN a,tN b] (tN (a - b)):=by
 refine Ct.intro func338 rfl ntmps338 rfl ?_;intro w F;refine A8 ?_;refine RE (xb7 (fun _=>10) (zo5 _ (by omega)) fi376 rfl (krN (ρ:=fun _=>10)) (krC (ρ:=fun _=>10) (k:=2) xf7 (krN (ρ:=fun _=>10))) ⟨⟨rfl,xd1⟩,trivial⟩ rfl) qA trivial qA ?_;refine A17 ?_;refine cL (fun (fm:(Nat)×(List Nat)×(Nat))=>(fun (i:Nat) (ws:List Nat) (br:Nat)=>i<=(dig 4294967296 a).length/\ws.length=(dig 4294967296 a).length/\Dig 4294967296 ws/\ws.drop i=(dig 4294967296 a).drop i/\br<=1/\val 4294967296 (ws.take i)+b%4294967296 ^ i=a%4294967296 ^ i+br*4294967296 ^ i) fm.1 fm.2.1 fm.2.2) (wC fun (i:Nat) (ws:List Nat) (br:Nat)=>uV (uV (uV (uO (uV uN 1 (tN b)) 5 (.sl 10 1 0 (dig 4294967296 a).length)) 6 (tE (.int .u32 (br:Int)))) 12 (tI (dig 4294967296 a).length)) 13 (tI i)) (wC fun (i:Nat) (ws:List Nat) (br:Nat)=>uK uN 10 284 1 false (rW .u32 ws)) [10] (fun (fm:(Nat)×(List Nat)×(Nat))=>(fun (i:Nat) (ws:List Nat) (br:Nat)=>(dig 4294967296 a).length - i) fm.1 fm.2.1 fm.2.2) ((0,dig 4294967296 a,0)) (by dsimp only;exact ⟨zbq _,rfl,xc3 x9 a,rfl,by omega,by simp [val,Nat.mod_one]⟩) ?_;intro fm hI;obtain ⟨i,ws,br⟩:=fm;replace hI:i<=(dig 4294967296 a).length/\ws.length=(dig 4294967296 a).length/\Dig 4294967296 ws/\ws.drop i=(dig 4294967296 a).drop i/\br<=1/\val 4294967296 (ws.take i)+b%4294967296 ^ i=a%4294967296 ^ i+br*4294967296 ^ i:=hI;show wc _ _ _ _ (uV (uV (uV (uO (uV uN 1 (tN b)) 5 (.sl 10 1 0 (dig 4294967296 a).length)) 6 (tE (.int .u32 (br:Int)))) 12 (tI (dig 4294967296 a).length)) 13 (tI i)) (uK uN 10 284 1 false (rW .u32 ws)) _;obtain ⟨hi,hl,hD,hdr,hbr,hv⟩:=hI;have hx:=hD.getD (by omega) i;have hy1:=(xc3 x9 b).getD (by omega) i;refine A6 ?_;refine x6 rfl (fun h124=> ?_) (fun h124=> ?_)
 ·
  refine A18 ?_;refine A6 ?_;refine x6 rfl (fun h126=> ?_) (fun h126=> ?_)
  ·
   have hy:=xc0 x9 b i;refine A3 ?_;refine R2 (x4 sl233 (i) (by omega) (gN (by omega))) rfl rfl ?_;refine A9 ?_;refine R2 (zag sl233 rfl) rfl rfl (RE (xc1 (i) ti284 (xn7 (by omega)) (by omega)) qA qA trivial ?_);refine A2 ?_;refine Rt (x3 (zg8 _ _ _ (by omega) (by omega) (by omega)) fi382 rfl) qC ?_;refine A3 ?_;refine R2 (zag sl233 rfl) rfl rfl (RE (xb8 (i) ti284 (xj0 (by omega)) (by omega) (xh1 (m:=_) rfl)) qB qA trivial ?_);refine A8 ?_;obtain ⟨n1,n2,n3,n4,n5⟩:=zb6 (y:=(dig 4294967296 b).getD i 0) (by omega) hD hdr hbr hv hy;exact kF ((i+1,ws.set i (subD (ws.getD i 0) ((dig 4294967296 b).getD i 0) br),subB (ws.getD i 0) ((dig 4294967296 b).getD i 0) br)) ⟨(by dsimp only;exact ⟨by omega,by omega,n2,n3,n4,n5⟩),(by dsimp only;omega)⟩
  ·
   have hy:=(xm2 x9 (v:=b) (i:=i) (by omega)).symm;refine A7 ?_;refine R2 (zag sl233 rfl) rfl rfl (RE (xc1 (i) ti284 (xn7 (by omega)) (by omega)) qA qA trivial ?_);refine A2 ?_;refine Rt (x3 (zg8 _ 0 _ (by omega) (by omega) (by omega)) fi382 rfl) qC ?_;refine A3 ?_;refine R2 (zag sl233 rfl) rfl rfl (RE (xb8 (i) ti284 (xj0 (by omega)) (by omega) (xh1 (m:=_) rfl)) qB qA trivial ?_);refine A8 ?_;obtain ⟨n1,n2,n3,n4,n5⟩:=zb6 (y:=0) (by omega) hD hdr hbr hv hy;exact kF ((i+1,ws.set i (subD (ws.getD i 0) (0) br),subB (ws.getD i 0) (0) br)) ⟨(by dsimp only;exact ⟨by omega,by omega,n2,n3,n4,n5⟩),(by dsimp only;omega)⟩
 ·
  refine A7 ?_;refine RE (xi6 (fun _ h=>h) (xi4 hl) hl) qA qA trivial (Rt (x3 (xp0 _) fi335 rfl) qA ?_);refine A4 ?_;exact E1 rfl rfl (Le.of (by rw [xd7 x9 hD,wa6 hl hD (xf6 x9 a) hab (by rw [<-show i=(dig 4294967296 a).length by omega];exact hv)]))
theorem qe6:
  CtG Tryz.prog 381 [] [.own (.ptr 9 0)] (.own (.fn 398 [.ptr 3 0,.ptr 1 0])) [(1,⟨407,1,false,[.own (.ptr 9 0)]⟩),(3,⟨123,1,false,[.val (tE (.int .u64 0))]⟩)] [1,3]:=by
 refine CtG.intro [9] func381 rfl ntmps381 rfl rfl trivial ?_;intro w F η;refine A8 ?_;refine RE (x7 (k:=3) (n:=1) (agg:=false) zr123.1 zr123.2 rfl) trivial trivial qA ?_;refine A5 ?_;refine R2 (xg8 (ps:=[.ptr 3 0,.ptr 1 0]) rfl) rfl rfl ?_;refine A4 ?_;exact xc5 LentC.mk' rfl rfl Imp.refl qB rfl ⟨⟨rfl,(SupX.lit rfl)⟩,⟨rfl,(SupX.lit rfl)⟩,trivial⟩ rfl
theorem yq3 (s c:Nat) (xs:List Nat) (hs:s+c < 18446744073709551616) (hx:xs.length<=1000000):
  CtG Tryz.prog 398 [(3,⟨123,1,false,[.val (tE (.int .u64 (c:Int)))]⟩),(1,⟨407,1,false,[.own (.ptr 9 0)]⟩),(9,⟨233,1,false,[.own (.sl 8 1 0 xs.length)]⟩),(8,⟨284,1,false,rW .u32 xs⟩)] [.val (tE (.int .u64 (s:Int))),.own (.ptr 3 0),.own (.ptr 1 0)] (.val (tT [])) [(3,⟨123,1,false,[.val (tE (.int .u64 (((s+c) / 4294967296:Nat):Int)))]⟩),(1,⟨407,1,false,[.own (.ptr 9 0)]⟩),(9,⟨233,1,false,[.own (.sl 14 1 0 (xs.length+1))]⟩),(14,⟨284,1,false,rW .u32 (xs++[(s+c)%4294967296])⟩)] [14]:=by
 refine CtG.intro [3,1,9,8] func398 rfl ntmps398 rfl rfl ⟨⟨rfl,(SupX.lit rfl)⟩,⟨rfl,(SupX.lit rfl)⟩,⟨rfl,(SupX.lit rfl)⟩,⟨rfl,xd1⟩,trivial⟩ ?_;intro w F η;refine A4 ?_;refine R2 (xd8 (r:=((s+c:Nat):Int)) (by rw [wu64 (by omega) (by omega)];omega)) rfl rfl ?_;refine A10 ?_;refine R1 (x5 zhb (isS zhd) (r:=(((s+c)%4294967296:Nat):Int)) (by rw [mu32];omega)) rfl (R1 (xk9 (n:=1) [(s+c)%4294967296] zgz el284 zf284 rfl rfl rfl) rfl (RE (xb3 (k:=8) (k':=14) (ts':=rW .u32 (xs++[(s+c)%4294967296])) zgz el284 zf284 rfl rfl (fun _=>inferInstance) xj4 (by simp;omega) (by simp;omega) (by simp [rW]) (n':=xs.length+1) rfl) ⟨rfl,rfl,trivial⟩ ⟨rfl,trivial⟩ ⟨rfl,trivial⟩ ?_));refine A6 ?_;refine R2 (xh3 (by decide) shr32) rfl rfl ?_;refine A2 ?_;exact xj5 LentC.mk' rfl (.inr rfl) qD ⟨⟨rfl,(SupX.lit rfl)⟩,⟨rfl,(SupX.lit rfl)⟩,⟨rfl,(SupX.lit rfl)⟩,⟨rfl,xd1⟩,trivial⟩ rfl
theorem ja8 (a b:Nat) (ha:(dig 4294967296 a).length<=100000) (hb:(dig 4294967296 b).length<=100000):
  Ct Tryz.prog 337 [tN a,tN b] (tN (a+b)):=by
 refine Ct.intro func337 rfl ntmps337 rfl ?_;intro w F;refine A5 ?_;refine xf0 (fun (fm:(Nat)×(Nat))=>(fun (p:Nat) (q:Nat)=>p+q=a+b/\(dig 4294967296 q).length<=(dig 4294967296 p).length/\(dig 4294967296 p).length<=100000) fm.1 fm.2) (wB fun (p:Nat) (q:Nat)=>uV (uV uN 0 (tN p)) 1 (tN q)) (wB fun (p:Nat) (q:Nat)=>fun _=>none) (nm []) ?_ ?_
 ·
  refine A9 ?_;refine x6 rfl (fun h104=> ?_) (fun h104=> ?_)
  ·
   refine A6 ?_;exact kF ((b,a)) (by dsimp only;exact ⟨Nat.add_comm _ _,by omega,by omega⟩)
  ·
   refine A1 ?_;exact kF ((a,b)) (by dsimp only;exact ⟨rfl,by omega,by omega⟩)
 ·
  intro fm hj104;obtain ⟨p,q⟩:=fm;replace hj104:p+q=a+b/\(dig 4294967296 q).length<=(dig 4294967296 p).length/\(dig 4294967296 p).length<=100000:=hj104;show wc _ _ _ _ (uV (uV uN 0 (tN p)) 1 (tN q)) (fun _=>none) _;obtain ⟨hpq,hqp,hp⟩:=hj104;refine A5 ?_;refine RE (xg0 (k:=20) (t:=tE (.int .u32 0)) (ts:=rW .u32 []) 0 ((dig 4294967296 p).length+1) zgz el284 (fun _ _=>rfl) rfl rfl (by omega) (by omega) (by omega) (by omega) rfl) qB trivial qA (RE (x7 (k:=5) (n:=1) (agg:=false) zr233.1 zr233.2 rfl) trivial trivial qA ?_);refine A5 ?_;refine RE (xb7 (fun j=>cond (Nat.beq j 1) 21 (cond (Nat.beq j 9) 5 (1021))) qe6 fi381 rfl (krN (ρ:=fun j=>cond (Nat.beq j 1) 21 (cond (Nat.beq j 9) 5 (1021)))) (krC (ρ:=fun j=>cond (Nat.beq j 1) 21 (cond (Nat.beq j 9) 5 (1021))) (k:=1) rfl (krC (ρ:=fun j=>cond (Nat.beq j 1) 21 (cond (Nat.beq j 9) 5 (1021))) (k:=3) rfl (krN (ρ:=fun j=>cond (Nat.beq j 1) 21 (cond (Nat.beq j 9) 5 (1021)))))) ⟨⟨rfl,(SupX.lit rfl)⟩,⟨rfl,(SupX.lit rfl)⟩,trivial⟩ rfl) qA trivial qB ?_;refine A12 ?_;refine cL (fun (fm:(Nat)×(List Nat)×(Nat))=>(fun (i:Nat) (cs:List Nat) (c:Nat)=>i<=(dig 4294967296 p).length/\cs.length=i/\Dig 4294967296 cs/\val 4294967296 cs+c*4294967296 ^ i=p%4294967296 ^ i+q%4294967296 ^ i/\c<=1) fm.1 fm.2.1 fm.2.2) (wC fun (i:Nat) (cs:List Nat) (c:Nat)=>uV (uV (uV (uO (uO (uV uN 1 (tN q)) 5 (.ptr 5 0)) 6 (.fn 398 [.ptr 1021 0,.ptr 21 0])) 22 (tN p)) 23 (tI (dig 4294967296 p).length)) 24 (tI i)) (wC fun (i:Nat) (cs:List Nat) (c:Nat)=>uK (uK (uK (uK uN 5 233 1 false [.own (.sl 20 1 0 cs.length)]) 20 284 1 false (rW .u32 cs)) 21 407 1 false [.own (.ptr 5 0)]) 1021 123 1 false [.val (tE (.int .u64 (c:Int)))]) [5,20,21,1021] (fun (fm:(Nat)×(List Nat)×(Nat))=>(fun (i:Nat) (cs:List Nat) (c:Nat)=>(dig 4294967296 p).length - i) fm.1 fm.2.1 fm.2.2) ((0,[],0)) (by dsimp only;exact ⟨zbq _,rfl,Dig.nil _,by simp [val,Nat.mod_one],by omega⟩) ?_;intro fm hI;obtain ⟨i,cs,c⟩:=fm;replace hI:i<=(dig 4294967296 p).length/\cs.length=i/\Dig 4294967296 cs/\val 4294967296 cs+c*4294967296 ^ i=p%4294967296 ^ i+q%4294967296 ^ i/\c<=1:=hI;show wc _ _ _ _ (uV (uV (uV (uO (uO (uV uN 1 (tN q)) 5 (.ptr 5 0)) 6 (.fn 398 [.ptr 1021 0,.ptr 21 0])) 22 (tN p)) 23 (tI (dig 4294967296 p).length)) 24 (tI i)) (uK (uK (uK (uK uN 5 233 1 false [.own (.sl 20 1 0 cs.length)]) 20 284 1 false (rW .u32 cs)) 21 407 1 false [.own (.ptr 5 0)]) 1021 123 1 false [.val (tE (.int .u64 (c:Int)))]) _;obtain ⟨hi,hl,hD,hv,hc⟩:=hI;have hx:=xc0 x9 p i;have hx1:=(xc3 x9 p).getD (by omega) i;have hy1:=(xc3 x9 q).getD (by omega) i;refine A6 ?_;refine x6 rfl (fun h109=> ?_) (fun h109=> ?_)
  ·
   refine A7 ?_;refine R2 (x4 sl233 (i) (by omega) (gN (by omega))) rfl rfl ?_;refine A8 ?_;refine R1 (x5 zhd (isS zhb) (by first | exact wu64 (by omega) (by omega) | exact mu64)) rfl ?_;refine A12 ?_;refine x6 rfl (fun h111=> ?_) (fun h111=> ?_)
   ·
    have hy:=xc0 x9 q i;refine A4 ?_;refine R2 (x4 sl233 (i) (by omega) (gN (by omega))) rfl rfl ?_;refine A1 ?_;refine R1 (x5 zhd (isS zhb) (by first | exact wu64 (by omega) (by omega) | exact mu64)) rfl (R2 (xd8 (r:=(((dig 4294967296 p).getD i 0+(dig 4294967296 q).getD i 0:Nat):Int)) (by rw [wu64 (by omega) (by omega)];omega)) rfl rfl ?_);refine A6 ?_;refine RE (xi9 (ps:=[.val (tE (.int .u64 ((_:Nat):Int)))]) (caps:=[.ptr 3 0,.ptr 1 0]) (fun j=>cond (Nat.beq j 9) 5 (cond (Nat.beq j 1) 21 (cond (Nat.beq j 3) 1021 (cond (Nat.beq j 14) 44 (20))))) (yq3 _ _ _ (by omega) (by omega)) fi398 rfl (krC (ρ:=fun j=>cond (Nat.beq j 9) 5 (cond (Nat.beq j 1) 21 (cond (Nat.beq j 3) 1021 (cond (Nat.beq j 14) 44 (20))))) (k:=3) rfl (krC (ρ:=fun j=>cond (Nat.beq j 9) 5 (cond (Nat.beq j 1) 21 (cond (Nat.beq j 3) 1021 (cond (Nat.beq j 14) 44 (20))))) (k:=1) rfl (krC (ρ:=fun j=>cond (Nat.beq j 9) 5 (cond (Nat.beq j 1) 21 (cond (Nat.beq j 3) 1021 (cond (Nat.beq j 14) 44 (20))))) (k:=9) rfl (krC (ρ:=fun j=>cond (Nat.beq j 9) 5 (cond (Nat.beq j 1) 21 (cond (Nat.beq j 3) 1021 (cond (Nat.beq j 14) 44 (20))))) (k:=8) xf7 (krN (ρ:=fun j=>cond (Nat.beq j 9) 5 (cond (Nat.beq j 1) 21 (cond (Nat.beq j 3) 1021 (cond (Nat.beq j 14) 44 (20)))))))))) (krC (ρ:=fun j=>cond (Nat.beq j 9) 5 (cond (Nat.beq j 1) 21 (cond (Nat.beq j 3) 1021 (cond (Nat.beq j 14) 44 (20))))) (k:=3) rfl (krC (ρ:=fun j=>cond (Nat.beq j 9) 5 (cond (Nat.beq j 1) 21 (cond (Nat.beq j 3) 1021 (cond (Nat.beq j 14) 44 (20))))) (k:=1) rfl (krC (ρ:=fun j=>cond (Nat.beq j 9) 5 (cond (Nat.beq j 1) 21 (cond (Nat.beq j 3) 1021 (cond (Nat.beq j 14) 44 (20))))) (k:=9) rfl (krC (ρ:=fun j=>cond (Nat.beq j 9) 5 (cond (Nat.beq j 1) 21 (cond (Nat.beq j 3) 1021 (cond (Nat.beq j 14) 44 (20))))) (k:=14) xf7 (krN (ρ:=fun j=>cond (Nat.beq j 9) 5 (cond (Nat.beq j 1) 21 (cond (Nat.beq j 3) 1021 (cond (Nat.beq j 14) 44 (20)))))))))) ⟨⟨rfl,(SupX.lit rfl)⟩,⟨rfl,(SupX.lit rfl)⟩,⟨rfl,(SupX.lit rfl)⟩,⟨rfl,xd1⟩,trivial⟩ rfl) qB qD qA ?_;refine A7 ?_;obtain ⟨n1,n2,n3,n4⟩:=zk6 (s:=((dig 4294967296 p).getD i 0+(dig 4294967296 q).getD i 0)) hl hD hv hx hy (by omega) hc;exact xc6 (l:=[5,20,21,1021]) (zab 20 44) ((i+1,cs++[(((dig 4294967296 p).getD i 0+(dig 4294967296 q).getD i 0)+c)%4294967296],(((dig 4294967296 p).getD i 0+(dig 4294967296 q).getD i 0)+c) / 4294967296)) ⟨(by dsimp only;exact ⟨by omega,n1,n2,n3,n4⟩),(by dsimp only;omega)⟩ (zaf rfl (zaf rfl (zas rfl (zas rfl (zas rfl (zas rfl zbd)))))) (SubKR.cons rfl (SubKR.cons rfl ((zbb rfl (zat xf7.symm)) ((zbb rfl (zat (by dsimp only;rw [zbp];rfl))) zbe)))) (zaj (zaj (zaj (zak rfl (zak rfl (zaj zar)))))) (zam rfl (supJL rfl) (zam rfl (supJL rfl) (zam rfl (supJ xd1) (zam rfl (supJL rfl) zaz)))) (lkOk rfl) rfl rfl (fun _ h=>by cases h)
   ·
    have hy:=(xm2 x9 (v:=q) (i:=i) (by omega)).symm;refine A5 ?_;refine RE (xi9 (ps:=[.val (tE (.int .u64 ((_:Nat):Int)))]) (caps:=[.ptr 3 0,.ptr 1 0]) (fun j=>cond (Nat.beq j 9) 5 (cond (Nat.beq j 1) 21 (cond (Nat.beq j 3) 1021 (cond (Nat.beq j 14) 44 (20))))) (yq3 _ _ _ (by omega) (by omega)) fi398 rfl (krC (ρ:=fun j=>cond (Nat.beq j 9) 5 (cond (Nat.beq j 1) 21 (cond (Nat.beq j 3) 1021 (cond (Nat.beq j 14) 44 (20))))) (k:=3) rfl (krC (ρ:=fun j=>cond (Nat.beq j 9) 5 (cond (Nat.beq j 1) 21 (cond (Nat.beq j 3) 1021 (cond (Nat.beq j 14) 44 (20))))) (k:=1) rfl (krC (ρ:=fun j=>cond (Nat.beq j 9) 5 (cond (Nat.beq j 1) 21 (cond (Nat.beq j 3) 1021 (cond (Nat.beq j 14) 44 (20))))) (k:=9) rfl (krC (ρ:=fun j=>cond (Nat.beq j 9) 5 (cond (Nat.beq j 1) 21 (cond (Nat.beq j 3) 1021 (cond (Nat.beq j 14) 44 (20))))) (k:=8) xf7 (krN (ρ:=fun j=>cond (Nat.beq j 9) 5 (cond (Nat.beq j 1) 21 (cond (Nat.beq j 3) 1021 (cond (Nat.beq j 14) 44 (20)))))))))) (krC (ρ:=fun j=>cond (Nat.beq j 9) 5 (cond (Nat.beq j 1) 21 (cond (Nat.beq j 3) 1021 (cond (Nat.beq j 14) 44 (20))))) (k:=3) rfl (krC (ρ:=fun j=>cond (Nat.beq j 9) 5 (cond (Nat.beq j 1) 21 (cond (Nat.beq j 3) 1021 (cond (Nat.beq j 14) 44 (20))))) (k:=1) rfl (krC (ρ:=fun j=>cond (Nat.beq j 9) 5 (cond (Nat.beq j 1) 21 (cond (Nat.beq j 3) 1021 (cond (Nat.beq j 14) 44 (20))))) (k:=9) rfl (krC (ρ:=fun j=>cond (Nat.beq j 9) 5 (cond (Nat.beq j 1) 21 (cond (Nat.beq j 3) 1021 (cond (Nat.beq j 14) 44 (20))))) (k:=14) xf7 (krN (ρ:=fun j=>cond (Nat.beq j 9) 5 (cond (Nat.beq j 1) 21 (cond (Nat.beq j 3) 1021 (cond (Nat.beq j 14) 44 (20)))))))))) ⟨⟨rfl,(SupX.lit rfl)⟩,⟨rfl,(SupX.lit rfl)⟩,⟨rfl,(SupX.lit rfl)⟩,⟨rfl,xd1⟩,trivial⟩ rfl) qB qD qA ?_;refine A7 ?_;obtain ⟨n1,n2,n3,n4⟩:=zk6 (s:=(dig 4294967296 p).getD i 0) hl hD hv hx hy (by omega) hc;exact xc6 (l:=[5,20,21,1021]) (zab 20 44) ((i+1,cs++[((dig 4294967296 p).getD i 0+c)%4294967296],((dig 4294967296 p).getD i 0+c) / 4294967296)) ⟨(by dsimp only;exact ⟨by omega,n1,n2,n3,n4⟩),(by dsimp only;omega)⟩ (zaf rfl (zaf rfl (zas rfl (zas rfl (zas rfl (zas rfl zbd)))))) (SubKR.cons rfl (SubKR.cons rfl ((zbb rfl (zat xf7.symm)) ((zbb rfl (zat (by dsimp only;rw [zbp];rfl))) zbe)))) (zaj (zaj (zaj (zak rfl (zak rfl (zaj zar)))))) (zam rfl (supJL rfl) (zam rfl (supJL rfl) (zam rfl (supJ xd1) (zam rfl (supJL rfl) zaz)))) (lkOk rfl) rfl rfl (fun _ h=>by cases h)
  ·
   refine A8 ?_;refine RE (xi9 (ps:=[.val (tE (.int .u64 ((_:Nat):Int)))]) (caps:=[.ptr 3 0,.ptr 1 0]) (fun j=>cond (Nat.beq j 9) 5 (cond (Nat.beq j 1) 21 (cond (Nat.beq j 3) 1021 (cond (Nat.beq j 14) 47 (20))))) (yq3 0 _ _ (by omega) (by omega)) fi398 rfl (krC (ρ:=fun j=>cond (Nat.beq j 9) 5 (cond (Nat.beq j 1) 21 (cond (Nat.beq j 3) 1021 (cond (Nat.beq j 14) 47 (20))))) (k:=3) rfl (krC (ρ:=fun j=>cond (Nat.beq j 9) 5 (cond (Nat.beq j 1) 21 (cond (Nat.beq j 3) 1021 (cond (Nat.beq j 14) 47 (20))))) (k:=1) rfl (krC (ρ:=fun j=>cond (Nat.beq j 9) 5 (cond (Nat.beq j 1) 21 (cond (Nat.beq j 3) 1021 (cond (Nat.beq j 14) 47 (20))))) (k:=9) rfl (krC (ρ:=fun j=>cond (Nat.beq j 9) 5 (cond (Nat.beq j 1) 21 (cond (Nat.beq j 3) 1021 (cond (Nat.beq j 14) 47 (20))))) (k:=8) xf7 (krN (ρ:=fun j=>cond (Nat.beq j 9) 5 (cond (Nat.beq j 1) 21 (cond (Nat.beq j 3) 1021 (cond (Nat.beq j 14) 47 (20)))))))))) (krC (ρ:=fun j=>cond (Nat.beq j 9) 5 (cond (Nat.beq j 1) 21 (cond (Nat.beq j 3) 1021 (cond (Nat.beq j 14) 47 (20))))) (k:=3) rfl (krC (ρ:=fun j=>cond (Nat.beq j 9) 5 (cond (Nat.beq j 1) 21 (cond (Nat.beq j 3) 1021 (cond (Nat.beq j 14) 47 (20))))) (k:=1) rfl (krC (ρ:=fun j=>cond (Nat.beq j 9) 5 (cond (Nat.beq j 1) 21 (cond (Nat.beq j 3) 1021 (cond (Nat.beq j 14) 47 (20))))) (k:=9) rfl (krC (ρ:=fun j=>cond (Nat.beq j 9) 5 (cond (Nat.beq j 1) 21 (cond (Nat.beq j 3) 1021 (cond (Nat.beq j 14) 47 (20))))) (k:=14) xf7 (krN (ρ:=fun j=>cond (Nat.beq j 9) 5 (cond (Nat.beq j 1) 21 (cond (Nat.beq j 3) 1021 (cond (Nat.beq j 14) 47 (20)))))))))) ⟨⟨rfl,(SupX.lit rfl)⟩,⟨rfl,(SupX.lit rfl)⟩,⟨rfl,(SupX.lit rfl)⟩,⟨rfl,xd1⟩,trivial⟩ rfl) qB qD qA ?_;refine A4 ?_;refine RE (Does.giveL (k:=47) (es:=1) (off:=0) (len:=cs.length+1) (xs:=cs++[(0+c)%4294967296]) (f:=fun n:Nat=>tE (.int .u32 n)) (ts:=rW .u32 (cs++[(0+c)%4294967296])) (xc1 (ts:=[.own (.sl 47 1 0 (cs.length+1))]) (0) ti233 rfl rfl) (fun _ h=>h) (xi4 (by simp)) (by simp)) qA qB trivial (Rt (x3 (xp0 _) fi335 rfl) qA ?_);refine A4 ?_;exact E1 rfl rfl (Le.of (by rw [jr3 (n:=(dig 4294967296 p).length) (by omega) (xf6 x9 p) ((xa8 x9 q _).1 hqp) hD (by rw [<-show i=(dig 4294967296 p).length by omega];exact hv) hc,hpq]))
end An.S
namespace An
open Go
theorem wadd64 {x y:Nat} (h:x+y < 18446744073709551616):IntKind.u64.wrap ((x:Int)+(y:Int))=((x+y:Nat):Int):=by
 rw [wu64 (by omega) (by omega)];omega
theorem wmul64 {x y:Nat} (h:x*y < 18446744073709551616):IntKind.u64.wrap ((x:Int)*(y:Int))=((x*y:Nat):Int):=by
 rw [<-zed];exact wu64 (by omega) (by omega)
theorem wsub64 {x y:Nat} (h:y<=x) (hx:x < 18446744073709551616):IntKind.u64.wrap ((x:Int) - (y:Int))=((x - y:Nat):Int):=by
 rw [wu64 (by omega) (by omega)];omega
theorem cut32 {m:Nat}:IntKind.u32.wrap (m:Int)=((m%4294967296:Nat):Int):=by rw [mu32];omega
theorem xq0 {x y:Nat} (hx:x < 4294967296) (hy:y < 4294967296):x*y<=18446744065119617025:=by
 have:=Nat.mul_le_mul (show x<=4294967295 by omega) (show y<=4294967295 by omega);omega
theorem zv2 {B T T0 c i j w y x s b:Nat} (h:T+c*B ^ (i+j)=T0+x*B ^ i*(b%B ^ j)) (hs:s=x*y+w+c) (hy:y=b / B ^ j%B):
  T+B ^ (i+j)*(s%B)+s / B*B ^ (i+j+1)=T0+B ^ (i+j)*w+x*B ^ i*(b%B ^ (j+1)):=by
 have h1:=zdg s B;have e1:s / B*B ^ (i+j+1)=B ^ (i+j)*(B*(s / B)):=by rw [zch,zce,zdf]
 have e2:B ^ (i+j)*(s%B)+B ^ (i+j)*(B*(s / B))=B ^ (i+j)*(x*y)+B ^ (i+j)*w+B ^ (i+j)*c:=by
  rw [<-zcy,<-zcy,<-zcy];congr 1;omega
 have e3:x*B ^ i*(b%B ^ (j+1))=x*B ^ i*(b%B ^ j)+B ^ (i+j)*(x*y):=by
  rw [xg7,<-hy,zcy];congr 1;rw [zez];ac_rfl
 rw [e1,e3];rw [zce c] at h;omega
theorem jj7 {b i j c x y s la:Nat} {w0 vs:List Nat} (hl:vs.length=la) (hD:Dig W vs) (hw:w0.length=la) (hdr:vs.drop (i+j)=w0.drop (i+j)) (hij:i+j < la) (hc:c < W) (hx:x < W) (hy:y=b / W ^ j%W)
  (hs:s=x*y+vs.getD (i+j) 0+c) (h:val W (vs.take (i+j))+c*W ^ (i+j)=val W (w0.take (i+j))+x*W ^ i*(b%W ^ j)):
  (vs.set (i+j) (s%W)).length=la/\Dig W (vs.set (i+j) (s%W))/\(vs.set (i+j) (s%W)).drop (i+(j+1))=w0.drop (i+(j+1))/\s / W < W/\
   val W ((vs.set (i+j) (s%W)).take (i+(j+1)))+s / W*W ^ (i+(j+1))=val W (w0.take (i+(j+1)))+x*W ^ i*(b%W ^ (j+1)):=by
 have hyW:y < W:=by rw [hy];exact zck _ (by decide)
 have hg:vs.getD (i+j) 0 < W:=hD.getD (by decide) _;refine ⟨by simpa using hl,hD.set (zck _ (by decide)),by rw [<-zgm,xe0];exact xi5 hdr (by omega),?_,?_⟩
 ·have:=xq0 hx hyW;refine zdc ?_;show s < 4294967296*4294967296;have:vs.getD (i+j) 0 < 4294967296:=hg;have:c < 4294967296:=hc;omega
 ·rw [<-zgm,xe7 (by omega),xd4 _ w0 _ (by omega),<-xg5 hdr (zbs _)];exact zv2 h hs hy
theorem qz2 {a b i c la lb:Nat} {w0 vs:List Nat} (hi:i < la) (hw:w0.length=la+lb) (hl:vs.length=la+lb) (hD:Dig W vs) (hdr:vs.drop (i+lb)=w0.drop (i+lb)) (hz:w0.drop (i+lb)=List.replicate (la - i) 0) (hc:c < W)
  (h0:val W (w0.take (i+lb))=a%W ^ i*b) (hb:b < W ^ lb) (h:val W (vs.take (i+lb))+c*W ^ (i+lb)=val W (w0.take (i+lb))+a / W ^ i%W*W ^ i*(b%W ^ lb)):
  (vs.set (i+lb) c).length=la+lb/\Dig W (vs.set (i+lb) c)/\(vs.set (i+lb) c).drop (i+1+lb)=List.replicate (la - (i+1)) 0/\val W ((vs.set (i+lb) c).take (i+1+lb))=a%W ^ (i+1)*b:=by
 refine ⟨by simpa using hl,hD.set hc,?_,?_⟩
 ·rw [show i+1+lb=i+lb+1 by omega,xe0,xi5 (j:=i+lb+1) hdr (by omega),<-List.drop_drop,hz,zfc];congr 1
 ·rw [show i+1+lb=i+lb+1 by omega,xe7 (by omega),zce _ c,h,h0,xg7,zcc hb,zcn]
  congr 1
  rw [zce (W ^ i)]
theorem qz4 {a b la lb:Nat} {ws:List Nat} (hl:ws.length=la+lb) (hD:Dig W ws) (ha:a < W ^ la) (h:val W (ws.take (la+lb))=a%W ^ la*b):trimL ws=dig W (a*b):=by
 rw [xd7 x9 hD];rw [<-hl,zbx,zcc ha] at h;rw [h]
theorem ji1 {a d r k q n:Nat} {qs:List Nat} (hk:k < n) (hl:qs.length=n) (hD:Dig W qs) (hd:0 < d) (hr:r=a / W ^ (k+1)%d) (hv:val W (qs.drop (k+1))=a / W ^ (k+1) / d) (hq:(a / W ^ k%W+r*2 ^ 32) / d=q):
  (qs.set k q).length=n/\Dig W (qs.set k q)/\(a / W ^ k%W+r*2 ^ 32)%d=a / W ^ k%d/\val W ((qs.set k q).drop k)=a / W ^ k / d/\q < W:=by
 have e0:a / W ^ k=W*(a / W ^ (k+1))+a / W ^ k%W:=xs5 W a k (by decide);have hrd:r < d:=by rw [hr];exact zck _ hd
 have e1:a / W ^ k=(a / W ^ k%W+r*2 ^ 32)+d*(W*(a / W ^ (k+1) / d)):=by
  have h1:=zdg (a / W ^ (k+1)) d;rw [<-hr] at h1;have h2:W*(a / W ^ (k+1))=d*(W*(a / W ^ (k+1) / d))+W*r:=by
   conv=>lhs;rw [<-h1]
   rw [zcy,Nat.mul_left_comm]
  rw [zce r];have h3:(2:Nat) ^ 32*r=W*r:=rfl;omega
 have hqW:q < W:=by
  rw [<-hq];refine zdc ?_;have h4:a / W ^ k%W < W:=zck _ (by decide);have h5:(r+1)*W<=d*W:=zbt _ hrd;have h6:(r+1)*W=r*2 ^ 32+W:=by rw [zcn,zff]
  omega
 refine ⟨by simpa using hl,hD.set hqW,?_,?_,hqW⟩
 ·conv=>rhs;rw [e1,zfu]
 ·rw [xm7 _ _ _ (by simpa using (by omega:k < qs.length)),xm8 (by omega),xe0,hv]
  conv=>rhs;rw [e1,zeh _ _ hd,hq]
theorem shlN64 {m s:Nat} {i:Int} (hi:i=(s:Int)) (hs:s<=64) (h:m*2 ^ s < 18446744073709551616):IntKind.u64.wrap ((m:Int)*2 ^ (min i.toNat IntKind.u64.bits))=((m*2 ^ s:Nat):Int):=by
 subst hi;have hb:IntKind.u64.bits=64:=rfl;rw [Int.toNat_natCast,hb,zfo hs];have:((m:Int)*2 ^ s)=((m*2 ^ s:Nat):Int):=by simp
 rw [this];exact wu64 (by omega) (by omega)
theorem pow2_le31 {s:Nat} (h:s<=31):2 ^ s<=2147483648:=Nat.pow_le_pow_right (by omega) h
theorem jg2 {x s:Nat} (hx:x < 4294967296) (hs:s<=31):x*2 ^ s < 9223372036854775808:=by
 have h1:=pow2_le31 hs;have h0:0 < 2 ^ s:=zdb (by omega);have h2:x*2 ^ s < 4294967296*2 ^ s:=zem hx h0;have h3:4294967296*2 ^ s<=4294967296*2147483648:=zdi _ h1;omega
theorem qp7 (x:Nat) {s:Nat} (hs:s<=31):x*2 ^ s%4294967296=x%2 ^ (32 - s)*2 ^ s:=by
 have:(4294967296:Nat)=2 ^ (32 - s)*2 ^ s:=by rw [<-zez,show 32 - s+s=32 by omega]
 rw [this,Nat.mul_mod_mul_right]
theorem ji2 {i s a:Nat} {ws:List Nat} (hi:i < ws.length) (h:val W (ws.take (i+1))=a%W ^ i*2 ^ s):ws.getD i 0 < 2 ^ s:=by
 have hp:0 < W ^ i:=zdb (by decide);have h0:0 < 2 ^ s:=zdb (by omega);rw [xd4 _ _ _ hi] at h;have h1:a%W ^ i*2 ^ s < W ^ i*2 ^ s:=zem (zck _ hp) h0;have h2:W ^ i*ws.getD i 0 < W ^ i*2 ^ s:=by omega
 exact Nat.lt_of_mul_lt_mul_left h2
theorem qv1 {v x s:Nat} (hv:v < 2 ^ s) (_hx:x < 4294967296) (hs:s<=31):bits .or .u32 (v:Int) ((x*2 ^ s%4294967296:Nat):Int)=((v+x*2 ^ s%4294967296:Nat):Int)/\v+x*2 ^ s%4294967296 < 4294967296:=by
 have hb:IntKind.u32.bits=32:=rfl;have h1:v+x*2 ^ s%4294967296 < 4294967296:=by
  rw [qp7 x hs];have h2:x%2 ^ (32 - s) < 2 ^ (32 - s):=zck _ (zdb (by omega));have h3:(x%2 ^ (32 - s)+1)*2 ^ s<=2 ^ (32 - s)*2 ^ s:=zbt _ h2;rw [<-zez,show 32 - s+s=32 by omega,zcn,zff] at h3;omega
 refine ⟨?_,h1⟩;rw [qp7 x hs] at h1 ⊢;exact jc6 v (x%2 ^ (32 - s)) s rfl rfl hv (wu32 (by omega) (by omega)) (by rw [hb];omega)
theorem jo1 {a i s n x:Nat} {ws:List Nat} (hi:i < n) (hl:ws.length=n+1) (hD:Dig W ws) (hs:s<=31) (hx:x=a / W ^ i%W) (hz:ws.drop (i+1)=List.replicate (n - i) 0) (hv:val W (ws.take (i+1))=a%W ^ i*2 ^ s):
  ((ws.set i (ws.getD i 0+x*2 ^ s%W)).set (i+1) (x*2 ^ s / W)).length=n+1/\Dig W ((ws.set i (ws.getD i 0+x*2 ^ s%W)).set (i+1) (x*2 ^ s / W))/\
   ((ws.set i (ws.getD i 0+x*2 ^ s%W)).set (i+1) (x*2 ^ s / W)).drop (i+1+1)=List.replicate (n - (i+1)) 0/\
   val W (((ws.set i (ws.getD i 0+x*2 ^ s%W)).set (i+1) (x*2 ^ s / W)).take (i+1+1))=a%W ^ (i+1)*2 ^ s:=by
 have hxW:x < W:=by rw [hx];exact zck _ (by decide)
 have ht:=ji2 (by omega) hv;have h1:=(qv1 ht hxW hs).2;have h2:=jg2 hxW hs;refine ⟨by simpa using hl,(hD.set h1).set (zdc (by show _ < 4294967296*4294967296;omega)),?_,?_⟩
 ·rw [xe0,List.drop_set_of_lt (by omega),<-List.drop_drop,hz,zfc];congr 1
 ·rw [xe7 (by simpa using (by omega:i+1 < ws.length)),xe7 (by omega),xg7,<-hx,zcn,<-hv,xd4 _ _ _ (by omega)];have h3:=zdg (x*2 ^ s) W;have e:W ^ i*(x*2 ^ s%W)+W ^ i*(W*(x*2 ^ s / W))=W ^ i*x*2 ^ s:=by
   rw [<-zcy,Nat.add_comm,h3,zdf]
  have e2:W ^ (i+1)*(x*2 ^ s / W)=W ^ i*(W*(x*2 ^ s / W)):=by rw [zch,zdf]
  rw [zcy,e2];omega
theorem jb1 {a n s:Nat} {ws:List Nat} (hl:ws.length=n+1) (hD:Dig W ws) (ha:a < W ^ n) (hv:val W (ws.take (n+1))=a%W ^ n*2 ^ s):ws=dgs W (n+1) (a*2 ^ s):=by
 rw [<-hl,zbx,zcc ha] at hv;rw [<-hv,<-hl,yt5 (by decide) hD]
end An
namespace An.S
open Go Go.Proofs An Tryz
instance fi396:FnI Tryz.prog 396:=⟨_,func396,by kernel_rfl,rfl⟩
theorem qh5 (a b:Nat) (ha:(dig 4294967296 a).length<=100000) (hb:(dig 4294967296 b).length<=100000):
  Ct Tryz.prog 283 [tN a,tN b] (tN (a*b)):=by
 refine Ct.intro func283 rfl ntmps283 rfl ?_;intro w F;have hbW:=xf6 x9 b;refine A12 ?_;refine RE (xg0 (k:=17) (t:=tE (.int .u32 0)) (ts:=rW .u32 (List.replicate (((dig 4294967296 a).length+(dig 4294967296 b).length)) 0)) (((dig 4294967296 a).length+(dig 4294967296 b).length)) (((dig 4294967296 a).length+(dig 4294967296 b).length)) zgz el284 (fun _ _=>rfl) rfl (by omega) (by omega) (zbs _) (by omega) (by omega) (xp5 _)) qB trivial qA ?_;refine A12 ?_;refine cL (fun (fm:(Nat)×(List Nat))=>(fun (i:Nat) (ws:List Nat)=>i<=(dig 4294967296 a).length/\ws.length=(dig 4294967296 a).length+(dig 4294967296 b).length/\Dig 4294967296 ws/\ws.drop (i+(dig 4294967296 b).length)=List.replicate ((dig 4294967296 a).length - i) 0/\val 4294967296 (ws.take (i+(dig 4294967296 b).length))=a%4294967296 ^ i*b) fm.1 fm.2) (wB fun (i:Nat) (ws:List Nat)=>uV (uV (uV (uO (uV uN 1 (tN b)) 5 (.sl 17 1 0 ((dig 4294967296 a).length+(dig 4294967296 b).length))) 18 (tN a)) 19 (tI (dig 4294967296 a).length)) 20 (tI i)) (wB fun (i:Nat) (ws:List Nat)=>uK uN 17 284 1 false (rW .u32 ws)) [17] (fun (fm:(Nat)×(List Nat))=>(fun (i:Nat) (ws:List Nat)=>(dig 4294967296 a).length - i) fm.1 fm.2) ((0,List.replicate ((dig 4294967296 a).length+(dig 4294967296 b).length) 0)) (by dsimp only;exact ⟨zbq _,by simp,Dig.rep (by decide) _,by rw [zfc];congr 1;omega,by rw [List.take_replicate,xf1,zer,zfs,zdz]⟩) ?_;intro fm hI;obtain ⟨i,ws⟩:=fm;replace hI:i<=(dig 4294967296 a).length/\ws.length=(dig 4294967296 a).length+(dig 4294967296 b).length/\Dig 4294967296 ws/\ws.drop (i+(dig 4294967296 b).length)=List.replicate ((dig 4294967296 a).length - i) 0/\val 4294967296 (ws.take (i+(dig 4294967296 b).length))=a%4294967296 ^ i*b:=hI;show wc _ _ _ _ (uV (uV (uV (uO (uV uN 1 (tN b)) 5 (.sl 17 1 0 ((dig 4294967296 a).length+(dig 4294967296 b).length))) 18 (tN a)) 19 (tI (dig 4294967296 a).length)) 20 (tI i)) (uK uN 17 284 1 false (rW .u32 ws)) _;obtain ⟨hi,hl,hD,hz,hv⟩:=hI;have hx:=xc0 x9 a i;have hx1:=(xc3 x9 a).getD (by omega) i;refine A6 ?_;refine x6 rfl (fun h137=> ?_) (fun h137=> ?_)
 ·
  refine A7 ?_;refine R2 (x4 sl233 (i) (by omega) (gN (by omega))) rfl rfl ?_;refine A18 ?_;refine A1 ?_;refine cL (fun (fm:(Nat)×(List Nat)×(Nat))=>(fun (j:Nat) (vs:List Nat) (c:Nat)=>j<=(dig 4294967296 b).length/\vs.length=(dig 4294967296 a).length+(dig 4294967296 b).length/\Dig 4294967296 vs/\vs.drop (i+j)=ws.drop (i+j)/\c < 4294967296/\val 4294967296 (vs.take (i+j))+c*4294967296 ^ (i+j)=val 4294967296 (ws.take (i+j))+(dig 4294967296 a).getD i 0*4294967296 ^ i*(b%4294967296 ^ j)) fm.1 fm.2.1 fm.2.2) (wC fun (j:Nat) (vs:List Nat) (c:Nat)=>uV (uV (uV (uV (uV (uV (uV (uV (uV (uO (uV uN 1 (tN b)) 5 (.sl 17 1 0 ((dig 4294967296 a).length+(dig 4294967296 b).length))) 6 (tI i)) 7 (tE (.int .u32 ((dig 4294967296 a).getD i 0:Nat)))) 8 (tE (.int .u64 (c:Int)))) 18 (tN a)) 19 (tI (dig 4294967296 a).length)) 20 (tI i)) 25 (tN b)) 26 (tI (dig 4294967296 b).length)) 27 (tI j)) (wC fun (j:Nat) (vs:List Nat) (c:Nat)=>uK uN 17 284 1 false (rW .u32 vs)) [17] (fun (fm:(Nat)×(List Nat)×(Nat))=>(fun (j:Nat) (vs:List Nat) (c:Nat)=>(dig 4294967296 b).length - j) fm.1 fm.2.1 fm.2.2) ((0,ws,0)) (by dsimp only;exact ⟨zbq _,hl,hD,rfl,by omega,by rw [zer,zfs];omega⟩) ?_;intro fm hJ;obtain ⟨j,vs,c⟩:=fm;replace hJ:j<=(dig 4294967296 b).length/\vs.length=(dig 4294967296 a).length+(dig 4294967296 b).length/\Dig 4294967296 vs/\vs.drop (i+j)=ws.drop (i+j)/\c < 4294967296/\val 4294967296 (vs.take (i+j))+c*4294967296 ^ (i+j)=val 4294967296 (ws.take (i+j))+(dig 4294967296 a).getD i 0*4294967296 ^ i*(b%4294967296 ^ j):=hJ;show wc _ _ _ _ (uV (uV (uV (uV (uV (uV (uV (uV (uV (uO (uV uN 1 (tN b)) 5 (.sl 17 1 0 ((dig 4294967296 a).length+(dig 4294967296 b).length))) 6 (tI i)) 7 (tE (.int .u32 ((dig 4294967296 a).getD i 0:Nat)))) 8 (tE (.int .u64 (c:Int)))) 18 (tN a)) 19 (tI (dig 4294967296 a).length)) 20 (tI i)) 25 (tN b)) 26 (tI (dig 4294967296 b).length)) 27 (tI j)) (uK uN 17 284 1 false (rW .u32 vs)) _;obtain ⟨hj,kl,kD,kdr,kc,kv⟩:=hJ;have hy:=xc0 x9 b j;have hy1:=(xc3 x9 b).getD (by omega) j;have hw1:=kD.getD (by omega) (i+j);have hxy:=xq0 hx1 hy1;refine A6 ?_;refine x6 rfl (fun h139=> ?_) (fun h139=> ?_)
  ·
   refine A7 ?_;refine R2 (x4 sl233 (j) (by omega) (gN (by omega))) rfl rfl ?_;refine A8 ?_;refine R1 (x5 zhd (isS zhb) (by first | exact wu64 (by omega) (by omega) | exact mu64)) rfl ?_;refine A1 ?_;refine R1 (x5 zhd (isS zhb) (by first | exact wu64 (by omega) (by omega) | exact mu64)) rfl (R2 (xi2 (wmul64 (by omega))) rfl rfl ?_);refine A4 ?_;refine R2 (zag sl233 rfl) rfl rfl (RE (xc1 (i+j) ti284 (xn7 (by omega)) (by omega)) qA qA trivial (R1 (x5 zhd (isS zhb) (by first | exact wu64 (by omega) (by omega) | exact mu64)) rfl (R2 (xd8 (wadd64 (by omega))) rfl rfl ?_)));refine A1 ?_;refine R2 (xd8 (wadd64 (by omega))) rfl rfl ?_;refine A10 ?_;refine R1 (x5 zhb (isS zhd) cut32) rfl (R2 (zag sl233 rfl) rfl rfl (RE (xb8 (i+j) ti284 (xj0 (by omega)) (by omega) (xh1 (m:=_) rfl)) qB qA trivial ?_));refine A4 ?_;refine R2 (xh3 (by decide) shr32) rfl rfl ?_;refine A8 ?_;obtain ⟨n1,n2,n3,n4,n5⟩:=jj7 (s:=(dig 4294967296 a).getD i 0*(dig 4294967296 b).getD j 0+vs.getD (i+j) 0+c) kl kD hl kdr (by omega) kc hx1 hy rfl kv;exact kF ((j+1,vs.set (i+j) (((dig 4294967296 a).getD i 0*(dig 4294967296 b).getD j 0+vs.getD (i+j) 0+c)%4294967296),((dig 4294967296 a).getD i 0*(dig 4294967296 b).getD j 0+vs.getD (i+j) 0+c) / 4294967296)) ⟨(by dsimp only;exact ⟨by omega,n1,n2,n3,n4,n5⟩),(by dsimp only;omega)⟩
  ·
   have hjb:j=(dig 4294967296 b).length:=by omega
   refine A12 ?_;refine R1 (x5 zhb (isS zhd) (wu32 (by omega) (by omega))) rfl (R2 (zag sl233 rfl) rfl rfl (RE (xb8 (i+(dig 4294967296 b).length) ti284 (xj0 (by omega)) (by omega) (xh1 (m:=_) rfl)) qB qA trivial ?_));refine A7 ?_;obtain ⟨n1,n2,n3,n4⟩:=qz2 (by omega) hl kl kD (by rw [<-hjb];exact kdr) hz kc hv hbW (by rw [<-hjb,<-hx];exact kv);exact kF ((i+1,vs.set (i+(dig 4294967296 b).length) c)) ⟨(by dsimp only;exact ⟨by omega,n1,n2,n3,n4⟩),(by dsimp only;omega)⟩
 ·
  refine A7 ?_;refine RE (xi6 (fun _ h=>h) (xi4 hl) hl) qA qA trivial (Rt (x3 (xp0 _) fi335 rfl) qA ?_);refine A4 ?_;exact E1 rfl rfl (Le.of (congrArg tWs (qz4 hl hD (xf6 x9 a) (by rw [<-show i=(dig 4294967296 a).length by omega];exact hv))))
theorem zp3 (a d:Nat) (ha:(dig 4294967296 a).length<=100000) (hd:0 < d) (hdW:d < 4294967296):
  Ct Tryz.prog 377 [tN a,tE (.int .u32 (d:Int))] (tT [tN (a / d),tE (.int .u32 ((a%d:Nat):Int))]):=by
 refine Ct.intro func377 rfl ntmps377 rfl ?_;intro w F;refine A10 ?_;refine RE (xg0 (k:=11) (t:=tE (.int .u32 0)) (ts:=rW .u32 (List.replicate ((dig 4294967296 a).length) 0)) ((dig 4294967296 a).length) ((dig 4294967296 a).length) zgz el284 (fun _ _=>rfl) rfl (by omega) (by omega) (zbs _) (by omega) (by omega) (xp5 _)) qB trivial qA ?_;refine A18 ?_;refine cL (fun (fm:(Nat)×(List Nat))=>(fun (k:Nat) (qs:List Nat)=>k<=(dig 4294967296 a).length/\qs.length=(dig 4294967296 a).length/\Dig 4294967296 qs/\val 4294967296 (qs.drop k)=a / 4294967296 ^ k / d) fm.1 fm.2) (wB fun (k:Nat) (qs:List Nat)=>uV (uV (uO (uV (uV uN 0 (tN a)) 1 (tE (.int .u32 (d:Int)))) 6 (.sl 11 1 0 (dig 4294967296 a).length)) 7 (tE (.int .u32 ((a / 4294967296 ^ k%d:Nat):Int)))) 8 (tI ((k:Int) - 1))) (wB fun (k:Nat) (qs:List Nat)=>uK uN 11 284 1 false (rW .u32 qs)) [11] (fun (fm:(Nat)×(List Nat))=>(fun (k:Nat) (qs:List Nat)=>k) fm.1 fm.2) (((dig 4294967296 a).length,List.replicate (dig 4294967296 a).length 0)) (by dsimp only;exact ⟨zbs _,by simp,Dig.rep (by decide) _,by rw [zcz (xf6 x9 a),Nat.zero_div,zfc,xf1]⟩) (hg:=(sI (Sub.le rfl (zba (by rw [zcz (xf6 x9 a),Nat.zero_mod];rfl)) (sC (sI (sC zay)))))) ?_;intro fm hI;obtain ⟨k,qs⟩:=fm;replace hI:k<=(dig 4294967296 a).length/\qs.length=(dig 4294967296 a).length/\Dig 4294967296 qs/\val 4294967296 (qs.drop k)=a / 4294967296 ^ k / d:=hI;show wc _ _ _ _ (uV (uV (uO (uV (uV uN 0 (tN a)) 1 (tE (.int .u32 (d:Int)))) 6 (.sl 11 1 0 (dig 4294967296 a).length)) 7 (tE (.int .u32 ((a / 4294967296 ^ k%d:Nat):Int)))) 8 (tI ((k:Int) - 1))) (uK uN 11 284 1 false (rW .u32 qs)) _;obtain ⟨hk,hl,hD,hv⟩:=hI;have hr:a / 4294967296 ^ k%d < d:=zck _ hd;refine A7 ?_;refine x6 rfl (fun h166=> ?_) (fun h166=> ?_)
 ·
  have hx:=xc0 x9 a (k - 1);have hx1:=(xc3 x9 a).getD (by omega) (k - 1);obtain ⟨n1,n2,n3,n4,n5⟩:=ji1 (k:=k - 1) (by omega) hl hD hd rfl (by rw [show k - 1+1=k by omega];exact hv) (by rw [show k - 1+1=k by omega,<-hx]);rw [show k - 1+1=k by omega] at n3;refine A10 ?_;refine R2 (x4 sl233 (k - 1) (by omega) (gN (by omega))) rfl rfl ?_;refine A2 ?_;refine Rt (x3 (jw2 _ _ _ _ _ (by omega) (by omega) (by omega) rfl rfl) fi396 rfl) qC ?_;refine A3 ?_;refine R2 (zag sl233 rfl) rfl rfl (RE (xb8 (k - 1) ti284 (xj0 (by omega)) (by omega) (xh1 (m:=_) rfl)) qB qA trivial ?_);refine A9 ?_;exact kF ((k - 1,qs.set (k - 1) (((dig 4294967296 a).getD (k - 1) 0+a / 4294967296 ^ k%d*2 ^ 32) / d))) ⟨(by dsimp only;exact ⟨by omega,n1,n2,n4⟩),(by dsimp only;omega)⟩ (hg:=(sI (Sub.le rfl (zba (by dsimp only;rw [hx,n3])) (sC (sI (sC zay))))))
 ·
  refine A7 ?_;refine RE (xi6 (fun _ h=>h) (xi4 hl) hl) qA qA trivial (Rt (x3 (xp0 _) fi335 rfl) qA ?_);refine A6 ?_;exact E2 rfl rfl rfl (Le.of (by rw [xd7 x9 hD,show val 4294967296 qs=a / d by rw [show k=0 by omega] at hv;simpa using hv])) (zba (by rw [show k=0 by omega,zer,Nat.div_one]))
theorem zn1 (a s:Nat) (ha:(dig 4294967296 a).length<=100000) (hs:s<=31):
  CtG Tryz.prog 379 [] [.val (tN a),.val (tI s)] (.own (.sl 12 1 0 ((dig 4294967296 a).length+1))) [(12,⟨284,1,false,rW .u32 (dgs 4294967296 ((dig 4294967296 a).length+1) (a*2 ^ s))⟩)] [12]:=by
 refine CtG.intro [] func379 rfl ntmps379 rfl rfl trivial ?_;intro w F η;refine A10 ?_;refine RE (xg0 (k:=12) (t:=tE (.int .u32 0)) (ts:=rW .u32 (List.replicate ((dig 4294967296 a).length+1) 0)) ((dig 4294967296 a).length+1) ((dig 4294967296 a).length+1) zgz el284 (fun _ _=>rfl) rfl (by omega) (by omega) (zbs _) (by omega) (by omega) (xp5 _)) qB trivial qA ?_;refine A12 ?_;refine cL (fun (fm:(Nat)×(List Nat))=>(fun (i:Nat) (ws:List Nat)=>i<=(dig 4294967296 a).length/\ws.length=(dig 4294967296 a).length+1/\Dig 4294967296 ws/\ws.drop (i+1)=List.replicate ((dig 4294967296 a).length - i) 0/\val 4294967296 (ws.take (i+1))=a%4294967296 ^ i*2 ^ s) fm.1 fm.2) (wB fun (i:Nat) (ws:List Nat)=>uV (uV (uV (uO (uV uN 1 (tI s)) 5 (.sl 12 1 0 ((dig 4294967296 a).length+1))) 13 (tN a)) 14 (tI (dig 4294967296 a).length)) 15 (tI i)) (wB fun (i:Nat) (ws:List Nat)=>uK uN 12 284 1 false (rW .u32 ws)) [12] (fun (fm:(Nat)×(List Nat))=>(fun (i:Nat) (ws:List Nat)=>(dig 4294967296 a).length - i) fm.1 fm.2) ((0,List.replicate ((dig 4294967296 a).length+1) 0)) (by dsimp only;exact ⟨zbq _,by simp,Dig.rep (by decide) _,by rw [zfc];congr 1,by rw [List.take_replicate,xf1,zer,zfs,zdz]⟩) ?_;intro fm hI;obtain ⟨i,ws⟩:=fm;replace hI:i<=(dig 4294967296 a).length/\ws.length=(dig 4294967296 a).length+1/\Dig 4294967296 ws/\ws.drop (i+1)=List.replicate ((dig 4294967296 a).length - i) 0/\val 4294967296 (ws.take (i+1))=a%4294967296 ^ i*2 ^ s:=hI;show wc _ _ _ _ (uV (uV (uV (uO (uV uN 1 (tI s)) 5 (.sl 12 1 0 ((dig 4294967296 a).length+1))) 13 (tN a)) 14 (tI (dig 4294967296 a).length)) 15 (tI i)) (uK uN 12 284 1 false (rW .u32 ws)) _;obtain ⟨hi,hl,hD,hz,hv⟩:=hI;have hx:=xc0 x9 a i;have hx1:=(xc3 x9 a).getD (by omega) i;refine A6 ?_;refine x6 rfl (fun h175=> ?_) (fun h175=> ?_)
 ·
  refine A7 ?_;refine R2 (x4 sl233 (i) (by omega) (gN (by omega))) rfl rfl ?_;refine A8 ?_;refine R1 (x5 zhd (isS zhb) (by first | exact wu64 (by omega) (by omega) | exact mu64)) rfl ?_;refine A1 ?_;have hw:=jg2 hx1 hs;have ht:=ji2 (by omega) hv;obtain ⟨ho,hoW⟩:=qv1 ht hx1 hs;refine R2 (xi7 (by omega) (shlN64 (s:=s) rfl (by omega) (by omega))) rfl rfl ?_;refine A7 ?_;refine R2 (zag sl233 rfl) rfl rfl (RE (xc1 (i) ti284 (xn7 (by omega)) (by omega)) qA qA trivial ?_);refine A1 ?_;refine R1 (x5 zhb (isS zhd) cut32) rfl (R2 (xq6 ho) rfl rfl (R2 (zag sl233 rfl) rfl rfl (RE (xb8 (i) ti284 (xj0 (by omega)) (by omega) (xh1 (m:=_) rfl)) qB qA trivial ?_)));refine A7 ?_;refine R2 (xh3 (by decide) shr32) rfl rfl (R1 (x5 zhb (isS zhd) (wu32 (by omega) (by omega))) rfl (R2 (zag sl233 rfl) rfl rfl (RE (xb8 (i+1) ti284 (xj0 (by rw [zdy];omega)) (by omega) (xh1 (m:=_) rfl)) qB qA trivial ?_)));refine A7 ?_;obtain ⟨n1,n2,n3,n4⟩:=jo1 (by omega) hl hD hs hx hz hv;exact kF ((i+1,(ws.set i (ws.getD i 0+(dig 4294967296 a).getD i 0*2 ^ s%4294967296)).set (i+1) ((dig 4294967296 a).getD i 0*2 ^ s / 4294967296))) ⟨(by dsimp only;exact ⟨by omega,n1,n2,n3,n4⟩),(by dsimp only;omega)⟩
 ·
  refine A12 ?_;have hA:i=(dig 4294967296 a).length:=by omega
  subst hA;have hw:=jb1 hl hD (xf6 x9 a) hv;subst hw;exact xc5 LentC.mk' rfl rfl Imp.refl qA rfl ⟨⟨rfl,xd1⟩,trivial⟩ rfl
end An.S
namespace An
theorem qw7 {P U V m w q:Nat} (hV:w*P<=V) (hU:U < (m+1)*P) (hq:q*V<=U):q*w<=m:=by
 have h1:q*w*P<=U:=by
  rw [zdf];exact zcj (zdi _ hV) hq
 have h2:q*w < m+1:=Nat.lt_of_mul_lt_mul_right (zfy h1 hU);omega
theorem quo_ge {P U V m w d:Nat} (hV0:0 < V) (hV:V<=(w+1)*P) (hU:m*P<=U) (hd:d*w<=m) (hdP:d*P<=V):d<=U / V+1:=by
 rcases zcf d with h0 | h0
 ·rw [h0];exact zbq _
 have h1:d*V<=U+V:=by
  have h2:d*V<=d*((w+1)*P):=zdi _ hV;have h3:d*((w+1)*P)=d*w*P+d*P:=by rw [<-zdf,zcy,zcn,zee]
  have h4:d*w*P<=m*P:=zbt _ hd;omega
 have h5:(d - 1)*V<=U:=by
  have:d*V=(d - 1)*V+V:=by
   obtain ⟨e,rfl⟩: ∃e,d=e+1:=⟨d - 1,by omega⟩
   rw [zgq,zcn,zff]
  omega
 have h6:=(Nat.le_div_iff_mul_le hV0).2 h5;exact Nat.sub_le_iff_le_add.1 h6
theorem jg1 {B d u v c b w b' T Tu Tv X p:Nat} (hp:p=d*v+c) (hw:w+p%B+b=u+B*b') (h:T+d*Tv=Tu+(c+b)*X):
  T+X*w+d*(Tv+X*v)=Tu+X*u+(p / B+b')*(X*B):=by
 have h1:=zdg p B;have h2:X*w+X*(p%B)+X*b=X*u+X*(B*b'):=by rw [<-zcy,<-zcy,<-zcy,hw]
 have h3:X*p=X*(d*v)+X*c:=by rw [hp,zcy]
 have h4:X*p=X*(B*(p / B))+X*(p%B):=by rw [<-zcy,h1]
 have e1:d*(Tv+X*v)=d*Tv+X*(d*v):=by rw [zcy,Nat.mul_left_comm]
 have e2:(p / B+b')*(X*B)=X*(B*(p / B))+X*(B*b'):=by
  rw [zcn];congr 1
  ·rw [zce,zdf]
  ·rw [zce,zdf]
 have e3:(c+b)*X=X*c+X*b:=by rw [zce,zcy]
 rw [e1,e2];rw [e3] at h;omega
end An
namespace An
open Go
theorem wquo64 {a b:Nat} (ha:a < 18446744073709551616):IntKind.u64.wrap ((a:Int).tdiv (b:Int))=((a / b:Nat):Int):=by
 rw [Int.tdiv_eq_ediv_of_nonneg (by omega)];have h:(a:Int) / (b:Int)=((a / b:Nat):Int):=(Int.natCast_ediv a b).symm;rw [h];have:=Nat.div_le_self a b;generalize a / b=q at*
 exact wu64 (by omega) (by omega)
theorem wrem64 {a b:Nat}:(a:Int).tmod (b:Int)=((a%b:Nat):Int):=by
 rw [Int.tmod_eq_emod_of_nonneg (by omega)];exact (Int.natCast_emod a b).symm
theorem shr63 {m:Nat}:((m:Nat):Int).fdiv (2 ^ (min (63:Int).toNat IntKind.u64.bits))=((m / 9223372036854775808:Nat):Int):=by
 have e:(2:Int) ^ (min (63:Int).toNat IntKind.u64.bits)=((9223372036854775808:Nat):Int):=by decide
 rw [e,zgn _ (by omega)];rfl
theorem xt5 {l:List Nat} {k:Nat} (h:l.length=k+1):val W l=val W (l.take k)+W ^ k*l.getD k 0:=by
 rw [<-xd4 _ _ _ (by omega),<-h,zbx]
theorem xs8 {l:List Nat} (hD:Dig W l) {k:Nat} (hk:k<=l.length):val W (l.take k) < W ^ k:=by
 have:=xp2 (hD.take k)
 rwa [zde,zfo hk] at this
structure Two (m:Nat) (u v:List Nat):Prop where
  lu:u.length=m+3
  lv:v.length=m+2
  Du:Dig W u
  Dv:Dig W v
  top:2147483648<=v.getD (m+1) 0
  lt:val W u < val W v*W
namespace Two
variable {m:Nat} {u v:List Nat} (t:Two m u v)
include t
theorem hV1:v.getD (m+1) 0*(W*W ^ m)<=val W v/\val W v < (v.getD (m+1) 0+1)*(W*W ^ m):=by
 have h1:=xt5 t.lv;have h2:=xs8 t.Dv (k:=m+1) (by rw [t.lv];omega);rw [h1,zcn,zff,show W*W ^ m=W ^ (m+1) by rw [zch,zce],zce (v.getD (m+1) 0)];omega
theorem pos:0 < val W v:=by
 have h1:=t.hV1.1;have h2:0 < W*W ^ m:=Nat.mul_pos (by decide) (zdb (by decide));have h3:=zbt (W*W ^ m) (show 1<=v.getD (m+1) 0 by have:=t.top;omega);omega
theorem hV2:(v.getD (m+1) 0*W+v.getD m 0)*W ^ m<=val W v/\val W v<=(v.getD (m+1) 0*W+v.getD m 0+1)*W ^ m:=by
 have h1:=xt5 t.lv;have h2:=xd4 W v m (by rw [t.lv];omega);have h3:=xs8 t.Dv (k:=m) (by rw [t.lv];omega);have e:v.getD (m+1) 0*W*W ^ m=W ^ (m+1)*v.getD (m+1) 0:=by rw [zch];ac_rfl
 rw [zcn,zcn,zcn,zff,e,h1,h2,zce (v.getD m 0)];omega
theorem hU:(u.getD (m+1) 0+u.getD (m+2) 0*4294967296)*(W*W ^ m)<=val W u/\val W u < (u.getD (m+1) 0+u.getD (m+2) 0*4294967296+1)*(W*W ^ m)/\
  ((u.getD (m+1) 0+u.getD (m+2) 0*4294967296)*W+u.getD m 0)*W ^ m<=val W u/\val W u < ((u.getD (m+1) 0+u.getD (m+2) 0*4294967296)*W+u.getD m 0+1)*W ^ m:=by
 have h1:=xt5 t.lu;have h2:=xd4 W u (m+1) (by rw [t.lu];omega);have h3:=xs8 t.Du (k:=m+1) (by rw [t.lu];omega);have h4:=xd4 W u m (by rw [t.lu];omega);have h5:=xs8 t.Du (k:=m) (by rw [t.lu];omega);have e0:W*W ^ m=W ^ (m+1):=by rw [zch,zce]
 have e1:u.getD (m+2) 0*4294967296*(W*W ^ m)=W ^ (m+2)*u.getD (m+2) 0:=by
  rw [zch,zch];show u.getD (m+2) 0*W*(W*W ^ m)=_;ac_rfl
 have e2:(u.getD (m+1) 0+u.getD (m+2) 0*4294967296)*(W*W ^ m)=W ^ (m+1)*u.getD (m+1) 0+W ^ (m+2)*u.getD (m+2) 0:=by
  rw [zcn,e1,e0,zce (W ^ (m+1))]
 have e3:(u.getD (m+1) 0+u.getD (m+2) 0*4294967296)*W*W ^ m=(u.getD (m+1) 0+u.getD (m+2) 0*4294967296)*(W*W ^ m):=zdf _ _ _;refine ⟨?_,?_,?_,?_⟩
 ·rw [e2,h1,h2];omega
 ·rw [zcn,zff,e2,h1,h2,e0];omega
 ·rw [zcn,e3,e2,h1,h2,h4,zce (u.getD m 0)];omega
 ·rw [zcn,zff,zcn,e3,e2,h1,h2,h4,zce (u.getD m 0)];omega
theorem q_lt:val W u / val W v < W:=zdc t.lt
theorem est0:val W u / val W v<=(u.getD (m+1) 0+u.getD (m+2) 0*4294967296) / v.getD (m+1) 0:=by
 have h:=qw7 t.hV1.1 t.hU.2.1 (Nat.div_mul_le_self (val W u) (val W v));exact (Nat.le_div_iff_mul_le (by have:=t.top;omega)).2 h
theorem est1:(u.getD (m+1) 0+u.getD (m+2) 0*4294967296) / v.getD (m+1) 0<=4294967297:=by
 have h1:=t.hV1.2;have h2:=t.hU.1;have h3:=t.lt;have hp:0 < W*W ^ m:=Nat.mul_pos (by decide) (zdb (by decide));have h4:(u.getD (m+1) 0+u.getD (m+2) 0*4294967296)*(W*W ^ m) < (v.getD (m+1) 0+1)*W*(W*W ^ m):=by
  refine zfy h2 (zca h3 ?_);rw [zdf,zce W,<-zdf];exact zbt _ (zgj h1)
 have h5:=Nat.lt_of_mul_lt_mul_right h4;have h6:(u.getD (m+1) 0+u.getD (m+2) 0*4294967296) / v.getD (m+1) 0 < 4294967298:=by
  refine zdc ?_;have:=t.top;have h7:(v.getD (m+1) 0+1)*W=v.getD (m+1) 0*4294967296+4294967296:=by rw [zcn,zff]
  rw [h7] at h5;generalize v.getD (m+1) 0=x at*
  generalize u.getD (m+1) 0+u.getD (m+2) 0*4294967296=y at*
  have h8:x*4294967298=x*4294967296+2*x:=by rw [zce 2,<-zcy]
  rw [h8];clear h1 h2 h3 h4 h7 h8;omega
 exact Nat.le_of_lt_succ h6
theorem dec {d r:Nat} (hq:val W u / val W v<=d) (hd:d*v.getD (m+1) 0+r=u.getD (m+1) 0+u.getD (m+2) 0*4294967296) (hg:4294967296<=d∨u.getD m 0+r*2 ^ 32 < d*v.getD m 0):
  val W u / val W v<=d - 1/\(d - 1)*v.getD (m+1) 0+(r+v.getD (m+1) 0)=u.getD (m+1) 0+u.getD (m+2) 0*4294967296/\1<=d:=by
 have h0:=t.q_lt;have h1:1<=d:=by
  rcases hg with hg | hg
  ·omega
  ·rcases zcf d with h | h
   ·rw [h,zdz] at hg;omega
   ·exact h
 refine ⟨?_,?_,h1⟩
 ·rcases hg with hg | hg
  ·have:val W u / val W v < 4294967296:=h0;omega
  ·rcases Nat.lt_or_eq_of_le hq with h1 | h1
   ·omega
   ·exfalso;have h2:=qw7 t.hV2.1 t.hU.2.2.2 (Nat.div_mul_le_self (val W u) (val W v));rw [h1,<-hd,zcy,<-zdf,zcn] at h2;have e:r*W=r*2 ^ 32:=rfl;omega
 ·obtain ⟨e,rfl⟩: ∃e,d=e+1:=⟨d - 1,by omega⟩
  rw [zcn,zff] at hd;rw [zgq];omega
theorem good {d r:Nat} (hd:d*v.getD (m+1) 0+r=u.getD (m+1) 0+u.getD (m+2) 0*4294967296) (hdW:d<=4294967296) (hg:d*v.getD m 0<=u.getD m 0+r*2 ^ 32):d<=val W u / val W v+1:=by
 refine quo_ge (P:=W ^ m) t.pos t.hV2.2 t.hU.2.2.1 ?_ ?_
 ·rw [<-hd,zcy,<-zdf,zcn];have e:r*W=r*2 ^ 32:=rfl;omega
 ·refine zcj ?_ t.hV1.1;have h1:d*W ^ m<=W*W ^ m:=zbt _ hdW;have h2:=zbt (W*W ^ m) (show 1<=v.getD (m+1) 0 by have:=t.top;omega);omega
theorem good2 {d r:Nat} (hd:d*v.getD (m+1) 0+r=u.getD (m+1) 0+u.getD (m+2) 0*4294967296) (hdW:d<=4294967296) (hr:4294967296<=r):d<=val W u / val W v+1:=by
 refine t.good hd hdW ?_;have h1:v.getD m 0 < W:=t.Dv.getD (by decide) m;have h2:d*v.getD m 0<=4294967296*v.getD m 0:=zbt _ hdW;have h3:4294967296*v.getD m 0<=4294967296*4294967295:=zdi _ (by have:v.getD m 0 < 4294967296:=h1;omega);omega
end Two
def dif64 (x y b:Nat):Nat:=(x+18446744073709551616 - y - b)%18446744073709551616
theorem dif64_eq {x y b:Nat} (hy:y < 4294967296) (hb:b<=1):IntKind.u64.wrap (IntKind.u64.wrap ((x:Int) - (y:Int)) - (b:Int))=((dif64 x y b:Nat):Int):=by
 rw [mu64,mu64,dif64];omega
theorem dif64_top {x y b:Nat} (hx:x < 4294967296) (hy:y < 4294967296) (hb:b<=1):dif64 x y b / 9223372036854775808=if x < y+b then 1 else 0:=by
 rw [dif64];split <;> omega
theorem dif64_low {x y b:Nat} (hx:x < 4294967296) (hy:y < 4294967296) (hb:b<=1):dif64 x y b%4294967296+y+b=x+W*(dif64 x y b / 9223372036854775808):=by
 rw [dif64_top hx hy hb,dif64];show _=x+4294967296*_;split <;> omega
theorem dif64_le {x y b:Nat} (hx:x < 4294967296) (hy:y < 4294967296) (hb:b<=1):dif64 x y b / 9223372036854775808<=1:=by
 rw [dif64_top hx hy hb];split <;> omega
theorem qm6 {d v c:Nat} (hd:d<=4294967296) (hv:v < 4294967296) (hc:c < 4294967296):d*v<=18446744069414584320/\d*v+c < 18446744073709551616:=by
 have h1:d*v<=4294967296*4294967295:=Nat.mul_le_mul hd (by omega);omega
theorem jw9 {n d c b i:Nat} {u v ws:List Nat} (hi:i < n) (lu:u.length=n+1) (lv:v.length=n) (Dv:Dig W v) (hl:ws.length=n+1) (hD:Dig W ws) (hdr:ws.drop i=u.drop i) (hd:d<=4294967296) (hc:c < 4294967296) (hb:b<=1)
  (hv:val W (ws.take i)+d*val W (v.take i)=val W (u.take i)+(c+b)*W ^ i):
  let p:=d*v.getD i 0+c
  let e:=dif64 (ws.getD i 0) (p%4294967296) b
  (ws.set i (e%4294967296)).length=n+1/\Dig W (ws.set i (e%4294967296))/\(ws.set i (e%4294967296)).drop (i+1)=u.drop (i+1)/\p / 4294967296 < 4294967296/\e / 9223372036854775808<=1/\
   val W ((ws.set i (e%4294967296)).take (i+1))+d*val W (v.take (i+1))=val W (u.take (i+1))+(p / 4294967296+e / 9223372036854775808)*W ^ (i+1):=by
 intro p e;have hvi:v.getD i 0 < 4294967296:=Dv.getD (by decide) i;have hwi:ws.getD i 0 < 4294967296:=hD.getD (by decide) i;have hp:=qm6 hd hvi hc;have hpm:p%4294967296 < 4294967296:=zck _ (by decide);refine ⟨by simpa using hl,hD.set (zck _ (by decide)),by rw [xe0];exact xi5 hdr (by omega),zdc hp.2,dif64_le hwi hpm hb,?_⟩;rw [xe7 (by omega),xd4 _ v _ (by omega),xd4 _ u _ (by omega),zch];refine jg1 (p:=p) rfl ?_ hv;rw [<-xg5 hdr (zbs _)];exact dif64_low hwi hpm hb
theorem jj8 {n d c b:Nat} {u v ws:List Nat} (lu:u.length=n+1) (lv:v.length=n) (hl:ws.length=n+1) (hD:Dig W ws) (hdr:ws.drop n=u.drop n) (hc:c < 4294967296) (hb:b<=1)
  (hv:val W (ws.take n)+d*val W (v.take n)=val W (u.take n)+(c+b)*W ^ n):
  let e:=dif64 (ws.getD n 0) c b
  (ws.set n (e%4294967296)).length=n+1/\Dig W (ws.set n (e%4294967296))/\val W (ws.set n (e%4294967296))+d*val W v=val W u+e / 9223372036854775808*W ^ (n+1)/\e / 9223372036854775808<=1:=by
 intro e;have hwi:ws.getD n 0 < 4294967296:=hD.getD (by decide) n;have h1:=dif64_low hwi hc hb;have hlen:(ws.set n (e%4294967296)).length=n+1:=by simpa using hl
 refine ⟨hlen,hD.set (zck _ (by decide)),?_,dif64_le hwi hc hb⟩;have h2:=xe7 (B:=W) (l:=ws) (i:=n) (d:=e%4294967296) (by omega);rw [<-hlen,zbx] at h2;have h3:=xt5 lu;rw [<-xg5 hdr (zbs _)] at h3;have h4:v.take n=v:=by rw [<-lv];exact zbx
 rw [h4] at hv;rw [h2,h3];have h5:W ^ n*(e%4294967296)+W ^ n*c+W ^ n*b=W ^ n*ws.getD n 0+W ^ n*(W*(e / 9223372036854775808)):=by
  rw [<-zcy,<-zcy,<-zcy,h1]
 have h6:e / 9223372036854775808*W ^ (n+1)=W ^ n*(W*(e / 9223372036854775808)):=by rw [zch,zce,zdf]
 rw [h6];rw [zce (c+b),zcy] at hv;omega
theorem qw6 {m d:Nat} {u v zs:List Nat} (t:Two m u v) (hl:zs.length=m+3) (hD:Dig W zs) (hq:val W u / val W v<=d) (h:val W zs+d*val W v=val W u+0*W ^ (m+3)):d=val W u / val W v/\zs=dgs W (m+3) (val W u%val W v):=by
 have h0:d<=val W u / val W v:=(Nat.le_div_iff_mul_le t.pos).2 (by omega);have h1:d=val W u / val W v:=by omega
 refine ⟨h1,?_⟩;have h2:val W zs=val W u%val W v:=by
  have:=zdg (val W u) (val W v);rw [<-h1,zce] at this;omega
 rw [<-h2,<-hl,yt5 (by decide) hD]
theorem ja2 {m d:Nat} {u v zs:List Nat} (t:Two m u v) (hD:Dig W zs) (hl:zs.length=m+3) (hq:d<=val W u / val W v+1) (hq0:val W u / val W v<=d) (h:val W zs+d*val W v=val W u+1*W ^ (m+3)):
  d=val W u / val W v+1/\val W zs+val W v=W ^ (m+3)+val W u%val W v:=by
 have hz:=xp2 hD;rw [hl] at hz;have h0:val W u < d*val W v:=by omega
 have h1:val W u / val W v < d:=(Nat.div_lt_iff_lt_mul t.pos).2 h0;have h2:d=val W u / val W v+1:=by omega
 refine ⟨h2,?_⟩;have:=zdg (val W u) (val W v);rw [h2,zcn,zff,zce] at h;omega
theorem we2 {n i b:Nat} {zs ws v:List Nat} (hi:i < n) (lw:ws.length=n+1) (lv:v.length=n) (hl:zs.length=n+1) (hD:Dig W zs) (hdr:zs.drop i=ws.drop i) (Dv:Dig W v) (hb:b<=1)
  (hv:val W (zs.take i)+b*W ^ i=val W (ws.take i)+val W (v.take i)):
  let s:=zs.getD i 0+v.getD i 0+b
  (zs.set i (s%4294967296)).length=n+1/\Dig W (zs.set i (s%4294967296))/\(zs.set i (s%4294967296)).drop (i+1)=ws.drop (i+1)/\s / 4294967296<=1/\
   val W ((zs.set i (s%4294967296)).take (i+1))+s / 4294967296*W ^ (i+1)=val W (ws.take (i+1))+val W (v.take (i+1)):=by
 intro s;have hvi:v.getD i 0 < 4294967296:=Dv.getD (by decide) i;have hwi:zs.getD i 0 < 4294967296:=hD.getD (by decide) i;have h1:=zdg s 4294967296;refine ⟨by simpa using hl,hD.set (zck _ (by decide)),by rw [xe0];exact xi5 hdr (by omega),by omega,?_⟩;rw [xe7 (by omega),xd4 _ v _ (by omega),xd4 _ ws _ (by omega),<-xg5 hdr (zbs _)];have h2:W ^ i*(s%4294967296)+W ^ i*(W*(s / 4294967296))=W ^ i*zs.getD i 0+W ^ i*v.getD i 0+W ^ i*b:=by
  rw [<-zcy,<-zcy,<-zcy];congr 1;show _+4294967296*_=_;omega
 have h3:s / 4294967296*W ^ (i+1)=W ^ i*(W*(s / 4294967296)):=by rw [zch,zce,zdf]
 rw [h3];rw [zce b] at hv;omega
theorem jk1 {m b r:Nat} {zs ws v:List Nat} (lw:ws.length=m+3) (lv:v.length=m+2) (hl:zs.length=m+3) (hD:Dig W zs) (hdr:zs.drop (m+2)=ws.drop (m+2)) (hb:b<=1)
  (hv:val W (zs.take (m+2))+b*W ^ (m+2)=val W (ws.take (m+2))+val W (v.take (m+2))) (h:val W ws+val W v=W ^ (m+3)+r):
  zs.set (m+2) ((zs.getD (m+2) 0+b)%4294967296)=dgs W (m+3) r:=by
 have hlen:(zs.set (m+2) ((zs.getD (m+2) 0+b)%4294967296)).length=m+3:=by simpa using hl
 have hDz:Dig W (zs.set (m+2) ((zs.getD (m+2) 0+b)%4294967296)):=hD.set (zck _ (by decide));have h2:=xe7 (B:=W) (l:=zs) (i:=m+2) (d:=(zs.getD (m+2) 0+b)%4294967296) (by omega);rw [<-hlen,zbx] at h2;have h4:v.take (m+2)=v:=by rw [<-lv];exact zbx
 rw [h4] at hv;have h3:=xt5 lw;rw [<-xg5 hdr (zbs _)] at h3;have h5:=zdg (zs.getD (m+2) 0+b) 4294967296;have h6:W ^ (m+2)*((zs.getD (m+2) 0+b)%4294967296)+W ^ (m+2)*(4294967296*((zs.getD (m+2) 0+b) / 4294967296))=W ^ (m+2)*zs.getD (m+2) 0+W ^ (m+2)*b:=by
  rw [<-zcy,<-zcy];congr 1;omega
 have hwi:zs.getD (m+2) 0 < 4294967296:=hD.getD (by decide) _;have h7:val W (zs.set (m+2) ((zs.getD (m+2) 0+b)%4294967296)) < W ^ (m+3):=by
  have:=xp2 hDz;rwa [hlen] at this
 have h8:W ^ (m+3)=W ^ (m+2)*4294967296:=zch ..;have hval:val W (zs.set (m+2) ((zs.getD (m+2) 0+b)%4294967296))=r:=by
  rw [zce b] at hv;rcases zcx (zs.getD (m+2) 0+b) 4294967296 with h9 | h9
  ·rw [zcz h9,Nat.mul_zero] at h6;omega
  ·have h10:(zs.getD (m+2) 0+b) / 4294967296=1:=by omega
   rw [h10,zee,<-h8] at h6;omega
 rw [<-hval,<-hlen,yt5 (by decide) hDz]
end An
namespace An.S
open Go Go.Proofs An Tryz
instance fi397:FnI Tryz.prog 397:=⟨_,func397,by kernel_rfl,rfl⟩
theorem zz1 (p u q v:List Nat) (m:Nat) (t:Two m u v) (hm:m<=100000):
  CtG Tryz.prog 380 [(9,⟨284,1,false,rW .u32 (p++(u++q))⟩)] [.own (.sl 9 1 p.length (m+3)),.val (tWs v)] (.val (tE (.int .u32 ((val 4294967296 u / val 4294967296 v:Nat):Int)))) [(9,⟨284,1,false,rW .u32 (p++(dgs 4294967296 (m+3) (val 4294967296 u%val 4294967296 v)++q))⟩)] []:=by
 refine CtG.intro [9] func380 rfl ntmps380 rfl rfl ⟨⟨rfl,xd1⟩,trivial⟩ ?_;intro w F η;have lu:=t.lu;have lv:=t.lv;have htop:=t.top;have hv1:v.getD (m+1) 0 < 4294967296:=t.Dv.getD (by decide) (m+1);have hv0:v.getD m 0 < 4294967296:=t.Dv.getD (by decide) m;have hu2:u.getD (m+2) 0 < 4294967296:=t.Du.getD (by decide) (m+2);have hu1:u.getD (m+1) 0 < 4294967296:=t.Du.getD (by decide) (m+1);have hu0:u.getD m 0 < 4294967296:=t.Du.getD (by decide) m;have hqW:val 4294967296 u / val 4294967296 v < 4294967296:=t.q_lt;refine A16 ?_;refine R2 (zag sl233 rfl) rfl rfl (RE (xc1 (p.length+(m+2)) ti284 (xr1 (by omega)) (by omega)) qA qA trivial (R1 (x5 zhd (isS zhb) (by first | exact wu64 (by omega) (by omega) | exact mu64)) rfl (R2 (xi7 (by decide) (shl32 (by omega))) rfl rfl ?_)));refine A3 ?_;refine R2 (zag sl233 rfl) rfl rfl (RE (xc1 (p.length+(m+1)) ti284 (xr1 (by omega)) (by omega)) qA qA trivial (R1 (x5 zhd (isS zhb) (by first | exact wu64 (by omega) (by omega) | exact mu64)) rfl (R2 (xq6 (r:=(((u.getD (m+1) 0+u.getD (m+2) 0*4294967296):Nat):Int)) (or32 (by omega) (by omega))) rfl rfl ?_)));refine A8 ?_;refine R2 (x4 sl233 (m+1) (by omega) (gN (by omega))) rfl rfl ?_;refine A1 ?_;refine R1 (x5 zhd (isS zhb) (by first | exact wu64 (by omega) (by omega) | exact mu64)) rfl ?_;refine A7 ?_;refine R2 (xe4 (r:=(((u.getD (m+1) 0+u.getD (m+2) 0*4294967296) / v.getD (m+1) 0:Nat):Int)) (by omega) (wquo64 (by omega))) rfl rfl ?_;refine A2 ?_;refine R2 (xd9 (by omega) wrem64) rfl rfl ?_;refine A4 ?_;refine xf0 (fun (d:Nat)=>val 4294967296 u / val 4294967296 v<=d/\d<=val 4294967296 u / val 4294967296 v+1) (fun (d:Nat)=>uV (uV (uV (uO uN 0 (.sl 9 1 p.length (m+3))) 1 (tWs v)) 5 (tI v.length)) 8 (tE (.int .u64 ((d:Nat):Int)))) (fun (d:Nat)=>uK uN 9 284 1 false (rW .u32 (p++(u++q)))) (nm [9]) ?_ ?_
 ·
  refine A1 ?_;refine cL (fun (fm:(Nat)×(Nat))=>(fun (d:Nat) (r:Nat)=>val 4294967296 u / val 4294967296 v<=d/\d*v.getD (m+1) 0+r=(u.getD (m+1) 0+u.getD (m+2) 0*4294967296)/\r < 4294967296/\d<=4294967297) fm.1 fm.2) (wB fun (d:Nat) (r:Nat)=>uV (uV (uV (uV (uV (uO uN 0 (.sl 9 1 p.length (m+3))) 1 (tWs v)) 5 (tI v.length)) 7 (tE (.int .u64 ((v.getD (m+1) 0:Nat):Int)))) 8 (tE (.int .u64 ((d:Nat):Int)))) 9 (tE (.int .u64 ((r:Nat):Int)))) (wB fun (d:Nat) (r:Nat)=>uK uN 9 284 1 false (rW .u32 (p++(u++q)))) [9] (fun (fm:(Nat)×(Nat))=>(fun (d:Nat) (r:Nat)=>d) fm.1 fm.2) (((u.getD (m+1) 0+u.getD (m+2) 0*4294967296) / v.getD (m+1) 0,(u.getD (m+1) 0+u.getD (m+2) 0*4294967296)%v.getD (m+1) 0)) (by dsimp only;exact ⟨t.est0,Nat.div_add_mod' _ _,Nat.lt_trans (zck _ (by omega)) hv1,t.est1⟩) ?_;intro fm hI;obtain ⟨d,r⟩:=fm;replace hI:val 4294967296 u / val 4294967296 v<=d/\d*v.getD (m+1) 0+r=(u.getD (m+1) 0+u.getD (m+2) 0*4294967296)/\r < 4294967296/\d<=4294967297:=hI;show wc _ _ _ _ (uV (uV (uV (uV (uV (uO uN 0 (.sl 9 1 p.length (m+3))) 1 (tWs v)) 5 (tI v.length)) 7 (tE (.int .u64 ((v.getD (m+1) 0:Nat):Int)))) 8 (tE (.int .u64 ((d:Nat):Int)))) 9 (tE (.int .u64 ((r:Nat):Int)))) (uK uN 9 284 1 false (rW .u32 (p++(u++q)))) _;obtain ⟨hq,hd,hr,hdW⟩:=hI;refine A6 ?_;refine RGcaseD (t:=49) rfl (fun h213=> ?_) (fun h213=> ?_)
  ·
   have hdec:=t.dec hq hd (.inl (by omega));refine A18 ?_;refine A10 ?_;refine R2 (xd6 (r:=((d - 1:Nat):Int)) (by rw [wu64 (by omega) (by omega)];omega)) rfl rfl ?_;refine A7 ?_;refine R2 (xd8 (wadd64 (by omega))) rfl rfl ?_;refine A9 ?_;refine x6 rfl (fun h216=> ?_) (fun h216=> ?_)
   ·
    refine A4 ?_;exact kF (d - 1) ⟨hdec.1,t.good2 hdec.2.1 (by omega) (by omega)⟩
   ·
    refine A2 ?_;exact kF ((d - 1,r+v.getD (m+1) 0)) ⟨(by dsimp only;exact ⟨hdec.1,hdec.2.1,by omega,by omega⟩),(by dsimp only;omega)⟩
  ·
   refine A3 ?_;refine Rg (zbf h213) rfl (xd6 zah) rfl qB (Rg (zbf h213) rfl (x4 sl233 (m) (by omega) (gN (by omega))) rfl qB ?_);refine A1 ?_;refine Rg (zbf h213) rfl (x5 zhd (isS zhb) (by first | exact wu64 (by omega) (by omega) | exact mu64)) rfl qA ?_;have hdv:=xq0 (x:=d) (y:=v.getD m 0) (by omega) (by omega);refine Rg (zbf h213) rfl (xi2 (wmul64 (by omega))) rfl qB ?_;refine A1 ?_;refine Rg (zbf h213) rfl (xi7 (by decide) (shl32 (by omega))) rfl qB ?_;refine A2 ?_;refine Rg (zbf h213) rfl (xd6 zah) rfl qB (Rg (zbf h213) rfl (zag sl233 rfl) rfl qB (RGon (zbf h213) rfl (xc1 (p.length+(m)) ti284 (xr1 (by omega)) (by omega)) rfl qA qA trivial (Rg (zbf h213) rfl (x5 zhd (isS zhb) (by first | exact wu64 (by omega) (by omega) | exact mu64)) rfl qA (Rg (zbf h213) rfl (xq6 (or32 (by omega) (by omega))) rfl qB ?_))));refine A4 ?_;refine x6 rfl (fun h213_2=> ?_) (fun h213_2=> ?_)
   ·
    have hdec:=t.dec hq hd (.inr (by omega));refine A6 ?_;refine R2 (xd6 (r:=((d - 1:Nat):Int)) (by rw [wu64 (by omega) (by omega)];omega)) rfl rfl ?_;refine A7 ?_;refine R2 (xd8 (wadd64 (by omega))) rfl rfl ?_;refine A9 ?_;refine x6 rfl (fun h216=> ?_) (fun h216=> ?_)
    ·
     refine A4 ?_;exact kF (d - 1) ⟨hdec.1,t.good2 hdec.2.1 (by omega) (by omega)⟩
    ·
     refine A2 ?_;exact kF ((d - 1,r+v.getD (m+1) 0)) ⟨(by dsimp only;exact ⟨hdec.1,hdec.2.1,by omega,by omega⟩),(by dsimp only;omega)⟩
   ·
    refine A4 ?_;exact kF (d) ⟨hq,t.good hd (by omega) (by omega)⟩
 ·
  intro d hj213;obtain ⟨eq1,eq2⟩:=hj213;have hd4:d<=4294967296:=by omega
  refine A15 ?_;refine cL (fun (fm:(Nat)×(List Nat)×(Nat)×(Nat))=>(fun (i:Nat) (ws:List Nat) (c:Nat) (b:Nat)=>i<=m+2/\ws.length=m+2+1/\Dig 4294967296 ws/\ws.drop i=u.drop i/\c < 4294967296/\b<=1/\val 4294967296 (ws.take i)+d*val 4294967296 (v.take i)=val 4294967296 (u.take i)+(c+b)*4294967296 ^ i) fm.1 fm.2.1 fm.2.2.1 fm.2.2.2) (wD fun (i:Nat) (ws:List Nat) (c:Nat) (b:Nat)=>uV (uV (uV (uV (uV (uV (uV (uV (uO uN 0 (.sl 9 1 p.length (m+3))) 1 (tWs v)) 5 (tI v.length)) 8 (tE (.int .u64 ((d:Nat):Int)))) 10 (tE (.int .u64 ((c:Nat):Int)))) 11 (tE (.int .u64 ((b:Nat):Int)))) 76 (tWs v)) 77 (tI v.length)) 78 (tI i)) (wD fun (i:Nat) (ws:List Nat) (c:Nat) (b:Nat)=>uK uN 9 284 1 false (rW .u32 (p++(ws++q)))) [9] (fun (fm:(Nat)×(List Nat)×(Nat)×(Nat))=>(fun (i:Nat) (ws:List Nat) (c:Nat) (b:Nat)=>m+2 - i) fm.1 fm.2.1 fm.2.2.1 fm.2.2.2) ((0,u,0,0)) (by dsimp only;exact ⟨zbq _,lu,t.Du,rfl,by omega,by omega,by simp [val]⟩) ?_;intro fm hI;obtain ⟨i,ws,c,b⟩:=fm;replace hI:i<=m+2/\ws.length=m+2+1/\Dig 4294967296 ws/\ws.drop i=u.drop i/\c < 4294967296/\b<=1/\val 4294967296 (ws.take i)+d*val 4294967296 (v.take i)=val 4294967296 (u.take i)+(c+b)*4294967296 ^ i:=hI;show wc _ _ _ _ (uV (uV (uV (uV (uV (uV (uV (uV (uO uN 0 (.sl 9 1 p.length (m+3))) 1 (tWs v)) 5 (tI v.length)) 8 (tE (.int .u64 ((d:Nat):Int)))) 10 (tE (.int .u64 ((c:Nat):Int)))) 11 (tE (.int .u64 ((b:Nat):Int)))) 76 (tWs v)) 77 (tI v.length)) 78 (tI i)) (uK uN 9 284 1 false (rW .u32 (p++(ws++q)))) _;obtain ⟨hi,hl,hD,hdr,hc,hb,hv⟩:=hI;have hvi:v.getD i 0 < 4294967296:=t.Dv.getD (by decide) i;have hwi:=hD.getD (by decide) i;have hpr:=qm6 hd4 hvi hc;have hwn:=hD.getD (by decide) (m+2);refine A6 ?_;refine x6 rfl (fun h221=> ?_) (fun h221=> ?_)
  ·
   refine A7 ?_;refine R2 (x4 sl233 (i) (by omega) (gN (by omega))) rfl rfl ?_;refine A9 ?_;refine R1 (x5 zhd (isS zhb) (by first | exact wu64 (by omega) (by omega) | exact mu64)) rfl (R2 (xi2 (wmul64 (by omega))) rfl rfl ?_);refine A1 ?_;refine R2 (xd8 (wadd64 (by omega))) rfl rfl ?_;refine A6 ?_;refine R2 (xh3 (by decide) shr32) rfl rfl ?_;refine A7 ?_;refine R2 (zag sl233 rfl) rfl rfl (RE (xc1 (p.length+(i)) ti284 (xr1 (by omega)) (by omega)) qA qA trivial (R1 (x5 zhd (isS zhb) (by first | exact wu64 (by omega) (by omega) | exact mu64)) rfl ?_));refine A1 ?_;refine R1 (x5 zhb (isS zhd) cut32) rfl (R1 (x5 zhd (isS zhb) (by first | exact wu64 (by omega) (by omega) | exact mu64)) rfl (R2 (xd6 rfl) rfl rfl ?_));refine A1 ?_;refine R2 (xd6 (dif64_eq (by omega) (by omega))) rfl rfl ?_;refine A8 ?_;refine R1 (x5 zhb (isS zhd) cut32) rfl (R2 (zag sl233 rfl) rfl rfl (RE (xb8 (p.length+(i)) ti284 (zq5 (by omega)) (by omega) (zb5 (m:=_) rfl (by omega))) qB qA trivial ?_));refine A4 ?_;refine R2 (xh3 (by decide) shr63) rfl rfl ?_;refine A8 ?_;obtain ⟨n1,n2,n3,n4,n5,n6⟩:=jw9 (n:=m+2) (by omega) lu lv t.Dv hl hD hdr hd4 hc hb hv;exact kF ((i+1,ws.set i (dif64 (ws.getD i 0) ((d*v.getD i 0+c)%4294967296) b%4294967296),(d*v.getD i 0+c) / 4294967296,dif64 (ws.getD i 0) ((d*v.getD i 0+c)%4294967296) b / 9223372036854775808)) ⟨(by dsimp only;exact ⟨by omega,n1,n2,n3,n4,n5,n6⟩),(by dsimp only;omega)⟩
  ·
   have him:i=m+2:=by omega
   subst him;obtain ⟨y1,y2,y3,y4⟩:=jj8 (n:=m+2) lu lv hl hD hdr hc hb hv;refine A9 ?_;refine R2 (zag sl233 rfl) rfl rfl (RE (xc1 (p.length+(m+2)) ti284 (xr1 (by omega)) (by omega)) qA qA trivial (R1 (x5 zhd (isS zhb) (by first | exact wu64 (by omega) (by omega) | exact mu64)) rfl ?_));refine A1 ?_;refine R2 (xd6 rfl) rfl rfl ?_;refine A1 ?_;refine R2 (xd6 (dif64_eq (by omega) (by omega))) rfl rfl ?_;refine A8 ?_;refine R1 (x5 zhb (isS zhd) cut32) rfl (R2 (zag sl233 rfl) rfl rfl (RE (xb8 (p.length+(m+2)) ti284 (zq5 (by omega)) (by omega) (zb5 (m:=_) rfl (by omega))) qB qA trivial ?_));refine A6 ?_;refine R2 (xh3 (by decide) shr63) rfl rfl ?_;refine A3 ?_;refine x6 rfl (fun h230=> ?_) (fun h230=> ?_)
   ·
    rw [show dif64 (ws.getD (m+2) 0) c b / 9223372036854775808=0 by omega] at y3;obtain ⟨z1,z2⟩:=qw6 t y1 y2 eq1 y3;refine A3 ?_;refine R1 (x5 zhb (isS zhd) cut32) rfl ?_;refine A5 ?_;exact xc5 LentC.mk' rfl rfl (Imp.int (by have z1:d=val 4294967296 u / val 4294967296 v:=z1;omega)) ⟨(congrArg (fun z=>some (HEnt.mk 284 1 false (rW .u32 (p++(z++q))))) z2),trivial⟩ rfl ⟨⟨rfl,xd1⟩,trivial⟩ rfl
   ·
    rw [show dif64 (ws.getD (m+2) 0) c b / 9223372036854775808=1 by omega] at y3;obtain ⟨z1,z2⟩:=ja2 t y2 y1 eq2 eq1 y3;have hd1:1<=d:=by rw [z1];exact Nat.le_add_left 1 _
    refine A16 ?_;refine cL (fun (fm:(Nat)×(List Nat)×(Nat))=>(fun (i:Nat) (zs:List Nat) (f:Nat)=>i<=m+2/\zs.length=m+2+1/\Dig 4294967296 zs/\zs.drop i=(ws.set (m+2) (dif64 (ws.getD (m+2) 0) c b%4294967296)).drop i/\f<=1/\val 4294967296 (zs.take i)+f*4294967296 ^ i=val 4294967296 ((ws.set (m+2) (dif64 (ws.getD (m+2) 0) c b%4294967296)).take i)+val 4294967296 (v.take i)) fm.1 fm.2.1 fm.2.2) (wC fun (i:Nat) (zs:List Nat) (f:Nat)=>uV (uV (uV (uV (uV (uV (uV (uO uN 0 (.sl 9 1 p.length (m+3))) 1 (tWs v)) 5 (tI v.length)) 8 (tE (.int .u64 ((d:Nat):Int)))) 17 (tE (.int .u32 ((f:Nat):Int)))) 129 (tWs v)) 130 (tI v.length)) 131 (tI i)) (wC fun (i:Nat) (zs:List Nat) (f:Nat)=>uK uN 9 284 1 false (rW .u32 (p++(zs++q)))) [9] (fun (fm:(Nat)×(List Nat)×(Nat))=>(fun (i:Nat) (zs:List Nat) (f:Nat)=>m+2 - i) fm.1 fm.2.1 fm.2.2) ((0,(ws.set (m+2) (dif64 (ws.getD (m+2) 0) c b%4294967296)),0)) (by dsimp only;exact ⟨zbq _,y1,y2,rfl,by omega,by simp [val]⟩) ?_;intro fm hZ;obtain ⟨i,zs,f⟩:=fm;replace hZ:i<=m+2/\zs.length=m+2+1/\Dig 4294967296 zs/\zs.drop i=(ws.set (m+2) (dif64 (ws.getD (m+2) 0) c b%4294967296)).drop i/\f<=1/\val 4294967296 (zs.take i)+f*4294967296 ^ i=val 4294967296 ((ws.set (m+2) (dif64 (ws.getD (m+2) 0) c b%4294967296)).take i)+val 4294967296 (v.take i):=hZ;show wc _ _ _ _ (uV (uV (uV (uV (uV (uV (uV (uO uN 0 (.sl 9 1 p.length (m+3))) 1 (tWs v)) 5 (tI v.length)) 8 (tE (.int .u64 ((d:Nat):Int)))) 17 (tE (.int .u32 ((f:Nat):Int)))) 129 (tWs v)) 130 (tI v.length)) 131 (tI i)) (uK uN 9 284 1 false (rW .u32 (p++(zs++q)))) _;clear hi hl hD hdr hc hv;obtain ⟨hi,hl,hD,hdr,hf,hv⟩:=hZ;have hvi:v.getD i 0 < 4294967296:=t.Dv.getD (by decide) i;have hzi:=hD.getD (by decide) i;refine A6 ?_;refine x6 rfl (fun h234=> ?_) (fun h234=> ?_)
    ·
     refine A7 ?_;refine R2 (x4 sl233 (i) (by omega) (gN (by omega))) rfl rfl ?_;refine A10 ?_;refine R2 (zag sl233 rfl) rfl rfl (RE (xc1 (p.length+(i)) ti284 (xr1 (by omega)) (by omega)) qA qA trivial ?_);refine A2 ?_;refine Rt (x3 (jz8 _ _ _ (by omega) (by omega) (by omega)) fi397 rfl) qC ?_;refine A3 ?_;refine R2 (zag sl233 rfl) rfl rfl (RE (xb8 (p.length+(i)) ti284 (zq5 (by omega)) (by omega) (zb5 (m:=_) rfl (by omega))) qB qA trivial ?_);refine A8 ?_;obtain ⟨n1,n2,n3,n4,n5⟩:=we2 (n:=m+2) (by omega) y1 lv hl hD hdr t.Dv hf hv;exact kF ((i+1,zs.set i ((zs.getD i 0+v.getD i 0+f)%4294967296),(zs.getD i 0+v.getD i 0+f) / 4294967296)) ⟨(by dsimp only;exact ⟨by omega,n1,n2,n3,n4,n5⟩),(by dsimp only;omega)⟩
    ·
     have him:i=m+2:=by omega
     subst him;have hfin:=jk1 y1 lv hl hD hdr hf hv z2;refine A9 ?_;refine R2 (zag sl233 rfl) rfl rfl (RE (xc1 (p.length+(m+2)) ti284 (xr1 (by omega)) (by omega)) qA qA trivial ?_);refine A1 ?_;refine R2 (xd8 (r:=(((zs.getD (m+2) 0+f)%4294967296:Nat):Int)) (by rw [mu32];omega)) rfl rfl (R2 (zag sl233 rfl) rfl rfl (RE (xb8 (p.length+(m+2)) ti284 (zq5 (by omega)) (by omega) (zb5 (m:=_) rfl (by omega))) qB qA trivial ?_));refine A5 ?_;refine R2 (xd6 (r:=((d - 1:Nat):Int)) (by rw [wu64 (by omega) (by omega)];omega)) rfl rfl (R1 (x5 zhb (isS zhd) cut32) rfl ?_);refine A4 ?_;exact xc5 LentC.mk' rfl rfl (Imp.int (by have z1:d=val 4294967296 u / val 4294967296 v+1:=z1;omega)) ⟨(congrArg (fun z=>some (HEnt.mk 284 1 false (rW .u32 (p++(z++q))))) hfin),trivial⟩ rfl ⟨⟨rfl,xd1⟩,trivial⟩ rfl
end An.S
namespace An
open Go
theorem yu6: ∀(n x:Nat),x < n->x≠0->x < 2 ^ 64->2 ^ (Lib.bitLen x - 1)<=x/\x < 2 ^ Lib.bitLen x/\1<=Lib.bitLen x
 | 0,x,h,_,_=>by omega
 | n+1,x,h,h0,h64=>by
  have h1:=Lib.bitLen_half x h0 h64;rcases zcf (x / 2) with h2 | h2
  ·have h3:x=1:=by omega
   subst h3;have h4:Lib.bitLen 0=0:=by decide
   rw [h2,h4] at h1;rw [h1];decide
  ·obtain ⟨i1,i2,i3⟩:=yu6 n (x / 2) (by omega) (by omega) (by omega);rw [h1];refine ⟨?_,?_,by omega⟩
   ·have e:1+Lib.bitLen (x / 2) - 1=(Lib.bitLen (x / 2) - 1)+1:=by omega
    rw [e,zch];omega
   ·rw [Nat.add_comm,zch];omega
theorem jt0 {x s:Nat} (h0:0 < x) (h:x < 4294967296) (hs:32 - Lib.bitLen x=s):s<=31/\2147483648<=x*2 ^ s/\x*2 ^ s < 4294967296:=by
 obtain ⟨h1,h2,h3⟩:=yu6 (x+1) x (by omega) (by omega) (by omega);have h4:=Lib.bitLen_le x 32 (by decide) h;have hp:0 < 2 ^ s:=zdb (by omega);refine ⟨by omega,?_,?_⟩
 ·have e:(2147483648:Nat)=2 ^ (Lib.bitLen x - 1)*2 ^ s:=by rw [<-zez,show Lib.bitLen x - 1+s=31 by omega]
  rw [e];exact zbt _ h1
 ·have e:(4294967296:Nat)=2 ^ Lib.bitLen x*2 ^ s:=by rw [<-zez,show Lib.bitLen x+s=32 by omega]
  rw [e];exact zem h2 hp
theorem yq4 (B x y v:Nat):dgs B (x+y) v=dgs B x v++dgs B y (v / B ^ x):=by
 induction y with
 | zero=>rw [zek,jn4,zgu]
 | succ y ih=>rw [<-zgm,xk6,xk6,ih,zfj,zdk,<-zez]
theorem yz9 {B n k v:Nat} (h:k<=n):(dgs B n v).take k=dgs B k v:=by
 obtain ⟨d,rfl⟩: ∃d,n=k+d:=⟨n - k,by omega⟩
 rw [yq4,List.take_left' (xe9 _ _ _)]
theorem norm {b m s:Nat} (hl:(dig W b).length=m+2) (hs:32 - Lib.bitLen ((dig W b).getD (m+1) 0)=s):
  s<=31/\b*2 ^ s < W ^ (m+2)/\2147483648<=b*2 ^ s / W ^ (m+1)%W/\W ^ (m+1)<=b/\2147483648*W ^ (m+1)<=b*2 ^ s:=by
 have hb:b < W ^ (m+2):=(xa8 x9 b _).1 (Nat.le_of_eq hl);have hb0:0 < b:=by
  rcases zcf b with h | h
  ·subst h;rw [xc8] at hl;simp at hl
  ·exact h
 have hb1:W ^ (m+1)<=b:=by
  have:=qs6 x9 hb0
  rwa [hl] at this
 have hp:0 < W ^ (m+1):=zdb (by decide);have ht:(dig W b).getD (m+1) 0=b / W ^ (m+1):=by
  rw [xc0 x9,zcc];refine zdc ?_
  rwa [zch] at hb
 rw [ht] at hs;have ht0:0 < b / W ^ (m+1):=Nat.div_pos hb1 hp;have ht1:b / W ^ (m+1) < 4294967296:=zdc (by rwa [zch] at hb);obtain ⟨h1,h2,h3⟩:=jt0 ht0 ht1 hs;have h2s:0 < 2 ^ s:=zdb (by omega);have h4:(b / W ^ (m+1)+1)*2 ^ s<=4294967296:=by
  have e:(4294967296:Nat)=2 ^ (32 - s)*2 ^ s:=by rw [<-zez,show 32 - s+s=32 by omega]
  rw [e] at h3 ⊢;exact zbt _ (Nat.lt_of_mul_lt_mul_right h3)
 have h5:=zdg b (W ^ (m+1));have h6:=zck b hp;have h7:b*2 ^ s < W ^ (m+2):=by
  have e:W ^ (m+2)=W ^ (m+1)*4294967296:=zch ..;rw [e];have h8:b < W ^ (m+1)*(b / W ^ (m+1)+1):=by rw [zcy,zee];omega
  have h9:b*2 ^ s < W ^ (m+1)*(b / W ^ (m+1)+1)*2 ^ s:=zem h8 h2s;rw [zdf] at h9;exact zca h9 (zdi _ h4)
 have h10:2147483648*W ^ (m+1)<=b*2 ^ s:=by
  have h11:b / W ^ (m+1)*2 ^ s*W ^ (m+1)<=b*2 ^ s:=by
   rw [Nat.mul_right_comm];exact zbt _ (Nat.div_mul_le_self _ _)
  exact zcj (zbt _ h2) h11
 refine ⟨h1,h7,?_,hb1,h10⟩;have h8:b*2 ^ s / W ^ (m+1) < W:=zdc (by rwa [zch] at h7);rw [zcc h8];exact (Nat.le_div_iff_mul_le hp).2 h10
theorem qb8 {A B k:Nat} (hB:0 < B):A%(W ^ (k+1)*B) / W ^ k < B*W:=by
 have hp:0 < W ^ k:=zdb (by decide);refine zdc ?_;have h:=zck A (Nat.mul_pos (zdb (n:=k+1) (show 0 < W by decide)) hB);have e:W ^ (k+1)*B=W ^ k*(B*W):=by rw [zch];ac_rfl
 rwa [e] at h ⊢
theorem qu1 {A B m k:Nat} (hB:B < W ^ (m+2)) (ht:2147483648<=B / W ^ (m+1)%W) (hB0:0 < B):Two m (dgs W (m+3) (A%(W ^ (k+1)*B) / W ^ k)) (dgs W (m+2) B):=by
 have h1:=qb8 (A:=A) (k:=k) hB0;have h2:A%(W ^ (k+1)*B) / W ^ k < W ^ (m+3):=by
  refine Nat.lt_trans h1 ?_;rw [zch];exact zem hB (by decide)
 refine ⟨xe9 _ _ _,xe9 _ _ _,yu0 (by decide) _ _,yu0 (by decide) _ _,?_,?_⟩
 ·rw [xs3 (by omega)];exact ht
 ·rw [xr6,xr6,zcc h2,zcc hB];exact h1
theorem qn1 {n R m k:Nat} (hk:k+(m+3)<=n):dgs W n R=dgs W k R++(dgs W (m+3) (R / W ^ k)++dgs W (n - k - (m+3)) (R / W ^ k / W ^ (m+3))):=by
 obtain ⟨d,rfl⟩: ∃d,n=k+(m+3+d):=⟨n - k - (m+3),by omega⟩
 rw [yq4,yq4,show k+(m+3+d) - k - (m+3)=d by omega]
theorem jm8 (A B k:Nat):A%(W ^ k*B)=A%(W ^ (k+1)*B)%W ^ k+W ^ k*(A%(W ^ (k+1)*B) / W ^ k%B):=by
 rw [<-Nat.mod_mul];have e:W ^ (k+1)*B=W ^ k*B*W:=by rw [zch];ac_rfl
 rw [e,Nat.mod_mul_right_mod]
theorem jn9 {A B n m k:Nat} (hk:k+(m+3)<=n) (hB:B < W ^ (m+2)) (hB0:0 < B):
  dgs W k (A%(W ^ (k+1)*B))++(dgs W (m+3) (val W (dgs W (m+3) (A%(W ^ (k+1)*B) / W ^ k))%val W (dgs W (m+2) B))++dgs W (n - k - (m+3)) (A%(W ^ (k+1)*B) / W ^ k / W ^ (m+3)))=dgs W n (A%(W ^ k*B)):=by
 have h1:=qb8 (A:=A) (k:=k) hB0;have h2:A%(W ^ (k+1)*B) / W ^ k < W ^ (m+3):=by
  refine Nat.lt_trans h1 ?_;rw [zch];exact zem hB (by decide)
 have hp:0 < W ^ k:=zdb (by decide);rw [xr6,xr6,zcc h2,zcc hB,qn1 (n:=n) (R:=A%(W ^ k*B)) hk];have h3:=jm8 A B k;have h4:A%(W ^ k*B) / W ^ k=A%(W ^ (k+1)*B) / W ^ k%B:=by
  rw [h3,zeh _ _ hp,zcz (zck _ hp),zcm]
 have h5:A%(W ^ k*B)%W ^ k=A%(W ^ (k+1)*B)%W ^ k:=by
  conv=>lhs;rw [h3]
  rw [zfu,Nat.mod_mod]
 have h6:A%(W ^ (k+1)*B) / W ^ k%B < W ^ (m+3):=zfy (Nat.mod_le _ _) h2;rw [h4,qv8 h5,zcz h6,zcz h2]
theorem jq0 {A B m k:Nat} (hB:B < W ^ (m+2)) (hB0:0 < B):
  A / (W ^ k*B)=val W (dgs W (m+3) (A%(W ^ (k+1)*B) / W ^ k)) / val W (dgs W (m+2) B)+W*(A / (W ^ (k+1)*B)):=by
 have h1:=qb8 (A:=A) (k:=k) hB0;have h2:A%(W ^ (k+1)*B) / W ^ k < W ^ (m+3):=by
  refine Nat.lt_trans h1 ?_;rw [zch];exact zem hB (by decide)
 have hp:0 < W ^ k:=zdb (by decide);rw [xr6,xr6,zcc h2,zcc hB];have h3:=zdg A (W ^ (k+1)*B)
 conv=>lhs;rw [<-h3]
 have e:W ^ (k+1)*B*(A / (W ^ (k+1)*B))=W ^ k*(B*(W*(A / (W ^ (k+1)*B)))):=by rw [zch];ac_rfl
 rw [e,<-zdk,Nat.mul_add_div hp,Nat.mul_add_div hB0,Nat.add_comm]
theorem q_in {A B m k n q:Nat} {qs:List Nat} (hB:B < W ^ (m+2)) (ht:2147483648<=B / W ^ (m+1)%W) (hB0:0 < B) (hk:k < n) (hl:qs.length=n) (hD:Dig W qs) (hv:val W (qs.drop (k+1))=A / (W ^ (k+1)*B))
  (hq:q=val W (dgs W (m+3) (A%(W ^ (k+1)*B) / W ^ k)) / val W (dgs W (m+2) B)):(qs.set k q).length=n/\Dig W (qs.set k q)/\val W ((qs.set k q).drop k)=A / (W ^ k*B):=by
 refine ⟨by simpa using hl,hD.set (hq▸(qu1 hB ht hB0).q_lt),?_⟩;rw [xm7 _ _ _ (by simpa using (by omega:k < qs.length)),xm8 (by omega),xe0,hv,hq];exact (jq0 hB hB0).symm
theorem jo7 {a b m s n:Nat} (hs:s<=31) (ha:a < W ^ n) (hn:m+2<=n) (hB:2147483648*W ^ (m+1)<=b*2 ^ s):a*2 ^ s < W ^ (n - (m+2)+1)*(b*2 ^ s):=by
 have h1:=pow2_le31 hs;have hp:0 < 2 ^ s:=zdb (by omega);have h2:a*2 ^ s < W ^ n*2 ^ s:=zem ha hp;have h3:W ^ n*2 ^ s<=W ^ n*2147483648:=zdi _ h1;have h4:W ^ n*2147483648=W ^ (n - (m+2)+1)*(2147483648*W ^ (m+1)):=by
  have:W ^ n=W ^ (n - (m+2)+1)*W ^ (m+1):=by rw [<-zez];congr 1;omega
  rw [this,zdf,zce (W ^ (m+1))]
 exact zca h2 (zcj h3 (h4▸zdi _ hB))
theorem ja4 (X s:Nat) (hs:s<=31):(X%W+X / W%W*2 ^ 32) / 2 ^ s%W=X / 2 ^ s%W:=by
 have e1:X%W+X / W%W*2 ^ 32=X%(W*W):=by
  rw [Nat.mod_mul,zce (X / W%W)]
 rw [e1];have h1:=zdg X (W*W);have hp:0 < 2 ^ s:=zdb (by omega);have e2:W*W*(X / (W*W))=2 ^ s*(W*(2 ^ (32 - s)*(X / (W*W)))):=by
  have:W=2 ^ s*2 ^ (32 - s):=by rw [<-zez,show s+(32 - s)=32 by omega]
  conv=>lhs;rw [zdf,this]
  conv=>rhs;rw [Nat.mul_left_comm W,<-zdf]
  rw [<-this]
 conv=>rhs;rw [<-h1,e2,Nat.mul_add_div hp,Nat.mul_add_mod]
theorem jt7 {r s i n m:Nat} {us:List Nat} (hs:s<=31) (hi:i < m) (hm:m < n) (hl:us.length=n) (hD:Dig W us) (hdr:us.drop i=(dgs W n (r*2 ^ s)).drop i) (ht:us.take i=dgs W i r):
  (us.set i ((us.getD i 0+us.getD (i+1) 0*2 ^ 32) / 2 ^ s%W)).length=n/\Dig W (us.set i ((us.getD i 0+us.getD (i+1) 0*2 ^ 32) / 2 ^ s%W))/\(us.set i ((us.getD i 0+us.getD (i+1) 0*2 ^ 32) / 2 ^ s%W)).drop (i+1)=(dgs W n (r*2 ^ s)).drop (i+1)/\
   (us.set i ((us.getD i 0+us.getD (i+1) 0*2 ^ 32) / 2 ^ s%W)).take (i+1)=dgs W (i+1) r:=by
 have hp:0 < 2 ^ s:=zdb (by omega);refine ⟨by simpa using hl,hD.set (zck _ (by decide)),by rw [xe0];exact xi5 hdr (by omega),?_⟩;rw [xj8 (by omega),ht,xk6]
 congr 2
 rw [xg5 hdr (zbs _),xg5 hdr (Nat.le_succ i),xs3 (by omega),xs3 (by omega),zch,<-zdk,ja4 _ _ hs,zdk,zce (W ^ i),<-zdk,Nat.mul_div_cancel _ hp]
end An
namespace An.S
open Go Go.Proofs An Tryz
instance fi213:FnI Tryz.prog 213:=⟨_,func213,by kernel_rfl,rfl⟩
instance fi377:FnI Tryz.prog 377:=⟨_,func377,by kernel_rfl,rfl⟩
instance fi378:FnI Tryz.prog 378:=⟨_,func378,by kernel_rfl,rfl⟩
instance fi379:FnI Tryz.prog 379:=⟨_,func379,by kernel_rfl,rfl⟩
instance fi380:FnI Tryz.prog 380:=⟨_,func380,by kernel_rfl,rfl⟩
theorem xs0 {a b:Nat}:cmpN a b < 0↔a < b:=by
 simp only [cmpN];constructor
 ·intro h;split at h
  ·assumption
  ·split at h <;> simp at h
 ·intro h;rw [if_pos h];decide
theorem trim1 {x:Nat} (hx:x < 4294967296):trimL [x]=dig 4294967296 x:=by
 rw [xd7 x9 (Dig.cons hx (Dig.nil _)),xj3,yg1];simp
theorem jq6 {b:Nat} (h:(dig 4294967296 b).length=1):(dig 4294967296 b).getD 0 0=b:=by
 rw [xc0 x9,zer,Nat.div_one];have:=(xa8 x9 b 1).1 (Nat.le_of_eq h);rw [Nat.pow_one] at this;exact zcc this
theorem z6 (a b:Nat) (hb:0 < b) (ha:(dig 4294967296 a).length<=100000) (hbl:(dig 4294967296 b).length<=100000):
  Ct Tryz.prog 336 [tN a,tN b] (tT [tN (a / b),tN (a%b)]):=by
 refine Ct.intro func336 rfl ntmps336 rfl ?_;intro w F;refine A11 ?_;refine Rt (x3 (yr1 _ _) fi213 rfl) qB ?_;refine A3 ?_;refine x6 rfl (fun h185=> ?_) (fun h185=> ?_)
 ·
  have hab:=xs0.1 h185;refine A3 ?_;refine RE (xb7 (fun _=>20) (zo5 _ (by omega)) fi376 rfl (krN (ρ:=fun _=>20)) (krC (ρ:=fun _=>20) (k:=2) xf7 (krN (ρ:=fun _=>20))) ⟨⟨rfl,xd1⟩,trivial⟩ rfl) qA trivial qA ?_;refine A1 ?_;refine RE (xv6 (fun _ h=>h) (xi4 rfl) rfl) qA qA trivial ?_;refine A4 ?_;exact E2 rfl rfl rfl (leNil (by rw [zcz hab,xc8])) (Le.of (by rw [zcc hab]))
 ·
  have hab:b<=a:=by
   have:=mt xs0.2 h185;omega
  have hlab:=xd0 x9 hab;have hlb:=zh8 x9 hb;refine A10 ?_;refine x6 rfl (fun h188=> ?_) (fun h188=> ?_)
  ·
   have hb0:=jq6 (b:=b) (by omega);have hbW:=(xc3 x9 b).getD (by decide) 0;refine A4 ?_;refine R2 (x4 sl233 (0) (by omega) (gN (by omega))) rfl rfl ?_;refine A1 ?_;refine Rt (x3 (zp3 _ _ (by omega) (by omega) (by omega)) fi377 rfl) qB ?_;refine A11 ?_;refine R1 (xk9 (n:=1) [a%(dig 4294967296 b).getD 0 0] zgz el284 zf284 rfl rfl rfl) rfl (Rt (x3 (xp0 _) fi335 rfl) qA ?_);refine A6 ?_;exact E2 rfl rfl rfl (Le.of (by rw [hb0])) (Le.of (by rw [hb0,trim1 (Nat.lt_trans (zck _ hb) (hb0▸hbW))]))
  ·
   obtain ⟨m,hm⟩: ∃m,(dig 4294967296 b).length=m+2:=⟨(dig 4294967296 b).length - 2,by omega⟩
   have ht:=(xc3 x9 b).getD (by decide) (m+1);refine A14 ?_;refine R2 (x4 sl233 (m+1) (by omega) (gN (by omega))) rfl rfl ?_;refine A1 ?_;refine Rt (x3 (xu9 _ (by omega)) fi378 rfl) qA ?_;refine A7 ?_;generalize hs:32 - Lib.bitLen ((dig 4294967296 b).getD (m+1) 0)=s;obtain ⟨hs31,hBW,hBt,hb1,hB2⟩:=norm hm hs;have hB0:0 < b*2 ^ s:=Nat.mul_pos hb (zdb (by decide));refine RE (xb7 (fun _=>46) (zn1 _ _ (by omega) (by omega)) fi379 rfl (krN (ρ:=fun _=>46)) (krC (ρ:=fun _=>46) (k:=12) xf7 (krN (ρ:=fun _=>46))) ⟨⟨rfl,xd1⟩,trivial⟩ rfl) qB trivial qA ?_;refine A1 ?_;refine R2 (yk4 sl233 (m+2) (by omega) (by omega) rfl) rfl rfl (RE (xv6 (xs:=(dgs 4294967296 (m+2) (b*2 ^ s))) (fun _ h=>h) (by rw [zi4,yz9 (by omega)]) (xe9 _ _ _)) qA qA trivial ?_);refine A6 ?_;refine RE (xb7 (fun _=>51) (zn1 _ _ (by omega) (by omega)) fi379 rfl (krN (ρ:=fun _=>51)) (krC (ρ:=fun _=>51) (k:=12) xf7 (krN (ρ:=fun _=>51))) ⟨⟨rfl,xd1⟩,trivial⟩ rfl) qB trivial qA ?_;refine A10 ?_;refine RE (xg0 (k:=57) (t:=tE (.int .u32 0)) (ts:=rW .u32 (List.replicate (((dig 4294967296 a).length - (dig 4294967296 b).length+1)) 0)) (((dig 4294967296 a).length - (dig 4294967296 b).length+1)) (((dig 4294967296 a).length - (dig 4294967296 b).length+1)) zgz el284 (fun _ _=>rfl) rfl (by omega) (by omega) (zbs _) (by omega) (by omega) (xp5 _)) qB trivial qA ?_;refine A13 ?_;have hA0:=jo7 (n:=(dig 4294967296 a).length) hs31 (xf6 x9 a) (by omega) hB2;rw [<-hm] at hA0;refine cL (fun (fm:(Nat)×(List Nat))=>(fun (k:Nat) (qs:List Nat)=>k<=((dig 4294967296 a).length - (dig 4294967296 b).length+1)/\qs.length=((dig 4294967296 a).length - (dig 4294967296 b).length+1)/\Dig 4294967296 qs/\val 4294967296 (qs.drop k)=(a*2 ^ s) / (4294967296 ^ k*(b*2 ^ s))) fm.1 fm.2) (wB fun (k:Nat) (qs:List Nat)=>uV (uO (uO (uV (uV (uV uN 8 (tI (dig 4294967296 b).length)) 9 (tI s)) 10 (tWs (dgs 4294967296 (m+2) (b*2 ^ s)))) 11 (.sl 51 1 0 ((dig 4294967296 a).length+1))) 12 (.sl 57 1 0 ((dig 4294967296 a).length - (dig 4294967296 b).length+1))) 13 (tI ((k:Int) - 1))) (wB fun (k:Nat) (qs:List Nat)=>uK (uK uN 51 284 1 false (rW .u32 (dgs 4294967296 ((dig 4294967296 a).length+1) ((a*2 ^ s)%(4294967296 ^ k*(b*2 ^ s)))))) 57 284 1 false (rW .u32 qs)) [51,57] (fun (fm:(Nat)×(List Nat))=>(fun (k:Nat) (qs:List Nat)=>k) fm.1 fm.2) ((((dig 4294967296 a).length - (dig 4294967296 b).length+1),List.replicate ((dig 4294967296 a).length - (dig 4294967296 b).length+1) 0)) (by dsimp only;exact ⟨zbs _,by simp,Dig.rep (by decide) _,by rw [zfc,xf1];exact (zcz hA0).symm⟩) (hh:=(SubK.cons rfl ((zaq rfl (ImpK.ofTs (by dsimp only;rw [zcc hA0]))) zax))) ?_;intro fm hI;obtain ⟨k,qs⟩:=fm;replace hI:k<=((dig 4294967296 a).length - (dig 4294967296 b).length+1)/\qs.length=((dig 4294967296 a).length - (dig 4294967296 b).length+1)/\Dig 4294967296 qs/\val 4294967296 (qs.drop k)=(a*2 ^ s) / (4294967296 ^ k*(b*2 ^ s)):=hI;show wc _ _ _ _ (uV (uO (uO (uV (uV (uV uN 8 (tI (dig 4294967296 b).length)) 9 (tI s)) 10 (tWs (dgs 4294967296 (m+2) (b*2 ^ s)))) 11 (.sl 51 1 0 ((dig 4294967296 a).length+1))) 12 (.sl 57 1 0 ((dig 4294967296 a).length - (dig 4294967296 b).length+1))) 13 (tI ((k:Int) - 1))) (uK (uK uN 51 284 1 false (rW .u32 (dgs 4294967296 ((dig 4294967296 a).length+1) ((a*2 ^ s)%(4294967296 ^ k*(b*2 ^ s)))))) 57 284 1 false (rW .u32 qs)) _;obtain ⟨hk,hl,hD,hv⟩:=hI;refine A7 ?_;refine x6 rfl (fun h197=> ?_) (fun h197=> ?_)
   ·
    obtain ⟨j,rfl⟩: ∃j,k=j+1:=⟨k - 1,by omega⟩
    refine yb2 (k:=51) rfl (congrArg (fun z=>HEnt.mk 284 1 false (rW .u32 z)) (qn1 (m:=m) (k:=j) (by omega))) ?_;refine A13 ?_;refine R3 (qr2 (off':=(dgs 4294967296 j ((a*2 ^ s)%(4294967296 ^ (j+1)*(b*2 ^ s)))).length) (len':=m+3) sl233 j (j+(m+3)) (by omega) (by omega) (by omega) (by omega) (by rw [xe9];omega) (by omega)) rfl rfl rfl ?_;refine A1 ?_;refine RE (xb7 (fun _=>51) (zz1 _ _ _ _ m (qu1 hBW hBt hB0) (by omega)) fi380 rfl (krC (ρ:=fun _=>51) (k:=9) xf7 (krN (ρ:=fun _=>51))) (krC (ρ:=fun _=>51) (k:=9) xf7 (krN (ρ:=fun _=>51))) ⟨⟨rfl,xd1⟩,trivial⟩ rfl) qB qA trivial (R2 (zag sl233 rfl) rfl rfl (RE (xb8 (j) ti284 (xj0 (by omega)) (by omega) (xh1 (m:=_) rfl)) qB qA trivial ?_));refine A8 ?_;obtain ⟨n1,n2,n3⟩:=q_in hBW hBt hB0 (by omega) hl hD hv rfl;exact kF ((j,qs.set j (val 4294967296 (dgs 4294967296 (m+3) (((a*2 ^ s)%(4294967296 ^ (j+1)*(b*2 ^ s))) / 4294967296 ^ j)) / val 4294967296 (dgs 4294967296 (m+2) (b*2 ^ s))))) ⟨(by dsimp only;exact ⟨by omega,n1,n2,n3⟩),(by dsimp only;omega)⟩ (hh:=(SubK.cons rfl ((zaq rfl (ImpK.ofTs (by dsimp only;exact congrArg (rW .u32) (jn9 (by omega) hBW hB0)))) zax)))
   ·
    have hk0:k=0:=by omega
    subst hk0;have hR:((a*2 ^ s)%(4294967296 ^ 0*(b*2 ^ s)))=a%b*2 ^ s:=by rw [zer,zff,Nat.mul_mod_mul_right]
    have hQ:val 4294967296 qs=a / b:=by
     rw [List.drop_zero,zer,zff,Nat.mul_div_mul_right _ _ (zdb (by decide))] at hv;exact hv
    refine A13 ?_;refine cL (fun (fm:(Nat)×(List Nat))=>(fun (i:Nat) (us:List Nat)=>i<=m+2/\us.length=(dig 4294967296 a).length+1/\Dig 4294967296 us/\us.drop i=(dgs 4294967296 ((dig 4294967296 a).length+1) (a%b*2 ^ s)).drop i/\us.take i=dgs 4294967296 i (a%b)) fm.1 fm.2) (wB fun (i:Nat) (us:List Nat)=>uV (uV (uO (uO (uV (uV uN 8 (tI (dig 4294967296 b).length)) 9 (tI s)) 11 (.sl 51 1 0 ((dig 4294967296 a).length+1))) 12 (.sl 57 1 0 ((dig 4294967296 a).length - (dig 4294967296 b).length+1))) 77 (tI (dig 4294967296 b).length)) 78 (tI i)) (wB fun (i:Nat) (us:List Nat)=>uK (uK uN 51 284 1 false (rW .u32 us)) 57 284 1 false (rW .u32 qs)) [51,57] (fun (fm:(Nat)×(List Nat))=>(fun (i:Nat) (us:List Nat)=>m+2 - i) fm.1 fm.2) ((0,dgs 4294967296 ((dig 4294967296 a).length+1) ((a*2 ^ s)%(4294967296 ^ 0*(b*2 ^ s))))) (by dsimp only;exact ⟨zbq _,xe9 _ _ _,yu0 (by decide) _ _,by rw [hR],rfl⟩) ?_;intro fm hJ;obtain ⟨i,us⟩:=fm;replace hJ:i<=m+2/\us.length=(dig 4294967296 a).length+1/\Dig 4294967296 us/\us.drop i=(dgs 4294967296 ((dig 4294967296 a).length+1) (a%b*2 ^ s)).drop i/\us.take i=dgs 4294967296 i (a%b):=hJ;show wc _ _ _ _ (uV (uV (uO (uO (uV (uV uN 8 (tI (dig 4294967296 b).length)) 9 (tI s)) 11 (.sl 51 1 0 ((dig 4294967296 a).length+1))) 12 (.sl 57 1 0 ((dig 4294967296 a).length - (dig 4294967296 b).length+1))) 77 (tI (dig 4294967296 b).length)) 78 (tI i)) (uK (uK uN 51 284 1 false (rW .u32 us)) 57 284 1 false (rW .u32 qs)) _;obtain ⟨hi,ul,uD,udr,ut⟩:=hJ;have hu0:=uD.getD (by decide) i;have hu1:=uD.getD (by decide) (i+1);refine A6 ?_;refine x6 rfl (fun h200=> ?_) (fun h200=> ?_)
    ·
     refine A16 ?_;refine R2 (zag sl233 rfl) rfl rfl (RE (xc1 (i+1) ti284 (xn7 (by omega)) (by omega)) qA qA trivial (R1 (x5 zhd (isS zhb) (by first | exact wu64 (by omega) (by omega) | exact mu64)) rfl (R2 (xi7 (by decide) (shl32 (by omega))) rfl rfl ?_)));refine A2 ?_;refine R2 (zag sl233 rfl) rfl rfl (RE (xc1 (i) ti284 (xn7 (by omega)) (by omega)) qA qA trivial (R1 (x5 zhd (isS zhb) (by first | exact wu64 (by omega) (by omega) | exact mu64)) rfl (R2 (xq6 (or32 (by omega) (by omega))) rfl rfl ?_)));refine A1 ?_;refine R2 (xh3 (by omega) (shrN (s:=s) rfl (by show s<=64;omega))) rfl rfl (R1 (x5 zhb (isS zhd) cut32) rfl (R2 (zag sl233 rfl) rfl rfl (RE (xb8 (i) ti284 (xj0 (by omega)) (by omega) (xh1 (m:=_) rfl)) qB qA trivial ?_)));refine A7 ?_;obtain ⟨n1,n2,n3,n4⟩:=jt7 (m:=m+2) hs31 (by omega) (by omega) ul uD udr ut;exact kF ((i+1,us.set i ((us.getD i 0+us.getD (i+1) 0*2 ^ 32) / 2 ^ s%4294967296))) ⟨(by dsimp only;exact ⟨by omega,n1,n2,n3,n4⟩),(by dsimp only;omega)⟩
    ·
     refine A7 ?_;refine RE (xi6 (fun _ h=>h) (xi4 hl) hl) qA qA trivial (Rt (x3 (xp0 _) fi335 rfl) qA ?_);refine A2 ?_;refine RE (Does.giveL (k:=51) (es:=1) (off:=0) (len:=m+2) (xs:=us.take (m+2)) (f:=fun n:Nat=>tE (.int .u32 n)) (ts:=rW .u32 us) (yk4 sl233 (m+2) (by omega) (by omega) rfl) (fun _ h=>h) zi4 (by rw [zde];omega)) qB qA trivial (Rt (x3 (xp0 _) fi335 rfl) qA ?_);refine A5 ?_;exact E2 rfl rfl rfl (Le.of (by rw [xd7 x9 hD,hQ])) (Le.of (by rw [show m+2=i by omega,ut,jj1 x9 (Nat.lt_trans (zck _ hb) (by rw [show i=(dig 4294967296 b).length by omega];exact xf6 x9 b))]))
end An.S
namespace An
open Go
theorem jz6 (a k s:Nat) (hs:s<=31):a*2 ^ s / W ^ (k+1)=a / W ^ k%W / 2 ^ (32 - s)+a / W ^ (k+1)*2 ^ s:=by
 have hp:0 < 2 ^ s:=zdb (by omega);have hq:0 < 2 ^ (32 - s):=zdb (by omega);have e1:W ^ (k+1)=W ^ k*2 ^ (32 - s)*2 ^ s:=by
  rw [zdf,<-zez,show 32 - s+s=32 by omega,zch]
 have e2:a / W ^ k=a / W ^ k%W+2 ^ (32 - s)*(a / W ^ (k+1)*2 ^ s):=by
  have h:=zdg (a / W ^ k) W;have e4:a / W ^ k / W=a / W ^ (k+1):=by rw [zdk,<-zch]
  rw [e4] at h;have e5:W=2 ^ (32 - s)*2 ^ s:=by rw [<-zez,show 32 - s+s=32 by omega]
  have e3:2 ^ (32 - s)*(a / W ^ (k+1)*2 ^ s)=W*(a / W ^ (k+1)):=by
   generalize a / W ^ (k+1)=z;rw [e5];ac_rfl
  rw [e3,Nat.add_comm];exact h.symm
 conv=>lhs;rw [e1,Nat.mul_div_mul_right _ _ hp,<-zdk,e2,zeh _ _ hq]
theorem jj5 {a k:Nat} (h:a < W ^ (k+3)):a / W ^ (k+1)=a / W ^ (k+1)%W+a / W ^ (k+2)%W*2 ^ 32:=by
 have h1:=zdg (a / W ^ (k+1)) W;have e:a / W ^ (k+1) / W=a / W ^ (k+2):=by rw [zdk,<-zch]
 rw [e] at h1;have h2:a / W ^ (k+2) < W:=zdc (by rwa [zch] at h);rw [zcc h2,zce (a / W ^ (k+2))];show _=_+W*_;omega
theorem qi0 {a n s:Nat} (hn:2<=n) (h:a*2 ^ s < W ^ n):a*2 ^ s / W ^ (n - 2) < 18446744073709551616:=by
 refine zdc ?_;have e:W ^ n=W ^ (n - 2)*18446744073709551616:=by
  rw [show (18446744073709551616:Nat)=W ^ 2 by decide,<-zez];congr 1;omega
 rwa [e] at h
theorem jg7 {B u v a b T br x y i d X Y br':Nat} (_hB:0 < B) (h:T+v*(b%B ^ i)+x*B ^ i=u*(a%B ^ i)+y*B ^ i+br*B ^ i) (hX:X=x+u*(a / B ^ i%B)) (hY:Y=y+v*(b / B ^ i%B)) (hd:d+Y%B+br=X%B+B*br'):
  T+B ^ i*d+v*(b%B ^ (i+1))+X / B*B ^ (i+1)=u*(a%B ^ (i+1))+Y / B*B ^ (i+1)+br'*B ^ (i+1):=by
 have h1:=zdg X B;have h2:=zdg Y B;rw [xg7,xg7,zch];generalize a / B ^ i%B=ai at*
 generalize b / B ^ i%B=bi at*
 generalize B ^ i=P at*
 generalize a%P=al at*
 generalize b%P=bl at*
 generalize X / B=xq at*
 generalize X%B=xr at*
 generalize Y / B=yq at*
 generalize Y%B=yr at*
 grind
theorem ze6 {B u a x i:Nat} (hB:0 < B) (hx:x=u*(a%B ^ i) / B ^ i):(x+u*(a / B ^ i%B)) / B=u*(a%B ^ (i+1)) / B ^ (i+1):=by
 have hp:0 < B ^ i:=zdb hB;rw [zch,<-zdk,<-zch,xg7,zcy,<-zdf,zce u (B ^ i),zdf,zeh _ _ hp,<-hx]
theorem qc1 {u a x i:Nat} (hu:u < 4294967296) (hx:x=u*(a%W ^ i) / W ^ i):x < 4294967296:=by
 have hp:0 < W ^ i:=zdb (by decide);rw [hx];refine zdc ?_;have h1:a%W ^ i < W ^ i:=zck _ hp;have h2:u*(a%W ^ i)<=4294967295*(a%W ^ i):=zbt _ (by omega);omega
theorem wd4 {u v a b n i x y br:Nat} {ws:List Nat} (hi:i < n) (hl:ws.length=n) (hD:Dig W ws) (hx:x=u*(a%W ^ i) / W ^ i) (hy:y=v*(b%W ^ i) / W ^ i)
  (h:val W (ws.take i)+v*(b%W ^ i)+x*W ^ i=u*(a%W ^ i)+y*W ^ i+br*W ^ i) {X Y d br':Nat} (hX:X=x+u*(a / W ^ i%W)) (hY:Y=y+v*(b / W ^ i%W)) (hd:d+Y%W+br=X%W+W*br') (hdW:d < W):
  (ws.set i d).length=n/\Dig W (ws.set i d)/\X / W=u*(a%W ^ (i+1)) / W ^ (i+1)/\Y / W=v*(b%W ^ (i+1)) / W ^ (i+1)/\
   val W ((ws.set i d).take (i+1))+v*(b%W ^ (i+1))+X / W*W ^ (i+1)=u*(a%W ^ (i+1))+Y / W*W ^ (i+1)+br'*W ^ (i+1):=by
 refine ⟨by simpa using hl,hD.set hdW,by rw [hX];exact ze6 (by decide) hx,by rw [hY];exact ze6 (by decide) hy,?_⟩;rw [xe7 (by omega)];exact jg7 (by decide) h hX hY hd
theorem ji7 {u v a b n x y br:Nat} {ws:List Nat} (hl:ws.length=n+1) (hD:Dig W ws) (ha:a < W ^ n) (hb:b < W ^ n) (hu:u < 4294967296) (hv:v < 4294967296) (hx:x=u*(a%W ^ (n+1)) / W ^ (n+1)) (hy:y=v*(b%W ^ (n+1)) / W ^ (n+1))
  (h:val W (ws.take (n+1))+v*(b%W ^ (n+1))+x*W ^ (n+1)=u*(a%W ^ (n+1))+y*W ^ (n+1)+br*W ^ (n+1)) (hle:v*b<=u*a):trimL ws=dig W (u*a - v*b):=by
 have hp:0 < W ^ n:=zdb (by decide);have e:W ^ (n+1)=W ^ n*4294967296:=zch ..;have l1: ∀c w:Nat,c < W ^ n->w < 4294967296->w*c < W ^ (n+1):=fun c w hc hw=>by
  rw [e,zce];have h1:c*w<=c*4294967296:=zdi _ (by omega);have h2:c*4294967296 < W ^ n*4294967296:=zem hc (by decide);omega
 have ha1:=l1 a u ha hu;have hb1:=l1 b v hb hv;have ha2:a < W ^ (n+1):=by rw [e];omega
 have hb2:b < W ^ (n+1):=by rw [e];omega
 rw [zcc ha2,zcc hb2,<-hl,zbx,hl] at h;rw [zcc ha2,zcz ha1] at hx;rw [zcc hb2,zcz hb1] at hy;subst hx;subst hy;have hz:=xp2 hD;rw [hl] at hz;rw [xd7 x9 hD]
 congr 1
 rcases zcf br with h0 | h0
 ·subst h0;show val W ws=_;omega
 ·have:W ^ (n+1)<=br*W ^ (n+1):=zfh _ h0;omega
end An
namespace An.S
open Go Go.Proofs An Tryz
instance ti37:TyI Tryz.prog 37 1 false:=⟨by kernel_rfl,by kernel_rfl⟩
instance fi395:FnI Tryz.prog 395:=⟨_,func395,by kernel_rfl,rfl⟩
instance fi402:FnI Tryz.prog 402:=⟨_,func402,by kernel_rfl,rfl⟩
instance fi403:FnI Tryz.prog 403:=⟨_,func403,by kernel_rfl,rfl⟩
theorem jq2 (xs:List Nat):
  CtG Tryz.prog 395 [] [.val (tL 1 false (fun n:Nat=>tE (.int .u32 n)) xs)] (.own (.fn 403 [.ptr 1 0])) [(1,⟨233,1,false,[.val (tL 1 false (fun n:Nat=>tE (.int .u32 n)) xs)]⟩)] [1]:=by
 refine CtG.intro [] func395 rfl ntmps395 rfl rfl trivial ?_;intro w F η;refine A8 ?_;refine R1 (xg8 (ps:=[.ptr 1 0]) rfl) rfl ?_;refine A4 ?_;exact xc5 LentC.mk' rfl rfl Imp.refl qA rfl ⟨⟨rfl,(SupX.lit rfl)⟩,trivial⟩ rfl
theorem js1 (xs:List Nat) (hx:xs.length<=1000000):
  ItC Tryz.prog 403 [(1,⟨233,1,false,[.val (tL 1 false (fun n:Nat=>tE (.int .u32 n)) xs)]⟩)] [.ptr 1 0] (xs.length) (fun k=>[tE (.int .u32 ((xs.getD (xs.length - 1 - k) 0:Nat):Int))]):=by
 refine ItC.intro (K:=99) [1] func403 rfl ntmps403 rfl rfl ⟨⟨rfl,(SupX.lit rfl)⟩,trivial⟩ rfl ?_;intro w F η l V J Jc hB;refine A9 ?_;refine cL (fun (k:Nat)=>k<=xs.length) (fun (k:Nat)=>uV (uO (uV uN 0 (tE (.func (.yield l) #[] #[]))) 1 (.ptr 1 0)) 3 (tI ((xs.length:Int) - 1 - k))) (fun (k:Nat)=>uK (uK uN 1 233 1 false [.val (tL 1 false (fun n:Nat=>tE (.int .u32 n)) xs)]) 99 (2*k) 1 false []) [1,99] (fun (k:Nat)=>xs.length - k) (0) (zbq _) ?_;intro k hI;refine A7 ?_;refine x6 rfl (fun h17=> ?_) (fun h17=> ?_)
 ·
  refine A5 ?_;refine ya4 ?_;refine xf4 xb9 qA trivial trivial rfl (xf4 (xc1 (0) ti233 rfl rfl) qA qA trivial rfl (xf4 xb9 qA trivial trivial rfl (xf4 (x4 sl233 (xs.length - 1 - k) (by omega) (gN (by omega))) qB trivial trivial rfl (xf4 (xm1 ti284) qA trivial trivial rfl ?_))));refine zs0 (ts:=[tE (.int .u32 ((xs.getD (xs.length - 1 - k) 0:Nat):Int))]) hB (yu3 rfl) rfl rfl qA rfl rfl (by omega) ⟨zao,trivial⟩ ?_ ?_
  ·
   refine xf4 xz2 qA trivial trivial rfl (xp1 ?_);refine A10 ?_;exact kF (k+1) ⟨(by omega),(by omega)⟩
  ·
   refine xf4 xz2 qA trivial trivial rfl (xp1 ?_);refine A7 ?_;exact E_it hB rfl trivial rfl (.inl rfl) rfl (.inr ⟨k,by omega,rfl⟩)
 ·
  refine A4 ?_;exact E_it hB rfl trivial rfl (.inr rfl) rfl (.inl (by omega))
theorem jg4 (xs:List Nat) (hx:xs.length<=2) (hD:Dig 4294967296 xs):
  Ct Tryz.prog 374 [tWs xs] (tE (.int .u64 ((val 4294967296 xs:Nat):Int))):=by
 refine Ct.intro func374 rfl ntmps374 rfl ?_;intro w F;refine A7 ?_;refine RE (x7 (k:=3) (n:=1) (agg:=false) zr123.1 zr123.2 rfl) trivial trivial qA ?_;refine A7 ?_;refine RE (xb7 (fun _=>6) (jq2 _) fi395 rfl (krN (ρ:=fun _=>6)) (krC (ρ:=fun _=>6) (k:=1) rfl (krN (ρ:=fun _=>6))) ⟨⟨rfl,(SupX.lit rfl)⟩,trivial⟩ rfl) qA trivial qA ?_;refine A3 ?_;refine qn6 (caps:=[.ptr 1 0]) (κ:=Empty) (zab 1 6) rfl (fun _ h=>h) trivial (js1 xs (by omega)) fi403 rfl qA rfl rfl (fun _ _=>rfl) (uO uN 3 (.ptr 3 0)) [3] [3] (zan rfl zay) (zak rfl zar) rfl (lkOk rfl) (fun (k:Nat) (_:Unit)=>True) (fun (k:Nat) (_:Unit)=>uK uN 3 123 1 false [.val (tE (.int .u64 ((val 4294967296 (xs.drop (xs.length - k)):Nat):Int)))]) (fun k x=>(zam rfl (supJL rfl) zaz)) (fun k x y hy=>by simp at hy;subst hy;rfl) (fun _ _=>False) (fun i=>i.elim) (fun _ _ h=>h.elim) (()) trivial ((zaq rfl (ImpK.one (Imp.int (by rw [Nat.sub_zero,List.drop_length];rfl)))) zax) ?_ ?_ ?_
 ·
  intro D lp o1 o2 O W lη lb V0 k x hk hI;have hv:=xp2 (hD.drop (xs.length - k));rw [List.length_drop,show xs.length - (xs.length - k)=k by omega] at hv;have hk1:4294967296 ^ k<=4294967296 ^ 1:=Nat.pow_le_pow_right (by decide) (by omega);rw [Nat.pow_one] at hk1;have hw:=hD.getD (by decide) (xs.length - 1 - k);have hst:=xm7 4294967296 xs (xs.length - 1 - k) (by omega);rw [show xs.length - 1 - k+1=xs.length - k by omega,zce] at hst;apply qb0
  ·
   refine A3 ?_;exact zf7 fun _ _ h=>h
  ·
   refine A3 ?_;refine R2 (xi7 (by decide) (shl32 (by omega))) rfl rfl ?_;refine A1 ?_;refine R1 (x5 zhd (isS zhb) (by first | exact wu64 (by omega) (by omega) | exact mu64)) rfl (R2 (xq6 (or32 (by omega) (by omega))) rfl rfl ?_);refine A3 ?_;exact xv7 (()) trivial ((zaq rfl (ImpK.one (Imp.int (by rw [show xs.length - (k+1)=xs.length - 1 - k by omega,hst])))) zax) (zam rfl (supJL rfl) zaz) (lkOk rfl)
 ·
  intro D hD x hI;refine A9 ?_;exact zv8 (Plain.loop Plain.mk' hD) rfl rfl (zba (by rw [Nat.sub_self];rfl))
 ·
  intro D hD e i;exact i.elim
theorem jw8 (x:Nat) (hx:x < 18446744073709551616):
  Ct Tryz.prog 375 [tE (.int .u64 (x:Int))] (tN x):=by
 refine Ct.intro func375 rfl ntmps375 rfl ?_;intro w F;refine A8 ?_;refine R1 (x5 zhb (isS zhd) cut32) rfl ?_;refine A1 ?_;refine R2 (xh3 (by decide) shr32) rfl rfl (R1 (x5 zhb (isS zhd) (wu32 (by omega) (by omega))) rfl (R2 (xk9 (n:=2) [x%4294967296,x / 4294967296] zgz el284 zf284 rfl rfl rfl) rfl rfl (Rt (x3 (xp0 _) fi335 rfl) qA ?_)));refine A4 ?_;exact E1 rfl rfl (Le.of (by rw [xd7 x9 (Dig.cons (zck _ (by decide)) (Dig.cons (by omega) (Dig.nil _))),xj3,xj3,yg1,Nat.mul_zero,zek,Nat.mod_add_div]))
theorem zh6 (xs:List Nat) (j:Int) (i:Nat) (hj:j=(i:Int)) (hxi:xs.getD i 0 < 4294967296):
  CtG Tryz.prog 402 [(3,⟨233,1,false,[.val (tWs xs)]⟩)] [.val (tI j),.own (.ptr 3 0)] (.val (tE (.int .u64 ((xs.getD i 0:Nat):Int)))) [(3,⟨233,1,false,[.val (tWs xs)]⟩)] []:=by
 refine CtG.intro [3] func402 rfl ntmps402 rfl rfl ⟨⟨rfl,(SupX.lit rfl)⟩,trivial⟩ ?_;intro w F η;subst hj;refine A14 ?_;refine x6 rfl (fun h66=> ?_) (fun h66=> ?_)
 ·
  refine A7 ?_;exact xc5 LentC.mk' rfl rfl (Imp.int (by rw [zbh,zct (by omega)];rfl)) qA rfl ⟨⟨rfl,(SupX.lit rfl)⟩,trivial⟩ rfl
 ·
  refine A6 ?_;refine R2 (x4 sl233 (i) (by omega) (gN (by omega))) rfl rfl ?_;refine A1 ?_;refine R1 (x5 zhd (isS zhb) (by first | exact wu64 (by omega) (by omega) | exact mu64)) rfl ?_;refine A4 ?_;exact xc5 LentC.mk' rfl rfl Imp.refl qA rfl ⟨⟨rfl,(SupX.lit rfl)⟩,trivial⟩ rfl
theorem ja1 (a n s k:Nat) (hn:n=k+3) (hs:s<=31) (h:a*2 ^ s < 4294967296 ^ n) (hk:k<=1000000):
  Ct Tryz.prog 394 [tN a,tI n,tI s] (tE (.int .u64 ((a*2 ^ s / 4294967296 ^ (k+1):Nat):Int))):=by
 subst hn;have ha:a < 4294967296 ^ (k+3):=zfy (zgd a (zdb (by decide))) h;have w1:=xc0 x9 a (k+2);have w2:=xc0 x9 a (k+1);have w3:=xc0 x9 a k;have l1:=(xc3 x9 a).getD (by decide) (k+2);have l2:=(xc3 x9 a).getD (by decide) (k+1);have l3:=(xc3 x9 a).getD (by decide) k;have htop:=jj5 ha;have heq:a*2 ^ s / 4294967296 ^ (k+1)=a / 4294967296 ^ k%4294967296 / 2 ^ (32 - s)+a / 4294967296 ^ (k+1)*2 ^ s:=jz6 a k s hs;have hlt:a*2 ^ s / 4294967296 ^ (k+1) < 18446744073709551616:=qi0 (n:=k+3) (by omega) h;have hm:((dig 4294967296 a).getD (k+1) 0)+((dig 4294967296 a).getD (k+2) 0)*2 ^ 32=a / 4294967296 ^ (k+1):=by rw [w1,w2];exact htop.symm
 rw [<-w3] at heq;rw [<-hm] at heq;have hlow:((dig 4294967296 a).getD (k) 0) / 2 ^ (32 - s) < 2 ^ s:=zdc (by rw [<-zez,show 32 - s+s=32 by omega];exact l3);have hp0:=zbq (((dig 4294967296 a).getD (k) 0) / 2 ^ (32 - s));refine Ct.intro func394 rfl ntmps394 rfl ?_;intro w F;refine A8 ?_;refine R1 (xg8 (ps:=[.ptr 3 0]) rfl) rfl ?_;refine A8 ?_;refine RE (xi9 (ps:=[.val (tI _)]) (caps:=[.ptr 3 0]) (fun _=>3) (zh6 _ _ (k+2) (by omega) (by omega)) fi402 rfl (krC (ρ:=fun _=>3) (k:=3) rfl (krN (ρ:=fun _=>3))) (krC (ρ:=fun _=>3) (k:=3) rfl (krN (ρ:=fun _=>3))) ⟨⟨rfl,(SupX.lit rfl)⟩,trivial⟩ rfl) qB qA trivial (R2 (xi7 (by decide) (shl32 (by omega))) rfl rfl ?_);refine A3 ?_;refine RE (xi9 (ps:=[.val (tI _)]) (caps:=[.ptr 3 0]) (fun _=>3) (zh6 _ _ (k+1) (by omega) (by omega)) fi402 rfl (krC (ρ:=fun _=>3) (k:=3) rfl (krN (ρ:=fun _=>3))) (krC (ρ:=fun _=>3) (k:=3) rfl (krN (ρ:=fun _=>3))) ⟨⟨rfl,(SupX.lit rfl)⟩,trivial⟩ rfl) qB qA trivial (R2 (xq6 (or32 (by omega) (by omega))) rfl rfl ?_);refine A1 ?_;refine R2 (xi7 (by omega) (shlN64 (s:=s) rfl (by omega) (by omega))) rfl rfl ?_;refine A3 ?_;refine RE (xi9 (ps:=[.val (tI _)]) (caps:=[.ptr 3 0]) (fun _=>3) (zh6 _ _ (k) (by omega) (by omega)) fi402 rfl (krC (ρ:=fun _=>3) (k:=3) rfl (krN (ρ:=fun _=>3))) (krC (ρ:=fun _=>3) (k:=3) rfl (krN (ρ:=fun _=>3))) ⟨⟨rfl,(SupX.lit rfl)⟩,trivial⟩ rfl) qB qA trivial ?_;refine A1 ?_;refine R2 (xd6 (r:=((32 - s:Nat):Int)) (by rw [wr64 (by omega) (by omega)];omega)) rfl rfl (R2 (xh3 (by omega) (shrN (s:=32 - s) rfl (by show 32 - s<=64;omega))) rfl rfl (R2 (xq6 (qg2 _ _ s rfl rfl hlow (wu64 (by omega) (by omega)) (by show _ < 18446744073709551616;omega))) rfl rfl ?_));refine A4 ?_;exact E1 rfl rfl (zba (congrArg _ heq.symm))
theorem xq9 (u a v b:Nat) (hu:u < 4294967296) (hvv:v < 4294967296) (hle:v*b<=u*a) (ha:(dig 4294967296 a).length<=100000) (hb:(dig 4294967296 b).length<=100000):
  Ct Tryz.prog 373 [tE (.int .u64 (u:Int)),tN a,tE (.int .u64 (v:Int)),tN b] (tN (u*a - v*b)):=by
 refine Ct.intro func373 rfl ntmps373 rfl ?_;intro w F;refine A11 ?_;refine R2 yo8 rfl rfl ?_;refine A1 ?_;refine RE (xg0 (k:=20) (t:=tE (.int .u32 0)) (ts:=rW .u32 (List.replicate ((max (dig 4294967296 a).length (dig 4294967296 b).length+1)) 0)) ((max (dig 4294967296 a).length (dig 4294967296 b).length+1)) ((max (dig 4294967296 a).length (dig 4294967296 b).length+1)) zgz el284 (fun _ _=>rfl) rfl (by omega) (by omega) (zbs _) (by omega) (by omega) (xp5 _)) qB trivial qA ?_;refine A18 ?_;refine A1 ?_;refine cL (fun (fm:(Nat)×(List Nat)×(Nat)×(Nat)×(Nat))=>(fun (i:Nat) (ws:List Nat) (x:Nat) (y:Nat) (br:Nat)=>i<=(max (dig 4294967296 a).length (dig 4294967296 b).length+1)/\ws.length=(max (dig 4294967296 a).length (dig 4294967296 b).length+1)/\Dig 4294967296 ws/\x=u*(a%4294967296 ^ i) / 4294967296 ^ i/\y=v*(b%4294967296 ^ i) / 4294967296 ^ i/\br<=1/\val 4294967296 (ws.take i)+v*(b%4294967296 ^ i)+x*4294967296 ^ i=u*(a%4294967296 ^ i)+y*4294967296 ^ i+br*4294967296 ^ i) fm.1 fm.2.1 fm.2.2.1 fm.2.2.2.1 fm.2.2.2.2) (wE fun (i:Nat) (ws:List Nat) (x:Nat) (y:Nat) (br:Nat)=>uV (uV (uV (uV (uV (uO (uV (uV (uV (uV uN 0 (tE (.int .u64 ((u:Nat):Int)))) 1 (tN a)) 2 (tE (.int .u64 ((v:Nat):Int)))) 3 (tN b)) 9 (.sl 20 1 0 (max (dig 4294967296 a).length (dig 4294967296 b).length+1))) 12 (tE (.int .u32 (br:Int)))) 22 (tI (max (dig 4294967296 a).length (dig 4294967296 b).length+1))) 23 (tI i)) 10 (tE (.int .u64 ((x:Nat):Int)))) 11 (tE (.int .u64 ((y:Nat):Int)))) (wE fun (i:Nat) (ws:List Nat) (x:Nat) (y:Nat) (br:Nat)=>uK uN 20 284 1 false (rW .u32 ws)) [20] (fun (fm:(Nat)×(List Nat)×(Nat)×(Nat)×(Nat))=>(fun (i:Nat) (ws:List Nat) (x:Nat) (y:Nat) (br:Nat)=>(max (dig 4294967296 a).length (dig 4294967296 b).length+1) - i) fm.1 fm.2.1 fm.2.2.1 fm.2.2.2.1 fm.2.2.2.2) ((0,List.replicate (max (dig 4294967296 a).length (dig 4294967296 b).length+1) 0,0,0,0)) (by dsimp only;exact ⟨zbq _,by simp,Dig.rep (by decide) _,by simp [Nat.mod_one],by simp [Nat.mod_one],by omega,by simp [Nat.mod_one,val]⟩) ?_;intro fm hI;obtain ⟨i,ws,x,y,br⟩:=fm;replace hI:i<=(max (dig 4294967296 a).length (dig 4294967296 b).length+1)/\ws.length=(max (dig 4294967296 a).length (dig 4294967296 b).length+1)/\Dig 4294967296 ws/\x=u*(a%4294967296 ^ i) / 4294967296 ^ i/\y=v*(b%4294967296 ^ i) / 4294967296 ^ i/\br<=1/\val 4294967296 (ws.take i)+v*(b%4294967296 ^ i)+x*4294967296 ^ i=u*(a%4294967296 ^ i)+y*4294967296 ^ i+br*4294967296 ^ i:=hI;show wc _ _ _ _ (uV (uV (uV (uV (uV (uO (uV (uV (uV (uV uN 0 (tE (.int .u64 ((u:Nat):Int)))) 1 (tN a)) 2 (tE (.int .u64 ((v:Nat):Int)))) 3 (tN b)) 9 (.sl 20 1 0 (max (dig 4294967296 a).length (dig 4294967296 b).length+1))) 12 (tE (.int .u32 (br:Int)))) 22 (tI (max (dig 4294967296 a).length (dig 4294967296 b).length+1))) 23 (tI i)) 10 (tE (.int .u64 ((x:Nat):Int)))) 11 (tE (.int .u64 ((y:Nat):Int)))) (uK uN 20 284 1 false (rW .u32 ws)) _;obtain ⟨hi,hl,hD,hx,hy,hbr,hv⟩:=hI;refine A6 ?_;refine x6 rfl (fun h78=> ?_) (fun h78=> ?_)
 ·
  have xW:x < 4294967296:=qc1 hu hx;have yW:y < 4294967296:=qc1 hvv hy;refine A10 ?_;refine xf0 (fun (X:Nat)=>X=x+u*(a / 4294967296 ^ i%4294967296)/\X < 18446744073709551616) (fun (X:Nat)=>uV (uV (uV (uV (uV (uV (uO (uV (uV (uV (uV uN 0 (tE (.int .u64 ((u:Nat):Int)))) 1 (tN a)) 2 (tE (.int .u64 ((v:Nat):Int)))) 3 (tN b)) 9 (.sl 20 1 0 (max (dig 4294967296 a).length (dig 4294967296 b).length+1))) 12 (tE (.int .u32 (br:Int)))) 22 (tI (max (dig 4294967296 a).length (dig 4294967296 b).length+1))) 23 (tI i)) 10 (tE (.int .u64 ((X:Nat):Int)))) 11 (tE (.int .u64 ((y:Nat):Int)))) 13 (tI i)) (fun (X:Nat)=>uK uN 20 284 1 false (rW .u32 ws)) (nm [20]) ?_ ?_
  ·
   refine A8 ?_;refine x6 rfl (fun h79=> ?_) (fun h79=> ?_)
   ·
    have ai:=xc0 x9 a i;have ai1:=(xc3 x9 a).getD (by decide) i;have ua:=xq0 hu ai1;refine A5 ?_;refine R2 (x4 sl233 (i) (by omega) (gN (by omega))) rfl rfl ?_;refine A1 ?_;refine R1 (x5 zhd (isS zhb) (by first | exact wu64 (by omega) (by omega) | exact mu64)) rfl (R2 (xi2 (wmul64 (by omega))) rfl rfl (R2 (xd8 (wadd64 (by omega))) rfl rfl ?_));refine A2 ?_;exact kF ((x+u*(dig 4294967296 a).getD i 0)) ⟨by rw [ai],by omega⟩
   ·
    refine A1 ?_;exact kF (x) ⟨by rw [xm2 x9 (by omega),Nat.mul_zero,zek],by omega⟩
  ·
   intro X hX;refine xf0 (fun (Y:Nat)=>Y=y+v*(b / 4294967296 ^ i%4294967296)/\Y < 18446744073709551616) (fun (Y:Nat)=>uV (uV (uV (uV (uV (uV (uO (uV (uV (uV (uV uN 0 (tE (.int .u64 ((u:Nat):Int)))) 1 (tN a)) 2 (tE (.int .u64 ((v:Nat):Int)))) 3 (tN b)) 9 (.sl 20 1 0 (max (dig 4294967296 a).length (dig 4294967296 b).length+1))) 12 (tE (.int .u32 (br:Int)))) 22 (tI (max (dig 4294967296 a).length (dig 4294967296 b).length+1))) 23 (tI i)) 10 (tE (.int .u64 ((X:Nat):Int)))) 11 (tE (.int .u64 ((Y:Nat):Int)))) 13 (tI i)) (fun (Y:Nat)=>uK uN 20 284 1 false (rW .u32 ws)) (nm [20]) ?_ ?_
   ·
    refine A8 ?_;refine x6 rfl (fun h82=> ?_) (fun h82=> ?_)
    ·
     have bi:=xc0 x9 b i;have bi1:=(xc3 x9 b).getD (by decide) i;have vb:=xq0 hvv bi1;refine A5 ?_;refine R2 (x4 sl233 (i) (by omega) (gN (by omega))) rfl rfl ?_;refine A1 ?_;refine R1 (x5 zhd (isS zhb) (by first | exact wu64 (by omega) (by omega) | exact mu64)) rfl (R2 (xi2 (wmul64 (by omega))) rfl rfl (R2 (xd8 (wadd64 (by omega))) rfl rfl ?_));refine A2 ?_;exact kF ((y+v*(dig 4294967296 b).getD i 0)) ⟨by rw [bi],by omega⟩
    ·
     refine A1 ?_;exact kF (y) ⟨by rw [xm2 x9 (by omega),Nat.mul_zero,zek],by omega⟩
   ·
    intro Y hY;refine A5 ?_;refine R1 (x5 zhb (isS zhd) cut32) rfl ?_;refine A1 ?_;refine R1 (x5 zhb (isS zhd) cut32) rfl ?_;refine A1 ?_;refine Rt (x3 (zg8 _ _ _ (zck _ (by decide)) (zck _ (by decide)) (by omega)) fi382 rfl) qC ?_;refine A3 ?_;refine R2 (zag sl233 rfl) rfl rfl (RE (xb8 (i) ti284 (xj0 (by omega)) (by omega) (xh1 (m:=_) rfl)) qB qA trivial ?_);refine A6 ?_;refine R2 (xh3 (by decide) shr32) rfl rfl ?_;refine A5 ?_;refine R2 (xh3 (by decide) shr32) rfl rfl ?_;refine A8 ?_;obtain ⟨n1,n2,n3,n4,n5⟩:=wd4 (X:=X) (Y:=Y) (br':=subB (X%4294967296) (Y%4294967296) br) (by omega) hl hD hx hy hv hX.1 hY.1 (qc8 (zck _ (by decide)) (zck _ (by decide)) hbr) (zg9 _ _ _);have n6:=qk8 (X%4294967296) (Y%4294967296) br;exact kF ((i+1,ws.set i (subD (X%4294967296) (Y%4294967296) br),X / 4294967296,Y / 4294967296,subB (X%4294967296) (Y%4294967296) br)) ⟨(by dsimp only;exact ⟨by omega,n1,n2,n3,n4,n6,n5⟩),(by dsimp only;omega)⟩
 ·
  refine A7 ?_;refine RE (xi6 (fun _ h=>h) (xi4 hl) hl) qA qA trivial (Rt (x3 (xp0 _) fi335 rfl) qA ?_);refine A4 ?_;have him:i=(max (dig 4294967296 a).length (dig 4294967296 b).length+1):=by omega
  subst him;have hfin:=ji7 hl hD ((xa8 x9 a _).1 (Nat.le_max_left _ _)) ((xa8 x9 b _).1 (Nat.le_max_right _ _)) hu hvv hx hy hv hle;exact E1 rfl rfl (Le.of (congrArg tWs hfin))
end An.S
