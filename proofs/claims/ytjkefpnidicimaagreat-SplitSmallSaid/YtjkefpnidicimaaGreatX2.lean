/- Part 2 of a proof: LibS, LibT, LibU, LibV, Num, Num2, Num3, Pack, Borrow, Cmp, Row, Arith, LibW, LibX, LibAu, W1, W2, W3, Mul, Shift, W4, Knuth, Dstep, W5, Div, W6, Diff, W7, Lehmer, W8, Wh, Wh2. -/
import Derived.Test.YtjkefpnidicimaaGreatProg
import Derived.Lib.BitFns
import Derived.Test.YtjkefpnidicimaaGreatX1
set_option maxHeartbeats 4000000
set_option maxRecDepth 100000
namespace An
open Go
def codeOf:Exit->Code
 | .exit id=> .exit id
 | _=> .ret
def SS (c:Base) (D lp:Nat) (obj:Obj) (O V:Dom) (G0:Slots) (h:Keys) (l:List Nat) (a:Act) (W:World):Prop:=
 ∃η,St' (c.lpb D lp obj O) G0 h (nm l) a W η/\(∀b,Own h η b->V b)/\(∀b,η.vo b->V b)/\(∀b,V b->b < W.heap.size)/\(∀x∈(c.lpb D lp obj O).pn,V x.1)/\(∀b,O b->c.w0.heap.size<=b∨c.lb b)
theorem SS.on {c:Base} {D lp:Nat} {obj:Obj} {O O' V:Dom} {G0:Slots} {h:Keys} {l:List Nat} {a:Act} {W W':World} (s:SS c D lp obj O V G0 h l a W) (st:Stp O W W') (hO: ∀b,O' b->b < W'.heap.size/\(O b∨W.heap.size<=b)):SS c D lp obj O' V G0 h l a W':=by
 obtain ⟨η,s,h1,h2,h3,h4,h5⟩:=s;refine ⟨η,s.fedOn st h5 hO,h1,h2,fun b hb=>zby (h3 b hb) st.size,h4,fun b hb=> ?_⟩;rcases (hO b hb).2 with h6 | h6
 ·exact h5 b h6
 ·exact .inl (zce s.fr.size h6)
def PostRnd {ι κ:Type} (cB:Base) (I:Nat->ι->Prop) (H:Nat->ι->Keys) (Ix:Exit->κ->Prop) (Hx:κ->Keys) (l:List Nat) (k:Nat):Exit->Act->World->Prop
 | .normal,a,w=> ∃i,I (k+1) i/\St cB (fun _=>none) (H (k+1) i) (nm l) a w
 | e,a,w=> ∃i,Ix e i/\St cB (fun _=>none) (Hx i) (nm l) a w
def JC {ι κ:Type} (c:Base) (D lp:Nat) (rec_:LoopState->Option Code->Loop) (G0:Slots) (l:List Nat) (a:Act) (I:Nat->ι->Prop) (H:Nat->ι->Keys) (Ix:Exit->κ->Prop) (Hx:κ->Keys) (n:Nat) (O V:Dom) (W:World):Prop:=
 (∃k i,n=2*k/\I k i/\SS c D lp (.loop (rec_ .ready none)) O V G0 (H k i) l a W)∨(∃k e i,n=2*k+3/\Ix e i/\SS c D lp (.loop (rec_ .done (some (codeOf e)))) O V G0 (Hx i) l a W)
section
variable {P:Program} {c:Base} {g:Slots} {h:Keys} {al:Names} {Q:Exit->Act->World->Prop}
theorem yu4 {ι κ:Type} {I:Nat->ι->Prop} {H:Nat->ι->Keys} {Ix:Exit->κ->Prop} {Hx:κ->Keys} {l:List Nat} {k:Nat} (i:ι) (hi:I (k+1) i) (hh:SubK (H (k+1) i) h) (sh:SupH (H (k+1) i) (nm l)) (hlk:LkOk c (nm l)):wk c .normal (PostRnd c I H Ix Hx l k) g h al:=
 fun _ _ hs=>⟨i,hi,hs.weaken zay hh zar sh hlk⟩
theorem qv2 {ι κ:Type} {I:Nat->ι->Prop} {H:Nat->ι->Keys} {Ix:Exit->κ->Prop} {Hx:κ->Keys} {l:List Nat} {k:Nat} {e:Exit} (i:κ) (he:e= .ret∨ ∃id,e= .exit id) (hi:Ix e i) (hh:SubK (Hx i) h) (sh:SupH (Hx i) (nm l)) (hlk:LkOk c (nm l)):wk c e (PostRnd c I H Ix Hx l k) g h al:=
 fun a w hs=>by
  have:=hs.weaken zay hh zar sh hlk;rcases he with rfl | ⟨id,rfl⟩ <;> exact ⟨i,hi,this⟩
theorem q8 {x:Operand} {ps:List Nat} {assign body:Code} {f:FuncId} {Hl:List (Nat×HEnt)} {caps:List VP} {N:Nat} {ys:Nat->List Ty} (ρ:Nat->Nat)
    (hro:c.ro=none) (hvi: ∀b,¬c.vi b) (hdf:dfB c.df c.pn) (hit:ItC P f Hl caps N ys) (hf:FnI P f)
    (hx:look g x=some (.own (.fn f (VP.rens ρ caps)))) (hHl:Kr h (Hl.map fun y=>(ρ y.1,y.2.ren ρ))) (hρ:injN ρ (Hl.map (·.1))=true)
    (hps:(ps.all fun p=>Nat.blt p c.N)=true) (hys: ∀k,k < N->(ys k).length=ps.length)
    (G0:Slots) (l nG:List Nat) (hG:Sub G0 g) (hGn:SupG G0 (nm nG)) (hnG:subN (nG++c.ln) l=true) (hlk:LkOk c (nm l))
    {ι:Type} (I:Nat->ι->Prop) (H:Nat->ι->Keys) (hH: ∀k i,SupH (H k i) (nm l)) (hdis: ∀k i,∀y∈Hl,H k i (ρ y.1)=none)
    {κ:Type} (Ix:Exit->κ->Prop) (Hx:κ->Keys) (hIx: ∀e i,Ix e i->e= .ret∨ ∃id,e= .exit id)
    (i0:ι) (h0:I 0 i0) (hK0:SubK (H 0 i0) h)
    (round: ∀(D lp:Nat) (o1 o2:Obj) (O:Dom) (W:World) (lη:Env) (lb V0:Dom) (k:Nat) (i:ι),k < N->I k i->c.w0.heap.size<=W.heap.size->
      ∃g1 h1 al1,wc P (c.rnd D lp o1 O W (nG++c.ln) lη lb V0) assign (Exit.then (fun a w=>St (c.rnd D lp o1 O W (nG++c.ln) lη lb V0) g1 h1 al1 a w) (fun _ _ _=>False)) (setP G0 ps (ys k)) (H k i) (nm l)/\
        wc P (c.rnd D lp o2 O W (nG++c.ln) lη lb V0) body (PostRnd (c.rnd D lp o2 O W (nG++c.ln) lη lb V0) I H Ix Hx l k) g1 h1 al1)
    (done: ∀D,D∉c.df-> ∀i,I N i->wk (c.lp D) .normal Q G0 (H N i) (nm l))
    (stop: ∀D,D∉c.df-> ∀e i,Ix e i->wk (c.lp D) e Q G0 (Hx i) (nm l)):
    wc P c (.rangeFunc x ps.toArray assign body) Q g h al:=by
  intro a w ⟨η,s⟩;rw [hro];refine wpIn_rangeFunc fun fn _=> ?_;obtain ⟨rec_,hrec⟩: ∃rec_:LoopState->Option Code->Loop,rec_=fun st pe=>{state:=st,pending:=pe,fn,tmps:=a.tmps,params:=ps.toArray,assign,body,defers:=w.heap.size}:=⟨_,rfl⟩
  obtain ⟨D,hD⟩: ∃D,D=w.heap.size:=⟨_,rfl⟩
  obtain ⟨lp,hlp⟩: ∃lp,lp=w.heap.size+1:=⟨_,rfl⟩
  obtain ⟨W1,hW1⟩: ∃W1,W1=(w.alloc (.deferred (some []))).alloc (.loop (rec_ .ready none)):=⟨_,rfl⟩
  have hext:Ext w W1:=by
    rw [hW1];exact (Ext.push w _).trans (Ext.push _ _)
  have hsz1:W1.heap.size=w.heap.size+2:=by rw [hW1,World.size_alloc,World.size_alloc]
  have hL1:W1.heap[lp]? =some (.loop (rec_ .ready none)):=by
    rw [hW1,hlp];have:=World.alloc_heap_new (w.alloc (.deferred (some []))) (.loop (rec_ .ready none));rwa [World.size_alloc] at this
  have hK1:W1.heap[D]? =some (.deferred (some [])):=by
    rw [hW1,hD];show ((w.heap.push _).push _)[w.heap.size]? =_;rw [zgc,if_neg (by simp)];simp
  have hHl':=Kr.get hHl;have hH': ∀y∈Hl,h (ρ y.1)=some (y.2.ren ρ):=fun y hy=>hHl' (ρ y.1,y.2.ren ρ) (zcr (f:=fun y:Nat×HEnt=>(ρ y.1,y.2.ren ρ)) hy);have hDdf:D∉c.df:=fun hm=>by
    have key: ∀l:List Nat,dfB l c.pn->D∈l->(D,Obj.deferred (some []))∈c.pn:=by
      intro l
      induction l with
      | nil=>intro _ h;cases h
      | cons E r ih => intro hd hm; rcases zbt.1 hm with rfl | hm
                       · exact hd.1
                       · exact ih hd.2.2 hm
    have:=xb0 (s.pin _ (key _ hdf hm)).1;simp only at this;omega
  have hpnlt: ∀y∈c.pn,y.1 < w.heap.size:=fun y hy=>xb0 (s.pin y hy).1;have hneq: ∀(o:Obj) (y:Nat×Obj),y∈(D,Obj.deferred (some []))::c.pn->y.1≠lp:=fun _ y hy=>by
    rcases zbt.1 hy with rfl | hy
    · simp only;omega
    · have:=hpnlt y hy;omega
  obtain ⟨hxs,_⟩:=xa7 s hx;obtain ⟨vs,hv,hcaps⟩:=hxs;have hv:a.eval x= .func (.func f) #[] vs.toArray:=hv;obtain ⟨fnf,hf1,hf2,hf3⟩:=hf;obtain ⟨O0,hO0⟩: ∃O0:Dom,O0=OwnK (η.pre ρ) Hl:=⟨_,rfl⟩
  have hO0own: ∀b,O0 b->Own h η b:=fun b hb=>by
    rw [hO0] at hb;obtain ⟨y,hy,hc,rfl⟩:=hb;exact ⟨ρ y.1,_,hH' y hy,hc,rfl⟩
  have hownsub: ∀b,Own (H 0 i0) η b->Own h η b:=by
    rintro b ⟨k,y,hk,hc,rfl⟩;obtain ⟨z,hz,_⟩:=hK0 k y hk;exact ⟨k,z,hz,hc,rfl⟩
  have hsep: ∀b,Own (H 0 i0) η b-> ¬O0 b:=by
    rintro b ⟨k,y,hk,hc,rfl⟩ hb;rw [hO0] at hb;obtain ⟨z,hz,hcz,e⟩:=hb;obtain ⟨y',hy',_⟩:=hK0 k y hk;exact s.inj k (ρ z.1) y' _ hy' (hH' z hz) (fun e'=>by rw [e',hdis 0 i0 z hz] at hk;cases hk) hc hcz e
  have s1:=s.ext hext;have hlt1: ∀b,Own h η b->b < w.heap.size:=fun b hb=>s.olt hb;have hvolt: ∀b,η.vo b->b < w.heap.size:=fun b hb=>(s.fr.vnew b hb).1;have hKl:Keep (c.dom h η) ((c.lpb D lp (.loop (rec_ .ready none)) O0).dom (H 0 i0) η) W1 W1:=fun b o hb hl _=>⟨⟨hb.1,fun ho=>hb.2.1 (hownsub b ho),hb.2.2.1,fun ho=>hb.2.1 (hO0own b ho)⟩,hl⟩
  have sL:St' (c.lpb D lp (.loop (rec_ .ready none)) O0) G0 (H 0 i0) (nm l) a W1 η:=by
    refine ⟨s1.tn,s1.df,fun t e ht=> ?_,fun k y hk=> ?_,fun k k' y y' hk hk' hne hc hc'=> ?_,⟨s1.fr.os,s1.fr.tape,s1.fr.output,s1.fr.size,s1.fr.block,s1.fr.vold,s1.fr.vnew⟩,fun k hk=>⟨hlk.ln k hk,(s1.lk k hk).2⟩,fun y hy=> ?_,fun b hb=>zby (hlt1 b (hO0own b hb)) hext.size,hlk.yk,fun k y hk hy=> ?_,s1.lbl⟩
    · obtain ⟨e',he',hi⟩:=hG t e ht
      exact ⟨(s1.slot t e' he').1,fun k hk=>xb5.2 (xf7 hnG k (zbj.2 (.inl (xb5.1 (hGn t e ht k hk))))),Ent.sat_go (hi _ _ _ _ (s1.slot t e' he').2.2) hKl fun _ _=>⟨rfl,rfl⟩⟩
    · obtain ⟨z,hz,_,hi⟩:=hK0 k y hk
      obtain ⟨h1,h2,h3,h4⟩:=s1.key k z hz;exact ⟨(hH 0 i0 k y hk).1,(hH 0 i0 k y hk).2,HEnt.sat_go (hi _ _ _ _ h3) (fun _=>rfl) hKl ⟨rfl,rfl⟩ fun _ _=>⟨rfl,rfl⟩,fun hc=>⟨(h4 hc).1,(h4 hc).2.1,hsep _ ⟨k,y,hk,hc,rfl⟩⟩⟩
    · obtain ⟨z,hz,_⟩:=hK0 k y hk
      obtain ⟨z',hz',_⟩:=hK0 k' y' hk';exact s1.inj k k' z z' hz hz' hne hc hc'
    · rcases zbt.1 hy with rfl | hy
      · exact ⟨hL1,rfl,.inl (by have:=s.fr.size;show c.w0.heap.size<=lp;omega),fun hv=>by have:=hvolt _ hv;simp only at this;omega,fun hv=>by have:=hlt1 _ (hO0own _ hv);simp only at this;omega⟩
      · rcases zbt.1 hy with rfl | hy
        · exact ⟨hK1,rfl,.inl (by have:=s.fr.size;show c.w0.heap.size<=D;omega),fun hv=>by have:=hvolt _ hv;simp only at this;omega,fun hv=>by have:=hlt1 _ (hO0own _ hv);simp only at this;omega⟩
        · obtain ⟨p1,p2,p3,p4,_⟩:=s1.pin y hy
          exact ⟨p1,p2,p3,p4,fun hv=>s.npin hy (hO0own _ hv)⟩
    · obtain ⟨z,hz,hT,_⟩:=hK0 k y hy
      rw [<-hT];refine c.Jc _ _ _ _ _ _ (s.jj k z hk hz) (hext.stp _) fun b hb=> ?_;rcases hb with hb | hb | ⟨y,hy,e⟩
      · exact ⟨zby (hlt1 b (hownsub b hb)) hext.size,.inl (.inl (hownsub b hb))⟩
      · exact ⟨zby (hlt1 b (hO0own b hb)) hext.size,.inl (.inl (hO0own b hb))⟩
      · rcases zbt.1 hy with rfl | hy
        · exact ⟨by simp only at e;omega,.inr (by simp only at e;omega)⟩
        · rcases zbt.1 hy with rfl | hy
          · exact ⟨by simp only at e;omega,.inr (by simp only at e;omega)⟩
          · exact ⟨by rw [e];exact zby (hpnlt y hy) hext.size,.inl (.inr (.inr ⟨y,hy,e⟩))⟩
  obtain ⟨V0,hV0⟩: ∃V0:Dom,V0=fun b=>Own (H 0 i0) η b∨η.vo b∨b=lp∨b=D∨ ∃y∈c.pn,b=y.1:=⟨_,rfl⟩
  have hV0lt: ∀b,V0 b->b < W1.heap.size:=fun b hb=>by
    rw [hV0] at hb;rcases hb with hb | hb | hb | hb | ⟨y,hy,e⟩
    · exact zby (hlt1 b (hownsub b hb)) hext.size
    · exact zby (hvolt b hb) hext.size
    · omega
    · omega
    · rw [e];exact zby (hpnlt y hy) hext.size
  have hSS0:SS c D lp (.loop (rec_ .ready none)) O0 V0 G0 (H 0 i0) l a W1:=by
    refine ⟨η,sL,fun b hb=>by rw [hV0];exact .inl hb,fun b hb=>by rw [hV0];exact .inr (.inl hb),hV0lt,fun y hy=> ?_,fun b hb=> ?_⟩
    · rw [hV0]
      rcases zbt.1 hy with rfl | hy
      · exact .inr (.inr (.inl rfl))
      · rcases zbt.1 hy with rfl | hy
        · exact .inr (.inr (.inr (.inl rfl)))
        · exact .inr (.inr (.inr (.inr ⟨y,hy,rfl⟩)))
    · obtain ⟨k,y,hk,hc,rfl⟩:=hO0own b hb
      exact ((s.key k y hk).2.2.2 hc).1
  obtain ⟨F,hF⟩: ∃F:Dom,F=fun b=>c.dom h η b/\b < w.heap.size/\ ¬ ∃y∈c.pn,b=y.1:=⟨_,rfl⟩
  have hKF:Keep (c.dom h η) F w W1:=fun b o hb hl hd=>by
    have hnp: ¬ ∃y∈c.pn,b=y.1:=by
      rintro ⟨y,hy,e⟩;obtain ⟨p1,p2,_⟩:=s.pin y hy;rw [<-e,hl] at p1;cases p1;rw [p2] at hd;cases hd
    exact ⟨by rw [hF];exact ⟨hb,xb0 hl,hnp⟩,(hext.block b (xb0 hl)).trans hl⟩
  have hsats:VP.sats F W1 (η.pre ρ) caps vs:=VP.sats_go hKF caps vs (fun _ _=>⟨rfl,rfl⟩) ((VP.sats_ren caps vs).1 hcaps);have hAll:AllK F W1 (η.pre ρ) Hl:=fun y hy=>HEnt.sat_go (HEnt.sat_ren.1 (s.key _ _ (hH' y hy)).2.2.1) (fun hc=>hext.block _ (s.klt (hH' y hy) hc)) hKF ⟨rfl,rfl⟩ fun _ _=>⟨rfl,rfl⟩
  have hInj:InjK (η.pre ρ) Hl:=fun y hy z hz hne hcy hcz=>s.inj (ρ y.1) (ρ z.1) _ _ (hH' y hy) (hH' z hz) (xm6 hρ y.1 z.1 (zcr hy) (zcr hz) hne) hcy hcz;have hFV: ∀b,F b-> ¬V0 b/\ ¬OwnK (η.pre ρ) Hl b:=fun b hb=>by
    rw [hF] at hb;obtain ⟨hb,hlt,hnp⟩:=hb;refine ⟨fun hv=> ?_,fun ho=>hb.2.1 (hO0own b (by rw [hO0];exact ho))⟩;rw [hV0] at hv;rcases hv with hv | hv | hv | hv | hv
    · exact hb.2.1 (hownsub b hv)
    · exact hb.2.2.1 hv
    · omega
    · omega
    · exact hnp hv
  have hOV: ∀b,OwnK (η.pre ρ) Hl b-> ¬V0 b:=fun b ho hv=>by
    have ho':O0 b:=by rw [hO0];exact ho
    rw [hV0] at hv;rcases hv with hv | hv | hv | hv | ⟨y,hy,e⟩
    · exact hsep b hv ho'
    · obtain ⟨k,y,hk,hc,rfl⟩:=hO0own b ho'
      exact ((s.key k y hk).2.2.2 hc).2.1 hv
    · have:=hlt1 b (hO0own b ho');omega
    · have:=hlt1 b (hO0own b ho');omega
    · rw [e] at ho';exact s.npin hy (hO0own _ ho')
  have hJc:JcOf (JC c D lp rec_ G0 l a I H Ix Hx):=fun n O O' V W W' hj st hO=>by
    rcases hj with ⟨k,i,e,hi,hs⟩ | ⟨k,e',i,e,hi,hs⟩
    · exact .inl ⟨k,i,e,hi,hs.on st hO⟩
    · exact .inr ⟨k,e',i,e,hi,hs.on st hO⟩
  have hY:YHyp P W1 F (JC c D lp rec_ G0 l a I H Ix Hx) lp N ys:=by
    intro k hk O V W vals D0 hj hvals hD0;have hev: ∃i,I k i/\SS c D lp (.loop (rec_ .ready none)) O V G0 (H k i) l a W:=by
      rcases hj with ⟨k',i,e,hi,hs⟩ | ⟨k',e',i,e,hi,hs⟩
      · have:k'=k:=by omega
        subst this;exact ⟨i,hi,hs⟩
      · omega
    obtain ⟨i,hi,η',s',hV1,hV2,hV3,hV4,hV5⟩:=hev;have hlen:vals.length=ps.length:=by
      have key: ∀(ts:List Ty) (us:List Value),Tup.all D0 W ts us->us.length=ts.length:=by
        intro ts
        induction ts with
        | nil=>intro us h;cases us with
          | nil=>rfl
          | cons=>exact h.elim
        | cons t r ih=>intro us h;cases us with
          | nil=>exact h.elim
          | cons u us=>simp [ih us h.2]
      rw [key _ _ hvals,hys k hk]
    have hpinl:W.heap[lp]? =some (.loop (rec_ .ready none)):=(s'.pin (lp,_) (List.Mem.head _)).1;have hy:=run_yield (P:=P) (args:=vals.toArray) hpinl (by rw [hrec];simp [hlen]);refine ⟨_,_,_,_,hy,roundIn_of_wpIn trivial ?_⟩;obtain ⟨g1,h1,al1,hassign,hbody⟩:=round D lp (.loop (rec_ .ready none)) (.loop {rec_ .ready none with state:= .busy}) O W η' (lbR c D lp (H k i) η') η'.vo k i hk hi s'.fr.size;have hlnl: ∀k∈nG++c.ln,nm l k=true:=fun k hk=>xb5.2 (xf7 hnG k hk);have hbase: ∀b,D0 b-> ¬O b/\ ¬V b/\(c.w0.heap.size<=b∨(c.F0 b/\ ¬c.lb b)):=fun b hb=>by
      obtain ⟨e1,e2,e3⟩:=hD0 b hb;refine ⟨e1,e2,?_⟩;rcases e3 with e3 | e3
      · left;have:=s.fr.size;omega
      · rw [hF] at e3;exact e3.1.1
    have hpsN: ∀p∈ps,p < c.N:=fun p hp=>by have:=zez.1 hps p hp;simpa using this
    have sb:=s'.begin (nG++c.ln) hlnl hV1 hV2 hbase hvals hpsN (hys k hk).symm;have hfold:(rec_ .ready none).tmps=a.tmps/\(rec_ .ready none).params=ps.toArray/\(rec_ .ready none).fn=fn/\(rec_ .ready none).assign=assign/\(rec_ .ready none).body=body:=by rw [hrec];exact ⟨rfl,rfl,rfl,rfl,rfl⟩
    rw [hfold.1,hfold.2.1,hfold.2.2.2.1,hfold.2.2.2.2];have hz:=jg0 ps vals a.tmps;have hz':(ps.toArray.zip vals.toArray).foldl (fun tmps (x:Tmp×Value)=>match x with | (t,a)=>tmps.setIfInBounds t a) a.tmps=(ps.zip vals).foldl (fun t (x:Nat×Value)=>t.setIfInBounds x.1 x.2) a.tmps:=hz;rw [hz'];refine wpIn_mono (hassign _ _ ⟨η',sb⟩) fun e a₁ w₁ hq=> ?_;cases e with
    | normal=>
      obtain ⟨η1,sa⟩:=hq;have hp1:w₁.heap[lp]? =some (.loop (rec_ .ready none)):=(sa.pin (lp,_) (List.Mem.head _)).1;refine ⟨_,run_beginRound hp1 (by rw [hrec]),?_⟩;have sb2:=sa.repin (o':= .loop {rec_ .ready none with state:= .busy}) rfl (hneq (.loop (rec_ .ready none))) rfl;refine wpIn_mono (hbody _ _ ⟨η1,sb2⟩) fun e₂ a₂ w₂ hq₂=> ?_;have fin: ∀(jump:Option Code) (h3:Keys) (a₂:Act) (w₂:World),St (c.rnd D lp (.loop {rec_ .ready none with state:= .busy}) O W (nG++c.ln) η' (lbR c D lp (H k i) η') η'.vo) (fun _=>none) h3 (nm l) a₂ w₂->
          ∃w₃ V',(Instr.endRound lp jump).run P w₂= .ok (.bool jump.isNone) w₃/\Kept V V' W w₃/\SS c D lp (.loop (rec_ (if jump.isNone then .ready else .done) jump)) O V' G0 h3 l a w₃:=by
        intro jump h3 a₂ w₂ ⟨η3,s3⟩;have hp3:w₂.heap[lp]? =some (.loop {rec_ .ready none with state:= .busy}):=(s3.pin (lp,_) (List.Mem.head _)).1;have he:=run_endRound (P:=P) jump hp3;have hobj:({({rec_ .ready none with state:= .busy}:Loop) with state:=if jump.isNone then .ready else .done,pending:=jump}:Loop)=rec_ (if jump.isNone then .ready else .done) jump:=by rw [hrec]
        rw [hobj] at he;have s4:St' (c.rnd D lp (.loop (rec_ (if jump.isNone then .ready else .done) jump)) O W (nG++c.ln) η' (lbR c D lp (H k i) η') η'.vo) (fun _=>none) h3 (nm l) a₂ _ η3:=s3.repin (o':= .loop (rec_ (if jump.isNone then .ready else .done) jump)) rfl (hneq (.loop (rec_ .ready none))) rfl;have s5:=s'.endR (obj':= .loop (rec_ (if jump.isNone then .ready else .done) jump)) s4 (fun _ h=>h) (fun k hk=>zbj.2 (.inr hk)) (fun t e ht k hk=>zbj.2 (.inl (xb5.1 (hGn t e ht k hk))));have hown:=St'.endOwn s4;have hsz4:W.heap.size<=(w₂.putObj lp (.loop (rec_ (if jump.isNone then .ready else .done) jump))).heap.size:=s4.fr.size;refine ⟨_,fun b=>V b∨(W.heap.size<=b/\b < (w₂.putObj lp (.loop (rec_ (if jump.isNone then .ready else .done) jump))).heap.size),he,⟨⟨s4.fr.os,s4.fr.tape,s4.fr.output,hsz4,fun b hb hn=> ?_⟩,fun b hb=> .inl hb,fun b hb=> ?_⟩,η3,s5,?_,fun b hb=> ?_,fun b hb=> ?_,fun y hy=> ?_,hV5⟩
        · refine s4.fr.block b hb (fun hl=> ?_) fun hv=> ?_
          · rcases hl with hl | hl | hl | ⟨y,hy,e⟩
            · exact hn (hV1 b hl)
            · exact hn (hl▸hV4 (lp,_) (List.Mem.head _))
            · exact hn (hl▸hV4 (D,_) (List.Mem.tail _ (List.Mem.head _)))
            · exact hn (e▸hV4 y (List.Mem.tail _ (List.Mem.tail _ hy)))
          · rcases (s4.fr.vnew b hv).2.2 with h6 | h6
            · exact hn (hV2 b h6)
            · have h6:W.heap.size<=b:=h6
              omega
        · rcases hb with hb | hb
          · exact ⟨zby (hV3 b hb) hsz4,.inl hb⟩
          · exact ⟨hb.2,.inr hb.1⟩
        · rintro b ⟨k',y,hk',hc,rfl⟩
          rcases hown k' y hk' hc with h6 | h6
          · exact .inr ⟨h6,HEnt.lt (s4.key k' y hk').2.2.1 hc⟩
          · exact .inl (hV1 _ h6)
        · rcases (s4.fr.vnew b hb).2.2 with h6 | h6
          · exact .inl (hV2 b h6)
          · exact .inr ⟨h6,(s4.fr.vnew b hb).1⟩
        · rcases hb with hb | hb
          · exact zby (hV3 b hb) hsz4
          · exact hb.2
        · left
          rcases zbt.1 hy with rfl | hy
          · exact hV4 (lp,.loop (rec_ .ready none)) (List.Mem.head _)
          · exact hV4 y (List.Mem.tail _ hy)
      cases e₂ with
      | normal=>
        obtain ⟨i',hi',hs'⟩:=hq₂;obtain ⟨w₃,V',h6,h7,h8⟩:=fin none _ _ _ hs';exact ⟨_,_,h6,V',h7,.inl ⟨rfl,.inl ⟨k+1,i',by omega,hi',h8⟩⟩⟩
      | ret=>
        obtain ⟨i',hi',hs'⟩:=hq₂;obtain ⟨w₃,V',h6,h7,h8⟩:=fin (some .ret) _ _ _ hs';exact ⟨_,_,h6,V',h7,.inr ⟨rfl,.inr ⟨k,.ret,i',rfl,hi',h8⟩⟩⟩
      | exit id=>
        obtain ⟨i',hi',hs'⟩:=hq₂;obtain ⟨w₃,V',h6,h7,h8⟩:=fin (some (.exit id)) _ _ _ hs';exact ⟨_,_,h6,V',h7,.inr ⟨rfl,.inr ⟨k,.exit id,i',rfl,hi',h8⟩⟩⟩
      | goto t=>
        obtain ⟨i',hi',hs'⟩:=hq₂;rcases hIx _ _ hi' with h6 | ⟨_,h6⟩ <;> cases h6
      | panic ch=>
        obtain ⟨i',hi',hs'⟩:=hq₂;rcases hIx _ _ hi' with h6 | ⟨_,h6⟩ <;> cases h6
      | outgrown=>
        obtain ⟨i',hi',hs'⟩:=hq₂;rcases hIx _ _ hi' with h6 | ⟨_,h6⟩ <;> cases h6
    | exit id=>exact hq.elim
    | goto t=>exact hq.elim
    | ret=>exact hq.elim
    | panic chain=>exact hq.elim
    | outgrown=>exact hq.elim
  refine ⟨lp,[{target:= .collected D,args:= #[]}],W1,{target:= .fn (.func f) vs.toArray,args:= #[.func (.yield lp) #[] #[]]},W1,f,(Value.func (.yield lp) #[] #[]::vs).toArray,W1,?_,?_,fun _ _=>trivial,?_,fun h=>(by cases h),?_⟩
  · show (Instr.enterLoop fn a.tmps ps.toArray assign body none).run P w=_
    rw [run_enterLoop_outer,hlp,hD,hW1,hrec]
  · simp only [resolve,hv]
    simp [go_sem,Act.eval,Deferred.ofValue]
  · have:=xe7 (P:=P) hf1 hf2 hf3 (Value.func (.yield lp) #[] #[]::vs).toArray W1
    simp only [invoke];have e: #[Value.func (.yield lp) #[] #[]]++vs.toArray=(Value.func (.yield lp) #[] #[]::vs).toArray:=by simp
    rw [e];exact this
  · refine ze0 (ro:=none) (zfc (hit F W1 (η.pre ρ) vs lp V0 (JC c D lp rec_ G0 l a I H Ix Hx) hJc hsats hAll hInj hFV hOV hV0lt hY (.inl ⟨0,i0,rfl,h0,by rw [<-hO0];exact hSS0⟩)) ?_)
    rintro e W2 ⟨v,rfl,O,V,hj⟩;have last: ∀(st:LoopState) (pe:Option Code) (h3:Keys),st≠ .busy->SS c D lp (.loop (rec_ st pe)) O V G0 h3 l a W2-> ∃W3,(Instr.endLoop lp).run P W2= .ok pe W3/\St (c.lp D) G0 h3 (nm l) {a with defers:={target:= .collected D,args:= #[]}::a.defers} W3:=by
      intro st pe h3 hst ⟨η3,s3,_⟩;have hp3:W2.heap[lp]? =some (.loop (rec_ st pe)):=(s3.pin (lp,_) (List.Mem.head _)).1;have he:=run_endLoop (P:=P) hp3 (by rw [hrec];exact hst);have s4:=s3.repin (o':= .loop {rec_ st pe with state:= .exhausted}) rfl (hneq (.loop (rec_ .ready none))) rfl;have:(rec_ st pe).pending=pe:=by rw [hrec]
      exact ⟨_,he.trans (congrArg (Result.ok · _) this),η3,St'.behind (obj:= .loop {rec_ st pe with state:= .exhausted}) s4 hvi⟩
    have even: ∀i,I N i->SS c D lp (.loop (rec_ .ready none)) O V G0 (H N i) l a W2->rangePost (fc none) 0 P lp Q {a with defers:=[{target:= .collected D,args:= #[]}]++a.defers} (.returned v) W2:=fun i hi hs=>by
      obtain ⟨W3,h6,h7⟩:=last _ _ _ (by simp) hs;exact ⟨none,W3,h6,done D hDdf i hi _ _ h7⟩
    have odd: ∀e i,Ix e i->SS c D lp (.loop (rec_ .done (some (codeOf e)))) O V G0 (Hx i) l a W2->rangePost (fc none) 0 P lp Q {a with defers:=[{target:= .collected D,args:= #[]}]++a.defers} (.returned v) W2:=fun e i hi hs=>by
      obtain ⟨W3,h6,h7⟩:=last _ _ _ (by simp) hs;have hq:=stop D hDdf e i hi _ _ h7;refine ⟨some (codeOf e),W3,h6,?_⟩;rcases hIx e i hi with rfl | ⟨id,rfl⟩
      · exact wpIn_ret hq
      · exact wpIn_exit hq
    rcases hj with hj | ⟨k,hk,hj⟩
    · rcases hj with ⟨k',i,e,hi,hs⟩ | ⟨k',e',i,e,hi,hs⟩
      · have:k'=N:=by omega
        subst this;exact even i hi hs
      · omega
    · rcases hj with ⟨k',i,e,hi,hs⟩ | ⟨k',e',i,e,hi,hs⟩
      · omega
      · exact odd e' i hi hs
theorem yi1 {x:Operand} {ps:List Nat} {assign body:Code} {f:FuncId} {Hl:List (Nat×HEnt)} {caps:List VP} {N:Nat} {ys:Nat->List Ty} (ρ:Nat->Nat)
  (hro:c.ro=none) (hvi: ∀b,¬c.vi b) (hdf:dfB c.df c.pn) (hit:ItC P f Hl caps N ys) (hf:FnI P f)
  (hx:look g x=some (.own (.fn f (VP.rens ρ caps)))) (hHl:Kr h (Hl.map fun y=>(ρ y.1,y.2.ren ρ))) (hρ:injN ρ (Hl.map (·.1))=true)
  (hps:(ps.all fun p=>Nat.blt p c.N)=true) (hys: ∀k,k < N->(ys k).length=ps.length)
  (G0:Slots) (l nG:List Nat) (hG:Sub G0 g) (hGn:SupG G0 (nm nG)) (hnG:subN (nG++c.ln) l=true) (hlk:LkOk c (nm l))
  {ι:Type} (I:Nat->ι->Prop) (H:Nat->ι->Keys) (hH: ∀k i,SupH (H k i) (nm l)) (hdis: ∀k i,∀y∈Hl,H k i (ρ y.1)=none)
  {κ:Type} (Ix:Exit->κ->Prop) (Hx:κ->Keys) (hIx: ∀e i,Ix e i->e= .ret∨ ∃id,e= .exit id)
  (i0:ι) (h0:I 0 i0) (hK0:SubK (H 0 i0) h)
  (round: ∀(D lp:Nat) (o1 o2:Obj) (O:Dom) (W:World) (lη:Env) (lb V0:Dom) (k:Nat) (i:ι),k < N->I k i->
   ∃g1 h1 al1,wc P (c.rnd D lp o1 O W (nG++c.ln) lη lb V0) assign (Exit.then (fun a w=>St (c.rnd D lp o1 O W (nG++c.ln) lη lb V0) g1 h1 al1 a w) (fun _ _ _=>False)) (setP G0 ps (ys k)) (H k i) (nm l)/\
    wc P (c.rnd D lp o2 O W (nG++c.ln) lη lb V0) body (PostRnd (c.rnd D lp o2 O W (nG++c.ln) lη lb V0) I H Ix Hx l k) g1 h1 al1)
  (done: ∀D,D∉c.df-> ∀i,I N i->wk (c.lp D) .normal Q G0 (H N i) (nm l))
  (stop: ∀D,D∉c.df-> ∀e i,Ix e i->wk (c.lp D) e Q G0 (Hx i) (nm l)):
  wc P c (.rangeFunc x ps.toArray assign body) Q g h al:=
 q8 ρ hro hvi hdf hit hf hx hHl hρ hps hys G0 l nG hG hGn hnG hlk I H hH hdis Ix Hx hIx i0 h0 hK0 (fun D lp o1 o2 O W lη lb V0 k i hk hi _=>round D lp o1 o2 O W lη lb V0 k i hk hi) done stop
end
section
variable {P:Program} {c:Base} {d ty:Nat} {pos:String} {af:Array Edge} {gd:Option (Nat×Bool)}
theorem xs9 {T E es:Nat} {agg:Bool} {α:Type} {f:α->Ty} {xs ys:List α} {x y:Operand} {v:Int} (sl:SlI P T E es agg) (u:Nat) (hv:v=(u:Int)) (h2:u<=xs.length) (hy:xs.take u=ys):
  Does P c ⟨some d,.slice T x none (some y) none,ty,pos,af,gd⟩ ⟨[(x,.val (tL es agg f xs)),(y,.val (tI v))],[],some (d,some (.val (tL es agg f ys))),[],[]⟩:=by
 subst hv;exact zz3 (lo:=none) (hi:=some y) (l:=0) (u:=u) sl (fun _=>rfl) (fun h=>by cases h) (zbs _) h2 (by rw [List.drop_zero];exact hy)
theorem xv9 {T E es k off len off':Nat} {agg:Bool} {x y:Operand} {v:Int} (sl:SlI P T E es agg) (u:Nat) (hv:v=(u:Int)) (h2:u<=len) (ho:off=off'):
  Does P c ⟨some d,.slice T x none (some y) none,ty,pos,af,gd⟩ ⟨[(x,.own (.sl k es off len)),(y,.val (tI v))],[],some (d,some (.own (.sl k es off' u))),[],[]⟩:=by
 subst hv;exact zq6 (lo:=none) (hi:=some y) (l:=0) (u:=u) sl (fun _=>rfl) (fun h=>by cases h) (zbs _) h2 (by rw [zej];exact ho) (Nat.sub_zero _)
theorem qj3 {T E es k off len off' len':Nat} {agg:Bool} {x y z:Operand} {v w:Int} (sl:SlI P T E es agg) (l u:Nat) (hv:v=(l:Int)) (hw:w=(u:Int)) (h1:l<=u) (h2:u<=len) (ho:off+l=off') (hl:u - l=len'):
  Does P c ⟨some d,.slice T x (some y) (some z) none,ty,pos,af,gd⟩ ⟨[(x,.own (.sl k es off len)),(y,.val (tI v)),(z,.val (tI w))],[],some (d,some (.own (.sl k es off' len'))),[],[]⟩:=by
 subst hv hw;exact zq6 (lo:=some y) (hi:=some z) (l:=l) (u:=u) sl (fun h=>by cases h) (fun h=>by cases h) h1 h2 ho hl
theorem xb4 {f:FuncId} {xs:List Operand} {aT:Array TypeId} {ts us:List Ty} {r:Ty} (hc:Ct P f us r) (hf:FnI P f) (hl:xs.length=ts.length) (hle:LeL ts us):
  Does P c ⟨some d,.call {callee:= .value (.func f),args:=xs.toArray,argTypes:=aT},ty,pos,af,gd⟩ ⟨xs.zip (ts.map Ent.val),[],some (d,some (.val r)),[],[]⟩:=
 x3 (fun F w vs hv=>hc F w vs (LeL.all hle hv)) hf hl
end
theorem zh4 {P:Program} {c:Base} {d ty:Nat} {pos:String} {af:Array Edge} {gd:Option (Nat×Bool)} {T E yT es:Nat} {agg:Bool} {α:Type} {f:α->Ty} {xs:List α} {x:Operand} (hT:P.underlying T=some (.slice E)):
  Does P c ⟨some d,.binOp .eql T x (.const (.slice none 0 0)) yT,ty,pos,af,gd⟩ ⟨[(x,.val (tL es agg f xs))],[],some (d,some (.val (tX (fun b:Bool=>b=true->xs=[]) tB))),[],[]⟩:=
 Does.value rfl fun g h al a w η hrd _ s=>by
  obtain ⟨A,cc,h1,_,_,h4⟩:=(xa7 s hrd.1).1;have h1:a.eval x= .slice A xs.length cc:=h1;have h2:a.eval (.const (.slice none 0 0))= .slice none 0 0:=rfl;refine ⟨.bool A.isNone,w,?_,Ext.refl w,⟨A.isNone,fun hA=> ?_,rfl⟩,fun j hj=>by cases hj⟩
  ·have hg:(eqGuard .eql T x (.const (.slice none 0 0)) (.slice A xs.length cc) (.slice none 0 0)).run P w= .ok () w:=by
    simp [eqGuard,go_sem]
   simp only [execOp,h1,h2,zbu,hg,zbo,binOp,qk7 hT,zbv]
  ·rcases h4 with h4 | ⟨b,o,rfl,_⟩
   ·exact h4
   ·cases hA
theorem zu6 {P:Program} {c:Base} {g:Slots} {h:Keys} {al:Names} {Q:Exit->Act->World->Prop} {x:Code} {s:Nat} {ι:Type} {pre:ι->Prop} {f:ι->Ty} (hx:g s=some (.val (tX pre f))) (H: ∀i,pre i->wc P c x Q (upd g s (some (.val (f i)))) h al):wc P c x Q g h al:=fun a w ⟨η,st⟩=>by
 obtain ⟨h1,_,i,hi,hp⟩:=st.slot s _ hx;have s2:=st.put h1 (e:= .val (f i)) hp fun j hj=>by cases hj
 have e:a.put (some s) (a.tmps.getD s undef)=a:=by
  have hlt:s < a.tmps.size:=by rw [st.tn];exact h1
  have:a.tmps.setIfInBounds s (a.tmps.getD s undef)=a.tmps:=by
   apply zdp;intro i;rw [zdy];by_cases hi:s=i
   ·subst hi;simp [hlt]
   ·simp [hi]
  simp only [Act.put,this]
 rw [e] at s2;exact H i hi a w ⟨η,s2⟩
theorem ImpK.of {x x':HEnt} (h:x=x'):ImpK x x':=h▸zap
abbrev zat:=@ImpK.of
theorem ImpK.ofTs {T es:Nat} {agg:Bool} {ts ts':List Ent} (h:ts=ts'):ImpK ⟨T,es,agg,ts⟩ ⟨T,es,agg,ts'⟩:=h▸zap
def rW (k:IntKind) (xs:List Nat):List Ent:=xs.map fun n:Nat=> .val (tE (.int k (n:Int)))
theorem xo6 {k:IntKind} {xs:List Nat} {i:Nat} (h:i < xs.length):(rW k xs)[i]? =some (.val (tE (.int k ((xs.getD i 0:Nat):Int)))):=by
 rw [rW,zbp,gN h];rfl
theorem xj2 {k:IntKind} {xs:List Nat} {i:Nat} (h:i < xs.length):Nat.blt i (rW k xs).length=true:=by simpa [rW] using h
theorem xh1 {k:IntKind} {xs:List Nat} {i m:Nat} {v:Int} (h:v=(m:Int)):(rW k xs).set i (.val (tE (.int k v)))=rW k (xs.set i m):=by
 rw [h,rW,rW,List.map_set]
theorem xp5 {k:IntKind} (n:Nat):List.replicate n (Ent.val (tE (.int k 0)))=rW k (List.replicate n 0):=by
 simp [rW]
theorem xp6 {k:IntKind} {xs:List Nat}:(rW k xs).length=xs.length:=by simp [rW]
theorem xk2 {k:IntKind} {xs:List Nat} {n:Nat} (h:xs.length=n):((rW k xs).drop 0).take n=xs.map fun x:Nat=> .val (tE (.int k (x:Int))):=by
 rw [List.drop_zero,List.take_of_length_le (by rw [xp6];omega)];rfl
theorem zh1 {k:IntKind} {xs:List Nat} {n:Nat}:((rW k xs).drop 0).take n=(xs.take n).map fun x:Nat=> .val (tE (.int k (x:Int))):=by
 rw [List.drop_zero,rW,List.map_take]
theorem xf3 {k:IntKind} {xs:List Nat} {l:List Nat}:SupX (rW k xs) l:=SupX.map (f:=fun n:Nat=>tE (.int k (n:Int)))
theorem supJ {x:HEnt} {al:Names} (h:SupX x.ts []): ∀j∈x.supp,al j=true:=fun j hj=>by cases h j hj
theorem supJL {x:HEnt} {al:Names} (h:allN al x.supp=true): ∀j∈x.supp,al j=true:=yh1 h
theorem isS {α:Type} {x:Option α} {y:α} (h:x=some y):x.isSome=true:=by rw [h];rfl
def rI (xs:List Int):List Ent:=xs.map fun n=> .val (tI n)
theorem za8 {xs:List Int} {i:Nat} (h:i < xs.length):(rI xs)[i]? =some (.val (tI (xs.getD i 0))):=by
 rw [rI,zbp,gZ h];rfl
theorem yg5 {xs:List Int} {i:Nat} (h:i < xs.length):Nat.blt i (rI xs).length=true:=by simpa [rI] using h
theorem ya1 {xs:List Int} {i:Nat} {m v:Int} (h:v=m):(rI xs).set i (.val (tI v))=rI (xs.set i m):=by
 rw [h,rI,rI,List.map_set]
theorem qr0 (n:Nat):List.replicate n (Ent.val (tI 0))=rI (List.replicate n 0):=by simp [rI]
theorem xd2 {xs:List Int} {l:List Nat}:SupX (rI xs) l:=SupX.map (f:=fun n:Int=>tI n)
theorem rI_len {xs:List Int}:(rI xs).length=xs.length:=by simp [rI]
theorem zs6 {xs:List Int} {n:Nat} (h:xs.length=n):((rI xs).drop 0).take n=xs.map fun x:Int=> .val (tI x):=by
 rw [List.drop_zero,List.take_of_length_le (by rw [rI_len];omega)];rfl
theorem yh8 {k:IntKind} {a b:Nat} (ha:a < 2 ^ k.bits) (hb:b < 2 ^ k.bits):bits .or k (a:Int) (b:Int)=k.wrap ((a ||| b:Nat):Int):=by
 simp only [bits]
 congr 1
 simp [BitVec.toNat_or];rw [zbx ha,zbx hb]
theorem zu5 {k:IntKind} {a b:Nat} (ha:a < 2 ^ k.bits) (hb:b < 2 ^ k.bits):bits .and k (a:Int) (b:Int)=k.wrap ((a &&& b:Nat):Int):=by
 simp only [bits]
 congr 1
 simp [BitVec.toNat_and];rw [zbx ha,zbx hb]
theorem yt1 {k:IntKind} {a b:Nat} (ha:a < 2 ^ k.bits) (hb:b < 2 ^ k.bits):bits .xor k (a:Int) (b:Int)=k.wrap ((a ^^^ b:Nat):Int):=by
 simp only [bits]
 congr 1
 simp [BitVec.toNat_xor];rw [zbx ha,zbx hb]
theorem qq2 {a c s:Nat} (ha:a < 2 ^ s):a ||| c*2 ^ s=a+c*2 ^ s:=by
 have:=Nat.two_pow_add_eq_or_of_lt ha c;rw [Nat.or_comm,zbz c,<-this,Nat.add_comm]
section
variable {P:Program} {c:Base} {d t:Nat} {pos:String} {af:Array Edge} {gd:Option (Nat×Bool)} {T yT:TypeId} {x y:Operand} {k:IntKind} {m n r:Int}
theorem yd9 (hr:bits .or k m n=r):Does P c ⟨some d,.binOp .or T x y yT,t,pos,af,gd⟩ ⟨[(x,.val (tE (.int k m))),(y,.val (tE (.int k n)))],[],some (d,some (.val (tE (.int k r)))),[],[]⟩:=
 zr1 (.inr (.inl rfl)) fun w=>by rw [intBits_or,zbv,hr]
theorem zc2 (hr:bits .and k m n=r):Does P c ⟨some d,.binOp .and T x y yT,t,pos,af,gd⟩ ⟨[(x,.val (tE (.int k m))),(y,.val (tE (.int k n)))],[],some (d,some (.val (tE (.int k r)))),[],[]⟩:=
 zr1 (.inl rfl) fun w=>by rw [intBits_and,zbv,hr]
theorem d_xor (hr:bits .xor k m n=r):Does P c ⟨some d,.binOp .xor T x y yT,t,pos,af,gd⟩ ⟨[(x,.val (tE (.int k m))),(y,.val (tE (.int k n)))],[],some (d,some (.val (tE (.int k r)))),[],[]⟩:=
 zr1 (.inr (.inr (.inl rfl))) fun w=>by rw [intBits_xor,zbv,hr]
end
theorem qs2 {k:IntKind} {p q:Int} (a c s:Nat) (hp:p=(a:Int)) (hq:q=((c*2 ^ s:Nat):Int)) (ha:a < 2 ^ s) (hw:k.wrap ((a+c*2 ^ s:Nat):Int)=((a+c*2 ^ s:Nat):Int)) (hb:a+c*2 ^ s < 2 ^ k.bits):bits .or k p q=((a+c*2 ^ s:Nat):Int):=by
 subst hp hq;rw [yh8 (by omega) (by omega),qq2 ha,hw]
theorem zi9 {k:IntKind} {p q:Int} (a c s:Nat) (hp:p=(a:Int)) (hq:q=((c*2 ^ s:Nat):Int)) (ha:a < 2 ^ s) (hw:k.wrap ((a+c*2 ^ s:Nat):Int)=((a+c*2 ^ s:Nat):Int)) (hb:a+c*2 ^ s < 2 ^ k.bits):bits .or k q p=((a+c*2 ^ s:Nat):Int):=by
 subst hp hq;rw [yh8 (by omega) (by omega),Nat.or_comm,qq2 ha,hw]
end An
namespace An
open Go
theorem yb9 {P:Program} {c:Base} {d t:Nat} {pos:String} {af:Array Edge} {gd:Option (Nat×Bool)} {T:TypeId} {y:Operand} {k:IntKind} {s:ByteArray} {v:Int} (f:Nat->Nat) (n:Nat) (hT:P.underlying T=some .string) (hv:v=(n:Int)) (hn:n < 256)
  (hs: ∀m:Fin 256,(s[m.val]?).map UInt8.toNat=some (f m.val)):
  Does P c ⟨some d,.index T (.const (.string s)) y,t,pos,af,gd⟩ ⟨[(y,.val (tE (.int k v)))],[],some (d,some (.val (tE (.int .u8 (f n:Nat))))),[],[]⟩:=
 Does.value rfl fun g h al a w η hrd _ st=>by
  subst hv;have h1:a.eval y= .int k (n:Int):=(xa7 st hrd.1).1;have h2:a.eval (.const (.string s))= .string s:=rfl;have h3:=hs ⟨n,hn⟩;simp only [zdo] at h3;obtain ⟨b,h4,h5⟩:=h3;refine ⟨.int .u8 (f n:Nat),w,?_,Ext.refl w,rfl,fun j hj=>by cases hj⟩;simp only [execOp,h1,h2,Instr.index,asIntOf,zbu,zbv,zde hT,zbo];simp [h4,h5]
theorem yz1 {ρ:Nat->Nat} {α:Type} {f:α->Ty} {xs:List α}:(xs.map fun x=>Ent.val (f x)).map (Ent.ren ρ)=xs.map fun x=>Ent.val (f x):=by
 rw [List.map_map];rfl
theorem xi2 {ρ:Nat->Nat} {T es:Nat} {agg:Bool} {k:IntKind} {xs:List Nat}:HEnt.ren ρ ⟨T,es,agg,rW k xs⟩=⟨T,es,agg,rW k xs⟩:=by
 simp only [HEnt.ren,rW,yz1]
theorem xo5 {ρ:Nat->Nat} {T es:Nat} {agg:Bool} {xs:List Int}:HEnt.ren ρ ⟨T,es,agg,rI xs⟩=⟨T,es,agg,rI xs⟩:=by
 simp only [HEnt.ren,rI,yz1]
theorem jh9 {ρ:Nat->Nat} {T es:Nat} {agg:Bool} {α:Type} {f:α->Ty} {xs:List α}:HEnt.ren ρ ⟨T,es,agg,xs.map fun x=>Ent.val (f x)⟩=⟨T,es,agg,xs.map fun x=>Ent.val (f x)⟩:=by
 simp only [HEnt.ren,yz1]
theorem krN {ρ:Nat->Nat}:([]:List (Nat×HEnt)).map (fun x=>(ρ x.1,x.2.ren ρ))=[]:=rfl
theorem krC {ρ:Nat->Nat} {k:Nat} {x x':HEnt} {r:List (Nat×HEnt)} {r':List (Nat×HEnt)} (h:x.ren ρ=x') (hr:r.map (fun x=>(ρ x.1,x.2.ren ρ))=r'):((k,x)::r).map (fun x=>(ρ x.1,x.2.ren ρ))=(ρ k,x')::r':=by
 simp only [zcx,h,hr]
section
variable {P:Program} {c:Base} {g:Slots} {h:Keys} {al:Names} {d ty:Nat} {pos:String} {af:Array Edge} {gd:Option (Nat×Bool)}
theorem yj6 {ρ:Nat->Nat} {H H' h2:List (Nat×HEnt)} (e:H'.map (fun x=>(ρ x.1,x.2.ren ρ))=h2):kwOf ρ H H'=H.map (fun x=>(ρ x.1,none))++h2.map (fun x=>(x.1,some x.2)):=by
 rw [kwOf,<-e,List.map_map];rfl
theorem xe9 {f:FuncId} {xs:List Operand} {aT:Array TypeId} {H H' h1 h2:List (Nat×HEnt)} {ps:List Ent} {re:Ent} {nn:List Nat} (ρ:Nat->Nat) (hc:CtG P f H ps re H' nn) (hf:FnI P f) (hl:xs.length=ps.length) (e1:H.map (fun x=>(ρ x.1,x.2.ren ρ))=h1) (e2:H'.map (fun x=>(ρ x.1,x.2.ren ρ))=h2)
  (hsH:SupHs H' (nn++(suppE ps++H.map (·.1)))) (hok:gB ρ H H' re ps nn c.yk=true):
  Does P c ⟨some d,.call {callee:= .value (.func f),args:=xs.toArray,argTypes:=aT},ty,pos,af,gd⟩ ⟨xs.zip (ps.map (Ent.ren ρ)),h1,some (d,some (re.ren ρ)),H.map (fun x=>(ρ x.1,none))++h2.map (fun x=>(x.1,some x.2)),nn.map ρ⟩:=by
 have:=jm9 (c:=c) (d:=d) (ty:=ty) (pos:=pos) (af:=af) (gd:=gd) (aT:=aT) ρ hc hf hl hok hsH;rw [yj6 e2,e1] at this;exact this
theorem xw6 {f:FuncId} {x:Operand} {caps:List VP} {xs:List Operand} {aT:Array TypeId} {H H' h1 h2:List (Nat×HEnt)} {ps:List Ent} {re:Ent} {nn:List Nat} (ρ:Nat->Nat) (hc:CtG P f H (ps++caps.map Ent.own) re H' nn) (hf:FnI P f) (hl:xs.length=ps.length) (e1:H.map (fun x=>(ρ x.1,x.2.ren ρ))=h1) (e2:H'.map (fun x=>(ρ x.1,x.2.ren ρ))=h2)
  (hsH:SupHs H' (nn++(suppE (ps++caps.map Ent.own)++H.map (·.1)))) (hok:gB ρ H H' re (ps++caps.map Ent.own) nn c.yk=true):
  Does P c ⟨some d,.call {callee:= .value x,args:=xs.toArray,argTypes:=aT},ty,pos,af,gd⟩ ⟨(x,.own (.fn f (VP.rens ρ caps)))::xs.zip (ps.map (Ent.ren ρ)),h1,some (d,some (re.ren ρ)),H.map (fun x=>(ρ x.1,none))++h2.map (fun x=>(x.1,some x.2)),nn.map ρ⟩:=by
 have:=jj4 (c:=c) (d:=d) (ty:=ty) (pos:=pos) (af:=af) (gd:=gd) (aT:=aT) (x:=x) ρ hc hf hl hok hsH;rw [yj6 e2,e1] at this;exact this
variable {Q:Exit->Act->World->Prop}
theorem xh0 {ι:Type} {I:ι->Prop} {G:ι->Slots} {H:ι->Keys} {l:List Nat} (ρ:Nat->Nat) (i:ι) (hi:I i) (hg:SubR ρ (G i) g) (hh:SubKR ρ (H i) h) (sg:SupG (G i) (nm l)) (sh:SupH (H i) (nm l)) (hlk:LkOk c (nm l)) (hρ:injN ρ l=true) (hf:fixN ρ c.ln=true) (hy: ∀k,c.yk=some k->ρ k=k):
  wk c .normal (Exit.then (Fam c I G H (nm l)) Q) g h al:=
 K_ren l ρ hg hh sg sh hlk hρ hf hy (xg8 i hi Sub.refl SubK.refl sg sh hlk)
theorem xa9 {x:Operand} {k off:Nat}:Does P c ⟨some d,.nilCheck x,ty,pos,af,gd⟩ ⟨[(x,.own (.ptr k off))],[],some (d,some (.own (.ptr k off))),[],[]⟩:=
 Does.value rfl fun g h al a w η hrd _ s=>by
  obtain ⟨h0,h1⟩:=xa7 s hrd.1;have h0':a.eval x= .pointer (some ⟨η.b k,off,none⟩):=h0;exact ⟨_,w,by simp only [execOp,h0',zbv],Ext.refl w,rfl,h1⟩
theorem qb8 {x:Operand} {n:Nat} {agg:Bool} {t:Ty}:Does P c ⟨some d,.nilCheck x,ty,pos,af,gd⟩ ⟨[(x,.val (tP n agg t))],[],some (d,some (.val (tP n agg t))),[],[]⟩:=
 Does.value rfl fun g h al a w η hrd _ s=>by
  obtain ⟨b,o,u,h1,h2⟩:=(xa7 s hrd.1).1;have h1':a.eval x= .pointer (some ⟨b,o,none⟩):=h1;exact ⟨_,w,by simp only [execOp,h1',zbv],Ext.refl w,⟨b,o,u,rfl,h2⟩,fun k hk=>by cases hk⟩
theorem St.giveAt {a:Act} {w:World} {t k T es off len:Nat} {agg:Bool} {ts:List Ent} {α:Type} {f:α->Ty} {xs:List α} (hs:St c g h al a w) (hg:g t=some (.own (.sl k es off len))) (hk:h k=some ⟨T,es,agg,ts⟩) (hlb:NoLb c)
  (hts:(ts.drop off).take len=xs.map fun x=> .val (f x)) (hl:xs.length=len):St c (upd g t (some (.val (tL es agg f xs)))) (upd h k none) al a w:=by
 obtain ⟨η,s⟩:=hs;have h2:=s.give hk hlb hts hl (s.slot t _ hg).2.2;have s2:=(s.drop k).put (s.slot t _ hg).1 (e:= .val (tL es agg f xs)) h2 fun j hj=>by cases hj
 refine ⟨η,?_⟩;have e:a.put (some t) (a.tmps.getD t undef)=a:=by
  have hlt:t < a.tmps.size:=by rw [s.tn];exact (s.slot t _ hg).1
  have:a.tmps.setIfInBounds t (a.tmps.getD t undef)=a.tmps:=by
   apply zdp;intro i;rw [zdy];by_cases hi:t=i
   ·subst hi;simp [hlt]
   ·simp [hi]
  simp only [Act.put,this]
 rw [<-e];exact s2
theorem qv0 {α:Type} {f:Nat->Option α} {s:Nat} {x y:Option α}:upd (upd f s x) s y=upd f s y:=by
 funext t;simp only [upd];cases Nat.beq t s <;> rfl
theorem Does.giveL {o:Oper} {rd:List (Operand×Ent)} {kr:List (Nat×HEnt)} {d k T es off len:Nat} {agg:Bool} {ts:List Ent} {α:Type} {f:α->Ty} {xs:List α} (hd:Does P c o ⟨rd,kr,some (d,some (.own (.sl k es off len))),[],[]⟩) (hlb:NoLb c)
  (hts:(ts.drop off).take len=xs.map fun x=> .val (f x)) (hl:xs.length=len):Does P c o ⟨rd,(k,⟨T,es,agg,ts⟩)::kr,some (d,some (.val (tL es agg f xs))),[(k,none)],[]⟩:=by
 intro g h al a w hp hs;refine Oper.wpIn_mono (fun a' w' hs'=> ?_) (hd g h al a w ⟨hp.rd,hp.kr.2,hp.nk,fun x hx=>by cases hx;exact hp.d (d,some (.val (tL es agg f xs))) rfl⟩ hs);have:=St.giveAt hs' (x6 _ _ _) hp.kr.1 hlb hts hl;simp only [Eff.g,qv0] at this;exact this
theorem xm7 {T E by_ n:Nat} {z:Value} {k:IntKind} {ps:List (Nat×Operand)} (ys:List Nat) (sl:P.underlying T=some (.slice E)) (el:ElI P E 1 by_ false z) (hz:Flat 1 false z)
  (hp:ps.map (·.1)=List.range n) (hy:ys.length=n) (hlen:Nat.ble n 16777216=true):
  Does P c ⟨some d,.buildSlice T n ps.toArray,ty,pos,af,gd⟩ ⟨(ps.map (·.2)).zip (ys.map fun y:Nat=>Ent.val (tE (.int k (y:Int)))),[],some (d,some (.val (tL 1 false (fun y:Nat=>tE (.int k (y:Int))) ys))),[],[]⟩:=by
 have:=zn8 (c:=c) (d:=d) (ty:=ty) (pos:=pos) (af:=af) (gd:=gd) (f:=fun y:Nat=>tE (.int k (y:Int))) (ts:=ys.map fun y:Nat=>tE (.int k (y:Int))) ys sl el hz rfl (fun _=>inferInstance) hp (by simpa using hy) hy (by simpa using hlen)
  (by intro i t y h1 h2;rw [zbp,h2] at h1;cases h1;exact zao)
 rw [List.map_map] at this;exact this
end
theorem ye2 {k:IntKind} {p w q:List Nat} {i:Nat} (h:i < w.length):(rW k (p++(w++q)))[p.length+i]? =some (.val (tE (.int k ((w.getD i 0:Nat):Int)))):=by
 rw [rW,zbp,zds (by omega),show p.length+i - p.length=i by omega,zda h,zbh,zbk h];rfl
theorem zp7 {k:IntKind} {p w q:List Nat} {i:Nat} (h:i < w.length):Nat.blt (p.length+i) (rW k (p++(w++q))).length=true:=by
 rw [xp6,zck,zck];have:p.length+i < p.length+(w.length+q.length):=by omega
 simpa [Nat.blt_eq] using this
theorem zd9 {k:IntKind} {p w q:List Nat} {i m:Nat} {v:Int} (h:v=(m:Int)) (hi:i < w.length):(rW k (p++(w++q))).set (p.length+i) (.val (tE (.int k v)))=rW k (p++(w.set i m++q)):=by
 subst h;rw [rW,rW,<-List.map_set (f:=fun n:Nat=>Ent.val (tE (.int k (n:Int)))),List.set_append_right _ _ (by omega),show p.length+i - p.length=i by omega,List.set_append_left _ _ hi]
theorem xp2 {P:Program} {c:Base} {g:Slots} {h:Keys} {al:Names} {Q:Exit->Act->World->Prop} {x:Code} {k:Nat} {e e':HEnt} (hk:h k=some e) (he:e=e') (H:wc P c x Q g (upd h k (some e')) al):wc P c x Q g h al:=by
 subst he;have:upd h k (some e)=h:=by
  funext j;by_cases hj:j=k
  ·subst hj;rw [x6,hk]
  ·rw [x4 _ _ _ hj]
 rw [this] at H;exact H
theorem leNil {α:Type} {es:Nat} {agg:Bool} {f:α->Ty} {xs:List α} (h:xs=[]):Le (tE (.slice none 0 0)) (tL es agg f xs):=fun F w v hv=>by
 subst h;have hv:v= .slice none 0 0:=hv;exact ⟨none,0,hv,zbm _,by decide,.inl rfl⟩
section
variable {P:Program} {c:Base} {g:Slots} {h:Keys} {al:Names} {Q:Exit->Act->World->Prop}
theorem xa5 {A:Array Oper} {rest:List Oper} {dst:Option Nat} {op:Op} {ty:Nat} {pos:String} {af:Array Edge} {E:Eff} (hd:Does P c ⟨dst,op,ty,pos,af,none⟩ E) (h1:Rd g E.rd) (h2:Kr h E.kr) (h3:Nk al E.nk) (hN:dOk c.N [E.sm]=true)
  (H:wl P c A Q rest (E.g g) (E.h h) (E.al al)):wl P c A Q (⟨dst,op,ty,pos,af,none⟩::rest) g h al:=
 xu5 [⟨dst,op,ty,pos,af,none⟩] (rest:=rest) ⟨E,DoesR.of rfl hd,⟨h1,h2,h3⟩,hN,H⟩
end
theorem yi3 {P:Program} {c1 c2:Base} {x y:Code} {Q:Exit->Act->World->Prop} {g:Slots} {h:Keys} {al:Names} {g1:Slots} {h1:Keys} {al1:Names} (hx:wc P c1 x (Exit.then (fun a w=>St c1 g1 h1 al1 a w) (fun _ _ _=>False)) g h al) (hy:wc P c2 y Q g1 h1 al1):
  ∃g1 h1 al1,wc P c1 x (Exit.then (fun a w=>St c1 g1 h1 al1 a w) (fun _ _ _=>False)) g h al/\wc P c2 y Q g1 h1 al1:=⟨g1,h1,al1,hx,hy⟩
class SumF (fs:List Fd) (n:outParam Nat):Prop where
  sum:Fd.sum fs=n
instance:SumF [] 0:=⟨rfl⟩
instance {n m:Nat} {agg:Bool} {t:Ty} {r:List Fd} [h:SumF r m]:SumF (⟨n,agg,t⟩::r) (n+m):=⟨by simp only [Fd.sum,h.sum]⟩
class EqN (m n:Nat):Prop where
  eq:m=n
instance {n:Nat}:EqN n n:=⟨rfl⟩
instance {fs:List Fd} {n m:Nat} [h1:ShapeF fs] [h2:SumF fs m] [h3:EqN m n]:Shape (tS fs) n true:=ShS (h2.sum.trans h3.eq)
section
variable {P:Program} {c:Base} {g:Slots} {h:Keys} {al:Names} {A:Array Oper} {K:List Sm->Slots->Keys->Names->Prop} {rest:List Oper} {sms:List Sm} {ty d:Nat} {pos:String} {af:Array Edge}
theorem xj6 {T T0 es k p n o:Nat} {agg':Bool} {x:Operand} {ts:List Ent} {t t':Ty} (i:Nat) (ti:TyI P T n agg') (hx:look g x=some (.own (.ptr k p))) (hk:h k=some ⟨T0,es,true,ts⟩) (hi:ts[i]? =some (.val t)) (hat:At t o n agg' t') (hp:i*es+o=p)
  (H:RSeq P c A K rest (sms++[⟨slotsOf [(x,.own (.ptr k p))],some d,[k],[],[]⟩]) (upd g d (some (.val t'))) h al):RSeq P c A K (⟨some d,.load T x,ty,pos,af,none⟩::rest) sms g h al:=
 RE (yt9 i ti hi hat hp) ⟨hx,trivial⟩ ⟨hk,trivial⟩ trivial H
theorem xg1 {T T0 es k p n o:Nat} {agg':Bool} {x:Operand} {ts:List Ent} {t t':Ty} {j q:Nat} {want b:Bool} (hb:b=want) (hj:(A[j]?).bind (·.dst)=some q) (hq:g q=some (.val (tB b))) (i:Nat) (ti:TyI P T n agg') (hx:look g x=some (.own (.ptr k p))) (hk:h k=some ⟨T0,es,true,ts⟩) (hi:ts[i]? =some (.val t)) (hat:At t o n agg' t') (hp:i*es+o=p)
  (H:RSeq P c A K rest (sms++[⟨q::slotsOf [(x,.own (.ptr k p))],some d,[k],[],[]⟩]) (upd g d (some (.val t'))) h al):RSeq P c A K (⟨some d,.load T x,ty,pos,af,some (j,want)⟩::rest) sms g h al:=
 RGon hb hj (yt9 i ti hi hat hp) hq ⟨hx,trivial⟩ ⟨hk,trivial⟩ trivial H
theorem yf8 {T T0 es k p n o:Nat} {agg':Bool} {x y:Operand} {ts ts':List Ent} {t t' t2:Ty} (i:Nat) (ti:TyI P T n agg') (hx:look g x=some (.own (.ptr k p))) (hy:look g y=some (.val t')) (hk:h k=some ⟨T0,es,true,ts⟩) (hi:ts[i]? =some (.val t)) (hup:Up t o n agg' t' t2) (hp:i*es+o=p) (hts:ts.set i (.val t2)=ts') [he:Shape t' n agg']
  (H:RSeq P c A K rest (sms++[⟨slotsOf [(x,.own (.ptr k p)),(y,.val t')],none,[k],[k],[]⟩]) g (upd h k (some ⟨T0,es,true,ts'⟩)) al):RSeq P c A K (⟨none,.store T x y,ty,pos,af,none⟩::rest) sms g h al:=
 RE (yk6 i ti hi hup hp hts) ⟨hx,hy,trivial⟩ ⟨hk,trivial⟩ trivial H
end
theorem At.g {fs:List Fd} (i:Nat) {n o:Nat} {agg:Bool} {t:Ty} (hi:fs[i]? =some ⟨n,agg,t⟩) (ho:Fd.off fs i=o):At (tS fs) o n agg t:=At.f i hi ho
theorem Up.g {fs:List Fd} (i:Nat) {n o:Nat} {agg:Bool} {t t':Ty} (hi:fs[i]? =some ⟨n,agg,t⟩) (ho:Fd.off fs i=o) {fs':List Fd} (hfs:fs.set i ⟨n,agg,t'⟩=fs'):Up (tS fs) o n agg t' (tS fs'):=Up.f i hi ho hfs
section
variable {P:Program} {c:Base} {g:Slots} {h:Keys} {al:Names} {Q:Exit->Act->World->Prop} {a:Act} {w:World} {η:Env}
theorem zz7 {k:Nat} {x x':HEnt} (hk:h k=some x) {b:Nat} (hb:Own (upd h k (some x')) η b):Own h η b:=by
 obtain ⟨j,y,hj,hc,rfl⟩:=hb;by_cases hjk:j=k
 ·subst hjk;exact ⟨j,x,hk,hc,rfl⟩
 ·rw [x4 _ _ _ hjk] at hj;exact ⟨j,y,hj,hc,rfl⟩
theorem St'.same (s:St' c g h al a w η) {k:Nat} {x x':HEnt} (hk:h k=some x) (hT:x'.T=x.T) (hsup: ∀j∈x'.supp,al j=true) (hsat:x'.sat (c.dom h η) w η k):St' c g (upd h k (some x')) al a w η:=by
 have hsome: ∀j y,upd h k (some x') j=some y-> ∃z,h j=some z:=fun j y hy=>by
  by_cases hjk:j=k
  ·subst hjk;exact ⟨x,hk⟩
  ·rw [x4 _ _ _ hjk] at hy;exact ⟨y,hy⟩
 refine s.turn (fun _ hj=>hj) (fun _ _=>⟨rfl,rfl⟩) rfl (Stp.refl _ _) (fun b hb=>⟨s.olt (zz7 hk hb),.inl (zz7 hk hb)⟩) ?_ ?_ ?_
 ·intro j y hy hK;by_cases hjk:j=k
  ·subst hjk;rw [x6] at hy;cases hy;exact ⟨(s.key j x hk).1,hsup,HEnt.sat_go hsat (fun _=>rfl) hK ⟨rfl,rfl⟩ fun _ _=>⟨rfl,rfl⟩⟩
  ·rw [x4 _ _ _ hjk] at hy;obtain ⟨h1,h2,h3,_⟩:=s.key j y hy;exact ⟨h1,h2,HEnt.sat_go h3 (fun _=>rfl) hK ⟨rfl,rfl⟩ fun _ _=>⟨rfl,rfl⟩⟩
 ·intro j j' y y' hy hy' hne hc hc';obtain ⟨z,hz⟩:=hsome j y hy;obtain ⟨z',hz'⟩:=hsome j' y' hy';exact s.inj j j' z z' hz hz' hne hc hc'
 ·intro j y hj hy;by_cases hjk:j=k
  ·subst hjk;rw [x6] at hy;cases hy;exact ⟨x,hk,hT.symm⟩
  ·rw [x4 _ _ _ hjk] at hy;exact ⟨y,hy,rfl⟩
theorem jo2 {x:Code} {k T es:Nat} {agg:Bool} {ι:Type} {pre:ι->Prop} {f:ι->Ty} (hk:h k=some ⟨T,es,agg,[.val (tX pre f)]⟩) (H: ∀i,pre i->wc P c x Q g (upd h k (some ⟨T,es,agg,[.val (f i)]⟩)) al):wc P c x Q g h al:=by
 rintro a w ⟨η,s⟩;obtain ⟨k1,k2,⟨k3,k4,k5,k6,k7⟩,_⟩:=s.key k _ hk;have k3:1<=η.c k:=k3;obtain ⟨cs,m1,m2,m3⟩:=k7 (by omega);obtain ⟨i,hi,hp⟩:=m3 0 _ rfl;refine H i hi a w ⟨η,s.same hk rfl (fun j hj=>by simp [HEnt.supp,Ent.supp] at hj) ⟨k3,k4,k5,k6,fun _=>⟨cs,m1,m2,fun n e he=> ?_⟩⟩⟩;cases n with
 | zero=>simp only [zcm,zca] at he;subst he;exact hp
 | succ n=>simp at he
instance {ι:Type} {pre:ι->Prop} {f:ι->Ty} {n:Nat} {agg:Bool} [h: ∀i,Shape (f i) n agg]:Shape (tX pre f) n agg:=⟨fun ⟨i,_,hp⟩=>(h i).flat hp⟩
end
section
variable {P:Program} {c:Base} {d ty:Nat} {pos:String} {af:Array Edge} {gd:Option (Nat×Bool)}
theorem xb6 {T E es by_ n:Nat} {agg:Bool} {z:Value} {α:Type} {f:α->Ty} {ps:List (Nat×Operand)} (ys:List α) (sl:P.underlying T=some (.slice E)) (el:ElI P E es by_ agg z) (hz:Flat es agg z) (h0:Nat.blt 0 es=true) (hs: ∀y,Shape (f y) es agg)
  (hp:ps.map (·.1)=List.range n) (hy:ys.length=n) (hlen:Nat.ble (n*es) 16777216=true):
  Does P c ⟨some d,.buildSlice T n ps.toArray,ty,pos,af,gd⟩ ⟨(ps.map (·.2)).zip (ys.map fun y=>Ent.val (f y)),[],some (d,some (.val (tL es agg f ys))),[],[]⟩:=by
 have:=zn8 (c:=c) (d:=d) (ty:=ty) (pos:=pos) (af:=af) (gd:=gd) (f:=f) (ts:=ys.map f) ys sl el hz h0 hs hp (by simpa using hy) hy hlen
  (by intro i t y h1 h2;rw [zbp,h2] at h1;cases h1;exact zao)
 rw [List.map_map] at this;exact this
theorem Ct.ofG {f:FuncId} {t:Ty} {k es T n:Nat} {agg:Bool} {α:Type} {fx:α->Ty} {xs:List α} (h:CtG P f [] [.val t] (.own (.sl k es 0 n)) [(k,⟨T,es,agg,xs.map fun x=> .val (fx x)⟩)] [k]) (hl:xs.length=n):Ct P f [t] (tL es agg fx xs):=by
 intro F w vs hvs;cases vs with
 | nil=>exact hvs.elim
 | cons v r=>
  cases r with
  | cons _ _=>exact hvs.2.elim
  | nil=>
   refine zfc (h F w ⟨fun _=>0,fun _=>0,fun _=>False⟩ [v] ⟨hvs.1,trivial⟩ (fun x hx=>by cases hx) (fun x hx=>by cases hx) (fun b _ hb=>by obtain ⟨x,hx,_⟩:=hb;cases hx)) ?_;rintro e w' ⟨u,η',he,ho⟩;refine ⟨u,he,⟨ho.stp.os,ho.stp.tape,ho.stp.output,ho.stp.size,fun b hb=>ho.stp.block b hb fun hk=>by obtain ⟨x,hx,_⟩:=hk;cases hx⟩,?_⟩;obtain ⟨A,h1,h2,h3⟩:=ho.res;have hk:=ho.keys _ (zbq.2 rfl);obtain ⟨k1,k2,k3,k4,k5⟩:=hk;have k1:xs.length<=η'.c k:=by simpa using k1
   refine ⟨A,η'.c k - 0,by rw [h1,hl],by omega,by omega,?_⟩;cases xs with
   | nil=>exact .inl rfl
   | cons x0 xr=>
    have hc:0 < η'.c k:=by simp at k1;omega
    obtain ⟨cs,m1,m2,m3⟩:=k5 hc;have hA:=h3 (by omega);refine .inr ⟨η'.b k,0*es,hA,?_,?_⟩
    ·rcases ho.new (η'.b k) ⟨_,zbq.2 rfl,hc,rfl⟩ with hh | hh
     ·obtain ⟨x,hx,_⟩:=hh;cases hx
     ·exact .inl hh
    ·intro i x hi;have hm:=m3 i (.val (fx x)) (by rw [zbp,hi];rfl);have hlt:i < (x0::xr).length:=(zbi.1 hi).1;refine ⟨_,⟨cs,T,(0,0),m1,?_,k2,k3,rfl⟩,?_⟩
     ·have h5:(i+1)*es<=η'.c k*es:=zbr _ (by omega);rw [zch,zfi] at h5;rw [m2,zfa,zcj];exact h5
     ·rw [zfa,zcj];exact (fx x).mono hm fun b o hb hl _=>⟨hb.1,hl⟩
end
theorem zk0 {P:Program} {c:Base} {d ty:Nat} {pos:String} {af:Array Edge} {gd:Option (Nat×Bool)} {f:FuncId} {x:Operand} {xs:List Operand} {aT:Array TypeId} {ts:List Ty} {r:Ty} (hc:Ct P f ts r) (hf:FnI P f) (hl:xs.length=ts.length):
  Does P c ⟨some d,.call {callee:= .value x,args:=xs.toArray,argTypes:=aT},ty,pos,af,gd⟩ ⟨(x,.val (tE (.func (.func f) #[] #[])))::xs.zip (ts.map Ent.val),[],some (d,some (.val r)),[],[]⟩:=by
 intro g h al a w hp ⟨η,s⟩;obtain ⟨fn,h1,h2,h3⟩:=hf;have hargs:=Tup.all_of s xs ts hp.rd.2 hl;have hv:a.eval x= .func (.func f) #[] #[]:=(xa7 s hp.rd.1).1;have hrun:(execOp a.eval ⟨some d,.call {callee:= .value x,args:=xs.toArray,argTypes:=aT},ty,pos,af,gd⟩).run P w= .ok (.enter f (xs.map a.eval).toArray) w:=by
  simp only [execOp,resolve,hv,Deferred.ofValue,zbu,zbv,zbo,invoke];simp only [zeu,zef,zdn];exact xe7 h1 h2 h3 _ w
 refine xh4 hrun (zfc (hc (c.dom h η) w (xs.map a.eval) hargs) ?_);rintro e w' ⟨v,rfl,hext,hr⟩;refine ⟨v,rfl,η,(s.ext hext).put (hp.d _ rfl) (e:= .val r) (r.mono hr fun b o hb hl _=>⟨?_,hl⟩) (fun k hk=>by cases hk)⟩;rcases hb with hb | hb
 ·refine ⟨.inl (zce s.fr.size hb),fun ho=> ?_,fun hv=> ?_,fun hv=> ?_⟩
  ·have:=s.olt ho;omega
  ·have:=(s.fr.vnew b hv).1;omega
  ·have:=s.vol b hv;omega
 ·exact hb
section
variable {P:Program} {c:Base} {g:Slots} {h:Keys} {al:Names} {A:Array Oper} {K:List Sm->Slots->Keys->Names->Prop} {rest:List Oper} {sms:List Sm} {dst:Option Nat} {op:Op} {ty:Nat} {pos:String} {af:Array Edge}
end
theorem qn3 {P:Program} {c:Base} {d ty:Nat} {pos:String} {af:Array Edge} {gd:Option (Nat×Bool)} {T E len:Nat} {x y:Operand} {k:IntKind} {i:Int} {cs:Array Value} {v:Value} (n:Nat) (hu:P.underlying T=some (.array len E)) (ti:TyI P E 1 false) (hi:i=(n:Int)) (hn:n < len) (hv:cs[n]? =some v):
  Does P c ⟨some d,.index T x y,ty,pos,af,gd⟩ ⟨[(x,.val (tE (.agg cs))),(y,.val (tE (.int k i)))],[],some (d,some (.val (tE v))),[],[]⟩:=
 Does.value rfl fun g h al a w η hrd _ s=>by
  have h1:a.eval x= .agg cs:=(xa7 s hrd.1).1;have h2:a.eval y= .int k i:=(xa7 s hrd.2.1).1;subst hi;refine ⟨v,w,?_,Ext.refl w,rfl,fun k hk=>by cases hk⟩;simp only [execOp,h1,h2,Instr.index,asIntOf,zbu,zbv,zbo,zde hu];rw [if_pos ⟨by omega,by omega⟩];simp only [part,zbu,ti.size_run w,ti.agg_run w,zbo,Int.toNat_natCast,zfr,hv,zbv,zep,↓reduceIte]
theorem z6 {P:Program} {c:Base} {d ty:Nat} {pos:String} {af:Array Edge} {gd:Option (Nat×Bool)} {T:TypeId} {ps:List (Nat×Operand)} {vs:List Value} {r:Value} (hl:ps.length=vs.length) (hb: ∀w,(Instr.build T ((ps.map (·.1)).zip vs).toArray).run P w= .ok r w):
  Does P c ⟨some d,.build T ps.toArray,ty,pos,af,gd⟩ ⟨(ps.map (·.2)).zip (vs.map fun v=>Ent.val (tE v)),[],some (d,some (.val (tE r))),[],[]⟩:=
 Does.value rfl fun g h al a w η hrd _ s=>by
  have key: ∀(ps:List (Nat×Operand)) (vs:List Value),ps.length=vs.length->Rd g ((ps.map (·.2)).zip (vs.map fun v=>Ent.val (tE v)))->ps.map (fun x=>(x.1,a.eval x.2))=(ps.map (·.1)).zip vs:=by
   intro ps
   induction ps with
   | nil=>intro vs hl _;cases vs with | nil=>rfl | cons _ _=>cases hl
   | cons p r ih=>
    intro vs hl hr;cases vs with
    | nil=>cases hl
    | cons v vr=>
     have h1:a.eval p.2=v:=(xa7 s hr.1).1;simp only [zcx,List.zip_cons_cons,h1,ih vr (by simpa using hl) hr.2]
  refine ⟨r,w,?_,Ext.refl w,rfl,fun k hk=>by cases hk⟩;have hk:=key ps vs hl hrd;simp only [execOp,zdn];rw [show (ps.map fun (x:Nat×Operand)=>(x.1,a.eval x.2))=(ps.map (·.1)).zip vs from hk];simp only [zbu,hb w,zbo,zbv]
theorem shapeE {v:Value} {n:Nat} {agg:Bool} (h:Flat n agg v):Shape (tE v) n agg:=⟨fun hv=>by cases hv;exact h⟩
theorem shapeEE {v:Value} {n:Nat} {agg:Bool} (h:Flat n agg v):ShapeE (.val (tE v)) n agg:=⟨fun hv=>by cases hv;exact h⟩
end An
namespace An
def val (B:Nat):List Nat->Nat
 | []=>0
 | x::xs=>x+B*val B xs
def Dig (B:Nat) (l:List Nat):Prop:= ∀x∈l,x < B
theorem yi6 (B:Nat):val B []=0:=rfl
theorem xk5 (B x:Nat) (xs:List Nat):val B (x::xs)=x+B*val B xs:=rfl
theorem ze2 (B:Nat) (a b:List Nat):val B (a++b)=val B a+B ^ a.length*val B b:=by
 induction a with
 | nil=>simp [val]
 | cons x xs ih=>
  simp only [List.cons_append,xk5,ih,zek,zcc];rw [zct,zfq,<-zdf,zbz B (B ^ xs.length)]
theorem xs4 (B:Nat) (a:List Nat) (x:Nat):val B (a++[x])=val B a+B ^ a.length*x:=by
 rw [ze2];simp [val]
theorem Dig.nil (B:Nat):Dig B []:=by intro x h;cases h
theorem Dig.cons {B x:Nat} {l:List Nat} (h:x < B) (hl:Dig B l):Dig B (x::l):=by
 intro y hy;rcases zbt.1 hy with rfl | hy
 ·exact h
 ·exact hl y hy
theorem Dig.head {B x:Nat} {l:List Nat} (h:Dig B (x::l)):x < B:=h x (by simp)
theorem Dig.tail {B x:Nat} {l:List Nat} (h:Dig B (x::l)):Dig B l:=fun y hy=>h y (by simp [hy])
theorem Dig.append {B:Nat} {a b:List Nat} (ha:Dig B a) (hb:Dig B b):Dig B (a++b):=by
 intro x hx;rcases zbj.1 hx with h | h
 ·exact ha x h
 ·exact hb x h
theorem Dig.left {B:Nat} {a b:List Nat} (h:Dig B (a++b)):Dig B a:=fun x hx=>h x (by simp [hx])
theorem Dig.take {B:Nat} {a:List Nat} (h:Dig B a) (k:Nat):Dig B (a.take k):=fun x hx=>h x (List.mem_of_mem_take hx)
theorem Dig.drop {B:Nat} {a:List Nat} (h:Dig B a) (k:Nat):Dig B (a.drop k):=fun x hx=>h x (List.mem_of_mem_drop hx)
theorem Dig.getD {B:Nat} {a:List Nat} (h:Dig B a) (hB:0 < B) (k:Nat):a.getD k 0 < B:=by
 rw [zbh];cases he:a[k]? with
 | none=>simpa using hB
 | some x=>exact h x (zdc he)
theorem xo8 {B:Nat} {l:List Nat} (h:Dig B l):val B l < B ^ l.length:=by
 induction l with
 | nil=>simp [val]
 | cons x xs ih=>
  have h1:=h.head;have h2:=ih h.tail;rw [xk5,zek,zcc];have:B*(val B xs+1)<=B*B ^ xs.length:=zdh B h2;rw [zct,zbz B (B ^ xs.length)] at this;omega
theorem zp2 (B:Nat) (l:List Nat) (k:Nat) (hk:k<=l.length):val B l=val B (l.take k)+B ^ k*val B (l.drop k):=by
 have h:=ze2 B (l.take k) (l.drop k);rw [List.take_append_drop,zcz,zgb hk] at h;exact h
theorem xh8 (l:List Nat) (k:Nat) (hk:k < l.length):l.take (k+1)=l.take k++[l.getD k 0]:=by
 rw [zcn hk,zbh,zbk hk];rfl
theorem xe6 (B:Nat) (l:List Nat) (k:Nat) (hk:k < l.length):val B (l.take (k+1))=val B (l.take k)+B ^ k*l.getD k 0:=by
 rw [xh8 l k hk,xs4,zcz,zgb (by omega)]
theorem qp2 (l:List Nat) (k:Nat) (hk:k < l.length):l.drop k=l.getD k 0::l.drop (k+1):=by
 rw [List.drop_eq_getElem_cons hk,zbh,zbk hk];rfl
theorem xj7 (B:Nat) (l:List Nat) (k:Nat) (hk:k < l.length):val B (l.drop k)=l.getD k 0+B*val B (l.drop (k+1)):=by
 rw [qp2 l k hk,xk5]
theorem xg6 (B n:Nat):val B (List.replicate n 0)=0:=by
 induction n with
 | zero=>rfl
 | succ n ih=>rw [List.replicate_succ,xk5,ih];simp
def dig (B n:Nat):List Nat:=
 if _h:2<=B/\0 < n then n%B::dig B (n / B) else []
termination_by n
decreasing_by exact Nat.div_lt_self _h.2 _h.1
theorem xc4 (B:Nat):dig B 0=[]:=by rw [dig];simp
theorem xk7 {B n:Nat} (hB:2<=B) (hn:0 < n):dig B n=n%B::dig B (n / B):=by rw [dig];simp [hB,hn]
theorem xk4 {B:Nat} (hB:2<=B) (n:Nat):val B (dig B n)=n:=by
 induction n using Nat.strongRecOn with
 | _ n ih=>
  rcases zcg n with rfl | hn
  ·rw [xc4];rfl
  ·rw [xk7 hB hn,xk5,ih _ (Nat.div_lt_self hn hB)];exact Nat.mod_add_div n B
theorem xc3 {B:Nat} (hB:2<=B) (n:Nat):Dig B (dig B n):=by
 induction n using Nat.strongRecOn with
 | _ n ih=>
  rcases zcg n with rfl | hn
  ·rw [xc4];exact Dig.nil B
  ·rw [xk7 hB hn];exact Dig.cons (zcd _ (by omega)) (ih _ (Nat.div_lt_self hn hB))
theorem xe2 {B n:Nat} (hB:2<=B):dig B n=[]↔n=0:=by
 constructor
 ·intro h;rcases zcg n with rfl | hn
  ·rfl
  ·rw [xk7 hB hn] at h;simp at h
 ·rintro rfl;exact xc4 B
def Top (l:List Nat):Prop:= ∀x,l.getLast? =some x->x≠0
theorem qd1 {B:Nat} (hB:2<=B) (n:Nat):Top (dig B n):=by
 induction n using Nat.strongRecOn with
 | _ n ih=>
  rcases zcg n with rfl | hn
  ·rw [xc4];intro x h;simp at h
  ·rw [xk7 hB hn];intro x hx;rcases zcg (n / B) with h0 | h0
   ·rw [h0,xc4] at hx;simp only [List.getLast?_singleton,zca] at hx;have:=Nat.mod_add_div n B;rw [h0] at this;intro hx0;rw [<-hx] at hx0;rw [hx0] at this;simp at this;omega
   ·rw [xk7 hB h0,List.getLast?_cons_cons,<-xk7 hB h0] at hx;exact ih _ (Nat.div_lt_self hn hB) x hx
theorem yo8 {B:Nat} (hB:2<=B) {l:List Nat} (h:Dig B l) (ht:Top l):dig B (val B l)=l:=by
 induction l with
 | nil=>rw [yi6,xc4]
 | cons x xs ih=>
  have hx:=h.head;have htt:Top xs:=by
   intro y hy;cases xs with
   | nil=>simp at hy
   | cons z zs=>exact ht y (by rw [List.getLast?_cons_cons];exact hy)
  have ih':=ih h.tail htt;have hpos:0 < val B (x::xs):=by
   rw [xk5];rcases zcg (val B xs) with h0 | h0
   ·rw [h0,xc4] at ih';subst ih';have:=ht x (by simp);omega
   ·have:0 < B*val B xs:=Nat.mul_pos (by omega) h0;omega
  have hmod:(x+B*val B xs)%B=x:=by rw [zfs];exact zbx hx
  have hdiv:(x+B*val B xs) / B=val B xs:=by rw [zeb _ _ (by omega)];rw [zcv hx];simp
  rw [xk7 hB hpos,xk5,hmod,hdiv,ih']
theorem yn1 {B:Nat} (hB:2<=B) (n k:Nat):(dig B n).length<=k↔n < B ^ k:=by
 induction k generalizing n with
 | zero=>
  rw [Nat.le_zero,zco,xe2 hB];simp
 | succ k ih=>
  rcases zcg n with rfl | hn
  ·rw [xc4];simp;exact zcu (by omega)
  ·rw [xk7 hB hn,zek,Nat.add_le_add_iff_right,ih,zcc,Nat.div_lt_iff_lt_mul (by omega)]
theorem zg6 {B:Nat} (hB:2<=B) (n:Nat):n < B ^ (dig B n).length:=(yn1 hB n _).1 (zbm _)
theorem xd4 {B:Nat} (hB:2<=B) {m n:Nat} (h:m<=n):(dig B m).length<=(dig B n).length:=
 (yn1 hB m _).2 (zfu h (zg6 hB n))
def trimL (l:List Nat):List Nat:=(l.reverse.dropWhile (· ==0)).reverse
theorem xu6 (l:List Nat):trimL (l++[0])=trimL l:=by simp [trimL]
theorem yh5 {l:List Nat} (h:Top l):trimL l=l:=by
 rcases List.eq_nil_or_concat l with rfl | ⟨a,x,rfl⟩
 ·rfl
 ·have hx:x≠0:=h x (by simp);simp [trimL,hx]
theorem xe8 {B:Nat} (hB:2<=B) {l:List Nat} (h:Dig B l):trimL l=dig B (val B l):=by
 generalize hn:l.length=n
 induction n generalizing l with
 | zero=>
  have:l=[]:=zco.1 hn;subst this;rw [yi6,xc4];rfl
 | succ n ih=>
  rcases List.eq_nil_or_concat l with rfl | ⟨a,x,rfl⟩
  ·simp at hn
  ·rcases zcg x with rfl | hx
   ·simp only [List.concat_eq_append] at*
    rw [xu6,ih h.left (by simpa using hn),xs4];simp
   ·have ht:Top (a.concat x):=by intro y hy;simp at hy;omega
    rw [yh5 ht,yo8 hB h ht]
theorem zq4 {B:Nat} (hB:0 < B) {l:List Nat} (h:Dig B l) (i:Nat):l.getD i 0=val B l / B ^ i%B:=by
 have hp:0 < B ^ i:=zcu hB;rcases zcs i l.length with hi | hi
 ·have h1:=zp2 B l i (by omega);have h2:=xj7 B l i hi;have h3:val B (l.take i) < B ^ i:=by
   have:=xo8 (h.take i)
   rwa [zcz,zgb (by omega)] at this
  rw [h1,zeb _ _ hp,zcv h3,zcj,h2,zfs,zbx (h.getD hB i)]
 ·have h3:val B l < B ^ i:=zby (xo8 h) (Nat.pow_le_pow_right hB hi);rw [zcv h3,Nat.zero_mod,zbh,zcp hi];rfl
theorem xc1 {B:Nat} (hB:2<=B) (v i:Nat):(dig B v).getD i 0=v / B ^ i%B:=by
 rw [zq4 (by omega) (xc3 hB v),xk4 hB]
def dgs (B n v:Nat):List Nat:=(List.range n).map fun j=>v / B ^ j%B
theorem xg7 (B n v:Nat):(dgs B n v).length=n:=by simp [dgs]
theorem xj9 (B n v:Nat):dgs B (n+1) v=dgs B n v++[v / B ^ n%B]:=by simp [dgs,List.range_succ]
theorem je3 (B v:Nat):dgs B 0 v=[]:=rfl
theorem xw0 {B n v i:Nat} (hi:i < n):(dgs B n v).getD i 0=v / B ^ i%B:=by
 rw [zbh];simp [dgs,hi]
theorem yu2 {B:Nat} (hB:0 < B) (n v:Nat):Dig B (dgs B n v):=fun x hx=>by
 obtain ⟨j,_,rfl⟩:=zcb.1 hx;exact zcd _ hB
theorem xz3 (B n v:Nat):val B (dgs B n v)=v%B ^ n:=by
 induction n with
 | zero=>simp [dgs,val,Nat.mod_one]
 | succ n ih=>rw [xj9,xs4,ih,xg7,zcc,Nat.mod_mul]
theorem j6 {B:Nat} (hB:2<=B) {n v:Nat} (h:v < B ^ n):trimL (dgs B n v)=dig B v:=by
 rw [xe8 hB (yu2 (by omega) n v),xz3,zbx h]
theorem qt9 (B n:Nat):dgs B n 0=List.replicate n 0:=by
 apply List.ext_getElem
 ·simp [dgs]
 ·intro i h1 h2;simp [dgs]
theorem yu8 {B:Nat} (hB:0 < B) {l:List Nat} (h:Dig B l):dgs B l.length (val B l)=l:=by
 apply List.ext_getElem
 ·simp [dgs]
 ·intro i h1 h2;have:=zq4 hB h i;rw [zbh,zbk h2] at this;simp only [dgs,List.getElem_map,List.getElem_range];exact this.symm
theorem xo4 {B:Nat} (hB:2<=B) (v:Nat):dgs B (dig B v).length v=dig B v:=by
 have:=yu8 (by omega) (xc3 hB v)
 rwa [xk4 hB] at this
theorem qp1 {B n u v:Nat} (h:u%B ^ n=v%B ^ n):dgs B n u=dgs B n v:=by
 apply List.ext_getElem
 ·simp [dgs]
 ·intro i h1 h2;have hi:i < n:=by simpa [dgs] using h1
  simp only [dgs,List.getElem_map,List.getElem_range];have key: ∀x:Nat,x / B ^ i%B=x%B ^ n / B ^ i%B:=fun x=>by
   have e:B ^ n=B ^ i*(B*B ^ (n - i - 1)):=by
    rw [<-zdf,<-zcc,<-zew];congr 1;omega
   rw [e,Nat.mod_mul_right_div_self,Nat.mod_mul_right_mod]
  rw [key u,key v,h]
theorem xb3 {B:Nat} (hB:2<=B) (v n:Nat):(dig B v).length<=n↔v < B ^ n:=yn1 hB v n
theorem xg9 {B:Nat} (hB:2<=B) (v:Nat):v < B ^ (dig B v).length:=(xb3 hB v _).1 (zbm _)
theorem zh9 {B:Nat} (hB:2<=B) {v:Nat} (h:0 < v):0 < (dig B v).length:=by
 rcases zcg (dig B v).length with h0 | h0
 ·have:=xg9 hB v;rw [h0] at this;simp at this;omega
 ·exact h0
theorem qk4 {B:Nat} (hB:2<=B) {v:Nat} (h:0 < v):B ^ ((dig B v).length - 1)<=v:=by
 rcases zcs v (B ^ ((dig B v).length - 1)) with h1 | h1
 ·have:=(xb3 hB v _).2 h1;have:=zh9 hB h;omega
 ·exact h1
theorem jn5 {B n u v j:Nat} (h: ∀i,i < n->i≠j->u / B ^ i%B=v / B ^ i%B) {d:Nat} (hd:v / B ^ j%B=d):(dgs B n u).set j d=dgs B n v:=by
 apply List.ext_getElem
 ·simp [dgs]
 ·intro i h1 h2;have hi:i < n:=by simpa [dgs] using h2
  rw [List.getElem_set];split
  ·rename_i e;subst e;simp [dgs,hd]
  ·rename_i e;simp [dgs,h i hi (fun e'=>e e'.symm)]
theorem zt9 {x e B:Nat} (h:x%B+e < B):(x+e) / B=x / B:=by
 have h1:=zdg x B;have hB:0 < B:=by omega
 have h2:x+e=(x%B+e)+B*(x / B):=by omega
 rw [h2,zeb _ _ hB,zcv h,zcj]
theorem jj1 {B n u j e:Nat} (hB:0 < B) (he:u / B ^ j%B+e < B):(dgs B n u).set j (u / B ^ j%B+e)=dgs B n (u+e*B ^ j):=by
 have hp: ∀i,0 < B ^ i:=fun i=>zcu hB;refine jn5 (fun i _ hne=> ?_) ?_
 ·rcases zcs i j with hlt | hge
  ·have e1:B ^ j=B ^ i*(B*B ^ (j - i - 1)):=by
    rw [<-zdf,<-zcc,<-zew];congr 1;omega
   rw [e1,show e*(B ^ i*(B*B ^ (j - i - 1)))=B ^ i*(B*(e*B ^ (j - i - 1))) by rw [Nat.mul_left_comm,Nat.mul_left_comm e B],zeb _ _ (hp i),zfs]
  ·have e1:B ^ i=B ^ j*(B*B ^ (i - j - 1)):=by
    rw [<-zdf,<-zcc,<-zew];congr 1;omega
   rw [e1,<-zdi,<-zdi,<-zdi,<-zdi,zbz e,zeb _ _ (hp j),zt9 he]
 ·rw [zbz e,zeb _ _ (hp j),Nat.add_mod];rw [zbx (show e < B by omega),zbx he]
end An
namespace An
open Go
theorem zn0 (i:Nat):65536 ^ i=4294967296 ^ (i / 2)*65536 ^ (i%2):=by
 have h:(4294967296:Nat)=65536 ^ 2:=by decide
 rw [h,<-Nat.pow_mul,<-zew];congr 1;omega
theorem shl16 {x i:Nat} (hx:x < 65536):IntKind.u32.wrap ((x:Int)*2 ^ (min (16*((i:Int)%2)).toNat IntKind.u32.bits))=((x*65536 ^ (i%2):Nat):Int):=by
 have hb:IntKind.u32.bits=32:=rfl;rcases Nat.mod_two_eq_zero_or_one i with h | h
 ·have e:(16*((i:Int)%2)).toNat=0:=by omega
  rw [e,h];simp;rw [wu32 (by omega) (by omega)]
 ·have e:(16*((i:Int)%2)).toNat=16:=by omega
  rw [e,h,hb];simp;rw [wu32 (by omega) (by omega)]
theorem jq7 {l:List Nat} (hl:Dig 65536 l) (i:Nat) (hi:i<=l.length):val 65536 (l.take i) / 4294967296 ^ (i / 2) < 65536 ^ (i%2):=by
 have h1:=xo8 (hl.take i);rw [zcz,zgb hi,zn0] at h1;exact zdd h1
theorem pow01 (i:Nat):65536 ^ (i%2)=1∨65536 ^ (i%2)=65536:=by
 rcases Nat.mod_two_eq_zero_or_one i with h | h <;> rw [h] <;> simp
theorem zo9 {l:List Nat} (hl:Dig 65536 l) (i:Nat) (hi:i<=l.length):val 65536 (l.take i) / 4294967296 ^ (i / 2)%4294967296 < 65536 ^ (i%2):=by
 have:=jq7 hl i hi;exact zfu (Nat.mod_le _ _) this
theorem jn1 {w x i:Nat} (hw:w < 65536 ^ (i%2)) (hx:x < 65536):bits .or .u32 (w:Int) ((x*65536 ^ (i%2):Nat):Int)=((w+x*65536 ^ (i%2):Nat):Int):=by
 have h2:(65536:Nat) ^ (i%2)=2 ^ (16*(i%2)):=by rw [Nat.pow_mul]
 have hb:IntKind.u32.bits=32:=rfl;have h3:w+x*65536 ^ (i%2) < 4294967296:=by
  rcases pow01 i with h | h <;> rw [h] at hw ⊢ <;> omega
 rw [h2] at hw h3 ⊢;exact qs2 w x (16*(i%2)) rfl rfl hw (wu32 (by omega) (by omega)) (by rw [hb];omega)
theorem qq4 {l:List Nat} (hl:Dig 65536 l) {i n:Nat} (hi:i < l.length) (_hn:i / 2 < n):
  (dgs 4294967296 n (val 65536 (l.take i))).set (i / 2) ((dgs 4294967296 n (val 65536 (l.take i))).getD (i / 2) 0+l.getD i 0*65536 ^ (i%2))=dgs 4294967296 n (val 65536 (l.take (i+1))):=by
 have hx:=hl.getD (by omega) i;have hw:=zo9 hl i (by omega);rw [xw0 _hn,jj1 (by omega) (by rcases pow01 i with h | h <;> rw [h] at hw ⊢ <;> omega),xe6 _ _ _ hi];have e:l.getD i 0*65536 ^ (i%2)*4294967296 ^ (i / 2)=65536 ^ i*l.getD i 0:=by
  rw [zn0 i,zdf,zbz (65536 ^ (i%2)),zbz]
 rw [e]
theorem not32 {x:Nat} (hx:x < 4294967296):bits .xor .u32 4294967295 (x:Int)=((4294967295 - x:Nat):Int):=by
 have h:=yt1 (k:= .u32) (a:=4294967295) (b:=x) (by decide) hx;have e:4294967295 ^^^ x=4294967295 - x:=by
  have h1:(BitVec.allOnes 32 ^^^ BitVec.ofNat 32 x)= ~~~ (BitVec.ofNat 32 x):=by first | exact BitVec.allOnes_xor | (rw [BitVec.xor_comm];exact BitVec.xor_allOnes)
  have h2:=congrArg BitVec.toNat h1;simp only [BitVec.toNat_xor,BitVec.toNat_not,BitVec.toNat_allOnes,BitVec.toNat_ofNat] at h2;rw [zbx hx] at h2;exact h2
 rw [e] at h;exact h.trans (wu32 (by omega) (by omega))
theorem qh5 (a b:Nat):(a &&& b) / 2147483648=a / 2147483648 &&& b / 2147483648:=by
 have:=Nat.shiftRight_and_distrib (a:=a) (b:=b) (i:=31);simpa [Nat.shiftRight_eq_div_pow] using this
theorem top_or (a b:Nat):(a ||| b) / 2147483648=a / 2147483648 ||| b / 2147483648:=by
 have:=Nat.shiftRight_or_distrib (a:=a) (b:=b) (i:=31);simpa [Nat.shiftRight_eq_div_pow] using this
theorem jn4 (a b:Nat):(a ^^^ b) / 2147483648=a / 2147483648 ^^^ b / 2147483648:=by
 have:=Nat.shiftRight_xor_distrib (a:=a) (b:=b) (i:=31);simpa [Nat.shiftRight_eq_div_pow] using this
theorem borrow32 {x y b d:Nat} (hx:x < 4294967296) (hy:y < 4294967296) (hb:b<=1) (hd:d=(x+8589934592 - y - b)%4294967296):
  (((4294967295 - x) &&& y) ||| ((4294967295 - (x ^^^ y)) &&& d)) / 2147483648=if x < y+b then 1 else 0:=by
 have hxy:(x ^^^ y) < 4294967296:=Nat.xor_lt_two_pow (n:=32) hx hy;have hd':d < 4294967296:=by omega
 have ht: ∀z,z < 4294967296->z / 2147483648=0∨z / 2147483648=1:=fun z hz=>by omega
 have hn: ∀z,z < 4294967296->(4294967295 - z) / 2147483648=1 - z / 2147483648:=fun z hz=>by omega
 rw [top_or,qh5,qh5,hn x hx,hn _ hxy,jn4];rcases ht x hx with h1 | h1 <;> rcases ht y hy with h2 | h2 <;> rcases ht d hd' with h3 | h3 <;> rw [h1,h2,h3] <;> simp <;> omega
end An
namespace An
open Go
theorem qh7 {P:Program} {c:Base} {d t:Nat} {pos:String} {af:Array Edge} {gd:Option (Nat×Bool)} {T:TypeId} {x:Operand} {n:Nat} (hn:n < 4294967296):
  Does P c ⟨some d,.unOp .xor T x,t,pos,af,gd⟩ ⟨[(x,.val (tE (.int .u32 (n:Int))))],[],some (d,some (.val (tE (.int .u32 ((4294967295 - n:Nat):Int))))),[],[]⟩:=
 Does.value rfl fun g h al a w η hrd _ s=>by
  have h1:a.eval x= .int .u32 n:=(xa7 s hrd.1).1;have h2:bits .xor .u32 (if IntKind.u32.signed then -1 else IntKind.u32.max) (n:Int)=((4294967295 - n:Nat):Int):=not32 hn;exact ⟨_,w,by simp only [execOp,h1,unary_xor,intBits_xor,h2,zbu,zbv,zbo],Ext.refl w,rfl,fun k hk=>by cases hk⟩
theorem bxor32 {a b:Nat} (ha:a < 4294967296) (hb:b < 4294967296):bits .xor .u32 (a:Int) (b:Int)=((a ^^^ b:Nat):Int):=
 (yt1 (k:= .u32) ha hb).trans (wu32 (by omega) (by have:=Nat.xor_lt_two_pow (n:=32) ha hb;omega))
theorem band32 {a b:Nat} (ha:a < 4294967296) (hb:b < 4294967296):bits .and .u32 (a:Int) (b:Int)=((a &&& b:Nat):Int):=
 (zu5 (k:= .u32) ha hb).trans (wu32 (by omega) (by have:=Nat.and_lt_two_pow a (n:=32) hb;omega))
theorem bor32 {a b:Nat} (ha:a < 4294967296) (hb:b < 4294967296):bits .or .u32 (a:Int) (b:Int)=((a ||| b:Nat):Int):=
 (yh8 (k:= .u32) ha hb).trans (wu32 (by omega) (by have:=Nat.or_lt_two_pow (n:=32) ha hb;omega))
end An
namespace An
theorem xz0 (B a k:Nat) (_hB:0 < B):a / B ^ k=B*(a / B ^ (k+1))+a / B ^ k%B:=by
 rw [zcc,<-zdi];exact (zdg (a / B ^ k) B).symm
theorem zv2 {B a b k:Nat} (hB:0 < B) (h:a / B ^ (k+1)=b / B ^ (k+1)) (hd:a / B ^ k%B=b / B ^ k%B):a / B ^ k=b / B ^ k:=by
 rw [xz0 B a k hB,xz0 B b k hB,h,hd]
theorem qv3 {B a b k:Nat} (h:a / B ^ k < b / B ^ k):a < b:=by
 rcases zcs a b with h1 | h1
 ·exact h1
 ·exact absurd (Nat.div_le_div_right (c:=B ^ k) h1) (by omega)
theorem zu4 {B a b k:Nat} (hB:0 < B) (h:a / B ^ (k+1)=b / B ^ (k+1)) (hd:a / B ^ k%B < b / B ^ k%B):a < b:=by
 refine qv3 (B:=B) (k:=k) ?_;rw [xz0 B a k hB,xz0 B b k hB,h];omega
theorem zv9 {B a b:Nat} (hB:2<=B) (h:(dig B a).length < (dig B b).length):a < b:=by
 rcases zcs a b with h1 | h1
 ·exact h1
 ·have:=xd4 hB h1;omega
def cmpN (a b:Nat):Int:=if a < b then -1 else if a=b then 0 else 1
theorem qh3 {a b:Nat} (h:a < b):cmpN a b= -1:=if_pos h
theorem qe6 {a b:Nat} (h:b < a):cmpN a b=1:=by rw [cmpN,if_neg (by omega),if_neg (by omega)]
theorem jm7 {a b:Nat} (h:a=b):cmpN a b=0:=by rw [cmpN,if_neg (by omega),if_pos h]
abbrev tN (v:Nat):Ty:=tWs (dig 4294967296 v)
theorem xa2:2<=4294967296:=by decide
theorem xi8 {l:List Nat} {i d:Nat} (hi:i < l.length):(l.set i d).take (i+1)=l.take i++[d]:=by
 rw [xh8 _ _ (by simpa using hi),List.take_set_of_le (zbm _)]
 congr 2
 rw [zbh,List.getElem?_set_self hi];rfl
theorem xf2 {l:List Nat} {i d:Nat}:(l.set i d).drop (i+1)=l.drop (i+1):=List.drop_set_of_lt (by omega)
theorem xg0 {B:Nat} {l:List Nat} {i d:Nat} (hi:i < l.length):val B ((l.set i d).take (i+1))=val B (l.take i)+B ^ i*d:=by
 rw [xi8 hi,xs4,zcz,zgb (by omega)]
theorem Dig.set {B:Nat} {l:List Nat} {i d:Nat} (h:Dig B l) (hd:d < B):Dig B (l.set i d):=fun x hx=>by
 rcases zgj hx with h1 | h1
 ·exact h x h1
 ·rw [h1];exact hd
theorem Dig.rep {B:Nat} (hB:0 < B) (n:Nat):Dig B (List.replicate n 0):=fun x hx=>by
 rw [List.eq_of_mem_replicate hx];exact hB
theorem xi3 {l m:List Nat} {i j:Nat} (h:l.drop i=m.drop i) (hj:i<=j):l.getD j 0=m.getD j 0:=by
 have h1:(l.drop i).getD (j - i) 0=(m.drop i).getD (j - i) 0:=by rw [h]
 simp only [zbh,List.getElem?_drop] at h1 ⊢
 rwa [show i+(j - i)=j by omega] at h1
theorem xj4 {l m:List Nat} {i j:Nat} (h:l.drop i=m.drop i) (hj:i<=j):l.drop j=m.drop j:=by
 have h1:(l.drop i).drop (j - i)=(m.drop i).drop (j - i):=by rw [h]
 rwa [List.drop_drop,List.drop_drop,show i+(j - i)=j by omega] at h1
theorem xk0 {l:List Nat} {i d:Nat} (h:i < l.length):(l.set i d).getD i 0=d:=by
 rw [zbh,List.getElem?_set_self h];rfl
theorem getD_set_ne {l:List Nat} {i j d:Nat} (h:i≠j):(l.set i d).getD j 0=l.getD j 0:=by
 rw [zbh,List.getElem?_set_ne h,<-zbh]
abbrev W:Nat:=4294967296
theorem xi1 (B a i:Nat):a%B ^ (i+1)=a%B ^ i+B ^ i*(a / B ^ i%B):=Nat.mod_pow_succ
theorem xn7 {B:Nat} (hB:2<=B) {v i:Nat} (h:(dig B v).length<=i):v / B ^ i%B=0:=by
 have h1:=(xb3 hB v i).1 h;rw [zcv h1];exact Nat.zero_mod _
theorem qf5 {B:Nat} (hB:2<=B) {v i:Nat} (h:(dig B v).length<=i):v%B ^ i=v:=zbx ((xb3 hB v i).1 h)
theorem zz9 {B T b a br i w y x br':Nat} (h:T+b%B ^ i=a%B ^ i+br*B ^ i) (hx:x=a / B ^ i%B) (hy:y=b / B ^ i%B) (hw:w+y+br=x+B*br'):
  T+B ^ i*w+b%B ^ (i+1)=a%B ^ (i+1)+br'*B ^ (i+1):=by
 rw [xi1,xi1,<-hx,<-hy];have h1:B ^ i*w+B ^ i*y+B ^ i*br=B ^ i*x+B ^ i*(B*br'):=by rw [<-zct,<-zct,<-zct,hw]
 have h2:br'*B ^ (i+1)=B ^ i*(B*br'):=by rw [zcc,zbz,zdf]
 rw [h2];rw [zbz br] at h;omega
theorem j4 {B T b a br i w y x br':Nat} (h:T+br*B ^ i=a%B ^ i+b%B ^ i) (hx:x=a / B ^ i%B) (hy:y=b / B ^ i%B) (hw:w+B*br'=x+y+br):
  T+B ^ i*w+br'*B ^ (i+1)=a%B ^ (i+1)+b%B ^ (i+1):=by
 rw [xi1,xi1,<-hx,<-hy];have h1:B ^ i*w+B ^ i*(B*br')=B ^ i*x+B ^ i*y+B ^ i*br:=by rw [<-zct,<-zct,<-zct,hw]
 have h2:br'*B ^ (i+1)=B ^ i*(B*br'):=by rw [zcc,zbz,zdf]
 rw [h2];rw [zbz br] at h;omega
theorem jm5 {n a b br:Nat} {ws:List Nat} (hl:ws.length=n) (hD:Dig W ws) (ha:a < W ^ n) (hba:b<=a) (h:val W (ws.take n)+b%W ^ n=a%W ^ n+br*W ^ n):val W ws=a - b:=by
 rw [<-hl,zci,hl,zbx ha,zbx (by omega)] at h;have h1:=xo8 hD;rw [hl] at h1;rcases zcg br with h0 | h0
 ·subst h0;omega
 ·have:W ^ n<=br*W ^ n:=zfh _ h0;omega
theorem zk5 {a b i c x y s:Nat} {cs:List Nat} (hl:cs.length=i) (hD:Dig W cs) (hv:val W cs+c*W ^ i=a%W ^ i+b%W ^ i) (hx:x=a / W ^ i%W) (hy:y=b / W ^ i%W) (hs:s=x+y) (hc:c<=1):
  (cs++[(s+c)%W]).length=i+1/\Dig W (cs++[(s+c)%W])/\val W (cs++[(s+c)%W])+(s+c) / W*W ^ (i+1)=a%W ^ (i+1)+b%W ^ (i+1)/\(s+c) / W<=1:=by
 have hx':x < W:=by rw [hx];exact zcd _ (by decide)
 have hy':y < W:=by rw [hy];exact zcd _ (by decide)
 have h1:=zdg (s+c) W;refine ⟨by simp [hl],hD.append (Dig.cons (zcd _ (by decide)) (Dig.nil _)),?_,?_⟩
 ·rw [xs4,hl];exact j4 hv hx hy (by omega)
 ·have:s+c < 2*W:=by omega
  have:=zdd (show s+c < W*2 by omega);omega
theorem jd5 {a b c n:Nat} {cs:List Nat} (hl:cs.length=n) (ha:a < W ^ n) (hb:b < W ^ n) (hD:Dig W cs) (hv:val W cs+c*W ^ n=a%W ^ n+b%W ^ n) (hc:c<=1):
  trimL (cs++[(0+c)%W])=dig W (a+b):=by
 rw [zbx ha,zbx hb] at hv;have h1:(0+c)%W=c:=by rw [zcj];exact zbx (by show c < 4294967296;omega)
 rw [h1,xe8 xa2 (hD.append (Dig.cons (by show c < 4294967296;omega) (Dig.nil _))),xs4,hl,zbz,hv]
end An
namespace An
open Go
section
variable {P:Program} {c:Base} {g:Slots} {h:Keys} {al:Names} {Q:Exit->Act->World->Prop} {a:Act} {w:World} {η:Env}
variable {d ty:Nat} {pos:String} {af:Array Edge} {gd:Option (Nat×Bool)}
def Ent.vp:Ent->VP
 | .val t=> .ty t
 | .own p=>p
theorem Ent.vp_sat {F:Dom}: ∀{e:Ent} {v:Value},e.vp.sat F w η v↔e.sat F w η v
 | .val _,_=>by simp only [Ent.vp,VP.sat,Ent.sat]
 | .own _,_=>Iff.rfl
theorem Ent.vp_supp: ∀{e:Ent},e.vp.supp=e.supp
 | .val _=>by simp only [Ent.vp,VP.supp,Ent.supp]
 | .own _=>rfl
def rowV (es:List Ent):VP:= .st (es.map fun _=>(1,false)) (es.map Ent.vp)
theorem zq9: ∀(es:List Ent),sumN (es.map fun _=>(1,false))=es.length
 | []=>rfl
 | _::r=>by simp only [zcx,sumN,zq9 r,zek];omega
def RowOk (F:Dom) (w:World) (η:Env) (cs:Array Value) (o:Nat) (es:List Ent):Prop:= ∀(i:Nat) (e:Ent),es[i]? =some e->e.sat F w η (cs.getD (o+i) undef)
theorem zs9 {F:Dom} {cs:Array Value}: ∀(es:List Ent) (o:Nat),VP.satf F w η cs o (es.map fun _=>(1,false)) (es.map Ent.vp)↔RowOk F w η cs o es
 | [],o=>by simp [VP.satf,RowOk]
 | e::r,o=>by
  simp only [zcx,VP.satf,zs9 r (o+1),pick,zeq,Ent.vp_sat];constructor
  ·rintro ⟨_,h1,h2⟩ i e' hi;cases i with
   | zero=>simp only [zcm,zca] at hi;subst hi;exact h1
   | succ i=>have:=h2 i e' (by simpa using hi);rwa [show o+1+i=o+(i+1) by omega] at this
  ·intro h1;exact ⟨fun _=>trivial,h1 0 e rfl,fun i e' hi=>by have:=h1 (i+1) e' (by simpa using hi);rwa [show o+(i+1)=o+1+i by omega] at this⟩
theorem yo5 {F:Dom} {es:List Ent} {v:Value}:(Ent.own (rowV es)).sat F w η v↔ ∃cs,v= .agg cs/\cs.size=es.length/\RowOk F w η cs 0 es:=by
 simp only [Ent.sat,rowV,VP.sat,zs9,zq9]
theorem zr2: ∀(es:List Ent),VP.supps (es.map Ent.vp)=es.flatMap Ent.supp
 | []=>by simp [VP.supps]
 | e::r=>by simp [VP.supps,zr2 r,Ent.vp_supp]
theorem yr1 {es:List Ent}:(Ent.own (rowV es)).supp=es.flatMap Ent.supp:=by
 simp only [Ent.supp,rowV,VP.supp,zr2]
class ShapeL (es:List Ent):Prop where
  all: ∀e∈es,ShapeE e 1 false
instance:ShapeL []:=⟨fun e h=>by cases h⟩
instance {e:Ent} {r:List Ent} [h1:ShapeE e 1 false] [h2:ShapeL r]:ShapeL (e::r):=
  ⟨fun f h => by rcases zbt.1 h with rfl | h
                 · exact h1
                 · exact h2.all f h⟩
class LenE (es:List Ent) (n:outParam Nat):Prop where
  len:es.length=n
instance:LenE [] 0:=⟨rfl⟩
instance {e:Ent} {r:List Ent} {n:Nat} [h:LenE r n]:LenE (e::r) (n+1):=⟨by simp [h.len]⟩
theorem qv7 {F:Dom} {es:List Ent} {v:Value} (hs: ∀e∈es,ShapeE e 1 false) (h:(Ent.own (rowV es)).sat F w η v):Flat es.length true v:=by
 obtain ⟨cs,rfl,h2,h3⟩:=yo5.1 h;rw [<-h2];refine xn3 fun u hu=> ?_;obtain ⟨i,hi⟩:=zdq hu;have hil:i < cs.size:=by have:=(zbi.1 hi).1;simpa using this
 have he:es[i]? =some es[i]:=zbk (by omega);have hp:=h3 i _ he;have hf:=(hs _ (zdw _)).flat hp;have e1:cs.getD (0+i) undef=u:=by
  have:cs[i]? =some u:=by simpa using hi
  rw [zcj,zbn,this];rfl
 rw [e1] at hf;obtain ⟨q1,q2,q3,q4⟩:=hf;exact (q4 rfl).1
instance {es:List Ent} {n m:Nat} [h1:ShapeL es] [h2:LenE es m] [h3:EqN m n]:ShapeE (.own (rowV es)) n true:=⟨fun h=>by
 have:=qv7 h1.all h
 rwa [h2.len.trans h3.eq] at this⟩
class LeafE (e:Ent) (l:outParam (List Ent)):Prop where
  leaf: ∀{F:Dom} {w:World} {η:Env} {v:Value},e.sat F w η v->v.cells.size=l.length/\RowOk F w η v.cells 0 l
  sup: ∀k∈l.flatMap Ent.supp,k∈e.supp
theorem qu7 {v:Value} (h:one v=true):v.cells= #[v]:=by cases v <;> first | (simp [one] at h;done) | rfl
instance (priority:=low) leaf_one {e:Ent} [h:ShapeE e 1 false]:LeafE e [e]:=⟨fun {F w η v} hv=>by
 obtain ⟨q1,q2,q3,q4⟩:=h.flat hv;have hc:=qu7 (q4 rfl).1;refine ⟨q1,fun i e' hi=> ?_⟩;cases i with
 | zero=>simp only [zcm,zca] at hi;subst hi;rw [hc];exact hv
 | succ i=>simp at hi,fun k hk=>by simpa using hk⟩
instance leaf_row {es:List Ent}:LeafE (.own (rowV es)) es:=⟨fun {F w η v} hv=>by
 obtain ⟨cs,rfl,h2,h3⟩:=yo5.1 hv;exact ⟨h2,h3⟩,fun k hk=>by rw [yr1];exact hk⟩
class LeafL (es:List Ent) (ls:outParam (List (List Ent))):Prop where
  all: ∀{F:Dom} {w:World} {η:Env} {vs:List Value},SatL F w η es vs->vs.length=ls.length/\ ∀(i:Nat) (l:List Ent) (v:Value),ls[i]? =some l->vs[i]? =some v->v.cells.size=l.length/\RowOk F w η v.cells 0 l
  sup: ∀k∈ls.flatten.flatMap Ent.supp,k∈es.flatMap Ent.supp
instance:LeafL [] []:=⟨fun {F w η vs} h=>by cases vs with
 | nil=>exact ⟨rfl,fun i l v hi=>by simp at hi⟩
 | cons=>exact h.elim,fun k hk=>by simp at hk⟩
instance {e:Ent} {r:List Ent} {l:List Ent} {ls:List (List Ent)} [h1:LeafE e l] [h2:LeafL r ls]:LeafL (e::r) (l::ls):=⟨fun {F w η vs} h=>by
 cases vs with
 | nil=>exact h.elim
 | cons v vs=>
  obtain ⟨h3,h4⟩:=h;obtain ⟨h5,h6⟩:=h2.all h4;refine ⟨by simp [h5],fun i l' v' hi hv=> ?_⟩;cases i with
  | zero=>simp only [zcm,zca] at hi hv;subst hi hv;exact h1.leaf h3
  | succ i=>exact h6 i l' v' (by simpa using hi) (by simpa using hv),fun k hk=>by
 simp only [List.flatten_cons,zfk,zbj,zdu] at*
 exact hk.imp (h1.sup k) (h2.sup k)⟩
def dnB (pl:Nat->Option (Nat×Nat)) (N:Nat):Nat->List (Nat×Nat)->Bool
 | o,[]=>Nat.beq o N
 | o,(i,n)::r=>(match pl i with | some p=>Nat.beq p.1 o && Nat.beq p.2 n | none=>false) && Nat.ble (o+n) N && dnB pl N (o+n) r
theorem RowOk.put {F:Dom} {cs:Array Value} {acc l:List Ent} {v:Value} (ha:RowOk F w η cs 0 acc) (hc:v.cells.size=l.length) (hl:RowOk F w η v.cells 0 l) (hle:acc.length+l.length<=cs.size):RowOk F w η (putAt cs acc.length v.cells.toList) 0 (acc++l):=fun i e hi=>by
 have hil:i < (acc++l).length:=(zbi.1 hi).1;rw [zck] at hil;have hg:=xj3 v.cells.toList cs acc.length i (by omega);have hlen:v.cells.toList.length=l.length:=by simpa using hc
 rw [zcj,zbn,hg];by_cases hlt:i < acc.length
 ·rw [if_neg (by omega)];rw [zda hlt] at hi;have:=ha i e hi
  rwa [zcj,zbn] at this
 ·rw [if_pos (by omega)];rw [zds (by omega)] at hi;have:=hl _ e hi;rw [zcj,zbn] at this;simpa using this
theorem zz2 {F:Dom} {pl:Nat->Option (Nat×Nat)}: ∀(is:List Nat) (ls:List (List Ent)) (vs:List Value) (cs:Array Value) (acc:List Ent),is.length=ls.length->dnB pl cs.size acc.length (is.zip (ls.map List.length))=true->vs.length=ls.length->
  (∀(i:Nat) (l:List Ent) (v:Value),ls[i]? =some l->vs[i]? =some v->v.cells.size=l.length/\RowOk F w η v.cells 0 l)->RowOk F w η cs 0 acc->
  ∃cs',Instr.fill pl cs (is.zip vs)=some cs'/\cs'.size=(acc++ls.flatten).length/\RowOk F w η cs' 0 (acc++ls.flatten)
 | [],[],[],cs,acc,_,hd,_,_,ha=>⟨cs,rfl,by simp [dnB] at hd;simp [hd],by simpa using ha⟩
 | i::is,l::ls,v::vs,cs,acc,hi,hd,hv,hs,ha=>by
  simp only [zcx,List.zip_cons_cons,dnB,zcf] at hd;obtain ⟨⟨h1,h2⟩,h3⟩:=hd;cases hp:pl i with
  | none=>rw [hp] at h1;cases h1
  | some p=>
   rw [hp] at h1;obtain ⟨h1a,h1b⟩:=Bool.and_eq_true_iff.1 h1;have h1:p.1=acc.length/\p.2=l.length:=⟨zdk h1a,zdk h1b⟩
   obtain ⟨q1,q2⟩:=hs 0 l v rfl rfl;have hle:acc.length+l.length<=cs.size:=zdm h2;have hp':pl i=some (acc.length,l.length):=by rw [hp,<-h1.1,<-h1.2]
   rw [List.zip_cons_cons,yt3 hp' q1 hle];obtain ⟨cs',r1,r2,r3⟩:=zz2 is ls vs (putAt cs acc.length v.cells.toList) (acc++l) (by simpa using hi) (by rw [xd8,zck];exact h3) (by simpa using hv) (fun j l' v' hj hv'=>hs (j+1) l' v' (by simpa using hj) (by simpa using hv')) (ha.put q1 q2 hle);exact ⟨cs',r1,by rw [r2];simp,by simpa using r3⟩
 | [],_::_,_,_,_,h,_,_,_,_=>by simp at h
 | _::_,[],_,_,_,h,_,_,_,_=>by simp at h
 | [],[],_::_,_,_,_,_,h,_,_=>by simp at h
 | _::_,_::_,[],_,_,_,_,h,_,_=>by simp at h
theorem qi8 (s:St' c g h al a w η): ∀(xs:List Operand) (es:List Ent),Rd g (xs.zip es)->xs.length=es.length->SatL (c.dom h η) w η es (xs.map a.eval)/\ ∀k∈es.flatMap Ent.supp,al k=true
 | [],[],_,_=>⟨trivial,fun k hk=>by simp at hk⟩
 | x::xs,e::es,hr,hl=>by
  obtain ⟨h1,h2⟩:=xa7 s hr.1;obtain ⟨h3,h4⟩:=qi8 s xs es hr.2 (by simpa using hl);exact ⟨⟨h1,h3⟩,fun k hk=>by
   simp only [zdu,zbj] at hk;exact hk.elim (h2 k) (h4 k)⟩
 | [],_::_,_,h=>by simp at h
 | _::_,[],_,h=>by simp at h
theorem xz6 {T:TypeId} {pl:Nat->Option (Nat×Nat)} {z:Value} {ps:List (Nat×Operand)} {es:List Ent} {ls:List (List Ent)} {r:List Ent} (bu:BuI P T pl z) (hl:ps.length=es.length) [hL:LeafL es ls]
  (hn:Nat.beq ps.length ls.length=true) (hd:dnB pl z.cells.size 0 ((ps.map (·.1)).zip (ls.map List.length))=true) (hr:ls.flatten=r):
  Does P c ⟨some d,.build T ps.toArray,ty,pos,af,gd⟩ ⟨(ps.map (·.2)).zip es,[],some (d,some (.own (rowV r))),[],[]⟩:=
 Does.value rfl fun g h al a w η hrd _ s=>by
  obtain ⟨hv,hsup⟩:=qi8 s (ps.map (·.2)) es hrd (by simpa using hl);obtain ⟨hv1,hv2⟩:=hL.all hv;have hn':ps.length=ls.length:=zdk hn;obtain ⟨cs',h1,h2,h3⟩:=zz2 (F:=c.dom h η) (w:=w) (η:=η) (pl:=pl) (ps.map (·.1)) ls _ z.cells [] (by simpa using hn') hd hv1 hv2 (fun i e hi=>by simp at hi);refine ⟨.agg cs',w,?_,Ext.refl w,?_,fun j hj=> ?_⟩
  ·have e:(ps.toArray.map fun (i,x)=>(i,a.eval x)).toList=(ps.map (·.1)).zip ((ps.map (·.2)).map a.eval):=by
    simp only [Array.toList_map,List.map_map];clear hrd hl hd hn hn' hv hv1 hv2 h1 h2 h3
    induction ps with
    | nil=>rfl
    | cons p r ih=>simp [ih]
   simp only [execOp,zbu];rw [bu.run _ w cs' (by rw [e];exact h1)];rfl
  ·subst hr;exact yo5.2 ⟨cs',rfl,by simpa using h2,by simpa using h3⟩
  ·subst hr;rw [yr1] at hj;exact hsup j (hL.sup j hj)
theorem ym5 {T n k:Nat} {z:Value} (zs:List Value) (hz:(P.info? T).bind (·.zero)=some z) (hc:z.cells.toList=zs) (hn:zs.length=n) (h63:Nat.ble n 9223372036854775807=true) {ts:List Ent} (hts:zs.map (fun v=>Ent.val (tE v))=ts):
  Does P c ⟨some d,.alloc T,ty,pos,af,gd⟩ ⟨[],[],some (d,some (.own (.ptr k 0))),[(k,some ⟨T,1,false,ts⟩)],[k]⟩:=by
 intro g h al a w hp ⟨η,s⟩;subst hts hc;have hnew:=s.new k hp.nk.1 ⟨T,1,false,z.cells.toList.map (fun v=>Ent.val (tE v))⟩ z.cells n (by rw [<-hn];simp) (by simp [<-hn]) Nat.one_pos (fun _=>rfl) (zdm h63)
  (fun j hj=>by
   simp only [HEnt.supp,zbw,zcb] at hj;obtain ⟨e,⟨v,_,rfl⟩,hj⟩:=hj;cases hj) (fun i e' hi=>by
   simp only [zbp,zdo] at hi;obtain ⟨v,hv,rfl⟩:=hi;show pick false 1 z.cells (i*1)=v;have hv':z.cells[i]? =some v:=by simpa using hv
   simp [pick,hv'])
 obtain ⟨i,hi,hz'⟩:=zfx.1 hz;refine xe1 (v:= .pointer (some ⟨w.heap.size,0,none⟩)) (w':={w with heap:=w.heap.push (.cells z.cells T)}) (by
  simp [execOp,Instr.alloc,zeroValue,typeInfo,hi,hz',newVar,newRow,newObj,Sem.run,go_sem]) ?_
 refine ⟨_,hnew.put (hp.d _ rfl) ?_ ?_⟩
 ·show _=_;simp [Env.set_b]
 ·intro j hj;simp only [Ent.supp,VP.supp,zbq] at hj;subst hj;simp
theorem ym9 {T T0 k n:Nat} {x y:Operand} {ts es:List Ent} [he:ShapeE (.own (rowV es)) n true] (ti:TyI P T n true) (hn:Nat.beq es.length n=true) (h0:Nat.blt 0 n=true) (hl:Nat.beq ts.length n=true):
  Does P c ⟨none,.store T x y,ty,pos,af,gd⟩ ⟨[(x,.own (.ptr k 0)),(y,.own (rowV es))],[(k,⟨T0,1,false,ts⟩)],none,[(k,some ⟨T0,1,false,es⟩)],[]⟩:=by
 intro g h al a w hpre ⟨η,s⟩;have hn:es.length=n:=zdk hn;have hl:ts.length=n:=zdk hl;have h0:0 < n:=by simpa using h0
 have h1:a.eval x= .pointer (some ⟨η.b k,0,none⟩):=(xa7 s hpre.rd.1).1;obtain ⟨hy,hys⟩:=xa7 s hpre.rd.2.1;have hfl:=he.flat hy;obtain ⟨h2,h3,⟨h6,h7,h8,h9,hmem⟩,h11⟩:=s.key k _ hpre.kr.1;have h6:ts.length<=η.c k:=h6;have hc0:0 < η.c k:=by omega
 obtain ⟨cs,h4,h5,h10⟩:=hmem hc0;have h5:cs.size=η.c k*1:=h5;have hle:0+n<=cs.size:=by omega
 obtain ⟨w',r1,r2,r3,r4,r5,r6,r7⟩:=yf9 (P:=P) ti h4 hle hfl;refine yg8 (w':=w') (by simp only [execOp,h1,Instr.storeAt,Instr.sureAddr,zbu,zbv,zbo,r1]) ?_;obtain ⟨ds,e1,e2,e3⟩:=yo5.1 hy;rw [e1] at r2 hfl;have hw:=s.write (w':=w') k hpre.kr.1 ⟨T0,1,false,es⟩ (putAt cs 0 (Value.agg ds).cells.toList) (by rw [xd8];exact h5) (by show es.length<=_;omega) Nat.one_pos (fun _=>rfl)
  (fun j hj=>hys j (by rw [yr1];exact hj))
  (fun j e' hj=>by
   have hjl:j < es.length:=(zbi.1 hj).1;have:=e3 j e' hj;show e'.sat _ _ _ (pick false 1 _ (j*1));simp only [pick,zeq,zfr];rw [zbn,xj3 _ _ _ _ (by omega),if_pos (by simp only [Value.cells,Array.length_toList];omega)];simpa [Value.cells] using this)
  hc0 r2 r3 r4 r5 r6 r7 rfl
 exact ⟨η,hw.lose none undef⟩
def fdOne (ts:List Ty):List Fd:=ts.map fun t=>⟨1,false,t⟩
theorem zm3: ∀(ts:List Ty),Fd.sum (fdOne ts)=ts.length
 | []=>rfl
 | _::r=>by show 1+Fd.sum (fdOne r)=_;rw [zm3 r,zek];omega
theorem zn2 {F:Dom} {cs:Array Value}: ∀(ts:List Ty) (o:Nat),(∀(i:Nat) (t:Ty),ts[i]? =some t->t.p F w (cs.getD (o+i) undef))->Fd.all F w cs o (fdOne ts)
 | [],_,_=>trivial
 | t::r,o,hh=>⟨⟨fun _=>rfl,hh 0 t rfl⟩,zn2 r (o+1) fun i t' hi=>by have:=hh (i+1) t' (by simpa using hi);rwa [show o+(i+1)=o+1+i by omega] at this⟩
theorem yc7 {T T0 k p n:Nat} {x:Operand} {ts:List Ent} {us:List Ty} {t:Ty} (ti:TyI P T n true) (hn:us.length=n) (h0:Nat.blt 0 n=true) (hts:(ts.drop p).take n=us.map Ent.val) (ht:tS (fdOne us)=t):
  Does P c ⟨some d,.load T x,ty,pos,af,gd⟩ ⟨[(x,.own (.ptr k p))],[(k,⟨T0,1,false,ts⟩)],some (d,some (.val t)),[],[]⟩:=
 Does.value rfl fun g h al a w η hrd hkr s=>by
  subst hn ht;have h0:0 < us.length:=by simpa using h0
  have h1:a.eval x= .pointer (some ⟨η.b k,p,none⟩):=(xa7 s hrd.1).1;obtain ⟨h2,h3,⟨h6,h7,h8,h9,hmem⟩,h11⟩:=s.key k _ hkr.1;have h6:ts.length<=η.c k:=h6;have hlen:=congrArg List.length hts;simp only [zcz,List.length_drop,zcq] at hlen;obtain ⟨cs,h4,h5,h10⟩:=hmem (by omega);have h5:cs.size=η.c k*1:=h5;have hle:p+us.length<=cs.size:=by omega
  refine ⟨_,w,?_,Ext.refl w,⟨cs.extract p (p+us.length),rfl,by rw [zm3];simp;omega,zn2 us 0 fun i t hi=> ?_⟩,fun j hj=>by cases hj⟩
  ·simp only [execOp,h1,Instr.loadAt,Instr.sureAddr,zbu,zbv,zbo,xr9 ti h4 hle (fun h=>by cases h),pick,zey]
  ·have hil:i < us.length:=(zbi.1 hi).1;have hx:ts[p+i]? =some (.val t):=by
    have h12:((ts.drop p).take us.length)[i]? =some (.val t):=by rw [hts,zbp,hi];rfl
    rw [List.getElem?_take_of_lt hil,List.getElem?_drop] at h12;exact h12
   have h13:=h10 (p+i) _ hx;simp only [pick,zeq,zfr] at h13;rw [zbn,zcy,if_pos (by omega),zcj,<-zbn];exact h13
def NoLbK (c:Base) (h:Keys) (k:Nat):Prop:= ∀(g:Slots) (al:Names) (a:Act) (w:World) (η:Env),St' c g h al a w η->0 < η.c k-> ¬c.lb (η.b k)
theorem NoLbK.of (hlb:NoLb c) {k:Nat}:NoLbK c h k:=fun _ _ _ _ _ _ _=>hlb _
def apartB (h:Keys) (k:Nat) (H:List Nat):Bool:=H.all fun j=> !Nat.beq j k && (h j).isSome
theorem NoLbK.lent {w0:World} {F:Dom} {η0:Env} {l0:List Nat} {H:List (Nat×HEnt)} (hp:LentC c w0 F η0 l0 H) {k:Nat} {x:HEnt} (hk:h k=some x) (hs:subN (H.map (·.1)) l0=true) (hB:apartB h k (H.map (·.1))=true):NoLbK c h k:=by
 intro g al a w η s hc hb;rw [hp.lb] at hb;obtain ⟨y,hy,hcy,e⟩:=hb;have hm:y.1∈H.map (·.1):=zcb.2 ⟨y,hy,rfl⟩;have hB':=zez.1 hB y.1 hm;simp only [zcf,zen,Option.isSome_iff_exists] at hB';obtain ⟨h1,z,hz⟩:=hB';have hne:y.1≠k:=fun e=>by rw [e] at h1;simp at h1
 obtain ⟨_,h4,h5⟩:=s.lk y.1 (by rw [hp.ln];exact xf7 hs _ hm);rw [hp.lη] at h4 h5;exact s.inj y.1 k z x hz hk hne (by rw [h5];exact hcy) hc (by rw [h4,e])
theorem St'.giveK (s:St' c g h al a w η) {k:Nat} {T es off len:Nat} {agg:Bool} {ts:List Ent} {α:Type} {f:α->Ty} {xs:List α} (hk:h k=some ⟨T,es,agg,ts⟩) (hlb:NoLbK c h k)
  (hts:(ts.drop off).take len=xs.map fun x=> .val (f x)) (hl:xs.length=len) {v:Value} (hv:(Ent.own (.sl k es off len)).sat (c.dom h η) w η v):(tL es agg f xs).p (c.dom (upd h k none) η) w v:=by
 subst hl;obtain ⟨A,h1,h2,h3⟩:=hv;obtain ⟨h4,h5,⟨h6,h7,h8,h9,h10⟩,h11⟩:=s.key k _ hk;simp only at h7 h8 h9 h10;refine ⟨A,_,h1,by omega,by omega,?_⟩;rcases zcg xs.length with h0 | h0
 ·exact .inl (zea h0)
 ·have hc:0 < η.c k:=by omega
  obtain ⟨cs,e1,e2,e3⟩:=h10 hc;obtain ⟨d1,d2,d3⟩:=h11 hc;have d1:c.w0.heap.size<=η.b k:=d1.resolve_right (hlb _ _ _ _ _ s hc);refine .inr ⟨η.b k,off*es,h3 (by omega),⟨.inl d1,?_,d2,d3⟩,fun i x hi=> ?_⟩
  ·rintro ⟨j,y,hj,hcj,e⟩;by_cases hjk:j=k
   ·subst hjk;rw [x6] at hj;cases hj
   ·rw [x4 _ _ _ hjk] at hj;exact s.inj j k y _ hj hk hjk hcj hc e.symm
  ·have hil:i < xs.length:=(zbi.1 hi).1;have he:=e3 (off+i) _ (yv3 hts i x hi);have hle:off*es+i*es+es<=cs.size:=by
    rw [e2,<-zch,<-zdj];exact zbr _ (by omega)
   refine ⟨_,⟨cs,_,_,e1,hle,h7,h8,rfl⟩,?_⟩;rw [<-zch];exact (f x).mono he (Keep.drop k)
theorem yj5 {x:Code} {q j T Tq es off len:Nat} {agg:Bool} {us ts us':List Ent} {α:Type} {f:α->Ty} {xs:List α} (i:Nat) (hq:h q=some ⟨Tq,1,false,us⟩) (hi:us[i]? =some (.own (.sl j es off len))) (hj:h j=some ⟨T,es,agg,ts⟩) (hne:Nat.beq q j=false) (hlb:NoLbK c h j)
  (hts:(ts.drop off).take len=xs.map fun x=> .val (f x)) (hl:xs.length=len) (hus:us.set i (.val (tL es agg f xs))=us') (H:wc P c x Q g (upd (upd h j none) q (some ⟨Tq,1,false,us'⟩)) al):wc P c x Q g h al:=fun a w ⟨η,s⟩=>by
 subst hus;have hne:q≠j:=fun e=>by rw [e] at hne;simp at hne
 obtain ⟨k1,k2,⟨k3,k4,k5,k6,k7⟩,_⟩:=s.key q _ hq;have hil:i < us.length:=(zbi.1 hi).1;have k3:us.length<=η.c q:=k3;obtain ⟨cs,m1,m2,m3⟩:=k7 (by omega);have h2:=s.giveK hj hlb hts hl (m3 i _ hi);have s1:=s.drop j;refine H a w ⟨η,s1.same (x:=⟨Tq,1,false,us⟩) (by rw [x4 _ _ _ hne];exact hq) rfl (fun t ht=> ?_) ⟨by simpa using k3,Nat.one_pos,fun _=>rfl,k6,fun _=>⟨cs,m1,m2,fun n e he=> ?_⟩⟩⟩
 ·simp only [HEnt.supp,zbw] at ht;obtain ⟨e',he',ht⟩:=ht;obtain ⟨j',hj'⟩:=zdq he';rcases List.getElem?_set_cases hj' with ⟨_,rfl,_⟩ | ⟨_,hj''⟩
  ·cases ht
  ·exact k2 t (HEnt.mem_supp hj'' ht)
 ·rcases List.getElem?_set_cases he with ⟨rfl,rfl,_⟩ | ⟨hne',hj'⟩
  ·exact h2
  ·exact Ent.sat_go (m3 n e hj') (Keep.drop j) fun _ _=>⟨rfl,rfl⟩
end
section
variable {P:Program} {c:Base} {g:Slots} {h:Keys} {al:Names} {Q:Exit->Act->World->Prop}
variable {A:Array Oper} {rest:List Oper} {dst:Option Nat} {op:Op} {ty:Nat} {pos:String} {af:Array Edge}
theorem xu2 {E:Eff} {j t:Nat} {want b:Bool} (hb:b=want) (hj:(A[j]?).bind (·.dst)=some t) (hd:Does P c ⟨dst,op,ty,pos,af,some (j,want)⟩ E) (hg:g t=some (.val (tB b))) (h1:Rd g E.rd) (h2:Kr h E.kr) (h3:Nk al E.nk)
  (hN:dOk c.N [⟨t::slotsOf E.rd,E.d.map (·.1),E.kr.map (·.1),E.kw.map (·.1),E.nk⟩]=true) (H:wl P c A Q rest (E.g g) (E.h h) (E.al al)):wl P c A Q (⟨dst,op,ty,pos,af,some (j,want)⟩::rest) g h al:=
 xu5 [⟨dst,op,ty,pos,af,some (j,want)⟩] (rest:=rest) (RGon hb hj hd hg h1 h2 h3 ⟨hN,H⟩)
theorem xm5 {j t:Nat} {want b:Bool} (hb:b= !want) (hj:(A[j]?).bind (·.dst)=some t) (hg:g t=some (.val (tB b)))
  (hN:dOk c.N [⟨[t],dst,[],[],[]⟩]=true) (H:wl P c A Q rest (offG dst g) h al):wl P c A Q (⟨dst,op,ty,pos,af,some (j,want)⟩::rest) g h al:=
 xu5 [⟨dst,op,ty,pos,af,some (j,want)⟩] (rest:=rest) (RGoff hb hj hg ⟨hN,H⟩)
theorem zq5 {t:Nat} {p:Prop} [Decidable p] {ops:List Oper} (hg:g t=some (.val (tB (decide p)))) (h1:p->wl P c A Q ops g h al) (h2: ¬p->wl P c A Q ops g h al):wl P c A Q ops g h al:=by
 have _:=hg;exact if hp:p then h1 hp else h2 hp
theorem xq4 {d:Nat} {T T0 es k p n o:Nat} {agg':Bool} {x:Operand} {ts:List Ent} {t t':Ty} (i:Nat) (ti:TyI P T n agg') (hx:look g x=some (.own (.ptr k p))) (hk:h k=some ⟨T0,es,true,ts⟩) (hi:ts[i]? =some (.val t)) (hat:At t o n agg' t') (hp:i*es+o=p)
  (hN:dOk c.N [⟨slotsOf [(x,.own (.ptr k p))],some d,[k],[],[]⟩]=true) (H:wl P c A Q rest (upd g d (some (.val t'))) h al):wl P c A Q (⟨some d,.load T x,ty,pos,af,none⟩::rest) g h al:=
 xa5 (yt9 i ti hi hat hp) ⟨hx,trivial⟩ ⟨hk,trivial⟩ trivial hN H
theorem qr7 {d:Nat} {T T0 es k p n o:Nat} {agg':Bool} {x:Operand} {ts:List Ent} {t t':Ty} {j q:Nat} {want b:Bool} (hb:b=want) (hj:(A[j]?).bind (·.dst)=some q) (hq:g q=some (.val (tB b))) (i:Nat) (ti:TyI P T n agg') (hx:look g x=some (.own (.ptr k p))) (hk:h k=some ⟨T0,es,true,ts⟩) (hi:ts[i]? =some (.val t)) (hat:At t o n agg' t') (hp:i*es+o=p)
  (hN:dOk c.N [⟨q::slotsOf [(x,.own (.ptr k p))],some d,[k],[],[]⟩]=true) (H:wl P c A Q rest (upd g d (some (.val t'))) h al):wl P c A Q (⟨some d,.load T x,ty,pos,af,some (j,want)⟩::rest) g h al:=
 xu2 hb hj (yt9 i ti hi hat hp) hq ⟨hx,trivial⟩ ⟨hk,trivial⟩ trivial hN H
end
def rV {α:Type} (f:α->Ty) (xs:List α):List Ent:=xs.map fun x=> .val (f x)
section
variable {α:Type} {f:α->Ty} {xs:List α}
theorem jr4 {i:Nat} {d:α} (h:i < xs.length):(rV f xs)[i]? =some (.val (f (xs.getD i d))):=by
 rw [rV,zbp,gD (d:=d) h];rfl
theorem xv3 {i:Nat} {m:α} (h:i < xs.length):(rV f (xs.set i m))[i]? =some (.val (f m)):=by
 rw [rV,zbp,List.getElem?_set_self h];rfl
theorem xn4 {i:Nat} (h:i < xs.length):Nat.blt i (rV f xs).length=true:=by simpa [rV] using h
theorem xm8 {i:Nat} {m:α} {t:Ty} (h:t=f m):(rV f xs).set i (.val t)=rV f (xs.set i m):=by
 rw [rV,rV,List.map_set,h]
theorem yd8 (n:Nat) (x:α) {t:Ty} (h:t=f x):List.replicate n (Ent.val t)=rV f (List.replicate n x):=by
 rw [rV,List.map_replicate,h]
theorem xe0:(rV f xs).length=xs.length:=by simp [rV]
theorem xn8 {n:Nat} (h:xs.length=n):((rV f xs).drop 0).take n=xs.map fun x=> .val (f x):=by
 subst h;rw [List.drop_zero,List.take_of_length_le (by rw [xe0];exact zbm _)];rfl
theorem xb2 {l:List Nat}:SupX (rV f xs) l:=SupX.map (f:=f)
theorem xc2 {ρ:Nat->Nat} {T es:Nat} {agg:Bool}:HEnt.ren ρ ⟨T,es,agg,rV f xs⟩=⟨T,es,agg,rV f xs⟩:=jh9
end
class FoI (P:Program) (S f:Nat) (o:outParam Nat):Prop where
  h:fieldO P S f=some o
class UnI (P:Program) (T:TypeId) (d:outParam TypeDesc):Prop where
  h:P.underlying T=some d
section
variable {P:Program} {c:Base} {g:Slots} {h:Keys} {al:Names} {A:Array Oper} {K:List Sm->Slots->Keys->Names->Prop} {rest:List Oper} {sms:List Sm} {ty:Nat} {pos:String} {af:Array Edge} {Q:Exit->Act->World->Prop}
variable {dst:Option Nat} {op:Op} {x y z:Operand} {e1 e2:Ent}
theorem RG1 {s j t:Nat} {e:Ent} {want b:Bool} (hb:b=want) (hj:(A[j]?).bind (·.dst)=some t) (hd:Does P c ⟨dst,op,ty,pos,af,some (j,want)⟩ ⟨[(x,e1)],[],some (s,some e),[],[]⟩) (hg:g t=some (.val (tB b))) (h1:look g x=some e1)
  (H:RSeq P c A K rest (sms++[⟨t::slotsOf [(x,e1)],some s,[],[],[]⟩]) (upd g s (some e)) h al):RSeq P c A K (⟨dst,op,ty,pos,af,some (j,want)⟩::rest) sms g h al:=
 RGon hb hj hd hg ⟨h1,trivial⟩ trivial trivial H
theorem RG2 {s j t:Nat} {e:Ent} {want b:Bool} (hb:b=want) (hj:(A[j]?).bind (·.dst)=some t) (hd:Does P c ⟨dst,op,ty,pos,af,some (j,want)⟩ ⟨[(x,e1),(y,e2)],[],some (s,some e),[],[]⟩) (hg:g t=some (.val (tB b))) (h1:look g x=some e1) (h2:look g y=some e2)
  (H:RSeq P c A K rest (sms++[⟨t::slotsOf [(x,e1),(y,e2)],some s,[],[],[]⟩]) (upd g s (some e)) h al):RSeq P c A K (⟨dst,op,ty,pos,af,some (j,want)⟩::rest) sms g h al:=
 RGon hb hj hd hg ⟨h1,h2,trivial⟩ trivial trivial H
theorem RGl {s j t k:Nat} {e:Ent} {x':HEnt} {want b:Bool} (hb:b=want) (hj:(A[j]?).bind (·.dst)=some t) (hd:Does P c ⟨dst,op,ty,pos,af,some (j,want)⟩ ⟨[(x,e1)],[(k,x')],some (s,some e),[],[]⟩) (hg:g t=some (.val (tB b))) (h1:look g x=some e1) (h2:h k=some x')
  (H:RSeq P c A K rest (sms++[⟨t::slotsOf [(x,e1)],some s,[k],[],[]⟩]) (upd g s (some e)) h al):RSeq P c A K (⟨dst,op,ty,pos,af,some (j,want)⟩::rest) sms g h al:=
 RGon hb hj hd hg ⟨h1,trivial⟩ ⟨h2,trivial⟩ trivial H
theorem Rl {s k:Nat} {e:Ent} {x':HEnt} (hd:Does P c ⟨dst,op,ty,pos,af,none⟩ ⟨[(x,e1)],[(k,x')],some (s,some e),[],[]⟩) (h1:look g x=some e1) (h2:h k=some x')
  (H:RSeq P c A K rest (sms++[⟨slotsOf [(x,e1)],some s,[k],[],[]⟩]) (upd g s (some e)) h al):RSeq P c A K (⟨dst,op,ty,pos,af,none⟩::rest) sms g h al:=
 RE hd ⟨h1,trivial⟩ ⟨h2,trivial⟩ trivial H
theorem Rs {T T0 es k p n:Nat} {agg:Bool} {ts ts':List Ent} {e:Ent} (hx:look g x=some (.own (.ptr k p))) (hy:look g y=some e) (hk:h k=some ⟨T0,es,agg,ts⟩) [ti:TyI P T n agg] (hn:n=es) (hi:Nat.blt 0 ts.length=true) (hp:0=p) (hts:ts.set 0 e=ts') [he:ShapeE e es agg]
  (H:RSeq P c A K rest (sms++[⟨slotsOf [(x,.own (.ptr k p)),(y,e)],none,[k],[k],[]⟩]) g (upd h k (some ⟨T0,es,agg,ts'⟩)) al):RSeq P c A K (⟨none,.store T x y,ty,pos,af,none⟩::rest) sms g h al:=by
 subst hn;exact RE (xa8 0 ti hi (by omega) hts) ⟨hx,hy,trivial⟩ ⟨hk,trivial⟩ trivial H
theorem RlF {T T0 es k p n d:Nat} {agg':Bool} {ts:List Ent} {t t':Ty} [ti:TyI P T n agg'] (hx:look g x=some (.own (.ptr k p))) (hk:h k=some ⟨T0,es,true,ts⟩) (hi:ts[0]? =some (.val t)) (hat:At t p n agg' t')
  (H:RSeq P c A K rest (sms++[⟨slotsOf [(x,.own (.ptr k p))],some d,[k],[],[]⟩]) (upd g d (some (.val t'))) h al):RSeq P c A K (⟨some d,.load T x,ty,pos,af,none⟩::rest) sms g h al:=
 xj6 0 ti hx hk hi hat (by omega) H
theorem RGlF {T T0 es k p n d:Nat} {agg':Bool} {ts:List Ent} {t t':Ty} {j q:Nat} {want b:Bool} (hb:b=want) (hj:(A[j]?).bind (·.dst)=some q) (hq:g q=some (.val (tB b))) [ti:TyI P T n agg'] (hx:look g x=some (.own (.ptr k p))) (hk:h k=some ⟨T0,es,true,ts⟩) (hi:ts[0]? =some (.val t)) (hat:At t p n agg' t')
  (H:RSeq P c A K rest (sms++[⟨q::slotsOf [(x,.own (.ptr k p))],some d,[k],[],[]⟩]) (upd g d (some (.val t'))) h al):RSeq P c A K (⟨some d,.load T x,ty,pos,af,some (j,want)⟩::rest) sms g h al:=
 xg1 hb hj hq 0 ti hx hk hi hat (by omega) H
theorem Rbx {T n s:Nat} {agg:Bool} {e:Ent} [he:ShapeE e n agg] [ti:TyI P T n agg] (hx:look g x=some e) (hn:Nat.blt 0 n=true) (h3:Nk al [s])
  (H:RSeq P c A K rest (sms++[(⟨[(x,e)],[],some (s,some (.own (.ptr s 0))),[(s,some ⟨T,n,agg,[e]⟩)],[s]⟩:Eff).sm]) (upd g s (some (.own (.ptr s 0)))) (upd h s (some ⟨T,n,agg,[e]⟩)) ((⟨[(x,e)],[],some (s,some (.own (.ptr s 0))),[(s,some ⟨T,n,agg,[e]⟩)],[s]⟩:Eff).al al)):RSeq P c A K (⟨some s,.box T x,ty,pos,af,none⟩::rest) sms g h al:=
 RE (d_box (k:=s) ti hn) ⟨hx,trivial⟩ trivial h3 H
variable {T:TypeId} {d:Nat} {gd:Option (Nat×Bool)}
theorem b_len {α:Type} {es:Nat} {agg:Bool} {f:α->Ty} {xs:List α} {E:TypeId} [hT:UnI P T (.slice E)]:Does P c ⟨some d,.call {callee:= .builtin .len,args:= #[x],argTypes:= #[T]},ty,pos,af,gd⟩ ⟨[(x,.val (tL es agg f xs))],[],some (d,some (.val (tI xs.length))),[],[]⟩:=yh7 hT.h
theorem zd1 {k es off len:Nat} {E:TypeId} [hT:UnI P T (.slice E)]:Does P c ⟨some d,.call {callee:= .builtin .len,args:= #[x],argTypes:= #[T]},ty,pos,af,gd⟩ ⟨[(x,.own (.sl k es off len))],[],some (d,some (.val (tI len))),[],[]⟩:=d_lenO hT.h
end
section
variable {c:Base} {g:Slots} {h:Keys} {al:Names} {Q:Exit->Act->World->Prop} {P:Program}
theorem sC {g':Slots} {s:Nat} {e:Ent} (h2:Sub g' g) (h1:g s=some e:=by rfl):Sub (upd g' s (some e)) g:= .consI h1 .refl h2
theorem sI {g':Slots} {s:Nat} {k:IntKind} {m n:Int} (h2:Sub g' g) (h1:g s=some (.val (tE (.int k m))):=by rfl) (hmn:m=n:=by first | omega | rfl | (dsimp only;omega)):Sub (upd g' s (some (.val (tE (.int k n))))) g:= .consI h1 (.int hmn) h2
theorem kF {ι:Type} {I:ι->Prop} {G:ι->Slots} {H:ι->Keys} {l:List Nat} (i:ι) (hi:I i) (hg:Sub (G i) g:=by repeat (first | exact zay | refine zae rfl ?_ | refine zan rfl ?_)) (hh:SubK (H i) h:=by repeat (first | exact zax | refine SubK.cons rfl ?_))
  (sg:SupG (G i) (nm l):=by repeat (first | exact zar | refine zaj ?_ | refine zak rfl ?_)) (sh:SupH (H i) (nm l):=by repeat (first | exact zaz | refine zam rfl (supJ xf3) ?_ | refine zam rfl (supJ xd2) ?_ | refine zam rfl (supJ xb2) ?_ | refine zam rfl (supJL rfl) ?_)) (hlk:lkB c.ln c.yk (nm l)=true:=by rfl):
  wk c .normal (Exit.then (Fam c I G H (nm l)) Q) g h al:=xg8 i hi hg hh sg sh (lkOk hlk)
theorem cL {ι:Type} (I:ι->Prop) (G:ι->Slots) (H:ι->Keys) (l:List Nat) (μ:ι->Nat) (i:ι) (hi:I i) {x:Code} (round: ∀i,I i->wc P c x (Exit.then (Fam c (fun j=>I j/\μ j < μ i) G H (nm l)) Q) (G i) (H i) (nm l)) (hg:Sub (G i) g:=by repeat (first | exact zay | refine zae rfl ?_ | refine zan rfl ?_)) (hh:SubK (H i) h:=by repeat (first | exact zax | refine SubK.cons rfl ?_))
  (sg:SupG (G i) (nm l):=by repeat (first | exact zar | refine zaj ?_ | refine zak rfl ?_)) (sh:SupH (H i) (nm l):=by repeat (first | exact zaz | refine zam rfl (supJ xf3) ?_ | refine zam rfl (supJ xd2) ?_ | refine zam rfl (supJ xb2) ?_ | refine zam rfl (supJL rfl) ?_)) (hlk:lkB c.ln c.yk (nm l)=true:=by rfl):
  wc P c (.loop x) Q g h al:=xf6 I G H (nm l) μ i hi hg hh sg sh (lkOk hlk) round
end
theorem S0 {p q:Prop} (hs:q->p:=by
  first
  | ((with_reducible show _->RSeq _ _ _ _ (⟨_,_,_,_,_,none⟩::_) _ _ _ _);first
   | ((with_reducible show _->RSeq _ _ _ _ (⟨_,.move _,_,_,_,none⟩::_) _ _ _ _);first | exact R1 xa4 rfl)
   | ((with_reducible show _->RSeq _ _ _ _ (⟨_,.assign _,_,_,_,none⟩::_) _ _ _ _);first | exact R1 xb8 rfl)
   | ((with_reducible show _->RSeq _ _ _ _ (⟨_,.load _ _,_,_,_,none⟩::_) _ _ _ _);first | exact R1 (xi6 inferInstance) rfl | exact Rl (x7 0 inferInstance rfl rfl) rfl rfl | exact RlF rfl rfl rfl (by first | exact At.g 0 rfl rfl | exact At.g 1 rfl rfl | exact At.g 2 rfl rfl | exact At.g 3 rfl rfl | exact At.g 4 rfl rfl | exact At.g 5 rfl rfl | exact At.g 6 rfl rfl))
   | ((with_reducible show _->RSeq _ _ _ _ (⟨_,.fieldAddr _ _ _,_,_,_,none⟩::_) _ _ _ _);first | exact R1 (xf4 FoI.h rfl) rfl)
   | ((with_reducible show _->RSeq _ _ _ _ (⟨_,.extract _ _,_,_,_,none⟩::_) _ _ _ _);first | exact R1 (xd9 rfl) rfl)
   | ((with_reducible show _->RSeq _ _ _ _ (⟨_,.call _,_,_,_,none⟩::_) _ _ _ _);first | exact R1 b_len rfl | exact R1 zd1 rfl)
   | ((with_reducible show _->RSeq _ _ _ _ (⟨_,.binOp .lss _ _ _ _,_,_,_,none⟩::_) _ _ _ _);first | exact R2 yo2 rfl rfl)
   | ((with_reducible show _->RSeq _ _ _ _ (⟨_,.binOp .eql _ _ _ _,_,_,_,none⟩::_) _ _ _ _);first | exact R2 zp6 rfl rfl | exact R2 (d_eqlB UnI.h) rfl rfl)
   | ((with_reducible show _->RSeq _ _ _ _ (⟨_,.binOp .neq _ _ _ _,_,_,_,none⟩::_) _ _ _ _);first | exact R2 yb3 rfl rfl | exact R2 (qo0 UnI.h) rfl rfl)
   | ((with_reducible show _->RSeq _ _ _ _ (⟨_,.binOp .leq _ _ _ _,_,_,_,none⟩::_) _ _ _ _);first | exact R2 yo4 rfl rfl)
   | ((with_reducible show _->RSeq _ _ _ _ (⟨_,.binOp .gtr _ _ _ _,_,_,_,none⟩::_) _ _ _ _);first | exact R2 qk1 rfl rfl)
   | ((with_reducible show _->RSeq _ _ _ _ (⟨_,.binOp .geq _ _ _ _,_,_,_,none⟩::_) _ _ _ _);first | exact R2 qk9 rfl rfl)
   | ((with_reducible show _->RSeq _ _ _ _ (⟨_,.binOp .add _ _ _ _,_,_,_,none⟩::_) _ _ _ _);first | exact R2 (xc9 zah) rfl rfl)
   | ((with_reducible show _->RSeq _ _ _ _ (⟨_,.binOp .sub _ _ _ _,_,_,_,none⟩::_) _ _ _ _);first | exact R2 (xf9 zah) rfl rfl)
   | ((with_reducible show _->RSeq _ _ _ _ (⟨_,.unOp _ _ _,_,_,_,none⟩::_) _ _ _ _);first | exact R1 xm4 rfl)
   | ((with_reducible show _->RSeq _ _ _ _ (⟨_,.nilCheck _,_,_,_,none⟩::_) _ _ _ _);first | exact R1 xa9 rfl | exact R1 qb8 rfl)
   | ((with_reducible show _->RSeq _ _ _ _ (⟨_,.pick _ _ _,_,_,_,none⟩::_) _ _ _ _);first | exact R2 (xm0 (by first | rfl | assumption | exact zbg (by assumption) | exact xd5 (by assumption))) rfl rfl | exact R2 (xc8 (by first | rfl | assumption | exact zbf (by assumption) | exact xb9 (by assumption))) rfl rfl)
   | ((with_reducible show _->RSeq _ _ _ _ (⟨_,.store _ _ _,_,_,_,none⟩::_) _ _ _ _);first | exact Rs rfl rfl rfl rfl rfl rfl rfl)
   | ((with_reducible show _->RSeq _ _ _ _ (⟨_,.box _ _,_,_,_,none⟩::_) _ _ _ _);first | exact Rbx rfl rfl ⟨rfl,trivial⟩))
  | ((with_reducible show _->RSeq _ _ _ _ (⟨_,_,_,_,_,some _⟩::_) _ _ _ _);first
   | exact RGoff (by first | rfl | assumption | exact zbf (by assumption) | exact zbg (by assumption) | exact xd5 (by assumption) | exact xb9 (by assumption)) rfl rfl
   | exact RGoffU rfl rfl
   | ((with_reducible show _->RSeq _ _ _ _ (⟨_,.move _,_,_,_,some _⟩::_) _ _ _ _);first | exact RG1 (by first | rfl | assumption | exact zbf (by assumption) | exact zbg (by assumption) | exact xd5 (by assumption) | exact xb9 (by assumption)) rfl xa4 rfl rfl)
   | ((with_reducible show _->RSeq _ _ _ _ (⟨_,.load _ _,_,_,_,some _⟩::_) _ _ _ _);first | exact RG1 (by first | rfl | assumption | exact zbf (by assumption) | exact zbg (by assumption) | exact xd5 (by assumption) | exact xb9 (by assumption)) rfl (xi6 inferInstance) rfl rfl | exact RGl (by first | rfl | assumption | exact zbf (by assumption) | exact zbg (by assumption) | exact xd5 (by assumption) | exact xb9 (by assumption)) rfl (x7 0 inferInstance rfl rfl) rfl rfl rfl | exact RGlF (by first | rfl | assumption | exact zbf (by assumption) | exact zbg (by assumption) | exact xd5 (by assumption) | exact xb9 (by assumption)) rfl rfl rfl rfl rfl (by first | exact At.g 0 rfl rfl | exact At.g 1 rfl rfl | exact At.g 2 rfl rfl | exact At.g 3 rfl rfl | exact At.g 4 rfl rfl | exact At.g 5 rfl rfl | exact At.g 6 rfl rfl))
   | ((with_reducible show _->RSeq _ _ _ _ (⟨_,.fieldAddr _ _ _,_,_,_,some _⟩::_) _ _ _ _);first | exact RG1 (by first | rfl | assumption | exact zbf (by assumption) | exact zbg (by assumption) | exact xd5 (by assumption) | exact xb9 (by assumption)) rfl (xf4 FoI.h rfl) rfl rfl)
   | ((with_reducible show _->RSeq _ _ _ _ (⟨_,.unOp _ _ _,_,_,_,some _⟩::_) _ _ _ _);first | exact RG1 (by first | rfl | assumption | exact zbf (by assumption) | exact zbg (by assumption) | exact xd5 (by assumption) | exact xb9 (by assumption)) rfl xm4 rfl rfl)
   | ((with_reducible show _->RSeq _ _ _ _ (⟨_,.call _,_,_,_,some _⟩::_) _ _ _ _);first | exact RG1 (by first | rfl | assumption | exact zbf (by assumption) | exact zbg (by assumption) | exact xd5 (by assumption) | exact xb9 (by assumption)) rfl b_len rfl rfl)
   | ((with_reducible show _->RSeq _ _ _ _ (⟨_,.extract _ _,_,_,_,some _⟩::_) _ _ _ _);first | exact RG1 (by first | rfl | assumption | exact zbf (by assumption) | exact zbg (by assumption) | exact xd5 (by assumption) | exact xb9 (by assumption)) rfl (xd9 rfl) rfl rfl)
   | ((with_reducible show _->RSeq _ _ _ _ (⟨_,.binOp .lss _ _ _ _,_,_,_,some _⟩::_) _ _ _ _);first | exact RG2 (by first | rfl | assumption | exact zbf (by assumption) | exact zbg (by assumption) | exact xd5 (by assumption) | exact xb9 (by assumption)) rfl yo2 rfl rfl rfl)
   | ((with_reducible show _->RSeq _ _ _ _ (⟨_,.binOp .eql _ _ _ _,_,_,_,some _⟩::_) _ _ _ _);first | exact RG2 (by first | rfl | assumption | exact zbf (by assumption) | exact zbg (by assumption) | exact xd5 (by assumption) | exact xb9 (by assumption)) rfl zp6 rfl rfl rfl)
   | ((with_reducible show _->RSeq _ _ _ _ (⟨_,.binOp .neq _ _ _ _,_,_,_,some _⟩::_) _ _ _ _);first | exact RG2 (by first | rfl | assumption | exact zbf (by assumption) | exact zbg (by assumption) | exact xd5 (by assumption) | exact xb9 (by assumption)) rfl yb3 rfl rfl rfl)
   | ((with_reducible show _->RSeq _ _ _ _ (⟨_,.binOp .leq _ _ _ _,_,_,_,some _⟩::_) _ _ _ _);first | exact RG2 (by first | rfl | assumption | exact zbf (by assumption) | exact zbg (by assumption) | exact xd5 (by assumption) | exact xb9 (by assumption)) rfl yo4 rfl rfl rfl)
   | ((with_reducible show _->RSeq _ _ _ _ (⟨_,.binOp .gtr _ _ _ _,_,_,_,some _⟩::_) _ _ _ _);first | exact RG2 (by first | rfl | assumption | exact zbf (by assumption) | exact zbg (by assumption) | exact xd5 (by assumption) | exact xb9 (by assumption)) rfl qk1 rfl rfl rfl)
   | ((with_reducible show _->RSeq _ _ _ _ (⟨_,.binOp .geq _ _ _ _,_,_,_,some _⟩::_) _ _ _ _);first | exact RG2 (by first | rfl | assumption | exact zbf (by assumption) | exact zbg (by assumption) | exact xd5 (by assumption) | exact xb9 (by assumption)) rfl qk9 rfl rfl rfl))
  | ((with_reducible show _->RSeq _ _ _ _ [] _ _ _ _);first | with_reducible exact xg5 (by with_unfolding_all kernel_rfl) | with_reducible exact zf0 (by with_unfolding_all kernel_rfl))
  | ((with_reducible show _->wk _ .normal (Exit.then _ _) _ _ _);exact xc6)
  | with_reducible exact xd7
  | with_reducible exact xg4
  | with_reducible exact xq3
  | with_reducible exact xe4
  | with_reducible exact ye7
  | with_reducible exact ye9
  | with_reducible exact xr6
  | with_reducible exact yo9
  | with_reducible exact K_retT
  | with_reducible exact K_retB
  | with_reducible exact C_ret
  | ((with_reducible show _->wk _ (.exit _) (Exit.inBlock _ _) _ _ _);exact K_exO rfl)
  | ((with_reducible show _->wc _ _ (.cond _ _ _) _ _ _ _);first | exact C_bT rfl (by first | rfl | assumption | exact zbg (by assumption) | exact xd5 (by assumption)) | exact xi9 rfl (by first | rfl | assumption | exact zbf (by assumption) | exact xb9 (by assumption)))
  | ((with_reducible show _->wc _ _ (.region _ _ true) _ _ _ _);exact yq5 mixed)):q->p:=hs
theorem S1 {p q:Prop} (hs:q->p:=by first | exact S0 | ((show _->RSeq _ _ _ _ (_::_) _ _ _ _);exact S0) | ((show _->RSeq _ _ _ _ [] _ _ _ _);exact S0)):q->p:=hs
theorem B2 {p q r:Prop} (a:q->p) (b:r->q):r->p:=fun h=>a (b h)
theorem A1 {p q:Prop} (hq:q) (hs:q->p:=by exact S1):p:=hs hq
theorem A2 {p q:Prop} (hq:q) (hs:q->p:=by exact B2 S1 S1):p:=hs hq
theorem A3 {p q:Prop} (hq:q) (hs:q->p:=by exact B2 S1 (B2 S1 S1)):p:=hs hq
theorem A4 {p q:Prop} (hq:q) (hs:q->p:=by exact B2 S1 (B2 S1 (B2 S1 S1))):p:=hs hq
theorem A5 {p q:Prop} (hq:q) (hs:q->p:=by exact B2 S1 (B2 S1 (B2 S1 (B2 S1 S1)))):p:=hs hq
theorem A6 {p q:Prop} (hq:q) (hs:q->p:=by exact B2 S1 (B2 S1 (B2 S1 (B2 S1 (B2 S1 S1))))):p:=hs hq
theorem A7 {p q:Prop} (hq:q) (hs:q->p:=by exact B2 S1 (B2 S1 (B2 S1 (B2 S1 (B2 S1 (B2 S1 S1)))))):p:=hs hq
theorem A8 {p q:Prop} (hq:q) (hs:q->p:=by exact B2 S1 (B2 S1 (B2 S1 (B2 S1 (B2 S1 (B2 S1 (B2 S1 S1))))))):p:=hs hq
theorem A9 {p q:Prop} (hq:q) (hs:q->p:=by exact B2 S1 (B2 S1 (B2 S1 (B2 S1 (B2 S1 (B2 S1 (B2 S1 (B2 S1 S1)))))))):p:=hs hq
theorem S9 {p q:Prop} (hs:q->p:=by exact B2 S1 (B2 S1 (B2 S1 (B2 S1 (B2 S1 (B2 S1 (B2 S1 (B2 S1 S1)))))))):q->p:=hs
theorem A10 {p q:Prop} (hq:q) (hs:q->p:=by exact B2 S9 S1):p:=hs hq
theorem A11 {p q:Prop} (hq:q) (hs:q->p:=by exact B2 S9 (B2 S1 S1)):p:=hs hq
theorem A12 {p q:Prop} (hq:q) (hs:q->p:=by exact B2 S9 (B2 S1 (B2 S1 S1))):p:=hs hq
theorem A13 {p q:Prop} (hq:q) (hs:q->p:=by exact B2 S9 (B2 S1 (B2 S1 (B2 S1 S1)))):p:=hs hq
theorem A14 {p q:Prop} (hq:q) (hs:q->p:=by exact B2 S9 (B2 S1 (B2 S1 (B2 S1 (B2 S1 S1))))):p:=hs hq
theorem A15 {p q:Prop} (hq:q) (hs:q->p:=by exact B2 S9 (B2 S1 (B2 S1 (B2 S1 (B2 S1 (B2 S1 S1)))))):p:=hs hq
theorem A16 {p q:Prop} (hq:q) (hs:q->p:=by exact B2 S9 (B2 S1 (B2 S1 (B2 S1 (B2 S1 (B2 S1 (B2 S1 S1))))))):p:=hs hq
theorem A17 {p q:Prop} (hq:q) (hs:q->p:=by exact B2 S9 (B2 S1 (B2 S1 (B2 S1 (B2 S1 (B2 S1 (B2 S1 (B2 S1 S1)))))))):p:=hs hq
theorem A18 {p q:Prop} (hq:q) (hs:q->p:=by exact B2 S9 S9):p:=hs hq
end An
namespace An.S
open Go Go.Proofs An Tryz
abbrev zgr:=@Tryz.underlying37
abbrev zgs:=@Tryz.underlying233
abbrev zgt:=@Tryz.underlying23
abbrev zgu:=@Tryz.underlying284
abbrev zgv:=@Tryz.underlying64
abbrev zgw:=@Tryz.underlying123
abbrev zgx:=@Tryz.underlying5
abbrev zgy:=@Tryz.underlying9
abbrev zgz:=@Tryz.underlying3
abbrev zha:=@Tryz.underlying283
abbrev zhb:=@Tryz.underlying4
abbrev zhc:=@Tryz.underlying71
abbrev zhd:=@Tryz.underlying22
abbrev zhe:=@Tryz.underlying77
abbrev zhf:=@Tryz.underlying156
abbrev zhg:=@Tryz.underlying30
abbrev zhh:=@Tryz.underlying159
abbrev zhi:=@Tryz.underlying93
abbrev zhj:=@Tryz.underlying166
instance ti3:TyI Tryz.prog 3 1 false:=⟨by kernel_rfl,by kernel_rfl⟩
instance ti64:TyI Tryz.prog 64 1 false:=⟨by kernel_rfl,by kernel_rfl⟩
instance ti284:TyI Tryz.prog 284 1 false:=⟨by kernel_rfl,by kernel_rfl⟩
instance sl37:SlI Tryz.prog 37 64 1 false:=⟨zgr,ti64⟩
instance sl233:SlI Tryz.prog 233 284 1 false:=⟨zgs,ti284⟩
theorem el3:ElI Tryz.prog 3 1 8 false (.int .i64 0):=⟨ti3,by kernel_rfl,by kernel_rfl⟩
theorem el64:ElI Tryz.prog 64 1 2 false (.int .u16 0):=⟨ti64,by kernel_rfl,by kernel_rfl⟩
theorem el284:ElI Tryz.prog 284 1 4 false (.int .u32 0):=⟨ti284,by kernel_rfl,by kernel_rfl⟩
theorem zf3:Flat 1 false (.int .i64 0):=xd6 rfl
theorem zf64:Flat 1 false (.int .u16 0):=xd6 rfl
theorem zf284:Flat 1 false (.int .u32 0):=xd6 rfl
instance un23:UnI Tryz.prog 23 (.slice 3):=⟨zgt⟩
instance un37:UnI Tryz.prog 37 (.slice 64):=⟨zgr⟩
instance un233:UnI Tryz.prog 233 (.slice 284):=⟨zgs⟩
theorem mixed:Tryz.prog.follows .mixedOrders=true:=by kernel_rfl
theorem qn8 {a:List Nat} {k:Nat} (hk:k<=a.length) (h0:0 < k) (hz:(a.take k).getD (k - 1) 0=0):trimL (a.take (k - 1))=trimL (a.take k):=by
 have h1:=xh8 a (k - 1) (by omega);rw [show k - 1+1=k from by omega] at h1;have h2:(a.take k).getD (k - 1) 0=a.getD (k - 1) 0:=by
  rw [zbh,List.getElem?_take,if_pos (by omega),<-zbh]
 rw [h1,<-h2,hz,xu6]
theorem qo6 {a:List Nat} {k:Nat} (hk:k<=a.length) (h0:0 < k) (hz: ¬(a.take k).getD (k - 1) 0=0):trimL (a.take k)=a.take k:=by
 refine yh5 fun x hx=> ?_;have h1:=xh8 a (k - 1) (by omega);rw [show k - 1+1=k from by omega] at h1;have h2:(a.take k).getD (k - 1) 0=a.getD (k - 1) 0:=by
  rw [zbh,List.getElem?_take,if_pos (by omega),<-zbh]
 rw [h1,List.getLast?_append] at hx;simp at hx;rw [<-hx];rw [h2] at hz;simpa [List.getD_eq_getElem?_getD] using hz
theorem xs2 (a:List Nat):
  Ct Tryz.prog 335 [tWs a] (tWs (trimL a)):=by
 refine Ct.intro func335 rfl ntmps335 rfl ?_;intro w F;refine xj5 (s:=0) rfl (fun hl0=> ?_);refine A7 ?_;refine cL (fun (k:Nat)=>k<=a.length/\trimL (a.take k)=trimL a) (fun (k:Nat)=>uV uN 0 (tWs (a.take k))) (fun (k:Nat)=>fun _=>none) [] (fun (k:Nat)=>k) (a.length) ⟨zbm _,by rw [zci]⟩ (hg:=(Sub.le rfl (Le.of (by rw [zci])) zay)) ?_;intro k hI;obtain ⟨hk,hc⟩:=hI;have hkl:(a.take k).length=k:=by rw [zcz];omega
 refine A7 ?_;refine RGcaseD (t:=6) rfl (fun h53=> ?_) (fun h53=> ?_)
 ·
  refine A3 ?_;refine Rg (zbg h53) rfl (xf9 zah) rfl qB (Rg (zbg h53) rfl (x8 sl233 (k - 1) (by omega) (gN (by omega))) rfl qB ?_);refine A5 ?_;refine xa6 rfl (fun h53_2=> ?_) (fun h53_2=> ?_)
  ·
   refine A8 ?_;refine R2 (xs9 sl233 (k - 1) (by omega) (by omega) (by rw [List.take_take,zgb (by omega)])) rfl rfl ?_;refine A3 ?_;exact kF (k - 1) ⟨⟨by omega,by rw [qn8 hk (by omega) (by omega)];exact hc⟩,(by omega)⟩
  ·
   refine A12 ?_;exact E1 rfl rfl (Le.of (by rw [<-hc,qo6 hk (by omega) (by omega)]))
 ·
  refine A18 ?_;refine A5 ?_;exact E1 rfl rfl (Le.of (by rw [<-hc,show k=0 from by omega,List.take_zero];rfl))
theorem zk6 (xs:List Nat) (hx:xs.length<=1000000):
  CtG Tryz.prog 376 [] [.val (tWs xs)] (.own (.sl 2 1 0 xs.length)) [(2,⟨284,1,false,rW .u32 xs⟩)] [2]:=by
 refine CtG.intro [] func376 rfl ntmps376 rfl rfl trivial ?_;intro w F η;refine A9 ?_;refine R1 (zh4 zgs) rfl ?_;refine A2 ?_;refine zu6 (s:=4) rfl (fun b357 hb357=> ?_);refine xc7 rfl (fun h357=> ?_) (fun h357=> ?_)
 ·
  subst h357;have hnil:=hb357 rfl;subst hnil;refine A2 ?_;refine RE (xh7 (k:=2) 284 1 false rfl (fun _=>rfl)) trivial trivial qA ?_;refine A4 ?_;exact xg3 LentC.mk' rfl rfl Imp.refl qA rfl ⟨⟨rfl,xf3⟩,trivial⟩ rfl
 ·
  refine A4 ?_;refine RE (xi0 (k:=5) (ents:=[]) zgs el284 zf284 rfl (by simp) rfl rfl rfl) trivial trivial qA ?_;refine A1 ?_;refine RE (xc5 (k:=5) (k':=2) (ts':=rW .u32 xs) zgs el284 zf284 rfl rfl (fun _=>inferInstance) rfl (by simp;omega) (by simp;omega) (by simp [rW]) (n':=xs.length) (by simp)) ⟨rfl,rfl,trivial⟩ ⟨rfl,trivial⟩ ⟨rfl,trivial⟩ ?_;refine A4 ?_;exact xg3 LentC.mk' rfl rfl Imp.refl qA rfl ⟨⟨rfl,xf3⟩,trivial⟩ rfl
theorem zm1 (xs:List Nat) (hx:xs.length<=1000000):
  CtG Tryz.prog 216 [] [.val (tLm xs)] (.own (.sl 2 1 0 xs.length)) [(2,⟨64,1,false,rW .u16 xs⟩)] [2]:=by
 refine CtG.intro [] func216 rfl ntmps216 rfl rfl trivial ?_;intro w F η;refine A9 ?_;refine R1 (zh4 zgr) rfl ?_;refine A2 ?_;refine zu6 (s:=4) rfl (fun b357 hb357=> ?_);refine xc7 rfl (fun h357=> ?_) (fun h357=> ?_)
 ·
  subst h357;have hnil:=hb357 rfl;subst hnil;refine A2 ?_;refine RE (xh7 (k:=2) 64 1 false rfl (fun _=>rfl)) trivial trivial qA ?_;refine A4 ?_;exact xg3 LentC.mk' rfl rfl Imp.refl qA rfl ⟨⟨rfl,xf3⟩,trivial⟩ rfl
 ·
  refine A4 ?_;refine RE (xi0 (k:=5) (ents:=[]) zgr el64 zf64 rfl (by simp) rfl rfl rfl) trivial trivial qA ?_;refine A1 ?_;refine RE (xc5 (k:=5) (k':=2) (ts':=rW .u16 xs) zgr el64 zf64 rfl rfl (fun _=>inferInstance) rfl (by simp;omega) (by simp;omega) (by simp [rW]) (n':=xs.length) (by simp)) ⟨rfl,rfl,trivial⟩ ⟨rfl,trivial⟩ ⟨rfl,trivial⟩ ?_;refine A4 ?_;exact xg3 LentC.mk' rfl rfl Imp.refl qA rfl ⟨⟨rfl,xf3⟩,trivial⟩ rfl
theorem yk8 (xs:List Int) (hx:xs.length<=1000000):
  CtG Tryz.prog 72 [] [.val (tIs xs)] (.own (.sl 2 1 0 xs.length)) [(2,⟨3,1,false,rI xs⟩)] [2]:=by
 refine CtG.intro [] func72 rfl ntmps72 rfl rfl trivial ?_;intro w F η;refine A9 ?_;refine R1 (zh4 zgt) rfl ?_;refine A2 ?_;refine zu6 (s:=4) rfl (fun b357 hb357=> ?_);refine xc7 rfl (fun h357=> ?_) (fun h357=> ?_)
 ·
  subst h357;have hnil:=hb357 rfl;subst hnil;refine A2 ?_;refine RE (xh7 (k:=2) 3 1 false rfl (fun _=>rfl)) trivial trivial qA ?_;refine A4 ?_;exact xg3 LentC.mk' rfl rfl Imp.refl qA rfl ⟨⟨rfl,xd2⟩,trivial⟩ rfl
 ·
  refine A4 ?_;refine RE (xi0 (k:=5) (ents:=[]) zgt el3 zf3 rfl (by simp) rfl rfl rfl) trivial trivial qA ?_;refine A1 ?_;refine RE (xc5 (k:=5) (k':=2) (ts':=rI xs) zgt el3 zf3 rfl rfl (fun _=>inferInstance) rfl (by simp;omega) (by simp;omega) (by simp [rI]) (n':=xs.length) (by simp)) ⟨rfl,rfl,trivial⟩ ⟨rfl,trivial⟩ ⟨rfl,trivial⟩ ?_;refine A4 ?_;exact xg3 LentC.mk' rfl rfl Imp.refl qA rfl ⟨⟨rfl,xd2⟩,trivial⟩ rfl
theorem c_pack (l:List Nat) (hl:Dig 65536 l) (hn:l.length<=1000000):
  Ct Tryz.prog 214 [tLm l] (tWs (dgs 4294967296 ((l.length+1) / 2) (val 65536 l))):=by
 refine Ct.intro func214 rfl ntmps214 rfl ?_;intro w F;refine A10 ?_;refine R2 (qv1 (by omega) (by omega) zah) rfl rfl (RE (xe5 (k:=10) (t:=tE (.int .u32 0)) (ts:=rW .u32 (dgs 4294967296 ((l.length+1) / 2) 0)) ((l.length+1) / 2) ((l.length+1) / 2) zgs el284 (fun _ _=>rfl) rfl (by omega) (by omega) (zbm _) (by omega) (by omega) (by rw [qt9];exact xp5 _)) qB trivial qA ?_);refine A12 ?_;refine cL (fun (i:Nat)=>i<=l.length) (fun (i:Nat)=>uV (uV (uV (uO uN 3 (.sl 10 1 0 ((l.length+1) / 2))) 11 (tLm l)) 12 (tI l.length)) 13 (tI i)) (fun (i:Nat)=>uK uN 10 284 1 false (rW .u32 (dgs 4294967296 ((l.length+1) / 2) (val 65536 (l.take i))))) [10] (fun (i:Nat)=>l.length - i) (0) (zbs _) (hh:=(zaq rfl (ImpK.ofTs (by simp [val])) zax)) ?_;intro i hI;refine A6 ?_;refine xa6 rfl (fun h28=> ?_) (fun h28=> ?_)
 ·
  have hx:=hl.getD (by omega) i;have hw:(dgs 4294967296 ((l.length+1) / 2) (val 65536 (l.take i))).getD (i / 2) 0 < 65536 ^ (i%2):=by rw [xw0 (by omega)];exact zo9 hl i (by omega)
  refine A7 ?_;refine R2 (x8 sl37 (i) (by omega) (gN (by omega))) rfl rfl ?_;refine A8 ?_;refine R2 (qv1 (by omega) (by omega) zah) rfl rfl (R2 (zag sl233 rfl) rfl rfl (RE (x7 (i / 2) ti284 (xo6 (by rw [xg7];omega)) (by omega)) qA qA trivial ?_));refine A1 ?_;refine R1 (x9 zgu (isS zgv) (by first | exact wu32 (by omega) (by omega) | exact mu32)) rfl ?_;refine A1 ?_;refine R2 (ze3 (by omega) (by omega)) rfl rfl (R2 (xj0 zah) rfl rfl (R2 (xz8 (by omega) (shl16 hx)) rfl rfl (R2 (yd9 (jn1 hw hx)) rfl rfl (R2 (zag sl233 rfl) rfl rfl (RE (xa8 (i / 2) ti284 (xj2 (by rw [xg7];omega)) (by omega) (xh1 (m:=_) rfl)) qB qA trivial ?_)))));refine A7 ?_;exact kF (i+1) ⟨(by omega),(by omega)⟩ (hh:=(zaq rfl (ImpK.ofTs (by rw [qq4 hl (by omega) (by omega)])) zax))
 ·
  refine A7 ?_;refine RE (xi5 (fun _ h=>h) (xk2 (xg7 _ _ _)) (xg7 _ _ _)) qA qA trivial ?_;refine A4 ?_;exact E1 rfl rfl (Le.of (by rw [show i=l.length by omega,zci]))
instance fi347:FnI Tryz.prog 347:=⟨_,func347,by kernel_rfl,rfl⟩
def subD (x y b:Nat):Nat:=(x+8589934592 - y - b)%4294967296
def subB (x y b:Nat):Nat:=if x < y+b then 1 else 0
theorem zh2 (x y b:Nat):subD x y b < 4294967296:=zcd _ (by decide)
theorem jk7 {x y b:Nat} (hy:y < 4294967296) (hb:b<=1):IntKind.u32.wrap (((x:Int) - y)%4294967296 - b)=((subD x y b:Nat):Int):=by
 rw [mu32,subD];omega
theorem shr31 {m k:Nat} (h:m / 2147483648=k):((m:Nat):Int).fdiv (2 ^ (min (31:Int).toNat IntKind.u32.bits))=((k:Nat):Int):=by
 have e:(2:Int) ^ (min (31:Int).toNat IntKind.u32.bits)=((2147483648:Nat):Int):=by decide
 rw [e,<-h,zge _ (by omega)];rfl
theorem zj0 (x y b:Nat) (hx:x < 4294967296) (hy:y < 4294967296) (hb:b<=1):
  Ct Tryz.prog 382 [tE (.int .u32 (x:Int)),tE (.int .u32 (y:Int)),tE (.int .u32 (b:Int))] (tT [tE (.int .u32 (subD x y b:Nat)),tE (.int .u32 (subB x y b:Nat))]):=by
 have hd:=zh2 x y b;have hxy:(x ^^^ y) < 4294967296:=Nat.xor_lt_two_pow (n:=32) hx hy;have ha:((4294967295 - x) &&& y) < 4294967296:=Nat.and_lt_two_pow _ (n:=32) hy;have hc:((4294967295 - (x ^^^ y)) &&& subD x y b) < 4294967296:=Nat.and_lt_two_pow _ (n:=32) hd;refine Ct.intro func382 rfl ntmps382 rfl ?_;intro w F;refine A10 ?_;refine R2 (xf9 mu32) rfl rfl ?_;refine A1 ?_;refine R2 (xf9 (jk7 hy hb)) rfl rfl ?_;refine A6 ?_;refine R1 (qh7 hx) rfl ?_;refine A1 ?_;refine R2 (zc2 (band32 (by omega) hy)) rfl rfl ?_;refine A2 ?_;refine R2 (d_xor (bxor32 hx hy)) rfl rfl (R1 (qh7 hxy) rfl ?_);refine A1 ?_;refine R2 (zc2 (band32 (by omega) hd)) rfl rfl (R2 (yd9 (bor32 ha hc)) rfl rfl (R2 (xj1 (by decide) (shr31 (borrow32 hx hy hb rfl))) rfl rfl ?_));refine A4 ?_;exact E2 rfl rfl rfl zao zao
theorem shr32 {m:Nat}:((m:Nat):Int).fdiv (2 ^ (min (32:Int).toNat IntKind.u64.bits))=((m / 4294967296:Nat):Int):=by
 have e:(2:Int) ^ (min (32:Int).toNat IntKind.u64.bits)=((4294967296:Nat):Int):=by decide
 rw [e,zge _ (by omega)];rfl
theorem jo7 (x y b:Nat) (hx:x < 4294967296) (hy:y < 4294967296) (hb:b<=1):
  Ct Tryz.prog 397 [tE (.int .u32 (x:Int)),tE (.int .u32 (y:Int)),tE (.int .u32 (b:Int))] (tT [tE (.int .u32 ((x+y+b)%4294967296:Nat)),tE (.int .u32 ((x+y+b) / 4294967296:Nat))]):=by
 refine Ct.intro func397 rfl ntmps397 rfl ?_;intro w F;refine A9 ?_;refine R1 (x9 zgw (isS zgu) (by first | exact wu64 (by omega) (by omega) | exact mu64)) rfl ?_;refine A1 ?_;refine R1 (x9 zgw (isS zgu) (by first | exact wu64 (by omega) (by omega) | exact mu64)) rfl (R2 (xc9 (by first | exact wu64 (by omega) (by omega) | exact mu64)) rfl rfl ?_);refine A1 ?_;refine R1 (x9 zgw (isS zgu) (by first | exact wu64 (by omega) (by omega) | exact mu64)) rfl (R2 (xc9 (r:=((x+y+b:Nat):Int)) (by rw [wu64 (by omega) (by omega)];omega)) rfl rfl ?_);refine A6 ?_;refine R1 (x9 zgu (isS zgw) (r:=(((x+y+b)%4294967296:Nat):Int)) (by rw [mu32];omega)) rfl ?_;refine A6 ?_;refine R2 (xj1 (by decide) shr32) rfl rfl (R1 (x9 zgu (isS zgw) (by first | exact wu32 (by omega) (by omega) | exact mu32)) rfl ?_);refine A4 ?_;exact E2 rfl rfl rfl zao zao
theorem shl32 {m:Nat} (h:m < 4294967296):IntKind.u64.wrap ((m:Int)*2 ^ (min (32:Int).toNat IntKind.u64.bits))=((m*2 ^ 32:Nat):Int):=by
 have e:(2:Int) ^ (min (32:Int).toNat IntKind.u64.bits)=4294967296:=by decide
 rw [e,wu64 (by omega) (by omega)];omega
theorem or32 {m n:Nat} (hm:m < 4294967296) (hn:n < 4294967296):bits .or .u64 ((m*2 ^ 32:Nat):Int) (n:Int)=((n+m*2 ^ 32:Nat):Int):=
 zi9 n m 32 rfl rfl (by omega) (wu64 (by omega) (by omega)) (by have:IntKind.u64.bits=64:=rfl;rw [this];omega)
theorem div32_lt {m n y:Nat} (hm:m < y) (hn:n < 4294967296):(n+m*2 ^ 32) / y < 4294967296:=by
 refine zdd ?_;have:(m+1)*4294967296<=y*4294967296:=zbr _ hm;omega
theorem ji4 (m n y q r:Nat) (hm:m < y) (hn:n < 4294967296) (hy:y < 4294967296) (hq:(n+m*2 ^ 32) / y=q) (hr:(n+m*2 ^ 32)%y=r):
  Ct Tryz.prog 396 [tE (.int .u32 (m:Int)),tE (.int .u32 (n:Int)),tE (.int .u32 (y:Int))] (tT [tE (.int .u32 (q:Int)),tE (.int .u32 (r:Int))]):=by
 have hq2:q < 4294967296:=hq▸div32_lt hm hn;have hr2:r < y:=hr▸zcd _ (by omega);have hb:n+m*2 ^ 32 < 18446744073709551616:=by omega
 refine Ct.intro func396 rfl ntmps396 rfl ?_;intro w F;refine A12 ?_;refine RGcaseD (t:=11) rfl (fun h506=> ?_) (fun h506=> ?_)
 ·
  refine A6 ?_;refine xi9 rfl (zbf (by omega)) ?_;refine A5 ?_;refine R1 (x9 zgw (isS zgu) (by first | exact wu64 (by omega) (by omega) | exact mu64)) rfl (R2 (xz8 (by decide) (shl32 (by omega))) rfl rfl ?_);refine A1 ?_;refine R1 (x9 zgw (isS zgu) (by first | exact wu64 (by omega) (by omega) | exact mu64)) rfl (R2 (yd9 (or32 (by omega) hn)) rfl rfl ?_);refine A7 ?_;refine R1 (x9 zgw (isS zgu) (by first | exact wu64 (by omega) (by omega) | exact mu64)) rfl (R2 (xs3 (r:=(q:Int)) (by omega) (by rw [Int.tdiv_eq_ediv_of_nonneg (by omega)];exact (congrArg _ ((Int.natCast_ediv _ _).symm.trans (congrArg _ hq))).trans (wu64 (by omega) (by omega)))) rfl rfl (R1 (x9 zgu (isS zgw) (by first | exact wu32 (by omega) (by omega) | exact mu32)) rfl ?_));refine A2 ?_;refine R1 (x9 zgw (isS zgu) (by first | exact wu64 (by omega) (by omega) | exact mu64)) rfl (R2 (xr1 (r:=(r:Int)) (by omega) (by rw [Int.tmod_eq_emod_of_nonneg (by omega)];exact (Int.natCast_emod _ _).symm.trans (congrArg _ hr))) rfl rfl (R1 (x9 zgu (isS zgw) (by first | exact wu32 (by omega) (by omega) | exact mu32)) rfl ?_));refine A5 ?_;exact E2 rfl rfl rfl zao zao
 ·
  exact absurd h506 (by omega)
theorem qz2 (x:Nat):Lib.bitLen x<=64:=by
  have: ∀f x,Lib.bitLenAux f x<=f:=by
    intro f
    induction f with
    | zero=>intro x;simp [Lib.bitLenAux]
    | succ f ih => intro x; simp only [Lib.bitLenAux]; split
                   · omega
                   · have:=ih (x / 2);omega
  exact this 64 x
theorem wrl (y:Nat):IntKind.i64.wrap ((Lib.bitLen y:Nat):Int)=((Lib.bitLen y:Nat):Int):=wr64 (by omega) (by have:=qz2 y;omega)
theorem wrl2 {e:Int} {y:Nat} (h0:0<=e) (h1:e<=100):IntKind.i64.wrap (e+((Lib.bitLen y:Nat):Int))=e+((Lib.bitLen y:Nat):Int):=wr64 (by omega) (by have:=qz2 y;omega)
theorem shrN {m s:Nat} {k:IntKind} {i:Int} (hi:i=(s:Int)) (hs:s<=k.bits):((m:Nat):Int).fdiv (2 ^ (min i.toNat k.bits))=((m / 2 ^ s:Nat):Int):=by
 subst hi;rw [Int.toNat_natCast,zgb hs,zge _ (by exact_mod_cast zbs _)];simp
theorem jo5 (x:Nat) (hx:x < 4294967296):
  Ct Tryz.prog 347 [tE (.int .u32 (x:Int))] (tI (Lib.bitLen x:Nat)):=by
 refine Ct.intro func347 rfl ntmps347 rfl ?_;intro w F;refine A12 ?_;refine xa6 rfl (fun h325=> ?_) (fun h325=> ?_)
 ·
  refine A3 ?_;refine R2 (xj1 (by decide) (shrN (s:=16) rfl (by decide))) rfl rfl ?_;refine A14 ?_;refine xa6 rfl (fun h329=> ?_) (fun h329=> ?_)
  ·
   refine A3 ?_;refine R2 (xj1 (by decide) (shrN (s:=8) rfl (by decide))) rfl rfl ?_;refine A13 ?_;refine R1 (x9 zgx (isS zgu) (by first | exact wu8 (by omega) (by omega))) rfl (R1 (yb9 Lib.bitLen _ zgy rfl (by omega) (by decide+kernel)) rfl (R1 (x9 zgz (isS zgx) (wrl _)) rfl (R2 (xc9 (wrl2 (by omega) (by omega))) rfl rfl ?_)));refine A4 ?_;exact E1 rfl rfl (zba (by have h1:=Lib.bitLen_shift16 x (by omega) (by omega);have h2:=Lib.bitLen_shift8 (x / 65536) (by omega) (by omega);simp only [Nat.reducePow];omega))
  ·
   refine A6 ?_;refine R1 (x9 zgx (isS zgu) (by first | exact wu8 (by omega) (by omega))) rfl (R1 (yb9 Lib.bitLen _ zgy rfl (by omega) (by decide+kernel)) rfl (R1 (x9 zgz (isS zgx) (wrl _)) rfl (R2 (xc9 (wrl2 (by omega) (by omega))) rfl rfl ?_)));refine A4 ?_;exact E1 rfl rfl (zba (by have h1:=Lib.bitLen_shift16 x (by omega) (by omega);simp only [Nat.reducePow];omega))
 ·
  refine A9 ?_;refine xa6 rfl (fun h329=> ?_) (fun h329=> ?_)
  ·
   refine A3 ?_;refine R2 (xj1 (by decide) (shrN (s:=8) rfl (by decide))) rfl rfl ?_;refine A13 ?_;refine R1 (x9 zgx (isS zgu) (by first | exact wu8 (by omega) (by omega))) rfl (R1 (yb9 Lib.bitLen _ zgy rfl (by omega) (by decide+kernel)) rfl (R1 (x9 zgz (isS zgx) (wrl _)) rfl (R2 (xc9 (wrl2 (by omega) (by omega))) rfl rfl ?_)));refine A4 ?_;exact E1 rfl rfl (zba (by have h1:=Lib.bitLen_shift8 x (by omega) (by omega);simp only [Nat.reducePow];omega))
  ·
   refine A6 ?_;refine R1 (x9 zgx (isS zgu) (by first | exact wu8 (by omega) (by omega))) rfl (R1 (yb9 Lib.bitLen _ zgy rfl (by omega) (by decide+kernel)) rfl (R1 (x9 zgz (isS zgx) (wrl _)) rfl (R2 (xc9 (wrl2 (by omega) (by omega))) rfl rfl ?_)));refine A4 ?_;exact E1 rfl rfl (zba (by omega))
theorem yf4 (x:Nat) (hx:x < 4294967296):
  Ct Tryz.prog 378 [tE (.int .u32 (x:Int))] (tI ((32 - Lib.bitLen x:Nat):Int)):=by
 have hl:=Lib.bitLen_le x 32 (by decide) hx;refine Ct.intro func378 rfl ntmps378 rfl ?_;intro w F;refine A8 ?_;refine Rt (x3 (jo5 _ hx) fi347 rfl) qA ?_;refine A5 ?_;exact E1 rfl rfl (zba (by omega))
instance ti123:TyI Tryz.prog 123 1 false:=⟨by kernel_rfl,by kernel_rfl⟩
instance ti233:TyI Tryz.prog 233 1 false:=⟨by kernel_rfl,by kernel_rfl⟩
instance ti407:TyI Tryz.prog 407 1 false:=⟨by kernel_rfl,by kernel_rfl⟩
instance fi335:FnI Tryz.prog 335:=⟨_,func335,by kernel_rfl,rfl⟩
instance fi376:FnI Tryz.prog 376:=⟨_,func376,by kernel_rfl,rfl⟩
instance fi381:FnI Tryz.prog 381:=⟨_,func381,by kernel_rfl,rfl⟩
instance fi382:FnI Tryz.prog 382:=⟨_,func382,by kernel_rfl,rfl⟩
instance fi398:FnI Tryz.prog 398:=⟨_,func398,by kernel_rfl,rfl⟩
theorem zr123:(Tryz.prog.info? 123).bind (·.zero)=some (.int .u64 0)/\ ∀F w,(tE (.int .u64 0)).p F w (.int .u64 0):=⟨by kernel_rfl,fun _ _=>rfl⟩
theorem zr233:(Tryz.prog.info? 233).bind (·.zero)=some (.slice none 0 0)/\ ∀F w,(tWs []).p F w (.slice none 0 0):=⟨by kernel_rfl,fun _ _=>⟨none,0,rfl,zbm _,by decide,.inl rfl⟩⟩
theorem yt6 {a b k:Nat} (h0:0 < k) (h:a / 4294967296 ^ k=b / 4294967296 ^ k):a / 4294967296 ^ (k - 1+1)=b / 4294967296 ^ (k - 1+1):=by
 rw [show k - 1+1=k by omega];exact h
theorem yh4 (a b:Nat):
  Ct Tryz.prog 213 [tN a,tN b] (tI (cmpN a b)):=by
 refine Ct.intro func213 rfl ntmps213 rfl ?_;intro w F;refine xj5 (s:=0) rfl (fun hl0=> ?_);refine xj5 (s:=1) rfl (fun hl1=> ?_);have ha:=xg9 xa2 a;have hb:=xg9 xa2 b;refine A15 ?_;refine xa6 rfl (fun h75=> ?_) (fun h75=> ?_)
 ·
  refine A10 ?_;refine xa6 rfl (fun h76=> ?_) (fun h76=> ?_)
  ·
   refine A8 ?_;exact E1 rfl rfl (zba (qh3 (zv9 xa2 (by omega))).symm)
  ·
   refine A9 ?_;exact E1 rfl rfl (zba (qe6 (zv9 xa2 (by omega))).symm)
 ·
  refine A12 ?_;have hlen:(dig 4294967296 a).length=(dig 4294967296 b).length:=by omega
  rw [<-hlen] at hb;refine cL (fun (k:Nat)=>k<=(dig 4294967296 a).length/\a / 4294967296 ^ k=b / 4294967296 ^ k) (fun (k:Nat)=>uV (uV (uV uN 0 (tN a)) 1 (tN b)) 5 (tI ((k:Int) - 1))) (fun (k:Nat)=>fun _=>none) [] (fun (k:Nat)=>k) ((dig 4294967296 a).length) ⟨zbm _,by rw [zcv ha,zcv hb]⟩ ?_;intro k hI;obtain ⟨hk,hc⟩:=hI;refine A7 ?_;refine xa6 rfl (fun h81=> ?_) (fun h81=> ?_)
  ·
   refine A8 ?_;refine R2 (x8 sl233 (k - 1) (by omega) (gN (by omega))) rfl rfl ?_;refine A3 ?_;refine R2 (x8 sl233 (k - 1) (by omega) (gN (by omega))) rfl rfl ?_;refine A4 ?_;refine xa6 rfl (fun h82=> ?_) (fun h82=> ?_)
   ·
    refine A5 ?_;refine R2 (x8 sl233 (k - 1) (by omega) (gN (by omega))) rfl rfl ?_;refine A3 ?_;refine R2 (x8 sl233 (k - 1) (by omega) (gN (by omega))) rfl rfl ?_;refine A4 ?_;refine xa6 rfl (fun h83=> ?_) (fun h83=> ?_)
    ·
     refine A12 ?_;exact E1 rfl rfl (zba (qh3 (zu4 (by decide) (yt6 (by omega) hc) (by rw [<-xc1 xa2,<-xc1 xa2];omega))).symm)
    ·
     refine A13 ?_;exact E1 rfl rfl (zba (qe6 (zu4 (by decide) (yt6 (by omega) hc).symm (by rw [<-xc1 xa2,<-xc1 xa2];omega))).symm)
   ·
    refine A8 ?_;exact kF (k - 1) ⟨⟨by omega,zv2 (by decide) (yt6 (by omega) hc) (by rw [<-xc1 xa2,<-xc1 xa2];omega)⟩,(by omega)⟩
  ·
   refine A11 ?_;exact E1 rfl rfl (zba (jm7 (by have:=hc;rw [show k=0 by omega] at this;simpa using this)).symm)
theorem zr7 {x y b:Nat} (hx:x < 4294967296) (hy:y < 4294967296) (hb:b<=1):subD x y b+y+b=x+4294967296*subB x y b:=by
 simp only [subD,subB];split <;> omega
theorem qh0 (x y b:Nat):subB x y b<=1:=by simp only [subB];split <;> omega
theorem zb3 {a b i br y:Nat} {ws:List Nat} (hi:i < ws.length) (hD:Dig 4294967296 ws) (hdr:ws.drop i=(dig 4294967296 a).drop i) (hb:br<=1)
  (h:val 4294967296 (ws.take i)+b%4294967296 ^ i=a%4294967296 ^ i+br*4294967296 ^ i) (hy:y=b / 4294967296 ^ i%4294967296):
  (ws.set i (subD (ws.getD i 0) y br)).length=ws.length/\Dig 4294967296 (ws.set i (subD (ws.getD i 0) y br))/\(ws.set i (subD (ws.getD i 0) y br)).drop (i+1)=(dig 4294967296 a).drop (i+1)/\subB (ws.getD i 0) y br<=1/\
   val 4294967296 ((ws.set i (subD (ws.getD i 0) y br)).take (i+1))+b%4294967296 ^ (i+1)=a%4294967296 ^ (i+1)+subB (ws.getD i 0) y br*4294967296 ^ (i+1):=by
 refine ⟨by simp,hD.set (zh2 _ _ _),by rw [xf2];exact xj4 hdr (by omega),qh0 _ _ _,?_⟩;rw [xg0 hi];exact zz9 h (by rw [xi3 hdr (zbm _),xc1 xa2]) hy (zr7 (hD.getD (by omega) i) (by rw [hy];exact zcd _ (by omega)) hb)
theorem yv1 (a b:Nat) (hab:b<=a) (hn:(dig 4294967296 a).length<=100000):
  Ct Tryz.prog 338 [tN a,tN b] (tN (a - b)):=by
 refine Ct.intro func338 rfl ntmps338 rfl ?_;intro w F;refine A8 ?_;refine RE (xe9 (fun _=>10) (zk6 _ (by omega)) fi376 rfl (krN (ρ:=fun _=>10)) (krC (ρ:=fun _=>10) (k:=2) xi2 (krN (ρ:=fun _=>10))) ⟨⟨rfl,xf3⟩,trivial⟩ rfl) qA trivial qA ?_;refine A17 ?_;refine cL (fun (fm:(Nat)×(List Nat)×(Nat))=>(fun (i:Nat) (ws:List Nat) (br:Nat)=>i<=(dig 4294967296 a).length/\ws.length=(dig 4294967296 a).length/\Dig 4294967296 ws/\ws.drop i=(dig 4294967296 a).drop i/\br<=1/\val 4294967296 (ws.take i)+b%4294967296 ^ i=a%4294967296 ^ i+br*4294967296 ^ i) fm.1 fm.2.1 fm.2.2) (wC fun (i:Nat) (ws:List Nat) (br:Nat)=>uV (uV (uV (uO (uV uN 1 (tN b)) 5 (.sl 10 1 0 (dig 4294967296 a).length)) 6 (tE (.int .u32 (br:Int)))) 12 (tI (dig 4294967296 a).length)) 13 (tI i)) (wC fun (i:Nat) (ws:List Nat) (br:Nat)=>uK uN 10 284 1 false (rW .u32 ws)) [10] (fun (fm:(Nat)×(List Nat)×(Nat))=>(fun (i:Nat) (ws:List Nat) (br:Nat)=>(dig 4294967296 a).length - i) fm.1 fm.2.1 fm.2.2) ((0,dig 4294967296 a,0)) (by dsimp only;exact ⟨zbs _,rfl,xc3 xa2 a,rfl,by omega,by simp [val,Nat.mod_one]⟩) ?_;intro fm hI;obtain ⟨i,ws,br⟩:=fm;replace hI:i<=(dig 4294967296 a).length/\ws.length=(dig 4294967296 a).length/\Dig 4294967296 ws/\ws.drop i=(dig 4294967296 a).drop i/\br<=1/\val 4294967296 (ws.take i)+b%4294967296 ^ i=a%4294967296 ^ i+br*4294967296 ^ i:=hI;show wc _ _ _ _ (uV (uV (uV (uO (uV uN 1 (tN b)) 5 (.sl 10 1 0 (dig 4294967296 a).length)) 6 (tE (.int .u32 (br:Int)))) 12 (tI (dig 4294967296 a).length)) 13 (tI i)) (uK uN 10 284 1 false (rW .u32 ws)) _;obtain ⟨hi,hl,hD,hdr,hbr,hv⟩:=hI;have hx:=hD.getD (by omega) i;have hy1:=(xc3 xa2 b).getD (by omega) i;refine A6 ?_;refine xa6 rfl (fun h124=> ?_) (fun h124=> ?_)
 ·
  refine A18 ?_;refine A6 ?_;refine xa6 rfl (fun h126=> ?_) (fun h126=> ?_)
  ·
   have hy:=xc1 xa2 b i;refine A3 ?_;refine R2 (x8 sl233 (i) (by omega) (gN (by omega))) rfl rfl ?_;refine A9 ?_;refine R2 (zag sl233 rfl) rfl rfl (RE (x7 (i) ti284 (xo6 (by omega)) (by omega)) qA qA trivial ?_);refine A2 ?_;refine Rt (x3 (zj0 _ _ _ (by omega) (by omega) (by omega)) fi382 rfl) qC ?_;refine A3 ?_;refine R2 (zag sl233 rfl) rfl rfl (RE (xa8 (i) ti284 (xj2 (by omega)) (by omega) (xh1 (m:=_) rfl)) qB qA trivial ?_);refine A8 ?_;obtain ⟨n1,n2,n3,n4,n5⟩:=zb3 (y:=(dig 4294967296 b).getD i 0) (by omega) hD hdr hbr hv hy;exact kF ((i+1,ws.set i (subD (ws.getD i 0) ((dig 4294967296 b).getD i 0) br),subB (ws.getD i 0) ((dig 4294967296 b).getD i 0) br)) ⟨(by dsimp only;exact ⟨by omega,by omega,n2,n3,n4,n5⟩),(by dsimp only;omega)⟩
  ·
   have hy:=(xn7 xa2 (v:=b) (i:=i) (by omega)).symm;refine A7 ?_;refine R2 (zag sl233 rfl) rfl rfl (RE (x7 (i) ti284 (xo6 (by omega)) (by omega)) qA qA trivial ?_);refine A2 ?_;refine Rt (x3 (zj0 _ 0 _ (by omega) (by omega) (by omega)) fi382 rfl) qC ?_;refine A3 ?_;refine R2 (zag sl233 rfl) rfl rfl (RE (xa8 (i) ti284 (xj2 (by omega)) (by omega) (xh1 (m:=_) rfl)) qB qA trivial ?_);refine A8 ?_;obtain ⟨n1,n2,n3,n4,n5⟩:=zb3 (y:=0) (by omega) hD hdr hbr hv hy;exact kF ((i+1,ws.set i (subD (ws.getD i 0) (0) br),subB (ws.getD i 0) (0) br)) ⟨(by dsimp only;exact ⟨by omega,by omega,n2,n3,n4,n5⟩),(by dsimp only;omega)⟩
 ·
  refine A7 ?_;refine RE (xi5 (fun _ h=>h) (xk2 hl) hl) qA qA trivial (Rt (x3 (xs2 _) fi335 rfl) qA ?_);refine A4 ?_;exact E1 rfl rfl (Le.of (by rw [xe8 xa2 hD,jm5 hl hD (xg9 xa2 a) hab (by rw [<-show i=(dig 4294967296 a).length by omega];exact hv)]))
theorem qc3:
  CtG Tryz.prog 381 [] [.own (.ptr 9 0)] (.own (.fn 398 [.ptr 3 0,.ptr 1 0])) [(1,⟨407,1,false,[.own (.ptr 9 0)]⟩),(3,⟨123,1,false,[.val (tE (.int .u64 0))]⟩)] [1,3]:=by
 refine CtG.intro [9] func381 rfl ntmps381 rfl rfl trivial ?_;intro w F η;refine A8 ?_;refine RE (xa3 (k:=3) (n:=1) (agg:=false) zr123.1 zr123.2 rfl) trivial trivial qA ?_;refine A5 ?_;refine R2 (xv6 (ps:=[.ptr 3 0,.ptr 1 0]) rfl) rfl rfl ?_;refine A4 ?_;exact xg3 LentC.mk' rfl rfl Imp.refl qB rfl ⟨⟨rfl,(SupX.lit rfl)⟩,⟨rfl,(SupX.lit rfl)⟩,trivial⟩ rfl
theorem yr6 (s c:Nat) (xs:List Nat) (hs:s+c < 18446744073709551616) (hx:xs.length<=1000000):
  CtG Tryz.prog 398 [(3,⟨123,1,false,[.val (tE (.int .u64 (c:Int)))]⟩),(1,⟨407,1,false,[.own (.ptr 9 0)]⟩),(9,⟨233,1,false,[.own (.sl 8 1 0 xs.length)]⟩),(8,⟨284,1,false,rW .u32 xs⟩)] [.val (tE (.int .u64 (s:Int))),.own (.ptr 3 0),.own (.ptr 1 0)] (.val (tT [])) [(3,⟨123,1,false,[.val (tE (.int .u64 (((s+c) / 4294967296:Nat):Int)))]⟩),(1,⟨407,1,false,[.own (.ptr 9 0)]⟩),(9,⟨233,1,false,[.own (.sl 14 1 0 (xs.length+1))]⟩),(14,⟨284,1,false,rW .u32 (xs++[(s+c)%4294967296])⟩)] [14]:=by
 refine CtG.intro [3,1,9,8] func398 rfl ntmps398 rfl rfl ⟨⟨rfl,(SupX.lit rfl)⟩,⟨rfl,(SupX.lit rfl)⟩,⟨rfl,(SupX.lit rfl)⟩,⟨rfl,xf3⟩,trivial⟩ ?_;intro w F η;refine A4 ?_;refine R2 (xc9 (r:=((s+c:Nat):Int)) (by rw [wu64 (by omega) (by omega)];omega)) rfl rfl ?_;refine A10 ?_;refine R1 (x9 zgu (isS zgw) (r:=(((s+c)%4294967296:Nat):Int)) (by rw [mu32];omega)) rfl (R1 (xm7 (n:=1) [(s+c)%4294967296] zgs el284 zf284 rfl rfl rfl) rfl (RE (xc5 (k:=8) (k':=14) (ts':=rW .u32 (xs++[(s+c)%4294967296])) zgs el284 zf284 rfl rfl (fun _=>inferInstance) xp6 (by simp;omega) (by simp;omega) (by simp [rW]) (n':=xs.length+1) rfl) ⟨rfl,rfl,trivial⟩ ⟨rfl,trivial⟩ ⟨rfl,trivial⟩ ?_));refine A6 ?_;refine R2 (xj1 (by decide) shr32) rfl rfl ?_;refine A2 ?_;exact yd0 LentC.mk' rfl (.inr rfl) qD ⟨⟨rfl,(SupX.lit rfl)⟩,⟨rfl,(SupX.lit rfl)⟩,⟨rfl,(SupX.lit rfl)⟩,⟨rfl,xf3⟩,trivial⟩ rfl
theorem qr3 (a b:Nat) (ha:(dig 4294967296 a).length<=100000) (hb:(dig 4294967296 b).length<=100000):
  Ct Tryz.prog 337 [tN a,tN b] (tN (a+b)):=by
 refine Ct.intro func337 rfl ntmps337 rfl ?_;intro w F;refine A5 ?_;refine xh3 (fun (fm:(Nat)×(Nat))=>(fun (p:Nat) (q:Nat)=>p+q=a+b/\(dig 4294967296 q).length<=(dig 4294967296 p).length/\(dig 4294967296 p).length<=100000) fm.1 fm.2) (wB fun (p:Nat) (q:Nat)=>uV (uV uN 0 (tN p)) 1 (tN q)) (wB fun (p:Nat) (q:Nat)=>fun _=>none) (nm []) ?_ ?_
 ·
  refine A9 ?_;refine xa6 rfl (fun h104=> ?_) (fun h104=> ?_)
  ·
   refine A6 ?_;exact kF ((b,a)) (by dsimp only;exact ⟨Nat.add_comm _ _,by omega,by omega⟩)
  ·
   refine A1 ?_;exact kF ((a,b)) (by dsimp only;exact ⟨rfl,by omega,by omega⟩)
 ·
  intro fm hj104;obtain ⟨p,q⟩:=fm;replace hj104:p+q=a+b/\(dig 4294967296 q).length<=(dig 4294967296 p).length/\(dig 4294967296 p).length<=100000:=hj104;show wc _ _ _ _ (uV (uV uN 0 (tN p)) 1 (tN q)) (fun _=>none) _;obtain ⟨hpq,hqp,hp⟩:=hj104;refine A5 ?_;refine RE (xe5 (k:=20) (t:=tE (.int .u32 0)) (ts:=rW .u32 []) 0 ((dig 4294967296 p).length+1) zgs el284 (fun _ _=>rfl) rfl rfl (by omega) (by omega) (by omega) (by omega) rfl) qB trivial qA (RE (xa3 (k:=5) (n:=1) (agg:=false) zr233.1 zr233.2 rfl) trivial trivial qA ?_);refine A5 ?_;refine RE (xe9 (fun j=>cond (Nat.beq j 1) 21 (cond (Nat.beq j 9) 5 (1021))) qc3 fi381 rfl (krN (ρ:=fun j=>cond (Nat.beq j 1) 21 (cond (Nat.beq j 9) 5 (1021)))) (krC (ρ:=fun j=>cond (Nat.beq j 1) 21 (cond (Nat.beq j 9) 5 (1021))) (k:=1) rfl (krC (ρ:=fun j=>cond (Nat.beq j 1) 21 (cond (Nat.beq j 9) 5 (1021))) (k:=3) rfl (krN (ρ:=fun j=>cond (Nat.beq j 1) 21 (cond (Nat.beq j 9) 5 (1021)))))) ⟨⟨rfl,(SupX.lit rfl)⟩,⟨rfl,(SupX.lit rfl)⟩,trivial⟩ rfl) qA trivial qB ?_;refine A12 ?_;refine cL (fun (fm:(Nat)×(List Nat)×(Nat))=>(fun (i:Nat) (cs:List Nat) (c:Nat)=>i<=(dig 4294967296 p).length/\cs.length=i/\Dig 4294967296 cs/\val 4294967296 cs+c*4294967296 ^ i=p%4294967296 ^ i+q%4294967296 ^ i/\c<=1) fm.1 fm.2.1 fm.2.2) (wC fun (i:Nat) (cs:List Nat) (c:Nat)=>uV (uV (uV (uO (uO (uV uN 1 (tN q)) 5 (.ptr 5 0)) 6 (.fn 398 [.ptr 1021 0,.ptr 21 0])) 22 (tN p)) 23 (tI (dig 4294967296 p).length)) 24 (tI i)) (wC fun (i:Nat) (cs:List Nat) (c:Nat)=>uK (uK (uK (uK uN 5 233 1 false [.own (.sl 20 1 0 cs.length)]) 20 284 1 false (rW .u32 cs)) 21 407 1 false [.own (.ptr 5 0)]) 1021 123 1 false [.val (tE (.int .u64 (c:Int)))]) [5,20,21,1021] (fun (fm:(Nat)×(List Nat)×(Nat))=>(fun (i:Nat) (cs:List Nat) (c:Nat)=>(dig 4294967296 p).length - i) fm.1 fm.2.1 fm.2.2) ((0,[],0)) (by dsimp only;exact ⟨zbs _,rfl,Dig.nil _,by simp [val,Nat.mod_one],by omega⟩) ?_;intro fm hI;obtain ⟨i,cs,c⟩:=fm;replace hI:i<=(dig 4294967296 p).length/\cs.length=i/\Dig 4294967296 cs/\val 4294967296 cs+c*4294967296 ^ i=p%4294967296 ^ i+q%4294967296 ^ i/\c<=1:=hI;show wc _ _ _ _ (uV (uV (uV (uO (uO (uV uN 1 (tN q)) 5 (.ptr 5 0)) 6 (.fn 398 [.ptr 1021 0,.ptr 21 0])) 22 (tN p)) 23 (tI (dig 4294967296 p).length)) 24 (tI i)) (uK (uK (uK (uK uN 5 233 1 false [.own (.sl 20 1 0 cs.length)]) 20 284 1 false (rW .u32 cs)) 21 407 1 false [.own (.ptr 5 0)]) 1021 123 1 false [.val (tE (.int .u64 (c:Int)))]) _;obtain ⟨hi,hl,hD,hv,hc⟩:=hI;have hx:=xc1 xa2 p i;have hx1:=(xc3 xa2 p).getD (by omega) i;have hy1:=(xc3 xa2 q).getD (by omega) i;refine A6 ?_;refine xa6 rfl (fun h109=> ?_) (fun h109=> ?_)
  ·
   refine A7 ?_;refine R2 (x8 sl233 (i) (by omega) (gN (by omega))) rfl rfl ?_;refine A8 ?_;refine R1 (x9 zgw (isS zgu) (by first | exact wu64 (by omega) (by omega) | exact mu64)) rfl ?_;refine A12 ?_;refine xa6 rfl (fun h111=> ?_) (fun h111=> ?_)
   ·
    have hy:=xc1 xa2 q i;refine A4 ?_;refine R2 (x8 sl233 (i) (by omega) (gN (by omega))) rfl rfl ?_;refine A1 ?_;refine R1 (x9 zgw (isS zgu) (by first | exact wu64 (by omega) (by omega) | exact mu64)) rfl (R2 (xc9 (r:=(((dig 4294967296 p).getD i 0+(dig 4294967296 q).getD i 0:Nat):Int)) (by rw [wu64 (by omega) (by omega)];omega)) rfl rfl ?_);refine A6 ?_;refine RE (xw6 (ps:=[.val (tE (.int .u64 ((_:Nat):Int)))]) (caps:=[.ptr 3 0,.ptr 1 0]) (fun j=>cond (Nat.beq j 9) 5 (cond (Nat.beq j 1) 21 (cond (Nat.beq j 3) 1021 (cond (Nat.beq j 14) 44 (20))))) (yr6 _ _ _ (by omega) (by omega)) fi398 rfl (krC (ρ:=fun j=>cond (Nat.beq j 9) 5 (cond (Nat.beq j 1) 21 (cond (Nat.beq j 3) 1021 (cond (Nat.beq j 14) 44 (20))))) (k:=3) rfl (krC (ρ:=fun j=>cond (Nat.beq j 9) 5 (cond (Nat.beq j 1) 21 (cond (Nat.beq j 3) 1021 (cond (Nat.beq j 14) 44 (20))))) (k:=1) rfl (krC (ρ:=fun j=>cond (Nat.beq j 9) 5 (cond (Nat.beq j 1) 21 (cond (Nat.beq j 3) 1021 (cond (Nat.beq j 14) 44 (20))))) (k:=9) rfl (krC (ρ:=fun j=>cond (Nat.beq j 9) 5 (cond (Nat.beq j 1) 21 (cond (Nat.beq j 3) 1021 (cond (Nat.beq j 14) 44 (20))))) (k:=8) xi2 (krN (ρ:=fun j=>cond (Nat.beq j 9) 5 (cond (Nat.beq j 1) 21 (cond (Nat.beq j 3) 1021 (cond (Nat.beq j 14) 44 (20)))))))))) (krC (ρ:=fun j=>cond (Nat.beq j 9) 5 (cond (Nat.beq j 1) 21 (cond (Nat.beq j 3) 1021 (cond (Nat.beq j 14) 44 (20))))) (k:=3) rfl (krC (ρ:=fun j=>cond (Nat.beq j 9) 5 (cond (Nat.beq j 1) 21 (cond (Nat.beq j 3) 1021 (cond (Nat.beq j 14) 44 (20))))) (k:=1) rfl (krC (ρ:=fun j=>cond (Nat.beq j 9) 5 (cond (Nat.beq j 1) 21 (cond (Nat.beq j 3) 1021 (cond (Nat.beq j 14) 44 (20))))) (k:=9) rfl (krC (ρ:=fun j=>cond (Nat.beq j 9) 5 (cond (Nat.beq j 1) 21 (cond (Nat.beq j 3) 1021 (cond (Nat.beq j 14) 44 (20))))) (k:=14) xi2 (krN (ρ:=fun j=>cond (Nat.beq j 9) 5 (cond (Nat.beq j 1) 21 (cond (Nat.beq j 3) 1021 (cond (Nat.beq j 14) 44 (20)))))))))) ⟨⟨rfl,(SupX.lit rfl)⟩,⟨rfl,(SupX.lit rfl)⟩,⟨rfl,(SupX.lit rfl)⟩,⟨rfl,xf3⟩,trivial⟩ rfl) qB qD qA ?_;refine A7 ?_;obtain ⟨n1,n2,n3,n4⟩:=zk5 (s:=((dig 4294967296 p).getD i 0+(dig 4294967296 q).getD i 0)) hl hD hv hx hy (by omega) hc;exact xh0 (l:=[5,20,21,1021]) (zab 20 44) ((i+1,cs++[(((dig 4294967296 p).getD i 0+(dig 4294967296 q).getD i 0)+c)%4294967296],(((dig 4294967296 p).getD i 0+(dig 4294967296 q).getD i 0)+c) / 4294967296)) ⟨(by dsimp only;exact ⟨by omega,n1,n2,n3,n4⟩),(by dsimp only;omega)⟩ (zaf rfl (zaf rfl (zas rfl (zas rfl (zas rfl (zas rfl zbd)))))) (SubKR.cons rfl (SubKR.cons rfl ((zbb rfl (zat xi2.symm)) ((zbb rfl (zat (by dsimp only;rw [zck];rfl))) zbe)))) (zaj (zaj (zaj (zak rfl (zak rfl (zaj zar)))))) (zam rfl (supJL rfl) (zam rfl (supJL rfl) (zam rfl (supJ xf3) (zam rfl (supJL rfl) zaz)))) (lkOk rfl) rfl rfl (fun _ h=>by cases h)
   ·
    have hy:=(xn7 xa2 (v:=q) (i:=i) (by omega)).symm;refine A5 ?_;refine RE (xw6 (ps:=[.val (tE (.int .u64 ((_:Nat):Int)))]) (caps:=[.ptr 3 0,.ptr 1 0]) (fun j=>cond (Nat.beq j 9) 5 (cond (Nat.beq j 1) 21 (cond (Nat.beq j 3) 1021 (cond (Nat.beq j 14) 44 (20))))) (yr6 _ _ _ (by omega) (by omega)) fi398 rfl (krC (ρ:=fun j=>cond (Nat.beq j 9) 5 (cond (Nat.beq j 1) 21 (cond (Nat.beq j 3) 1021 (cond (Nat.beq j 14) 44 (20))))) (k:=3) rfl (krC (ρ:=fun j=>cond (Nat.beq j 9) 5 (cond (Nat.beq j 1) 21 (cond (Nat.beq j 3) 1021 (cond (Nat.beq j 14) 44 (20))))) (k:=1) rfl (krC (ρ:=fun j=>cond (Nat.beq j 9) 5 (cond (Nat.beq j 1) 21 (cond (Nat.beq j 3) 1021 (cond (Nat.beq j 14) 44 (20))))) (k:=9) rfl (krC (ρ:=fun j=>cond (Nat.beq j 9) 5 (cond (Nat.beq j 1) 21 (cond (Nat.beq j 3) 1021 (cond (Nat.beq j 14) 44 (20))))) (k:=8) xi2 (krN (ρ:=fun j=>cond (Nat.beq j 9) 5 (cond (Nat.beq j 1) 21 (cond (Nat.beq j 3) 1021 (cond (Nat.beq j 14) 44 (20)))))))))) (krC (ρ:=fun j=>cond (Nat.beq j 9) 5 (cond (Nat.beq j 1) 21 (cond (Nat.beq j 3) 1021 (cond (Nat.beq j 14) 44 (20))))) (k:=3) rfl (krC (ρ:=fun j=>cond (Nat.beq j 9) 5 (cond (Nat.beq j 1) 21 (cond (Nat.beq j 3) 1021 (cond (Nat.beq j 14) 44 (20))))) (k:=1) rfl (krC (ρ:=fun j=>cond (Nat.beq j 9) 5 (cond (Nat.beq j 1) 21 (cond (Nat.beq j 3) 1021 (cond (Nat.beq j 14) 44 (20))))) (k:=9) rfl (krC (ρ:=fun j=>cond (Nat.beq j 9) 5 (cond (Nat.beq j 1) 21 (cond (Nat.beq j 3) 1021 (cond (Nat.beq j 14) 44 (20))))) (k:=14) xi2 (krN (ρ:=fun j=>cond (Nat.beq j 9) 5 (cond (Nat.beq j 1) 21 (cond (Nat.beq j 3) 1021 (cond (Nat.beq j 14) 44 (20)))))))))) ⟨⟨rfl,(SupX.lit rfl)⟩,⟨rfl,(SupX.lit rfl)⟩,⟨rfl,(SupX.lit rfl)⟩,⟨rfl,xf3⟩,trivial⟩ rfl) qB qD qA ?_;refine A7 ?_;obtain ⟨n1,n2,n3,n4⟩:=zk5 (s:=(dig 4294967296 p).getD i 0) hl hD hv hx hy (by omega) hc;exact xh0 (l:=[5,20,21,1021]) (zab 20 44) ((i+1,cs++[((dig 4294967296 p).getD i 0+c)%4294967296],((dig 4294967296 p).getD i 0+c) / 4294967296)) ⟨(by dsimp only;exact ⟨by omega,n1,n2,n3,n4⟩),(by dsimp only;omega)⟩ (zaf rfl (zaf rfl (zas rfl (zas rfl (zas rfl (zas rfl zbd)))))) (SubKR.cons rfl (SubKR.cons rfl ((zbb rfl (zat xi2.symm)) ((zbb rfl (zat (by dsimp only;rw [zck];rfl))) zbe)))) (zaj (zaj (zaj (zak rfl (zak rfl (zaj zar)))))) (zam rfl (supJL rfl) (zam rfl (supJL rfl) (zam rfl (supJ xf3) (zam rfl (supJL rfl) zaz)))) (lkOk rfl) rfl rfl (fun _ h=>by cases h)
  ·
   refine A8 ?_;refine RE (xw6 (ps:=[.val (tE (.int .u64 ((_:Nat):Int)))]) (caps:=[.ptr 3 0,.ptr 1 0]) (fun j=>cond (Nat.beq j 9) 5 (cond (Nat.beq j 1) 21 (cond (Nat.beq j 3) 1021 (cond (Nat.beq j 14) 47 (20))))) (yr6 0 _ _ (by omega) (by omega)) fi398 rfl (krC (ρ:=fun j=>cond (Nat.beq j 9) 5 (cond (Nat.beq j 1) 21 (cond (Nat.beq j 3) 1021 (cond (Nat.beq j 14) 47 (20))))) (k:=3) rfl (krC (ρ:=fun j=>cond (Nat.beq j 9) 5 (cond (Nat.beq j 1) 21 (cond (Nat.beq j 3) 1021 (cond (Nat.beq j 14) 47 (20))))) (k:=1) rfl (krC (ρ:=fun j=>cond (Nat.beq j 9) 5 (cond (Nat.beq j 1) 21 (cond (Nat.beq j 3) 1021 (cond (Nat.beq j 14) 47 (20))))) (k:=9) rfl (krC (ρ:=fun j=>cond (Nat.beq j 9) 5 (cond (Nat.beq j 1) 21 (cond (Nat.beq j 3) 1021 (cond (Nat.beq j 14) 47 (20))))) (k:=8) xi2 (krN (ρ:=fun j=>cond (Nat.beq j 9) 5 (cond (Nat.beq j 1) 21 (cond (Nat.beq j 3) 1021 (cond (Nat.beq j 14) 47 (20)))))))))) (krC (ρ:=fun j=>cond (Nat.beq j 9) 5 (cond (Nat.beq j 1) 21 (cond (Nat.beq j 3) 1021 (cond (Nat.beq j 14) 47 (20))))) (k:=3) rfl (krC (ρ:=fun j=>cond (Nat.beq j 9) 5 (cond (Nat.beq j 1) 21 (cond (Nat.beq j 3) 1021 (cond (Nat.beq j 14) 47 (20))))) (k:=1) rfl (krC (ρ:=fun j=>cond (Nat.beq j 9) 5 (cond (Nat.beq j 1) 21 (cond (Nat.beq j 3) 1021 (cond (Nat.beq j 14) 47 (20))))) (k:=9) rfl (krC (ρ:=fun j=>cond (Nat.beq j 9) 5 (cond (Nat.beq j 1) 21 (cond (Nat.beq j 3) 1021 (cond (Nat.beq j 14) 47 (20))))) (k:=14) xi2 (krN (ρ:=fun j=>cond (Nat.beq j 9) 5 (cond (Nat.beq j 1) 21 (cond (Nat.beq j 3) 1021 (cond (Nat.beq j 14) 47 (20)))))))))) ⟨⟨rfl,(SupX.lit rfl)⟩,⟨rfl,(SupX.lit rfl)⟩,⟨rfl,(SupX.lit rfl)⟩,⟨rfl,xf3⟩,trivial⟩ rfl) qB qD qA ?_;refine A4 ?_;refine RE (Does.giveL (k:=47) (es:=1) (off:=0) (len:=cs.length+1) (xs:=cs++[(0+c)%4294967296]) (f:=fun n:Nat=>tE (.int .u32 n)) (ts:=rW .u32 (cs++[(0+c)%4294967296])) (x7 (ts:=[.own (.sl 47 1 0 (cs.length+1))]) (0) ti233 rfl rfl) (fun _ h=>h) (xk2 (by simp)) (by simp)) qA qB trivial (Rt (x3 (xs2 _) fi335 rfl) qA ?_);refine A4 ?_;exact E1 rfl rfl (Le.of (by rw [jd5 (n:=(dig 4294967296 p).length) (by omega) (xg9 xa2 p) ((xb3 xa2 q _).1 hqp) hD (by rw [<-show i=(dig 4294967296 p).length by omega];exact hv) hc,hpq]))
end An.S
namespace An
open Go
theorem wadd64 {x y:Nat} (h:x+y < 18446744073709551616):IntKind.u64.wrap ((x:Int)+(y:Int))=((x+y:Nat):Int):=by
 rw [wu64 (by omega) (by omega)];omega
theorem wmul64 {x y:Nat} (h:x*y < 18446744073709551616):IntKind.u64.wrap ((x:Int)*(y:Int))=((x*y:Nat):Int):=by
 rw [<-zdr];exact wu64 (by omega) (by omega)
theorem wsub64 {x y:Nat} (h:y<=x) (hx:x < 18446744073709551616):IntKind.u64.wrap ((x:Int) - (y:Int))=((x - y:Nat):Int):=by
 rw [wu64 (by omega) (by omega)];omega
theorem cut32 {m:Nat}:IntKind.u32.wrap (m:Int)=((m%4294967296:Nat):Int):=by rw [mu32];omega
theorem yf5 {x y:Nat} (hx:x < 4294967296) (hy:y < 4294967296):x*y<=18446744065119617025:=by
 have:=Nat.mul_le_mul (show x<=4294967295 by omega) (show y<=4294967295 by omega);omega
theorem zz6 {B T T0 c i j w y x s b:Nat} (h:T+c*B ^ (i+j)=T0+x*B ^ i*(b%B ^ j)) (hs:s=x*y+w+c) (hy:y=b / B ^ j%B):
  T+B ^ (i+j)*(s%B)+s / B*B ^ (i+j+1)=T0+B ^ (i+j)*w+x*B ^ i*(b%B ^ (j+1)):=by
 have h1:=zdg s B;have e1:s / B*B ^ (i+j+1)=B ^ (i+j)*(B*(s / B)):=by rw [zcc,zbz,zdf]
 have e2:B ^ (i+j)*(s%B)+B ^ (i+j)*(B*(s / B))=B ^ (i+j)*(x*y)+B ^ (i+j)*w+B ^ (i+j)*c:=by
  rw [<-zct,<-zct,<-zct];congr 1;omega
 have e3:x*B ^ i*(b%B ^ (j+1))=x*B ^ i*(b%B ^ j)+B ^ (i+j)*(x*y):=by
  rw [xi1,<-hy,zct];congr 1;rw [zew];ac_rfl
 rw [e1,e3];rw [zbz c] at h;omega
theorem jc7 {b i j c x y s la:Nat} {w0 vs:List Nat} (hl:vs.length=la) (hD:Dig W vs) (hw:w0.length=la) (hdr:vs.drop (i+j)=w0.drop (i+j)) (hij:i+j < la) (hc:c < W) (hx:x < W) (hy:y=b / W ^ j%W)
  (hs:s=x*y+vs.getD (i+j) 0+c) (h:val W (vs.take (i+j))+c*W ^ (i+j)=val W (w0.take (i+j))+x*W ^ i*(b%W ^ j)):
  (vs.set (i+j) (s%W)).length=la/\Dig W (vs.set (i+j) (s%W))/\(vs.set (i+j) (s%W)).drop (i+(j+1))=w0.drop (i+(j+1))/\s / W < W/\
   val W ((vs.set (i+j) (s%W)).take (i+(j+1)))+s / W*W ^ (i+(j+1))=val W (w0.take (i+(j+1)))+x*W ^ i*(b%W ^ (j+1)):=by
 have hyW:y < W:=by rw [hy];exact zcd _ (by decide)
 have hg:vs.getD (i+j) 0 < W:=hD.getD (by decide) _;refine ⟨by simpa using hl,hD.set (zcd _ (by decide)),by rw [<-zfq,xf2];exact xj4 hdr (by omega),?_,?_⟩
 ·have:=yf5 hx hyW;refine zdd ?_;show s < 4294967296*4294967296;have:vs.getD (i+j) 0 < 4294967296:=hg;have:c < 4294967296:=hc;omega
 ·rw [<-zfq,xg0 (by omega),xe6 _ w0 _ (by omega),<-xi3 hdr (zbm _)];exact zz6 h hs hy
theorem qw8 {a b i c la lb:Nat} {w0 vs:List Nat} (hi:i < la) (hw:w0.length=la+lb) (hl:vs.length=la+lb) (hD:Dig W vs) (hdr:vs.drop (i+lb)=w0.drop (i+lb)) (hz:w0.drop (i+lb)=List.replicate (la - i) 0) (hc:c < W)
  (h0:val W (w0.take (i+lb))=a%W ^ i*b) (hb:b < W ^ lb) (h:val W (vs.take (i+lb))+c*W ^ (i+lb)=val W (w0.take (i+lb))+a / W ^ i%W*W ^ i*(b%W ^ lb)):
  (vs.set (i+lb) c).length=la+lb/\Dig W (vs.set (i+lb) c)/\(vs.set (i+lb) c).drop (i+1+lb)=List.replicate (la - (i+1)) 0/\val W ((vs.set (i+lb) c).take (i+1+lb))=a%W ^ (i+1)*b:=by
 refine ⟨by simpa using hl,hD.set hc,?_,?_⟩
 ·rw [show i+1+lb=i+lb+1 by omega,xf2,xj4 (j:=i+lb+1) hdr (by omega),<-List.drop_drop,hz,zfd];congr 1
 ·rw [show i+1+lb=i+lb+1 by omega,xg0 (by omega),zbz _ c,h,h0,xi1,zbx hb,zch]
  congr 1
  rw [zbz (W ^ i)]
theorem qr5 {a b la lb:Nat} {ws:List Nat} (hl:ws.length=la+lb) (hD:Dig W ws) (ha:a < W ^ la) (h:val W (ws.take (la+lb))=a%W ^ la*b):trimL ws=dig W (a*b):=by
 rw [xe8 xa2 hD];rw [<-hl,zci,zbx ha] at h;rw [h]
theorem qz3 {a d r k q n:Nat} {qs:List Nat} (hk:k < n) (hl:qs.length=n) (hD:Dig W qs) (hd:0 < d) (hr:r=a / W ^ (k+1)%d) (hv:val W (qs.drop (k+1))=a / W ^ (k+1) / d) (hq:(a / W ^ k%W+r*2 ^ 32) / d=q):
  (qs.set k q).length=n/\Dig W (qs.set k q)/\(a / W ^ k%W+r*2 ^ 32)%d=a / W ^ k%d/\val W ((qs.set k q).drop k)=a / W ^ k / d/\q < W:=by
 have e0:a / W ^ k=W*(a / W ^ (k+1))+a / W ^ k%W:=xz0 W a k (by decide);have hrd:r < d:=by rw [hr];exact zcd _ hd
 have e1:a / W ^ k=(a / W ^ k%W+r*2 ^ 32)+d*(W*(a / W ^ (k+1) / d)):=by
  have h1:=zdg (a / W ^ (k+1)) d;rw [<-hr] at h1;have h2:W*(a / W ^ (k+1))=d*(W*(a / W ^ (k+1) / d))+W*r:=by
   conv=>lhs;rw [<-h1]
   rw [zct,Nat.mul_left_comm]
  rw [zbz r];have h3:(2:Nat) ^ 32*r=W*r:=rfl;omega
 have hqW:q < W:=by
  rw [<-hq];refine zdd ?_;have h4:a / W ^ k%W < W:=zcd _ (by decide);have h5:(r+1)*W<=d*W:=zbr _ hrd;have h6:(r+1)*W=r*2 ^ 32+W:=by rw [zch,zfi]
  omega
 refine ⟨by simpa using hl,hD.set hqW,?_,?_,hqW⟩
 ·conv=>rhs;rw [e1,zfs]
 ·rw [xj7 _ _ _ (by simpa using (by omega:k < qs.length)),xk0 (by omega),xf2,hv]
  conv=>rhs;rw [e1,zeb _ _ hd,hq]
theorem shlN64 {m s:Nat} {i:Int} (hi:i=(s:Int)) (hs:s<=64) (h:m*2 ^ s < 18446744073709551616):IntKind.u64.wrap ((m:Int)*2 ^ (min i.toNat IntKind.u64.bits))=((m*2 ^ s:Nat):Int):=by
 subst hi;have hb:IntKind.u64.bits=64:=rfl;rw [Int.toNat_natCast,hb,zgb hs];have:((m:Int)*2 ^ s)=((m*2 ^ s:Nat):Int):=by simp
 rw [this];exact wu64 (by omega) (by omega)
theorem pow2_le31 {s:Nat} (h:s<=31):2 ^ s<=2147483648:=Nat.pow_le_pow_right (by omega) h
theorem qw6 {x s:Nat} (hx:x < 4294967296) (hs:s<=31):x*2 ^ s < 9223372036854775808:=by
 have h1:=pow2_le31 hs;have h0:0 < 2 ^ s:=zcu (by omega);have h2:x*2 ^ s < 4294967296*2 ^ s:=zei hx h0;have h3:4294967296*2 ^ s<=4294967296*2147483648:=zdh _ h1;omega
theorem qf7 (x:Nat) {s:Nat} (hs:s<=31):x*2 ^ s%4294967296=x%2 ^ (32 - s)*2 ^ s:=by
 have:(4294967296:Nat)=2 ^ (32 - s)*2 ^ s:=by rw [<-zew,show 32 - s+s=32 by omega]
 rw [this,Nat.mul_mod_mul_right]
theorem qn6 {i s a:Nat} {ws:List Nat} (hi:i < ws.length) (h:val W (ws.take (i+1))=a%W ^ i*2 ^ s):ws.getD i 0 < 2 ^ s:=by
 have hp:0 < W ^ i:=zcu (by decide);have h0:0 < 2 ^ s:=zcu (by omega);rw [xe6 _ _ _ hi] at h;have h1:a%W ^ i*2 ^ s < W ^ i*2 ^ s:=zei (zcd _ hp) h0;have h2:W ^ i*ws.getD i 0 < W ^ i*2 ^ s:=by omega
 exact Nat.lt_of_mul_lt_mul_left h2
theorem qt5 {v x s:Nat} (hv:v < 2 ^ s) (_hx:x < 4294967296) (hs:s<=31):bits .or .u32 (v:Int) ((x*2 ^ s%4294967296:Nat):Int)=((v+x*2 ^ s%4294967296:Nat):Int)/\v+x*2 ^ s%4294967296 < 4294967296:=by
 have hb:IntKind.u32.bits=32:=rfl;have h1:v+x*2 ^ s%4294967296 < 4294967296:=by
  rw [qf7 x hs];have h2:x%2 ^ (32 - s) < 2 ^ (32 - s):=zcd _ (zcu (by omega));have h3:(x%2 ^ (32 - s)+1)*2 ^ s<=2 ^ (32 - s)*2 ^ s:=zbr _ h2;rw [<-zew,show 32 - s+s=32 by omega,zch,zfi] at h3;omega
 refine ⟨?_,h1⟩;rw [qf7 x hs] at h1 ⊢;exact qs2 v (x%2 ^ (32 - s)) s rfl rfl hv (wu32 (by omega) (by omega)) (by rw [hb];omega)
theorem jg1 {a i s n x:Nat} {ws:List Nat} (hi:i < n) (hl:ws.length=n+1) (hD:Dig W ws) (hs:s<=31) (hx:x=a / W ^ i%W) (hz:ws.drop (i+1)=List.replicate (n - i) 0) (hv:val W (ws.take (i+1))=a%W ^ i*2 ^ s):
  ((ws.set i (ws.getD i 0+x*2 ^ s%W)).set (i+1) (x*2 ^ s / W)).length=n+1/\Dig W ((ws.set i (ws.getD i 0+x*2 ^ s%W)).set (i+1) (x*2 ^ s / W))/\
   ((ws.set i (ws.getD i 0+x*2 ^ s%W)).set (i+1) (x*2 ^ s / W)).drop (i+1+1)=List.replicate (n - (i+1)) 0/\
   val W (((ws.set i (ws.getD i 0+x*2 ^ s%W)).set (i+1) (x*2 ^ s / W)).take (i+1+1))=a%W ^ (i+1)*2 ^ s:=by
 have hxW:x < W:=by rw [hx];exact zcd _ (by decide)
 have ht:=qn6 (by omega) hv;have h1:=(qt5 ht hxW hs).2;have h2:=qw6 hxW hs;refine ⟨by simpa using hl,(hD.set h1).set (zdd (by show _ < 4294967296*4294967296;omega)),?_,?_⟩
 ·rw [xf2,List.drop_set_of_lt (by omega),<-List.drop_drop,hz,zfd];congr 1
 ·rw [xg0 (by simpa using (by omega:i+1 < ws.length)),xg0 (by omega),xi1,<-hx,zch,<-hv,xe6 _ _ _ (by omega)];have h3:=zdg (x*2 ^ s) W;have e:W ^ i*(x*2 ^ s%W)+W ^ i*(W*(x*2 ^ s / W))=W ^ i*x*2 ^ s:=by
   rw [<-zct,Nat.add_comm,h3,zdf]
  have e2:W ^ (i+1)*(x*2 ^ s / W)=W ^ i*(W*(x*2 ^ s / W)):=by rw [zcc,zdf]
  rw [zct,e2];omega
theorem qv4 {a n s:Nat} {ws:List Nat} (hl:ws.length=n+1) (hD:Dig W ws) (ha:a < W ^ n) (hv:val W (ws.take (n+1))=a%W ^ n*2 ^ s):ws=dgs W (n+1) (a*2 ^ s):=by
 rw [<-hl,zci,zbx ha] at hv;rw [<-hv,<-hl,yu8 (by decide) hD]
end An
namespace An.S
open Go Go.Proofs An Tryz
instance fi396:FnI Tryz.prog 396:=⟨_,func396,by kernel_rfl,rfl⟩
theorem jo4 (a b:Nat) (ha:(dig 4294967296 a).length<=100000) (hb:(dig 4294967296 b).length<=100000):
  Ct Tryz.prog 283 [tN a,tN b] (tN (a*b)):=by
 refine Ct.intro func283 rfl ntmps283 rfl ?_;intro w F;have hbW:=xg9 xa2 b;refine A12 ?_;refine RE (xe5 (k:=17) (t:=tE (.int .u32 0)) (ts:=rW .u32 (List.replicate (((dig 4294967296 a).length+(dig 4294967296 b).length)) 0)) (((dig 4294967296 a).length+(dig 4294967296 b).length)) (((dig 4294967296 a).length+(dig 4294967296 b).length)) zgs el284 (fun _ _=>rfl) rfl (by omega) (by omega) (zbm _) (by omega) (by omega) (xp5 _)) qB trivial qA ?_;refine A12 ?_;refine cL (fun (fm:(Nat)×(List Nat))=>(fun (i:Nat) (ws:List Nat)=>i<=(dig 4294967296 a).length/\ws.length=(dig 4294967296 a).length+(dig 4294967296 b).length/\Dig 4294967296 ws/\ws.drop (i+(dig 4294967296 b).length)=List.replicate ((dig 4294967296 a).length - i) 0/\val 4294967296 (ws.take (i+(dig 4294967296 b).length))=a%4294967296 ^ i*b) fm.1 fm.2) (wB fun (i:Nat) (ws:List Nat)=>uV (uV (uV (uO (uV uN 1 (tN b)) 5 (.sl 17 1 0 ((dig 4294967296 a).length+(dig 4294967296 b).length))) 18 (tN a)) 19 (tI (dig 4294967296 a).length)) 20 (tI i)) (wB fun (i:Nat) (ws:List Nat)=>uK uN 17 284 1 false (rW .u32 ws)) [17] (fun (fm:(Nat)×(List Nat))=>(fun (i:Nat) (ws:List Nat)=>(dig 4294967296 a).length - i) fm.1 fm.2) ((0,List.replicate ((dig 4294967296 a).length+(dig 4294967296 b).length) 0)) (by dsimp only;exact ⟨zbs _,by simp,Dig.rep (by decide) _,by rw [zfd];congr 1;omega,by rw [List.take_replicate,xg6,zeg,zfo,zfa]⟩) ?_;intro fm hI;obtain ⟨i,ws⟩:=fm;replace hI:i<=(dig 4294967296 a).length/\ws.length=(dig 4294967296 a).length+(dig 4294967296 b).length/\Dig 4294967296 ws/\ws.drop (i+(dig 4294967296 b).length)=List.replicate ((dig 4294967296 a).length - i) 0/\val 4294967296 (ws.take (i+(dig 4294967296 b).length))=a%4294967296 ^ i*b:=hI;show wc _ _ _ _ (uV (uV (uV (uO (uV uN 1 (tN b)) 5 (.sl 17 1 0 ((dig 4294967296 a).length+(dig 4294967296 b).length))) 18 (tN a)) 19 (tI (dig 4294967296 a).length)) 20 (tI i)) (uK uN 17 284 1 false (rW .u32 ws)) _;obtain ⟨hi,hl,hD,hz,hv⟩:=hI;have hx:=xc1 xa2 a i;have hx1:=(xc3 xa2 a).getD (by omega) i;refine A6 ?_;refine xa6 rfl (fun h137=> ?_) (fun h137=> ?_)
 ·
  refine A7 ?_;refine R2 (x8 sl233 (i) (by omega) (gN (by omega))) rfl rfl ?_;refine A18 ?_;refine A1 ?_;refine cL (fun (fm:(Nat)×(List Nat)×(Nat))=>(fun (j:Nat) (vs:List Nat) (c:Nat)=>j<=(dig 4294967296 b).length/\vs.length=(dig 4294967296 a).length+(dig 4294967296 b).length/\Dig 4294967296 vs/\vs.drop (i+j)=ws.drop (i+j)/\c < 4294967296/\val 4294967296 (vs.take (i+j))+c*4294967296 ^ (i+j)=val 4294967296 (ws.take (i+j))+(dig 4294967296 a).getD i 0*4294967296 ^ i*(b%4294967296 ^ j)) fm.1 fm.2.1 fm.2.2) (wC fun (j:Nat) (vs:List Nat) (c:Nat)=>uV (uV (uV (uV (uV (uV (uV (uV (uV (uO (uV uN 1 (tN b)) 5 (.sl 17 1 0 ((dig 4294967296 a).length+(dig 4294967296 b).length))) 6 (tI i)) 7 (tE (.int .u32 ((dig 4294967296 a).getD i 0:Nat)))) 8 (tE (.int .u64 (c:Int)))) 18 (tN a)) 19 (tI (dig 4294967296 a).length)) 20 (tI i)) 25 (tN b)) 26 (tI (dig 4294967296 b).length)) 27 (tI j)) (wC fun (j:Nat) (vs:List Nat) (c:Nat)=>uK uN 17 284 1 false (rW .u32 vs)) [17] (fun (fm:(Nat)×(List Nat)×(Nat))=>(fun (j:Nat) (vs:List Nat) (c:Nat)=>(dig 4294967296 b).length - j) fm.1 fm.2.1 fm.2.2) ((0,ws,0)) (by dsimp only;exact ⟨zbs _,hl,hD,rfl,by omega,by rw [zeg,zfo];omega⟩) ?_;intro fm hJ;obtain ⟨j,vs,c⟩:=fm;replace hJ:j<=(dig 4294967296 b).length/\vs.length=(dig 4294967296 a).length+(dig 4294967296 b).length/\Dig 4294967296 vs/\vs.drop (i+j)=ws.drop (i+j)/\c < 4294967296/\val 4294967296 (vs.take (i+j))+c*4294967296 ^ (i+j)=val 4294967296 (ws.take (i+j))+(dig 4294967296 a).getD i 0*4294967296 ^ i*(b%4294967296 ^ j):=hJ;show wc _ _ _ _ (uV (uV (uV (uV (uV (uV (uV (uV (uV (uO (uV uN 1 (tN b)) 5 (.sl 17 1 0 ((dig 4294967296 a).length+(dig 4294967296 b).length))) 6 (tI i)) 7 (tE (.int .u32 ((dig 4294967296 a).getD i 0:Nat)))) 8 (tE (.int .u64 (c:Int)))) 18 (tN a)) 19 (tI (dig 4294967296 a).length)) 20 (tI i)) 25 (tN b)) 26 (tI (dig 4294967296 b).length)) 27 (tI j)) (uK uN 17 284 1 false (rW .u32 vs)) _;obtain ⟨hj,kl,kD,kdr,kc,kv⟩:=hJ;have hy:=xc1 xa2 b j;have hy1:=(xc3 xa2 b).getD (by omega) j;have hw1:=kD.getD (by omega) (i+j);have hxy:=yf5 hx1 hy1;refine A6 ?_;refine xa6 rfl (fun h139=> ?_) (fun h139=> ?_)
  ·
   refine A7 ?_;refine R2 (x8 sl233 (j) (by omega) (gN (by omega))) rfl rfl ?_;refine A8 ?_;refine R1 (x9 zgw (isS zgu) (by first | exact wu64 (by omega) (by omega) | exact mu64)) rfl ?_;refine A1 ?_;refine R1 (x9 zgw (isS zgu) (by first | exact wu64 (by omega) (by omega) | exact mu64)) rfl (R2 (xj0 (wmul64 (by omega))) rfl rfl ?_);refine A4 ?_;refine R2 (zag sl233 rfl) rfl rfl (RE (x7 (i+j) ti284 (xo6 (by omega)) (by omega)) qA qA trivial (R1 (x9 zgw (isS zgu) (by first | exact wu64 (by omega) (by omega) | exact mu64)) rfl (R2 (xc9 (wadd64 (by omega))) rfl rfl ?_)));refine A1 ?_;refine R2 (xc9 (wadd64 (by omega))) rfl rfl ?_;refine A10 ?_;refine R1 (x9 zgu (isS zgw) cut32) rfl (R2 (zag sl233 rfl) rfl rfl (RE (xa8 (i+j) ti284 (xj2 (by omega)) (by omega) (xh1 (m:=_) rfl)) qB qA trivial ?_));refine A4 ?_;refine R2 (xj1 (by decide) shr32) rfl rfl ?_;refine A8 ?_;obtain ⟨n1,n2,n3,n4,n5⟩:=jc7 (s:=(dig 4294967296 a).getD i 0*(dig 4294967296 b).getD j 0+vs.getD (i+j) 0+c) kl kD hl kdr (by omega) kc hx1 hy rfl kv;exact kF ((j+1,vs.set (i+j) (((dig 4294967296 a).getD i 0*(dig 4294967296 b).getD j 0+vs.getD (i+j) 0+c)%4294967296),((dig 4294967296 a).getD i 0*(dig 4294967296 b).getD j 0+vs.getD (i+j) 0+c) / 4294967296)) ⟨(by dsimp only;exact ⟨by omega,n1,n2,n3,n4,n5⟩),(by dsimp only;omega)⟩
  ·
   have hjb:j=(dig 4294967296 b).length:=by omega
   refine A12 ?_;refine R1 (x9 zgu (isS zgw) (wu32 (by omega) (by omega))) rfl (R2 (zag sl233 rfl) rfl rfl (RE (xa8 (i+(dig 4294967296 b).length) ti284 (xj2 (by omega)) (by omega) (xh1 (m:=_) rfl)) qB qA trivial ?_));refine A7 ?_;obtain ⟨n1,n2,n3,n4⟩:=qw8 (by omega) hl kl kD (by rw [<-hjb];exact kdr) hz kc hv hbW (by rw [<-hjb,<-hx];exact kv);exact kF ((i+1,vs.set (i+(dig 4294967296 b).length) c)) ⟨(by dsimp only;exact ⟨by omega,n1,n2,n3,n4⟩),(by dsimp only;omega)⟩
 ·
  refine A7 ?_;refine RE (xi5 (fun _ h=>h) (xk2 hl) hl) qA qA trivial (Rt (x3 (xs2 _) fi335 rfl) qA ?_);refine A4 ?_;exact E1 rfl rfl (Le.of (congrArg tWs (qr5 hl hD (xg9 xa2 a) (by rw [<-show i=(dig 4294967296 a).length by omega];exact hv))))
theorem zp3 (a d:Nat) (ha:(dig 4294967296 a).length<=100000) (hd:0 < d) (hdW:d < 4294967296):
  Ct Tryz.prog 377 [tN a,tE (.int .u32 (d:Int))] (tT [tN (a / d),tE (.int .u32 ((a%d:Nat):Int))]):=by
 refine Ct.intro func377 rfl ntmps377 rfl ?_;intro w F;refine A10 ?_;refine RE (xe5 (k:=11) (t:=tE (.int .u32 0)) (ts:=rW .u32 (List.replicate ((dig 4294967296 a).length) 0)) ((dig 4294967296 a).length) ((dig 4294967296 a).length) zgs el284 (fun _ _=>rfl) rfl (by omega) (by omega) (zbm _) (by omega) (by omega) (xp5 _)) qB trivial qA ?_;refine A18 ?_;refine cL (fun (fm:(Nat)×(List Nat))=>(fun (k:Nat) (qs:List Nat)=>k<=(dig 4294967296 a).length/\qs.length=(dig 4294967296 a).length/\Dig 4294967296 qs/\val 4294967296 (qs.drop k)=a / 4294967296 ^ k / d) fm.1 fm.2) (wB fun (k:Nat) (qs:List Nat)=>uV (uV (uO (uV (uV uN 0 (tN a)) 1 (tE (.int .u32 (d:Int)))) 6 (.sl 11 1 0 (dig 4294967296 a).length)) 7 (tE (.int .u32 ((a / 4294967296 ^ k%d:Nat):Int)))) 8 (tI ((k:Int) - 1))) (wB fun (k:Nat) (qs:List Nat)=>uK uN 11 284 1 false (rW .u32 qs)) [11] (fun (fm:(Nat)×(List Nat))=>(fun (k:Nat) (qs:List Nat)=>k) fm.1 fm.2) (((dig 4294967296 a).length,List.replicate (dig 4294967296 a).length 0)) (by dsimp only;exact ⟨zbm _,by simp,Dig.rep (by decide) _,by rw [zcv (xg9 xa2 a),Nat.zero_div,zfd,xg6]⟩) (hg:=(sI (Sub.le rfl (zba (by rw [zcv (xg9 xa2 a),Nat.zero_mod];rfl)) (sC (sI (sC zay)))))) ?_;intro fm hI;obtain ⟨k,qs⟩:=fm;replace hI:k<=(dig 4294967296 a).length/\qs.length=(dig 4294967296 a).length/\Dig 4294967296 qs/\val 4294967296 (qs.drop k)=a / 4294967296 ^ k / d:=hI;show wc _ _ _ _ (uV (uV (uO (uV (uV uN 0 (tN a)) 1 (tE (.int .u32 (d:Int)))) 6 (.sl 11 1 0 (dig 4294967296 a).length)) 7 (tE (.int .u32 ((a / 4294967296 ^ k%d:Nat):Int)))) 8 (tI ((k:Int) - 1))) (uK uN 11 284 1 false (rW .u32 qs)) _;obtain ⟨hk,hl,hD,hv⟩:=hI;have hr:a / 4294967296 ^ k%d < d:=zcd _ hd;refine A7 ?_;refine xa6 rfl (fun h166=> ?_) (fun h166=> ?_)
 ·
  have hx:=xc1 xa2 a (k - 1);have hx1:=(xc3 xa2 a).getD (by omega) (k - 1);obtain ⟨n1,n2,n3,n4,n5⟩:=qz3 (k:=k - 1) (by omega) hl hD hd rfl (by rw [show k - 1+1=k by omega];exact hv) (by rw [show k - 1+1=k by omega,<-hx]);rw [show k - 1+1=k by omega] at n3;refine A10 ?_;refine R2 (x8 sl233 (k - 1) (by omega) (gN (by omega))) rfl rfl ?_;refine A2 ?_;refine Rt (x3 (ji4 _ _ _ _ _ (by omega) (by omega) (by omega) rfl rfl) fi396 rfl) qC ?_;refine A3 ?_;refine R2 (zag sl233 rfl) rfl rfl (RE (xa8 (k - 1) ti284 (xj2 (by omega)) (by omega) (xh1 (m:=_) rfl)) qB qA trivial ?_);refine A9 ?_;exact kF ((k - 1,qs.set (k - 1) (((dig 4294967296 a).getD (k - 1) 0+a / 4294967296 ^ k%d*2 ^ 32) / d))) ⟨(by dsimp only;exact ⟨by omega,n1,n2,n4⟩),(by dsimp only;omega)⟩ (hg:=(sI (Sub.le rfl (zba (by dsimp only;rw [hx,n3])) (sC (sI (sC zay))))))
 ·
  refine A7 ?_;refine RE (xi5 (fun _ h=>h) (xk2 hl) hl) qA qA trivial (Rt (x3 (xs2 _) fi335 rfl) qA ?_);refine A6 ?_;exact E2 rfl rfl rfl (Le.of (by rw [xe8 xa2 hD,show val 4294967296 qs=a / d by rw [show k=0 by omega] at hv;simpa using hv])) (zba (by rw [show k=0 by omega,zeg,Nat.div_one]))
theorem zo7 (a s:Nat) (ha:(dig 4294967296 a).length<=100000) (hs:s<=31):
  CtG Tryz.prog 379 [] [.val (tN a),.val (tI s)] (.own (.sl 12 1 0 ((dig 4294967296 a).length+1))) [(12,⟨284,1,false,rW .u32 (dgs 4294967296 ((dig 4294967296 a).length+1) (a*2 ^ s))⟩)] [12]:=by
 refine CtG.intro [] func379 rfl ntmps379 rfl rfl trivial ?_;intro w F η;refine A10 ?_;refine RE (xe5 (k:=12) (t:=tE (.int .u32 0)) (ts:=rW .u32 (List.replicate ((dig 4294967296 a).length+1) 0)) ((dig 4294967296 a).length+1) ((dig 4294967296 a).length+1) zgs el284 (fun _ _=>rfl) rfl (by omega) (by omega) (zbm _) (by omega) (by omega) (xp5 _)) qB trivial qA ?_;refine A12 ?_;refine cL (fun (fm:(Nat)×(List Nat))=>(fun (i:Nat) (ws:List Nat)=>i<=(dig 4294967296 a).length/\ws.length=(dig 4294967296 a).length+1/\Dig 4294967296 ws/\ws.drop (i+1)=List.replicate ((dig 4294967296 a).length - i) 0/\val 4294967296 (ws.take (i+1))=a%4294967296 ^ i*2 ^ s) fm.1 fm.2) (wB fun (i:Nat) (ws:List Nat)=>uV (uV (uV (uO (uV uN 1 (tI s)) 5 (.sl 12 1 0 ((dig 4294967296 a).length+1))) 13 (tN a)) 14 (tI (dig 4294967296 a).length)) 15 (tI i)) (wB fun (i:Nat) (ws:List Nat)=>uK uN 12 284 1 false (rW .u32 ws)) [12] (fun (fm:(Nat)×(List Nat))=>(fun (i:Nat) (ws:List Nat)=>(dig 4294967296 a).length - i) fm.1 fm.2) ((0,List.replicate ((dig 4294967296 a).length+1) 0)) (by dsimp only;exact ⟨zbs _,by simp,Dig.rep (by decide) _,by rw [zfd];congr 1,by rw [List.take_replicate,xg6,zeg,zfo,zfa]⟩) ?_;intro fm hI;obtain ⟨i,ws⟩:=fm;replace hI:i<=(dig 4294967296 a).length/\ws.length=(dig 4294967296 a).length+1/\Dig 4294967296 ws/\ws.drop (i+1)=List.replicate ((dig 4294967296 a).length - i) 0/\val 4294967296 (ws.take (i+1))=a%4294967296 ^ i*2 ^ s:=hI;show wc _ _ _ _ (uV (uV (uV (uO (uV uN 1 (tI s)) 5 (.sl 12 1 0 ((dig 4294967296 a).length+1))) 13 (tN a)) 14 (tI (dig 4294967296 a).length)) 15 (tI i)) (uK uN 12 284 1 false (rW .u32 ws)) _;obtain ⟨hi,hl,hD,hz,hv⟩:=hI;have hx:=xc1 xa2 a i;have hx1:=(xc3 xa2 a).getD (by omega) i;refine A6 ?_;refine xa6 rfl (fun h175=> ?_) (fun h175=> ?_)
 ·
  refine A7 ?_;refine R2 (x8 sl233 (i) (by omega) (gN (by omega))) rfl rfl ?_;refine A8 ?_;refine R1 (x9 zgw (isS zgu) (by first | exact wu64 (by omega) (by omega) | exact mu64)) rfl ?_;refine A1 ?_;have hw:=qw6 hx1 hs;have ht:=qn6 (by omega) hv;obtain ⟨ho,hoW⟩:=qt5 ht hx1 hs;refine R2 (xz8 (by omega) (shlN64 (s:=s) rfl (by omega) (by omega))) rfl rfl ?_;refine A7 ?_;refine R2 (zag sl233 rfl) rfl rfl (RE (x7 (i) ti284 (xo6 (by omega)) (by omega)) qA qA trivial ?_);refine A1 ?_;refine R1 (x9 zgu (isS zgw) cut32) rfl (R2 (yd9 ho) rfl rfl (R2 (zag sl233 rfl) rfl rfl (RE (xa8 (i) ti284 (xj2 (by omega)) (by omega) (xh1 (m:=_) rfl)) qB qA trivial ?_)));refine A7 ?_;refine R2 (xj1 (by decide) shr32) rfl rfl (R1 (x9 zgu (isS zgw) (wu32 (by omega) (by omega))) rfl (R2 (zag sl233 rfl) rfl rfl (RE (xa8 (i+1) ti284 (xj2 (by rw [zdx];omega)) (by omega) (xh1 (m:=_) rfl)) qB qA trivial ?_)));refine A7 ?_;obtain ⟨n1,n2,n3,n4⟩:=jg1 (by omega) hl hD hs hx hz hv;exact kF ((i+1,(ws.set i (ws.getD i 0+(dig 4294967296 a).getD i 0*2 ^ s%4294967296)).set (i+1) ((dig 4294967296 a).getD i 0*2 ^ s / 4294967296))) ⟨(by dsimp only;exact ⟨by omega,n1,n2,n3,n4⟩),(by dsimp only;omega)⟩
 ·
  refine A12 ?_;have hA:i=(dig 4294967296 a).length:=by omega
  subst hA;have hw:=qv4 hl hD (xg9 xa2 a) hv;subst hw;exact xg3 LentC.mk' rfl rfl Imp.refl qA rfl ⟨⟨rfl,xf3⟩,trivial⟩ rfl
end An.S
namespace An
theorem qw0 {P U V m w q:Nat} (hV:w*P<=V) (hU:U < (m+1)*P) (hq:q*V<=U):q*w<=m:=by
 have h1:q*w*P<=U:=by
  rw [zdf];exact zce (zdh _ hV) hq
 have h2:q*w < m+1:=Nat.lt_of_mul_lt_mul_right (zfu h1 hU);omega
theorem quo_ge {P U V m w d:Nat} (hV0:0 < V) (hV:V<=(w+1)*P) (hU:m*P<=U) (hd:d*w<=m) (hdP:d*P<=V):d<=U / V+1:=by
 rcases zcg d with h0 | h0
 ·rw [h0];exact zbs _
 have h1:d*V<=U+V:=by
  have h2:d*V<=d*((w+1)*P):=zdh _ hV;have h3:d*((w+1)*P)=d*w*P+d*P:=by rw [<-zdf,zct,zch,zfr]
  have h4:d*w*P<=m*P:=zbr _ hd;omega
 have h5:(d - 1)*V<=U:=by
  have:d*V=(d - 1)*V+V:=by
   obtain ⟨e,rfl⟩: ∃e,d=e+1:=⟨d - 1,by omega⟩
   rw [Nat.add_sub_cancel,zch,zfi]
  omega
 have h6:=(Nat.le_div_iff_mul_le hV0).2 h5;exact Nat.sub_le_iff_le_add.1 h6
theorem qp0 {B d u v c b w b' T Tu Tv X p:Nat} (hp:p=d*v+c) (hw:w+p%B+b=u+B*b') (h:T+d*Tv=Tu+(c+b)*X):
  T+X*w+d*(Tv+X*v)=Tu+X*u+(p / B+b')*(X*B):=by
 have h1:=zdg p B;have h2:X*w+X*(p%B)+X*b=X*u+X*(B*b'):=by rw [<-zct,<-zct,<-zct,hw]
 have h3:X*p=X*(d*v)+X*c:=by rw [hp,zct]
 have h4:X*p=X*(B*(p / B))+X*(p%B):=by rw [<-zct,h1]
 have e1:d*(Tv+X*v)=d*Tv+X*(d*v):=by rw [zct,Nat.mul_left_comm]
 have e2:(p / B+b')*(X*B)=X*(B*(p / B))+X*(B*b'):=by
  rw [zch];congr 1
  ·rw [zbz,zdf]
  ·rw [zbz,zdf]
 have e3:(c+b)*X=X*c+X*b:=by rw [zbz,zct]
 rw [e1,e2];rw [e3] at h;omega
end An
namespace An
open Go
theorem wquo64 {a b:Nat} (ha:a < 18446744073709551616):IntKind.u64.wrap ((a:Int).tdiv (b:Int))=((a / b:Nat):Int):=by
 rw [Int.tdiv_eq_ediv_of_nonneg (by omega)];have h:(a:Int) / (b:Int)=((a / b:Nat):Int):=(Int.natCast_ediv a b).symm;rw [h];have:=Nat.div_le_self a b;generalize a / b=q at*
 exact wu64 (by omega) (by omega)
theorem wrem64 {a b:Nat}:(a:Int).tmod (b:Int)=((a%b:Nat):Int):=by
 rw [Int.tmod_eq_emod_of_nonneg (by omega)];exact (Int.natCast_emod a b).symm
theorem shr63 {m:Nat}:((m:Nat):Int).fdiv (2 ^ (min (63:Int).toNat IntKind.u64.bits))=((m / 9223372036854775808:Nat):Int):=by
 have e:(2:Int) ^ (min (63:Int).toNat IntKind.u64.bits)=((9223372036854775808:Nat):Int):=by decide
 rw [e,zge _ (by omega)];rfl
theorem yf2 {l:List Nat} {k:Nat} (h:l.length=k+1):val W l=val W (l.take k)+W ^ k*l.getD k 0:=by
 rw [<-xe6 _ _ _ (by omega),<-h,zci]
theorem xz7 {l:List Nat} (hD:Dig W l) {k:Nat} (hk:k<=l.length):val W (l.take k) < W ^ k:=by
 have:=xo8 (hD.take k)
 rwa [zcz,zgb hk] at this
structure Two (m:Nat) (u v:List Nat):Prop where
  lu:u.length=m+3
  lv:v.length=m+2
  Du:Dig W u
  Dv:Dig W v
  top:2147483648<=v.getD (m+1) 0
  lt:val W u < val W v*W
namespace Two
variable {m:Nat} {u v:List Nat} (t:Two m u v)
include t
theorem hV1:v.getD (m+1) 0*(W*W ^ m)<=val W v/\val W v < (v.getD (m+1) 0+1)*(W*W ^ m):=by
 have h1:=yf2 t.lv;have h2:=xz7 t.Dv (k:=m+1) (by rw [t.lv];omega);rw [h1,zch,zfi,show W*W ^ m=W ^ (m+1) by rw [zcc,zbz],zbz (v.getD (m+1) 0)];omega
theorem pos:0 < val W v:=by
 have h1:=t.hV1.1;have h2:0 < W*W ^ m:=Nat.mul_pos (by decide) (zcu (by decide));have h3:=zbr (W*W ^ m) (show 1<=v.getD (m+1) 0 by have:=t.top;omega);omega
theorem hV2:(v.getD (m+1) 0*W+v.getD m 0)*W ^ m<=val W v/\val W v<=(v.getD (m+1) 0*W+v.getD m 0+1)*W ^ m:=by
 have h1:=yf2 t.lv;have h2:=xe6 W v m (by rw [t.lv];omega);have h3:=xz7 t.Dv (k:=m) (by rw [t.lv];omega);have e:v.getD (m+1) 0*W*W ^ m=W ^ (m+1)*v.getD (m+1) 0:=by rw [zcc];ac_rfl
 rw [zch,zch,zch,zfi,e,h1,h2,zbz (v.getD m 0)];omega
theorem hU:(u.getD (m+1) 0+u.getD (m+2) 0*4294967296)*(W*W ^ m)<=val W u/\val W u < (u.getD (m+1) 0+u.getD (m+2) 0*4294967296+1)*(W*W ^ m)/\
  ((u.getD (m+1) 0+u.getD (m+2) 0*4294967296)*W+u.getD m 0)*W ^ m<=val W u/\val W u < ((u.getD (m+1) 0+u.getD (m+2) 0*4294967296)*W+u.getD m 0+1)*W ^ m:=by
 have h1:=yf2 t.lu;have h2:=xe6 W u (m+1) (by rw [t.lu];omega);have h3:=xz7 t.Du (k:=m+1) (by rw [t.lu];omega);have h4:=xe6 W u m (by rw [t.lu];omega);have h5:=xz7 t.Du (k:=m) (by rw [t.lu];omega);have e0:W*W ^ m=W ^ (m+1):=by rw [zcc,zbz]
 have e1:u.getD (m+2) 0*4294967296*(W*W ^ m)=W ^ (m+2)*u.getD (m+2) 0:=by
  rw [zcc,zcc];show u.getD (m+2) 0*W*(W*W ^ m)=_;ac_rfl
 have e2:(u.getD (m+1) 0+u.getD (m+2) 0*4294967296)*(W*W ^ m)=W ^ (m+1)*u.getD (m+1) 0+W ^ (m+2)*u.getD (m+2) 0:=by
  rw [zch,e1,e0,zbz (W ^ (m+1))]
 have e3:(u.getD (m+1) 0+u.getD (m+2) 0*4294967296)*W*W ^ m=(u.getD (m+1) 0+u.getD (m+2) 0*4294967296)*(W*W ^ m):=zdf _ _ _;refine ⟨?_,?_,?_,?_⟩
 ·rw [e2,h1,h2];omega
 ·rw [zch,zfi,e2,h1,h2,e0];omega
 ·rw [zch,e3,e2,h1,h2,h4,zbz (u.getD m 0)];omega
 ·rw [zch,zfi,zch,e3,e2,h1,h2,h4,zbz (u.getD m 0)];omega
theorem q_lt:val W u / val W v < W:=zdd t.lt
theorem est0:val W u / val W v<=(u.getD (m+1) 0+u.getD (m+2) 0*4294967296) / v.getD (m+1) 0:=by
 have h:=qw0 t.hV1.1 t.hU.2.1 (Nat.div_mul_le_self (val W u) (val W v));exact (Nat.le_div_iff_mul_le (by have:=t.top;omega)).2 h
theorem est1:(u.getD (m+1) 0+u.getD (m+2) 0*4294967296) / v.getD (m+1) 0<=4294967297:=by
 have h1:=t.hV1.2;have h2:=t.hU.1;have h3:=t.lt;have hp:0 < W*W ^ m:=Nat.mul_pos (by decide) (zcu (by decide));have h4:(u.getD (m+1) 0+u.getD (m+2) 0*4294967296)*(W*W ^ m) < (v.getD (m+1) 0+1)*W*(W*W ^ m):=by
  refine zfu h2 (zby h3 ?_);rw [zdf,zbz W,<-zdf];exact zbr _ (zfv h1)
 have h5:=Nat.lt_of_mul_lt_mul_right h4;have h6:(u.getD (m+1) 0+u.getD (m+2) 0*4294967296) / v.getD (m+1) 0 < 4294967298:=by
  refine zdd ?_;have:=t.top;have h7:(v.getD (m+1) 0+1)*W=v.getD (m+1) 0*4294967296+4294967296:=by rw [zch,zfi]
  rw [h7] at h5;generalize v.getD (m+1) 0=x at*
  generalize u.getD (m+1) 0+u.getD (m+2) 0*4294967296=y at*
  have h8:x*4294967298=x*4294967296+2*x:=by rw [zbz 2,<-zct]
  rw [h8];clear h1 h2 h3 h4 h7 h8;omega
 exact Nat.le_of_lt_succ h6
theorem dec {d r:Nat} (hq:val W u / val W v<=d) (hd:d*v.getD (m+1) 0+r=u.getD (m+1) 0+u.getD (m+2) 0*4294967296) (hg:4294967296<=d∨u.getD m 0+r*2 ^ 32 < d*v.getD m 0):
  val W u / val W v<=d - 1/\(d - 1)*v.getD (m+1) 0+(r+v.getD (m+1) 0)=u.getD (m+1) 0+u.getD (m+2) 0*4294967296/\1<=d:=by
 have h0:=t.q_lt;have h1:1<=d:=by
  rcases hg with hg | hg
  ·omega
  ·rcases zcg d with h | h
   ·rw [h,zfa] at hg;omega
   ·exact h
 refine ⟨?_,?_,h1⟩
 ·rcases hg with hg | hg
  ·have:val W u / val W v < 4294967296:=h0;omega
  ·rcases Nat.lt_or_eq_of_le hq with h1 | h1
   ·omega
   ·exfalso;have h2:=qw0 t.hV2.1 t.hU.2.2.2 (Nat.div_mul_le_self (val W u) (val W v));rw [h1,<-hd,zct,<-zdf,zch] at h2;have e:r*W=r*2 ^ 32:=rfl;omega
 ·obtain ⟨e,rfl⟩: ∃e,d=e+1:=⟨d - 1,by omega⟩
  rw [zch,zfi] at hd;rw [Nat.add_sub_cancel];omega
theorem good {d r:Nat} (hd:d*v.getD (m+1) 0+r=u.getD (m+1) 0+u.getD (m+2) 0*4294967296) (hdW:d<=4294967296) (hg:d*v.getD m 0<=u.getD m 0+r*2 ^ 32):d<=val W u / val W v+1:=by
 refine quo_ge (P:=W ^ m) t.pos t.hV2.2 t.hU.2.2.1 ?_ ?_
 ·rw [<-hd,zct,<-zdf,zch];have e:r*W=r*2 ^ 32:=rfl;omega
 ·refine zce ?_ t.hV1.1;have h1:d*W ^ m<=W*W ^ m:=zbr _ hdW;have h2:=zbr (W*W ^ m) (show 1<=v.getD (m+1) 0 by have:=t.top;omega);omega
theorem good2 {d r:Nat} (hd:d*v.getD (m+1) 0+r=u.getD (m+1) 0+u.getD (m+2) 0*4294967296) (hdW:d<=4294967296) (hr:4294967296<=r):d<=val W u / val W v+1:=by
 refine t.good hd hdW ?_;have h1:v.getD m 0 < W:=t.Dv.getD (by decide) m;have h2:d*v.getD m 0<=4294967296*v.getD m 0:=zbr _ hdW;have h3:4294967296*v.getD m 0<=4294967296*4294967295:=zdh _ (by have:v.getD m 0 < 4294967296:=h1;omega);omega
end Two
def dif64 (x y b:Nat):Nat:=(x+18446744073709551616 - y - b)%18446744073709551616
theorem dif64_eq {x y b:Nat} (hy:y < 4294967296) (hb:b<=1):IntKind.u64.wrap (IntKind.u64.wrap ((x:Int) - (y:Int)) - (b:Int))=((dif64 x y b:Nat):Int):=by
 rw [mu64,mu64,dif64];omega
theorem dif64_top {x y b:Nat} (hx:x < 4294967296) (hy:y < 4294967296) (hb:b<=1):dif64 x y b / 9223372036854775808=if x < y+b then 1 else 0:=by
 rw [dif64];split <;> omega
theorem dif64_low {x y b:Nat} (hx:x < 4294967296) (hy:y < 4294967296) (hb:b<=1):dif64 x y b%4294967296+y+b=x+W*(dif64 x y b / 9223372036854775808):=by
 rw [dif64_top hx hy hb,dif64];show _=x+4294967296*_;split <;> omega
theorem dif64_le {x y b:Nat} (hx:x < 4294967296) (hy:y < 4294967296) (hb:b<=1):dif64 x y b / 9223372036854775808<=1:=by
 rw [dif64_top hx hy hb];split <;> omega
theorem qi2 {d v c:Nat} (hd:d<=4294967296) (hv:v < 4294967296) (hc:c < 4294967296):d*v<=18446744069414584320/\d*v+c < 18446744073709551616:=by
 have h1:d*v<=4294967296*4294967295:=Nat.mul_le_mul hd (by omega);omega
theorem ji3 {n d c b i:Nat} {u v ws:List Nat} (hi:i < n) (lu:u.length=n+1) (lv:v.length=n) (Dv:Dig W v) (hl:ws.length=n+1) (hD:Dig W ws) (hdr:ws.drop i=u.drop i) (hd:d<=4294967296) (hc:c < 4294967296) (hb:b<=1)
  (hv:val W (ws.take i)+d*val W (v.take i)=val W (u.take i)+(c+b)*W ^ i):
  let p:=d*v.getD i 0+c
  let e:=dif64 (ws.getD i 0) (p%4294967296) b
  (ws.set i (e%4294967296)).length=n+1/\Dig W (ws.set i (e%4294967296))/\(ws.set i (e%4294967296)).drop (i+1)=u.drop (i+1)/\p / 4294967296 < 4294967296/\e / 9223372036854775808<=1/\
   val W ((ws.set i (e%4294967296)).take (i+1))+d*val W (v.take (i+1))=val W (u.take (i+1))+(p / 4294967296+e / 9223372036854775808)*W ^ (i+1):=by
 intro p e;have hvi:v.getD i 0 < 4294967296:=Dv.getD (by decide) i;have hwi:ws.getD i 0 < 4294967296:=hD.getD (by decide) i;have hp:=qi2 hd hvi hc;have hpm:p%4294967296 < 4294967296:=zcd _ (by decide);refine ⟨by simpa using hl,hD.set (zcd _ (by decide)),by rw [xf2];exact xj4 hdr (by omega),zdd hp.2,dif64_le hwi hpm hb,?_⟩;rw [xg0 (by omega),xe6 _ v _ (by omega),xe6 _ u _ (by omega),zcc];refine qp0 (p:=p) rfl ?_ hv;rw [<-xi3 hdr (zbm _)];exact dif64_low hwi hpm hb
theorem jb5 {n d c b:Nat} {u v ws:List Nat} (lu:u.length=n+1) (lv:v.length=n) (hl:ws.length=n+1) (hD:Dig W ws) (hdr:ws.drop n=u.drop n) (hc:c < 4294967296) (hb:b<=1)
  (hv:val W (ws.take n)+d*val W (v.take n)=val W (u.take n)+(c+b)*W ^ n):
  let e:=dif64 (ws.getD n 0) c b
  (ws.set n (e%4294967296)).length=n+1/\Dig W (ws.set n (e%4294967296))/\val W (ws.set n (e%4294967296))+d*val W v=val W u+e / 9223372036854775808*W ^ (n+1)/\e / 9223372036854775808<=1:=by
 intro e;have hwi:ws.getD n 0 < 4294967296:=hD.getD (by decide) n;have h1:=dif64_low hwi hc hb;have hlen:(ws.set n (e%4294967296)).length=n+1:=by simpa using hl
 refine ⟨hlen,hD.set (zcd _ (by decide)),?_,dif64_le hwi hc hb⟩;have h2:=xg0 (B:=W) (l:=ws) (i:=n) (d:=e%4294967296) (by omega);rw [<-hlen,zci] at h2;have h3:=yf2 lu;rw [<-xi3 hdr (zbm _)] at h3;have h4:v.take n=v:=by rw [<-lv];exact zci
 rw [h4] at hv;rw [h2,h3];have h5:W ^ n*(e%4294967296)+W ^ n*c+W ^ n*b=W ^ n*ws.getD n 0+W ^ n*(W*(e / 9223372036854775808)):=by
  rw [<-zct,<-zct,<-zct,h1]
 have h6:e / 9223372036854775808*W ^ (n+1)=W ^ n*(W*(e / 9223372036854775808)):=by rw [zcc,zbz,zdf]
 rw [h6];rw [zbz (c+b),zct] at hv;omega
theorem qt6 {m d:Nat} {u v zs:List Nat} (t:Two m u v) (hl:zs.length=m+3) (hD:Dig W zs) (hq:val W u / val W v<=d) (h:val W zs+d*val W v=val W u+0*W ^ (m+3)):d=val W u / val W v/\zs=dgs W (m+3) (val W u%val W v):=by
 have h0:d<=val W u / val W v:=(Nat.le_div_iff_mul_le t.pos).2 (by omega);have h1:d=val W u / val W v:=by omega
 refine ⟨h1,?_⟩;have h2:val W zs=val W u%val W v:=by
  have:=zdg (val W u) (val W v);rw [<-h1,zbz] at this;omega
 rw [<-h2,<-hl,yu8 (by decide) hD]
theorem qp6 {m d:Nat} {u v zs:List Nat} (t:Two m u v) (hD:Dig W zs) (hl:zs.length=m+3) (hq:d<=val W u / val W v+1) (hq0:val W u / val W v<=d) (h:val W zs+d*val W v=val W u+1*W ^ (m+3)):
  d=val W u / val W v+1/\val W zs+val W v=W ^ (m+3)+val W u%val W v:=by
 have hz:=xo8 hD;rw [hl] at hz;have h0:val W u < d*val W v:=by omega
 have h1:val W u / val W v < d:=(Nat.div_lt_iff_lt_mul t.pos).2 h0;have h2:d=val W u / val W v+1:=by omega
 refine ⟨h2,?_⟩;have:=zdg (val W u) (val W v);rw [h2,zch,zfi,zbz] at h;omega
theorem jk2 {n i b:Nat} {zs ws v:List Nat} (hi:i < n) (lw:ws.length=n+1) (lv:v.length=n) (hl:zs.length=n+1) (hD:Dig W zs) (hdr:zs.drop i=ws.drop i) (Dv:Dig W v) (hb:b<=1)
  (hv:val W (zs.take i)+b*W ^ i=val W (ws.take i)+val W (v.take i)):
  let s:=zs.getD i 0+v.getD i 0+b
  (zs.set i (s%4294967296)).length=n+1/\Dig W (zs.set i (s%4294967296))/\(zs.set i (s%4294967296)).drop (i+1)=ws.drop (i+1)/\s / 4294967296<=1/\
   val W ((zs.set i (s%4294967296)).take (i+1))+s / 4294967296*W ^ (i+1)=val W (ws.take (i+1))+val W (v.take (i+1)):=by
 intro s;have hvi:v.getD i 0 < 4294967296:=Dv.getD (by decide) i;have hwi:zs.getD i 0 < 4294967296:=hD.getD (by decide) i;have h1:=zdg s 4294967296;refine ⟨by simpa using hl,hD.set (zcd _ (by decide)),by rw [xf2];exact xj4 hdr (by omega),by omega,?_⟩;rw [xg0 (by omega),xe6 _ v _ (by omega),xe6 _ ws _ (by omega),<-xi3 hdr (zbm _)];have h2:W ^ i*(s%4294967296)+W ^ i*(W*(s / 4294967296))=W ^ i*zs.getD i 0+W ^ i*v.getD i 0+W ^ i*b:=by
  rw [<-zct,<-zct,<-zct];congr 1;show _+4294967296*_=_;omega
 have h3:s / 4294967296*W ^ (i+1)=W ^ i*(W*(s / 4294967296)):=by rw [zcc,zbz,zdf]
 rw [h3];rw [zbz b] at hv;omega
theorem jc1 {m b r:Nat} {zs ws v:List Nat} (lw:ws.length=m+3) (lv:v.length=m+2) (hl:zs.length=m+3) (hD:Dig W zs) (hdr:zs.drop (m+2)=ws.drop (m+2)) (hb:b<=1)
  (hv:val W (zs.take (m+2))+b*W ^ (m+2)=val W (ws.take (m+2))+val W (v.take (m+2))) (h:val W ws+val W v=W ^ (m+3)+r):
  zs.set (m+2) ((zs.getD (m+2) 0+b)%4294967296)=dgs W (m+3) r:=by
 have hlen:(zs.set (m+2) ((zs.getD (m+2) 0+b)%4294967296)).length=m+3:=by simpa using hl
 have hDz:Dig W (zs.set (m+2) ((zs.getD (m+2) 0+b)%4294967296)):=hD.set (zcd _ (by decide));have h2:=xg0 (B:=W) (l:=zs) (i:=m+2) (d:=(zs.getD (m+2) 0+b)%4294967296) (by omega);rw [<-hlen,zci] at h2;have h4:v.take (m+2)=v:=by rw [<-lv];exact zci
 rw [h4] at hv;have h3:=yf2 lw;rw [<-xi3 hdr (zbm _)] at h3;have h5:=zdg (zs.getD (m+2) 0+b) 4294967296;have h6:W ^ (m+2)*((zs.getD (m+2) 0+b)%4294967296)+W ^ (m+2)*(4294967296*((zs.getD (m+2) 0+b) / 4294967296))=W ^ (m+2)*zs.getD (m+2) 0+W ^ (m+2)*b:=by
  rw [<-zct,<-zct];congr 1;omega
 have hwi:zs.getD (m+2) 0 < 4294967296:=hD.getD (by decide) _;have h7:val W (zs.set (m+2) ((zs.getD (m+2) 0+b)%4294967296)) < W ^ (m+3):=by
  have:=xo8 hDz;rwa [hlen] at this
 have h8:W ^ (m+3)=W ^ (m+2)*4294967296:=zcc ..;have hval:val W (zs.set (m+2) ((zs.getD (m+2) 0+b)%4294967296))=r:=by
  rw [zbz b] at hv;rcases zcs (zs.getD (m+2) 0+b) 4294967296 with h9 | h9
  ·rw [zcv h9,Nat.mul_zero] at h6;omega
  ·have h10:(zs.getD (m+2) 0+b) / 4294967296=1:=by omega
   rw [h10,zfr,<-h8] at h6;omega
 rw [<-hval,<-hlen,yu8 (by decide) hDz]
end An
namespace An.S
open Go Go.Proofs An Tryz
instance fi397:FnI Tryz.prog 397:=⟨_,func397,by kernel_rfl,rfl⟩
theorem zs0 (p u q v:List Nat) (m:Nat) (t:Two m u v) (hm:m<=100000):
  CtG Tryz.prog 380 [(9,⟨284,1,false,rW .u32 (p++(u++q))⟩)] [.own (.sl 9 1 p.length (m+3)),.val (tWs v)] (.val (tE (.int .u32 ((val 4294967296 u / val 4294967296 v:Nat):Int)))) [(9,⟨284,1,false,rW .u32 (p++(dgs 4294967296 (m+3) (val 4294967296 u%val 4294967296 v)++q))⟩)] []:=by
 refine CtG.intro [9] func380 rfl ntmps380 rfl rfl ⟨⟨rfl,xf3⟩,trivial⟩ ?_;intro w F η;have lu:=t.lu;have lv:=t.lv;have htop:=t.top;have hv1:v.getD (m+1) 0 < 4294967296:=t.Dv.getD (by decide) (m+1);have hv0:v.getD m 0 < 4294967296:=t.Dv.getD (by decide) m;have hu2:u.getD (m+2) 0 < 4294967296:=t.Du.getD (by decide) (m+2);have hu1:u.getD (m+1) 0 < 4294967296:=t.Du.getD (by decide) (m+1);have hu0:u.getD m 0 < 4294967296:=t.Du.getD (by decide) m;have hqW:val 4294967296 u / val 4294967296 v < 4294967296:=t.q_lt;refine A16 ?_;refine R2 (zag sl233 rfl) rfl rfl (RE (x7 (p.length+(m+2)) ti284 (ye2 (by omega)) (by omega)) qA qA trivial (R1 (x9 zgw (isS zgu) (by first | exact wu64 (by omega) (by omega) | exact mu64)) rfl (R2 (xz8 (by decide) (shl32 (by omega))) rfl rfl ?_)));refine A3 ?_;refine R2 (zag sl233 rfl) rfl rfl (RE (x7 (p.length+(m+1)) ti284 (ye2 (by omega)) (by omega)) qA qA trivial (R1 (x9 zgw (isS zgu) (by first | exact wu64 (by omega) (by omega) | exact mu64)) rfl (R2 (yd9 (r:=(((u.getD (m+1) 0+u.getD (m+2) 0*4294967296):Nat):Int)) (or32 (by omega) (by omega))) rfl rfl ?_)));refine A8 ?_;refine R2 (x8 sl233 (m+1) (by omega) (gN (by omega))) rfl rfl ?_;refine A1 ?_;refine R1 (x9 zgw (isS zgu) (by first | exact wu64 (by omega) (by omega) | exact mu64)) rfl ?_;refine A7 ?_;refine R2 (xs3 (r:=(((u.getD (m+1) 0+u.getD (m+2) 0*4294967296) / v.getD (m+1) 0:Nat):Int)) (by omega) (wquo64 (by omega))) rfl rfl ?_;refine A2 ?_;refine R2 (xr1 (by omega) wrem64) rfl rfl ?_;refine A4 ?_;refine xh3 (fun (d:Nat)=>val 4294967296 u / val 4294967296 v<=d/\d<=val 4294967296 u / val 4294967296 v+1) (fun (d:Nat)=>uV (uV (uV (uO uN 0 (.sl 9 1 p.length (m+3))) 1 (tWs v)) 5 (tI v.length)) 8 (tE (.int .u64 ((d:Nat):Int)))) (fun (d:Nat)=>uK uN 9 284 1 false (rW .u32 (p++(u++q)))) (nm [9]) ?_ ?_
 ·
  refine A1 ?_;refine cL (fun (fm:(Nat)×(Nat))=>(fun (d:Nat) (r:Nat)=>val 4294967296 u / val 4294967296 v<=d/\d*v.getD (m+1) 0+r=(u.getD (m+1) 0+u.getD (m+2) 0*4294967296)/\r < 4294967296/\d<=4294967297) fm.1 fm.2) (wB fun (d:Nat) (r:Nat)=>uV (uV (uV (uV (uV (uO uN 0 (.sl 9 1 p.length (m+3))) 1 (tWs v)) 5 (tI v.length)) 7 (tE (.int .u64 ((v.getD (m+1) 0:Nat):Int)))) 8 (tE (.int .u64 ((d:Nat):Int)))) 9 (tE (.int .u64 ((r:Nat):Int)))) (wB fun (d:Nat) (r:Nat)=>uK uN 9 284 1 false (rW .u32 (p++(u++q)))) [9] (fun (fm:(Nat)×(Nat))=>(fun (d:Nat) (r:Nat)=>d) fm.1 fm.2) (((u.getD (m+1) 0+u.getD (m+2) 0*4294967296) / v.getD (m+1) 0,(u.getD (m+1) 0+u.getD (m+2) 0*4294967296)%v.getD (m+1) 0)) (by dsimp only;exact ⟨t.est0,Nat.div_add_mod' _ _,Nat.lt_trans (zcd _ (by omega)) hv1,t.est1⟩) ?_;intro fm hI;obtain ⟨d,r⟩:=fm;replace hI:val 4294967296 u / val 4294967296 v<=d/\d*v.getD (m+1) 0+r=(u.getD (m+1) 0+u.getD (m+2) 0*4294967296)/\r < 4294967296/\d<=4294967297:=hI;show wc _ _ _ _ (uV (uV (uV (uV (uV (uO uN 0 (.sl 9 1 p.length (m+3))) 1 (tWs v)) 5 (tI v.length)) 7 (tE (.int .u64 ((v.getD (m+1) 0:Nat):Int)))) 8 (tE (.int .u64 ((d:Nat):Int)))) 9 (tE (.int .u64 ((r:Nat):Int)))) (uK uN 9 284 1 false (rW .u32 (p++(u++q)))) _;obtain ⟨hq,hd,hr,hdW⟩:=hI;refine A6 ?_;refine RGcaseD (t:=49) rfl (fun h213=> ?_) (fun h213=> ?_)
  ·
   have hdec:=t.dec hq hd (.inl (by omega));refine A18 ?_;refine A10 ?_;refine R2 (xf9 (r:=((d - 1:Nat):Int)) (by rw [wu64 (by omega) (by omega)];omega)) rfl rfl ?_;refine A7 ?_;refine R2 (xc9 (wadd64 (by omega))) rfl rfl ?_;refine A9 ?_;refine xa6 rfl (fun h216=> ?_) (fun h216=> ?_)
   ·
    refine A4 ?_;exact kF (d - 1) ⟨hdec.1,t.good2 hdec.2.1 (by omega) (by omega)⟩
   ·
    refine A2 ?_;exact kF ((d - 1,r+v.getD (m+1) 0)) ⟨(by dsimp only;exact ⟨hdec.1,hdec.2.1,by omega,by omega⟩),(by dsimp only;omega)⟩
  ·
   refine A3 ?_;refine Rg (zbf h213) rfl (xf9 zah) rfl qB (Rg (zbf h213) rfl (x8 sl233 (m) (by omega) (gN (by omega))) rfl qB ?_);refine A1 ?_;refine Rg (zbf h213) rfl (x9 zgw (isS zgu) (by first | exact wu64 (by omega) (by omega) | exact mu64)) rfl qA ?_;have hdv:=yf5 (x:=d) (y:=v.getD m 0) (by omega) (by omega);refine Rg (zbf h213) rfl (xj0 (wmul64 (by omega))) rfl qB ?_;refine A1 ?_;refine Rg (zbf h213) rfl (xz8 (by decide) (shl32 (by omega))) rfl qB ?_;refine A2 ?_;refine Rg (zbf h213) rfl (xf9 zah) rfl qB (Rg (zbf h213) rfl (zag sl233 rfl) rfl qB (RGon (zbf h213) rfl (x7 (p.length+(m)) ti284 (ye2 (by omega)) (by omega)) rfl qA qA trivial (Rg (zbf h213) rfl (x9 zgw (isS zgu) (by first | exact wu64 (by omega) (by omega) | exact mu64)) rfl qA (Rg (zbf h213) rfl (yd9 (or32 (by omega) (by omega))) rfl qB ?_))));refine A4 ?_;refine xa6 rfl (fun h213_2=> ?_) (fun h213_2=> ?_)
   ·
    have hdec:=t.dec hq hd (.inr (by omega));refine A6 ?_;refine R2 (xf9 (r:=((d - 1:Nat):Int)) (by rw [wu64 (by omega) (by omega)];omega)) rfl rfl ?_;refine A7 ?_;refine R2 (xc9 (wadd64 (by omega))) rfl rfl ?_;refine A9 ?_;refine xa6 rfl (fun h216=> ?_) (fun h216=> ?_)
    ·
     refine A4 ?_;exact kF (d - 1) ⟨hdec.1,t.good2 hdec.2.1 (by omega) (by omega)⟩
    ·
     refine A2 ?_;exact kF ((d - 1,r+v.getD (m+1) 0)) ⟨(by dsimp only;exact ⟨hdec.1,hdec.2.1,by omega,by omega⟩),(by dsimp only;omega)⟩
   ·
    refine A4 ?_;exact kF (d) ⟨hq,t.good hd (by omega) (by omega)⟩
 ·
  intro d hj213;obtain ⟨eq1,eq2⟩:=hj213;have hd4:d<=4294967296:=by omega
  refine A15 ?_;refine cL (fun (fm:(Nat)×(List Nat)×(Nat)×(Nat))=>(fun (i:Nat) (ws:List Nat) (c:Nat) (b:Nat)=>i<=m+2/\ws.length=m+2+1/\Dig 4294967296 ws/\ws.drop i=u.drop i/\c < 4294967296/\b<=1/\val 4294967296 (ws.take i)+d*val 4294967296 (v.take i)=val 4294967296 (u.take i)+(c+b)*4294967296 ^ i) fm.1 fm.2.1 fm.2.2.1 fm.2.2.2) (wD fun (i:Nat) (ws:List Nat) (c:Nat) (b:Nat)=>uV (uV (uV (uV (uV (uV (uV (uV (uO uN 0 (.sl 9 1 p.length (m+3))) 1 (tWs v)) 5 (tI v.length)) 8 (tE (.int .u64 ((d:Nat):Int)))) 10 (tE (.int .u64 ((c:Nat):Int)))) 11 (tE (.int .u64 ((b:Nat):Int)))) 76 (tWs v)) 77 (tI v.length)) 78 (tI i)) (wD fun (i:Nat) (ws:List Nat) (c:Nat) (b:Nat)=>uK uN 9 284 1 false (rW .u32 (p++(ws++q)))) [9] (fun (fm:(Nat)×(List Nat)×(Nat)×(Nat))=>(fun (i:Nat) (ws:List Nat) (c:Nat) (b:Nat)=>m+2 - i) fm.1 fm.2.1 fm.2.2.1 fm.2.2.2) ((0,u,0,0)) (by dsimp only;exact ⟨zbs _,lu,t.Du,rfl,by omega,by omega,by simp [val]⟩) ?_;intro fm hI;obtain ⟨i,ws,c,b⟩:=fm;replace hI:i<=m+2/\ws.length=m+2+1/\Dig 4294967296 ws/\ws.drop i=u.drop i/\c < 4294967296/\b<=1/\val 4294967296 (ws.take i)+d*val 4294967296 (v.take i)=val 4294967296 (u.take i)+(c+b)*4294967296 ^ i:=hI;show wc _ _ _ _ (uV (uV (uV (uV (uV (uV (uV (uV (uO uN 0 (.sl 9 1 p.length (m+3))) 1 (tWs v)) 5 (tI v.length)) 8 (tE (.int .u64 ((d:Nat):Int)))) 10 (tE (.int .u64 ((c:Nat):Int)))) 11 (tE (.int .u64 ((b:Nat):Int)))) 76 (tWs v)) 77 (tI v.length)) 78 (tI i)) (uK uN 9 284 1 false (rW .u32 (p++(ws++q)))) _;obtain ⟨hi,hl,hD,hdr,hc,hb,hv⟩:=hI;have hvi:v.getD i 0 < 4294967296:=t.Dv.getD (by decide) i;have hwi:=hD.getD (by decide) i;have hpr:=qi2 hd4 hvi hc;have hwn:=hD.getD (by decide) (m+2);refine A6 ?_;refine xa6 rfl (fun h221=> ?_) (fun h221=> ?_)
  ·
   refine A7 ?_;refine R2 (x8 sl233 (i) (by omega) (gN (by omega))) rfl rfl ?_;refine A9 ?_;refine R1 (x9 zgw (isS zgu) (by first | exact wu64 (by omega) (by omega) | exact mu64)) rfl (R2 (xj0 (wmul64 (by omega))) rfl rfl ?_);refine A1 ?_;refine R2 (xc9 (wadd64 (by omega))) rfl rfl ?_;refine A6 ?_;refine R2 (xj1 (by decide) shr32) rfl rfl ?_;refine A7 ?_;refine R2 (zag sl233 rfl) rfl rfl (RE (x7 (p.length+(i)) ti284 (ye2 (by omega)) (by omega)) qA qA trivial (R1 (x9 zgw (isS zgu) (by first | exact wu64 (by omega) (by omega) | exact mu64)) rfl ?_));refine A1 ?_;refine R1 (x9 zgu (isS zgw) cut32) rfl (R1 (x9 zgw (isS zgu) (by first | exact wu64 (by omega) (by omega) | exact mu64)) rfl (R2 (xf9 rfl) rfl rfl ?_));refine A1 ?_;refine R2 (xf9 (dif64_eq (by omega) (by omega))) rfl rfl ?_;refine A8 ?_;refine R1 (x9 zgu (isS zgw) cut32) rfl (R2 (zag sl233 rfl) rfl rfl (RE (xa8 (p.length+(i)) ti284 (zp7 (by omega)) (by omega) (zd9 (m:=_) rfl (by omega))) qB qA trivial ?_));refine A4 ?_;refine R2 (xj1 (by decide) shr63) rfl rfl ?_;refine A8 ?_;obtain ⟨n1,n2,n3,n4,n5,n6⟩:=ji3 (n:=m+2) (by omega) lu lv t.Dv hl hD hdr hd4 hc hb hv;exact kF ((i+1,ws.set i (dif64 (ws.getD i 0) ((d*v.getD i 0+c)%4294967296) b%4294967296),(d*v.getD i 0+c) / 4294967296,dif64 (ws.getD i 0) ((d*v.getD i 0+c)%4294967296) b / 9223372036854775808)) ⟨(by dsimp only;exact ⟨by omega,n1,n2,n3,n4,n5,n6⟩),(by dsimp only;omega)⟩
  ·
   have him:i=m+2:=by omega
   subst him;obtain ⟨y1,y2,y3,y4⟩:=jb5 (n:=m+2) lu lv hl hD hdr hc hb hv;refine A9 ?_;refine R2 (zag sl233 rfl) rfl rfl (RE (x7 (p.length+(m+2)) ti284 (ye2 (by omega)) (by omega)) qA qA trivial (R1 (x9 zgw (isS zgu) (by first | exact wu64 (by omega) (by omega) | exact mu64)) rfl ?_));refine A1 ?_;refine R2 (xf9 rfl) rfl rfl ?_;refine A1 ?_;refine R2 (xf9 (dif64_eq (by omega) (by omega))) rfl rfl ?_;refine A8 ?_;refine R1 (x9 zgu (isS zgw) cut32) rfl (R2 (zag sl233 rfl) rfl rfl (RE (xa8 (p.length+(m+2)) ti284 (zp7 (by omega)) (by omega) (zd9 (m:=_) rfl (by omega))) qB qA trivial ?_));refine A6 ?_;refine R2 (xj1 (by decide) shr63) rfl rfl ?_;refine A3 ?_;refine xa6 rfl (fun h230=> ?_) (fun h230=> ?_)
   ·
    rw [show dif64 (ws.getD (m+2) 0) c b / 9223372036854775808=0 by omega] at y3;obtain ⟨z1,z2⟩:=qt6 t y1 y2 eq1 y3;refine A3 ?_;refine R1 (x9 zgu (isS zgw) cut32) rfl ?_;refine A5 ?_;exact xg3 LentC.mk' rfl rfl (Imp.int (by have z1:d=val 4294967296 u / val 4294967296 v:=z1;omega)) ⟨(congrArg (fun z=>some (HEnt.mk 284 1 false (rW .u32 (p++(z++q))))) z2),trivial⟩ rfl ⟨⟨rfl,xf3⟩,trivial⟩ rfl
   ·
    rw [show dif64 (ws.getD (m+2) 0) c b / 9223372036854775808=1 by omega] at y3;obtain ⟨z1,z2⟩:=qp6 t y2 y1 eq2 eq1 y3;have hd1:1<=d:=by rw [z1];exact Nat.le_add_left 1 _
    refine A16 ?_;refine cL (fun (fm:(Nat)×(List Nat)×(Nat))=>(fun (i:Nat) (zs:List Nat) (f:Nat)=>i<=m+2/\zs.length=m+2+1/\Dig 4294967296 zs/\zs.drop i=(ws.set (m+2) (dif64 (ws.getD (m+2) 0) c b%4294967296)).drop i/\f<=1/\val 4294967296 (zs.take i)+f*4294967296 ^ i=val 4294967296 ((ws.set (m+2) (dif64 (ws.getD (m+2) 0) c b%4294967296)).take i)+val 4294967296 (v.take i)) fm.1 fm.2.1 fm.2.2) (wC fun (i:Nat) (zs:List Nat) (f:Nat)=>uV (uV (uV (uV (uV (uV (uV (uO uN 0 (.sl 9 1 p.length (m+3))) 1 (tWs v)) 5 (tI v.length)) 8 (tE (.int .u64 ((d:Nat):Int)))) 17 (tE (.int .u32 ((f:Nat):Int)))) 129 (tWs v)) 130 (tI v.length)) 131 (tI i)) (wC fun (i:Nat) (zs:List Nat) (f:Nat)=>uK uN 9 284 1 false (rW .u32 (p++(zs++q)))) [9] (fun (fm:(Nat)×(List Nat)×(Nat))=>(fun (i:Nat) (zs:List Nat) (f:Nat)=>m+2 - i) fm.1 fm.2.1 fm.2.2) ((0,(ws.set (m+2) (dif64 (ws.getD (m+2) 0) c b%4294967296)),0)) (by dsimp only;exact ⟨zbs _,y1,y2,rfl,by omega,by simp [val]⟩) ?_;intro fm hZ;obtain ⟨i,zs,f⟩:=fm;replace hZ:i<=m+2/\zs.length=m+2+1/\Dig 4294967296 zs/\zs.drop i=(ws.set (m+2) (dif64 (ws.getD (m+2) 0) c b%4294967296)).drop i/\f<=1/\val 4294967296 (zs.take i)+f*4294967296 ^ i=val 4294967296 ((ws.set (m+2) (dif64 (ws.getD (m+2) 0) c b%4294967296)).take i)+val 4294967296 (v.take i):=hZ;show wc _ _ _ _ (uV (uV (uV (uV (uV (uV (uV (uO uN 0 (.sl 9 1 p.length (m+3))) 1 (tWs v)) 5 (tI v.length)) 8 (tE (.int .u64 ((d:Nat):Int)))) 17 (tE (.int .u32 ((f:Nat):Int)))) 129 (tWs v)) 130 (tI v.length)) 131 (tI i)) (uK uN 9 284 1 false (rW .u32 (p++(zs++q)))) _;clear hi hl hD hdr hc hv;obtain ⟨hi,hl,hD,hdr,hf,hv⟩:=hZ;have hvi:v.getD i 0 < 4294967296:=t.Dv.getD (by decide) i;have hzi:=hD.getD (by decide) i;refine A6 ?_;refine xa6 rfl (fun h234=> ?_) (fun h234=> ?_)
    ·
     refine A7 ?_;refine R2 (x8 sl233 (i) (by omega) (gN (by omega))) rfl rfl ?_;refine A10 ?_;refine R2 (zag sl233 rfl) rfl rfl (RE (x7 (p.length+(i)) ti284 (ye2 (by omega)) (by omega)) qA qA trivial ?_);refine A2 ?_;refine Rt (x3 (jo7 _ _ _ (by omega) (by omega) (by omega)) fi397 rfl) qC ?_;refine A3 ?_;refine R2 (zag sl233 rfl) rfl rfl (RE (xa8 (p.length+(i)) ti284 (zp7 (by omega)) (by omega) (zd9 (m:=_) rfl (by omega))) qB qA trivial ?_);refine A8 ?_;obtain ⟨n1,n2,n3,n4,n5⟩:=jk2 (n:=m+2) (by omega) y1 lv hl hD hdr t.Dv hf hv;exact kF ((i+1,zs.set i ((zs.getD i 0+v.getD i 0+f)%4294967296),(zs.getD i 0+v.getD i 0+f) / 4294967296)) ⟨(by dsimp only;exact ⟨by omega,n1,n2,n3,n4,n5⟩),(by dsimp only;omega)⟩
    ·
     have him:i=m+2:=by omega
     subst him;have hfin:=jc1 y1 lv hl hD hdr hf hv z2;refine A9 ?_;refine R2 (zag sl233 rfl) rfl rfl (RE (x7 (p.length+(m+2)) ti284 (ye2 (by omega)) (by omega)) qA qA trivial ?_);refine A1 ?_;refine R2 (xc9 (r:=(((zs.getD (m+2) 0+f)%4294967296:Nat):Int)) (by rw [mu32];omega)) rfl rfl (R2 (zag sl233 rfl) rfl rfl (RE (xa8 (p.length+(m+2)) ti284 (zp7 (by omega)) (by omega) (zd9 (m:=_) rfl (by omega))) qB qA trivial ?_));refine A5 ?_;refine R2 (xf9 (r:=((d - 1:Nat):Int)) (by rw [wu64 (by omega) (by omega)];omega)) rfl rfl (R1 (x9 zgu (isS zgw) cut32) rfl ?_);refine A4 ?_;exact xg3 LentC.mk' rfl rfl (Imp.int (by have z1:d=val 4294967296 u / val 4294967296 v+1:=z1;omega)) ⟨(congrArg (fun z=>some (HEnt.mk 284 1 false (rW .u32 (p++(z++q))))) hfin),trivial⟩ rfl ⟨⟨rfl,xf3⟩,trivial⟩ rfl
end An.S
namespace An
open Go
theorem yw7: ∀(n x:Nat),x < n->x≠0->x < 2 ^ 64->2 ^ (Lib.bitLen x - 1)<=x/\x < 2 ^ Lib.bitLen x/\1<=Lib.bitLen x
 | 0,x,h,_,_=>by omega
 | n+1,x,h,h0,h64=>by
  have h1:=Lib.bitLen_half x h0 h64;rcases zcg (x / 2) with h2 | h2
  ·have h3:x=1:=by omega
   subst h3;have h4:Lib.bitLen 0=0:=by decide
   rw [h2,h4] at h1;rw [h1];decide
  ·obtain ⟨i1,i2,i3⟩:=yw7 n (x / 2) (by omega) (by omega) (by omega);rw [h1];refine ⟨?_,?_,by omega⟩
   ·have e:1+Lib.bitLen (x / 2) - 1=(Lib.bitLen (x / 2) - 1)+1:=by omega
    rw [e,zcc];omega
   ·rw [Nat.add_comm,zcc];omega
theorem jr3 {x s:Nat} (h0:0 < x) (h:x < 4294967296) (hs:32 - Lib.bitLen x=s):s<=31/\2147483648<=x*2 ^ s/\x*2 ^ s < 4294967296:=by
 obtain ⟨h1,h2,h3⟩:=yw7 (x+1) x (by omega) (by omega) (by omega);have h4:=Lib.bitLen_le x 32 (by decide) h;have hp:0 < 2 ^ s:=zcu (by omega);refine ⟨by omega,?_,?_⟩
 ·have e:(2147483648:Nat)=2 ^ (Lib.bitLen x - 1)*2 ^ s:=by rw [<-zew,show Lib.bitLen x - 1+s=31 by omega]
  rw [e];exact zbr _ h1
 ·have e:(4294967296:Nat)=2 ^ Lib.bitLen x*2 ^ s:=by rw [<-zew,show Lib.bitLen x+s=32 by omega]
  rw [e];exact zei h2 hp
theorem ys1 (B x y v:Nat):dgs B (x+y) v=dgs B x v++dgs B y (v / B ^ x):=by
 induction y with
 | zero=>rw [zej,je3,zfg]
 | succ y ih=>rw [<-zfq,xj9,xj9,ih,zfz,zdi,<-zew]
theorem ym8 {B n k v:Nat} (h:k<=n):(dgs B n v).take k=dgs B k v:=by
 obtain ⟨d,rfl⟩: ∃d,n=k+d:=⟨n - k,by omega⟩
 rw [ys1,List.take_left' (xg7 _ _ _)]
theorem norm {b m s:Nat} (hl:(dig W b).length=m+2) (hs:32 - Lib.bitLen ((dig W b).getD (m+1) 0)=s):
  s<=31/\b*2 ^ s < W ^ (m+2)/\2147483648<=b*2 ^ s / W ^ (m+1)%W/\W ^ (m+1)<=b/\2147483648*W ^ (m+1)<=b*2 ^ s:=by
 have hb:b < W ^ (m+2):=(xb3 xa2 b _).1 (Nat.le_of_eq hl);have hb0:0 < b:=by
  rcases zcg b with h | h
  ·subst h;rw [xc4] at hl;simp at hl
  ·exact h
 have hb1:W ^ (m+1)<=b:=by
  have:=qk4 xa2 hb0
  rwa [hl] at this
 have hp:0 < W ^ (m+1):=zcu (by decide);have ht:(dig W b).getD (m+1) 0=b / W ^ (m+1):=by
  rw [xc1 xa2,zbx];refine zdd ?_
  rwa [zcc] at hb
 rw [ht] at hs;have ht0:0 < b / W ^ (m+1):=Nat.div_pos hb1 hp;have ht1:b / W ^ (m+1) < 4294967296:=zdd (by rwa [zcc] at hb);obtain ⟨h1,h2,h3⟩:=jr3 ht0 ht1 hs;have h2s:0 < 2 ^ s:=zcu (by omega);have h4:(b / W ^ (m+1)+1)*2 ^ s<=4294967296:=by
  have e:(4294967296:Nat)=2 ^ (32 - s)*2 ^ s:=by rw [<-zew,show 32 - s+s=32 by omega]
  rw [e] at h3 ⊢;exact zbr _ (Nat.lt_of_mul_lt_mul_right h3)
 have h5:=zdg b (W ^ (m+1));have h6:=zcd b hp;have h7:b*2 ^ s < W ^ (m+2):=by
  have e:W ^ (m+2)=W ^ (m+1)*4294967296:=zcc ..;rw [e];have h8:b < W ^ (m+1)*(b / W ^ (m+1)+1):=by rw [zct,zfr];omega
  have h9:b*2 ^ s < W ^ (m+1)*(b / W ^ (m+1)+1)*2 ^ s:=zei h8 h2s;rw [zdf] at h9;exact zby h9 (zdh _ h4)
 have h10:2147483648*W ^ (m+1)<=b*2 ^ s:=by
  have h11:b / W ^ (m+1)*2 ^ s*W ^ (m+1)<=b*2 ^ s:=by
   rw [Nat.mul_right_comm];exact zbr _ (Nat.div_mul_le_self _ _)
  exact zce (zbr _ h2) h11
 refine ⟨h1,h7,?_,hb1,h10⟩;have h8:b*2 ^ s / W ^ (m+1) < W:=zdd (by rwa [zcc] at h7);rw [zbx h8];exact (Nat.le_div_iff_mul_le hp).2 h10
theorem zz0 {A B k:Nat} (hB:0 < B):A%(W ^ (k+1)*B) / W ^ k < B*W:=by
 have hp:0 < W ^ k:=zcu (by decide);refine zdd ?_;have h:=zcd A (Nat.mul_pos (zcu (n:=k+1) (show 0 < W by decide)) hB);have e:W ^ (k+1)*B=W ^ k*(B*W):=by rw [zcc];ac_rfl
 rwa [e] at h ⊢
theorem qq7 {A B m k:Nat} (hB:B < W ^ (m+2)) (ht:2147483648<=B / W ^ (m+1)%W) (hB0:0 < B):Two m (dgs W (m+3) (A%(W ^ (k+1)*B) / W ^ k)) (dgs W (m+2) B):=by
 have h1:=zz0 (A:=A) (k:=k) hB0;have h2:A%(W ^ (k+1)*B) / W ^ k < W ^ (m+3):=by
  refine Nat.lt_trans h1 ?_;rw [zcc];exact zei hB (by decide)
 refine ⟨xg7 _ _ _,xg7 _ _ _,yu2 (by decide) _ _,yu2 (by decide) _ _,?_,?_⟩
 ·rw [xw0 (by omega)];exact ht
 ·rw [xz3,xz3,zbx h2,zbx hB];exact h1
theorem qj1 {n R m k:Nat} (hk:k+(m+3)<=n):dgs W n R=dgs W k R++(dgs W (m+3) (R / W ^ k)++dgs W (n - k - (m+3)) (R / W ^ k / W ^ (m+3))):=by
 obtain ⟨d,rfl⟩: ∃d,n=k+(m+3+d):=⟨n - k - (m+3),by omega⟩
 rw [ys1,ys1,show k+(m+3+d) - k - (m+3)=d by omega]
theorem jd2 (A B k:Nat):A%(W ^ k*B)=A%(W ^ (k+1)*B)%W ^ k+W ^ k*(A%(W ^ (k+1)*B) / W ^ k%B):=by
 rw [<-Nat.mod_mul];have e:W ^ (k+1)*B=W ^ k*B*W:=by rw [zcc];ac_rfl
 rw [e,Nat.mod_mul_right_mod]
theorem jg5 {A B n m k:Nat} (hk:k+(m+3)<=n) (hB:B < W ^ (m+2)) (hB0:0 < B):
  dgs W k (A%(W ^ (k+1)*B))++(dgs W (m+3) (val W (dgs W (m+3) (A%(W ^ (k+1)*B) / W ^ k))%val W (dgs W (m+2) B))++dgs W (n - k - (m+3)) (A%(W ^ (k+1)*B) / W ^ k / W ^ (m+3)))=dgs W n (A%(W ^ k*B)):=by
 have h1:=zz0 (A:=A) (k:=k) hB0;have h2:A%(W ^ (k+1)*B) / W ^ k < W ^ (m+3):=by
  refine Nat.lt_trans h1 ?_;rw [zcc];exact zei hB (by decide)
 have hp:0 < W ^ k:=zcu (by decide);rw [xz3,xz3,zbx h2,zbx hB,qj1 (n:=n) (R:=A%(W ^ k*B)) hk];have h3:=jd2 A B k;have h4:A%(W ^ k*B) / W ^ k=A%(W ^ (k+1)*B) / W ^ k%B:=by
  rw [h3,zeb _ _ hp,zcv (zcd _ hp),zcj]
 have h5:A%(W ^ k*B)%W ^ k=A%(W ^ (k+1)*B)%W ^ k:=by
  conv=>lhs;rw [h3]
  rw [zfs,Nat.mod_mod]
 have h6:A%(W ^ (k+1)*B) / W ^ k%B < W ^ (m+3):=zfu (Nat.mod_le _ _) h2;rw [h4,qp1 h5,zcv h6,zcv h2]
theorem jc0 {A B m k:Nat} (hB:B < W ^ (m+2)) (hB0:0 < B):
  A / (W ^ k*B)=val W (dgs W (m+3) (A%(W ^ (k+1)*B) / W ^ k)) / val W (dgs W (m+2) B)+W*(A / (W ^ (k+1)*B)):=by
 have h1:=zz0 (A:=A) (k:=k) hB0;have h2:A%(W ^ (k+1)*B) / W ^ k < W ^ (m+3):=by
  refine Nat.lt_trans h1 ?_;rw [zcc];exact zei hB (by decide)
 have hp:0 < W ^ k:=zcu (by decide);rw [xz3,xz3,zbx h2,zbx hB];have h3:=zdg A (W ^ (k+1)*B)
 conv=>lhs;rw [<-h3]
 have e:W ^ (k+1)*B*(A / (W ^ (k+1)*B))=W ^ k*(B*(W*(A / (W ^ (k+1)*B)))):=by rw [zcc];ac_rfl
 rw [e,<-zdi,Nat.mul_add_div hp,Nat.mul_add_div hB0,Nat.add_comm]
theorem q_in {A B m k n q:Nat} {qs:List Nat} (hB:B < W ^ (m+2)) (ht:2147483648<=B / W ^ (m+1)%W) (hB0:0 < B) (hk:k < n) (hl:qs.length=n) (hD:Dig W qs) (hv:val W (qs.drop (k+1))=A / (W ^ (k+1)*B))
  (hq:q=val W (dgs W (m+3) (A%(W ^ (k+1)*B) / W ^ k)) / val W (dgs W (m+2) B)):(qs.set k q).length=n/\Dig W (qs.set k q)/\val W ((qs.set k q).drop k)=A / (W ^ k*B):=by
 refine ⟨by simpa using hl,hD.set (hq▸(qq7 hB ht hB0).q_lt),?_⟩;rw [xj7 _ _ _ (by simpa using (by omega:k < qs.length)),xk0 (by omega),xf2,hv,hq];exact (jc0 hB hB0).symm
theorem je7 {a b m s n:Nat} (hs:s<=31) (ha:a < W ^ n) (hn:m+2<=n) (hB:2147483648*W ^ (m+1)<=b*2 ^ s):a*2 ^ s < W ^ (n - (m+2)+1)*(b*2 ^ s):=by
 have h1:=pow2_le31 hs;have hp:0 < 2 ^ s:=zcu (by omega);have h2:a*2 ^ s < W ^ n*2 ^ s:=zei ha hp;have h3:W ^ n*2 ^ s<=W ^ n*2147483648:=zdh _ h1;have h4:W ^ n*2147483648=W ^ (n - (m+2)+1)*(2147483648*W ^ (m+1)):=by
  have:W ^ n=W ^ (n - (m+2)+1)*W ^ (m+1):=by rw [<-zew];congr 1;omega
  rw [this,zdf,zbz (W ^ (m+1))]
 exact zby h2 (zce h3 (h4▸zdh _ hB))
theorem qo2 (X s:Nat) (hs:s<=31):(X%W+X / W%W*2 ^ 32) / 2 ^ s%W=X / 2 ^ s%W:=by
 have e1:X%W+X / W%W*2 ^ 32=X%(W*W):=by
  rw [Nat.mod_mul,zbz (X / W%W)]
 rw [e1];have h1:=zdg X (W*W);have hp:0 < 2 ^ s:=zcu (by omega);have e2:W*W*(X / (W*W))=2 ^ s*(W*(2 ^ (32 - s)*(X / (W*W)))):=by
  have:W=2 ^ s*2 ^ (32 - s):=by rw [<-zew,show s+(32 - s)=32 by omega]
  conv=>lhs;rw [zdf,this]
  conv=>rhs;rw [Nat.mul_left_comm W,<-zdf]
  rw [<-this]
 conv=>rhs;rw [<-h1,e2,Nat.mul_add_div hp,Nat.mul_add_mod]
theorem jq2 {r s i n m:Nat} {us:List Nat} (hs:s<=31) (hi:i < m) (hm:m < n) (hl:us.length=n) (hD:Dig W us) (hdr:us.drop i=(dgs W n (r*2 ^ s)).drop i) (ht:us.take i=dgs W i r):
  (us.set i ((us.getD i 0+us.getD (i+1) 0*2 ^ 32) / 2 ^ s%W)).length=n/\Dig W (us.set i ((us.getD i 0+us.getD (i+1) 0*2 ^ 32) / 2 ^ s%W))/\(us.set i ((us.getD i 0+us.getD (i+1) 0*2 ^ 32) / 2 ^ s%W)).drop (i+1)=(dgs W n (r*2 ^ s)).drop (i+1)/\
   (us.set i ((us.getD i 0+us.getD (i+1) 0*2 ^ 32) / 2 ^ s%W)).take (i+1)=dgs W (i+1) r:=by
 have hp:0 < 2 ^ s:=zcu (by omega);refine ⟨by simpa using hl,hD.set (zcd _ (by decide)),by rw [xf2];exact xj4 hdr (by omega),?_⟩;rw [xi8 (by omega),ht,xj9]
 congr 2
 rw [xi3 hdr (zbm _),xi3 hdr (Nat.le_succ i),xw0 (by omega),xw0 (by omega),zcc,<-zdi,qo2 _ _ hs,zdi,zbz (W ^ i),<-zdi,Nat.mul_div_cancel _ hp]
end An
namespace An.S
open Go Go.Proofs An Tryz
instance fi213:FnI Tryz.prog 213:=⟨_,func213,by kernel_rfl,rfl⟩
instance fi377:FnI Tryz.prog 377:=⟨_,func377,by kernel_rfl,rfl⟩
instance fi378:FnI Tryz.prog 378:=⟨_,func378,by kernel_rfl,rfl⟩
instance fi379:FnI Tryz.prog 379:=⟨_,func379,by kernel_rfl,rfl⟩
instance fi380:FnI Tryz.prog 380:=⟨_,func380,by kernel_rfl,rfl⟩
theorem xw2 {a b:Nat}:cmpN a b < 0↔a < b:=by
 simp only [cmpN];constructor
 ·intro h;split at h
  ·assumption
  ·split at h <;> simp at h
 ·intro h;rw [if_pos h];decide
theorem trim1 {x:Nat} (hx:x < 4294967296):trimL [x]=dig 4294967296 x:=by
 rw [xe8 xa2 (Dig.cons hx (Dig.nil _)),xk5,yi6];simp
theorem jb8 {b:Nat} (h:(dig 4294967296 b).length=1):(dig 4294967296 b).getD 0 0=b:=by
 rw [xc1 xa2,zeg,Nat.div_one];have:=(xb3 xa2 b 1).1 (Nat.le_of_eq h);rw [Nat.pow_one] at this;exact zbx this
theorem yn7 (a b:Nat) (hb:0 < b) (ha:(dig 4294967296 a).length<=100000) (hbl:(dig 4294967296 b).length<=100000):
  Ct Tryz.prog 336 [tN a,tN b] (tT [tN (a / b),tN (a%b)]):=by
 refine Ct.intro func336 rfl ntmps336 rfl ?_;intro w F;refine A11 ?_;refine Rt (x3 (yh4 _ _) fi213 rfl) qB ?_;refine A3 ?_;refine xa6 rfl (fun h185=> ?_) (fun h185=> ?_)
 ·
  have hab:=xw2.1 h185;refine A3 ?_;refine RE (xe9 (fun _=>20) (zk6 _ (by omega)) fi376 rfl (krN (ρ:=fun _=>20)) (krC (ρ:=fun _=>20) (k:=2) xi2 (krN (ρ:=fun _=>20))) ⟨⟨rfl,xf3⟩,trivial⟩ rfl) qA trivial qA ?_;refine A1 ?_;refine RE (xo2 (fun _ h=>h) (xk2 rfl) rfl) qA qA trivial ?_;refine A4 ?_;exact E2 rfl rfl rfl (leNil (by rw [zcv hab,xc4])) (Le.of (by rw [zbx hab]))
 ·
  have hab:b<=a:=by
   have:=mt xw2.2 h185;omega
  have hlab:=xd4 xa2 hab;have hlb:=zh9 xa2 hb;refine A10 ?_;refine xa6 rfl (fun h188=> ?_) (fun h188=> ?_)
  ·
   have hb0:=jb8 (b:=b) (by omega);have hbW:=(xc3 xa2 b).getD (by decide) 0;refine A4 ?_;refine R2 (x8 sl233 (0) (by omega) (gN (by omega))) rfl rfl ?_;refine A1 ?_;refine Rt (x3 (zp3 _ _ (by omega) (by omega) (by omega)) fi377 rfl) qB ?_;refine A11 ?_;refine R1 (xm7 (n:=1) [a%(dig 4294967296 b).getD 0 0] zgs el284 zf284 rfl rfl rfl) rfl (Rt (x3 (xs2 _) fi335 rfl) qA ?_);refine A6 ?_;exact E2 rfl rfl rfl (Le.of (by rw [hb0])) (Le.of (by rw [hb0,trim1 (Nat.lt_trans (zcd _ hb) (hb0▸hbW))]))
  ·
   obtain ⟨m,hm⟩: ∃m,(dig 4294967296 b).length=m+2:=⟨(dig 4294967296 b).length - 2,by omega⟩
   have ht:=(xc3 xa2 b).getD (by decide) (m+1);refine A14 ?_;refine R2 (x8 sl233 (m+1) (by omega) (gN (by omega))) rfl rfl ?_;refine A1 ?_;refine Rt (x3 (yf4 _ (by omega)) fi378 rfl) qA ?_;refine A7 ?_;generalize hs:32 - Lib.bitLen ((dig 4294967296 b).getD (m+1) 0)=s;obtain ⟨hs31,hBW,hBt,hb1,hB2⟩:=norm hm hs;have hB0:0 < b*2 ^ s:=Nat.mul_pos hb (zcu (by decide));refine RE (xe9 (fun _=>46) (zo7 _ _ (by omega) (by omega)) fi379 rfl (krN (ρ:=fun _=>46)) (krC (ρ:=fun _=>46) (k:=12) xi2 (krN (ρ:=fun _=>46))) ⟨⟨rfl,xf3⟩,trivial⟩ rfl) qB trivial qA ?_;refine A1 ?_;refine R2 (xv9 sl233 (m+2) (by omega) (by omega) rfl) rfl rfl (RE (xo2 (xs:=(dgs 4294967296 (m+2) (b*2 ^ s))) (fun _ h=>h) (by rw [zh1,ym8 (by omega)]) (xg7 _ _ _)) qA qA trivial ?_);refine A6 ?_;refine RE (xe9 (fun _=>51) (zo7 _ _ (by omega) (by omega)) fi379 rfl (krN (ρ:=fun _=>51)) (krC (ρ:=fun _=>51) (k:=12) xi2 (krN (ρ:=fun _=>51))) ⟨⟨rfl,xf3⟩,trivial⟩ rfl) qB trivial qA ?_;refine A10 ?_;refine RE (xe5 (k:=57) (t:=tE (.int .u32 0)) (ts:=rW .u32 (List.replicate (((dig 4294967296 a).length - (dig 4294967296 b).length+1)) 0)) (((dig 4294967296 a).length - (dig 4294967296 b).length+1)) (((dig 4294967296 a).length - (dig 4294967296 b).length+1)) zgs el284 (fun _ _=>rfl) rfl (by omega) (by omega) (zbm _) (by omega) (by omega) (xp5 _)) qB trivial qA ?_;refine A13 ?_;have hA0:=je7 (n:=(dig 4294967296 a).length) hs31 (xg9 xa2 a) (by omega) hB2;rw [<-hm] at hA0;refine cL (fun (fm:(Nat)×(List Nat))=>(fun (k:Nat) (qs:List Nat)=>k<=((dig 4294967296 a).length - (dig 4294967296 b).length+1)/\qs.length=((dig 4294967296 a).length - (dig 4294967296 b).length+1)/\Dig 4294967296 qs/\val 4294967296 (qs.drop k)=(a*2 ^ s) / (4294967296 ^ k*(b*2 ^ s))) fm.1 fm.2) (wB fun (k:Nat) (qs:List Nat)=>uV (uO (uO (uV (uV (uV uN 8 (tI (dig 4294967296 b).length)) 9 (tI s)) 10 (tWs (dgs 4294967296 (m+2) (b*2 ^ s)))) 11 (.sl 51 1 0 ((dig 4294967296 a).length+1))) 12 (.sl 57 1 0 ((dig 4294967296 a).length - (dig 4294967296 b).length+1))) 13 (tI ((k:Int) - 1))) (wB fun (k:Nat) (qs:List Nat)=>uK (uK uN 51 284 1 false (rW .u32 (dgs 4294967296 ((dig 4294967296 a).length+1) ((a*2 ^ s)%(4294967296 ^ k*(b*2 ^ s)))))) 57 284 1 false (rW .u32 qs)) [51,57] (fun (fm:(Nat)×(List Nat))=>(fun (k:Nat) (qs:List Nat)=>k) fm.1 fm.2) ((((dig 4294967296 a).length - (dig 4294967296 b).length+1),List.replicate ((dig 4294967296 a).length - (dig 4294967296 b).length+1) 0)) (by dsimp only;exact ⟨zbm _,by simp,Dig.rep (by decide) _,by rw [zfd,xg6];exact (zcv hA0).symm⟩) (hh:=(SubK.cons rfl ((zaq rfl (ImpK.ofTs (by dsimp only;rw [zbx hA0]))) zax))) ?_;intro fm hI;obtain ⟨k,qs⟩:=fm;replace hI:k<=((dig 4294967296 a).length - (dig 4294967296 b).length+1)/\qs.length=((dig 4294967296 a).length - (dig 4294967296 b).length+1)/\Dig 4294967296 qs/\val 4294967296 (qs.drop k)=(a*2 ^ s) / (4294967296 ^ k*(b*2 ^ s)):=hI;show wc _ _ _ _ (uV (uO (uO (uV (uV (uV uN 8 (tI (dig 4294967296 b).length)) 9 (tI s)) 10 (tWs (dgs 4294967296 (m+2) (b*2 ^ s)))) 11 (.sl 51 1 0 ((dig 4294967296 a).length+1))) 12 (.sl 57 1 0 ((dig 4294967296 a).length - (dig 4294967296 b).length+1))) 13 (tI ((k:Int) - 1))) (uK (uK uN 51 284 1 false (rW .u32 (dgs 4294967296 ((dig 4294967296 a).length+1) ((a*2 ^ s)%(4294967296 ^ k*(b*2 ^ s)))))) 57 284 1 false (rW .u32 qs)) _;obtain ⟨hk,hl,hD,hv⟩:=hI;refine A7 ?_;refine xa6 rfl (fun h197=> ?_) (fun h197=> ?_)
   ·
    obtain ⟨j,rfl⟩: ∃j,k=j+1:=⟨k - 1,by omega⟩
    refine xp2 (k:=51) rfl (congrArg (fun z=>HEnt.mk 284 1 false (rW .u32 z)) (qj1 (m:=m) (k:=j) (by omega))) ?_;refine A13 ?_;refine R3 (qj3 (off':=(dgs 4294967296 j ((a*2 ^ s)%(4294967296 ^ (j+1)*(b*2 ^ s)))).length) (len':=m+3) sl233 j (j+(m+3)) (by omega) (by omega) (by omega) (by omega) (by rw [xg7];omega) (by omega)) rfl rfl rfl ?_;refine A1 ?_;refine RE (xe9 (fun _=>51) (zs0 _ _ _ _ m (qq7 hBW hBt hB0) (by omega)) fi380 rfl (krC (ρ:=fun _=>51) (k:=9) xi2 (krN (ρ:=fun _=>51))) (krC (ρ:=fun _=>51) (k:=9) xi2 (krN (ρ:=fun _=>51))) ⟨⟨rfl,xf3⟩,trivial⟩ rfl) qB qA trivial (R2 (zag sl233 rfl) rfl rfl (RE (xa8 (j) ti284 (xj2 (by omega)) (by omega) (xh1 (m:=_) rfl)) qB qA trivial ?_));refine A8 ?_;obtain ⟨n1,n2,n3⟩:=q_in hBW hBt hB0 (by omega) hl hD hv rfl;exact kF ((j,qs.set j (val 4294967296 (dgs 4294967296 (m+3) (((a*2 ^ s)%(4294967296 ^ (j+1)*(b*2 ^ s))) / 4294967296 ^ j)) / val 4294967296 (dgs 4294967296 (m+2) (b*2 ^ s))))) ⟨(by dsimp only;exact ⟨by omega,n1,n2,n3⟩),(by dsimp only;omega)⟩ (hh:=(SubK.cons rfl ((zaq rfl (ImpK.ofTs (by dsimp only;exact congrArg (rW .u32) (jg5 (by omega) hBW hB0)))) zax)))
   ·
    have hk0:k=0:=by omega
    subst hk0;have hR:((a*2 ^ s)%(4294967296 ^ 0*(b*2 ^ s)))=a%b*2 ^ s:=by rw [zeg,zfi,Nat.mul_mod_mul_right]
    have hQ:val 4294967296 qs=a / b:=by
     rw [List.drop_zero,zeg,zfi,Nat.mul_div_mul_right _ _ (zcu (by decide))] at hv;exact hv
    refine A13 ?_;refine cL (fun (fm:(Nat)×(List Nat))=>(fun (i:Nat) (us:List Nat)=>i<=m+2/\us.length=(dig 4294967296 a).length+1/\Dig 4294967296 us/\us.drop i=(dgs 4294967296 ((dig 4294967296 a).length+1) (a%b*2 ^ s)).drop i/\us.take i=dgs 4294967296 i (a%b)) fm.1 fm.2) (wB fun (i:Nat) (us:List Nat)=>uV (uV (uO (uO (uV (uV uN 8 (tI (dig 4294967296 b).length)) 9 (tI s)) 11 (.sl 51 1 0 ((dig 4294967296 a).length+1))) 12 (.sl 57 1 0 ((dig 4294967296 a).length - (dig 4294967296 b).length+1))) 77 (tI (dig 4294967296 b).length)) 78 (tI i)) (wB fun (i:Nat) (us:List Nat)=>uK (uK uN 51 284 1 false (rW .u32 us)) 57 284 1 false (rW .u32 qs)) [51,57] (fun (fm:(Nat)×(List Nat))=>(fun (i:Nat) (us:List Nat)=>m+2 - i) fm.1 fm.2) ((0,dgs 4294967296 ((dig 4294967296 a).length+1) ((a*2 ^ s)%(4294967296 ^ 0*(b*2 ^ s))))) (by dsimp only;exact ⟨zbs _,xg7 _ _ _,yu2 (by decide) _ _,by rw [hR],rfl⟩) ?_;intro fm hJ;obtain ⟨i,us⟩:=fm;replace hJ:i<=m+2/\us.length=(dig 4294967296 a).length+1/\Dig 4294967296 us/\us.drop i=(dgs 4294967296 ((dig 4294967296 a).length+1) (a%b*2 ^ s)).drop i/\us.take i=dgs 4294967296 i (a%b):=hJ;show wc _ _ _ _ (uV (uV (uO (uO (uV (uV uN 8 (tI (dig 4294967296 b).length)) 9 (tI s)) 11 (.sl 51 1 0 ((dig 4294967296 a).length+1))) 12 (.sl 57 1 0 ((dig 4294967296 a).length - (dig 4294967296 b).length+1))) 77 (tI (dig 4294967296 b).length)) 78 (tI i)) (uK (uK uN 51 284 1 false (rW .u32 us)) 57 284 1 false (rW .u32 qs)) _;obtain ⟨hi,ul,uD,udr,ut⟩:=hJ;have hu0:=uD.getD (by decide) i;have hu1:=uD.getD (by decide) (i+1);refine A6 ?_;refine xa6 rfl (fun h200=> ?_) (fun h200=> ?_)
    ·
     refine A16 ?_;refine R2 (zag sl233 rfl) rfl rfl (RE (x7 (i+1) ti284 (xo6 (by omega)) (by omega)) qA qA trivial (R1 (x9 zgw (isS zgu) (by first | exact wu64 (by omega) (by omega) | exact mu64)) rfl (R2 (xz8 (by decide) (shl32 (by omega))) rfl rfl ?_)));refine A2 ?_;refine R2 (zag sl233 rfl) rfl rfl (RE (x7 (i) ti284 (xo6 (by omega)) (by omega)) qA qA trivial (R1 (x9 zgw (isS zgu) (by first | exact wu64 (by omega) (by omega) | exact mu64)) rfl (R2 (yd9 (or32 (by omega) (by omega))) rfl rfl ?_)));refine A1 ?_;refine R2 (xj1 (by omega) (shrN (s:=s) rfl (by show s<=64;omega))) rfl rfl (R1 (x9 zgu (isS zgw) cut32) rfl (R2 (zag sl233 rfl) rfl rfl (RE (xa8 (i) ti284 (xj2 (by omega)) (by omega) (xh1 (m:=_) rfl)) qB qA trivial ?_)));refine A7 ?_;obtain ⟨n1,n2,n3,n4⟩:=jq2 (m:=m+2) hs31 (by omega) (by omega) ul uD udr ut;exact kF ((i+1,us.set i ((us.getD i 0+us.getD (i+1) 0*2 ^ 32) / 2 ^ s%4294967296))) ⟨(by dsimp only;exact ⟨by omega,n1,n2,n3,n4⟩),(by dsimp only;omega)⟩
    ·
     refine A7 ?_;refine RE (xi5 (fun _ h=>h) (xk2 hl) hl) qA qA trivial (Rt (x3 (xs2 _) fi335 rfl) qA ?_);refine A2 ?_;refine RE (Does.giveL (k:=51) (es:=1) (off:=0) (len:=m+2) (xs:=us.take (m+2)) (f:=fun n:Nat=>tE (.int .u32 n)) (ts:=rW .u32 us) (xv9 sl233 (m+2) (by omega) (by omega) rfl) (fun _ h=>h) zh1 (by rw [zcz];omega)) qB qA trivial (Rt (x3 (xs2 _) fi335 rfl) qA ?_);refine A5 ?_;exact E2 rfl rfl rfl (Le.of (by rw [xe8 xa2 hD,hQ])) (Le.of (by rw [show m+2=i by omega,ut,j6 xa2 (Nat.lt_trans (zcd _ hb) (by rw [show i=(dig 4294967296 b).length by omega];exact xg9 xa2 b))]))
end An.S
namespace An
open Go
theorem jj9 (a k s:Nat) (hs:s<=31):a*2 ^ s / W ^ (k+1)=a / W ^ k%W / 2 ^ (32 - s)+a / W ^ (k+1)*2 ^ s:=by
 have hp:0 < 2 ^ s:=zcu (by omega);have hq:0 < 2 ^ (32 - s):=zcu (by omega);have e1:W ^ (k+1)=W ^ k*2 ^ (32 - s)*2 ^ s:=by
  rw [zdf,<-zew,show 32 - s+s=32 by omega,zcc]
 have e2:a / W ^ k=a / W ^ k%W+2 ^ (32 - s)*(a / W ^ (k+1)*2 ^ s):=by
  have h:=zdg (a / W ^ k) W;have e4:a / W ^ k / W=a / W ^ (k+1):=by rw [zdi,<-zcc]
  rw [e4] at h;have e5:W=2 ^ (32 - s)*2 ^ s:=by rw [<-zew,show 32 - s+s=32 by omega]
  have e3:2 ^ (32 - s)*(a / W ^ (k+1)*2 ^ s)=W*(a / W ^ (k+1)):=by
   generalize a / W ^ (k+1)=z;rw [e5];ac_rfl
  rw [e3,Nat.add_comm];exact h.symm
 conv=>lhs;rw [e1,Nat.mul_div_mul_right _ _ hp,<-zdi,e2,zeb _ _ hq]
theorem ja7 {a k:Nat} (h:a < W ^ (k+3)):a / W ^ (k+1)=a / W ^ (k+1)%W+a / W ^ (k+2)%W*2 ^ 32:=by
 have h1:=zdg (a / W ^ (k+1)) W;have e:a / W ^ (k+1) / W=a / W ^ (k+2):=by rw [zdi,<-zcc]
 rw [e] at h1;have h2:a / W ^ (k+2) < W:=zdd (by rwa [zcc] at h);rw [zbx h2,zbz (a / W ^ (k+2))];show _=_+W*_;omega
theorem qh8 {a n s:Nat} (hn:2<=n) (h:a*2 ^ s < W ^ n):a*2 ^ s / W ^ (n - 2) < 18446744073709551616:=by
 refine zdd ?_;have e:W ^ n=W ^ (n - 2)*18446744073709551616:=by
  rw [show (18446744073709551616:Nat)=W ^ 2 by decide,<-zew];congr 1;omega
 rwa [e] at h
theorem qn2 {B u v a b T br x y i d X Y br':Nat} (_hB:0 < B) (h:T+v*(b%B ^ i)+x*B ^ i=u*(a%B ^ i)+y*B ^ i+br*B ^ i) (hX:X=x+u*(a / B ^ i%B)) (hY:Y=y+v*(b / B ^ i%B)) (hd:d+Y%B+br=X%B+B*br'):
  T+B ^ i*d+v*(b%B ^ (i+1))+X / B*B ^ (i+1)=u*(a%B ^ (i+1))+Y / B*B ^ (i+1)+br'*B ^ (i+1):=by
 have h1:=zdg X B;have h2:=zdg Y B;rw [xi1,xi1,zcc];generalize a / B ^ i%B=ai at*
 generalize b / B ^ i%B=bi at*
 generalize B ^ i=P at*
 generalize a%P=al at*
 generalize b%P=bl at*
 generalize X / B=xq at*
 generalize X%B=xr at*
 generalize Y / B=yq at*
 generalize Y%B=yr at*
 grind
theorem zb4 {B u a x i:Nat} (hB:0 < B) (hx:x=u*(a%B ^ i) / B ^ i):(x+u*(a / B ^ i%B)) / B=u*(a%B ^ (i+1)) / B ^ (i+1):=by
 have hp:0 < B ^ i:=zcu hB;rw [zcc,<-zdi,<-zcc,xi1,zct,<-zdf,zbz u (B ^ i),zdf,zeb _ _ hp,<-hx]
theorem zw4 {u a x i:Nat} (hu:u < 4294967296) (hx:x=u*(a%W ^ i) / W ^ i):x < 4294967296:=by
 have hp:0 < W ^ i:=zcu (by decide);rw [hx];refine zdd ?_;have h1:a%W ^ i < W ^ i:=zcd _ hp;have h2:u*(a%W ^ i)<=4294967295*(a%W ^ i):=zbr _ (by omega);omega
theorem jp3 {u v a b n i x y br:Nat} {ws:List Nat} (hi:i < n) (hl:ws.length=n) (hD:Dig W ws) (hx:x=u*(a%W ^ i) / W ^ i) (hy:y=v*(b%W ^ i) / W ^ i)
  (h:val W (ws.take i)+v*(b%W ^ i)+x*W ^ i=u*(a%W ^ i)+y*W ^ i+br*W ^ i) {X Y d br':Nat} (hX:X=x+u*(a / W ^ i%W)) (hY:Y=y+v*(b / W ^ i%W)) (hd:d+Y%W+br=X%W+W*br') (hdW:d < W):
  (ws.set i d).length=n/\Dig W (ws.set i d)/\X / W=u*(a%W ^ (i+1)) / W ^ (i+1)/\Y / W=v*(b%W ^ (i+1)) / W ^ (i+1)/\
   val W ((ws.set i d).take (i+1))+v*(b%W ^ (i+1))+X / W*W ^ (i+1)=u*(a%W ^ (i+1))+Y / W*W ^ (i+1)+br'*W ^ (i+1):=by
 refine ⟨by simpa using hl,hD.set hdW,by rw [hX];exact zb4 (by decide) hx,by rw [hY];exact zb4 (by decide) hy,?_⟩;rw [xg0 (by omega)];exact qn2 (by decide) h hX hY hd
theorem jb0 {u v a b n x y br:Nat} {ws:List Nat} (hl:ws.length=n+1) (hD:Dig W ws) (ha:a < W ^ n) (hb:b < W ^ n) (hu:u < 4294967296) (hv:v < 4294967296) (hx:x=u*(a%W ^ (n+1)) / W ^ (n+1)) (hy:y=v*(b%W ^ (n+1)) / W ^ (n+1))
  (h:val W (ws.take (n+1))+v*(b%W ^ (n+1))+x*W ^ (n+1)=u*(a%W ^ (n+1))+y*W ^ (n+1)+br*W ^ (n+1)) (hle:v*b<=u*a):trimL ws=dig W (u*a - v*b):=by
 have hp:0 < W ^ n:=zcu (by decide);have e:W ^ (n+1)=W ^ n*4294967296:=zcc ..;have l1: ∀c w:Nat,c < W ^ n->w < 4294967296->w*c < W ^ (n+1):=fun c w hc hw=>by
  rw [e,zbz];have h1:c*w<=c*4294967296:=zdh _ (by omega);have h2:c*4294967296 < W ^ n*4294967296:=zei hc (by decide);omega
 have ha1:=l1 a u ha hu;have hb1:=l1 b v hb hv;have ha2:a < W ^ (n+1):=by rw [e];omega
 have hb2:b < W ^ (n+1):=by rw [e];omega
 rw [zbx ha2,zbx hb2,<-hl,zci,hl] at h;rw [zbx ha2,zcv ha1] at hx;rw [zbx hb2,zcv hb1] at hy;subst hx;subst hy;have hz:=xo8 hD;rw [hl] at hz;rw [xe8 xa2 hD]
 congr 1
 rcases zcg br with h0 | h0
 ·subst h0;show val W ws=_;omega
 ·have:W ^ (n+1)<=br*W ^ (n+1):=zfh _ h0;omega
end An
namespace An.S
open Go Go.Proofs An Tryz
instance ti37:TyI Tryz.prog 37 1 false:=⟨by kernel_rfl,by kernel_rfl⟩
instance fi395:FnI Tryz.prog 395:=⟨_,func395,by kernel_rfl,rfl⟩
instance fi402:FnI Tryz.prog 402:=⟨_,func402,by kernel_rfl,rfl⟩
instance fi403:FnI Tryz.prog 403:=⟨_,func403,by kernel_rfl,rfl⟩
theorem ja8 (xs:List Nat):
  CtG Tryz.prog 395 [] [.val (tL 1 false (fun n:Nat=>tE (.int .u32 n)) xs)] (.own (.fn 403 [.ptr 1 0])) [(1,⟨233,1,false,[.val (tL 1 false (fun n:Nat=>tE (.int .u32 n)) xs)]⟩)] [1]:=by
 refine CtG.intro [] func395 rfl ntmps395 rfl rfl trivial ?_;intro w F η;refine A8 ?_;refine R1 (xv6 (ps:=[.ptr 1 0]) rfl) rfl ?_;refine A4 ?_;exact xg3 LentC.mk' rfl rfl Imp.refl qA rfl ⟨⟨rfl,(SupX.lit rfl)⟩,trivial⟩ rfl
theorem jh0 (xs:List Nat) (hx:xs.length<=1000000):
  ItC Tryz.prog 403 [(1,⟨233,1,false,[.val (tL 1 false (fun n:Nat=>tE (.int .u32 n)) xs)]⟩)] [.ptr 1 0] (xs.length) (fun k=>[tE (.int .u32 ((xs.getD (xs.length - 1 - k) 0:Nat):Int))]):=by
 refine ItC.intro (K:=99) [1] func403 rfl ntmps403 rfl rfl ⟨⟨rfl,(SupX.lit rfl)⟩,trivial⟩ rfl ?_;intro w F η l V J Jc hB;refine A9 ?_;refine cL (fun (k:Nat)=>k<=xs.length) (fun (k:Nat)=>uV (uO (uV uN 0 (tE (.func (.yield l) #[] #[]))) 1 (.ptr 1 0)) 3 (tI ((xs.length:Int) - 1 - k))) (fun (k:Nat)=>uK (uK uN 1 233 1 false [.val (tL 1 false (fun n:Nat=>tE (.int .u32 n)) xs)]) 99 (2*k) 1 false []) [1,99] (fun (k:Nat)=>xs.length - k) (0) (zbs _) ?_;intro k hI;refine A7 ?_;refine xa6 rfl (fun h17=> ?_) (fun h17=> ?_)
 ·
  refine A5 ?_;refine xe3 ?_;refine xa5 xa4 qA trivial trivial rfl (xa5 (x7 (0) ti233 rfl rfl) qA qA trivial rfl (xa5 xa4 qA trivial trivial rfl (xa5 (x8 sl233 (xs.length - 1 - k) (by omega) (gN (by omega))) qB trivial trivial rfl (xa5 (xi6 ti284) qA trivial trivial rfl ?_))));refine yz9 (ts:=[tE (.int .u32 ((xs.getD (xs.length - 1 - k) 0:Nat):Int))]) hB (xm9 rfl) rfl rfl qA rfl rfl (by omega) ⟨zao,trivial⟩ ?_ ?_
  ·
   refine xa5 xm4 qA trivial trivial rfl (xd1 ?_);refine A10 ?_;exact kF (k+1) ⟨(by omega),(by omega)⟩
  ·
   refine xa5 xm4 qA trivial trivial rfl (xd1 ?_);refine A7 ?_;exact E_it hB rfl trivial rfl (.inl rfl) rfl (.inr ⟨k,by omega,rfl⟩)
 ·
  refine A4 ?_;exact E_it hB rfl trivial rfl (.inr rfl) rfl (.inl (by omega))
theorem ja4 (xs:List Nat):
  CtG Tryz.prog 264 [] [.val (tL 1 false (fun n:Nat=>tE (.int .u16 n)) xs)] (.own (.fn 325 [.ptr 1 0])) [(1,⟨37,1,false,[.val (tL 1 false (fun n:Nat=>tE (.int .u16 n)) xs)]⟩)] [1]:=by
 refine CtG.intro [] func264 rfl ntmps264 rfl rfl trivial ?_;intro w F η;refine A8 ?_;refine R1 (xv6 (ps:=[.ptr 1 0]) rfl) rfl ?_;refine A4 ?_;exact xg3 LentC.mk' rfl rfl Imp.refl qA rfl ⟨⟨rfl,(SupX.lit rfl)⟩,trivial⟩ rfl
theorem jd8 (xs:List Nat) (hx:xs.length<=1000000):
  ItC Tryz.prog 325 [(1,⟨37,1,false,[.val (tL 1 false (fun n:Nat=>tE (.int .u16 n)) xs)]⟩)] [.ptr 1 0] (xs.length) (fun k=>[tE (.int .u16 ((xs.getD (xs.length - 1 - k) 0:Nat):Int))]):=by
 refine ItC.intro (K:=99) [1] func325 rfl ntmps325 rfl rfl ⟨⟨rfl,(SupX.lit rfl)⟩,trivial⟩ rfl ?_;intro w F η l V J Jc hB;refine A9 ?_;refine cL (fun (k:Nat)=>k<=xs.length) (fun (k:Nat)=>uV (uO (uV uN 0 (tE (.func (.yield l) #[] #[]))) 1 (.ptr 1 0)) 3 (tI ((xs.length:Int) - 1 - k))) (fun (k:Nat)=>uK (uK uN 1 37 1 false [.val (tL 1 false (fun n:Nat=>tE (.int .u16 n)) xs)]) 99 (2*k) 1 false []) [1,99] (fun (k:Nat)=>xs.length - k) (0) (zbs _) ?_;intro k hI;refine A7 ?_;refine xa6 rfl (fun h17=> ?_) (fun h17=> ?_)
 ·
  refine A5 ?_;refine xe3 ?_;refine xa5 xa4 qA trivial trivial rfl (xa5 (x7 (0) ti37 rfl rfl) qA qA trivial rfl (xa5 xa4 qA trivial trivial rfl (xa5 (x8 sl37 (xs.length - 1 - k) (by omega) (gN (by omega))) qB trivial trivial rfl (xa5 (xi6 ti64) qA trivial trivial rfl ?_))));refine yz9 (ts:=[tE (.int .u16 ((xs.getD (xs.length - 1 - k) 0:Nat):Int))]) hB (xm9 rfl) rfl rfl qA rfl rfl (by omega) ⟨zao,trivial⟩ ?_ ?_
  ·
   refine xa5 xm4 qA trivial trivial rfl (xd1 ?_);refine A10 ?_;exact kF (k+1) ⟨(by omega),(by omega)⟩
  ·
   refine xa5 xm4 qA trivial trivial rfl (xd1 ?_);refine A7 ?_;exact E_it hB rfl trivial rfl (.inl rfl) rfl (.inr ⟨k,by omega,rfl⟩)
 ·
  refine A4 ?_;exact E_it hB rfl trivial rfl (.inr rfl) rfl (.inl (by omega))
theorem qs7 (xs:List Nat) (hx:xs.length<=2) (hD:Dig 4294967296 xs):
  Ct Tryz.prog 374 [tWs xs] (tE (.int .u64 ((val 4294967296 xs:Nat):Int))):=by
 refine Ct.intro func374 rfl ntmps374 rfl ?_;intro w F;refine A7 ?_;refine RE (xa3 (k:=3) (n:=1) (agg:=false) zr123.1 zr123.2 rfl) trivial trivial qA ?_;refine A7 ?_;refine RE (xe9 (fun _=>6) (ja8 _) fi395 rfl (krN (ρ:=fun _=>6)) (krC (ρ:=fun _=>6) (k:=1) rfl (krN (ρ:=fun _=>6))) ⟨⟨rfl,(SupX.lit rfl)⟩,trivial⟩ rfl) qA trivial qA ?_;refine A3 ?_;refine yi1 (caps:=[.ptr 1 0]) (κ:=Empty) (zab 1 6) rfl (fun _ h=>h) trivial (jh0 xs (by omega)) fi403 rfl qA rfl rfl (fun _ _=>rfl) (uO uN 3 (.ptr 3 0)) [3] [3] (zan rfl zay) (zak rfl zar) rfl (lkOk rfl) (fun (k:Nat) (_:Unit)=>True) (fun (k:Nat) (_:Unit)=>uK uN 3 123 1 false [.val (tE (.int .u64 ((val 4294967296 (xs.drop (xs.length - k)):Nat):Int)))]) (fun k x=>(zam rfl (supJL rfl) zaz)) (fun k x y hy=>by simp at hy;subst hy;rfl) (fun _ _=>False) (fun i=>i.elim) (fun _ _ h=>h.elim) (()) trivial ((zaq rfl (ImpK.one (Imp.int (by rw [Nat.sub_zero,List.drop_length];rfl)))) zax) ?_ ?_ ?_
 ·
  intro D lp o1 o2 O W lη lb V0 k x hk hI;have hv:=xo8 (hD.drop (xs.length - k));rw [List.length_drop,show xs.length - (xs.length - k)=k by omega] at hv;have hk1:4294967296 ^ k<=4294967296 ^ 1:=Nat.pow_le_pow_right (by decide) (by omega);rw [Nat.pow_one] at hk1;have hw:=hD.getD (by decide) (xs.length - 1 - k);have hst:=xj7 4294967296 xs (xs.length - 1 - k) (by omega);rw [show xs.length - 1 - k+1=xs.length - k by omega,zbz] at hst;apply yi3
  ·
   refine A3 ?_;exact yc6 fun _ _ h=>h
  ·
   refine A3 ?_;refine R2 (xz8 (by decide) (shl32 (by omega))) rfl rfl ?_;refine A1 ?_;refine R1 (x9 zgw (isS zgu) (by first | exact wu64 (by omega) (by omega) | exact mu64)) rfl (R2 (yd9 (or32 (by omega) (by omega))) rfl rfl ?_);refine A3 ?_;exact yu4 (()) trivial ((zaq rfl (ImpK.one (Imp.int (by rw [show xs.length - (k+1)=xs.length - 1 - k by omega,hst])))) zax) (zam rfl (supJL rfl) zaz) (lkOk rfl)
 ·
  intro D hD x hI;refine A9 ?_;exact zw8 (Plain.loop Plain.mk' hD) rfl rfl (zba (by rw [Nat.sub_self];rfl))
 ·
  intro D hD e i;exact i.elim
theorem jh7 (x:Nat) (hx:x < 18446744073709551616):
  Ct Tryz.prog 375 [tE (.int .u64 (x:Int))] (tN x):=by
 refine Ct.intro func375 rfl ntmps375 rfl ?_;intro w F;refine A8 ?_;refine R1 (x9 zgu (isS zgw) cut32) rfl ?_;refine A1 ?_;refine R2 (xj1 (by decide) shr32) rfl rfl (R1 (x9 zgu (isS zgw) (wu32 (by omega) (by omega))) rfl (R2 (xm7 (n:=2) [x%4294967296,x / 4294967296] zgs el284 zf284 rfl rfl rfl) rfl rfl (Rt (x3 (xs2 _) fi335 rfl) qA ?_)));refine A4 ?_;exact E1 rfl rfl (Le.of (by rw [xe8 xa2 (Dig.cons (zcd _ (by decide)) (Dig.cons (by omega) (Dig.nil _))),xk5,xk5,yi6,Nat.mul_zero,zej,Nat.mod_add_div]))
theorem zi4 (xs:List Nat) (j:Int) (i:Nat) (hj:j=(i:Int)) (hxi:xs.getD i 0 < 4294967296):
  CtG Tryz.prog 402 [(3,⟨233,1,false,[.val (tWs xs)]⟩)] [.val (tI j),.own (.ptr 3 0)] (.val (tE (.int .u64 ((xs.getD i 0:Nat):Int)))) [(3,⟨233,1,false,[.val (tWs xs)]⟩)] []:=by
 refine CtG.intro [3] func402 rfl ntmps402 rfl rfl ⟨⟨rfl,(SupX.lit rfl)⟩,trivial⟩ ?_;intro w F η;subst hj;refine A14 ?_;refine xa6 rfl (fun h66=> ?_) (fun h66=> ?_)
 ·
  refine A7 ?_;exact xg3 LentC.mk' rfl rfl (Imp.int (by rw [zbh,zcp (by omega)];rfl)) qA rfl ⟨⟨rfl,(SupX.lit rfl)⟩,trivial⟩ rfl
 ·
  refine A6 ?_;refine R2 (x8 sl233 (i) (by omega) (gN (by omega))) rfl rfl ?_;refine A1 ?_;refine R1 (x9 zgw (isS zgu) (by first | exact wu64 (by omega) (by omega) | exact mu64)) rfl ?_;refine A4 ?_;exact xg3 LentC.mk' rfl rfl Imp.refl qA rfl ⟨⟨rfl,(SupX.lit rfl)⟩,trivial⟩ rfl
theorem qt1 (a n s k:Nat) (hn:n=k+3) (hs:s<=31) (h:a*2 ^ s < 4294967296 ^ n) (hk:k<=1000000):
  Ct Tryz.prog 394 [tN a,tI n,tI s] (tE (.int .u64 ((a*2 ^ s / 4294967296 ^ (k+1):Nat):Int))):=by
 subst hn;have ha:a < 4294967296 ^ (k+3):=zfu (zfy a (zcu (by decide))) h;have w1:=xc1 xa2 a (k+2);have w2:=xc1 xa2 a (k+1);have w3:=xc1 xa2 a k;have l1:=(xc3 xa2 a).getD (by decide) (k+2);have l2:=(xc3 xa2 a).getD (by decide) (k+1);have l3:=(xc3 xa2 a).getD (by decide) k;have htop:=ja7 ha;have heq:a*2 ^ s / 4294967296 ^ (k+1)=a / 4294967296 ^ k%4294967296 / 2 ^ (32 - s)+a / 4294967296 ^ (k+1)*2 ^ s:=jj9 a k s hs;have hlt:a*2 ^ s / 4294967296 ^ (k+1) < 18446744073709551616:=qh8 (n:=k+3) (by omega) h;have hm:((dig 4294967296 a).getD (k+1) 0)+((dig 4294967296 a).getD (k+2) 0)*2 ^ 32=a / 4294967296 ^ (k+1):=by rw [w1,w2];exact htop.symm
 rw [<-w3] at heq;rw [<-hm] at heq;have hlow:((dig 4294967296 a).getD (k) 0) / 2 ^ (32 - s) < 2 ^ s:=zdd (by rw [<-zew,show 32 - s+s=32 by omega];exact l3);have hp0:=zbs (((dig 4294967296 a).getD (k) 0) / 2 ^ (32 - s));refine Ct.intro func394 rfl ntmps394 rfl ?_;intro w F;refine A8 ?_;refine R1 (xv6 (ps:=[.ptr 3 0]) rfl) rfl ?_;refine A8 ?_;refine RE (xw6 (ps:=[.val (tI _)]) (caps:=[.ptr 3 0]) (fun _=>3) (zi4 _ _ (k+2) (by omega) (by omega)) fi402 rfl (krC (ρ:=fun _=>3) (k:=3) rfl (krN (ρ:=fun _=>3))) (krC (ρ:=fun _=>3) (k:=3) rfl (krN (ρ:=fun _=>3))) ⟨⟨rfl,(SupX.lit rfl)⟩,trivial⟩ rfl) qB qA trivial (R2 (xz8 (by decide) (shl32 (by omega))) rfl rfl ?_);refine A3 ?_;refine RE (xw6 (ps:=[.val (tI _)]) (caps:=[.ptr 3 0]) (fun _=>3) (zi4 _ _ (k+1) (by omega) (by omega)) fi402 rfl (krC (ρ:=fun _=>3) (k:=3) rfl (krN (ρ:=fun _=>3))) (krC (ρ:=fun _=>3) (k:=3) rfl (krN (ρ:=fun _=>3))) ⟨⟨rfl,(SupX.lit rfl)⟩,trivial⟩ rfl) qB qA trivial (R2 (yd9 (or32 (by omega) (by omega))) rfl rfl ?_);refine A1 ?_;refine R2 (xz8 (by omega) (shlN64 (s:=s) rfl (by omega) (by omega))) rfl rfl ?_;refine A3 ?_;refine RE (xw6 (ps:=[.val (tI _)]) (caps:=[.ptr 3 0]) (fun _=>3) (zi4 _ _ (k) (by omega) (by omega)) fi402 rfl (krC (ρ:=fun _=>3) (k:=3) rfl (krN (ρ:=fun _=>3))) (krC (ρ:=fun _=>3) (k:=3) rfl (krN (ρ:=fun _=>3))) ⟨⟨rfl,(SupX.lit rfl)⟩,trivial⟩ rfl) qB qA trivial ?_;refine A1 ?_;refine R2 (xf9 (r:=((32 - s:Nat):Int)) (by rw [wr64 (by omega) (by omega)];omega)) rfl rfl (R2 (xj1 (by omega) (shrN (s:=32 - s) rfl (by show 32 - s<=64;omega))) rfl rfl (R2 (yd9 (zi9 _ _ s rfl rfl hlow (wu64 (by omega) (by omega)) (by show _ < 18446744073709551616;omega))) rfl rfl ?_));refine A4 ?_;exact E1 rfl rfl (zba (congrArg _ heq.symm))
theorem xu9 (u a v b:Nat) (hu:u < 4294967296) (hvv:v < 4294967296) (hle:v*b<=u*a) (ha:(dig 4294967296 a).length<=100000) (hb:(dig 4294967296 b).length<=100000):
  Ct Tryz.prog 373 [tE (.int .u64 (u:Int)),tN a,tE (.int .u64 (v:Int)),tN b] (tN (u*a - v*b)):=by
 refine Ct.intro func373 rfl ntmps373 rfl ?_;intro w F;refine A11 ?_;refine R2 d_max2 rfl rfl ?_;refine A1 ?_;refine RE (xe5 (k:=20) (t:=tE (.int .u32 0)) (ts:=rW .u32 (List.replicate ((max (dig 4294967296 a).length (dig 4294967296 b).length+1)) 0)) ((max (dig 4294967296 a).length (dig 4294967296 b).length+1)) ((max (dig 4294967296 a).length (dig 4294967296 b).length+1)) zgs el284 (fun _ _=>rfl) rfl (by omega) (by omega) (zbm _) (by omega) (by omega) (xp5 _)) qB trivial qA ?_;refine A18 ?_;refine A1 ?_;refine cL (fun (fm:(Nat)×(List Nat)×(Nat)×(Nat)×(Nat))=>(fun (i:Nat) (ws:List Nat) (x:Nat) (y:Nat) (br:Nat)=>i<=(max (dig 4294967296 a).length (dig 4294967296 b).length+1)/\ws.length=(max (dig 4294967296 a).length (dig 4294967296 b).length+1)/\Dig 4294967296 ws/\x=u*(a%4294967296 ^ i) / 4294967296 ^ i/\y=v*(b%4294967296 ^ i) / 4294967296 ^ i/\br<=1/\val 4294967296 (ws.take i)+v*(b%4294967296 ^ i)+x*4294967296 ^ i=u*(a%4294967296 ^ i)+y*4294967296 ^ i+br*4294967296 ^ i) fm.1 fm.2.1 fm.2.2.1 fm.2.2.2.1 fm.2.2.2.2) (wE fun (i:Nat) (ws:List Nat) (x:Nat) (y:Nat) (br:Nat)=>uV (uV (uV (uV (uV (uO (uV (uV (uV (uV uN 0 (tE (.int .u64 ((u:Nat):Int)))) 1 (tN a)) 2 (tE (.int .u64 ((v:Nat):Int)))) 3 (tN b)) 9 (.sl 20 1 0 (max (dig 4294967296 a).length (dig 4294967296 b).length+1))) 12 (tE (.int .u32 (br:Int)))) 22 (tI (max (dig 4294967296 a).length (dig 4294967296 b).length+1))) 23 (tI i)) 10 (tE (.int .u64 ((x:Nat):Int)))) 11 (tE (.int .u64 ((y:Nat):Int)))) (wE fun (i:Nat) (ws:List Nat) (x:Nat) (y:Nat) (br:Nat)=>uK uN 20 284 1 false (rW .u32 ws)) [20] (fun (fm:(Nat)×(List Nat)×(Nat)×(Nat)×(Nat))=>(fun (i:Nat) (ws:List Nat) (x:Nat) (y:Nat) (br:Nat)=>(max (dig 4294967296 a).length (dig 4294967296 b).length+1) - i) fm.1 fm.2.1 fm.2.2.1 fm.2.2.2.1 fm.2.2.2.2) ((0,List.replicate (max (dig 4294967296 a).length (dig 4294967296 b).length+1) 0,0,0,0)) (by dsimp only;exact ⟨zbs _,by simp,Dig.rep (by decide) _,by simp [Nat.mod_one],by simp [Nat.mod_one],by omega,by simp [Nat.mod_one,val]⟩) ?_;intro fm hI;obtain ⟨i,ws,x,y,br⟩:=fm;replace hI:i<=(max (dig 4294967296 a).length (dig 4294967296 b).length+1)/\ws.length=(max (dig 4294967296 a).length (dig 4294967296 b).length+1)/\Dig 4294967296 ws/\x=u*(a%4294967296 ^ i) / 4294967296 ^ i/\y=v*(b%4294967296 ^ i) / 4294967296 ^ i/\br<=1/\val 4294967296 (ws.take i)+v*(b%4294967296 ^ i)+x*4294967296 ^ i=u*(a%4294967296 ^ i)+y*4294967296 ^ i+br*4294967296 ^ i:=hI;show wc _ _ _ _ (uV (uV (uV (uV (uV (uO (uV (uV (uV (uV uN 0 (tE (.int .u64 ((u:Nat):Int)))) 1 (tN a)) 2 (tE (.int .u64 ((v:Nat):Int)))) 3 (tN b)) 9 (.sl 20 1 0 (max (dig 4294967296 a).length (dig 4294967296 b).length+1))) 12 (tE (.int .u32 (br:Int)))) 22 (tI (max (dig 4294967296 a).length (dig 4294967296 b).length+1))) 23 (tI i)) 10 (tE (.int .u64 ((x:Nat):Int)))) 11 (tE (.int .u64 ((y:Nat):Int)))) (uK uN 20 284 1 false (rW .u32 ws)) _;obtain ⟨hi,hl,hD,hx,hy,hbr,hv⟩:=hI;refine A6 ?_;refine xa6 rfl (fun h78=> ?_) (fun h78=> ?_)
 ·
  have xW:x < 4294967296:=zw4 hu hx;have yW:y < 4294967296:=zw4 hvv hy;refine A10 ?_;refine xh3 (fun (X:Nat)=>X=x+u*(a / 4294967296 ^ i%4294967296)/\X < 18446744073709551616) (fun (X:Nat)=>uV (uV (uV (uV (uV (uV (uO (uV (uV (uV (uV uN 0 (tE (.int .u64 ((u:Nat):Int)))) 1 (tN a)) 2 (tE (.int .u64 ((v:Nat):Int)))) 3 (tN b)) 9 (.sl 20 1 0 (max (dig 4294967296 a).length (dig 4294967296 b).length+1))) 12 (tE (.int .u32 (br:Int)))) 22 (tI (max (dig 4294967296 a).length (dig 4294967296 b).length+1))) 23 (tI i)) 10 (tE (.int .u64 ((X:Nat):Int)))) 11 (tE (.int .u64 ((y:Nat):Int)))) 13 (tI i)) (fun (X:Nat)=>uK uN 20 284 1 false (rW .u32 ws)) (nm [20]) ?_ ?_
  ·
   refine A8 ?_;refine xa6 rfl (fun h79=> ?_) (fun h79=> ?_)
   ·
    have ai:=xc1 xa2 a i;have ai1:=(xc3 xa2 a).getD (by decide) i;have ua:=yf5 hu ai1;refine A5 ?_;refine R2 (x8 sl233 (i) (by omega) (gN (by omega))) rfl rfl ?_;refine A1 ?_;refine R1 (x9 zgw (isS zgu) (by first | exact wu64 (by omega) (by omega) | exact mu64)) rfl (R2 (xj0 (wmul64 (by omega))) rfl rfl (R2 (xc9 (wadd64 (by omega))) rfl rfl ?_));refine A2 ?_;exact kF ((x+u*(dig 4294967296 a).getD i 0)) ⟨by rw [ai],by omega⟩
   ·
    refine A1 ?_;exact kF (x) ⟨by rw [xn7 xa2 (by omega),Nat.mul_zero,zej],by omega⟩
  ·
   intro X hX;refine xh3 (fun (Y:Nat)=>Y=y+v*(b / 4294967296 ^ i%4294967296)/\Y < 18446744073709551616) (fun (Y:Nat)=>uV (uV (uV (uV (uV (uV (uO (uV (uV (uV (uV uN 0 (tE (.int .u64 ((u:Nat):Int)))) 1 (tN a)) 2 (tE (.int .u64 ((v:Nat):Int)))) 3 (tN b)) 9 (.sl 20 1 0 (max (dig 4294967296 a).length (dig 4294967296 b).length+1))) 12 (tE (.int .u32 (br:Int)))) 22 (tI (max (dig 4294967296 a).length (dig 4294967296 b).length+1))) 23 (tI i)) 10 (tE (.int .u64 ((X:Nat):Int)))) 11 (tE (.int .u64 ((Y:Nat):Int)))) 13 (tI i)) (fun (Y:Nat)=>uK uN 20 284 1 false (rW .u32 ws)) (nm [20]) ?_ ?_
   ·
    refine A8 ?_;refine xa6 rfl (fun h82=> ?_) (fun h82=> ?_)
    ·
     have bi:=xc1 xa2 b i;have bi1:=(xc3 xa2 b).getD (by decide) i;have vb:=yf5 hvv bi1;refine A5 ?_;refine R2 (x8 sl233 (i) (by omega) (gN (by omega))) rfl rfl ?_;refine A1 ?_;refine R1 (x9 zgw (isS zgu) (by first | exact wu64 (by omega) (by omega) | exact mu64)) rfl (R2 (xj0 (wmul64 (by omega))) rfl rfl (R2 (xc9 (wadd64 (by omega))) rfl rfl ?_));refine A2 ?_;exact kF ((y+v*(dig 4294967296 b).getD i 0)) ⟨by rw [bi],by omega⟩
    ·
     refine A1 ?_;exact kF (y) ⟨by rw [xn7 xa2 (by omega),Nat.mul_zero,zej],by omega⟩
   ·
    intro Y hY;refine A5 ?_;refine R1 (x9 zgu (isS zgw) cut32) rfl ?_;refine A1 ?_;refine R1 (x9 zgu (isS zgw) cut32) rfl ?_;refine A1 ?_;refine Rt (x3 (zj0 _ _ _ (zcd _ (by decide)) (zcd _ (by decide)) (by omega)) fi382 rfl) qC ?_;refine A3 ?_;refine R2 (zag sl233 rfl) rfl rfl (RE (xa8 (i) ti284 (xj2 (by omega)) (by omega) (xh1 (m:=_) rfl)) qB qA trivial ?_);refine A6 ?_;refine R2 (xj1 (by decide) shr32) rfl rfl ?_;refine A5 ?_;refine R2 (xj1 (by decide) shr32) rfl rfl ?_;refine A8 ?_;obtain ⟨n1,n2,n3,n4,n5⟩:=jp3 (X:=X) (Y:=Y) (br':=subB (X%4294967296) (Y%4294967296) br) (by omega) hl hD hx hy hv hX.1 hY.1 (zr7 (zcd _ (by decide)) (zcd _ (by decide)) hbr) (zh2 _ _ _);have n6:=qh0 (X%4294967296) (Y%4294967296) br;exact kF ((i+1,ws.set i (subD (X%4294967296) (Y%4294967296) br),X / 4294967296,Y / 4294967296,subB (X%4294967296) (Y%4294967296) br)) ⟨(by dsimp only;exact ⟨by omega,n1,n2,n3,n4,n6,n5⟩),(by dsimp only;omega)⟩
 ·
  refine A7 ?_;refine RE (xi5 (fun _ h=>h) (xk2 hl) hl) qA qA trivial (Rt (x3 (xs2 _) fi335 rfl) qA ?_);refine A4 ?_;have him:i=(max (dig 4294967296 a).length (dig 4294967296 b).length+1):=by omega
  subst him;have hfin:=jb0 hl hD ((xb3 xa2 a _).1 (Nat.le_max_left _ _)) ((xb3 xa2 b _).1 (Nat.le_max_right _ _)) hu hvv hx hy hv hle;exact E1 rfl rfl (Le.of (congrArg tWs hfin))
end An.S
namespace An
def Steps (a b u0 u1 v0 v1:Nat) (e:Bool):Prop:=
 u0 < 4294967296/\u1 < 4294967296/\v0 < 4294967296/\v1 < 4294967296/\
  ∃x y,(e=true->u0*a=v0*b+x/\v1*b=u1*a+y)/\(e=false->v0*b=u0*a+x/\u1*a=v1*b+y)/\y<=x/\x+y<=a/\Nat.gcd x y=Nat.gcd a b
def sg (e:Bool):Int:=if e then -1 else 1
structure Sim (α β a1 a2 u1 v1 u2 v2:Nat) (e:Bool):Prop where
  h1:(a1:Int)=sg e*(u1*α - v1*β)
  h2:(a2:Int)= - (sg e*(u2*α - v2*β))
  det:(u1:Int)*v2 - u2*v1=sg e
  le1:u2<=v2
  le2:u1+u2<=v1+v2
  pos:1<=v2
  ge:a2<=a1
theorem combA {σ u1 v1 u2 v2 A B:Int} (hσ:σ*σ=1) (hd:u1*v2 - u2*v1=σ):v2*(σ*(u1*A - v1*B))+v1*(-(σ*(u2*A - v2*B)))=A:=by grind
theorem combB {σ u1 v1 u2 v2 A B:Int} (hσ:σ*σ=1) (hd:u1*v2 - u2*v1=σ):u2*(σ*(u1*A - v1*B))+u1*(-(σ*(u2*A - v2*B)))=B:=by grind
theorem qj6 (e:Bool):sg e*sg e=1:=by cases e <;> rfl
theorem zu9 (e:Bool):sg (!e)= - sg e:=by cases e <;> rfl
theorem Sim.sumA {α β a1 a2 u1 v1 u2 v2:Nat} {e:Bool} (s:Sim α β a1 a2 u1 v1 u2 v2 e):v2*a1+v1*a2=α:=by
 have h:=qj6 e;have h1:=s.h1;have h2:=s.h2;have hd:=s.det;have:(v2:Int)*a1+v1*a2=α:=by rw [h1,h2];exact combA h hd
 exact_mod_cast this
theorem Sim.sumB {α β a1 a2 u1 v1 u2 v2:Nat} {e:Bool} (s:Sim α β a1 a2 u1 v1 u2 v2 e):u2*a1+u1*a2=β:=by
 have h:=qj6 e;have h1:=s.h1;have h2:=s.h2;have hd:=s.det;have:(u2:Int)*a1+u1*a2=β:=by rw [h1,h2];exact combB h hd
 exact_mod_cast this
theorem Sim.init {α β:Nat} (h:β<=α):Sim α β α β 1 0 0 1 false:=⟨by simp [sg],by simp [sg],by simp [sg],by omega,by omega,by omega,h⟩
theorem Sim.step {α β a1 a2 u1 v1 u2 v2:Nat} {e:Bool} (s:Sim α β a1 a2 u1 v1 u2 v2 e) (hc:v2<=a2):Sim α β a2 (a1%a2) u2 v2 (u1+a1 / a2*u2) (v1+a1 / a2*v2) (!e):=by
 have h0:1<=a2:=by have:=s.pos;omega
 have hq:1<=a1 / a2:=(Nat.le_div_iff_mul_le h0).2 (by have:=s.ge;omega);have hdm:=zdg a1 a2;have hm:((a1%a2:Nat):Int)=a1 - a2*((a1 / a2:Nat):Int):=by
  have:((a2*(a1 / a2)+a1%a2:Nat):Int)=a1:=by rw [hdm]
  rw [Int.natCast_add,zdr] at this;omega
 have h1:=s.h1;have h2:=s.h2;have hd:=s.det;refine ⟨?_,?_,?_,?_,?_,?_,zfv (zcd _ h0)⟩
 ·rw [zu9,h2];generalize sg e=σ at*;grind
 ·rw [hm,zu9];simp only [Int.natCast_add,zdr];generalize sg e=σ at*
  generalize ((a1 / a2:Nat):Int)=q at*
  grind
 ·rw [zu9,<-hd];simp only [Int.natCast_add,zdr];generalize ((a1 / a2:Nat):Int)=q at*
  grind
 ·generalize a1 / a2=q at*
  obtain ⟨p,rfl⟩: ∃p,q=p+1:=⟨q - 1,by omega⟩
  rw [zch,zch];have:=zdh p s.le1;have:=s.le2;omega
 ·generalize a1 / a2=q at*
  obtain ⟨p,rfl⟩: ∃p,q=p+1:=⟨q - 1,by omega⟩
  rw [zch,zch];have:=zdh p s.le1;have:=s.le2;have:=s.le1;omega
 ·have:=Nat.mul_le_mul hq s.pos;omega
theorem Sim.small {α β a1 a2 u1 v1 u2 v2:Nat} {e:Bool} (s:Sim α β a1 a2 u1 v1 u2 v2 e) (hc:v2<=a2) (hα:α < 18446744073709551616) (hβ:β<=α):
  v1+v2 < 18446744073709551616/\u1 < 18446744073709551616/\a1 / a2*u2 < 18446744073709551616/\u1+a1 / a2*u2 < 18446744073709551616/\a1 / a2*v2 < 18446744073709551616/\v1+a1 / a2*v2 < 18446744073709551616:=by
 have hA:=s.sumA;have hB:=s.sumB;have h0:=s.pos;have hge:=s.ge;have k1:v2<=v2*a1:=zfy _ (by omega);have k2:v1<=v1*a2:=zfy _ (by omega);have k3:u1<=u1*a2:=zfy _ (by omega);have k4:a1 / a2*u2<=a1*u2:=zbr _ (Nat.div_le_self _ _);have k5:a1 / a2*v2<=a1*v2:=zbr _ (Nat.div_le_self _ _);rw [zbz a1] at k4 k5;omega
theorem Sim.small32 {α β a1 a2 u1 v1 u2 v2:Nat} {e:Bool} (s:Sim α β a1 a2 u1 v1 u2 v2 e) (hc:v2<=a2) (hα:α < 18446744073709551616):u2 < 4294967296/\v2 < 4294967296:=by
 have hA:=s.sumA;have h0:=s.pos;have hge:=s.ge;have h1:v2*v2<=v2*a1:=zdh _ (by omega);have h2:v2 < 4294967296:=by
  rcases zcs v2 4294967296 with h | h
  ·exact h
  ·have:=Nat.mul_le_mul h h;omega
 have:=s.le1;omega
theorem Sim.whole {a b P:Nat} {α β a1 a2 u1 v1 u2 v2:Nat} {e:Bool} (s:Sim α β a1 a2 u1 v1 u2 v2 e) (hP:0 < P) (hα:a / P=α) (hβ:b / P=β) (hc:v2<=a2) (hd:v1+v2<=a1 - a2):
  ∃x y:Nat,(x:Int)=sg e*(u1*a - v1*b)/\(y:Int)= -(sg e*(u2*a - v2*b))/\y<=x/\v2*x+v1*y=a/\Nat.gcd x y=Nat.gcd a b:=by
 have hσ:=qj6 e;have h1:=s.h1;have h2:=s.h2;have hdet:=s.det;have ha:=zdg a P;have hb:=zdg b P;have ra:=zcd a hP;have rb:=zcd b hP;rw [hα] at ha;rw [hβ] at hb;generalize a%P=ρ at*
 generalize b%P=τ at*
 have ha':(a:Int)=P*α+ρ:=by rw [<-ha];simp
 have hb':(b:Int)=P*β+τ:=by rw [<-hb];simp
 have l1:=s.le1;have l2:=s.le2;have hge:=s.ge;have b1:u2*ρ<=v2*(P - 1):=Nat.mul_le_mul l1 (by omega);have b2:v2*τ<=v2*(P - 1):=zdh _ (by omega);have b3:(u1+u2)*ρ<=(v1+v2)*(P - 1):=Nat.mul_le_mul l2 (by omega);have b4:(v1+v2)*τ<=(v1+v2)*(P - 1):=zdh _ (by omega);have b5:v2*P<=a2*P:=zbr _ hc;have b6:(v1+v2)*P<=(a1 - a2)*P:=zbr _ hd;have b7:v2*(P - 1)<=v2*P:=zdh _ (by omega);have b8:(v1+v2)*(P - 1)<=(v1+v2)*P:=zdh _ (by omega);have c1:((u2*ρ:Nat):Int)<=((a2*P:Nat):Int):=by omega
 have c2:((v2*τ:Nat):Int)<=((a2*P:Nat):Int):=by omega
 have c3:(((u1+u2)*ρ:Nat):Int)<=(((a1 - a2)*P:Nat):Int):=by omega
 have c4:(((v1+v2)*τ:Nat):Int)<=(((a1 - a2)*P:Nat):Int):=by omega
 have p1:(0:Int)<=((u2*ρ:Nat):Int):=by omega
 have p2:(0:Int)<=((v2*τ:Nat):Int):=by omega
 have p3:(0:Int)<=(((u1+u2)*ρ:Nat):Int):=by omega
 have p4:(0:Int)<=(((v1+v2)*τ:Nat):Int):=by omega
 rw [zdr,zdr,] at c1 c2;rw [zdr,zdr,Int.natCast_add,Int.natCast_sub hge] at c3 c4;rw [zdr] at p1 p2;rw [zdr,Int.natCast_add] at p3 p4;have hy:(0:Int)<= -(sg e*(u2*a - v2*b)):=by
  rw [ha',hb'];have e1: -(sg e*((u2:Int)*(P*α+ρ) - v2*(P*β+τ)))=a2*P - sg e*(u2*ρ - v2*τ):=by
   rw [h2];generalize sg e=σ;grind
  rw [e1];cases e with
  | false=>simp only [sg,zep,↓reduceIte];omega
  | true=>simp only [sg,↓reduceIte];omega
 have hxy:(0:Int)<=sg e*(u1*a - v1*b) - -(sg e*(u2*a - v2*b)):=by
  rw [ha',hb'];have e1:sg e*((u1:Int)*(P*α+ρ) - v1*(P*β+τ)) - -(sg e*((u2:Int)*(P*α+ρ) - v2*(P*β+τ)))=(a1 - a2)*P+sg e*((u1+u2)*ρ - (v1+v2)*τ):=by
   rw [h1,h2];generalize sg e=σ;grind
  rw [e1];cases e with
  | false=>simp only [sg,zep,↓reduceIte];omega
  | true=>simp only [sg,↓reduceIte];omega
 obtain ⟨y,hy'⟩:=zff hy;obtain ⟨x,hx'⟩:=zff (show (0:Int)<=sg e*(u1*a - v1*b) by omega);have hle:y<=x:=by omega
 have eA:(v2:Int)*x+v1*y=a:=by
  rw [<-hx',<-hy'];exact combA hσ hdet
 have eB:(u2:Int)*x+u1*y=b:=by
  rw [<-hx',<-hy'];exact combB hσ hdet
 have eA':v2*x+v1*y=a:=by exact_mod_cast eA
 have eB':u2*x+u1*y=b:=by exact_mod_cast eB
 refine ⟨x,y,hx'.symm,hy'.symm,hle,eA',?_⟩;apply Nat.dvd_antisymm
 ·refine Nat.dvd_gcd ?_ ?_
  ·rw [<-eA'];exact Nat.dvd_add (Nat.dvd_mul_left_of_dvd (Nat.gcd_dvd_left x y) _) (Nat.dvd_mul_left_of_dvd (zgp x y) _)
  ·rw [<-eB'];exact Nat.dvd_add (Nat.dvd_mul_left_of_dvd (Nat.gcd_dvd_left x y) _) (Nat.dvd_mul_left_of_dvd (zgp x y) _)
 ·have ga:((Nat.gcd a b:Nat):Int) ∣ (a:Int):=zgg.2 (Nat.gcd_dvd_left a b);have gb:((Nat.gcd a b:Nat):Int) ∣ (b:Int):=zgg.2 (zgp a b);refine Nat.dvd_gcd ?_ ?_
  ·apply zgg.1;have hx2:(x:Int)=sg e*(u1*a - v1*b):=hx'.symm;rw [hx2];exact zfw (Int.dvd_sub (zfw ga) (zfw gb))
  ·apply zgg.1;have hy2:(y:Int)= -(sg e*(u2*a - v2*b)):=hy'.symm;rw [hy2];exact Int.dvd_neg.2 (zfw (Int.dvd_sub (zfw ga) (zfw gb)))
theorem Sim.steps {a b P s:Nat} {α β a1 a2 u1 v1 u2 v2:Nat} {e:Bool} (t:Sim α β a1 a2 u1 v1 u2 v2 e) (hP:0 < P) (hα:a*2 ^ s / P=α) (hβ:b*2 ^ s / P=β) (hc:v2<=a2) (hd:v1+v2<=a1 - a2) (hW:α < 18446744073709551616) (hu1:u1 < 4294967296) (hv1:v1 < 4294967296):
  v1=0∨Steps a b u1 u2 v1 v2 (!e):=by
 rcases zcg v1 with h | h
 ·exact .inl h
 ·refine .inr ?_;obtain ⟨k1,k2⟩:=t.small32 hc hW;obtain ⟨X,Y,hX,hY,hle,hA,hg⟩:=t.whole hP hα hβ hc hd;have h2s:0 < 2 ^ s:=zcu (by omega);have hc2:((2 ^ s:Nat):Int)≠0:=by omega
  have fac: ∀(Z:Nat) (w:Int),(Z:Int)=((2 ^ s:Nat):Int)*w-> ∃z:Nat,(z:Int)=w/\Z=2 ^ s*z:=fun Z w hZ=>by
   have hw:0<=w:=by
    rcases Int.lt_or_le w 0 with h' | h'
    ·have h1:((2 ^ s:Nat):Int)*w < 0:=Int.mul_neg_of_pos_of_neg (by omega) h';omega
    ·exact h'
   obtain ⟨z,hz⟩:=zff hw;refine ⟨z,hz.symm,?_⟩;have:(Z:Int)=((2 ^ s*z:Nat):Int):=by rw [hZ,hz,zdr]
   exact_mod_cast this
  have ea:((a*2 ^ s:Nat):Int)=a*((2 ^ s:Nat):Int):=zdr _ _;have eb:((b*2 ^ s:Nat):Int)=b*((2 ^ s:Nat):Int):=zdr _ _;rw [ea,eb] at hX hY;obtain ⟨x,hx,rfl⟩:=fac X (sg e*(u1*a - v1*b)) (by rw [hX];generalize sg e=σ;generalize ((2 ^ s:Nat):Int)=p;grind);obtain ⟨y,hy,rfl⟩:=fac Y (-(sg e*(u2*a - v2*b))) (by rw [hY];generalize sg e=σ;generalize ((2 ^ s:Nat):Int)=p;grind);refine ⟨hu1,k1,hv1,k2,x,y,fun he=> ?_,fun he=> ?_,Nat.le_of_mul_le_mul_left hle h2s,?_,?_⟩
  ·have he':e=false:=by cases e <;> simp_all
   subst he';simp only [sg,zep,↓reduceIte] at hx hy;have h1:((u1*a:Nat):Int)=((v1*b+x:Nat):Int):=by push_cast;omega
   have h2:((v2*b:Nat):Int)=((u2*a+y:Nat):Int):=by push_cast;omega
   exact ⟨by exact_mod_cast h1,by exact_mod_cast h2⟩
  ·have he':e=true:=by cases e <;> simp_all
   subst he';simp only [sg,↓reduceIte] at hx hy;have h1:((v1*b:Nat):Int)=((u1*a+x:Nat):Int):=by push_cast;omega
   have h2:((u2*a:Nat):Int)=((v2*b+y:Nat):Int):=by push_cast;omega
   exact ⟨by exact_mod_cast h1,by exact_mod_cast h2⟩
  ·have h3:2 ^ s*(v2*x+v1*y)=2 ^ s*a:=by
    rw [zbz (2 ^ s) a,<-hA,zct];ac_rfl
   have h4:=Nat.eq_of_mul_eq_mul_left h2s h3;have h5:x<=v2*x:=zfh _ t.pos;have h6:y<=v1*y:=zfh _ h;omega
  ·rw [Nat.gcd_mul_left,zbz a,zbz b,Nat.gcd_mul_left] at hg;exact Nat.eq_of_mul_eq_mul_left h2s hg
end An
namespace An.S
open Go Go.Proofs An Tryz
instance ti4:TyI Tryz.prog 4 1 false:=⟨by kernel_rfl,by kernel_rfl⟩
instance ti396:TyI Tryz.prog 396 5 true:=⟨by kernel_rfl,by kernel_rfl⟩
instance fo396_0:FoI Tryz.prog 396 0 0:=⟨by kernel_rfl⟩
instance fo396_1:FoI Tryz.prog 396 1 1:=⟨by kernel_rfl⟩
instance fo396_2:FoI Tryz.prog 396 2 2:=⟨by kernel_rfl⟩
instance fo396_3:FoI Tryz.prog 396 3 3:=⟨by kernel_rfl⟩
instance fo396_4:FoI Tryz.prog 396 4 4:=⟨by kernel_rfl⟩
instance fi336:FnI Tryz.prog 336:=⟨_,func336,by kernel_rfl,rfl⟩
instance fi372:FnI Tryz.prog 372:=⟨_,func372,by kernel_rfl,rfl⟩
instance fi373:FnI Tryz.prog 373:=⟨_,func373,by kernel_rfl,rfl⟩
instance fi374:FnI Tryz.prog 374:=⟨_,func374,by kernel_rfl,rfl⟩
instance fi375:FnI Tryz.prog 375:=⟨_,func375,by kernel_rfl,rfl⟩
instance fi394:FnI Tryz.prog 394:=⟨_,func394,by kernel_rfl,rfl⟩
theorem zr396:(Tryz.prog.info? 396).bind (·.zero)=some (.agg #[.int .u64 0,.int .u64 0,.int .u64 0,.int .u64 0,.bool false])/\ ∀F w,(tS [⟨1,false,(tE (.int .u64 0))⟩,⟨1,false,(tE (.int .u64 0))⟩,⟨1,false,(tE (.int .u64 0))⟩,⟨1,false,(tE (.int .u64 0))⟩,⟨1,false,(tE (.bool false))⟩]).p F w (.agg #[.int .u64 0,.int .u64 0,.int .u64 0,.int .u64 0,.bool false]):=⟨by kernel_rfl,fun _ _=>⟨_,rfl,rfl,⟨fun _=>rfl,rfl⟩,⟨fun _=>rfl,rfl⟩,⟨fun _=>rfl,rfl⟩,⟨fun _=>rfl,rfl⟩,⟨fun _=>rfl,rfl⟩,trivial⟩⟩
theorem bu396:BuI Tryz.prog 396 (fun i=>[(0,1),(1,1),(2,1),(3,1),(4,1)][i]?) (.agg #[.int .u64 0,.int .u64 0,.int .u64 0,.int .u64 0,.bool false]):=BuI.struct underlying396 (by kernel_rfl) (by kernel_rfl)
theorem qj9 (a b:Nat) (hab:b<=a) (hla:3<=(dig 4294967296 a).length) (ha:(dig 4294967296 a).length<=100000):
  Ct Tryz.prog 372 [tN a,tN b] (tX (fun y:Nat×Nat×Nat×Nat×Bool=>y.2.2.1=0∨Steps a b y.1 y.2.1 y.2.2.1 y.2.2.2.1 y.2.2.2.2) (fun y=>tS [⟨1,false,tE (.int .u64 ((y.1:Nat):Int))⟩,⟨1,false,tE (.int .u64 ((y.2.1:Nat):Int))⟩,⟨1,false,tE (.int .u64 ((y.2.2.1:Nat):Int))⟩,⟨1,false,tE (.int .u64 ((y.2.2.2.1:Nat):Int))⟩,⟨1,false,tB y.2.2.2.2⟩])):=by
 refine Ct.intro func372 rfl ntmps372 rfl ?_;intro w F;obtain ⟨k,hk⟩: ∃k,(dig 4294967296 a).length=k+3:=⟨(dig 4294967296 a).length - 3,by omega⟩
 have ht:=(xc3 xa2 a).getD (by decide) (k+2);refine A2 ?_;refine RE (xa3 (k:=4) (n:=5) (agg:=true) zr396.1 zr396.2 rfl) trivial trivial qA ?_;refine A14 ?_;refine R2 (x8 sl233 (k+2) (by omega) (gN (by omega))) rfl rfl ?_;refine A1 ?_;refine Rt (x3 (yf4 _ (by omega)) fi378 rfl) qA ?_;refine A8 ?_;generalize hs:32 - Lib.bitLen ((dig 4294967296 a).getD (k+2) 0)=s;obtain ⟨hs31,hAW,_h1,_h2,_h3⟩:=norm (m:=k+1) hk hs;have hBA0:b*2 ^ s<=a*2 ^ s:=zbr _ hab;have hBA:(b*2 ^ s / 4294967296 ^ (k+1))<=(a*2 ^ s / 4294967296 ^ (k+1)):=Nat.div_le_div_right hBA0;have hAL:(a*2 ^ s / 4294967296 ^ (k+1)) < 18446744073709551616:=qh8 (n:=k+3) (by omega) hAW;refine Rt (x3 (qt1 a _ s k hk hs31 (by rw [hk];exact hAW) (by omega)) fi394 rfl) qC ?_;refine A3 ?_;refine Rt (x3 (qt1 b _ s k hk hs31 (by rw [hk];exact zfu hBA0 hAW) (by omega)) fi394 rfl) qC ?_;refine A6 ?_;refine R1 (xb7 (r:=tS [⟨1,false,(tE (.int .u64 0))⟩,⟨1,false,tE (.int .u64 ((1:Nat):Int))⟩,⟨1,false,(tE (.int .u64 0))⟩,⟨1,false,(tE (.int .u64 0))⟩,⟨1,false,(tE (.bool false))⟩]) (ts:=[(1,tE (.int .u64 ((1:Nat):Int)))]) bu396 zr396.2 (Bc 1 rfl rfl rfl zao)) rfl (RE (xa3 (k:=9) (n:=5) (agg:=true) zr396.1 zr396.2 rfl) trivial trivial qA ?_);refine A11 ?_;refine cL (fun (fm:(Nat)×(Nat)×(Nat)×(Nat)×(Nat)×(Nat)×(Nat)×(Nat)×(Bool))=>(fun (a1:Nat) (a2:Nat) (u0:Nat) (u1:Nat) (v0:Nat) (v1:Nat) (u2:Nat) (v2:Nat) (e:Bool)=>Sim (a*2 ^ s / 4294967296 ^ (k+1)) (b*2 ^ s / 4294967296 ^ (k+1)) a1 a2 u1 v1 u2 v2 e/\(v0=0∨Steps a b u0 u1 v0 v1 e)/\u1 < 4294967296/\v1 < 4294967296) fm.1 fm.2.1 fm.2.2.1 fm.2.2.2.1 fm.2.2.2.2.1 fm.2.2.2.2.2.1 fm.2.2.2.2.2.2.1 fm.2.2.2.2.2.2.2.1 fm.2.2.2.2.2.2.2.2) (wI fun (a1:Nat) (a2:Nat) (u0:Nat) (u1:Nat) (v0:Nat) (v1:Nat) (u2:Nat) (v2:Nat) (e:Bool)=>uV (uV (uO (uV (uV (uO uN 4 (.ptr 4 0)) 7 (tE (.int .u64 ((a1:Nat):Int)))) 8 (tE (.int .u64 ((a2:Nat):Int)))) 9 (.ptr 9 0)) 10 (tE (.int .u64 ((u2:Nat):Int)))) 11 (tE (.int .u64 ((v2:Nat):Int)))) (wI fun (a1:Nat) (a2:Nat) (u0:Nat) (u1:Nat) (v0:Nat) (v1:Nat) (u2:Nat) (v2:Nat) (e:Bool)=>uK (uK uN 4 396 5 true [.val (tS [⟨1,false,tE (.int .u64 ((0:Nat):Int))⟩,⟨1,false,tE (.int .u64 ((0:Nat):Int))⟩,⟨1,false,tE (.int .u64 ((0:Nat):Int))⟩,⟨1,false,tE (.int .u64 ((0:Nat):Int))⟩,⟨1,false,tB false⟩])]) 9 396 5 true [.val (tS [⟨1,false,tE (.int .u64 ((u0:Nat):Int))⟩,⟨1,false,tE (.int .u64 ((u1:Nat):Int))⟩,⟨1,false,tE (.int .u64 ((v0:Nat):Int))⟩,⟨1,false,tE (.int .u64 ((v1:Nat):Int))⟩,⟨1,false,tB e⟩])]) [4,9] (fun (fm:(Nat)×(Nat)×(Nat)×(Nat)×(Nat)×(Nat)×(Nat)×(Nat)×(Bool))=>(fun (a1:Nat) (a2:Nat) (u0:Nat) (u1:Nat) (v0:Nat) (v1:Nat) (u2:Nat) (v2:Nat) (e:Bool)=>a2) fm.1 fm.2.1 fm.2.2.1 fm.2.2.2.1 fm.2.2.2.2.1 fm.2.2.2.2.2.1 fm.2.2.2.2.2.2.1 fm.2.2.2.2.2.2.2.1 fm.2.2.2.2.2.2.2.2) (((a*2 ^ s / 4294967296 ^ (k+1)),(b*2 ^ s / 4294967296 ^ (k+1)),0,1,0,0,0,1,false)) (by dsimp only;exact ⟨Sim.init hBA,.inl rfl,by omega,by omega⟩) ?_;intro fm hI;obtain ⟨a1,a2,u0,u1,v0,v1,u2,v2,e⟩:=fm;replace hI:Sim (a*2 ^ s / 4294967296 ^ (k+1)) (b*2 ^ s / 4294967296 ^ (k+1)) a1 a2 u1 v1 u2 v2 e/\(v0=0∨Steps a b u0 u1 v0 v1 e)/\u1 < 4294967296/\v1 < 4294967296:=hI;show wc _ _ _ _ (uV (uV (uO (uV (uV (uO uN 4 (.ptr 4 0)) 7 (tE (.int .u64 ((a1:Nat):Int)))) 8 (tE (.int .u64 ((a2:Nat):Int)))) 9 (.ptr 9 0)) 10 (tE (.int .u64 ((u2:Nat):Int)))) 11 (tE (.int .u64 ((v2:Nat):Int)))) (uK (uK uN 4 396 5 true [.val (tS [⟨1,false,tE (.int .u64 ((0:Nat):Int))⟩,⟨1,false,tE (.int .u64 ((0:Nat):Int))⟩,⟨1,false,tE (.int .u64 ((0:Nat):Int))⟩,⟨1,false,tE (.int .u64 ((0:Nat):Int))⟩,⟨1,false,tB false⟩])]) 9 396 5 true [.val (tS [⟨1,false,tE (.int .u64 ((u0:Nat):Int))⟩,⟨1,false,tE (.int .u64 ((u1:Nat):Int))⟩,⟨1,false,tE (.int .u64 ((v0:Nat):Int))⟩,⟨1,false,tE (.int .u64 ((v1:Nat):Int))⟩,⟨1,false,tB e⟩])]) _;obtain ⟨hS,hR,hu1,hv1⟩:=hI;have hge:=hS.ge;have hpos:=hS.pos;have ha1:a1<=(a*2 ^ s / 4294967296 ^ (k+1)):=by have h:=hS.sumA;have h2:a1<=v2*a1:=zfh _ hpos;omega
 refine A7 ?_;refine RGcaseD (t:=34) rfl (fun h53=> ?_) (fun h53=> ?_)
 ·
  have hc:v2<=a2:=by omega
  refine A2 ?_;refine Rg (zbg h53) rfl (xf9 (wsub64 (by omega) (by omega))) rfl qB ?_;refine A3 ?_;obtain ⟨s1,s2,s3,s4,s5,s6⟩:=hS.small (by omega) hAL hBA;refine Rg (zbg h53) rfl (xc9 (wadd64 (by omega))) rfl qB ?_;refine A4 ?_;refine xa6 rfl (fun h53_2=> ?_) (fun h53_2=> ?_)
  ·
   have hcd:v1+v2<=a1 - a2:=by omega
   refine A7 ?_;refine R2 (xs3 (r:=((a1 / a2:Nat):Int)) (by omega) (wquo64 (by omega))) rfl rfl ?_;refine A2 ?_;refine R2 (xr1 (by omega) wrem64) rfl rfl ?_;refine A18 ?_;refine A3 ?_;refine R2 (xj0 (wmul64 (by omega))) rfl rfl (R2 (xc9 (wadd64 (by omega))) rfl rfl ?_);refine A1 ?_;refine yf8 (0) ti123 rfl rfl rfl rfl (Up.g 0 rfl rfl rfl) rfl rfl ?_;refine A1 ?_;refine yf8 (0) ti123 rfl rfl rfl rfl (Up.g 1 rfl rfl rfl) rfl rfl ?_;refine A12 ?_;refine R2 (xj0 (wmul64 (by omega))) rfl rfl (R2 (xc9 (wadd64 (by omega))) rfl rfl ?_);refine A1 ?_;refine yf8 (0) ti123 rfl rfl rfl rfl (Up.g 2 rfl rfl rfl) rfl rfl ?_;refine A1 ?_;refine yf8 (0) ti123 rfl rfl rfl rfl (Up.g 3 rfl rfl rfl) rfl rfl ?_;refine A8 ?_;refine yf8 (0) ti4 rfl rfl rfl rfl (Up.g 4 rfl rfl rfl) rfl rfl ?_;refine A2 ?_;have hst:=hS.step hc;have hnx:=hS.steps (s:=s) (zcu (by decide)) rfl rfl hc hcd hAL hu1 hv1;obtain ⟨m1,m2⟩:=hS.small32 hc hAL;have hlt:a1%a2 < a2:=zcd _ (by omega);exact kF ((a2,a1%a2,u1,u2,v1,v2,u1+(a1 / a2)*u2,v1+(a1 / a2)*v2,!e)) ⟨(by dsimp only;exact ⟨hst,hnx,m1,m2⟩),(by dsimp only;omega)⟩
  ·
   refine A12 ?_;exact EC rfl ⟨_,_,_,_,_,rfl,rfl,ti396,(fun F w v h=>⟨(u0,u1,v0,v1,e),hR,h⟩)⟩
 ·
  refine A18 ?_;refine A6 ?_;exact EC rfl ⟨_,_,_,_,_,rfl,rfl,ti396,(fun F w v h=>⟨(u0,u1,v0,v1,e),hR,h⟩)⟩
theorem zc3 (a b:Nat) (ha:(dig 4294967296 a).length<=100000) (hb:(dig 4294967296 b).length<=100000):
  Ct Tryz.prog 334 [tN a,tN b] (tN (Nat.gcd a b)):=by
 refine Ct.intro func334 rfl ntmps334 rfl ?_;intro w F;refine A5 ?_;refine xh3 (fun (fm:(Nat)×(Nat))=>(fun (p:Nat) (q:Nat)=>q<=p/\Nat.gcd p q=Nat.gcd a b/\(dig 4294967296 p).length<=100000) fm.1 fm.2) (wB fun (p:Nat) (q:Nat)=>uV (uV uN 0 (tN p)) 1 (tN q)) (wB fun (p:Nat) (q:Nat)=>fun _=>none) (nm []) ?_ ?_
 ·
  refine A4 ?_;refine Rt (x3 (yh4 _ _) fi213 rfl) qB ?_;refine A3 ?_;refine xa6 rfl (fun h10=> ?_) (fun h10=> ?_)
  ·
   refine A6 ?_;exact kF ((b,a)) (by dsimp only;exact ⟨zfv (xw2.1 h10),zgh _ _,hb⟩)
  ·
   refine A1 ?_;exact kF ((a,b)) (by dsimp only;exact ⟨by have:=mt xw2.2 h10;omega,rfl,ha⟩)
 ·
  intro fm hj;obtain ⟨p,q⟩:=fm;replace hj:q<=p/\Nat.gcd p q=Nat.gcd a b/\(dig 4294967296 p).length<=100000:=hj;show wc _ _ _ _ (uV (uV uN 0 (tN p)) 1 (tN q)) (fun _=>none) _;obtain ⟨j1,j2,j3⟩:=hj;refine A2 ?_;refine cL (fun (fm:(Nat)×(Nat))=>(fun (x:Nat) (y:Nat)=>y<=x/\Nat.gcd x y=Nat.gcd a b/\(dig 4294967296 x).length<=100000) fm.1 fm.2) (wB fun (x:Nat) (y:Nat)=>uV (uV uN 0 (tN x)) 1 (tN y)) (wB fun (x:Nat) (y:Nat)=>fun _=>none) [] (fun (fm:(Nat)×(Nat))=>(fun (x:Nat) (y:Nat)=>x+y) fm.1 fm.2) ((p,q)) (by dsimp only;exact ⟨j1,j2,j3⟩) ?_;intro fm hI;obtain ⟨x,y⟩:=fm;replace hI:y<=x/\Nat.gcd x y=Nat.gcd a b/\(dig 4294967296 x).length<=100000:=hI;show wc _ _ _ _ (uV (uV uN 0 (tN x)) 1 (tN y)) (fun _=>none) _;obtain ⟨hle,hg,hl⟩:=hI;have hyx:=xd4 xa2 hle;refine A8 ?_;refine xa6 rfl (fun h13=> ?_) (fun h13=> ?_)
  ·
   have hy0:0 < y:=by
    rcases zcg y with h | h
    ·subst h;rw [xc4] at h13;simp at h13
    ·exact h
   refine A7 ?_;refine R2 (x3 (qj9 x y (by omega) (by omega) (by omega)) fi372 rfl) rfl rfl (RE (xa3 (k:=5) (n:=5) (agg:=true) zr396.1 zr396.2 rfl) trivial trivial qA (RE (xa8 (agg:=true) (es:=5) (0) ti396 rfl rfl rfl) qB qA trivial ?_));refine A3 ?_;refine jo2 (k:=5) rfl ?_;rintro ⟨u0,u1,v0,v1,e⟩ hst;refine xp2 (k:=5) (e':=⟨396,5,true,[.val (tS [⟨1,false,tE (.int .u64 ((u0:Nat):Int))⟩,⟨1,false,tE (.int .u64 ((u1:Nat):Int))⟩,⟨1,false,tE (.int .u64 ((v0:Nat):Int))⟩,⟨1,false,tE (.int .u64 ((v1:Nat):Int))⟩,⟨1,false,tB e⟩])]⟩) rfl rfl ?_;refine A6 ?_;refine xa6 rfl (fun h15=> ?_) (fun h15=> ?_)
   ·
    refine A4 ?_;refine Rt (x3 (yn7 _ _ (by omega) (by omega) (by omega)) fi336 rfl) qB ?_;refine A14 ?_;have hlt:x%y < y:=zcd _ hy0;exact kF ((y,x%y)) ⟨(by dsimp only;exact ⟨by omega,by rw [zgh,<-Nat.gcd_rec,zgh];exact hg,by omega⟩),(by dsimp only;omega)⟩
   ·
    have hst:=hst.resolve_left (by show ¬v0=0;omega);obtain ⟨k1,k2,k3,k4,X,Y,hE,hO,hYX,hsum,hgg⟩:=hst;replace k1:u0 < 4294967296:=k1;replace k2:u1 < 4294967296:=k2;replace k3:v0 < 4294967296:=k3;replace k4:v1 < 4294967296:=k4;refine A6 ?_;refine xc7 rfl (fun h18=> ?_) (fun h18=> ?_)
    ·
     obtain ⟨e1,e2⟩:=hE h18;replace e1:u0*x=v0*y+X:=e1;replace e2:v1*y=u1*x+Y:=e2;refine A7 ?_;refine Rt (x3 (xu9 _ _ _ _ (by omega) (by omega) (by omega) (by omega) (by omega)) fi373 rfl) qD ?_;refine A6 ?_;refine Rt (x3 (xu9 _ _ _ _ (by omega) (by omega) (by omega) (by omega) (by omega)) fi373 rfl) qD ?_;refine A4 ?_;have hXl:=xd4 xa2 (show X<=x by omega);exact kF ((X,Y)) ⟨(by dsimp only;exact ⟨hYX,by rw [hgg];exact hg,by omega⟩),(by dsimp only;omega)⟩ (hg:=(Sub.le rfl (Le.of (by dsimp only;rw [show v1*y - u1*x=Y by omega])) (Sub.le rfl (Le.of (by dsimp only;rw [show u0*x - v0*y=X by omega])) zay)))
    ·
     obtain ⟨e1,e2⟩:=hO h18;replace e1:v0*y=u0*x+X:=e1;replace e2:u1*x=v1*y+Y:=e2;refine A7 ?_;refine Rt (x3 (xu9 _ _ _ _ (by omega) (by omega) (by omega) (by omega) (by omega)) fi373 rfl) qD ?_;refine A6 ?_;refine Rt (x3 (xu9 _ _ _ _ (by omega) (by omega) (by omega) (by omega) (by omega)) fi373 rfl) qD ?_;refine A4 ?_;have hXl:=xd4 xa2 (show X<=x by omega);exact kF ((X,Y)) ⟨(by dsimp only;exact ⟨hYX,by rw [hgg];exact hg,by omega⟩),(by dsimp only;omega)⟩ (hg:=(Sub.le rfl (Le.of (by dsimp only;rw [show u1*x - v1*y=Y by omega])) (Sub.le rfl (Le.of (by dsimp only;rw [show v0*y - u0*x=X by omega])) zay)))
  ·
   refine A13 ?_;refine xa6 rfl (fun h24=> ?_) (fun h24=> ?_)
   ·
    refine A8 ?_;have hy0:y=0:=(xe2 xa2).1 (zco.1 (by omega));subst hy0;exact E1 rfl rfl (Le.of (by rw [<-hg,Nat.gcd_zero_right]))
   ·
    have hy0:0 < y:=by
     rcases zcg y with h | h
     ·subst h;rw [xc4] at h24;simp at h24
     ·exact h
    refine A2 ?_;refine xh3 (fun (fm:(Nat)×(Nat))=>(fun (p2:Nat) (q2:Nat)=>Nat.gcd p2 q2=Nat.gcd a b/\(dig 4294967296 p2).length<=2/\(dig 4294967296 q2).length<=2) fm.1 fm.2) (wB fun (p2:Nat) (q2:Nat)=>uV (uV uN 0 (tN p2)) 1 (tN q2)) (wB fun (p2:Nat) (q2:Nat)=>fun _=>none) (nm []) ?_ ?_
    ·
     refine A7 ?_;refine xa6 rfl (fun h27=> ?_) (fun h27=> ?_)
     ·
      refine A4 ?_;refine Rt (x3 (yn7 _ _ (by omega) (by omega) (by omega)) fi336 rfl) qB ?_;refine A13 ?_;have hlt:x%y < y:=zcd _ hy0;have hml:=xd4 xa2 (zfv hlt);exact kF ((y,x%y)) (by dsimp only;exact ⟨by rw [zgh,<-Nat.gcd_rec,zgh];exact hg,by omega,by omega⟩)
     ·
      refine A1 ?_;exact kF ((x,y)) (by dsimp only;exact ⟨hg,by omega,by omega⟩)
    ·
     intro fm hm;obtain ⟨p2,q2⟩:=fm;replace hm:Nat.gcd p2 q2=Nat.gcd a b/\(dig 4294967296 p2).length<=2/\(dig 4294967296 q2).length<=2:=hm;show wc _ _ _ _ (uV (uV uN 0 (tN p2)) 1 (tN q2)) (fun _=>none) _;obtain ⟨m1,m2,m3⟩:=hm;refine A3 ?_;refine R1 (x3 (qs7 (dig 4294967296 p2) (by omega) (xc3 xa2 _)) fi374 rfl) rfl ?_;refine A1 ?_;refine R1 (x3 (qs7 (dig 4294967296 q2) (by omega) (xc3 xa2 _)) fi374 rfl) rfl ?_;refine A6 ?_;have hp2:=(xb3 xa2 p2 2).1 m2;have hq2:=(xb3 xa2 q2 2).1 m3;refine cL (fun (fm:(Nat)×(Nat))=>(fun (r:Nat) (t:Nat)=>Nat.gcd r t=Nat.gcd a b/\r < 18446744073709551616/\t < 18446744073709551616) fm.1 fm.2) (wB fun (r:Nat) (t:Nat)=>uV (uV uN 10 (tE (.int .u64 ((r:Nat):Int)))) 11 (tE (.int .u64 ((t:Nat):Int)))) (wB fun (r:Nat) (t:Nat)=>fun _=>none) [] (fun (fm:(Nat)×(Nat))=>(fun (r:Nat) (t:Nat)=>t) fm.1 fm.2) ((p2,q2)) (by dsimp only;exact ⟨m1,hp2,hq2⟩) (hg:=(Sub.le rfl (zba (by dsimp only;rw [xk4 xa2])) (Sub.le rfl (zba (by dsimp only;rw [xk4 xa2])) zay))) ?_;intro fm hT;obtain ⟨r,t⟩:=fm;replace hT:Nat.gcd r t=Nat.gcd a b/\r < 18446744073709551616/\t < 18446744073709551616:=hT;show wc _ _ _ _ (uV (uV uN 10 (tE (.int .u64 ((r:Nat):Int)))) 11 (tE (.int .u64 ((t:Nat):Int)))) (fun _=>none) _;obtain ⟨t1,t2,t3⟩:=hT;refine A7 ?_;refine xa6 rfl (fun h32=> ?_) (fun h32=> ?_)
     ·
      refine A7 ?_;refine R2 (xr1 (by omega) wrem64) rfl rfl ?_;refine A4 ?_;have hlt:r%t < t:=zcd _ (by omega);exact kF ((t,r%t)) ⟨(by dsimp only;exact ⟨by rw [zgh,<-Nat.gcd_rec,zgh];exact t1,by omega,by omega⟩),(by dsimp only;omega)⟩
     ·
      refine A8 ?_;refine Rt (x3 (jh7 _ (by omega)) fi375 rfl) qA ?_;refine A4 ?_;exact E1 rfl rfl (Le.of (by rw [<-t1,show t=0 by omega,Nat.gcd_zero_right]))
end An.S
namespace An
open Go
structure Wh where
  neg:Bool
  l:List Nat
deriving DecidableEq
abbrev tWh (x:Wh):Ty:=tS [⟨1,false,tB x.neg⟩,⟨1,false,tLm x.l⟩]
def wh (z:Int):Wh:=⟨decide (z < 0),dig 65536 z.natAbs⟩
def len16 (z:Int):Nat:=(dig 65536 z.natAbs).length
def Wh.valid (x:Wh):Bool:=if x.l.length=0 then !x.neg else decide (x.l.length<=1024) && decide (x.l.getD (x.l.length - 1) 0≠0)
theorem xa0:2<=65536:=by decide
theorem zb5 {l:List Nat} (hD:Dig 65536 l) (ht:Top l) (h:val 65536 l=0):l=[]:=by
 have:=yo8 xa0 hD ht;rw [h,xc4] at this;exact this.symm
theorem Wh.of_valid {x:Wh} (hD:Dig 65536 x.l) (h:x.valid=true): ∃z:Int,x=wh z/\len16 z<=1024:=by
 obtain ⟨neg,l⟩:=x;simp only [Wh.valid] at h;split at h
 ·rename_i h0;have hl:l=[]:=zco.1 h0;subst hl;refine ⟨0,?_,by simp [len16,xc4]⟩;have:neg=false:=by simpa using h
  subst this;simp [wh,xc4]
 ·rename_i h0;simp only [zcf,zee] at h;have ht:Top l:=by
   intro x hx;have h1:l.getD (l.length - 1) 0=x:=by
    rw [zbh,<-List.getLast?_eq_getElem?,hx];rfl
   rw [<-h1];exact h.2
  have hu:=yo8 xa0 hD ht;have hv:val 65536 l≠0:=fun h'=>h0 (by have hl0:l=[]:=zb5 hD ht h';rw [hl0];rfl);refine ⟨if neg then -(val 65536 l:Int) else (val 65536 l:Int),?_,?_⟩
  ·cases neg with
   | true=>
    simp only [wh,↓reduceIte,Int.natAbs_neg,Int.natAbs_natCast];rw [hu];congr 1;simp;omega
   | false=>
    simp only [wh,zep,↓reduceIte,Int.natAbs_natCast];rw [hu];simp
  ·have e:(if neg then -(val 65536 l:Int) else (val 65536 l:Int)).natAbs=val 65536 l:=by cases neg <;> simp
   rw [len16,e,hu];exact h.1
theorem xw3 {z:Int} (h:len16 z<=1024):(wh z).valid=true:=by
 unfold Wh.valid;by_cases h0:(wh z).l.length=0
 ·rw [if_pos h0];have:z.natAbs=0:=(xe2 xa0).1 (zco.1 h0);show (!decide (z < 0))=true;simp;omega
 ·rw [if_neg h0];have h1:(wh z).l.length<=1024:=h;simp only [zcf,zee];refine ⟨h1,?_⟩;have ht:Top (wh z).l:=qd1 xa0 z.natAbs;refine ht _ ?_;rw [List.getLast?_eq_getElem?,zbh];rw [zbk (by omega)];rfl
def sgn (p:Bool) (v:Nat):Int:=if p then -(v:Int) else v
theorem qm1 (p:Bool) (v:Nat):(sgn p v).natAbs=v:=by cases p <;> simp [sgn]
theorem xs1 (p:Bool) (v:Nat):wh (sgn p v)=⟨p && decide (v≠0),dig 65536 v⟩:=by
 simp only [wh,qm1]
 congr 1
 cases p
 ·simp [sgn]
 ·simp only [sgn,↓reduceIte,zec];by_cases h:v=0 <;> simp [h];omega
theorem xv7 (z:Int):sgn (wh z).neg z.natAbs=z:=by
 simp only [sgn,wh];by_cases h:z < 0 <;> simp [h] <;> omega
theorem yj2 {x y:Int} (h:wh x=wh y):x=y:=by
 have h1:dig 65536 x.natAbs=dig 65536 y.natAbs:=congrArg Wh.l h;have h2:(wh x).neg=(wh y).neg:=congrArg Wh.neg h;have h3:x.natAbs=y.natAbs:=by rw [<-xk4 xa0 x.natAbs,h1,xk4 xa0]
 rw [<-xv7 x,<-xv7 y,h2,h3]
theorem pow2k (k:Nat):4294967296 ^ k=65536 ^ (2*k):=by rw [Nat.pow_mul]
theorem len32 (v:Nat):(dig 4294967296 v).length=((dig 65536 v).length+1) / 2:=by
 have h: ∀k,(dig 4294967296 v).length<=k↔(dig 65536 v).length<=2*k:=fun k=>by
  rw [xb3 xa2,xb3 xa0,pow2k]
 have h1:=(h (dig 4294967296 v).length).1 (zbm _);have h2:=(h (((dig 65536 v).length+1) / 2)).2 (by omega);omega
theorem jc5 (v:Nat):dgs 4294967296 (((dig 65536 v).length+1) / 2) (val 65536 (dig 65536 v))=dig 4294967296 v:=by
 rw [xk4 xa0,<-len32,xo4 xa2]
theorem zo4 {v i n:Nat} {ls:List Nat} (hi:i < n) (hl:ls.length=2*n) (ht:ls.take (2*i)=dgs 65536 (2*i) v):
  ((ls.set (2*i) (v / 4294967296 ^ i%4294967296%65536)).set (2*i+1) (v / 4294967296 ^ i%4294967296 / 2 ^ 16)).length=2*n/\
   ((ls.set (2*i) (v / 4294967296 ^ i%4294967296%65536)).set (2*i+1) (v / 4294967296 ^ i%4294967296 / 2 ^ 16)).take (2*(i+1))=dgs 65536 (2*(i+1)) v:=by
 refine ⟨by simpa using hl,?_⟩;rw [show 2*(i+1)=2*i+1+1 by omega,xi8 (by simpa using (by omega:2*i+1 < ls.length)),xi8 (by omega),ht,xj9,xj9,pow2k]
 congr 1
 ·congr 2
  exact Nat.mod_mod_of_dvd _ (by decide)
 ·congr 1
  show v / 65536 ^ (2*i)%4294967296 / 65536=_;rw [zcc 65536 (2*i),<-zdi];have: ∀x:Nat,x%4294967296 / 65536=x / 65536%65536:=fun x=>by omega
  exact this _
theorem za5 {v n:Nat} {ls:List Nat} (hn:(dig 4294967296 v).length=n) (hv:0 < v) (hl:ls.length=2*n) (ht:ls.take (2*n)=dgs 65536 (2*n) v):
  (ls.getD (2*n - 1) 0=0->ls.take (2*n - 1)=dig 65536 v)/\(ls.getD (2*n - 1) 0≠0->ls=dig 65536 v)/\1<=n:=by
 have h32:=len32 v;rw [hn] at h32;have h16:=zh9 xa0 hv;rw [<-hl,zci,hl] at ht;subst ht;have hg:(dgs 65536 (2*n) v).getD (2*n - 1) 0=v / 65536 ^ (2*n - 1)%65536:=xw0 (by omega);refine ⟨fun h=> ?_,fun h=> ?_,by omega⟩
 ·rw [hg] at h;rw [ym8 (by omega)];have h1:v < 65536 ^ (2*n - 1):=by
   have h2:=(xb3 xa0 v (2*n)).1 (by omega);have e:65536 ^ (2*n)=65536 ^ (2*n - 1)*65536:=by rw [<-zcc];congr 1;omega
   rw [e] at h2;have h3:v / 65536 ^ (2*n - 1) < 65536:=zdd h2;rw [zbx h3] at h;exact (Nat.div_eq_zero_iff_lt (zcu (by decide))).1 h
  have h4:=(xb3 xa0 v (2*n - 1)).2 h1;have h5:(dig 65536 v).length=2*n - 1:=by omega
  rw [<-h5,xo4 xa0]
 ·rw [hg] at h;have h4: ¬(dig 65536 v).length<=2*n - 1:=fun h'=>h (by rw [zcv ((xb3 xa0 v _).1 h')]);have h5:(dig 65536 v).length=2*n:=by omega
  rw [<-h5,xo4 xa0]
theorem cut16 {m:Nat}:IntKind.u16.wrap (m:Int)=((m%65536:Nat):Int):=by rw [mu16];omega
end An
namespace An
def resW (z:Int):Wh:=if len16 z<=1024 then wh z else ⟨false,[]⟩
def resE (z:Int):Int:=if len16 z<=1024 then 0 else 3
theorem len32_le {z:Int} {n:Nat} (h:len16 z<=n):(dig 4294967296 z.natAbs).length<=n:=by
 have h1:(dig 65536 z.natAbs).length<=n:=h;rw [len32];omega
theorem zg9 {m n k:Nat} (hm:(dig 4294967296 m).length<=k) (hn:(dig 4294967296 n).length<=k):(dig 4294967296 (m+n)).length<=k+1:=by
 rw [xb3 xa2] at*
 rw [zcc];generalize (4294967296:Nat) ^ k=P at*;omega
theorem jq8 {m n k:Nat} (hm:(dig 4294967296 m).length<=k) (hn:(dig 4294967296 n).length<=k):(dig 4294967296 (m*n)).length<=k+k:=by
 rw [xb3 xa2] at*
 rw [zew];exact Nat.mul_lt_mul'' hm hn
theorem jo6 {m n k:Nat} (hm:(dig 4294967296 m).length<=k) (hn:(dig 4294967296 n).length<=k):(dig 4294967296 (Nat.gcd m n)).length<=k:=by
 rcases zcg m with h | h
 ·subst h;rw [Nat.gcd_zero_left];exact hn
 ·exact zce (xd4 xa2 (Nat.gcd_le_left n h)) hm
theorem qf3 {p:Bool} {m n:Nat}:sgn p (m+n)=sgn p m+sgn p n:=by
 cases p <;> simp only [sgn,zep,↓reduceIte] <;> omega
theorem qd9 {p:Bool} {m n:Nat} (h:n<=m):sgn p (m - n)=sgn p m+sgn (!p) n:=by
 cases p <;> simp only [sgn,zep,↓reduceIte,Bool.not_true,Bool.not_false] <;> omega
theorem qa2 {p:Bool} {m n:Nat} (h:m<=n):sgn (!p) (n - m)=sgn p m+sgn (!p) n:=by
 cases p <;> simp only [sgn,zep,↓reduceIte,Bool.not_true,Bool.not_false] <;> omega
theorem zj9 {x y:Int}:sgn (!((wh x).neg==(wh y).neg)) (x.natAbs*y.natAbs)=x*y:=by
 have hx:=xv7 x;have hy:=xv7 y
 conv=>rhs;rw [<-hx,<-hy]
 generalize (wh x).neg=p;generalize (wh y).neg=q;cases p <;> cases q <;> simp [sgn,Int.mul_neg,Int.neg_mul]
def cmpZ (x y:Int):Int:=if x < y then -1 else if x=y then 0 else 1
theorem qi5 (a b:Nat): -1<=cmpN a b/\cmpN a b<=1:=by
 simp only [cmpN];split
 ·omega
 ·split <;> omega
theorem cmpZ_a {x y:Int} (h:(decide (x < 0)==decide (y < 0))=false) (hx:x < 0):cmpZ x y= -1:=by
 have: ¬y < 0:=by intro hy;simp [hx,hy] at h
 rw [cmpZ,if_pos (by omega)]
theorem cmpZ_b {x y:Int} (h:(decide (x < 0)==decide (y < 0))=false) (hx: ¬x < 0):cmpZ x y=1:=by
 have:y < 0:=by
  rcases Int.lt_or_le y 0 with hy | hy
  ·exact hy
  ·simp [hx,show ¬y < 0 by omega] at h
 rw [cmpZ,if_neg (by omega),if_neg (by omega)]
theorem cmpZ_c {x y:Int} (h:decide (x < 0)=decide (y < 0)) (hx:x < 0):cmpZ x y= - cmpN x.natAbs y.natAbs:=by
 have hy:y < 0:=by rw [zbg hx] at h;exact zdt h.symm
 simp only [cmpZ,cmpN];split
 ·rw [if_neg (by omega),if_neg (by omega)]
 ·split
  ·rw [if_neg (by omega),if_pos (by omega)];rfl
  ·rw [if_pos (by omega)];rfl
theorem cmpZ_d {x y:Int} (h:decide (x < 0)=decide (y < 0)) (hx: ¬x < 0):cmpZ x y=cmpN x.natAbs y.natAbs:=by
 have hy: ¬y < 0:=by rw [zbf hx] at h;exact of_decide_eq_false h.symm
 simp only [cmpZ,cmpN];split
 ·rw [if_pos (by omega)]
 ·split
  ·rw [if_neg (by omega),if_pos (by omega)]
  ·rw [if_neg (by omega),if_neg (by omega)]
end An
